/- slices.IndexFunc, DeleteFunc, Insert at rows. -/
/- Queries: their results on a state, and which changes touch them. -/
import Derived.Test.YtkdgffcfmgmemaaGreatDoorEz
import Derived.Test.YtkdgffcfmgmemaaGreatDoorTr3
import Derived.Test.YtkdgffcfmgmemaaGreatDoorEx31
set_option linter.unusedVariables false
set_option linter.unusedSimpArgs false
namespace Go.Proofs.YtkdgffcfmgmemaaGreatDoor
open Go.Proofs.Tryz
open Go Go.RowKit Gw
set_option maxRecDepth 100000
attribute [local irreducible] Gw.At Gw.Nx Gw.Ops
def PO(pd:AQ→Bool)(rows:List AQ):Int:=(rows.findIdx? pd).elim (-1) fun i=>(i:Int)
theorem jf{pd:AQ→Bool}{rows:List AQ}{i:Nat}{x:AQ}(h:∀(j:Nat) (y:AQ),j<i→rows[j]?=some y→pd y=false)(hx:rows[i]?=some x)(hp:pd x=true):PO pd rows=(i:Int):=by
 obtain ⟨hi,rfl⟩:=tF.1 hx;unfold PO;rw [vD.2 ⟨hi,hp,fun j hj=>by simp [h j _ hj (tC (by omega))]⟩];rfl
theorem jg{pd:AQ→Bool}{rows:List AQ}(h:∀(j:Nat) (y:AQ),j<rows.length→rows[j]?=some y→pd y=false):PO pd rows=-1:=by
 unfold PO;rw [wL.2 fun y hy=>by
  obtain ⟨j,hj⟩:=uU hy;exact h j y (tF.1 hj).1 hj]
 rfl
theorem dm(pd:AQ→Bool)(rows:List AQ):(PO pd rows=-1∧∀y∈rows,pd y=false)∨∃(i:Nat) (x:AQ),PO pd rows=(i:Int)∧rows[i]?=some x∧pd x=true∧∀(j:Nat) (y:AQ),j<i→rows[j]?=some y→pd y=false:=by
 unfold PO;cases h:rows.findIdx? pd with
 |none=>exact .inl ⟨rfl,wL.1 h⟩
 |some i=>
  obtain ⟨h1,h2,h3⟩:=vD.1 h;refine .inr ⟨i,_,rfl,tC h1,h2,fun j y hj hy=>?_⟩;obtain ⟨h4,rfl⟩:=tF.1 hy;simpa using h3 j hj
theorem iU{rs:List AQ}{k:Nat}(hk:k<rs.length)(x:AQ):(Ac rs).take (k*5)++Ac [x]++(Ac rs).drop (k*5+(Ac [x]).length)=Ac (rs.set k x):=by
 rw [show k*5+(Ac [x]).length=(k+1)*5 by rw [BF];simp;omega,DZ,DL,←BZ,←BZ,wh,if_pos hk];simp
theorem We{cur:Array Value}{rs:List AQ}{k:Nat}{x:AQ}(hin:Bz cur 0 (Ac rs))(hx:rs[k]?=some x):k*5+5≤cur.size∧cur.extract (0+k*5) (0+k*5+5)=(Ac [x]).toArray:=by
 have hk:=(tF.1 hx).1;have hs:k*5+5≤cur.size:=by
  have h4:=Kh hx 4 (by decide);have h5:=hin.get (k*5+4) _ (h4.trans (by rfl))
  have:=(uF.1 h5).1;omega
 refine ⟨hs,?_⟩;apply vX.1;apply wC;intro j;rw [uO,wu];split
 · rename_i hj
   have hj5:j<5:=by omega
   have h1:=Kh hx j hj5;obtain ⟨u,hu⟩:∃u,(Ac [x])[j]?=some u:=⟨_,tC (by rw [BF];simpa using hj5)⟩;rw [hu]at h1;have h2:=hin.get _ _ h1
   rw [uJ]at h2;rw [uJ,h2];exact hu.symm
 · rw [uw]
   show(Ac [x]).length≤j;rw [BF];simp only [tQ];omega
theorem VH{α:Type}{xs:List α}{i:Nat}(hi:i<xs.length)(x:α):(xs.set i x).take (i+1)=xs.take i++[x]:=by
 rw [wh,if_pos hi,List.take_append,tK,wG (by omega)];rw [uL (by rw [tK];omega),show i+1 -i=1 by omega];simp
theorem Ky{rows:List AQ}{j:Nat}{x:AQ}(f:AQ→Bool)(hx:rows[j]?=some x):(rows.take (j+1)).filter f=(rows.take j).filter f++(if f x then [x]else []):=by
 rw [Bp hx,ul];congr 1;rw [z8,zM]
theorem MS{rows:List AQ}{f:AQ→Bool}(h:∀(j:Nat) (y:AQ),rows[j]?=some y→f y=true):rows.filter f=rows:=List.filter_eq_self.2 fun y hy=>by
 obtain ⟨j,hj⟩:=uU hy;exact h j y hj
theorem Qt{A B:List AV}{v:Value}{rows:List AQ}(hv:E8 A v rows)(fid:Nat)(us:List Value)(pd:AQ→Bool)(hcf:∀(args:Array Value) (w:World),(callFunc fid args).run Tryz.prog w= .ok (.enter fid args) w)(hf:∀x:AQ,Au Tryz.prog fid (.agg #[I4 x.t,I4 x.k,I4 x.v.a,I4 x.v.b,I4 x.v.c]::us).toArray [B] (.bool (pd x))):Au Tryz.prog 117 #[v,.func (.func fid) #[] us.toArray] [A,B] (I4 (PO pd rows)):=by
 have hml:=mL;obtain ⟨p,cap,rfl,⟨hl,hlc⟩,hg⟩:=id hv;refine Se func117 ntmps117 [0,1] ?_;intro u R;refine Zq<|Zg<|Za Y<|Z0<|Zx<|Zq<|Zq<|Zg<|Zm Y<|Zv (AR underlying45 Y)<|Zm Y<|Z0<|Zx<|AP<|Zb [8,0,1,7] ?_;refine Ay (e0:=[(8,_)]) (fun m e H=>∃(i:Nat),m=rows.length -i∧(i≤rows.length∧∀(j:Nat) (y:AQ),j<i→rows[j]?=some y→pd y=false)∧e=[(8,I4 (i:Int))]∧H=[]) (by exact ⟨0,rfl,⟨tX _,fun j y h=>by omega⟩,rfl,rfl⟩) Wp ?_;rintro _ _ _ ⟨i,rfl,⟨hi,hno⟩,rfl,rfl⟩;refine Zq<|Zg<|Zv (Aq Y Y)<|Z0<|Zx<|Zq ?_;refine Ao Y (fun hlt=>?_) (fun hlt=>?_)
 ·
  obtain ⟨x,hx⟩:∃x,rows[i]?=some x:=⟨_,tC hlt⟩;obtain ⟨g,off,cur,T,zz,rfl,hm9,hsz9,hex9⟩:=hg i x hx;refine AB<|Zx<|Zq<|AP<|Zq<|Zg<|Zm Y<|Za Y<|Z0<|Zx<|Zq<|Zg<|Zm Y<|Zm Y<|Zm Y ?_;refine BM (AZ underlying45 sizeOf113 Y Y (by first|omega|decide|(simp;done))) ?_;refine Cf (cs:=[(g,.cells cur T zz)]) (by simp [hm9]) (Ab (cs:=#[I4 x.t,I4 x.k,I4 x.v.a,I4 x.v.b,I4 x.v.c]) isAgg113 sizeOf113 Y (by omega) hex9) rfl rfl ?_;refine Xr [_] Y (hcf) Y rfl (hf x) ?_;refine Z0<|Zx ?_;refine Ag Y (fun hpx=>?_) (fun hpx=>?_)
  ·
   refine Zq<|Zg<|Zm Y<|Za Y<|Z0<|Zx<|A9<|AY<|Zt<|Zt<|AY<|Zt ?_;refine AC rfl results117 Y (by exact ⟨congrArg (Value.int .i64) (jf hno hx hpx).symm,rfl⟩)
  refine AB<|A8<|Zx<|Zg<|Ya (n:=1) Y Y<|Zm Y<|Z0<|Zn [8,0,1,7] ?_;refine Aa (e':=[(8,_)]) (by exact ⟨i+1,rfl,⟨by omega,fun j y h1 h2=>by rcases uG j i with h9|h9;exact hno j y h9 h2;obtain rfl:j=i:=(by omega);rw [hx]at h2;injection h2 with h2;subst h2;exact hpx⟩,rfl,rfl⟩)
 have ei:i=rows.length:=by omega
 subst ei;refine Ar<|Zt<|Zt<|AO<|Zx<|Zq<|Zg<|Za Y<|Z0<|Zx<|A9 ?_;refine AC rfl results117 Y (by exact ⟨congrArg (Value.int .i64) (jg hno).symm,rfl⟩)
set_option maxHeartbeats 1000000 in
theorem X4{B s:List AV}{v:Value}{rows:List AQ}(hrow:BX 5 113 v rows.length (Ac rows) s)(hn:rows.length≤1000000000)(fid:Nat)(us:List Value)(pd:AQ→Bool)(hcf:∀(args:Array Value) (w:World),(callFunc fid args).run Tryz.prog w= .ok (.enter fid args) w)(hf:∀x:AQ,Au Tryz.prog fid (.agg #[I4 x.t,I4 x.k,I4 x.v.a,I4 x.v.b,I4 x.v.c]::us).toArray [B] (.bool (pd x))):CK Tryz.prog 264 #[v,.func (.func fid) #[] us.toArray] [s,B] (fun r H'=>∃s',BX 5 113 r (rows.filter fun x=>!pd x).length (Ac (rows.filter fun x=>!pd x)) s'∧H'=[s',B]):=by
 have hml:=mL;obtain ⟨p,cap,rfl⟩:=hrow.form;have hU:=Dw hrow (by omega)
 refine Se func264 ntmps264 [0,1] ?_;intro u R;refine Zq<|Zg<|Za Y<|Z0<|Zx<|Zq<|Zg<|Zm Y<|Zm Y<|Xr [_,_] Y call117 Y rfl (Qt hU fid us pd hcf hf) ?_;rcases dm pd rows with⟨e9,hall⟩|⟨k,x0,e9,hx0,hp0,hno⟩
 ·
  rw [e9];refine Za Y<|Z0<|Zx<|Zq<|Zq<|Zg<|Zm Y<|Zv (CE Y Y)<|Z0<|Zx ?_;refine Ao Y (fun h1=>?_) (fun h1=>?_)
  ·
   refine Zq<|Zg<|Zm Y<|Za Y<|Z0<|Zx<|A9<|Zt ?_;refine AC rfl results264 Y (by exact ⟨_,BN hrow (congrArg List.length (MS fun j y hy=>by rw [hall y (tT hy)];rfl).symm) (congrArg Ac (MS fun j y hy=>by rw [hall y (tT hy)];rfl).symm),rfl⟩)
  exact absurd rfl h1
 rw [e9];have hk0:=(tF.1 hx0).1
 obtain ⟨g,cap9,cur,z,hv9,rfl,hle9,hin9⟩:=Dc hrow (by omega);injection hv9 with hv1 hv2 hv3
 subst hv1 hv3;refine Za Y<|Z0<|Zx<|Zq<|Zq<|Zg<|Zm Y<|Zv (CE Y Y)<|Z0<|Zx ?_;refine Ao Y (fun h2=>?_) (fun h2=>?_)
 ·
  exfalso;omega
 refine AB<|Zx<|Zq<|Zq<|Zg<|Zm Y<|Ya (n:=1) Y Y<|Za Y<|Z0<|Zx<|AP<|Zb [5,6,0,1] ?_;refine Ay (e0:=[(5,_),(6,_)]) (fun m e H=>∃(i j:Nat) (W:List AQ) (cur:Array Value),m=rows.length -j∧((i<j∧j≤rows.length)∧W.length=rows.length∧BX 5 113 (I6 g rows.length cap) rows.length (Ac W) [(g,.cells cur 113 z)]∧W.take i=(rows.take j).filter (fun x=>!pd x)∧∀t,j≤t→W[t]?=rows[t]?)∧e=[(5,I4 (i:Int)),(6,I4 (j:Int))]∧H=[[(g,.cells cur 113 z)]]) (by exact ⟨k,k+1,rows,cur,rfl,⟨⟨by omega,by omega⟩,rfl,hrow,by rw [Ky _ hx0,hp0];simp only [wS,vF,if_false,uQ];exact (MS (fun j y hy=>by rw [uY]at hy;split at hy;rw [hno j y (by assumption) hy];rfl;cases hy)).symm,fun t _=>rfl⟩,rfl,rfl⟩) Wp ?_;rintro _ _ _ ⟨i,j,W,cur,rfl,⟨hij,hWl,hrW,hWt,hWr⟩,rfl,rfl⟩;obtain ⟨hinW,hcsW,hleW,hcmW,hfrW⟩:=JD hrW;refine Zq<|Zq<|Zg<|Zm Y<|Zm Y<|Zv (AR underlying45 Y)<|Zv (Aq Y Y)<|Z0<|Zx ?_;refine Ao Y (fun hlt=>?_) (fun hlt=>?_)
 ·
  obtain ⟨x,hx⟩:∃x,rows[j]?=some x:=⟨_,tC hlt⟩;obtain ⟨hsz9,hex9⟩:=We hinW ((hWr j (tO _)).trans hx);refine AB<|Zx<|Zq<|AP<|Zq<|Zg<|Zm Y<|Zm Y ?_;refine BM (AZ underlying45 sizeOf113 Y Y (by first|omega|decide|(simp;done))) ?_;refine Zo Wh (Ab (cs:=#[I4 x.t,I4 x.k,I4 x.v.a,I4 x.v.b,I4 x.v.c]) isAgg113 sizeOf113 Y (by omega) hex9) ?_;refine Ze (Al zeroValue113 #[_,_,_,_,_]) ?_;rintro _ _ ⟨bx,rfl,rfl⟩;refine Xe (Xw sizeOf113 #[I4 x.t,I4 x.k,I4 x.v.a,I4 x.v.b,I4 x.v.c]) ?_;refine Z0<|Zx<|Zq<|Zg<|Zm Y<|Zo Wh (Pa #[_,_,_,_,_] isAgg113 sizeOf113 Y) ?_;refine Xr [_] Y (hcf) Y rfl (hf x) ?_;refine Zv (CV Y)<|Z0<|Zn [0,1,5,6,7,29] ?_;refine Zx ?_;refine Ag Y (fun hpx=>?_) (fun hpx=>?_)
  ·
   have hpx:pd x=false:=by simpa using hpx
   have hrW2:=BN (xs':=Ac (W.set i x)) (EF (i:=0+i*5) (ys:=Ac [x]) hrW (by rw [BF,BF,tQ];omega)) rfl (by rw [uJ];exact iU (by omega) x);refine Zq<|Zg<|Zm Y<|Zm Y<|Zo Wh (Pa #[_,_,_,_,_] isAgg113 sizeOf113 Y) ?_;refine BM (AZ underlying45 sizeOf113 Y Y (by first|omega|decide|(simp;done))) ?_;refine Xe (BO sizeOf113 Y Y (by(simp [Value.oneCell'];done)) Wu (by exact (rfl:_=Ee cur (0+i*5) (Ac [x]))) (by first|rfl|(simp;done)) Wb (by exact hfrW)) ?_;refine Z0<|Zx<|Zg<|Zm Y<|Ya (n:=1) Y Y<|Za Y<|Z0<|A8<|Zx<|Zg<|Zm Y<|Ya (n:=1) Y Y<|Za Y<|Z0<|Zn [5,6,0,1] ?_;refine Aa (e':=[(5,_),(6,_)]) (by exact ⟨i+1,j+1,W.set i x,_,rfl,⟨by omega,by rw [List.length_set];exact hWl,hrW2,by rw [VH (by omega),hWt,Ky _ hx];simp [hpx],fun t ht=>by rw [List.getElem?_set_ne (by omega)];exact hWr t (by omega)⟩,rfl,rfl⟩)
  have hpx:pd x=true:=by simpa using hpx
  refine AB<|A8<|Zx<|Zg<|Zm Y<|Ya (n:=1) Y Y<|Za Y<|Z0<|Zn [5,6,0,1] ?_;refine Aa (e':=[(5,_),(6,_)]) (by exact ⟨i,j+1,W,cur,rfl,⟨by omega,hWl,hrW,by rw [hWt,Ky _ hx];simp [hpx],fun t ht=>hWr t (by omega)⟩,rfl,rfl⟩)
 have ej:j=rows.length:=by omega
 subst ej;rw [uP]at hWt;have hil:(rows.filter fun x=>!pd x).length=i:=by rw [←hWt,tK];omega
 refine Ar<|Zt<|Zt<|AO<|Zx<|Zq<|Zg<|Zm Y<|Zm Y ?_;refine BM (C8 underlying45 sizeOf113 Y Y (by omega)) ?_;refine Ze (Mg underlying45 (rfl:Tryz.prog.info? 113=some Tryz.t113) rfl rfl (by simp [Value.cells,Value.oneCell']) Y (by omega) hcsW hfrW Wo) ?_;rintro _ _ rfl;have hrW3:=Sb (EF (i:=i*5) (ys:=(Builtin.zeroCells (Value.agg #[I4 0,I4 0,I4 0,I4 0,I4 0]).cells (rows.length -i)).toList) hrW (by rw [vk,size_zeroCells,BF];show i*5+(rows.length -i)*5≤_;omega)) i (by omega)
 refine Z0<|Zx<|Zq<|Zg<|Zm Y<|Zm Y ?_;refine BM (Bh underlying45 sizeOf113 Y Y (by omega)) ?_;refine Za Y<|Z0<|Zx<|A9 ?_;refine AC rfl results264 Y (by
  refine ⟨_,BN hrW3 hil.symm ?_,rfl⟩;rw [tN,uj (by rw [tK,BF];omega),DZ,hWt])
theorem jd{A Y D:List Value}{i n:Nat}(hA:A.length=(n+1)*5)(hi:i≤n)(hY:Y.length=5)(hD:D.length=(n -i)*5):(A.take (0+i*5)++Y++A.drop (0+i*5+Y.length)).take (0+(i+1)*5)++D++(A.take (0+i*5)++Y++A.drop (0+i*5+Y.length)).drop (0+(i+1)*5+D.length)=A.take (i*5)++Y++D:=by
 rw [uJ,uJ,uj (by rw [tJ,tK];omega),vG (by simp only [tJ,tK,tL];omega),uQ]
theorem dX{A Y D:List Value}{i n:Nat}(hA:A.length=(n+1)*5)(hi:i≤n)(hY:Y.length=5)(hD:D.length=(n -i)*5):(A.take (0+(i+1)*5)++D++A.drop (0+(i+1)*5+D.length)).take (0+i*5)++Y++(A.take (0+(i+1)*5)++D++A.drop (0+(i+1)*5+D.length)).drop (0+i*5+Y.length)=A.take (i*5)++Y++D:=by
 rw [uJ,uJ,vG (l:=A) (by omega),uQ,vO (by rw [tK];omega),xA,wG (by omega),wZ (by rw [tK];omega)]
theorem VN(rows:List AQ)(i:Nat)(y:AQ):(Ac rows).take (i*5)++Ac [y]++Ac (rows.drop i)=Ac (rows.take i++[y]++rows.drop i):=by
 rw [DZ,BZ,BZ]
theorem RD{c:Array Value}{rows:List AQ}(h:Bz c 0 (Ac rows))(i:Nat)(hi:i≤rows.length):Bz c (0+i*5) (Ac (rows.drop i)):=by
 have h1:=Ia h (i*5) ((rows.length -i)*5) (by rw [BF];omega);rw [DL,uL (by rw [BF,tL];omega)]at h1;exact h1
theorem YY{c:Array Value}{rows:List AQ}(h:Bz c 0 (Ac rows))(i:Nat)(hi:i≤rows.length):Bz c 0 (Ac (rows.take i)):=by
 have h1:=Ia h 0 (i*5) (by rw [BF];omega);rw [wO,DZ]at h1;exact h1
theorem Ud(rows:List AQ)(i:Nat)(hi:i≤rows.length)(y:AQ):(rows.take i++[y]++rows.drop i).length=rows.length+1:=by
 simp only [tJ,tK,tL,tQ];omega
set_option maxHeartbeats 1000000 in
theorem WN{s:List AV}{v:Value}{rows:List AQ}(hrow:BX 5 113 v rows.length (Ac rows) s)(hn:rows.length≤1000000000)(i:Nat)(hi:i≤rows.length)(y:AQ)(g2:Nat):CK Tryz.prog 265 #[v,I4 (i:Int),I6 g2 1 1] [s,[(g2,.cells #[I4 y.t,I4 y.k,I4 y.v.a,I4 y.v.b,I4 y.v.c] 113 (0,0))]] (fun r H'=>∃s' s2,BX 5 113 r (rows.take i++[y]++rows.drop i).length (Ac (rows.take i++[y]++rows.drop i)) s'∧H'=[s',s2,[(g2,.cells #[I4 y.t,I4 y.k,I4 y.v.a,I4 y.v.b,I4 y.v.c] 113 (0,0))]]):=by
 have hml:=mL;obtain ⟨p,cap,rfl⟩:=hrow.form;have hle:=FE hrow
 refine Se func265 ntmps265 [0,1,2] ?_;intro u R;refine Zq<|Zg<|Za Y<|Z0<|Zx<|Zq<|Bd ?_;refine Zg<|Zm Y<|Zm Y ?_;refine BM (C8 underlying45 sizeOf113 Y Y (by omega)) ?_;refine Z0<|Zx<|Zq<|Zg<|Zm Y<|Zv (AR underlying45 Y)<|Za Y<|Z0<|Zx<|Zq<|Zq<|Zg<|Zm Y<|Zv (Bi (n:=0) Y Y)<|Z0<|Zx ?_;refine Ao Y (fun h0=>?_) (fun h0=>?_)
 ·
  cases h0
 refine AB<|Zx<|Zq<|Zg<|Zm Y<|Zv (AR underlying45 Y)<|Za Y<|Z0<|Zx<|Zq<|Zq<|Zg<|Zm Y<|Zm Y<|Zv (Bi Y Y)<|Z0<|Zn [0,1,2,7,8,22] ?_;refine Zx ?_;refine Ao Y (fun hin=>?_) (fun hin=>?_)
 ·
  refine Zq<|Zg<|Zm Y<|Zm Y ?_;refine Ze (BR (by_:=40) (sz:=5) underlying45 (rfl:Tryz.prog.info? 113=some Tryz.t113) rfl rfl rfl rfl Y (hrow) Y (Da 5 g2 1 1 113 (0,0) (Ac [y]) rfl) Wo Wo (by exact CJ _) (by omega) (by omega)) ?_;rintro _ _ ⟨sw5,hrw5,rfl⟩;obtain ⟨gw5,cw5,rfl⟩:=hrw5.form;refine Za Y<|Z0<|Zx<|A9<|Zt ?_;refine AC rfl results265 Y (by
   have hin:i=rows.length:=by omega
   subst hin;exact ⟨_,[],BN hrw5 (Ud rows _ (tO _) y).symm (by rw [uP,zy,uQ,BZ]),rfl⟩)
 obtain ⟨g,cap9,cur,z,hv9,rfl,hle9,hin9⟩:=Dc hrow (by omega);injection hv9 with hv1 hv2 hv3
 subst hv1 hv3;obtain ⟨_,hcs,_,hcm,hfr⟩:=JD hrow;refine AB<|Zx<|Zq<|Zq<|Zg<|Zm Y<|Zm Y<|Ya Y Y<|Zm Y<|Zv (Ot underlying45 Y)<|Zv (DK Y Y)<|Z0<|Zx ?_;refine Ao Y (fun hg=>?_) (fun hg=>?_)
 ·
  refine Zq<|Zg<|Zm Y<|Zm Y ?_;refine BM (Bh underlying45 sizeOf113 Y Y (by omega)) ?_;refine Zm Y<|Zm Y<|Ya Y Y<|Zm Y<|Yb Y Y ?_;refine Ze (KV (by_:=40) (sz:=5) (xs:=Ac (rows.take i)) underlying45 underlying3 (rfl:Tryz.prog.info? 113=some Tryz.t113) rfl rfl rfl rfl Y Y Wh (YY hin9 i hi) (by rw [BF,tK];omega) (by omega) (by decide) (by omega) (by omega) (by omega)) ?_;rintro _ _ ⟨s9,hr9,rfl⟩;rw [show i+(rows.length+1 -i)=rows.length+1 by omega]at hr9;have hAl:=hr9.1
  obtain ⟨g3,cap3,cur3,z3,rfl,rfl,hle3,hin3⟩:=Dc hr9 (by omega);obtain ⟨_,hcs3,_,hcm3,hfr3⟩:=JD hr9;refine Za Y<|Z0<|Zn [0,1,2,7,9] ?_;refine Zx<|Zq<|Zg<|Zm Y<|Zm Y ?_
  (refine BM (Bo underlying45 sizeOf113 Y Y ?_ ?_) ?_;(focus (omega));(focus (omega)))
  refine Zm Y<|Xe (J8 (cs:=Ac [y]) underlying45 sizeOf113 Y Y Wh Wo ((rfl:Bz (#[I4 y.t,I4 y.k,I4 y.v.a,I4 y.v.b,I4 y.v.c]:Array Value) 0 (Ac [y]))) (by rw [BF,tQ];omega) (by rw [BF,tQ];omega) (hfr3) (CJ _)) ?_;refine Z0<|Zx<|Zq<|BJ (n:=9) (0::0::0::6::15::0::0::96::255::[]) 256 (by kernel_rfl) (by kernel_rfl) rfl ?_;refine Zi 1 0 rfl (AJ Y)<|Zi 3 1 rfl (AJ Y)<|Zi 7 2 rfl (AJ Y) ?_;refine Zi 15 3 rfl (Cs Y Y (by omega)) ?_
  (refine EE (D':=31) 4 (Bo underlying45 sizeOf113 Y Y ?_ ?_) ?_;(focus (omega));(focus (omega)))
  refine Zi 63 5 rfl (AJ Y)<|Zi 127 6 rfl (AJ Y) ?_
  (refine EE (D':=255) 7 (Bo underlying45 sizeOf113 Y Y ?_ ?_) ?_;(focus (omega));(focus (omega)))
  refine Yw 8 511 rfl (J8 (cs:=Ac (rows.drop i)) underlying45 sizeOf113 Y Y Wh Wo (RD hin9 i hi) (by rw [BF,tL];omega) (by rw [BF,tL,Fh (by rw [BF,tQ];omega)];omega) (by rw [Fh (by rw [BF,tQ];omega)];exact hfr3) (CJ _)) ?_;rintro _ _ ⟨rfl,rfl⟩;refine Am ?_;refine Zn [9] ?_;refine Zx<|Zq<|Zg<|Zm Y<|Za Y<|Z0<|Zx<|A9<|Zt ?_;refine AC rfl results265 Y (by
   refine ⟨_,[(g,.cells cur 113 z)],BN (EF (i:=0+(i+1)*5) (ys:=Ac (rows.drop i)) (EF (i:=0+i*5) (ys:=Ac [y]) hr9 (by rw [hAl,BF,tQ];omega)) ?_) (Ud rows i hi y).symm ?_,rfl⟩
   · simp only [tJ,tK,tL,hAl,BF,tQ];omega
   · rw [jd hAl hi (by rw [BF];rfl) (by rw [BF,tL]),uj (by rw [BF,tK];omega),←DZ,VN])
 refine AB<|Zx<|Zq ?_;obtain ⟨ys9,hyl9,hrM⟩:=Sa hrow (rows.length+1) (by omega) (by omega);have hAl:=hrM.1
 refine Zg<|Zm Y<|Zm Y<|Zm Y<|Ya Y Y ?_;refine BM (Bh underlying45 sizeOf113 Y Y (by omega)) ?_;refine Za Y<|Z0<|Zx<|Zq<|Zq ?_;refine oO (s1:=[(g2,_)]) (s2:=[(g,_)]) (a:=g2) (b:=g) Wo Wo (tY.2 rfl) (tY.2 rfl) (fun hne9=>?_);refine Zg<|Zm Y<|Zm Y<|Zm Y<|Zm Y<|Ya Y Y ?_
 (refine BM (Bo underlying45 sizeOf113 Y Y ?_ ?_) ?_;(focus (omega));(focus (omega)))
 refine Cf (cs:=[(g2,.cells #[I4 y.t,I4 y.k,I4 y.v.a,I4 y.v.b,I4 y.v.c] 113 (0,0)),(g,.cells cur 113 z)]) (by simp) (QY (tR:=4) func296 (by kernel_rfl) (by kernel_rfl) (by kernel_rfl) (by kernel_rfl) underlying45 sizeOf113 Y hne9 (by omega)) rfl rfl ?_;refine Zv (CV Y)<|Z0<|Zn [0,1,2,7,8,68] ?_;refine Zx ?_;refine Ag Y (fun hb9=>?_) (fun hb9=>?_)
 ·
  refine Zq<|BJ (n:=9) (0::0::0::6::15::0::0::96::255::[]) 256 (by kernel_rfl) (by kernel_rfl) rfl ?_;refine Zi 1 0 rfl (AJ Y)<|Zi 3 1 rfl (AJ Y)<|Zi 7 2 rfl (AJ Y) ?_;refine Zi 15 3 rfl (Cs Y Y (by omega)) ?_
  (refine EE (D':=31) 4 (Bo underlying45 sizeOf113 Y Y ?_ ?_) ?_;(focus (omega));(focus (omega)))
  refine Zi 63 5 rfl (AJ Y)<|Zi 127 6 rfl (AJ Y) ?_
  (refine EE (D':=255) 7 (Bo underlying45 sizeOf113 Y Y ?_ ?_) ?_;(focus (omega));(focus (omega)))
  refine Yw 8 511 rfl (J8 (cs:=Ac (rows.drop i)) underlying45 sizeOf113 Y Y Wh Wo (RD hin9 i hi) (by rw [BF,tL];omega) (by rw [BF,tL];omega) (hfr) (CJ _)) ?_;rintro _ _ ⟨rfl,rfl⟩;refine Am ?_;refine Zx<|Zq<|Zg<|Zm Y<|Zm Y ?_
  (refine BM (Bo underlying45 sizeOf113 Y Y ?_ ?_) ?_;(focus (omega));(focus (omega)))
  refine Zm Y<|Xe (J8 (cs:=Ac [y]) underlying45 sizeOf113 Y Y Wh Wo ((rfl:Bz (#[I4 y.t,I4 y.k,I4 y.v.a,I4 y.v.b,I4 y.v.c]:Array Value) 0 (Ac [y]))) (by rw [BF,tQ];omega) (by rw [BF,tQ,Fh (by rw [BF,tL];omega)];omega) (by rw [Fh (by rw [BF,tL];omega)];exact hfr) (CJ _)) ?_;refine Z0<|Zn [0] ?_;refine Zx<|Zq<|Zg<|Zm Y<|Za Y<|Z0<|Zx<|A9<|Zt ?_;refine AC rfl results265 Y (by
   refine ⟨_,[],BN (EF (i:=0+i*5) (ys:=Ac [y]) (EF (i:=0+(i+1)*5) (ys:=Ac (rows.drop i)) hrM (by rw [hAl,BF,tL];omega)) ?_) (Ud rows i hi y).symm ?_,rfl⟩
   · simp only [tJ,tK,tL,BF,hyl9,tQ];omega
   · rw [dX hAl hi (by rw [BF];rfl) (by rw [BF,tL]),vO (by rw [BF];omega),VN])
 cases hb9
structure QM where
 kd:Int
 tb:Int
 cl:Int
 lo:Int
 hi:Int
 bq:Int
 ot:Int
deriving DecidableEq
structure CO where
 rows:List AQ
 val:Int
 fnd:Bool
deriving DecidableEq
def inQ(q:QM)(r:AQ):Bool:=decide (r.t=q.tb∧q.lo≤Be r q.cl∧Be r q.cl≤q.hi)
def BP(q:QM):Prop:=(0≤q.tb∧q.tb≤3)∧(0≤q.cl∧q.cl≤3)∧(-1000000000≤q.lo∧q.lo≤q.hi∧q.hi≤1000000000)∧
 ((q.kd=1∧q.cl=0∧q.lo=q.hi∧(1≤q.lo∧q.lo≤1000000)∧q.bq=0∧q.ot=0)∨((q.kd=2∨q.kd=3)∧q.bq=0∧q.ot=0)∨
  ((q.kd=4∨q.kd=5∨q.kd=6)∧(1≤q.bq∧q.bq≤3)∧q.ot=0)∨(q.kd=7∧(1≤q.bq∧q.bq≤3)∧(0≤q.ot∧q.ot≤3)))
instance(q:QM):Decidable (BP q):=by unfold BP;infer_instance
def CO.none:CO:=⟨[],0,false⟩
def Ka(ms:List Int):Int:=ms.foldl (·+·) 0
def EM(lt:Int→Int→Bool)(ms:List Int):CO:=ms.foldl (fun r n=>⟨r.rows,if !r.fnd||lt n r.val then n else r.val,true⟩) CO.none
def DV(q:QM)(others:List AQ)(k:Int):Option AQ:=others.find? (fun x=>decide (x.t=q.ot∧x.k=k))
def IK(q:QM)(others:List AQ)(r:AQ):List AQ:=match DV q others (Be r q.bq)with
 |some x=>[r,x]
 |none=>[]
def IM(q:QM)(rows others:List AQ):List AQ:=rows.flatMap (IK q others)
def Co(q:QM)(rows:List AQ):List Int:=rows.map fun r=>Be r q.bq
def FI(q:QM)(rows others:List AQ):CO:=
 if q.kd=3 then⟨[],rows.length,false⟩else if q.kd=4 then⟨[],Ka (Co q rows),false⟩
 else if q.kd=5 then EM (fun a b=>decide (a<b)) (Co q rows)else if q.kd=6 then EM (fun a b=>decide (b<a)) (Co q rows)
 else if q.kd=7 then⟨IM q rows others,0,false⟩else⟨rows,0,false⟩
def Ca(rs:List AQ)(q:QM):List AQ:=Ck rs q.tb q.cl.toNat q.lo q.hi
def Dh(rs:List AQ)(q:QM):CO:=FI q (Ca rs q) (I9 rs q.ot)
def dE(c:Chg):List AQ:=if c.had then [⟨c.t,c.k,c.o⟩]else []
def Hq(q:QM)(b:Bool)(r:AQ):Option AQ:=if b&&inQ q r then some r else none
def bfQ(q:QM)(c:Chg):Option AQ:=Hq q c.had ⟨c.t,c.k,c.o⟩
def afQ(q:QM)(c:Chg):Option AQ:=Hq q c.has ⟨c.t,c.k,c.n⟩
def mQ(q:QM):Option AQ→Int
 |some r=>Be r q.bq
 |none=>0
def Uu(q:QM)(c:Chg):Bool:=(bfQ q c).isSome||(afQ q c).isSome
def W9(q:QM)(c:Chg):Bool:=(bfQ q c).isSome !=(afQ q c).isSome
def Dr(q:QM)(c:Chg):Bool:=
 if q.kd=1∨q.kd=2 then Uu q c else if q.kd=3 then W9 q c else if q.kd=4 then decide (mQ q (bfQ q c)≠mQ q (afQ q c))
 else if q.kd=5∨q.kd=6 then W9 q c||decide (mQ q (bfQ q c)≠mQ q (afQ q c))else Uu q c||decide (c.t=q.ot)
theorem O3{rs:List AQ}{c:Chg}(hf:Fa rs c):∃A B,rs=A++dE c++B∧EG rs c=A++MJ c++B:=by
 refine ⟨rs.take (Dl rs c.t c.k),(rs.drop (Dl rs c.t c.k)).drop (if c.had then 1 else 0),?_,rfl⟩;unfold dE;cases hh:c.had with
 |false=>simp
 |true=>
  have h1:(FY rs c.t c.k).2=true:=by rw [hf.1,hh]
  obtain ⟨r,hr,hi,hp,he⟩:=J3 h1;have hv:=hf.2 h1
  rw [he]at hv;have e:r=⟨c.t,c.k,c.o⟩:=by
   obtain ⟨t,k,v⟩:=r;obtain ⟨h5,h6⟩:=hi;simp only at h5 h6 hv;subst h5 h6 hv;rfl
  rw [e]at hp;obtain ⟨hk,hp2⟩:=tF.1 hp;simp only [if_true,tN];conv=>lhs;rw [←uW (Dl rs c.t c.k) rs,vK hk,hp2]
  rw [uT,vK hk];rfl
theorem oJ{q:QM}(h:BP q)(r:AQ):inR q.tb q.cl.toNat q.lo q.hi r=inQ q r:=by
 have hc:=h.2.1;have:=M7 r q.cl.toNat (by omega)
 rw [show((q.cl.toNat:Nat):Int)=q.cl by omega]at this;unfold inR inQ;rw [this]
theorem Ob{q:QM}(h:BP q)(rs:List AQ):Ca rs q=(rs.filter (inQ q)).foldl (Rk q.cl.toNat) []:=by
 unfold Ca Ck;rw [yh fun r _=>oJ h r]
theorem Gf{q:QM}(h:BP q)(rs:List AQ):(Ca rs q).Perm (rs.filter (inQ q)):=by
 have:=EO rs q.tb q.cl.toNat q.lo q.hi;rwa [yh fun r _=>oJ h r]at this
theorem Qg(q:QM)(c:Chg):(dE c).filter (inQ q)=(bfQ q c).toList:=by
 unfold dE bfQ Hq;cases c.had with
 |false=>rfl
 |true=>simp only [if_true,xU,z8,zM];split<;>rfl
theorem Qk(q:QM)(c:Chg):(MJ c).filter (inQ q)=(afQ q c).toList:=by
 unfold MJ afQ Hq;cases c.has with
 |false=>rfl
 |true=>simp only [if_true,xU,z8,zM];split<;>rfl
def JR:List Int→Int
 |[]=>0
 |x::l=>x+JR l
theorem Le(l:List Int):∀a,l.foldl (·+·) a=a+JR l:=by
 induction l with
 |nil=>intro a;simp [JR]
 |cons x l ih=>intro a;rw [xC,ih];simp only [JR];omega
theorem VC(a b:List Int):JR (a++b)=JR a+JR b:=by
 induction a with
 |nil=>simp [JR]
 |cons x a ih=>simp only [wH,JR,ih];omega
theorem LM{a b:List Int}(h:a.Perm b):JR a=JR b:=by
 induction h with
 |nil=>rfl
 |cons x _ ih=>simp only [JR,ih]
 |swap x y l=>simp only [JR];omega
 |trans _ _ ih1 ih2=>exact ih1.trans ih2
theorem nS(lt:Int→Int→Bool)(hlt:∀a b c,lt b a=false→lt c b=false→lt c a=false)(hirr:∀a,lt a a=false)(hasy:∀a b,lt a b=true→lt b a=false)(l:List Int):∀(m:Int),∃x,(x=m∨x∈l)∧lt m x=false∧(∀y∈l,lt y x=false)∧l.foldl (fun(r:CO) n=>(⟨r.rows,if !r.fnd||lt n r.val then n else r.val,true⟩:CO)) ⟨[],m,true⟩=⟨[],x,true⟩:=by
 induction l with
 |nil=>intro m;exact ⟨m,.inl rfl,hirr m,by simp,rfl⟩
 |cons z l ih=>
  intro m;rw [xC];cases hz:lt z m with
  |true=>
   obtain ⟨x,h1,h2,h3,h4⟩:=ih z;simp only [wS,zZ,hz,if_true];refine ⟨x,.inr (by rcases h1 with h|h;rw [h];simp;exact uf _ h),hlt x z m h2 (hasy z m hz),fun y hy=>?_,h4⟩;rcases uH.1 hy with rfl|hy
   · exact h2
   · exact h3 y hy
  |false=>
   obtain ⟨x,h1,h2,h3,h4⟩:=ih m;simp only [wS,zZ,hz,vF,if_false];refine ⟨x,by rcases h1 with h|h;exact .inl h;exact .inr (uf _ h),h2,fun y hy=>?_,h4⟩;rcases uH.1 hy with rfl|hy
   · exact hlt x m y h2 hz
   · exact h3 y hy
theorem Jp(lt:Int→Int→Bool)(hlt:∀a b c,lt b a=false→lt c b=false→lt c a=false)(hirr:∀a,lt a a=false)(hasy:∀a b,lt a b=true→lt b a=false)(z:Int)(l:List Int):∃x∈z::l,(∀y∈z::l,lt y x=false)∧EM lt (z::l)=⟨[],x,true⟩:=by
 obtain ⟨x,h1,h2,h3,h4⟩:=nS lt hlt hirr hasy l z;refine ⟨x,by rcases h1 with h|h;rw [h];simp;exact uf _ h,fun y hy=>?_,?_⟩
 · rcases uH.1 hy with rfl|hy
   · exact h2
   · exact h3 y hy
 · unfold EM
   rw [xC];exact h4
theorem NR(lt:Int→Int→Bool)(hlt:∀a b c,lt b a=false→lt c b=false→lt c a=false)(hirr:∀a,lt a a=false)(hasy:∀a b,lt a b=true→lt b a=false)(htot:∀a b,lt a b=false→lt b a=false→a=b){l l':List Int}(h:∀y,y∈l↔y∈l'):EM lt l=EM lt l':=by
 match l,l',h with
 |[],[],_=>rfl
 |[],y::l',h=>have:=(h y).2 (by simp);cases this
 |y::l,[],h=>have:=(h y).1 (by simp);cases this
 |y::l,y'::l',h=>
  obtain ⟨x,a1,a2,a3⟩:=Jp lt hlt hirr hasy y l;obtain ⟨x',b1,b2,b3⟩:=Jp lt hlt hirr hasy y' l';rw [a3,b3,htot x x' (b2 x ((h x).1 a1)) (a2 x' ((h x').2 b1))]
theorem Z7{rs:List AQ}{c:Chg}(hf:Fa rs c){t:Int}(h:c.t≠t):I9 (EG rs c) t=I9 rs t:=by
 obtain ⟨A,B,e1,e2⟩:=O3 hf;have z1:(dE c).filter (inT t)=[]:=by
  unfold dE;split
  · simp [inT,h]
  · rfl
 have z2:(MJ c).filter (inT t)=[]:=by
  unfold MJ;split
  · simp [inT,h]
  · rfl
 unfold I9;rw [e2];conv=>rhs;rw [e1]
 simp only [ul,z1,z2,uQ]
theorem Ph{o:Option AQ}(h:o.isSome=false):o.toList=[]:=by
 cases o with
 |none=>rfl
 |some x=>cases h
theorem kP{rs:List AQ}{c:Chg}{q:QM}(hq:BP q)(hf:Fa rs c)(h:Dr q c=false):Dh (EG rs c) q=Dh rs q:=by
 obtain ⟨A,B,e1,e2⟩:=O3 hf;have f1:rs.filter (inQ q)=A.filter (inQ q)++(bfQ q c).toList++B.filter (inQ q):=by
  conv=>lhs;rw [e1]
  rw [ul,ul,Qg]
 have f2:(EG rs c).filter (inQ q)=A.filter (inQ q)++(afQ q c).toList++B.filter (inQ q):=by
  rw [e2,ul,ul,Qk]
 have p1:=Gf hq rs;have p2:=Gf hq (EG rs c)
 rw [f1]at p1;rw [f2]at p2;have same:(bfQ q c).isSome=false→(afQ q c).isSome=false→Ca (EG rs c) q=Ca rs q:=fun h1 h2=>by
  rw [Ob hq,Ob hq,f1,f2,Ph h1,Ph h2]
 unfold Dr at h;unfold Dh FI;split at h
 · rename_i hk
   unfold Uu at h;rw [yH]at h;rw [same h.1 h.2,if_neg (by omega),if_neg (by omega),if_neg (by omega),if_neg (by omega),if_neg (by omega),if_neg (by omega),if_neg (by omega),if_neg (by omega),if_neg (by omega),if_neg (by omega)]
 · split at h
   · rename_i hk
     rw [if_pos hk,if_pos hk];have hl:(Ca (EG rs c) q).length=(Ca rs q).length:=by
      rw [p1.length_eq,p2.length_eq];simp only [tJ];unfold W9 at h;cases hb:bfQ q c<;>cases ha:afQ q c<;>simp [hb,ha]at h⊢
     rw [hl]
   · split at h
     · rename_i hk3 hk
       rw [if_neg hk3,if_neg hk3,if_pos hk,if_pos hk];have hs:Ka (Co q (Ca (EG rs c) q))=Ka (Co q (Ca rs q)):=by
        unfold Ka Co;rw [Le,Le,LM (p1.map _),LM (p2.map _)];simp only [uI,VC];have hm:=of_decide_eq_false h
        have key:∀o:Option AQ,JR (o.toList.map fun r=>Be r q.bq)=mQ q o:=fun o=>by
         cases o with
         |none=>rfl
         |some x=>simp [JR,mQ]
        rw [key,key];omega
       rw [hs]
     · split at h
       · rename_i hk3 hk4 hk
         rw [yH]at h;have hm:=of_decide_eq_false h.2
         have hone:=h.1;have hmem:∀y,y∈Co q (Ca (EG rs c) q)↔y∈Co q (Ca rs q):=fun y=>by
          unfold Co;rw [(p1.map _).mem_iff,(p2.map _).mem_iff];unfold W9 at hone;cases hb:bfQ q c<;>cases ha:afQ q c<;>simp [hb,ha]at hone⊢
          simp [hb,ha,mQ]at hm;rw [hm]
         rw [if_neg hk3,if_neg hk3,if_neg hk4,if_neg hk4];rcases hk with hk|hk
         · rw [if_pos hk,if_pos hk]
           exact NR _ (by intro a b c;simp;omega) (by intro a;simp) (by intro a b;simp;omega) (by intro a b;simp;omega) hmem
         · rw [if_neg (show¬q.kd=5 by omega),if_neg (show¬q.kd=5 by omega),if_pos hk,if_pos hk]
           exact NR _ (by intro a b c;simp;omega) (by intro a;simp) (by intro a b;simp;omega) (by intro a b;simp;omega) hmem
       · rw [yH]at h
         have ha:=h.1;unfold Uu at ha;rw [yH]at ha;rw [same ha.1 ha.2,Z7 hf (of_decide_eq_false h.2)]
end Go.Proofs.YtkdgffcfmgmemaaGreatDoor
