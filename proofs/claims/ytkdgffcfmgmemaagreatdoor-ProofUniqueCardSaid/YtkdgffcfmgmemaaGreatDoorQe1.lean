/- slices.IndexFunc, DeleteFunc, Insert at rows. -/
/- Queries: their results on a state, and which changes touch them. -/
import Derived.Test.YtkdgffcfmgmemaaGreatDoorEz
import Derived.Test.YtkdgffcfmgmemaaGreatDoorTr3
import Derived.Test.YtkdgffcfmgmemaaGreatDoorEx31
set_option linter.unusedVariables false
set_option linter.unusedSimpArgs false
namespace Go.Proofs.YtkdgffcfmgmemaaGreatDoor
open Go.Proofs.Tryz
open Go Go.RowKit Gw
set_option maxRecDepth 100000
attribute [local irreducible] Gw.At Gw.Nx Gw.Ops
def PM(pd:AP→Bool)(rows:List AP):Int:=(rows.findIdx? pd).elim (-1) fun i=>(i:Int)
theorem jd{pd:AP→Bool}{rows:List AP}{i:Nat}{x:AP}(h:∀(j:Nat) (y:AP),j<i→rows[j]?=some y→pd y=false)(hx:rows[i]?=some x)(hp:pd x=true):PM pd rows=(i:Int):=by
 obtain ⟨hi,rfl⟩:=tH.1 hx;unfold PM;rw [vF.2 ⟨hi,hp,fun j hj=>by simp [h j _ hj (tF (by omega))]⟩];rfl
theorem je{pd:AP→Bool}{rows:List AP}(h:∀(j:Nat) (y:AP),j<rows.length→rows[j]?=some y→pd y=false):PM pd rows=-1:=by
 unfold PM;rw [wL.2 fun y hy=>by
  obtain ⟨j,hj⟩:=uV hy;exact h j y (tH.1 hj).1 hj]
 rfl
theorem dm(pd:AP→Bool)(rows:List AP):(PM pd rows=-1∧∀y∈rows,pd y=false)∨∃(i:Nat) (x:AP),PM pd rows=(i:Int)∧rows[i]?=some x∧pd x=true∧∀(j:Nat) (y:AP),j<i→rows[j]?=some y→pd y=false:=by
 unfold PM;cases h:rows.findIdx? pd with
 |none=>exact .inl ⟨rfl,wL.1 h⟩
 |some i=>
  obtain ⟨h1,h2,h3⟩:=vF.1 h;refine .inr ⟨i,_,rfl,tF h1,h2,fun j y hj hy=>?_⟩;obtain ⟨h4,rfl⟩:=tH.1 hy;simpa using h3 j hj
theorem iT{rs:List AP}{k:Nat}(hk:k<rs.length)(x:AP):(Ac rs).take (k*5)++Ac [x]++(Ac rs).drop (k*5+(Ac [x]).length)=Ac (rs.set k x):=by
 rw [show k*5+(Ac [x]).length=(k+1)*5 by rw [BF];simp;omega,DX,DK,←BZ,←BZ,wu,if_pos hk];simp
theorem We{cur:Array Value}{rs:List AP}{k:Nat}{x:AP}(hin:Bw cur 0 (Ac rs))(hx:rs[k]?=some x):k*5+5≤cur.size∧cur.extract (0+k*5) (0+k*5+5)=(Ac [x]).toArray:=by
 have hk:=(tH.1 hx).1;have hs:k*5+5≤cur.size:=by
  have h4:=Kh hx 4 (by decide);have h5:=hin.get (k*5+4) _ (h4.trans (by rfl))
  have:=(u7.1 h5).1;omega
 refine ⟨hs,?_⟩;apply vS.1;apply vg;intro j;rw [uO,wW];split
 · rename_i hj
   have hj5:j<5:=by omega
   have h1:=Kh hx j hj5;obtain ⟨u,hu⟩:∃u,(Ac [x])[j]?=some u:=⟨_,tF (by rw [BF];simpa using hj5)⟩;rw [hu]at h1;have h2:=hin.get _ _ h1
   rw [uL]at h2;rw [uL,h2];exact hu.symm
 · rw [uq]
   show(Ac [x]).length≤j;rw [BF];simp only [tT];omega
theorem VH{α:Type}{xs:List α}{i:Nat}(hi:i<xs.length)(x:α):(xs.set i x).take (i+1)=xs.take i++[x]:=by
 rw [wu,if_pos hi,List.take_append,tL,wB (by omega)];rw [uN (by rw [tL];omega),show i+1 -i=1 by omega];simp
theorem Ky{rows:List AP}{j:Nat}{x:AP}(f:AP→Bool)(hx:rows[j]?=some x):(rows.take (j+1)).filter f=(rows.take j).filter f++(if f x then [x]else []):=by
 rw [Bo hx,um];congr 1;rw [zA,zN]
theorem MZ{rows:List AP}{f:AP→Bool}(h:∀(j:Nat) (y:AP),rows[j]?=some y→f y=true):rows.filter f=rows:=List.filter_eq_self.2 fun y hy=>by
 obtain ⟨j,hj⟩:=uV hy;exact h j y hj
theorem Qp{A B:List AR}{v:Value}{rows:List AP}(hv:DV A v rows)(fid:Nat)(us:List Value)(pd:AP→Bool)(hcf:∀(args:Array Value) (w:World),(callFunc fid args).run Tryz.prog w= .ok (.enter fid args) w)(hf:∀x:AP,Av Tryz.prog fid (.agg #[I4 x.t,I4 x.k,I4 x.v.a,I4 x.v.b,I4 x.v.c]::us).toArray [B] (.bool (pd x))):Av Tryz.prog 117 #[v,.func (.func fid) #[] us.toArray] [A,B] (I4 (PM pd rows)):=by
 have hml:=mL;obtain ⟨p,cap,rfl,⟨hl,hlc⟩,hg⟩:=id hv;refine Se func117 ntmps117 [0,1] ?_;intro u R;refine Zq<|Zg<|Za Y<|Z0<|Zx<|Zq<|Zq<|Zg<|Zm Y<|Zv (AV underlying45 Y)<|Zm Y<|Z0<|Zx<|AQ<|Zb [8,0,1,7] ?_;refine Az (e0:=[(8,_)]) (fun m e H=>∃(i:Nat),m=rows.length -i∧(i≤rows.length∧∀(j:Nat) (y:AP),j<i→rows[j]?=some y→pd y=false)∧e=[(8,I4 (i:Int))]∧H=[]) (by exact ⟨0,rfl,⟨tX _,fun j y h=>by omega⟩,rfl,rfl⟩) Wp ?_;rintro _ _ _ ⟨i,rfl,⟨hi,hno⟩,rfl,rfl⟩;refine Zq<|Zg<|Zv (Aq Y Y)<|Z0<|Zx<|Zq ?_;refine Ao Y (fun hlt=>?_) (fun hlt=>?_)
 ·
  obtain ⟨x,hx⟩:∃x,rows[i]?=some x:=⟨_,tF hlt⟩;obtain ⟨g,off,cur,T,zz,rfl,hm9,hsz9,hex9⟩:=hg i x hx;refine AC<|Zx<|Zq<|AQ<|Zq<|Zg<|Zm Y<|Za Y<|Z0<|Zx<|Zq<|Zg<|Zm Y<|Zm Y<|Zm Y ?_;refine BM (AU underlying45 sizeOf113 Y Y (by first|omega|decide|(simp;done))) ?_;refine Cf (cs:=[(g,.cells cur T zz)]) (by simp [hm9]) (AX (cs:=#[I4 x.t,I4 x.k,I4 x.v.a,I4 x.v.b,I4 x.v.c]) isAgg113 sizeOf113 Y (by omega) hex9) rfl rfl ?_;refine Xr [_] Y (hcf) Y rfl (hf x) ?_;refine Z0<|Zx ?_;refine Af Y (fun hpx=>?_) (fun hpx=>?_)
  ·
   refine Zq<|Zg<|Zm Y<|Za Y<|Z0<|Zx<|A9<|AY<|Zt<|Zt<|AY<|Zt ?_;refine AB rfl results117 Y (by exact ⟨congrArg (Value.int .i64) (jd hno hx hpx).symm,rfl⟩)
  refine AC<|A8<|Zx<|Zg<|Ya (n:=1) Y Y<|Zm Y<|Z0<|Zn [8,0,1,7] ?_;refine Ab (e':=[(8,_)]) (by exact ⟨i+1,rfl,⟨by omega,fun j y h1 h2=>by rcases uJ j i with h9|h9;exact hno j y h9 h2;obtain rfl:j=i:=(by omega);rw [hx]at h2;injection h2 with h2;subst h2;exact hpx⟩,rfl,rfl⟩)
 have ei:i=rows.length:=by omega
 subst ei;refine Ar<|Zt<|Zt<|AO<|Zx<|Zq<|Zg<|Za Y<|Z0<|Zx<|A9 ?_;refine AB rfl results117 Y (by exact ⟨congrArg (Value.int .i64) (je hno).symm,rfl⟩)
set_option maxHeartbeats 1000000 in
theorem X4{B s:List AR}{v:Value}{rows:List AP}(hrow:BX 5 113 v rows.length (Ac rows) s)(hn:rows.length≤1000000000)(fid:Nat)(us:List Value)(pd:AP→Bool)(hcf:∀(args:Array Value) (w:World),(callFunc fid args).run Tryz.prog w= .ok (.enter fid args) w)(hf:∀x:AP,Av Tryz.prog fid (.agg #[I4 x.t,I4 x.k,I4 x.v.a,I4 x.v.b,I4 x.v.c]::us).toArray [B] (.bool (pd x))):CO Tryz.prog 264 #[v,.func (.func fid) #[] us.toArray] [s,B] (fun r H'=>∃s',BX 5 113 r (rows.filter fun x=>!pd x).length (Ac (rows.filter fun x=>!pd x)) s'∧H'=[s',B]):=by
 have hml:=mL;obtain ⟨p,cap,rfl⟩:=hrow.form;have hU:=Dv hrow (by omega)
 refine Se func264 ntmps264 [0,1] ?_;intro u R;refine Zq<|Zg<|Za Y<|Z0<|Zx<|Zq<|Zg<|Zm Y<|Zm Y<|Xr [_,_] Y call117 Y rfl (Qp hU fid us pd hcf hf) ?_;rcases dm pd rows with⟨e9,hall⟩|⟨k,x0,e9,hx0,hp0,hno⟩
 ·
  rw [e9];refine Za Y<|Z0<|Zx<|Zq<|Zq<|Zg<|Zm Y<|Zv (CF Y Y)<|Z0<|Zx ?_;refine Ao Y (fun h1=>?_) (fun h1=>?_)
  ·
   refine Zq<|Zg<|Zm Y<|Za Y<|Z0<|Zx<|A9<|Zt ?_;refine AB rfl results264 Y (by exact ⟨_,BO hrow (congrArg List.length (MZ fun j y hy=>by rw [hall y (tV hy)];rfl).symm) (congrArg Ac (MZ fun j y hy=>by rw [hall y (tV hy)];rfl).symm),rfl⟩)
  exact absurd rfl h1
 rw [e9];have hk0:=(tH.1 hx0).1
 obtain ⟨g,cap9,cur,z,hv9,rfl,hle9,hin9⟩:=Db hrow (by omega);injection hv9 with hv1 hv2 hv3
 subst hv1 hv3;refine Za Y<|Z0<|Zx<|Zq<|Zq<|Zg<|Zm Y<|Zv (CF Y Y)<|Z0<|Zx ?_;refine Ao Y (fun h2=>?_) (fun h2=>?_)
 ·
  exfalso;omega
 refine AC<|Zx<|Zq<|Zq<|Zg<|Zm Y<|Ya (n:=1) Y Y<|Za Y<|Z0<|Zx<|AQ<|Zb [5,6,0,1] ?_;refine Az (e0:=[(5,_),(6,_)]) (fun m e H=>∃(i j:Nat) (W:List AP) (cur:Array Value),m=rows.length -j∧((i<j∧j≤rows.length)∧W.length=rows.length∧BX 5 113 (I6 g rows.length cap) rows.length (Ac W) [(g,.cells cur 113 z)]∧W.take i=(rows.take j).filter (fun x=>!pd x)∧∀t,j≤t→W[t]?=rows[t]?)∧e=[(5,I4 (i:Int)),(6,I4 (j:Int))]∧H=[[(g,.cells cur 113 z)]]) (by exact ⟨k,k+1,rows,cur,rfl,⟨⟨by omega,by omega⟩,rfl,hrow,by rw [Ky _ hx0,hp0];simp only [wT,vH,if_false,uR];exact (MZ (fun j y hy=>by rw [uX]at hy;split at hy;rw [hno j y (by assumption) hy];rfl;cases hy)).symm,fun t _=>rfl⟩,rfl,rfl⟩) Wp ?_;rintro _ _ _ ⟨i,j,W,cur,rfl,⟨hij,hWl,hrW,hWt,hWr⟩,rfl,rfl⟩;obtain ⟨hinW,hcsW,hleW,hcmW,hfrW⟩:=JD hrW;refine Zq<|Zq<|Zg<|Zm Y<|Zm Y<|Zv (AV underlying45 Y)<|Zv (Aq Y Y)<|Z0<|Zx ?_;refine Ao Y (fun hlt=>?_) (fun hlt=>?_)
 ·
  obtain ⟨x,hx⟩:∃x,rows[j]?=some x:=⟨_,tF hlt⟩;obtain ⟨hsz9,hex9⟩:=We hinW ((hWr j (tQ _)).trans hx);refine AC<|Zx<|Zq<|AQ<|Zq<|Zg<|Zm Y<|Zm Y ?_;refine BM (AU underlying45 sizeOf113 Y Y (by first|omega|decide|(simp;done))) ?_;refine Zo Wh (AX (cs:=#[I4 x.t,I4 x.k,I4 x.v.a,I4 x.v.b,I4 x.v.c]) isAgg113 sizeOf113 Y (by omega) hex9) ?_;refine Ze (Al zeroValue113 #[_,_,_,_,_]) ?_;rintro _ _ ⟨bx,rfl,rfl⟩;refine Xe (Xw sizeOf113 #[I4 x.t,I4 x.k,I4 x.v.a,I4 x.v.b,I4 x.v.c]) ?_;refine Z0<|Zx<|Zq<|Zg<|Zm Y<|Zo Wh (Pa #[_,_,_,_,_] isAgg113 sizeOf113 Y) ?_;refine Xr [_] Y (hcf) Y rfl (hf x) ?_;refine Zv (Ca Y)<|Z0<|Zn [0,1,5,6,7,29] ?_;refine Zx ?_;refine Af Y (fun hpx=>?_) (fun hpx=>?_)
  ·
   have hpx:pd x=false:=by simpa using hpx
   have hrW2:=BO (xs':=Ac (W.set i x)) (EH (i:=0+i*5) (ys:=Ac [x]) hrW (by rw [BF,BF,tT];omega)) rfl (by rw [uL];exact iT (by omega) x);refine Zq<|Zg<|Zm Y<|Zm Y<|Zo Wh (Pa #[_,_,_,_,_] isAgg113 sizeOf113 Y) ?_;refine BM (AU underlying45 sizeOf113 Y Y (by first|omega|decide|(simp;done))) ?_;refine Xe (BN sizeOf113 Y Y (by(simp [Value.oneCell'];done)) Wu (by exact (rfl:_=Ed cur (0+i*5) (Ac [x]))) (by first|rfl|(simp;done)) Wb (by exact hfrW)) ?_;refine Z0<|Zx<|Zg<|Zm Y<|Ya (n:=1) Y Y<|Za Y<|Z0<|A8<|Zx<|Zg<|Zm Y<|Ya (n:=1) Y Y<|Za Y<|Z0<|Zn [5,6,0,1] ?_;refine Ab (e':=[(5,_),(6,_)]) (by exact ⟨i+1,j+1,W.set i x,_,rfl,⟨by omega,by rw [List.length_set];exact hWl,hrW2,by rw [VH (by omega),hWt,Ky _ hx];simp [hpx],fun t ht=>by rw [List.getElem?_set_ne (by omega)];exact hWr t (by omega)⟩,rfl,rfl⟩)
  have hpx:pd x=true:=by simpa using hpx
  refine AC<|A8<|Zx<|Zg<|Zm Y<|Ya (n:=1) Y Y<|Za Y<|Z0<|Zn [5,6,0,1] ?_;refine Ab (e':=[(5,_),(6,_)]) (by exact ⟨i,j+1,W,cur,rfl,⟨by omega,hWl,hrW,by rw [hWt,Ky _ hx];simp [hpx],fun t ht=>hWr t (by omega)⟩,rfl,rfl⟩)
 have ej:j=rows.length:=by omega
 subst ej;rw [uQ]at hWt;have hil:(rows.filter fun x=>!pd x).length=i:=by rw [←hWt,tL];omega
 refine Ar<|Zt<|Zt<|AO<|Zx<|Zq<|Zg<|Zm Y<|Zm Y ?_;refine BM (Bz underlying45 sizeOf113 Y Y (by omega)) ?_;refine Ze (Mk underlying45 (rfl:Tryz.prog.info? 113=some Tryz.t113) rfl rfl (by simp [Value.cells,Value.oneCell']) Y (by omega) hcsW hfrW Wo) ?_;rintro _ _ rfl;have hrW3:=Sb (EH (i:=i*5) (ys:=(Builtin.zeroCells (Value.agg #[I4 0,I4 0,I4 0,I4 0,I4 0]).cells (rows.length -i)).toList) hrW (by rw [w9,size_zeroCells,BF];show i*5+(rows.length -i)*5≤_;omega)) i (by omega)
 refine Z0<|Zx<|Zq<|Zg<|Zm Y<|Zm Y ?_;refine BM (Bc underlying45 sizeOf113 Y Y (by omega)) ?_;refine Za Y<|Z0<|Zx<|A9 ?_;refine AB rfl results264 Y (by
  refine ⟨_,BO hrW3 hil.symm ?_,rfl⟩;rw [tO,ul (by rw [tL,BF];omega),DX,hWt])
theorem jb{A Y D:List Value}{i n:Nat}(hA:A.length=(n+1)*5)(hi:i≤n)(hY:Y.length=5)(hD:D.length=(n -i)*5):(A.take (0+i*5)++Y++A.drop (0+i*5+Y.length)).take (0+(i+1)*5)++D++(A.take (0+i*5)++Y++A.drop (0+i*5+Y.length)).drop (0+(i+1)*5+D.length)=A.take (i*5)++Y++D:=by
 rw [uL,uL,ul (by rw [tK,tL];omega),vI (by simp only [tK,tL,tN];omega),uR]
theorem dX{A Y D:List Value}{i n:Nat}(hA:A.length=(n+1)*5)(hi:i≤n)(hY:Y.length=5)(hD:D.length=(n -i)*5):(A.take (0+(i+1)*5)++D++A.drop (0+(i+1)*5+D.length)).take (0+i*5)++Y++(A.take (0+(i+1)*5)++D++A.drop (0+(i+1)*5+D.length)).drop (0+i*5+Y.length)=A.take (i*5)++Y++D:=by
 rw [uL,uL,vI (l:=A) (by omega),uR,vP (by rw [tL];omega),xB,wB (by omega),wm (by rw [tL];omega)]
theorem VN(rows:List AP)(i:Nat)(y:AP):(Ac rows).take (i*5)++Ac [y]++Ac (rows.drop i)=Ac (rows.take i++[y]++rows.drop i):=by
 rw [DX,BZ,BZ]
theorem RA{c:Array Value}{rows:List AP}(h:Bw c 0 (Ac rows))(i:Nat)(hi:i≤rows.length):Bw c (0+i*5) (Ac (rows.drop i)):=by
 have h1:=Ia h (i*5) ((rows.length -i)*5) (by rw [BF];omega);rw [DK,uN (by rw [BF,tN];omega)]at h1;exact h1
theorem Yd{c:Array Value}{rows:List AP}(h:Bw c 0 (Ac rows))(i:Nat)(hi:i≤rows.length):Bw c 0 (Ac (rows.take i)):=by
 have h1:=Ia h 0 (i*5) (by rw [BF];omega);rw [wO,DX]at h1;exact h1
theorem Ua(rows:List AP)(i:Nat)(hi:i≤rows.length)(y:AP):(rows.take i++[y]++rows.drop i).length=rows.length+1:=by
 simp only [tK,tL,tN,tT];omega
set_option maxHeartbeats 1000000 in
theorem WL{s:List AR}{v:Value}{rows:List AP}(hrow:BX 5 113 v rows.length (Ac rows) s)(hn:rows.length≤1000000000)(i:Nat)(hi:i≤rows.length)(y:AP)(g2:Nat):CO Tryz.prog 265 #[v,I4 (i:Int),I6 g2 1 1] [s,[(g2,.cells #[I4 y.t,I4 y.k,I4 y.v.a,I4 y.v.b,I4 y.v.c] 113 (0,0))]] (fun r H'=>∃s' s2,BX 5 113 r (rows.take i++[y]++rows.drop i).length (Ac (rows.take i++[y]++rows.drop i)) s'∧H'=[s',s2,[(g2,.cells #[I4 y.t,I4 y.k,I4 y.v.a,I4 y.v.b,I4 y.v.c] 113 (0,0))]]):=by
 have hml:=mL;obtain ⟨p,cap,rfl⟩:=hrow.form;have hle:=FD hrow
 refine Se func265 ntmps265 [0,1,2] ?_;intro u R;refine Zq<|Zg<|Za Y<|Z0<|Zx<|Zq<|Bd ?_;refine Zg<|Zm Y<|Zm Y ?_;refine BM (Bz underlying45 sizeOf113 Y Y (by omega)) ?_;refine Z0<|Zx<|Zq<|Zg<|Zm Y<|Zv (AV underlying45 Y)<|Za Y<|Z0<|Zx<|Zq<|Zq<|Zg<|Zm Y<|Zv (C8 (n:=0) Y Y)<|Z0<|Zx ?_;refine Ao Y (fun h0=>?_) (fun h0=>?_)
 ·
  cases h0
 refine AC<|Zx<|Zq<|Zg<|Zm Y<|Zv (AV underlying45 Y)<|Za Y<|Z0<|Zx<|Zq<|Zq<|Zg<|Zm Y<|Zm Y<|Zv (C8 Y Y)<|Z0<|Zn [0,1,2,7,8,22] ?_;refine Zx ?_;refine Ao Y (fun hin=>?_) (fun hin=>?_)
 ·
  refine Zq<|Zg<|Zm Y<|Zm Y ?_;refine Ze (BR (by_:=40) (sz:=5) underlying45 (rfl:Tryz.prog.info? 113=some Tryz.t113) rfl rfl rfl rfl Y (hrow) Y (DY 5 g2 1 1 113 (0,0) (Ac [y]) rfl) Wo Wo (by exact CL _) (by omega) (by omega)) ?_;rintro _ _ ⟨sw5,hrw5,rfl⟩;obtain ⟨gw5,cw5,rfl⟩:=hrw5.form;refine Za Y<|Z0<|Zx<|A9<|Zt ?_;refine AB rfl results265 Y (by
   have hin:i=rows.length:=by omega
   subst hin;exact ⟨_,[],BO hrw5 (Ua rows _ (tQ _) y).symm (by rw [uQ,AA0,uR,BZ]),rfl⟩)
 obtain ⟨g,cap9,cur,z,hv9,rfl,hle9,hin9⟩:=Db hrow (by omega);injection hv9 with hv1 hv2 hv3
 subst hv1 hv3;obtain ⟨_,hcs,_,hcm,hfr⟩:=JD hrow;refine AC<|Zx<|Zq<|Zq<|Zg<|Zm Y<|Zm Y<|Ya Y Y<|Zm Y<|Zv (Ou underlying45 Y)<|Zv (DJ Y Y)<|Z0<|Zx ?_;refine Ao Y (fun hg=>?_) (fun hg=>?_)
 ·
  refine Zq<|Zg<|Zm Y<|Zm Y ?_;refine BM (Bc underlying45 sizeOf113 Y Y (by omega)) ?_;refine Zm Y<|Zm Y<|Ya Y Y<|Zm Y<|Yb Y Y ?_;refine Ze (KV (by_:=40) (sz:=5) (xs:=Ac (rows.take i)) underlying45 underlying3 (rfl:Tryz.prog.info? 113=some Tryz.t113) rfl rfl rfl rfl Y Y Wh (Yd hin9 i hi) (by rw [BF,tL];omega) (by omega) (by decide) (by omega) (by omega) (by omega)) ?_;rintro _ _ ⟨s9,hr9,rfl⟩;rw [show i+(rows.length+1 -i)=rows.length+1 by omega]at hr9;have hAl:=hr9.1
  obtain ⟨g3,cap3,cur3,z3,rfl,rfl,hle3,hin3⟩:=Db hr9 (by omega);obtain ⟨_,hcs3,_,hcm3,hfr3⟩:=JD hr9;refine Za Y<|Z0<|Zn [0,1,2,7,9] ?_;refine Zx<|Zq<|Zg<|Zm Y<|Zm Y ?_
  (refine BM (Bn underlying45 sizeOf113 Y Y ?_ ?_) ?_;(focus (omega));(focus (omega)))
  refine Zm Y<|Xe (J8 (cs:=Ac [y]) underlying45 sizeOf113 Y Y Wh Wo ((rfl:Bw (#[I4 y.t,I4 y.k,I4 y.v.a,I4 y.v.b,I4 y.v.c]:Array Value) 0 (Ac [y]))) (by rw [BF,tT];omega) (by rw [BF,tT];omega) (hfr3) (CL _)) ?_;refine Z0<|Zx<|Zq<|BI (n:=9) (0::0::0::6::15::0::0::96::255::[]) 256 (by kernel_rfl) (by kernel_rfl) rfl ?_;refine Zi 1 0 rfl (AJ Y)<|Zi 3 1 rfl (AJ Y)<|Zi 7 2 rfl (AJ Y) ?_;refine Zi 15 3 rfl (D6 Y Y (by omega)) ?_
  (refine EF (D':=31) 4 (Bn underlying45 sizeOf113 Y Y ?_ ?_) ?_;(focus (omega));(focus (omega)))
  refine Zi 63 5 rfl (AJ Y)<|Zi 127 6 rfl (AJ Y) ?_
  (refine EF (D':=255) 7 (Bn underlying45 sizeOf113 Y Y ?_ ?_) ?_;(focus (omega));(focus (omega)))
  refine Yw 8 511 rfl (J8 (cs:=Ac (rows.drop i)) underlying45 sizeOf113 Y Y Wh Wo (RA hin9 i hi) (by rw [BF,tN];omega) (by rw [BF,tN,Fe (by rw [BF,tT];omega)];omega) (by rw [Fe (by rw [BF,tT];omega)];exact hfr3) (CL _)) ?_;rintro _ _ ⟨rfl,rfl⟩;refine Am ?_;refine Zn [9] ?_;refine Zx<|Zq<|Zg<|Zm Y<|Za Y<|Z0<|Zx<|A9<|Zt ?_;refine AB rfl results265 Y (by
   refine ⟨_,[(g,.cells cur 113 z)],BO (EH (i:=0+(i+1)*5) (ys:=Ac (rows.drop i)) (EH (i:=0+i*5) (ys:=Ac [y]) hr9 (by rw [hAl,BF,tT];omega)) ?_) (Ua rows i hi y).symm ?_,rfl⟩
   · simp only [tK,tL,tN,hAl,BF,tT];omega
   · rw [jb hAl hi (by rw [BF];rfl) (by rw [BF,tN]),ul (by rw [BF,tL];omega),←DX,VN])
 refine AC<|Zx<|Zq ?_;obtain ⟨ys9,hyl9,hrM⟩:=Sa hrow (rows.length+1) (by omega) (by omega);have hAl:=hrM.1
 refine Zg<|Zm Y<|Zm Y<|Zm Y<|Ya Y Y ?_;refine BM (Bc underlying45 sizeOf113 Y Y (by omega)) ?_;refine Za Y<|Z0<|Zx<|Zq<|Zq ?_;refine oJ (s1:=[(g2,_)]) (s2:=[(g,_)]) (a:=g2) (b:=g) Wo Wo (tq.2 rfl) (tq.2 rfl) (fun hne9=>?_);refine Zg<|Zm Y<|Zm Y<|Zm Y<|Zm Y<|Ya Y Y ?_
 (refine BM (Bn underlying45 sizeOf113 Y Y ?_ ?_) ?_;(focus (omega));(focus (omega)))
 refine Cf (cs:=[(g2,.cells #[I4 y.t,I4 y.k,I4 y.v.a,I4 y.v.b,I4 y.v.c] 113 (0,0)),(g,.cells cur 113 z)]) (by simp) (QW (tR:=4) func296 (by kernel_rfl) (by kernel_rfl) (by kernel_rfl) (by kernel_rfl) underlying45 sizeOf113 Y hne9 (by omega)) rfl rfl ?_;refine Zv (Ca Y)<|Z0<|Zn [0,1,2,7,8,68] ?_;refine Zx ?_;refine Af Y (fun hb9=>?_) (fun hb9=>?_)
 ·
  refine Zq<|BI (n:=9) (0::0::0::6::15::0::0::96::255::[]) 256 (by kernel_rfl) (by kernel_rfl) rfl ?_;refine Zi 1 0 rfl (AJ Y)<|Zi 3 1 rfl (AJ Y)<|Zi 7 2 rfl (AJ Y) ?_;refine Zi 15 3 rfl (D6 Y Y (by omega)) ?_
  (refine EF (D':=31) 4 (Bn underlying45 sizeOf113 Y Y ?_ ?_) ?_;(focus (omega));(focus (omega)))
  refine Zi 63 5 rfl (AJ Y)<|Zi 127 6 rfl (AJ Y) ?_
  (refine EF (D':=255) 7 (Bn underlying45 sizeOf113 Y Y ?_ ?_) ?_;(focus (omega));(focus (omega)))
  refine Yw 8 511 rfl (J8 (cs:=Ac (rows.drop i)) underlying45 sizeOf113 Y Y Wh Wo (RA hin9 i hi) (by rw [BF,tN];omega) (by rw [BF,tN];omega) (hfr) (CL _)) ?_;rintro _ _ ⟨rfl,rfl⟩;refine Am ?_;refine Zx<|Zq<|Zg<|Zm Y<|Zm Y ?_
  (refine BM (Bn underlying45 sizeOf113 Y Y ?_ ?_) ?_;(focus (omega));(focus (omega)))
  refine Zm Y<|Xe (J8 (cs:=Ac [y]) underlying45 sizeOf113 Y Y Wh Wo ((rfl:Bw (#[I4 y.t,I4 y.k,I4 y.v.a,I4 y.v.b,I4 y.v.c]:Array Value) 0 (Ac [y]))) (by rw [BF,tT];omega) (by rw [BF,tT,Fe (by rw [BF,tN];omega)];omega) (by rw [Fe (by rw [BF,tN];omega)];exact hfr) (CL _)) ?_;refine Z0<|Zn [0] ?_;refine Zx<|Zq<|Zg<|Zm Y<|Za Y<|Z0<|Zx<|A9<|Zt ?_;refine AB rfl results265 Y (by
   refine ⟨_,[],BO (EH (i:=0+i*5) (ys:=Ac [y]) (EH (i:=0+(i+1)*5) (ys:=Ac (rows.drop i)) hrM (by rw [hAl,BF,tN];omega)) ?_) (Ua rows i hi y).symm ?_,rfl⟩
   · simp only [tK,tL,tN,BF,hyl9,tT];omega
   · rw [dX hAl hi (by rw [BF];rfl) (by rw [BF,tN]),vP (by rw [BF];omega),VN])
 cases hb9
structure QM where
 kd:Int
 tb:Int
 cl:Int
 lo:Int
 hi:Int
 bq:Int
 ot:Int
deriving DecidableEq
structure CG where
 rows:List AP
 val:Int
 fnd:Bool
deriving DecidableEq
def inQ(q:QM)(r:AP):Bool:=decide (r.t=q.tb∧q.lo≤Be r q.cl∧Be r q.cl≤q.hi)
def BP(q:QM):Prop:=(0≤q.tb∧q.tb≤3)∧(0≤q.cl∧q.cl≤3)∧(-1000000000≤q.lo∧q.lo≤q.hi∧q.hi≤1000000000)∧
 ((q.kd=1∧q.cl=0∧q.lo=q.hi∧(1≤q.lo∧q.lo≤1000000)∧q.bq=0∧q.ot=0)∨((q.kd=2∨q.kd=3)∧q.bq=0∧q.ot=0)∨
  ((q.kd=4∨q.kd=5∨q.kd=6)∧(1≤q.bq∧q.bq≤3)∧q.ot=0)∨(q.kd=7∧(1≤q.bq∧q.bq≤3)∧(0≤q.ot∧q.ot≤3)))
instance(q:QM):Decidable (BP q):=by unfold BP;infer_instance
def CG.none:CG:=⟨[],0,false⟩
def Ka(ms:List Int):Int:=ms.foldl (·+·) 0
def EL(lt:Int→Int→Bool)(ms:List Int):CG:=ms.foldl (fun r n=>⟨r.rows,if !r.fnd||lt n r.val then n else r.val,true⟩) CG.none
def DT(q:QM)(others:List AP)(k:Int):Option AP:=others.find? (fun x=>decide (x.t=q.ot∧x.k=k))
def IJ(q:QM)(others:List AP)(r:AP):List AP:=match DT q others (Be r q.bq)with
 |some x=>[r,x]
 |none=>[]
def IM(q:QM)(rows others:List AP):List AP:=rows.flatMap (IJ q others)
def Co(q:QM)(rows:List AP):List Int:=rows.map fun r=>Be r q.bq
def FE(q:QM)(rows others:List AP):CG:=
 if q.kd=3 then⟨[],rows.length,false⟩else if q.kd=4 then⟨[],Ka (Co q rows),false⟩
 else if q.kd=5 then EL (fun a b=>decide (a<b)) (Co q rows)else if q.kd=6 then EL (fun a b=>decide (b<a)) (Co q rows)
 else if q.kd=7 then⟨IM q rows others,0,false⟩else⟨rows,0,false⟩
def CZ(rs:List AP)(q:QM):List AP:=Ci rs q.tb q.cl.toNat q.lo q.hi
def Df(rs:List AP)(q:QM):CG:=FE q (CZ rs q) (I9 rs q.ot)
def dE(c:Chg):List AP:=if c.had then [⟨c.t,c.k,c.o⟩]else []
def Hq(q:QM)(b:Bool)(r:AP):Option AP:=if b&&inQ q r then some r else none
def bfQ(q:QM)(c:Chg):Option AP:=Hq q c.had ⟨c.t,c.k,c.o⟩
def afQ(q:QM)(c:Chg):Option AP:=Hq q c.has ⟨c.t,c.k,c.n⟩
def mQ(q:QM):Option AP→Int
 |some r=>Be r q.bq
 |none=>0
def Us(q:QM)(c:Chg):Bool:=(bfQ q c).isSome||(afQ q c).isSome
def Vy(q:QM)(c:Chg):Bool:=(bfQ q c).isSome !=(afQ q c).isSome
def Dr(q:QM)(c:Chg):Bool:=
 if q.kd=1∨q.kd=2 then Us q c else if q.kd=3 then Vy q c else if q.kd=4 then decide (mQ q (bfQ q c)≠mQ q (afQ q c))
 else if q.kd=5∨q.kd=6 then Vy q c||decide (mQ q (bfQ q c)≠mQ q (afQ q c))else Us q c||decide (c.t=q.ot)
theorem O7{rs:List AP}{c:Chg}(hf:FZ rs c):∃A B,rs=A++dE c++B∧EI rs c=A++MQ c++B:=by
 refine ⟨rs.take (Dl rs c.t c.k),(rs.drop (Dl rs c.t c.k)).drop (if c.had then 1 else 0),?_,rfl⟩;unfold dE;cases hh:c.had with
 |false=>simp
 |true=>
  have h1:(FV rs c.t c.k).2=true:=by rw [hf.1,hh]
  obtain ⟨r,hr,hi,hp,he⟩:=J3 h1;have hv:=hf.2 h1
  rw [he]at hv;have e:r=⟨c.t,c.k,c.o⟩:=by
   obtain ⟨t,k,v⟩:=r;obtain ⟨h5,h6⟩:=hi;simp only at h5 h6 hv;subst h5 h6 hv;rfl
  rw [e]at hp;obtain ⟨hk,hp2⟩:=tH.1 hp;simp only [if_true,tO];conv=>lhs;rw [←uY (Dl rs c.t c.k) rs,vB hk,hp2]
  rw [uU,vB hk];rfl
theorem oF{q:QM}(h:BP q)(r:AP):inR q.tb q.cl.toNat q.lo q.hi r=inQ q r:=by
 have hc:=h.2.1;have:=ME r q.cl.toNat (by omega)
 rw [show((q.cl.toNat:Nat):Int)=q.cl by omega]at this;unfold inR inQ;rw [this]
theorem Od{q:QM}(h:BP q)(rs:List AP):CZ rs q=(rs.filter (inQ q)).foldl (Rj q.cl.toNat) []:=by
 unfold CZ Ci;rw [yj fun r _=>oF h r]
theorem Gg{q:QM}(h:BP q)(rs:List AP):(CZ rs q).Perm (rs.filter (inQ q)):=by
 have:=EO rs q.tb q.cl.toNat q.lo q.hi;rwa [yj fun r _=>oF h r]at this
theorem Qc(q:QM)(c:Chg):(dE c).filter (inQ q)=(bfQ q c).toList:=by
 unfold dE bfQ Hq;cases c.had with
 |false=>rfl
 |true=>simp only [if_true,xV,zA,zN];split<;>rfl
theorem Qi(q:QM)(c:Chg):(MQ c).filter (inQ q)=(afQ q c).toList:=by
 unfold MQ afQ Hq;cases c.has with
 |false=>rfl
 |true=>simp only [if_true,xV,zA,zN];split<;>rfl
def JS:List Int→Int
 |[]=>0
 |x::l=>x+JS l
theorem Lh(l:List Int):∀a,l.foldl (·+·) a=a+JS l:=by
 induction l with
 |nil=>intro a;simp [JS]
 |cons x l ih=>intro a;rw [xD,ih];simp only [JS];omega
theorem VC(a b:List Int):JS (a++b)=JS a+JS b:=by
 induction a with
 |nil=>simp [JS]
 |cons x a ih=>simp only [wH,JS,ih];omega
theorem LQ{a b:List Int}(h:a.Perm b):JS a=JS b:=by
 induction h with
 |nil=>rfl
 |cons x _ ih=>simp only [JS,ih]
 |swap x y l=>simp only [JS];omega
 |trans _ _ ih1 ih2=>exact ih1.trans ih2
theorem nN(lt:Int→Int→Bool)(hlt:∀a b c,lt b a=false→lt c b=false→lt c a=false)(hirr:∀a,lt a a=false)(hasy:∀a b,lt a b=true→lt b a=false)(l:List Int):∀(m:Int),∃x,(x=m∨x∈l)∧lt m x=false∧(∀y∈l,lt y x=false)∧l.foldl (fun(r:CG) n=>(⟨r.rows,if !r.fnd||lt n r.val then n else r.val,true⟩:CG)) ⟨[],m,true⟩=⟨[],x,true⟩:=by
 induction l with
 |nil=>intro m;exact ⟨m,.inl rfl,hirr m,by simp,rfl⟩
 |cons z l ih=>
  intro m;rw [xD];cases hz:lt z m with
  |true=>
   obtain ⟨x,h1,h2,h3,h4⟩:=ih z;simp only [wT,ze,hz,if_true];refine ⟨x,.inr (by rcases h1 with h|h;rw [h];simp;exact ug _ h),hlt x z m h2 (hasy z m hz),fun y hy=>?_,h4⟩;rcases uI.1 hy with rfl|hy
   · exact h2
   · exact h3 y hy
  |false=>
   obtain ⟨x,h1,h2,h3,h4⟩:=ih m;simp only [wT,ze,hz,vH,if_false];refine ⟨x,by rcases h1 with h|h;exact .inl h;exact .inr (ug _ h),h2,fun y hy=>?_,h4⟩;rcases uI.1 hy with rfl|hy
   · exact hlt x m y h2 hz
   · exact h3 y hy
theorem Jq(lt:Int→Int→Bool)(hlt:∀a b c,lt b a=false→lt c b=false→lt c a=false)(hirr:∀a,lt a a=false)(hasy:∀a b,lt a b=true→lt b a=false)(z:Int)(l:List Int):∃x∈z::l,(∀y∈z::l,lt y x=false)∧EL lt (z::l)=⟨[],x,true⟩:=by
 obtain ⟨x,h1,h2,h3,h4⟩:=nN lt hlt hirr hasy l z;refine ⟨x,by rcases h1 with h|h;rw [h];simp;exact ug _ h,fun y hy=>?_,?_⟩
 · rcases uI.1 hy with rfl|hy
   · exact h2
   · exact h3 y hy
 · unfold EL
   rw [xD];exact h4
theorem NW(lt:Int→Int→Bool)(hlt:∀a b c,lt b a=false→lt c b=false→lt c a=false)(hirr:∀a,lt a a=false)(hasy:∀a b,lt a b=true→lt b a=false)(htot:∀a b,lt a b=false→lt b a=false→a=b){l l':List Int}(h:∀y,y∈l↔y∈l'):EL lt l=EL lt l':=by
 match l,l',h with
 |[],[],_=>rfl
 |[],y::l',h=>have:=(h y).2 (by simp);cases this
 |y::l,[],h=>have:=(h y).1 (by simp);cases this
 |y::l,y'::l',h=>
  obtain ⟨x,a1,a2,a3⟩:=Jq lt hlt hirr hasy y l;obtain ⟨x',b1,b2,b3⟩:=Jq lt hlt hirr hasy y' l';rw [a3,b3,htot x x' (b2 x ((h x).1 a1)) (a2 x' ((h x').2 b1))]
theorem ZA{rs:List AP}{c:Chg}(hf:FZ rs c){t:Int}(h:c.t≠t):I9 (EI rs c) t=I9 rs t:=by
 obtain ⟨A,B,e1,e2⟩:=O7 hf;have z1:(dE c).filter (inT t)=[]:=by
  unfold dE;split
  · simp [inT,h]
  · rfl
 have z2:(MQ c).filter (inT t)=[]:=by
  unfold MQ;split
  · simp [inT,h]
  · rfl
 unfold I9;rw [e2];conv=>rhs;rw [e1]
 simp only [um,z1,z2,uR]
theorem Pg{o:Option AP}(h:o.isSome=false):o.toList=[]:=by
 cases o with
 |none=>rfl
 |some x=>cases h
theorem kK{rs:List AP}{c:Chg}{q:QM}(hq:BP q)(hf:FZ rs c)(h:Dr q c=false):Df (EI rs c) q=Df rs q:=by
 obtain ⟨A,B,e1,e2⟩:=O7 hf;have f1:rs.filter (inQ q)=A.filter (inQ q)++(bfQ q c).toList++B.filter (inQ q):=by
  conv=>lhs;rw [e1]
  rw [um,um,Qc]
 have f2:(EI rs c).filter (inQ q)=A.filter (inQ q)++(afQ q c).toList++B.filter (inQ q):=by
  rw [e2,um,um,Qi]
 have p1:=Gg hq rs;have p2:=Gg hq (EI rs c)
 rw [f1]at p1;rw [f2]at p2;have same:(bfQ q c).isSome=false→(afQ q c).isSome=false→CZ (EI rs c) q=CZ rs q:=fun h1 h2=>by
  rw [Od hq,Od hq,f1,f2,Pg h1,Pg h2]
 unfold Dr at h;unfold Df FE;split at h
 · rename_i hk
   unfold Us at h;rw [yJ]at h;rw [same h.1 h.2,if_neg (by omega),if_neg (by omega),if_neg (by omega),if_neg (by omega),if_neg (by omega),if_neg (by omega),if_neg (by omega),if_neg (by omega),if_neg (by omega),if_neg (by omega)]
 · split at h
   · rename_i hk
     rw [if_pos hk,if_pos hk];have hl:(CZ (EI rs c) q).length=(CZ rs q).length:=by
      rw [p1.length_eq,p2.length_eq];simp only [tK];unfold Vy at h;cases hb:bfQ q c<;>cases ha:afQ q c<;>simp [hb,ha]at h⊢
     rw [hl]
   · split at h
     · rename_i hk3 hk
       rw [if_neg hk3,if_neg hk3,if_pos hk,if_pos hk];have hs:Ka (Co q (CZ (EI rs c) q))=Ka (Co q (CZ rs q)):=by
        unfold Ka Co;rw [Lh,Lh,LQ (p1.map _),LQ (p2.map _)];simp only [uK,VC];have hm:=of_decide_eq_false h
        have key:∀o:Option AP,JS (o.toList.map fun r=>Be r q.bq)=mQ q o:=fun o=>by
         cases o with
         |none=>rfl
         |some x=>simp [JS,mQ]
        rw [key,key];omega
       rw [hs]
     · split at h
       · rename_i hk3 hk4 hk
         rw [yJ]at h;have hm:=of_decide_eq_false h.2
         have hone:=h.1;have hmem:∀y,y∈Co q (CZ (EI rs c) q)↔y∈Co q (CZ rs q):=fun y=>by
          unfold Co;rw [(p1.map _).mem_iff,(p2.map _).mem_iff];unfold Vy at hone;cases hb:bfQ q c<;>cases ha:afQ q c<;>simp [hb,ha]at hone⊢
          simp [hb,ha,mQ]at hm;rw [hm]
         rw [if_neg hk3,if_neg hk3,if_neg hk4,if_neg hk4];rcases hk with hk|hk
         · rw [if_pos hk,if_pos hk]
           exact NW _ (by intro a b c;simp;omega) (by intro a;simp) (by intro a b;simp;omega) (by intro a b;simp;omega) hmem
         · rw [if_neg (show¬q.kd=5 by omega),if_neg (show¬q.kd=5 by omega),if_pos hk,if_pos hk]
           exact NW _ (by intro a b c;simp;omega) (by intro a;simp) (by intro a b;simp;omega) (by intro a b;simp;omega) hmem
       · rw [yJ]at h
         have ha:=h.1;unfold Us at ha;rw [yJ]at ha;rw [same ha.1 ha.2,ZA hf (of_decide_eq_false h.2)]
end Go.Proofs.YtkdgffcfmgmemaaGreatDoor
