/- slices.IndexFunc, DeleteFunc, Insert at rows. -/
/- Queries: their results on a state, and which changes touch them. -/
import Derived.Test.YtkdgffcfmgmemaaGreatDoorEz
import Derived.Test.YtkdgffcfmgmemaaGreatDoorTr3
import Derived.Test.YtkdgffcfmgmemaaGreatDoorEx31
set_option linter.unusedVariables false
set_option linter.unusedSimpArgs false
namespace Go.Proofs.YtkdgffcfmgmemaaGreatDoor
open Go.Proofs.Tryz
open Go Go.RowKit Gw
set_option maxRecDepth 100000
attribute [local irreducible] Gw.At Gw.Nx Gw.Ops
def PO(pd:AP→Bool)(rows:List AP):Int:=(rows.findIdx? pd).elim (-1) fun i=>(i:Int)
theorem jX{pd:AP→Bool}{rows:List AP}{i:Nat}{x:AP}(h:∀(j:Nat) (y:AP),j<i→rows[j]?=some y→pd y=false)(hx:rows[i]?=some x)(hp:pd x=true):PO pd rows=(i:Int):=by
 obtain ⟨hi,rfl⟩:=sW.1 hx;unfold PO;rw [uy.2 ⟨hi,hp,fun j hj=>by simp [h j _ hj (sV (by omega))]⟩];rfl
theorem jY{pd:AP→Bool}{rows:List AP}(h:∀(j:Nat) (y:AP),j<rows.length→rows[j]?=some y→pd y=false):PO pd rows=-1:=by
 unfold PO;rw [wF.2 fun y hy=>by
  obtain ⟨j,hj⟩:=uP hy;exact h j y (sW.1 hj).1 hj]
 rfl
theorem dZ(pd:AP→Bool)(rows:List AP):(PO pd rows=-1∧∀y∈rows,pd y=false)∨∃(i:Nat) (x:AP),PO pd rows=(i:Int)∧rows[i]?=some x∧pd x=true∧∀(j:Nat) (y:AP),j<i→rows[j]?=some y→pd y=false:=by
 unfold PO;cases h:rows.findIdx? pd with
 |none=>exact .inl ⟨rfl,wF.1 h⟩
 |some i=>
  obtain ⟨h1,h2,h3⟩:=uy.1 h;refine .inr ⟨i,_,rfl,sV h1,h2,fun j y hj hy=>?_⟩;obtain ⟨h4,rfl⟩:=sW.1 hy;simpa using h3 j hj
theorem iM{rs:List AP}{k:Nat}(hk:k<rs.length)(x:AP):(Ac rs).take (k*5)++Ac [x]++(Ac rs).drop (k*5+(Ac [x]).length)=Ac (rs.set k x):=by
 rw [show k*5+(Ac [x]).length=(k+1)*5 by rw [BF];simp;omega,DZ,DL,←BZ,←BZ,wV,if_pos hk];simp
theorem WY{cur:Array Value}{rs:List AP}{k:Nat}{x:AP}(hin:Bw cur 0 (Ac rs))(hx:rs[k]?=some x):k*5+5≤cur.size∧cur.extract (0+k*5) (0+k*5+5)=(Ac [x]).toArray:=by
 have hk:=(sW.1 hx).1;have hs:k*5+5≤cur.size:=by
  have h4:=Kg hx 4 (by decide);have h5:=hin.get (k*5+4) _ (h4.trans (by rfl))
  have:=(tu.1 h5).1;omega
 refine ⟨hs,?_⟩;apply vW.1;apply vg;intro j;rw [uJ,wX];split
 · rename_i hj
   have hj5:j<5:=by omega
   have h1:=Kg hx j hj5;obtain ⟨u,hu⟩:∃u,(Ac [x])[j]?=some u:=⟨_,sV (by rw [BF];simpa using hj5)⟩;rw [hu]at h1;have h2:=hin.get _ _ h1
   rw [uE]at h2;rw [uE,h2];exact hu.symm
 · rw [ul]
   show(Ac [x]).length≤j;rw [BF];simp only [tH];omega
theorem VG{α:Type}{xs:List α}{i:Nat}(hi:i<xs.length)(x:α):(xs.set i x).take (i+1)=xs.take i++[x]:=by
 rw [wV,if_pos hi,List.take_append,su,w9 (by omega)];rw [uH (by rw [su];omega),show i+1 -i=1 by omega];simp
theorem Kw{rows:List AP}{j:Nat}{x:AP}(f:AP→Bool)(hx:rows[j]?=some x):(rows.take (j+1)).filter f=(rows.take j).filter f++(if f x then [x]else []):=by
 rw [Bp hx,uf];congr 1;rw [yj,zJ]
theorem MW{rows:List AP}{f:AP→Bool}(h:∀(j:Nat) (y:AP),rows[j]?=some y→f y=true):rows.filter f=rows:=List.filter_eq_self.2 fun y hy=>by
 obtain ⟨j,hj⟩:=uP hy;exact h j y hj
theorem Qr{A B:List AR}{v:Value}{rows:List AP}(hv:Dv A v rows)(fid:Nat)(us:List Value)(pd:AP→Bool)(hcf:∀(args:Array Value) (w:World),(callFunc fid args).run Tryz.prog w= .ok (.enter fid args) w)(hf:∀x:AP,Au Tryz.prog fid (.agg #[I4 x.t,I4 x.k,I4 x.v.a,I4 x.v.b,I4 x.v.c]::us).toArray [B] (.bool (pd x))):Au Tryz.prog 117 #[v,.func (.func fid) #[] us.toArray] [A,B] (I4 (PO pd rows)):=by
 have hml:=mL;obtain ⟨p,cap,rfl,⟨hl,hlc⟩,hg⟩:=id hv;refine Se func117 ntmps117 [0,1] ?_;intro u R;refine Zq<|Zg<|Za Y<|Z0<|Zx<|Zq<|Zq<|Zg<|Zm Y<|Zv (AU underlying45 Y)<|Zm Y<|Z0<|Zx<|AQ<|Zb [8,0,1,7] ?_;refine Ay (e0:=[(8,_)]) (fun m e H=>∃(i:Nat),m=rows.length -i∧(i≤rows.length∧∀(j:Nat) (y:AP),j<i→rows[j]?=some y→pd y=false)∧e=[(8,I4 (i:Int))]∧H=[]) (by exact ⟨0,rfl,⟨tN _,fun j y h=>by omega⟩,rfl,rfl⟩) Wp ?_;rintro _ _ _ ⟨i,rfl,⟨hi,hno⟩,rfl,rfl⟩;refine Zq<|Zg<|Zv (Aq Y Y)<|Z0<|Zx<|Zq ?_;refine Ao Y (fun hlt=>?_) (fun hlt=>?_)
 ·
  obtain ⟨x,hx⟩:∃x,rows[i]?=some x:=⟨_,sV hlt⟩;obtain ⟨g,off,cur,T,zz,rfl,hm9,hsz9,hex9⟩:=hg i x hx;refine AC<|Zx<|Zq<|AQ<|Zq<|Zg<|Zm Y<|Za Y<|Z0<|Zx<|Zq<|Zg<|Zm Y<|Zm Y<|Zm Y ?_;refine BM (AZ underlying45 sizeOf113 Y Y (by first|omega|decide|(simp;done))) ?_;refine Cg (cs:=[(g,.cells cur T zz)]) (by simp [hm9]) (Ab (cs:=#[I4 x.t,I4 x.k,I4 x.v.a,I4 x.v.b,I4 x.v.c]) isAgg113 sizeOf113 Y (by omega) hex9) rfl rfl ?_;refine Xr [_] Y (hcf) Y rfl (hf x) ?_;refine Z0<|Zx ?_;refine Af Y (fun hpx=>?_) (fun hpx=>?_)
  ·
   refine Zq<|Zg<|Zm Y<|Za Y<|Z0<|Zx<|A9<|AV<|Zt<|Zt<|AV<|Zt ?_;refine AB rfl results117 Y (by exact ⟨congrArg (Value.int .i64) (jX hno hx hpx).symm,rfl⟩)
  refine AC<|A8<|Zx<|Zg<|Ya (n:=1) Y Y<|Zm Y<|Z0<|Zn [8,0,1,7] ?_;refine AY (e':=[(8,_)]) (by exact ⟨i+1,rfl,⟨by omega,fun j y h1 h2=>by rcases u6 j i with h9|h9;exact hno j y h9 h2;obtain rfl:j=i:=(by omega);rw [hx]at h2;injection h2 with h2;subst h2;exact hpx⟩,rfl,rfl⟩)
 have ei:i=rows.length:=by omega
 subst ei;refine Ar<|Zt<|Zt<|AO<|Zx<|Zq<|Zg<|Za Y<|Z0<|Zx<|A9 ?_;refine AB rfl results117 Y (by exact ⟨congrArg (Value.int .i64) (jY hno).symm,rfl⟩)
set_option maxHeartbeats 1000000 in
theorem Wz{B s:List AR}{v:Value}{rows:List AP}(hrow:BX 5 113 v rows.length (Ac rows) s)(hn:rows.length≤1000000000)(fid:Nat)(us:List Value)(pd:AP→Bool)(hcf:∀(args:Array Value) (w:World),(callFunc fid args).run Tryz.prog w= .ok (.enter fid args) w)(hf:∀x:AP,Au Tryz.prog fid (.agg #[I4 x.t,I4 x.k,I4 x.v.a,I4 x.v.b,I4 x.v.c]::us).toArray [B] (.bool (pd x))):CK Tryz.prog 264 #[v,.func (.func fid) #[] us.toArray] [s,B] (fun r H'=>∃s',BX 5 113 r (rows.filter fun x=>!pd x).length (Ac (rows.filter fun x=>!pd x)) s'∧H'=[s',B]):=by
 have hml:=mL;obtain ⟨p,cap,rfl⟩:=hrow.form;have hU:=Dx hrow (by omega)
 refine Se func264 ntmps264 [0,1] ?_;intro u R;refine Zq<|Zg<|Za Y<|Z0<|Zx<|Zq<|Zg<|Zm Y<|Zm Y<|Xr [_,_] Y call117 Y rfl (Qr hU fid us pd hcf hf) ?_;rcases dZ pd rows with⟨e9,hall⟩|⟨k,x0,e9,hx0,hp0,hno⟩
 ·
  rw [e9];refine Za Y<|Z0<|Zx<|Zq<|Zq<|Zg<|Zm Y<|Zv (CE Y Y)<|Z0<|Zx ?_;refine Ao Y (fun h1=>?_) (fun h1=>?_)
  ·
   refine Zq<|Zg<|Zm Y<|Za Y<|Z0<|Zx<|A9<|Zt ?_;refine AB rfl results264 Y (by exact ⟨_,BP hrow (congrArg List.length (MW fun j y hy=>by rw [hall y (tK hy)];rfl).symm) (congrArg Ac (MW fun j y hy=>by rw [hall y (tK hy)];rfl).symm),rfl⟩)
  exact absurd rfl h1
 rw [e9];have hk0:=(sW.1 hx0).1
 obtain ⟨g,cap9,cur,z,hv9,rfl,hle9,hin9⟩:=De hrow (by omega);injection hv9 with hv1 hv2 hv3
 subst hv1 hv3;refine Za Y<|Z0<|Zx<|Zq<|Zq<|Zg<|Zm Y<|Zv (CE Y Y)<|Z0<|Zx ?_;refine Ao Y (fun h2=>?_) (fun h2=>?_)
 ·
  exfalso;omega
 refine AC<|Zx<|Zq<|Zq<|Zg<|Zm Y<|Ya (n:=1) Y Y<|Za Y<|Z0<|Zx<|AQ<|Zb [5,6,0,1] ?_;refine Ay (e0:=[(5,_),(6,_)]) (fun m e H=>∃(i j:Nat) (W:List AP) (cur:Array Value),m=rows.length -j∧((i<j∧j≤rows.length)∧W.length=rows.length∧BX 5 113 (I6 g rows.length cap) rows.length (Ac W) [(g,.cells cur 113 z)]∧W.take i=(rows.take j).filter (fun x=>!pd x)∧∀t,j≤t→W[t]?=rows[t]?)∧e=[(5,I4 (i:Int)),(6,I4 (j:Int))]∧H=[[(g,.cells cur 113 z)]]) (by exact ⟨k,k+1,rows,cur,rfl,⟨⟨by omega,by omega⟩,rfl,hrow,by rw [Kw _ hx0,hp0];simp only [wN,um,if_false,uL];exact (MW (fun j y hy=>by rw [uT]at hy;split at hy;rw [hno j y (by assumption) hy];rfl;cases hy)).symm,fun t _=>rfl⟩,rfl,rfl⟩) Wp ?_;rintro _ _ _ ⟨i,j,W,cur,rfl,⟨hij,hWl,hrW,hWt,hWr⟩,rfl,rfl⟩;obtain ⟨hinW,hcsW,hleW,hcmW,hfrW⟩:=JE hrW;refine Zq<|Zq<|Zg<|Zm Y<|Zm Y<|Zv (AU underlying45 Y)<|Zv (Aq Y Y)<|Z0<|Zx ?_;refine Ao Y (fun hlt=>?_) (fun hlt=>?_)
 ·
  obtain ⟨x,hx⟩:∃x,rows[j]?=some x:=⟨_,sV hlt⟩;obtain ⟨hsz9,hex9⟩:=WY hinW ((hWr j (tJ _)).trans hx);refine AC<|Zx<|Zq<|AQ<|Zq<|Zg<|Zm Y<|Zm Y ?_;refine BM (AZ underlying45 sizeOf113 Y Y (by first|omega|decide|(simp;done))) ?_;refine Zo Wh (Ab (cs:=#[I4 x.t,I4 x.k,I4 x.v.a,I4 x.v.b,I4 x.v.c]) isAgg113 sizeOf113 Y (by omega) hex9) ?_;refine Ze (Al zeroValue113 #[_,_,_,_,_]) ?_;rintro _ _ ⟨bx,rfl,rfl⟩;refine Xe (Xw sizeOf113 #[I4 x.t,I4 x.k,I4 x.v.a,I4 x.v.b,I4 x.v.c]) ?_;refine Z0<|Zx<|Zq<|Zg<|Zm Y<|Zo Wh (Pa #[_,_,_,_,_] isAgg113 sizeOf113 Y) ?_;refine Xr [_] Y (hcf) Y rfl (hf x) ?_;refine Zv (Ca Y)<|Z0<|Zn [0,1,5,6,7,29] ?_;refine Zx ?_;refine Af Y (fun hpx=>?_) (fun hpx=>?_)
  ·
   have hpx:pd x=false:=by simpa using hpx
   have hrW2:=BP (xs':=Ac (W.set i x)) (EG (i:=0+i*5) (ys:=Ac [x]) hrW (by rw [BF,BF,tH];omega)) rfl (by rw [uE];exact iM (by omega) x);refine Zq<|Zg<|Zm Y<|Zm Y<|Zo Wh (Pa #[_,_,_,_,_] isAgg113 sizeOf113 Y) ?_;refine BM (AZ underlying45 sizeOf113 Y Y (by first|omega|decide|(simp;done))) ?_;refine Xe (BO sizeOf113 Y Y (by(simp [Value.oneCell'];done)) Wu (by exact (rfl:_=Ee cur (0+i*5) (Ac [x]))) (by first|rfl|(simp;done)) Wb (by exact hfrW)) ?_;refine Z0<|Zx<|Zg<|Zm Y<|Ya (n:=1) Y Y<|Za Y<|Z0<|A8<|Zx<|Zg<|Zm Y<|Ya (n:=1) Y Y<|Za Y<|Z0<|Zn [5,6,0,1] ?_;refine AY (e':=[(5,_),(6,_)]) (by exact ⟨i+1,j+1,W.set i x,_,rfl,⟨by omega,by rw [List.length_set];exact hWl,hrW2,by rw [VG (by omega),hWt,Kw _ hx];simp [hpx],fun t ht=>by rw [List.getElem?_set_ne (by omega)];exact hWr t (by omega)⟩,rfl,rfl⟩)
  have hpx:pd x=true:=by simpa using hpx
  refine AC<|A8<|Zx<|Zg<|Zm Y<|Ya (n:=1) Y Y<|Za Y<|Z0<|Zn [5,6,0,1] ?_;refine AY (e':=[(5,_),(6,_)]) (by exact ⟨i,j+1,W,cur,rfl,⟨by omega,hWl,hrW,by rw [hWt,Kw _ hx];simp [hpx],fun t ht=>hWr t (by omega)⟩,rfl,rfl⟩)
 have ej:j=rows.length:=by omega
 subst ej;rw [uK]at hWt;have hil:(rows.filter fun x=>!pd x).length=i:=by rw [←hWt,su];omega
 refine Ar<|Zt<|Zt<|AO<|Zx<|Zq<|Zg<|Zm Y<|Zm Y ?_;refine BM (Bz underlying45 sizeOf113 Y Y (by omega)) ?_;refine Ze (Mi underlying45 (rfl:Tryz.prog.info? 113=some Tryz.t113) rfl rfl (by simp [Value.cells,Value.oneCell']) Y (by omega) hcsW hfrW Wo) ?_;rintro _ _ rfl;have hrW3:=Sb (EG (i:=i*5) (ys:=(Builtin.zeroCells (Value.agg #[I4 0,I4 0,I4 0,I4 0,I4 0]).cells (rows.length -i)).toList) hrW (by rw [vV,size_zeroCells,BF];show i*5+(rows.length -i)*5≤_;omega)) i (by omega)
 refine Z0<|Zx<|Zq<|Zg<|Zm Y<|Zm Y ?_;refine BM (Bh underlying45 sizeOf113 Y Y (by omega)) ?_;refine Za Y<|Z0<|Zx<|A9 ?_;refine AB rfl results264 Y (by
  refine ⟨_,BP hrW3 hil.symm ?_,rfl⟩;rw [tF,uZ (by rw [su,BF];omega),DZ,hWt])
theorem jV{A Y D:List Value}{i n:Nat}(hA:A.length=(n+1)*5)(hi:i≤n)(hY:Y.length=5)(hD:D.length=(n -i)*5):(A.take (0+i*5)++Y++A.drop (0+i*5+Y.length)).take (0+(i+1)*5)++D++(A.take (0+i*5)++Y++A.drop (0+i*5+Y.length)).drop (0+(i+1)*5+D.length)=A.take (i*5)++Y++D:=by
 rw [uE,uE,uZ (by rw [si,su];omega),vB (by simp only [si,su,tC];omega),uL]
theorem dS{A Y D:List Value}{i n:Nat}(hA:A.length=(n+1)*5)(hi:i≤n)(hY:Y.length=5)(hD:D.length=(n -i)*5):(A.take (0+(i+1)*5)++D++A.drop (0+(i+1)*5+D.length)).take (0+i*5)++Y++(A.take (0+(i+1)*5)++D++A.drop (0+(i+1)*5+D.length)).drop (0+i*5+Y.length)=A.take (i*5)++Y++D:=by
 rw [uE,uE,vB (l:=A) (by omega),uL,vJ (by rw [su];omega),wY,w9 (by omega),wU (by rw [su];omega)]
theorem VM(rows:List AP)(i:Nat)(y:AP):(Ac rows).take (i*5)++Ac [y]++Ac (rows.drop i)=Ac (rows.take i++[y]++rows.drop i):=by
 rw [DZ,BZ,BZ]
theorem RB{c:Array Value}{rows:List AP}(h:Bw c 0 (Ac rows))(i:Nat)(hi:i≤rows.length):Bw c (0+i*5) (Ac (rows.drop i)):=by
 have h1:=Ia h (i*5) ((rows.length -i)*5) (by rw [BF];omega);rw [DL,uH (by rw [BF,tC];omega)]at h1;exact h1
theorem YZ{c:Array Value}{rows:List AP}(h:Bw c 0 (Ac rows))(i:Nat)(hi:i≤rows.length):Bw c 0 (Ac (rows.take i)):=by
 have h1:=Ia h 0 (i*5) (by rw [BF];omega);rw [wI,DZ]at h1;exact h1
theorem Ua(rows:List AP)(i:Nat)(hi:i≤rows.length)(y:AP):(rows.take i++[y]++rows.drop i).length=rows.length+1:=by
 simp only [si,su,tC,tH];omega
set_option maxHeartbeats 1000000 in
theorem WK{s:List AR}{v:Value}{rows:List AP}(hrow:BX 5 113 v rows.length (Ac rows) s)(hn:rows.length≤1000000000)(i:Nat)(hi:i≤rows.length)(y:AP)(g2:Nat):CK Tryz.prog 265 #[v,I4 (i:Int),I6 g2 1 1] [s,[(g2,.cells #[I4 y.t,I4 y.k,I4 y.v.a,I4 y.v.b,I4 y.v.c] 113 (0,0))]] (fun r H'=>∃s' s2,BX 5 113 r (rows.take i++[y]++rows.drop i).length (Ac (rows.take i++[y]++rows.drop i)) s'∧H'=[s',s2,[(g2,.cells #[I4 y.t,I4 y.k,I4 y.v.a,I4 y.v.b,I4 y.v.c] 113 (0,0))]]):=by
 have hml:=mL;obtain ⟨p,cap,rfl⟩:=hrow.form;have hle:=FE hrow
 refine Se func265 ntmps265 [0,1,2] ?_;intro u R;refine Zq<|Zg<|Za Y<|Z0<|Zx<|Zq<|Bd ?_;refine Zg<|Zm Y<|Zm Y ?_;refine BM (Bz underlying45 sizeOf113 Y Y (by omega)) ?_;refine Z0<|Zx<|Zq<|Zg<|Zm Y<|Zv (AU underlying45 Y)<|Za Y<|Z0<|Zx<|Zq<|Zq<|Zg<|Zm Y<|Zv (C8 (n:=0) Y Y)<|Z0<|Zx ?_;refine Ao Y (fun h0=>?_) (fun h0=>?_)
 ·
  cases h0
 refine AC<|Zx<|Zq<|Zg<|Zm Y<|Zv (AU underlying45 Y)<|Za Y<|Z0<|Zx<|Zq<|Zq<|Zg<|Zm Y<|Zm Y<|Zv (C8 Y Y)<|Z0<|Zn [0,1,2,7,8,22] ?_;refine Zx ?_;refine Ao Y (fun hin=>?_) (fun hin=>?_)
 ·
  refine Zq<|Zg<|Zm Y<|Zm Y ?_;refine Ze (BR (by_:=40) (sz:=5) underlying45 (rfl:Tryz.prog.info? 113=some Tryz.t113) rfl rfl rfl rfl Y (hrow) Y (Da 5 g2 1 1 113 (0,0) (Ac [y]) rfl) Wo Wo (by exact CJ _) (by omega) (by omega)) ?_;rintro _ _ ⟨sw5,hrw5,rfl⟩;obtain ⟨gw5,cw5,rfl⟩:=hrw5.form;refine Za Y<|Z0<|Zx<|A9<|Zt ?_;refine AB rfl results265 Y (by
   have hin:i=rows.length:=by omega
   subst hin;exact ⟨_,[],BP hrw5 (Ua rows _ (tJ _) y).symm (by rw [uK,zq,uL,BZ]),rfl⟩)
 obtain ⟨g,cap9,cur,z,hv9,rfl,hle9,hin9⟩:=De hrow (by omega);injection hv9 with hv1 hv2 hv3
 subst hv1 hv3;obtain ⟨_,hcs,_,hcm,hfr⟩:=JE hrow;refine AC<|Zx<|Zq<|Zq<|Zg<|Zm Y<|Zm Y<|Ya Y Y<|Zm Y<|Zv (Ov underlying45 Y)<|Zv (DK Y Y)<|Z0<|Zx ?_;refine Ao Y (fun hg=>?_) (fun hg=>?_)
 ·
  refine Zq<|Zg<|Zm Y<|Zm Y ?_;refine BM (Bh underlying45 sizeOf113 Y Y (by omega)) ?_;refine Zm Y<|Zm Y<|Ya Y Y<|Zm Y<|Yb Y Y ?_;refine Ze (KU (by_:=40) (sz:=5) (xs:=Ac (rows.take i)) underlying45 underlying3 (rfl:Tryz.prog.info? 113=some Tryz.t113) rfl rfl rfl rfl Y Y Wh (YZ hin9 i hi) (by rw [BF,su];omega) (by omega) (by decide) (by omega) (by omega) (by omega)) ?_;rintro _ _ ⟨s9,hr9,rfl⟩;rw [show i+(rows.length+1 -i)=rows.length+1 by omega]at hr9;have hAl:=hr9.1
  obtain ⟨g3,cap3,cur3,z3,rfl,rfl,hle3,hin3⟩:=De hr9 (by omega);obtain ⟨_,hcs3,_,hcm3,hfr3⟩:=JE hr9;refine Za Y<|Z0<|Zn [0,1,2,7,9] ?_;refine Zx<|Zq<|Zg<|Zm Y<|Zm Y ?_
  (refine BM (Bl underlying45 sizeOf113 Y Y ?_ ?_) ?_;(focus (omega));(focus (omega)))
  refine Zm Y<|Xe (J9 (cs:=Ac [y]) underlying45 sizeOf113 Y Y Wh Wo ((rfl:Bw (#[I4 y.t,I4 y.k,I4 y.v.a,I4 y.v.b,I4 y.v.c]:Array Value) 0 (Ac [y]))) (by rw [BF,tH];omega) (by rw [BF,tH];omega) (hfr3) (CJ _)) ?_;refine Z0<|Zx<|Zq<|BK (n:=9) (0::0::0::6::15::0::0::96::255::[]) 256 (by kernel_rfl) (by kernel_rfl) rfl ?_;refine Zi 1 0 rfl (AJ Y)<|Zi 3 1 rfl (AJ Y)<|Zi 7 2 rfl (AJ Y) ?_;refine Zi 15 3 rfl (D7 Y Y (by omega)) ?_
  (refine EF (D':=31) 4 (Bl underlying45 sizeOf113 Y Y ?_ ?_) ?_;(focus (omega));(focus (omega)))
  refine Zi 63 5 rfl (AJ Y)<|Zi 127 6 rfl (AJ Y) ?_
  (refine EF (D':=255) 7 (Bl underlying45 sizeOf113 Y Y ?_ ?_) ?_;(focus (omega));(focus (omega)))
  refine Yw 8 511 rfl (J9 (cs:=Ac (rows.drop i)) underlying45 sizeOf113 Y Y Wh Wo (RB hin9 i hi) (by rw [BF,tC];omega) (by rw [BF,tC,Fh (by rw [BF,tH];omega)];omega) (by rw [Fh (by rw [BF,tH];omega)];exact hfr3) (CJ _)) ?_;rintro _ _ ⟨rfl,rfl⟩;refine Am ?_;refine Zn [9] ?_;refine Zx<|Zq<|Zg<|Zm Y<|Za Y<|Z0<|Zx<|A9<|Zt ?_;refine AB rfl results265 Y (by
   refine ⟨_,[(g,.cells cur 113 z)],BP (EG (i:=0+(i+1)*5) (ys:=Ac (rows.drop i)) (EG (i:=0+i*5) (ys:=Ac [y]) hr9 (by rw [hAl,BF,tH];omega)) ?_) (Ua rows i hi y).symm ?_,rfl⟩
   · simp only [si,su,tC,hAl,BF,tH];omega
   · rw [jV hAl hi (by rw [BF];rfl) (by rw [BF,tC]),uZ (by rw [BF,su];omega),←DZ,VM])
 refine AC<|Zx<|Zq ?_;obtain ⟨ys9,hyl9,hrM⟩:=Sa hrow (rows.length+1) (by omega) (by omega);have hAl:=hrM.1
 refine Zg<|Zm Y<|Zm Y<|Zm Y<|Ya Y Y ?_;refine BM (Bh underlying45 sizeOf113 Y Y (by omega)) ?_;refine Za Y<|Z0<|Zx<|Zq<|Zq ?_;refine oF (s1:=[(g2,_)]) (s2:=[(g,_)]) (a:=g2) (b:=g) Wo Wo (tO.2 rfl) (tO.2 rfl) (fun hne9=>?_);refine Zg<|Zm Y<|Zm Y<|Zm Y<|Zm Y<|Ya Y Y ?_
 (refine BM (Bl underlying45 sizeOf113 Y Y ?_ ?_) ?_;(focus (omega));(focus (omega)))
 refine Cg (cs:=[(g2,.cells #[I4 y.t,I4 y.k,I4 y.v.a,I4 y.v.b,I4 y.v.c] 113 (0,0)),(g,.cells cur 113 z)]) (by simp) (QY (tR:=4) func296 (by kernel_rfl) (by kernel_rfl) (by kernel_rfl) (by kernel_rfl) underlying45 sizeOf113 Y hne9 (by omega)) rfl rfl ?_;refine Zv (Ca Y)<|Z0<|Zn [0,1,2,7,8,68] ?_;refine Zx ?_;refine Af Y (fun hb9=>?_) (fun hb9=>?_)
 ·
  refine Zq<|BK (n:=9) (0::0::0::6::15::0::0::96::255::[]) 256 (by kernel_rfl) (by kernel_rfl) rfl ?_;refine Zi 1 0 rfl (AJ Y)<|Zi 3 1 rfl (AJ Y)<|Zi 7 2 rfl (AJ Y) ?_;refine Zi 15 3 rfl (D7 Y Y (by omega)) ?_
  (refine EF (D':=31) 4 (Bl underlying45 sizeOf113 Y Y ?_ ?_) ?_;(focus (omega));(focus (omega)))
  refine Zi 63 5 rfl (AJ Y)<|Zi 127 6 rfl (AJ Y) ?_
  (refine EF (D':=255) 7 (Bl underlying45 sizeOf113 Y Y ?_ ?_) ?_;(focus (omega));(focus (omega)))
  refine Yw 8 511 rfl (J9 (cs:=Ac (rows.drop i)) underlying45 sizeOf113 Y Y Wh Wo (RB hin9 i hi) (by rw [BF,tC];omega) (by rw [BF,tC];omega) (hfr) (CJ _)) ?_;rintro _ _ ⟨rfl,rfl⟩;refine Am ?_;refine Zx<|Zq<|Zg<|Zm Y<|Zm Y ?_
  (refine BM (Bl underlying45 sizeOf113 Y Y ?_ ?_) ?_;(focus (omega));(focus (omega)))
  refine Zm Y<|Xe (J9 (cs:=Ac [y]) underlying45 sizeOf113 Y Y Wh Wo ((rfl:Bw (#[I4 y.t,I4 y.k,I4 y.v.a,I4 y.v.b,I4 y.v.c]:Array Value) 0 (Ac [y]))) (by rw [BF,tH];omega) (by rw [BF,tH,Fh (by rw [BF,tC];omega)];omega) (by rw [Fh (by rw [BF,tC];omega)];exact hfr) (CJ _)) ?_;refine Z0<|Zn [0] ?_;refine Zx<|Zq<|Zg<|Zm Y<|Za Y<|Z0<|Zx<|A9<|Zt ?_;refine AB rfl results265 Y (by
   refine ⟨_,[],BP (EG (i:=0+i*5) (ys:=Ac [y]) (EG (i:=0+(i+1)*5) (ys:=Ac (rows.drop i)) hrM (by rw [hAl,BF,tC];omega)) ?_) (Ua rows i hi y).symm ?_,rfl⟩
   · simp only [si,su,tC,BF,hyl9,tH];omega
   · rw [dS hAl hi (by rw [BF];rfl) (by rw [BF,tC]),vJ (by rw [BF];omega),VM])
 cases hb9
structure QM where
 kd:Int
 tb:Int
 cl:Int
 lo:Int
 hi:Int
 bq:Int
 ot:Int
deriving DecidableEq
structure CL where
 rows:List AP
 val:Int
 fnd:Bool
deriving DecidableEq
def inQ(q:QM)(r:AP):Bool:=decide (r.t=q.tb∧q.lo≤Be r q.cl∧Be r q.cl≤q.hi)
def BN(q:QM):Prop:=(0≤q.tb∧q.tb≤3)∧(0≤q.cl∧q.cl≤3)∧(-1000000000≤q.lo∧q.lo≤q.hi∧q.hi≤1000000000)∧
 ((q.kd=1∧q.cl=0∧q.lo=q.hi∧(1≤q.lo∧q.lo≤1000000)∧q.bq=0∧q.ot=0)∨((q.kd=2∨q.kd=3)∧q.bq=0∧q.ot=0)∨
  ((q.kd=4∨q.kd=5∨q.kd=6)∧(1≤q.bq∧q.bq≤3)∧q.ot=0)∨(q.kd=7∧(1≤q.bq∧q.bq≤3)∧(0≤q.ot∧q.ot≤3)))
instance(q:QM):Decidable (BN q):=by unfold BN;infer_instance
def CL.none:CL:=⟨[],0,false⟩
def KZ(ms:List Int):Int:=ms.foldl (·+·) 0
def EL(lt:Int→Int→Bool)(ms:List Int):CL:=ms.foldl (fun r n=>⟨r.rows,if !r.fnd||lt n r.val then n else r.val,true⟩) CL.none
def DU(q:QM)(others:List AP)(k:Int):Option AP:=others.find? (fun x=>decide (x.t=q.ot∧x.k=k))
def IJ(q:QM)(others:List AP)(r:AP):List AP:=match DU q others (Be r q.bq)with
 |some x=>[r,x]
 |none=>[]
def IM(q:QM)(rows others:List AP):List AP:=rows.flatMap (IJ q others)
def Cn(q:QM)(rows:List AP):List Int:=rows.map fun r=>Be r q.bq
def FH(q:QM)(rows others:List AP):CL:=
 if q.kd=3 then⟨[],rows.length,false⟩else if q.kd=4 then⟨[],KZ (Cn q rows),false⟩
 else if q.kd=5 then EL (fun a b=>decide (a<b)) (Cn q rows)else if q.kd=6 then EL (fun a b=>decide (b<a)) (Cn q rows)
 else if q.kd=7 then⟨IM q rows others,0,false⟩else⟨rows,0,false⟩
def CZ(rs:List AP)(q:QM):List AP:=Cj rs q.tb q.cl.toNat q.lo q.hi
def Cz(rs:List AP)(q:QM):CL:=FH q (CZ rs q) (I8 rs q.ot)
def dA(c:Chg):List AP:=if c.had then [⟨c.t,c.k,c.o⟩]else []
def Ho(q:QM)(b:Bool)(r:AP):Option AP:=if b&&inQ q r then some r else none
def bfQ(q:QM)(c:Chg):Option AP:=Ho q c.had ⟨c.t,c.k,c.o⟩
def afQ(q:QM)(c:Chg):Option AP:=Ho q c.has ⟨c.t,c.k,c.n⟩
def mQ(q:QM):Option AP→Int
 |some r=>Be r q.bq
 |none=>0
def Ur(q:QM)(c:Chg):Bool:=(bfQ q c).isSome||(afQ q c).isSome
def Vx(q:QM)(c:Chg):Bool:=(bfQ q c).isSome !=(afQ q c).isSome
def Dt(q:QM)(c:Chg):Bool:=
 if q.kd=1∨q.kd=2 then Ur q c else if q.kd=3 then Vx q c else if q.kd=4 then decide (mQ q (bfQ q c)≠mQ q (afQ q c))
 else if q.kd=5∨q.kd=6 then Vx q c||decide (mQ q (bfQ q c)≠mQ q (afQ q c))else Ur q c||decide (c.t=q.ot)
theorem O5{rs:List AP}{c:Chg}(hf:Fb rs c):∃A B,rs=A++dA c++B∧EH rs c=A++MO c++B:=by
 refine ⟨rs.take (Dm rs c.t c.k),(rs.drop (Dm rs c.t c.k)).drop (if c.had then 1 else 0),?_,rfl⟩;unfold dA;cases hh:c.had with
 |false=>simp
 |true=>
  have h1:(FX rs c.t c.k).2=true:=by rw [hf.1,hh]
  obtain ⟨r,hr,hi,hp,he⟩:=J4 h1;have hv:=hf.2 h1
  rw [he]at hv;have e:r=⟨c.t,c.k,c.o⟩:=by
   obtain ⟨t,k,v⟩:=r;obtain ⟨h5,h6⟩:=hi;simp only at h5 h6 hv;subst h5 h6 hv;rfl
  rw [e]at hp;obtain ⟨hk,hp2⟩:=sW.1 hp;simp only [if_true,tF];conv=>lhs;rw [←uR (Dm rs c.t c.k) rs,vF hk,hp2]
  rw [uO,vF hk];rfl
theorem o6{q:QM}(h:BN q)(r:AP):inR q.tb q.cl.toNat q.lo q.hi r=inQ q r:=by
 have hc:=h.2.1;have:=M9 r q.cl.toNat (by omega)
 rw [show((q.cl.toNat:Nat):Int)=q.cl by omega]at this;unfold inR inQ;rw [this]
theorem Od{q:QM}(h:BN q)(rs:List AP):CZ rs q=(rs.filter (inQ q)).foldl (Rk q.cl.toNat) []:=by
 unfold CZ Cj;rw [yX fun r _=>o6 h r]
theorem Gg{q:QM}(h:BN q)(rs:List AP):(CZ rs q).Perm (rs.filter (inQ q)):=by
 have:=EP rs q.tb q.cl.toNat q.lo q.hi;rwa [yX fun r _=>o6 h r]at this
theorem Qg(q:QM)(c:Chg):(dA c).filter (inQ q)=(bfQ q c).toList:=by
 unfold dA bfQ Ho;cases c.had with
 |false=>rfl
 |true=>simp only [if_true,xO,yj,zJ];split<;>rfl
theorem Qj(q:QM)(c:Chg):(MO c).filter (inQ q)=(afQ q c).toList:=by
 unfold MO afQ Ho;cases c.has with
 |false=>rfl
 |true=>simp only [if_true,xO,yj,zJ];split<;>rfl
def JS:List Int→Int
 |[]=>0
 |x::l=>x+JS l
theorem Lg(l:List Int):∀a,l.foldl (·+·) a=a+JS l:=by
 induction l with
 |nil=>intro a;simp [JS]
 |cons x l ih=>intro a;rw [wh,ih];simp only [JS];omega
theorem VA(a b:List Int):JS (a++b)=JS a+JS b:=by
 induction a with
 |nil=>simp [JS]
 |cons x a ih=>simp only [wB,JS,ih];omega
theorem LM{a b:List Int}(h:a.Perm b):JS a=JS b:=by
 induction h with
 |nil=>rfl
 |cons x _ ih=>simp only [JS,ih]
 |swap x y l=>simp only [JS];omega
 |trans _ _ ih1 ih2=>exact ih1.trans ih2
theorem nK(lt:Int→Int→Bool)(hlt:∀a b c,lt b a=false→lt c b=false→lt c a=false)(hirr:∀a,lt a a=false)(hasy:∀a b,lt a b=true→lt b a=false)(l:List Int):∀(m:Int),∃x,(x=m∨x∈l)∧lt m x=false∧(∀y∈l,lt y x=false)∧l.foldl (fun(r:CL) n=>(⟨r.rows,if !r.fnd||lt n r.val then n else r.val,true⟩:CL)) ⟨[],m,true⟩=⟨[],x,true⟩:=by
 induction l with
 |nil=>intro m;exact ⟨m,.inl rfl,hirr m,by simp,rfl⟩
 |cons z l ih=>
  intro m;rw [wh];cases hz:lt z m with
  |true=>
   obtain ⟨x,h1,h2,h3,h4⟩:=ih z;simp only [wN,yw,hz,if_true];refine ⟨x,.inr (by rcases h1 with h|h;rw [h];simp;exact uV _ h),hlt x z m h2 (hasy z m hz),fun y hy=>?_,h4⟩;rcases u7.1 hy with rfl|hy
   · exact h2
   · exact h3 y hy
  |false=>
   obtain ⟨x,h1,h2,h3,h4⟩:=ih m;simp only [wN,yw,hz,um,if_false];refine ⟨x,by rcases h1 with h|h;exact .inl h;exact .inr (uV _ h),h2,fun y hy=>?_,h4⟩;rcases u7.1 hy with rfl|hy
   · exact hlt x m y h2 hz
   · exact h3 y hy
theorem Jq(lt:Int→Int→Bool)(hlt:∀a b c,lt b a=false→lt c b=false→lt c a=false)(hirr:∀a,lt a a=false)(hasy:∀a b,lt a b=true→lt b a=false)(z:Int)(l:List Int):∃x∈z::l,(∀y∈z::l,lt y x=false)∧EL lt (z::l)=⟨[],x,true⟩:=by
 obtain ⟨x,h1,h2,h3,h4⟩:=nK lt hlt hirr hasy l z;refine ⟨x,by rcases h1 with h|h;rw [h];simp;exact uV _ h,fun y hy=>?_,?_⟩
 · rcases u7.1 hy with rfl|hy
   · exact h2
   · exact h3 y hy
 · unfold EL
   rw [wh];exact h4
theorem NU(lt:Int→Int→Bool)(hlt:∀a b c,lt b a=false→lt c b=false→lt c a=false)(hirr:∀a,lt a a=false)(hasy:∀a b,lt a b=true→lt b a=false)(htot:∀a b,lt a b=false→lt b a=false→a=b){l l':List Int}(h:∀y,y∈l↔y∈l'):EL lt l=EL lt l':=by
 match l,l',h with
 |[],[],_=>rfl
 |[],y::l',h=>have:=(h y).2 (by simp);cases this
 |y::l,[],h=>have:=(h y).1 (by simp);cases this
 |y::l,y'::l',h=>
  obtain ⟨x,a1,a2,a3⟩:=Jq lt hlt hirr hasy y l;obtain ⟨x',b1,b2,b3⟩:=Jq lt hlt hirr hasy y' l';rw [a3,b3,htot x x' (b2 x ((h x).1 a1)) (a2 x' ((h x').2 b1))]
theorem Z8{rs:List AP}{c:Chg}(hf:Fb rs c){t:Int}(h:c.t≠t):I8 (EH rs c) t=I8 rs t:=by
 obtain ⟨A,B,e1,e2⟩:=O5 hf;have z1:(dA c).filter (inT t)=[]:=by
  unfold dA;split
  · simp [inT,h]
  · rfl
 have z2:(MO c).filter (inT t)=[]:=by
  unfold MO;split
  · simp [inT,h]
  · rfl
 unfold I8;rw [e2];conv=>rhs;rw [e1]
 simp only [uf,z1,z2,uL]
theorem Pj{o:Option AP}(h:o.isSome=false):o.toList=[]:=by
 cases o with
 |none=>rfl
 |some x=>cases h
theorem kG{rs:List AP}{c:Chg}{q:QM}(hq:BN q)(hf:Fb rs c)(h:Dt q c=false):Cz (EH rs c) q=Cz rs q:=by
 obtain ⟨A,B,e1,e2⟩:=O5 hf;have f1:rs.filter (inQ q)=A.filter (inQ q)++(bfQ q c).toList++B.filter (inQ q):=by
  conv=>lhs;rw [e1]
  rw [uf,uf,Qg]
 have f2:(EH rs c).filter (inQ q)=A.filter (inQ q)++(afQ q c).toList++B.filter (inQ q):=by
  rw [e2,uf,uf,Qj]
 have p1:=Gg hq rs;have p2:=Gg hq (EH rs c)
 rw [f1]at p1;rw [f2]at p2;have same:(bfQ q c).isSome=false→(afQ q c).isSome=false→CZ (EH rs c) q=CZ rs q:=fun h1 h2=>by
  rw [Od hq,Od hq,f1,f2,Pj h1,Pj h2]
 unfold Dt at h;unfold Cz FH;split at h
 · rename_i hk
   unfold Ur at h;rw [yC]at h;rw [same h.1 h.2,if_neg (by omega),if_neg (by omega),if_neg (by omega),if_neg (by omega),if_neg (by omega),if_neg (by omega),if_neg (by omega),if_neg (by omega),if_neg (by omega),if_neg (by omega)]
 · split at h
   · rename_i hk
     rw [if_pos hk,if_pos hk];have hl:(CZ (EH rs c) q).length=(CZ rs q).length:=by
      rw [p1.length_eq,p2.length_eq];simp only [si];unfold Vx at h;cases hb:bfQ q c<;>cases ha:afQ q c<;>simp [hb,ha]at h⊢
     rw [hl]
   · split at h
     · rename_i hk3 hk
       rw [if_neg hk3,if_neg hk3,if_pos hk,if_pos hk];have hs:KZ (Cn q (CZ (EH rs c) q))=KZ (Cn q (CZ rs q)):=by
        unfold KZ Cn;rw [Lg,Lg,LM (p1.map _),LM (p2.map _)];simp only [uD,VA];have hm:=of_decide_eq_false h
        have key:∀o:Option AP,JS (o.toList.map fun r=>Be r q.bq)=mQ q o:=fun o=>by
         cases o with
         |none=>rfl
         |some x=>simp [JS,mQ]
        rw [key,key];omega
       rw [hs]
     · split at h
       · rename_i hk3 hk4 hk
         rw [yC]at h;have hm:=of_decide_eq_false h.2
         have hone:=h.1;have hmem:∀y,y∈Cn q (CZ (EH rs c) q)↔y∈Cn q (CZ rs q):=fun y=>by
          unfold Cn;rw [(p1.map _).mem_iff,(p2.map _).mem_iff];unfold Vx at hone;cases hb:bfQ q c<;>cases ha:afQ q c<;>simp [hb,ha]at hone⊢
          simp [hb,ha,mQ]at hm;rw [hm]
         rw [if_neg hk3,if_neg hk3,if_neg hk4,if_neg hk4];rcases hk with hk|hk
         · rw [if_pos hk,if_pos hk]
           exact NU _ (by intro a b c;simp;omega) (by intro a;simp) (by intro a b;simp;omega) (by intro a b;simp;omega) hmem
         · rw [if_neg (show¬q.kd=5 by omega),if_neg (show¬q.kd=5 by omega),if_pos hk,if_pos hk]
           exact NU _ (by intro a b c;simp;omega) (by intro a;simp) (by intro a b;simp;omega) (by intro a b;simp;omega) hmem
       · rw [yC]at h
         have ha:=h.1;unfold Ur at ha;rw [yC]at ha;rw [same ha.1 ha.2,Z8 hf (of_decide_eq_false h.2)]
end Go.Proofs.YtkdgffcfmgmemaaGreatDoor
