/- slices.IndexFunc, DeleteFunc, Insert at rows. -/
/- Queries: their results on a state, and which changes touch them. -/
import Derived.Test.YtkdgffcfmgmemaaGreatDoorEz
import Derived.Test.YtkdgffcfmgmemaaGreatDoorTr3
import Derived.Test.YtkdgffcfmgmemaaGreatDoorEx31
set_option linter.unusedVariables false
set_option linter.unusedSimpArgs false
namespace Go.Proofs.YtkdgffcfmgmemaaGreatDoor
open Go.Proofs.Tryz
open Go Go.RowKit Gw
set_option maxRecDepth 100000
attribute [local irreducible] Gw.At Gw.Nx Gw.Ops
def Pe(pd:AQ→Bool)(rows:List AQ):Int:=(rows.findIdx? pd).elim (-1) fun i=>(i:Int)
theorem jy{pd:AQ→Bool}{rows:List AQ}{i:Nat}{x:AQ}(h:∀(j:Nat) (y:AQ),j<i→rows[j]?=some y→pd y=false)(hx:rows[i]?=some x)(hp:pd x=true):Pe pd rows=(i:Int):=by
 obtain ⟨hi,rfl⟩:=tu.1 hx;unfold Pe;rw [vS.2 ⟨hi,hp,fun j hj=>by simp [h j _ hj (tq (by omega))]⟩];rfl
theorem kC{pd:AQ→Bool}{rows:List AQ}(h:∀(j:Nat) (y:AQ),j<rows.length→rows[j]?=some y→pd y=false):Pe pd rows=-1:=by
 unfold Pe;rw [wY.2 fun y hy=>by
  obtain ⟨j,hj⟩:=uq hy;exact h j y (tu.1 hj).1 hj]
 rfl
theorem eP(pd:AQ→Bool)(rows:List AQ):(Pe pd rows=-1∧∀y∈rows,pd y=false)∨∃(i:Nat) (x:AQ),Pe pd rows=(i:Int)∧rows[i]?=some x∧pd x=true∧∀(j:Nat) (y:AQ),j<i→rows[j]?=some y→pd y=false:=by
 unfold Pe;cases h:rows.findIdx? pd with
 |none=>exact .inl ⟨rfl,wY.1 h⟩
 |some i=>
  obtain ⟨h1,h2,h3⟩:=vS.1 h;refine .inr ⟨i,_,rfl,tq h1,h2,fun j y hj hy=>?_⟩;obtain ⟨h4,rfl⟩:=tu.1 hy;simpa using h3 j hj
theorem iq{rs:List AQ}{k:Nat}(hk:k<rs.length)(x:AQ):(Ae rs).take (k*5)++Ae [x]++(Ae rs).drop (k*5+(Ae [x]).length)=Ae (rs.set k x):=by
 rw [show k*5+(Ae [x]).length=(k+1)*5 by rw [BG];simp;omega,De,DV,←Bb,←Bb,xM,if_pos hk];simp
theorem X3{cur:Array Value}{rs:List AQ}{k:Nat}{x:AQ}(hin:CB cur 0 (Ae rs))(hx:rs[k]?=some x):k*5+5≤cur.size∧cur.extract (0+k*5) (0+k*5+5)=(Ae [x]).toArray:=by
 have hk:=(tu.1 hx).1;have hs:k*5+5≤cur.size:=by
  have h4:=Kz hx 4 (by decide);have h5:=hin.get (k*5+4) _ (h4.trans (by rfl))
  have:=(uT.1 h5).1;omega
 refine ⟨hs,?_⟩;apply wN.1;apply wR;intro j;rw [ui,xO];split
 · rename_i hj
   have hj5:j<5:=by omega
   have h1:=Kz hx j hj5;obtain ⟨u,hu⟩:∃u,(Ae [x])[j]?=some u:=⟨_,tq (by rw [BG];simpa using hj5)⟩;rw [hu]at h1;have h2:=hin.get _ _ h1
   rw [uX]at h2;rw [uX,h2];exact hu.symm
 · rw [vM]
   show(Ae [x]).length≤j;rw [BG];simp only [uH];omega
theorem VY{α:Type}{xs:List α}{i:Nat}(hi:i<xs.length)(x:α):(xs.set i x).take (i+1)=xs.take i++[x]:=by
 rw [xM,if_pos hi,List.take_append,uD,wT (by omega)];rw [uf (by rw [uD];omega),show i+1 -i=1 by omega];simp
theorem LM{rows:List AQ}{j:Nat}{x:AQ}(f:AQ→Bool)(hx:rows[j]?=some x):(rows.take (j+1)).filter f=(rows.take j).filter f++(if f x then [x]else []):=by
 rw [Bu hx,vH];congr 1;rw [zO,zi]
theorem Mm{rows:List AQ}{f:AQ→Bool}(h:∀(j:Nat) (y:AQ),rows[j]?=some y→f y=true):rows.filter f=rows:=List.filter_eq_self.2 fun y hy=>by
 obtain ⟨j,hj⟩:=uq hy;exact h j y hj
theorem R8{A B:List AU}{v:Value}{rows:List AQ}(hv:E5 A v rows)(fid:Nat)(us:List Value)(pd:AQ→Bool)(hcf:∀(args:Array Value) (w:World),(callFunc fid args).run Tryz.prog w= .ok (.enter fid args) w)(hf:∀x:AQ,Az Tryz.prog fid (.agg #[I4 x.t,I4 x.k,I4 x.v.a,I4 x.v.b,I4 x.v.c]::us).toArray [B] (.bool (pd x))):Az Tryz.prog 117 #[v,.func (.func fid) #[] us.toArray] [A,B] (I4 (Pe pd rows)):=by
 have hml:=mL;obtain ⟨p,cap,rfl,⟨hl,hlc⟩,hg⟩:=id hv;refine Se func117 ntmps117 [0,1] ?_;intro u R;refine Zq<|Zg<|Za Y<|Z0<|Zx<|Zq<|Zq<|Zg<|Zm Y<|Zv (AV underlying45 Y)<|Zm Y<|Z0<|Zx<|AR<|Zb [8,0,1,7] ?_;refine BB (e0:=[(8,_)]) (fun m e H=>∃(i:Nat),m=rows.length -i∧(i≤rows.length∧∀(j:Nat) (y:AQ),j<i→rows[j]?=some y→pd y=false)∧e=[(8,I4 (i:Int))]∧H=[]) (by exact ⟨0,rfl,⟨uK _,fun j y h=>by omega⟩,rfl,rfl⟩) Wp ?_;rintro _ _ _ ⟨i,rfl,⟨hi,hno⟩,rfl,rfl⟩;refine Zq<|Zg<|Zv (Av Y Y)<|Z0<|Zx<|Zq ?_;refine Aq Y (fun hlt=>?_) (fun hlt=>?_)
 ·
  obtain ⟨x,hx⟩:∃x,rows[i]?=some x:=⟨_,tq hlt⟩;obtain ⟨g,off,cur,T,zz,rfl,hm9,hsz9,hex9⟩:=hg i x hx;refine AB<|Zx<|Zq<|AR<|Zq<|Zg<|Zm Y<|Za Y<|Z0<|Zx<|Zq<|Zg<|Zm Y<|Zm Y<|Zm Y ?_;refine BO (Ac underlying45 sizeOf113 Y Y (by first|omega|decide|(simp;done))) ?_;refine Cm (cs:=[(g,.cells cur T zz)]) (by simp [hm9]) (AZ (cs:=#[I4 x.t,I4 x.k,I4 x.v.a,I4 x.v.b,I4 x.v.c]) isAgg113 sizeOf113 Y (by omega) hex9) rfl rfl ?_;refine Xr [_] Y (hcf) Y rfl (hf x) ?_;refine Z0<|Zx ?_;refine Ag Y (fun hpx=>?_) (fun hpx=>?_)
  ·
   refine Zq<|Zg<|Zm Y<|Za Y<|Z0<|Zx<|AA<|AX<|Zt<|Zt<|AX<|Zt ?_;refine AJ rfl results117 Y (by exact ⟨congrArg (Value.int .i64) (jy hno hx hpx).symm,rfl⟩)
  refine AB<|A8<|Zx<|Zg<|Ya (n:=1) Y Y<|Zm Y<|Z0<|Zn [8,0,1,7] ?_;refine Aa (e':=[(8,_)]) (by exact ⟨i+1,rfl,⟨by omega,fun j y h1 h2=>by rcases uU j i with h9|h9;exact hno j y h9 h2;obtain rfl:j=i:=(by omega);rw [hx]at h2;injection h2 with h2;subst h2;exact hpx⟩,rfl,rfl⟩)
 have ei:i=rows.length:=by omega
 subst ei;refine Aw<|Zt<|Zt<|AP<|Zx<|Zq<|Zg<|Za Y<|Z0<|Zx<|AA ?_;refine AJ rfl results117 Y (by exact ⟨congrArg (Value.int .i64) (kC hno).symm,rfl⟩)
set_option maxHeartbeats 1000000 in
theorem XI{B s:List AU}{v:Value}{rows:List AQ}(hrow:BZ 5 113 v rows.length (Ae rows) s)(hn:rows.length≤1000000000)(fid:Nat)(us:List Value)(pd:AQ→Bool)(hcf:∀(args:Array Value) (w:World),(callFunc fid args).run Tryz.prog w= .ok (.enter fid args) w)(hf:∀x:AQ,Az Tryz.prog fid (.agg #[I4 x.t,I4 x.k,I4 x.v.a,I4 x.v.b,I4 x.v.c]::us).toArray [B] (.bool (pd x))):CQ Tryz.prog 264 #[v,.func (.func fid) #[] us.toArray] [s,B] (fun r H'=>∃s',BZ 5 113 r (rows.filter fun x=>!pd x).length (Ae (rows.filter fun x=>!pd x)) s'∧H'=[s',B]):=by
 have hml:=mL;obtain ⟨p,cap,rfl⟩:=hrow.form;have hU:=Cz hrow (by omega)
 refine Se func264 ntmps264 [0,1] ?_;intro u R;refine Zq<|Zg<|Za Y<|Z0<|Zx<|Zq<|Zg<|Zm Y<|Zm Y<|Xr [_,_] Y call117 Y rfl (R8 hU fid us pd hcf hf) ?_;rcases eP pd rows with⟨e9,hall⟩|⟨k,x0,e9,hx0,hp0,hno⟩
 ·
  rw [e9];refine Za Y<|Z0<|Zx<|Zq<|Zq<|Zg<|Zm Y<|Zv (CO Y Y)<|Z0<|Zx ?_;refine Aq Y (fun h1=>?_) (fun h1=>?_)
  ·
   refine Zq<|Zg<|Zm Y<|Za Y<|Z0<|Zx<|AA<|Zt ?_;refine AJ rfl results264 Y (by exact ⟨_,BP hrow (congrArg List.length (Mm fun j y hy=>by rw [hall y (uI hy)];rfl).symm) (congrArg Ae (Mm fun j y hy=>by rw [hall y (uI hy)];rfl).symm),rfl⟩)
  exact absurd rfl h1
 rw [e9];have hk0:=(tu.1 hx0).1
 obtain ⟨g,cap9,cur,z,hv9,rfl,hle9,hin9⟩:=Di hrow (by omega);injection hv9 with hv1 hv2 hv3
 subst hv1 hv3;refine Za Y<|Z0<|Zx<|Zq<|Zq<|Zg<|Zm Y<|Zv (CO Y Y)<|Z0<|Zx ?_;refine Aq Y (fun h2=>?_) (fun h2=>?_)
 ·
  exfalso;omega
 refine AB<|Zx<|Zq<|Zq<|Zg<|Zm Y<|Ya (n:=1) Y Y<|Za Y<|Z0<|Zx<|AR<|Zb [5,6,0,1] ?_;refine BB (e0:=[(5,_),(6,_)]) (fun m e H=>∃(i j:Nat) (W:List AQ) (cur:Array Value),m=rows.length -j∧((i<j∧j≤rows.length)∧W.length=rows.length∧BZ 5 113 (I6 g rows.length cap) rows.length (Ae W) [(g,.cells cur 113 z)]∧W.take i=(rows.take j).filter (fun x=>!pd x)∧∀t,j≤t→W[t]?=rows[t]?)∧e=[(5,I4 (i:Int)),(6,I4 (j:Int))]∧H=[[(g,.cells cur 113 z)]]) (by exact ⟨k,k+1,rows,cur,rfl,⟨⟨by omega,by omega⟩,rfl,hrow,by rw [LM _ hx0,hp0];simp only [xD,vN,if_false,uj];exact (Mm (fun j y hy=>by rw [uz]at hy;split at hy;rw [hno j y (by assumption) hy];rfl;cases hy)).symm,fun t _=>rfl⟩,rfl,rfl⟩) Wp ?_;rintro _ _ _ ⟨i,j,W,cur,rfl,⟨hij,hWl,hrW,hWt,hWr⟩,rfl,rfl⟩;obtain ⟨hinW,hcsW,hleW,hcmW,hfrW⟩:=JR hrW;refine Zq<|Zq<|Zg<|Zm Y<|Zm Y<|Zv (AV underlying45 Y)<|Zv (Av Y Y)<|Z0<|Zx ?_;refine Aq Y (fun hlt=>?_) (fun hlt=>?_)
 ·
  obtain ⟨x,hx⟩:∃x,rows[j]?=some x:=⟨_,tq hlt⟩;obtain ⟨hsz9,hex9⟩:=X3 hinW ((hWr j (uG _)).trans hx);refine AB<|Zx<|Zq<|AR<|Zq<|Zg<|Zm Y<|Zm Y ?_;refine BO (Ac underlying45 sizeOf113 Y Y (by first|omega|decide|(simp;done))) ?_;refine Zo Wh (AZ (cs:=#[I4 x.t,I4 x.k,I4 x.v.a,I4 x.v.b,I4 x.v.c]) isAgg113 sizeOf113 Y (by omega) hex9) ?_;refine Ze (Al zeroValue113 #[_,_,_,_,_]) ?_;rintro _ _ ⟨bx,rfl,rfl⟩;refine Xe (Xw sizeOf113 #[I4 x.t,I4 x.k,I4 x.v.a,I4 x.v.b,I4 x.v.c]) ?_;refine Z0<|Zx<|Zq<|Zg<|Zm Y<|Zo Wh (Pa #[_,_,_,_,_] isAgg113 sizeOf113 Y) ?_;refine Xr [_] Y (hcf) Y rfl (hf x) ?_;refine Zv (Cg Y)<|Z0<|Zn [0,1,5,6,7,29] ?_;refine Zx ?_;refine Ag Y (fun hpx=>?_) (fun hpx=>?_)
  ·
   have hpx:pd x=false:=by simpa using hpx
   have hrW2:=BP (xs':=Ae (W.set i x)) (EK (i:=0+i*5) (ys:=Ae [x]) hrW (by rw [BG,BG,uH];omega)) rfl (by rw [uX];exact iq (by omega) x);refine Zq<|Zg<|Zm Y<|Zm Y<|Zo Wh (Pa #[_,_,_,_,_] isAgg113 sizeOf113 Y) ?_;refine BO (Ac underlying45 sizeOf113 Y Y (by first|omega|decide|(simp;done))) ?_;refine Xe (BQ sizeOf113 Y Y (by(simp [Value.oneCell'];done)) Wu (by exact (rfl:_=Eh cur (0+i*5) (Ae [x]))) (by first|rfl|(simp;done)) Wb (by exact hfrW)) ?_;refine Z0<|Zx<|Zg<|Zm Y<|Ya (n:=1) Y Y<|Za Y<|Z0<|A8<|Zx<|Zg<|Zm Y<|Ya (n:=1) Y Y<|Za Y<|Z0<|Zn [5,6,0,1] ?_;refine Aa (e':=[(5,_),(6,_)]) (by exact ⟨i+1,j+1,W.set i x,_,rfl,⟨by omega,by rw [List.length_set];exact hWl,hrW2,by rw [VY (by omega),hWt,LM _ hx];simp [hpx],fun t ht=>by rw [List.getElem?_set_ne (by omega)];exact hWr t (by omega)⟩,rfl,rfl⟩)
  have hpx:pd x=true:=by simpa using hpx
  refine AB<|A8<|Zx<|Zg<|Zm Y<|Ya (n:=1) Y Y<|Za Y<|Z0<|Zn [5,6,0,1] ?_;refine Aa (e':=[(5,_),(6,_)]) (by exact ⟨i,j+1,W,cur,rfl,⟨by omega,hWl,hrW,by rw [hWt,LM _ hx];simp [hpx],fun t ht=>hWr t (by omega)⟩,rfl,rfl⟩)
 have ej:j=rows.length:=by omega
 subst ej;rw [ug]at hWt;have hil:(rows.filter fun x=>!pd x).length=i:=by rw [←hWt,uD];omega
 refine Aw<|Zt<|Zt<|AP<|Zx<|Zq<|Zg<|Zm Y<|Zm Y ?_;refine BO (CE underlying45 sizeOf113 Y Y (by omega)) ?_;refine Ze (N9 underlying45 (rfl:Tryz.prog.info? 113=some Tryz.t113) rfl rfl (by simp [Value.cells,Value.oneCell']) Y (by omega) hcsW hfrW Wo) ?_;rintro _ _ rfl;have hrW3:=T9 (EK (i:=i*5) (ys:=(Builtin.zeroCells (Value.agg #[I4 0,I4 0,I4 0,I4 0,I4 0]).cells (rows.length -i)).toList) hrW (by rw [wM,size_zeroCells,BG];show i*5+(rows.length -i)*5≤_;omega)) i (by omega)
 refine Z0<|Zx<|Zq<|Zg<|Zm Y<|Zm Y ?_;refine BO (Bj underlying45 sizeOf113 Y Y (by omega)) ?_;refine Za Y<|Z0<|Zx<|AA ?_;refine AJ rfl results264 Y (by
  refine ⟨_,BP hrW3 hil.symm ?_,rfl⟩;rw [uF,vG (by rw [uD,BG];omega),De,hWt])
theorem jv{A Y D:List Value}{i n:Nat}(hA:A.length=(n+1)*5)(hi:i≤n)(hY:Y.length=5)(hD:D.length=(n -i)*5):(A.take (0+i*5)++Y++A.drop (0+i*5+Y.length)).take (0+(i+1)*5)++D++(A.take (0+i*5)++Y++A.drop (0+i*5+Y.length)).drop (0+(i+1)*5+D.length)=A.take (i*5)++Y++D:=by
 rw [uX,uX,vG (by rw [u6,uD];omega),vU (by simp only [u6,uD,uE];omega),uj]
theorem eB{A Y D:List Value}{i n:Nat}(hA:A.length=(n+1)*5)(hi:i≤n)(hY:Y.length=5)(hD:D.length=(n -i)*5):(A.take (0+(i+1)*5)++D++A.drop (0+(i+1)*5+D.length)).take (0+i*5)++Y++(A.take (0+(i+1)*5)++D++A.drop (0+(i+1)*5+D.length)).drop (0+i*5+Y.length)=A.take (i*5)++Y++D:=by
 rw [uX,uX,vU (l:=A) (by omega),uj,vv (by rw [uD];omega),xP,wT (by omega),xL (by rw [uD];omega)]
theorem Vg(rows:List AQ)(i:Nat)(y:AQ):(Ae rows).take (i*5)++Ae [y]++Ae (rows.drop i)=Ae (rows.take i++[y]++rows.drop i):=by
 rw [De,Bb,Bb]
theorem RX{c:Array Value}{rows:List AQ}(h:CB c 0 (Ae rows))(i:Nat)(hi:i≤rows.length):CB c (0+i*5) (Ae (rows.drop i)):=by
 have h1:=Ik h (i*5) ((rows.length -i)*5) (by rw [BG];omega);rw [DV,uf (by rw [BG,uE];omega)]at h1;exact h1
theorem Yy{c:Array Value}{rows:List AQ}(h:CB c 0 (Ae rows))(i:Nat)(hi:i≤rows.length):CB c 0 (Ae (rows.take i)):=by
 have h1:=Ik h 0 (i*5) (by rw [BG];omega);rw [wm,De]at h1;exact h1
theorem Uu(rows:List AQ)(i:Nat)(hi:i≤rows.length)(y:AQ):(rows.take i++[y]++rows.drop i).length=rows.length+1:=by
 simp only [u6,uD,uE,uH];omega
set_option maxHeartbeats 1000000 in
theorem Wd{s:List AU}{v:Value}{rows:List AQ}(hrow:BZ 5 113 v rows.length (Ae rows) s)(hn:rows.length≤1000000000)(i:Nat)(hi:i≤rows.length)(y:AQ)(g2:Nat):CQ Tryz.prog 265 #[v,I4 (i:Int),I6 g2 1 1] [s,[(g2,.cells #[I4 y.t,I4 y.k,I4 y.v.a,I4 y.v.b,I4 y.v.c] 113 (0,0))]] (fun r H'=>∃s' s2,BZ 5 113 r (rows.take i++[y]++rows.drop i).length (Ae (rows.take i++[y]++rows.drop i)) s'∧H'=[s',s2,[(g2,.cells #[I4 y.t,I4 y.k,I4 y.v.a,I4 y.v.b,I4 y.v.c] 113 (0,0))]]):=by
 have hml:=mL;obtain ⟨p,cap,rfl⟩:=hrow.form;have hle:=FL hrow
 refine Se func265 ntmps265 [0,1,2] ?_;intro u R;refine Zq<|Zg<|Za Y<|Z0<|Zx<|Zq<|Bf ?_;refine Zg<|Zm Y<|Zm Y ?_;refine BO (CE underlying45 sizeOf113 Y Y (by omega)) ?_;refine Z0<|Zx<|Zq<|Zg<|Zm Y<|Zv (AV underlying45 Y)<|Za Y<|Z0<|Zx<|Zq<|Zq<|Zg<|Zm Y<|Zv (CF (n:=0) Y Y)<|Z0<|Zx ?_;refine Aq Y (fun h0=>?_) (fun h0=>?_)
 ·
  cases h0
 refine AB<|Zx<|Zq<|Zg<|Zm Y<|Zv (AV underlying45 Y)<|Za Y<|Z0<|Zx<|Zq<|Zq<|Zg<|Zm Y<|Zm Y<|Zv (CF Y Y)<|Z0<|Zn [0,1,2,7,8,22] ?_;refine Zx ?_;refine Aq Y (fun hin=>?_) (fun hin=>?_)
 ·
  refine Zq<|Zg<|Zm Y<|Zm Y ?_;refine Ze (BR (by_:=40) (sz:=5) underlying45 (rfl:Tryz.prog.info? 113=some Tryz.t113) rfl rfl rfl rfl Y (hrow) Y (Da 5 g2 1 1 113 (0,0) (Ae [y]) rfl) Wo Wo (by exact CS _) (by omega) (by omega)) ?_;rintro _ _ ⟨sw5,hrw5,rfl⟩;obtain ⟨gw5,cw5,rfl⟩:=hrw5.form;refine Za Y<|Z0<|Zx<|AA<|Zt ?_;refine AJ rfl results265 Y (by
   have hin:i=rows.length:=by omega
   subst hin;exact ⟨_,[],BP hrw5 (Uu rows _ (uG _) y).symm (by rw [ug,AB0,uj,Bb]),rfl⟩)
 obtain ⟨g,cap9,cur,z,hv9,rfl,hle9,hin9⟩:=Di hrow (by omega);injection hv9 with hv1 hv2 hv3
 subst hv1 hv3;obtain ⟨_,hcs,_,hcm,hfr⟩:=JR hrow;refine AB<|Zx<|Zq<|Zq<|Zg<|Zm Y<|Zm Y<|Ya Y Y<|Zm Y<|Zv (PM underlying45 Y)<|Zv (DU Y Y)<|Z0<|Zx ?_;refine Aq Y (fun hg=>?_) (fun hg=>?_)
 ·
  refine Zq<|Zg<|Zm Y<|Zm Y ?_;refine BO (Bj underlying45 sizeOf113 Y Y (by omega)) ?_;refine Zm Y<|Zm Y<|Ya Y Y<|Zm Y<|Yb Y Y ?_;refine Ze (Kl (by_:=40) (sz:=5) (xs:=Ae (rows.take i)) underlying45 underlying3 (rfl:Tryz.prog.info? 113=some Tryz.t113) rfl rfl rfl rfl Y Y Wh (Yy hin9 i hi) (by rw [BG,uD];omega) (by omega) (by decide) (by omega) (by omega) (by omega)) ?_;rintro _ _ ⟨s9,hr9,rfl⟩;rw [show i+(rows.length+1 -i)=rows.length+1 by omega]at hr9;have hAl:=hr9.1
  obtain ⟨g3,cap3,cur3,z3,rfl,rfl,hle3,hin3⟩:=Di hr9 (by omega);obtain ⟨_,hcs3,_,hcm3,hfr3⟩:=JR hr9;refine Za Y<|Z0<|Zn [0,1,2,7,9] ?_;refine Zx<|Zq<|Zg<|Zm Y<|Zm Y ?_
  (refine BO (Bo underlying45 sizeOf113 Y Y ?_ ?_) ?_;(focus (omega));(focus (omega)))
  refine Zm Y<|Xe (JM (cs:=Ae [y]) underlying45 sizeOf113 Y Y Wh Wo ((rfl:CB (#[I4 y.t,I4 y.k,I4 y.v.a,I4 y.v.b,I4 y.v.c]:Array Value) 0 (Ae [y]))) (by rw [BG,uH];omega) (by rw [BG,uH];omega) (hfr3) (CS _)) ?_;refine Z0<|Zx<|Zq<|BK (n:=9) (0::0::0::6::15::0::0::96::255::[]) 256 (by kernel_rfl) (by kernel_rfl) rfl ?_;refine Zi 1 0 rfl (AL Y)<|Zi 3 1 rfl (AL Y)<|Zi 7 2 rfl (AL Y) ?_;refine Zi 15 3 rfl (DJ Y Y (by omega)) ?_
  (refine Dz (D':=31) 4 (Bo underlying45 sizeOf113 Y Y ?_ ?_) ?_;(focus (omega));(focus (omega)))
  refine Zi 63 5 rfl (AL Y)<|Zi 127 6 rfl (AL Y) ?_
  (refine Dz (D':=255) 7 (Bo underlying45 sizeOf113 Y Y ?_ ?_) ?_;(focus (omega));(focus (omega)))
  refine Yw 8 511 rfl (JM (cs:=Ae (rows.drop i)) underlying45 sizeOf113 Y Y Wh Wo (RX hin9 i hi) (by rw [BG,uE];omega) (by rw [BG,uE,Fu (by rw [BG,uH];omega)];omega) (by rw [Fu (by rw [BG,uH];omega)];exact hfr3) (CS _)) ?_;rintro _ _ ⟨rfl,rfl⟩;refine Ao ?_;refine Zn [9] ?_;refine Zx<|Zq<|Zg<|Zm Y<|Za Y<|Z0<|Zx<|AA<|Zt ?_;refine AJ rfl results265 Y (by
   refine ⟨_,[(g,.cells cur 113 z)],BP (EK (i:=0+(i+1)*5) (ys:=Ae (rows.drop i)) (EK (i:=0+i*5) (ys:=Ae [y]) hr9 (by rw [hAl,BG,uH];omega)) ?_) (Uu rows i hi y).symm ?_,rfl⟩
   · simp only [u6,uD,uE,hAl,BG,uH];omega
   · rw [jv hAl hi (by rw [BG];rfl) (by rw [BG,uE]),vG (by rw [BG,uD];omega),←De,Vg])
 refine AB<|Zx<|Zq ?_;obtain ⟨ys9,hyl9,hrM⟩:=Sz hrow (rows.length+1) (by omega) (by omega);have hAl:=hrM.1
 refine Zg<|Zm Y<|Zm Y<|Zm Y<|Ya Y Y ?_;refine BO (Bj underlying45 sizeOf113 Y Y (by omega)) ?_;refine Za Y<|Z0<|Zx<|Zq<|Zq ?_;refine oo (s1:=[(g2,_)]) (s2:=[(g,_)]) (a:=g2) (b:=g) Wo Wo (uL.2 rfl) (uL.2 rfl) (fun hne9=>?_);refine Zg<|Zm Y<|Zm Y<|Zm Y<|Zm Y<|Ya Y Y ?_
 (refine BO (Bo underlying45 sizeOf113 Y Y ?_ ?_) ?_;(focus (omega));(focus (omega)))
 refine Cm (cs:=[(g2,.cells #[I4 y.t,I4 y.k,I4 y.v.a,I4 y.v.b,I4 y.v.c] 113 (0,0)),(g,.cells cur 113 z)]) (by simp) (Qm (tR:=4) func296 (by kernel_rfl) (by kernel_rfl) (by kernel_rfl) (by kernel_rfl) underlying45 sizeOf113 Y hne9 (by omega)) rfl rfl ?_;refine Zv (Cg Y)<|Z0<|Zn [0,1,2,7,8,68] ?_;refine Zx ?_;refine Ag Y (fun hb9=>?_) (fun hb9=>?_)
 ·
  refine Zq<|BK (n:=9) (0::0::0::6::15::0::0::96::255::[]) 256 (by kernel_rfl) (by kernel_rfl) rfl ?_;refine Zi 1 0 rfl (AL Y)<|Zi 3 1 rfl (AL Y)<|Zi 7 2 rfl (AL Y) ?_;refine Zi 15 3 rfl (DJ Y Y (by omega)) ?_
  (refine Dz (D':=31) 4 (Bo underlying45 sizeOf113 Y Y ?_ ?_) ?_;(focus (omega));(focus (omega)))
  refine Zi 63 5 rfl (AL Y)<|Zi 127 6 rfl (AL Y) ?_
  (refine Dz (D':=255) 7 (Bo underlying45 sizeOf113 Y Y ?_ ?_) ?_;(focus (omega));(focus (omega)))
  refine Yw 8 511 rfl (JM (cs:=Ae (rows.drop i)) underlying45 sizeOf113 Y Y Wh Wo (RX hin9 i hi) (by rw [BG,uE];omega) (by rw [BG,uE];omega) (hfr) (CS _)) ?_;rintro _ _ ⟨rfl,rfl⟩;refine Ao ?_;refine Zx<|Zq<|Zg<|Zm Y<|Zm Y ?_
  (refine BO (Bo underlying45 sizeOf113 Y Y ?_ ?_) ?_;(focus (omega));(focus (omega)))
  refine Zm Y<|Xe (JM (cs:=Ae [y]) underlying45 sizeOf113 Y Y Wh Wo ((rfl:CB (#[I4 y.t,I4 y.k,I4 y.v.a,I4 y.v.b,I4 y.v.c]:Array Value) 0 (Ae [y]))) (by rw [BG,uH];omega) (by rw [BG,uH,Fu (by rw [BG,uE];omega)];omega) (by rw [Fu (by rw [BG,uE];omega)];exact hfr) (CS _)) ?_;refine Z0<|Zn [0] ?_;refine Zx<|Zq<|Zg<|Zm Y<|Za Y<|Z0<|Zx<|AA<|Zt ?_;refine AJ rfl results265 Y (by
   refine ⟨_,[],BP (EK (i:=0+i*5) (ys:=Ae [y]) (EK (i:=0+(i+1)*5) (ys:=Ae (rows.drop i)) hrM (by rw [hAl,BG,uE];omega)) ?_) (Uu rows i hi y).symm ?_,rfl⟩
   · simp only [u6,uD,uE,BG,hyl9,uH];omega
   · rw [eB hAl hi (by rw [BG];rfl) (by rw [BG,uE]),vv (by rw [BG];omega),Vg])
 cases hb9
structure QM where
 kd:Int
 tb:Int
 cl:Int
 lo:Int
 hi:Int
 bq:Int
 ot:Int
deriving DecidableEq
structure CJ where
 rows:List AQ
 val:Int
 fnd:Bool
deriving DecidableEq
def inQ(q:QM)(r:AQ):Bool:=decide (r.t=q.tb∧q.lo≤Bg r q.cl∧Bg r q.cl≤q.hi)
def BN(q:QM):Prop:=(0≤q.tb∧q.tb≤3)∧(0≤q.cl∧q.cl≤3)∧(-1000000000≤q.lo∧q.lo≤q.hi∧q.hi≤1000000000)∧
 ((q.kd=1∧q.cl=0∧q.lo=q.hi∧(1≤q.lo∧q.lo≤1000000)∧q.bq=0∧q.ot=0)∨((q.kd=2∨q.kd=3)∧q.bq=0∧q.ot=0)∨
  ((q.kd=4∨q.kd=5∨q.kd=6)∧(1≤q.bq∧q.bq≤3)∧q.ot=0)∨(q.kd=7∧(1≤q.bq∧q.bq≤3)∧(0≤q.ot∧q.ot≤3)))
instance(q:QM):Decidable (BN q):=by unfold BN;infer_instance
def CJ.none:CJ:=⟨[],0,false⟩
def Kr(ms:List Int):Int:=ms.foldl (·+·) 0
def EC(lt:Int→Int→Bool)(ms:List Int):CJ:=ms.foldl (fun r n=>⟨r.rows,if !r.fnd||lt n r.val then n else r.val,true⟩) CJ.none
def Db(q:QM)(others:List AQ)(k:Int):Option AQ:=others.find? (fun x=>decide (x.t=q.ot∧x.k=k))
def IV(q:QM)(others:List AQ)(r:AQ):List AQ:=match Db q others (Bg r q.bq)with
 |some x=>[r,x]
 |none=>[]
def IY(q:QM)(rows others:List AQ):List AQ:=rows.flatMap (IV q others)
def Cb(q:QM)(rows:List AQ):List Int:=rows.map fun r=>Bg r q.bq
def F3(q:QM)(rows others:List AQ):CJ:=
 if q.kd=3 then⟨[],rows.length,false⟩else if q.kd=4 then⟨[],Kr (Cb q rows),false⟩
 else if q.kd=5 then EC (fun a b=>decide (a<b)) (Cb q rows)else if q.kd=6 then EC (fun a b=>decide (b<a)) (Cb q rows)
 else if q.kd=7 then⟨IY q rows others,0,false⟩else⟨rows,0,false⟩
def CK(rs:List AQ)(q:QM):List AQ:=Cn rs q.tb q.cl.toNat q.lo q.hi
def CV(rs:List AQ)(q:QM):CJ:=F3 q (CK rs q) (FN rs q.ot)
def dQ(c:Chg):List AQ:=if c.had then [⟨c.t,c.k,c.o⟩]else []
def I8(q:QM)(b:Bool)(r:AQ):Option AQ:=if b&&inQ q r then some r else none
def bfQ(q:QM)(c:Chg):Option AQ:=I8 q c.had ⟨c.t,c.k,c.o⟩
def afQ(q:QM)(c:Chg):Option AQ:=I8 q c.has ⟨c.t,c.k,c.n⟩
def mQ(q:QM):Option AQ→Int
 |some r=>Bg r q.bq
 |none=>0
def VG(q:QM)(c:Chg):Bool:=(bfQ q c).isSome||(afQ q c).isSome
def WO(q:QM)(c:Chg):Bool:=(bfQ q c).isSome !=(afQ q c).isSome
def Dx(q:QM)(c:Chg):Bool:=
 if q.kd=1∨q.kd=2 then VG q c else if q.kd=3 then WO q c else if q.kd=4 then decide (mQ q (bfQ q c)≠mQ q (afQ q c))
 else if q.kd=5∨q.kd=6 then WO q c||decide (mQ q (bfQ q c)≠mQ q (afQ q c))else VG q c||decide (c.t=q.ot)
theorem OL{rs:List AQ}{c:Chg}(hf:Fh rs c):∃A B,rs=A++dQ c++B∧EL rs c=A++Mf c++B:=by
 refine ⟨rs.take (Dr rs c.t c.k),(rs.drop (Dr rs c.t c.k)).drop (if c.had then 1 else 0),?_,rfl⟩;unfold dQ;cases hh:c.had with
 |false=>simp
 |true=>
  have h1:(Fe rs c.t c.k).2=true:=by rw [hf.1,hh]
  obtain ⟨r,hr,hi,hp,he⟩:=JH h1;have hv:=hf.2 h1
  rw [he]at hv;have e:r=⟨c.t,c.k,c.o⟩:=by
   obtain ⟨t,k,v⟩:=r;obtain ⟨h5,h6⟩:=hi;simp only at h5 h6 hv;subst h5 h6 hv;rfl
  rw [e]at hp;obtain ⟨hk,hp2⟩:=tu.1 hp;simp only [if_true,uF];conv=>lhs;rw [←uw (Dr rs c.t c.k) rs,vY hk,hp2]
  rw [uo,vY hk];rfl
theorem oZ{q:QM}(h:BN q)(r:AQ):inR q.tb q.cl.toNat q.lo q.hi r=inQ q r:=by
 have hc:=h.2.1;have:=MS r q.cl.toNat (by omega)
 rw [show((q.cl.toNat:Nat):Int)=q.cl by omega]at this;unfold inR inQ;rw [this]
theorem Ow{q:QM}(h:BN q)(rs:List AQ):CK rs q=(rs.filter (inQ q)).foldl (S9 q.cl.toNat) []:=by
 unfold CK Cn;rw [zI fun r _=>oZ h r]
theorem Gt{q:QM}(h:BN q)(rs:List AQ):(CK rs q).Perm (rs.filter (inQ q)):=by
 have:=ES rs q.tb q.cl.toNat q.lo q.hi;rwa [zI fun r _=>oZ h r]at this
theorem Qt(q:QM)(c:Chg):(dQ c).filter (inQ q)=(bfQ q c).toList:=by
 unfold dQ bfQ I8;cases c.had with
 |false=>rfl
 |true=>simp only [if_true,yA,zO,zi];split<;>rfl
theorem Qw(q:QM)(c:Chg):(Mf c).filter (inQ q)=(afQ q c).toList:=by
 unfold Mf afQ I8;cases c.has with
 |false=>rfl
 |true=>simp only [if_true,yA,zO,zi];split<;>rfl
def Jg:List Int→Int
 |[]=>0
 |x::l=>x+Jg l
theorem M4(l:List Int):∀a,l.foldl (·+·) a=a+Jg l:=by
 induction l with
 |nil=>intro a;simp [Jg]
 |cons x l ih=>intro a;rw [xR,ih];simp only [Jg];omega
theorem VT(a b:List Int):Jg (a++b)=Jg a+Jg b:=by
 induction a with
 |nil=>simp [Jg]
 |cons x a ih=>simp only [wU,Jg,ih];omega
theorem Li{a b:List Int}(h:a.Perm b):Jg a=Jg b:=by
 induction h with
 |nil=>rfl
 |cons x _ ih=>simp only [Jg,ih]
 |swap x y l=>simp only [Jg];omega
 |trans _ _ ih1 ih2=>exact ih1.trans ih2
theorem ny(lt:Int→Int→Bool)(hlt:∀a b c,lt b a=false→lt c b=false→lt c a=false)(hirr:∀a,lt a a=false)(hasy:∀a b,lt a b=true→lt b a=false)(l:List Int):∀(m:Int),∃x,(x=m∨x∈l)∧lt m x=false∧(∀y∈l,lt y x=false)∧l.foldl (fun(r:CJ) n=>(⟨r.rows,if !r.fnd||lt n r.val then n else r.val,true⟩:CJ)) ⟨[],m,true⟩=⟨[],x,true⟩:=by
 induction l with
 |nil=>intro m;exact ⟨m,.inl rfl,hirr m,by simp,rfl⟩
 |cons z l ih=>
  intro m;rw [xR];cases hz:lt z m with
  |true=>
   obtain ⟨x,h1,h2,h3,h4⟩:=ih z;simp only [xD,zR,hz,if_true];refine ⟨x,.inr (by rcases h1 with h|h;rw [h];simp;exact vC _ h),hlt x z m h2 (hasy z m hz),fun y hy=>?_,h4⟩;rcases uV.1 hy with rfl|hy
   · exact h2
   · exact h3 y hy
  |false=>
   obtain ⟨x,h1,h2,h3,h4⟩:=ih m;simp only [xD,zR,hz,vN,if_false];refine ⟨x,by rcases h1 with h|h;exact .inl h;exact .inr (vC _ h),h2,fun y hy=>?_,h4⟩;rcases uV.1 hy with rfl|hy
   · exact hlt x m y h2 hz
   · exact h3 y hy
theorem Iy(lt:Int→Int→Bool)(hlt:∀a b c,lt b a=false→lt c b=false→lt c a=false)(hirr:∀a,lt a a=false)(hasy:∀a b,lt a b=true→lt b a=false)(z:Int)(l:List Int):∃x∈z::l,(∀y∈z::l,lt y x=false)∧EC lt (z::l)=⟨[],x,true⟩:=by
 obtain ⟨x,h1,h2,h3,h4⟩:=ny lt hlt hirr hasy l z;refine ⟨x,by rcases h1 with h|h;rw [h];simp;exact vC _ h,fun y hy=>?_,?_⟩
 · rcases uV.1 hy with rfl|hy
   · exact h2
   · exact h3 y hy
 · unfold EC
   rw [xR];exact h4
theorem Nj(lt:Int→Int→Bool)(hlt:∀a b c,lt b a=false→lt c b=false→lt c a=false)(hirr:∀a,lt a a=false)(hasy:∀a b,lt a b=true→lt b a=false)(htot:∀a b,lt a b=false→lt b a=false→a=b){l l':List Int}(h:∀y,y∈l↔y∈l'):EC lt l=EC lt l':=by
 match l,l',h with
 |[],[],_=>rfl
 |[],y::l',h=>have:=(h y).2 (by simp);cases this
 |y::l,[],h=>have:=(h y).1 (by simp);cases this
 |y::l,y'::l',h=>
  obtain ⟨x,a1,a2,a3⟩:=Iy lt hlt hirr hasy y l;obtain ⟨x',b1,b2,b3⟩:=Iy lt hlt hirr hasy y' l';rw [a3,b3,htot x x' (b2 x ((h x).1 a1)) (a2 x' ((h x').2 b1))]
theorem ZQ{rs:List AQ}{c:Chg}(hf:Fh rs c){t:Int}(h:c.t≠t):FN (EL rs c) t=FN rs t:=by
 obtain ⟨A,B,e1,e2⟩:=OL hf;have z1:(dQ c).filter (inT t)=[]:=by
  unfold dQ;split
  · simp [inT,h]
  · rfl
 have z2:(Mf c).filter (inT t)=[]:=by
  unfold Mf;split
  · simp [inT,h]
  · rfl
 unfold FN;rw [e2];conv=>rhs;rw [e1]
 simp only [vH,z1,z2,uj]
theorem Q4{o:Option AQ}(h:o.isSome=false):o.toList=[]:=by
 cases o with
 |none=>rfl
 |some x=>cases h
theorem kg{rs:List AQ}{c:Chg}{q:QM}(hq:BN q)(hf:Fh rs c)(h:Dx q c=false):CV (EL rs c) q=CV rs q:=by
 obtain ⟨A,B,e1,e2⟩:=OL hf;have f1:rs.filter (inQ q)=A.filter (inQ q)++(bfQ q c).toList++B.filter (inQ q):=by
  conv=>lhs;rw [e1]
  rw [vH,vH,Qt]
 have f2:(EL rs c).filter (inQ q)=A.filter (inQ q)++(afQ q c).toList++B.filter (inQ q):=by
  rw [e2,vH,vH,Qw]
 have p1:=Gt hq rs;have p2:=Gt hq (EL rs c)
 rw [f1]at p1;rw [f2]at p2;have same:(bfQ q c).isSome=false→(afQ q c).isSome=false→CK (EL rs c) q=CK rs q:=fun h1 h2=>by
  rw [Ow hq,Ow hq,f1,f2,Q4 h1,Q4 h2]
 unfold Dx at h;unfold CV F3;split at h
 · rename_i hk
   unfold VG at h;rw [yV]at h;rw [same h.1 h.2,if_neg (by omega),if_neg (by omega),if_neg (by omega),if_neg (by omega),if_neg (by omega),if_neg (by omega),if_neg (by omega),if_neg (by omega),if_neg (by omega),if_neg (by omega)]
 · split at h
   · rename_i hk
     rw [if_pos hk,if_pos hk];have hl:(CK (EL rs c) q).length=(CK rs q).length:=by
      rw [p1.length_eq,p2.length_eq];simp only [u6];unfold WO at h;cases hb:bfQ q c<;>cases ha:afQ q c<;>simp [hb,ha]at h⊢
     rw [hl]
   · split at h
     · rename_i hk3 hk
       rw [if_neg hk3,if_neg hk3,if_pos hk,if_pos hk];have hs:Kr (Cb q (CK (EL rs c) q))=Kr (Cb q (CK rs q)):=by
        unfold Kr Cb;rw [M4,M4,Li (p1.map _),Li (p2.map _)];simp only [uW,VT];have hm:=of_decide_eq_false h
        have key:∀o:Option AQ,Jg (o.toList.map fun r=>Bg r q.bq)=mQ q o:=fun o=>by
         cases o with
         |none=>rfl
         |some x=>simp [Jg,mQ]
        rw [key,key];omega
       rw [hs]
     · split at h
       · rename_i hk3 hk4 hk
         rw [yV]at h;have hm:=of_decide_eq_false h.2
         have hone:=h.1;have hmem:∀y,y∈Cb q (CK (EL rs c) q)↔y∈Cb q (CK rs q):=fun y=>by
          unfold Cb;rw [(p1.map _).mem_iff,(p2.map _).mem_iff];unfold WO at hone;cases hb:bfQ q c<;>cases ha:afQ q c<;>simp [hb,ha]at hone⊢
          simp [hb,ha,mQ]at hm;rw [hm]
         rw [if_neg hk3,if_neg hk3,if_neg hk4,if_neg hk4];rcases hk with hk|hk
         · rw [if_pos hk,if_pos hk]
           exact Nj _ (by intro a b c;simp;omega) (by intro a;simp) (by intro a b;simp;omega) (by intro a b;simp;omega) hmem
         · rw [if_neg (show¬q.kd=5 by omega),if_neg (show¬q.kd=5 by omega),if_pos hk,if_pos hk]
           exact Nj _ (by intro a b c;simp;omega) (by intro a;simp) (by intro a b;simp;omega) (by intro a b;simp;omega) hmem
       · rw [yV]at h
         have ha:=h.1;unfold VG at ha;rw [yV]at ha;rw [same ha.1 ha.2,ZQ hf (of_decide_eq_false h.2)]
end Go.Proofs.YtkdgffcfmgmemaaGreatDoor
