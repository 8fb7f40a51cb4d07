/- Pairs of rows in memory; slices.Clone, IndexFunc, DeleteFunc, Insert at pairs. -/
/- predicate.without, inserted at pairs. -/
/- The pairs of a join: plain words, the closures. -/
/- effect.join. -/
/- effect.join. -/
/- predicate.patchJoin. -/
import Derived.Test.YtkdgffcfmgmemaaGreatDoorEz
import Derived.Test.YtkdgffcfmgmemaaGreatDoorPr3
import Derived.Test.YtkdgffcfmgmemaaGreatDoorEx5
set_option linter.unusedVariables false
set_option linter.unusedSimpArgs false
namespace Go.Proofs.YtkdgffcfmgmemaaGreatDoor
open Go.Proofs.Tryz
open Go Go.RowKit Gw
set_option maxRecDepth 100000
attribute [local irreducible] Gw.At Gw.Nx Gw.Ops
structure BX where
 l:AQ
 r:AQ
deriving DecidableEq
def Am(ps:List BX):List Value:=ps.flatMap fun p=>[I4 p.l.t,I4 p.l.k,I4 p.l.v.a,I4 p.l.v.b,I4 p.l.v.c,I4 p.r.t,I4 p.r.k,I4 p.r.v.a,I4 p.r.v.b,I4 p.r.v.c]
theorem DD(a b:List BX):Am (a++b)=Am a++Am b:=by unfold Am;rw [wG]
theorem BF:∀(rs:List BX),(Am rs).length=rs.length*10
 |[]=>rfl
 |r::rs=>by
  have:=BF rs;unfold Am at*;rw [vE,u6,this,uJ];simp;omega
theorem FP(rs:List BX)(k:Nat):(Am rs).take (k*10)=Am (rs.take k):=by
 rcases uU rs.length k with h|h
 · rw [uf (by rw [BF];omega),uf (by omega)]
 · have e:Am rs=Am (rs.take k)++Am (rs.drop k):=by rw [←DD,uw]
   rw [e,vG (by rw [BF,uD];omega)]
theorem Ky(rs:List BX)(k:Nat):(Am rs).drop (k*10)=Am (rs.drop k):=by
 rcases uU rs.length k with h|h
 · rw [vU (by rw [BF];omega),vU (by omega)];rfl
 · have e:Am rs=Am (rs.take k)++Am (rs.drop k):=by rw [←DD,uw]
   rw [e,xL (by rw [BF,uD];omega)]
theorem Eb(rs:List BX):∀u∈Am rs,u.oneCell'=true:=by
 intro u hu;unfold Am at hu;obtain ⟨r,_,h⟩:=xY.1 hu;simp only [uV,wC,or_false]at h;rcases h with rfl|rfl|rfl|rfl|rfl|rfl|rfl|rfl|rfl|rfl<;>rfl
def Rc(M:List AU)(v:Value)(rs:List BX):Prop:=∃p cap,v= .slice p rs.length cap∧(rs.length≤maxLen∧rs.length≤cap)∧∀(i:Nat) (x:BX),rs[i]?=some x→∃g off cur T zz,p=some ⟨g,off,none⟩∧(g,Obj.cells cur T zz)∈M∧off+i*10+10≤cur.size∧cur.extract (off+i*10) (off+i*10+10)=#[I4 x.l.t,I4 x.l.k,I4 x.l.v.a,I4 x.l.v.b,I4 x.l.v.c,I4 x.r.t,I4 x.r.k,I4 x.r.v.a,I4 x.r.v.b,I4 x.r.v.c]
theorem MW{e:TypeId}{v:Value}{rs:List BX}{s:List AU}(h:BZ 10 e v rs.length (Am rs) s)(hn:rs.length≤maxLen):Rc s v rs:=by
 obtain ⟨b,cap,rfl⟩:=h.form;refine ⟨b,cap,rfl,⟨hn,FL h⟩,fun i x hx=>?_⟩;obtain ⟨g,cap',cur,z,hv,rfl,hsz,hex⟩:=Hu h i (tu.1 hx).1;injection hv with hv1 hv2 hv3
 refine ⟨g,0,cur,e,z,hv1,by simp,by omega,?_⟩;unfold Am at hex;rw [Gb _ 10 (fun _=>rfl) rs i x hx]at hex;rw [uX];exact wN.1 hex
theorem Q6{rs:List BX}{k:Nat}{r:BX}(h:rs[k]?=some r):Am rs=Am (rs.take k)++(Am [r]++Am (rs.drop (k+1))):=by
 rw [←DD,←DD];congr 1;obtain ⟨hk,rfl⟩:=tu.1 h;rw [uo,←vY hk,uw]
theorem Ic{rs:List BX}{k:Nat}{r:BX}(h:rs[k]?=some r)(j:Nat)(hj:j<10):(Am rs)[k*10+j]?=(Am [r])[j]?:=by
 have hk:=(tu.1 h).1;have e:(Am (rs.take k)).length=k*10:=by rw [BF,uD];omega
 rw [Q6 h,w9 (by omega),xS (by rw [e,BF];simp;omega),e,Nat.add_sub_cancel_left]
theorem UR{M:List AU}{p:Option Addr}{n cap:Nat}{rs:List BX}(h:Rc M (.slice p n cap) rs):Fj M p (Am rs):=by
 obtain ⟨p',cap',e,hl,hg⟩:=h;injection e with e1 e2 e3
 subst e1;intro j u hj;have hjl:=(tu.1 hj).1
 rw [BF]at hjl;obtain ⟨x,hx⟩:∃x,rs[j/10]?=some x:=⟨_,tq (by omega)⟩;obtain ⟨g,off,cur,T,zz,rfl,hm,hsz,hex⟩:=hg (j/10) x hx;refine ⟨g,off,cur,T,zz,rfl,hm,?_⟩;have h1:=Ni hex hsz (j%10) (by omega)
 have h2:=Ic hx (j%10) (by omega);rw [show j/10*10+j%10=j by omega,hj]at h2;rw [show off+j=off+j/10*10+j%10 by omega,h1,h2,←ui];rfl
theorem Ub{M:List AU}{v:Value}{rs:List BX}(hv:Rc M v rs)(hb:rs.length≤1000000000000):CQ Tryz.prog 299 #[v] [M] (fun r H'=>∃sr,BZ 10 284 r rs.length (Am rs) sr∧H'=[sr,M]):=by
 have hml:=mL;obtain ⟨p,cap,rfl,⟨hl,hlc⟩,hg⟩:=id hv;have hcm:Fj M p (Am rs):=UR hv
 refine Se func299 ntmps299 [0] ?_;intro u R;refine Zq<|Zg<|Za Y<|Z0<|Zx<|Zq<|Zq<|Zg<|Zm Y<|Zv (Fw underlying282 Y Y)<|Z0<|Zx ?_;refine Ag Y (fun hp=>?_) (fun hp=>?_)
 ·
  have hp0:p=none:=by cases p with
   |none=>rfl
   |some x=>cases hp
  have h0:rs=[]:=by
   cases rs with
   |nil=>rfl
   |cons x l=>obtain ⟨g,off,cur,T,zz,e9,_⟩:=hg 0 x rfl;rw [hp0]at e9;cases e9
  refine Zq<|Bf ?_;refine Zg<|Za Y<|Z0<|Zx<|AA<|Zt ?_;refine AJ rfl results299 Y (by exact ⟨[],by rw [h0];exact Ba 10 _,rfl⟩)
 refine AB<|Zx<|Zq<|Zg<|Ze (HV underlying282 sizeOf284) ?_;rintro _ _ ⟨g1,rfl,rfl⟩;refine Zm Y ?_;refine Ze (Le (by_:=80) (sz:=10) underlying282 (rfl:Tryz.prog.info? 284=some Tryz.t284) rfl rfl rfl rfl Y (J7 10 284 g1 0 [] rfl (by decide)) Y (hcm) (by exact BF _) (by decide) Wo Wo (by exact Eb _) (by omega) (by omega)) ?_;rintro _ _ ⟨sa1,hra1,rfl⟩;replace hra1:=BP hra1 (uX _) (vg _);refine Za Y<|Z0<|Zx<|AA ?_;refine AJ rfl results299 Y (by exact ⟨_,hra1,rfl⟩)
def Ga(pd:BX→Bool)(rows:List BX):Int:=(rows.findIdx? pd).elim (-1) fun i=>(i:Int)
theorem eH{pd:BX→Bool}{rows:List BX}{i:Nat}{x:BX}(h:∀(j:Nat) (y:BX),j<i→rows[j]?=some y→pd y=false)(hx:rows[i]?=some x)(hp:pd x=true):Ga pd rows=(i:Int):=by
 obtain ⟨hi,rfl⟩:=tu.1 hx;unfold Ga;rw [vS.2 ⟨hi,hp,fun j hj=>by simp [h j _ hj (tq (by omega))]⟩];rfl
theorem eO{pd:BX→Bool}{rows:List BX}(h:∀(j:Nat) (y:BX),j<rows.length→rows[j]?=some y→pd y=false):Ga pd rows=-1:=by
 unfold Ga;rw [wY.2 fun y hy=>by
  obtain ⟨j,hj⟩:=uq hy;exact h j y (tu.1 hj).1 hj]
 rfl
theorem R9(pd:BX→Bool)(rows:List BX):(Ga pd rows=-1∧∀y∈rows,pd y=false)∨∃(i:Nat) (x:BX),Ga pd rows=(i:Int)∧rows[i]?=some x∧pd x=true∧∀(j:Nat) (y:BX),j<i→rows[j]?=some y→pd y=false:=by
 unfold Ga;cases h:rows.findIdx? pd with
 |none=>exact .inl ⟨rfl,wY.1 h⟩
 |some i=>
  obtain ⟨h1,h2,h3⟩:=vS.1 h;refine .inr ⟨i,_,rfl,tq h1,h2,fun j y hj hy=>?_⟩;obtain ⟨h4,rfl⟩:=tu.1 hy;simpa using h3 j hj
theorem dB{rs:List BX}{k:Nat}(hk:k<rs.length)(x:BX):(Am rs).take (k*10)++Am [x]++(Am rs).drop (k*10+(Am [x]).length)=Am (rs.set k x):=by
 rw [show k*10+(Am [x]).length=(k+1)*10 by rw [BF];simp;omega,FP,Ky,←DD,←DD,xM,if_pos hk];simp
theorem Tz{cur:Array Value}{rs:List BX}{k:Nat}{x:BX}(hin:CB cur 0 (Am rs))(hx:rs[k]?=some x):k*10+10≤cur.size∧cur.extract (0+k*10) (0+k*10+10)=(Am [x]).toArray:=by
 have hk:=(tu.1 hx).1;have hs:k*10+10≤cur.size:=by
  have h4:=Ic hx 9 (by decide);have h5:=hin.get (k*10+9) _ (h4.trans (by rfl))
  have:=(uT.1 h5).1;omega
 refine ⟨hs,?_⟩;apply wN.1;apply wR;intro j;rw [ui,xO];split
 · rename_i hj
   have hj5:j<10:=by omega
   have h1:=Ic hx j hj5;obtain ⟨u,hu⟩:∃u,(Am [x])[j]?=some u:=⟨_,tq (by rw [BF];simpa using hj5)⟩;rw [hu]at h1;have h2:=hin.get _ _ h1
   rw [uX]at h2;rw [uX,h2];exact hu.symm
 · rw [vM]
   show(Am [x]).length≤j;rw [BF];simp only [uH];omega
theorem KW{rows:List BX}{j:Nat}{x:BX}(f:BX→Bool)(hx:rows[j]?=some x):(rows.take (j+1)).filter f=(rows.take j).filter f++(if f x then [x]else []):=by
 rw [Bu hx,vH];congr 1;rw [zO,zi]
theorem LP{rows:List BX}{f:BX→Bool}(h:∀(j:Nat) (y:BX),rows[j]?=some y→f y=true):rows.filter f=rows:=List.filter_eq_self.2 fun y hy=>by
 obtain ⟨j,hj⟩:=uq hy;exact h j y hj
theorem LJ{A B:List AU}{v:Value}{rows:List BX}(hv:Rc A v rows)(fid:Nat)(us:List Value)(pd:BX→Bool)(hcf:∀(args:Array Value) (w:World),(callFunc fid args).run Tryz.prog w= .ok (.enter fid args) w)(hf:∀x:BX,Az Tryz.prog fid (.agg #[I4 x.l.t,I4 x.l.k,I4 x.l.v.a,I4 x.l.v.b,I4 x.l.v.c,I4 x.r.t,I4 x.r.k,I4 x.r.v.a,I4 x.r.v.b,I4 x.r.v.c]::us).toArray [B] (.bool (pd x))):Az Tryz.prog 270 #[v,.func (.func fid) #[] us.toArray] [A,B] (I4 (Ga pd rows)):=by
 have hml:=mL;obtain ⟨p,cap,rfl,⟨hl,hlc⟩,hg⟩:=id hv;refine Se func270 ntmps270 [0,1] ?_;intro u R;refine Zq<|Zg<|Za Y<|Z0<|Zx<|Zq<|Zq<|Zg<|Zm Y<|Zv (AV underlying282 Y)<|Zm Y<|Z0<|Zx<|AR<|Zb [8,0,1,7] ?_;refine BB (e0:=[(8,_)]) (fun m e H=>∃(i:Nat),m=rows.length -i∧(i≤rows.length∧∀(j:Nat) (y:BX),j<i→rows[j]?=some y→pd y=false)∧e=[(8,I4 (i:Int))]∧H=[]) (by exact ⟨0,rfl,⟨uK _,fun j y h=>by omega⟩,rfl,rfl⟩) Wp ?_;rintro _ _ _ ⟨i,rfl,⟨hi,hno⟩,rfl,rfl⟩;refine Zq<|Zg<|Zv (Av Y Y)<|Z0<|Zx<|Zq ?_;refine Aq Y (fun hlt=>?_) (fun hlt=>?_)
 ·
  obtain ⟨x,hx⟩:∃x,rows[i]?=some x:=⟨_,tq hlt⟩;obtain ⟨g,off,cur,T,zz,rfl,hm9,hsz9,hex9⟩:=hg i x hx;refine AB<|Zx<|Zq<|AR<|Zq<|Zg<|Zm Y<|Za Y<|Z0<|Zx<|Zq<|Zg<|Zm Y<|Zm Y<|Zm Y ?_;refine BO (Ac underlying282 sizeOf284 Y Y (by first|omega|decide|(simp;done))) ?_;refine Cm (cs:=[(g,.cells cur T zz)]) (by simp [hm9]) (AZ (cs:=#[I4 x.l.t,I4 x.l.k,I4 x.l.v.a,I4 x.l.v.b,I4 x.l.v.c,I4 x.r.t,I4 x.r.k,I4 x.r.v.a,I4 x.r.v.b,I4 x.r.v.c]) isAgg284 sizeOf284 Y (by omega) hex9) rfl rfl ?_;refine Xr [_] Y (hcf) Y rfl (hf x) ?_;refine Z0<|Zx ?_;refine Ag Y (fun hpx=>?_) (fun hpx=>?_)
  ·
   refine Zq<|Zg<|Zm Y<|Za Y<|Z0<|Zx<|AA<|AX<|Zt<|Zt<|AX<|Zt ?_;refine AJ rfl results270 Y (by exact ⟨congrArg (Value.int .i64) (eH hno hx hpx).symm,rfl⟩)
  refine AB<|A8<|Zx<|Zg<|Ya (n:=1) Y Y<|Zm Y<|Z0<|Zn [8,0,1,7] ?_;refine Aa (e':=[(8,_)]) (by exact ⟨i+1,rfl,⟨by omega,fun j y h1 h2=>by rcases uU j i with h9|h9;exact hno j y h9 h2;obtain rfl:j=i:=(by omega);rw [hx]at h2;injection h2 with h2;subst h2;exact hpx⟩,rfl,rfl⟩)
 have ei:i=rows.length:=by omega
 subst ei;refine Aw<|Zt<|Zt<|AP<|Zx<|Zq<|Zg<|Za Y<|Z0<|Zx<|AA ?_;refine AJ rfl results270 Y (by exact ⟨congrArg (Value.int .i64) (eO hno).symm,rfl⟩)
set_option maxHeartbeats 1000000 in
theorem V4{B s:List AU}{v:Value}{rows:List BX}(hrow:BZ 10 284 v rows.length (Am rows) s)(hn:rows.length≤1000000000)(fid:Nat)(us:List Value)(pd:BX→Bool)(hcf:∀(args:Array Value) (w:World),(callFunc fid args).run Tryz.prog w= .ok (.enter fid args) w)(hf:∀x:BX,Az Tryz.prog fid (.agg #[I4 x.l.t,I4 x.l.k,I4 x.l.v.a,I4 x.l.v.b,I4 x.l.v.c,I4 x.r.t,I4 x.r.k,I4 x.r.v.a,I4 x.r.v.b,I4 x.r.v.c]::us).toArray [B] (.bool (pd x))):CQ Tryz.prog 298 #[v,.func (.func fid) #[] us.toArray] [s,B] (fun r H'=>∃s',BZ 10 284 r (rows.filter fun x=>!pd x).length (Am (rows.filter fun x=>!pd x)) s'∧H'=[s',B]):=by
 have hml:=mL;obtain ⟨p,cap,rfl⟩:=hrow.form;have hU:=MW hrow (by omega)
 refine Se func298 ntmps298 [0,1] ?_;intro u R;refine Zq<|Zg<|Za Y<|Z0<|Zx<|Zq<|Zg<|Zm Y<|Zm Y<|Xr [_,_] Y call270 Y rfl (LJ hU fid us pd hcf hf) ?_;rcases R9 pd rows with⟨e9,hall⟩|⟨k,x0,e9,hx0,hp0,hno⟩
 ·
  rw [e9];refine Za Y<|Z0<|Zx<|Zq<|Zq<|Zg<|Zm Y<|Zv (CO Y Y)<|Z0<|Zx ?_;refine Aq Y (fun h1=>?_) (fun h1=>?_)
  ·
   refine Zq<|Zg<|Zm Y<|Za Y<|Z0<|Zx<|AA<|Zt ?_;refine AJ rfl results298 Y (by exact ⟨_,BP hrow (congrArg List.length (LP fun j y hy=>by rw [hall y (uI hy)];rfl).symm) (congrArg Am (LP fun j y hy=>by rw [hall y (uI hy)];rfl).symm),rfl⟩)
  exact absurd rfl h1
 rw [e9];have hk0:=(tu.1 hx0).1
 obtain ⟨g,cap9,cur,z,hv9,rfl,hle9,hin9⟩:=Di hrow (by omega);injection hv9 with hv1 hv2 hv3
 subst hv1 hv3;refine Za Y<|Z0<|Zx<|Zq<|Zq<|Zg<|Zm Y<|Zv (CO Y Y)<|Z0<|Zx ?_;refine Aq Y (fun h2=>?_) (fun h2=>?_)
 ·
  exfalso;omega
 refine AB<|Zx<|Zq<|Zq<|Zg<|Zm Y<|Ya (n:=1) Y Y<|Za Y<|Z0<|Zx<|AR<|Zb [5,6,0,1] ?_;refine BB (e0:=[(5,_),(6,_)]) (fun m e H=>∃(i j:Nat) (W:List BX) (cur:Array Value),m=rows.length -j∧((i<j∧j≤rows.length)∧W.length=rows.length∧BZ 10 284 (I6 g rows.length cap) rows.length (Am W) [(g,.cells cur 284 z)]∧W.take i=(rows.take j).filter (fun x=>!pd x)∧∀t,j≤t→W[t]?=rows[t]?)∧e=[(5,I4 (i:Int)),(6,I4 (j:Int))]∧H=[[(g,.cells cur 284 z)]]) (by exact ⟨k,k+1,rows,cur,rfl,⟨⟨by omega,by omega⟩,rfl,hrow,by rw [KW _ hx0,hp0];simp only [xD,vN,if_false,uj];exact (LP (fun j y hy=>by rw [uz]at hy;split at hy;rw [hno j y (by assumption) hy];rfl;cases hy)).symm,fun t _=>rfl⟩,rfl,rfl⟩) Wp ?_;rintro _ _ _ ⟨i,j,W,cur,rfl,⟨hij,hWl,hrW,hWt,hWr⟩,rfl,rfl⟩;obtain ⟨hinW,hcsW,hleW,hcmW,hfrW⟩:=JR hrW;refine Zq<|Zq<|Zg<|Zm Y<|Zm Y<|Zv (AV underlying282 Y)<|Zv (Av Y Y)<|Z0<|Zx ?_;refine Aq Y (fun hlt=>?_) (fun hlt=>?_)
 ·
  obtain ⟨x,hx⟩:∃x,rows[j]?=some x:=⟨_,tq hlt⟩;obtain ⟨hsz9,hex9⟩:=Tz hinW ((hWr j (uG _)).trans hx);refine AB<|Zx<|Zq<|AR<|Zq<|Zg<|Zm Y<|Zm Y ?_;refine BO (Ac underlying282 sizeOf284 Y Y (by first|omega|decide|(simp;done))) ?_;refine Zo Wh (AZ (cs:=#[I4 x.l.t,I4 x.l.k,I4 x.l.v.a,I4 x.l.v.b,I4 x.l.v.c,I4 x.r.t,I4 x.r.k,I4 x.r.v.a,I4 x.r.v.b,I4 x.r.v.c]) isAgg284 sizeOf284 Y (by omega) hex9) ?_;refine Ze (Al zeroValue284 #[_,_,_,_,_,_,_,_,_,_]) ?_;rintro _ _ ⟨bx,rfl,rfl⟩;refine Xe (Xw sizeOf284 #[I4 x.l.t,I4 x.l.k,I4 x.l.v.a,I4 x.l.v.b,I4 x.l.v.c,I4 x.r.t,I4 x.r.k,I4 x.r.v.a,I4 x.r.v.b,I4 x.r.v.c]) ?_;refine Z0<|Zx<|Zq<|Zg<|Zm Y<|Zo Wh (Pa #[_,_,_,_,_,_,_,_,_,_] isAgg284 sizeOf284 Y) ?_;refine Xr [_] Y (hcf) Y rfl (hf x) ?_;refine Zv (Cg Y)<|Z0<|Zn [0,1,5,6,7,29] ?_;refine Zx ?_;refine Ag Y (fun hpx=>?_) (fun hpx=>?_)
  ·
   have hpx:pd x=false:=by simpa using hpx
   have hrW2:=BP (xs':=Am (W.set i x)) (EK (i:=0+i*10) (ys:=Am [x]) hrW (by rw [BF,BF,uH];omega)) rfl (by rw [uX];exact dB (by omega) x);refine Zq<|Zg<|Zm Y<|Zm Y<|Zo Wh (Pa #[_,_,_,_,_,_,_,_,_,_] isAgg284 sizeOf284 Y) ?_;refine BO (Ac underlying282 sizeOf284 Y Y (by first|omega|decide|(simp;done))) ?_;refine Xe (BQ sizeOf284 Y Y (by(simp [Value.oneCell'];done)) Wu (by exact (rfl:_=Eh cur (0+i*10) (Am [x]))) (by first|rfl|(simp;done)) Wb (by exact hfrW)) ?_;refine Z0<|Zx<|Zg<|Zm Y<|Ya (n:=1) Y Y<|Za Y<|Z0<|A8<|Zx<|Zg<|Zm Y<|Ya (n:=1) Y Y<|Za Y<|Z0<|Zn [5,6,0,1] ?_;refine Aa (e':=[(5,_),(6,_)]) (by exact ⟨i+1,j+1,W.set i x,_,rfl,⟨by omega,by rw [List.length_set];exact hWl,hrW2,by rw [VY (by omega),hWt,KW _ hx];simp [hpx],fun t ht=>by rw [List.getElem?_set_ne (by omega)];exact hWr t (by omega)⟩,rfl,rfl⟩)
  have hpx:pd x=true:=by simpa using hpx
  refine AB<|A8<|Zx<|Zg<|Zm Y<|Ya (n:=1) Y Y<|Za Y<|Z0<|Zn [5,6,0,1] ?_;refine Aa (e':=[(5,_),(6,_)]) (by exact ⟨i,j+1,W,cur,rfl,⟨by omega,hWl,hrW,by rw [hWt,KW _ hx];simp [hpx],fun t ht=>hWr t (by omega)⟩,rfl,rfl⟩)
 have ej:j=rows.length:=by omega
 subst ej;rw [ug]at hWt;have hil:(rows.filter fun x=>!pd x).length=i:=by rw [←hWt,uD];omega
 refine Aw<|Zt<|Zt<|AP<|Zx<|Zq<|Zg<|Zm Y<|Zm Y ?_;refine BO (CE underlying282 sizeOf284 Y Y (by omega)) ?_;refine Ze (N9 underlying282 (rfl:Tryz.prog.info? 284=some Tryz.t284) rfl rfl (by simp [Value.cells,Value.oneCell']) Y (by omega) hcsW hfrW Wo) ?_;rintro _ _ rfl;have hrW3:=T9 (EK (i:=i*10) (ys:=(Builtin.zeroCells (Value.agg #[I4 0,I4 0,I4 0,I4 0,I4 0,I4 0,I4 0,I4 0,I4 0,I4 0]).cells (rows.length -i)).toList) hrW (by rw [wM,size_zeroCells,BF];show i*10+(rows.length -i)*10≤_;omega)) i (by omega)
 refine Z0<|Zx<|Zq<|Zg<|Zm Y<|Zm Y ?_;refine BO (Bj underlying282 sizeOf284 Y Y (by omega)) ?_;refine Za Y<|Z0<|Zx<|AA ?_;refine AJ rfl results298 Y (by
  refine ⟨_,BP hrW3 hil.symm ?_,rfl⟩;rw [uF,vG (by rw [uD,BF];omega),FP,hWt])
theorem eD{A Y D:List Value}{i n:Nat}(hA:A.length=(n+1)*10)(hi:i≤n)(hY:Y.length=10)(hD:D.length=(n -i)*10):(A.take (0+i*10)++Y++A.drop (0+i*10+Y.length)).take (0+(i+1)*10)++D++(A.take (0+i*10)++Y++A.drop (0+i*10+Y.length)).drop (0+(i+1)*10+D.length)=A.take (i*10)++Y++D:=by
 rw [uX,uX,vG (by rw [u6,uD];omega),vU (by simp only [u6,uD,uE];omega),uj]
theorem YU{A Y D:List Value}{i n:Nat}(hA:A.length=(n+1)*10)(hi:i≤n)(hY:Y.length=10)(hD:D.length=(n -i)*10):(A.take (0+(i+1)*10)++D++A.drop (0+(i+1)*10+D.length)).take (0+i*10)++Y++(A.take (0+(i+1)*10)++D++A.drop (0+(i+1)*10+D.length)).drop (0+i*10+Y.length)=A.take (i*10)++Y++D:=by
 rw [uX,uX,vU (l:=A) (by omega),uj,vv (by rw [uD];omega),xP,wT (by omega),xL (by rw [uD];omega)]
theorem Sy(rows:List BX)(i:Nat)(y:BX):(Am rows).take (i*10)++Am [y]++Am (rows.drop i)=Am (rows.take i++[y]++rows.drop i):=by
 rw [FP,DD,DD]
theorem PP{c:Array Value}{rows:List BX}(h:CB c 0 (Am rows))(i:Nat)(hi:i≤rows.length):CB c (0+i*10) (Am (rows.drop i)):=by
 have h1:=Ik h (i*10) ((rows.length -i)*10) (by rw [BF];omega);rw [Ky,uf (by rw [BF,uE];omega)]at h1;exact h1
theorem XL{c:Array Value}{rows:List BX}(h:CB c 0 (Am rows))(i:Nat)(hi:i≤rows.length):CB c 0 (Am (rows.take i)):=by
 have h1:=Ik h 0 (i*10) (by rw [BF];omega);rw [wm,FP]at h1;exact h1
theorem R7(rows:List BX)(i:Nat)(hi:i≤rows.length)(y:BX):(rows.take i++[y]++rows.drop i).length=rows.length+1:=by
 simp only [u6,uD,uE,uH];omega
set_option maxHeartbeats 1000000 in
theorem Ut{s:List AU}{v:Value}{rows:List BX}(hrow:BZ 10 284 v rows.length (Am rows) s)(hn:rows.length≤1000000000)(i:Nat)(hi:i≤rows.length)(y:BX)(g2:Nat):CQ Tryz.prog 300 #[v,I4 (i:Int),I6 g2 1 1] [s,[(g2,.cells #[I4 y.l.t,I4 y.l.k,I4 y.l.v.a,I4 y.l.v.b,I4 y.l.v.c,I4 y.r.t,I4 y.r.k,I4 y.r.v.a,I4 y.r.v.b,I4 y.r.v.c] 284 (0,0))]] (fun r H'=>∃s' s2,BZ 10 284 r (rows.take i++[y]++rows.drop i).length (Am (rows.take i++[y]++rows.drop i)) s'∧H'=[s',s2,[(g2,.cells #[I4 y.l.t,I4 y.l.k,I4 y.l.v.a,I4 y.l.v.b,I4 y.l.v.c,I4 y.r.t,I4 y.r.k,I4 y.r.v.a,I4 y.r.v.b,I4 y.r.v.c] 284 (0,0))]]):=by
 have hml:=mL;obtain ⟨p,cap,rfl⟩:=hrow.form;have hle:=FL hrow
 refine Se func300 ntmps300 [0,1,2] ?_;intro u R;refine Zq<|Zg<|Za Y<|Z0<|Zx<|Zq<|Bf ?_;refine Zg<|Zm Y<|Zm Y ?_;refine BO (CE underlying282 sizeOf284 Y Y (by omega)) ?_;refine Z0<|Zx<|Zq<|Zg<|Zm Y<|Zv (AV underlying282 Y)<|Za Y<|Z0<|Zx<|Zq<|Zq<|Zg<|Zm Y<|Zv (CF (n:=0) Y Y)<|Z0<|Zx ?_;refine Aq Y (fun h0=>?_) (fun h0=>?_)
 ·
  cases h0
 refine AB<|Zx<|Zq<|Zg<|Zm Y<|Zv (AV underlying282 Y)<|Za Y<|Z0<|Zx<|Zq<|Zq<|Zg<|Zm Y<|Zm Y<|Zv (CF Y Y)<|Z0<|Zn [0,1,2,7,8,22] ?_;refine Zx ?_;refine Aq Y (fun hin=>?_) (fun hin=>?_)
 ·
  refine Zq<|Zg<|Zm Y<|Zm Y ?_;refine Ze (BR (by_:=80) (sz:=10) underlying282 (rfl:Tryz.prog.info? 284=some Tryz.t284) rfl rfl rfl rfl Y (hrow) Y (Da 10 g2 1 1 284 (0,0) (Am [y]) rfl) Wo Wo (by exact Eb _) (by omega) (by omega)) ?_;rintro _ _ ⟨sw5,hrw5,rfl⟩;obtain ⟨gw5,cw5,rfl⟩:=hrw5.form;refine Za Y<|Z0<|Zx<|AA<|Zt ?_;refine AJ rfl results300 Y (by
   have hin:i=rows.length:=by omega
   subst hin;exact ⟨_,[],BP hrw5 (R7 rows _ (uG _) y).symm (by rw [ug,AB0,uj,DD]),rfl⟩)
 obtain ⟨g,cap9,cur,z,hv9,rfl,hle9,hin9⟩:=Di hrow (by omega);injection hv9 with hv1 hv2 hv3
 subst hv1 hv3;obtain ⟨_,hcs,_,hcm,hfr⟩:=JR hrow;refine AB<|Zx<|Zq<|Zq<|Zg<|Zm Y<|Zm Y<|Ya Y Y<|Zm Y<|Zv (PM underlying282 Y)<|Zv (DU Y Y)<|Z0<|Zx ?_;refine Aq Y (fun hg=>?_) (fun hg=>?_)
 ·
  refine Zq<|Zg<|Zm Y<|Zm Y ?_;refine BO (Bj underlying282 sizeOf284 Y Y (by omega)) ?_;refine Zm Y<|Zm Y<|Ya Y Y<|Zm Y<|Yb Y Y ?_;refine Ze (Kl (by_:=80) (sz:=10) (xs:=Am (rows.take i)) underlying282 underlying3 (rfl:Tryz.prog.info? 284=some Tryz.t284) rfl rfl rfl rfl Y Y Wh (XL hin9 i hi) (by rw [BF,uD];omega) (by omega) (by decide) (by omega) (by omega) (by omega)) ?_;rintro _ _ ⟨s9,hr9,rfl⟩;rw [show i+(rows.length+1 -i)=rows.length+1 by omega]at hr9;have hAl:=hr9.1
  obtain ⟨g3,cap3,cur3,z3,rfl,rfl,hle3,hin3⟩:=Di hr9 (by omega);obtain ⟨_,hcs3,_,hcm3,hfr3⟩:=JR hr9;refine Za Y<|Z0<|Zn [0,1,2,7,9] ?_;refine Zx<|Zq<|Zg<|Zm Y<|Zm Y ?_
  (refine BO (Bo underlying282 sizeOf284 Y Y ?_ ?_) ?_;(focus (omega));(focus (omega)))
  refine Zm Y<|Xe (JM (cs:=Am [y]) underlying282 sizeOf284 Y Y Wh Wo ((rfl:CB (#[I4 y.l.t,I4 y.l.k,I4 y.l.v.a,I4 y.l.v.b,I4 y.l.v.c,I4 y.r.t,I4 y.r.k,I4 y.r.v.a,I4 y.r.v.b,I4 y.r.v.c]:Array Value) 0 (Am [y]))) (by rw [BF,uH];omega) (by rw [BF,uH];omega) (hfr3) (Eb _)) ?_;refine Z0<|Zx<|Zq<|BK (n:=9) (0::0::0::6::15::0::0::96::255::[]) 256 (by kernel_rfl) (by kernel_rfl) rfl ?_;refine Zi 1 0 rfl (AL Y)<|Zi 3 1 rfl (AL Y)<|Zi 7 2 rfl (AL Y) ?_;refine Zi 15 3 rfl (DJ Y Y (by omega)) ?_
  (refine Dz (D':=31) 4 (Bo underlying282 sizeOf284 Y Y ?_ ?_) ?_;(focus (omega));(focus (omega)))
  refine Zi 63 5 rfl (AL Y)<|Zi 127 6 rfl (AL Y) ?_
  (refine Dz (D':=255) 7 (Bo underlying282 sizeOf284 Y Y ?_ ?_) ?_;(focus (omega));(focus (omega)))
  refine Yw 8 511 rfl (JM (cs:=Am (rows.drop i)) underlying282 sizeOf284 Y Y Wh Wo (PP hin9 i hi) (by rw [BF,uE];omega) (by rw [BF,uE,Fu (by rw [BF,uH];omega)];omega) (by rw [Fu (by rw [BF,uH];omega)];exact hfr3) (Eb _)) ?_;rintro _ _ ⟨rfl,rfl⟩;refine Ao ?_;refine Zn [9] ?_;refine Zx<|Zq<|Zg<|Zm Y<|Za Y<|Z0<|Zx<|AA<|Zt ?_;refine AJ rfl results300 Y (by
   refine ⟨_,[(g,.cells cur 284 z)],BP (EK (i:=0+(i+1)*10) (ys:=Am (rows.drop i)) (EK (i:=0+i*10) (ys:=Am [y]) hr9 (by rw [hAl,BF,uH];omega)) ?_) (R7 rows i hi y).symm ?_,rfl⟩
   · simp only [u6,uD,uE,hAl,BF,uH];omega
   · rw [eD hAl hi (by rw [BF];rfl) (by rw [BF,uE]),vG (by rw [BF,uD];omega),←FP,Sy])
 refine AB<|Zx<|Zq ?_;obtain ⟨ys9,hyl9,hrM⟩:=Sz hrow (rows.length+1) (by omega) (by omega);have hAl:=hrM.1
 refine Zg<|Zm Y<|Zm Y<|Zm Y<|Ya Y Y ?_;refine BO (Bj underlying282 sizeOf284 Y Y (by omega)) ?_;refine Za Y<|Z0<|Zx<|Zq<|Zq ?_;refine oo (s1:=[(g2,_)]) (s2:=[(g,_)]) (a:=g2) (b:=g) Wo Wo (uL.2 rfl) (uL.2 rfl) (fun hne9=>?_);refine Zg<|Zm Y<|Zm Y<|Zm Y<|Zm Y<|Ya Y Y ?_
 (refine BO (Bo underlying282 sizeOf284 Y Y ?_ ?_) ?_;(focus (omega));(focus (omega)))
 refine Cm (cs:=[(g2,.cells #[I4 y.l.t,I4 y.l.k,I4 y.l.v.a,I4 y.l.v.b,I4 y.l.v.c,I4 y.r.t,I4 y.r.k,I4 y.r.v.a,I4 y.r.v.b,I4 y.r.v.c] 284 (0,0)),(g,.cells cur 284 z)]) (by simp) (Qm (tR:=4) func309 (by kernel_rfl) (by kernel_rfl) (by kernel_rfl) (by kernel_rfl) underlying282 sizeOf284 Y hne9 (by omega)) rfl rfl ?_;refine Zv (Cg Y)<|Z0<|Zn [0,1,2,7,8,68] ?_;refine Zx ?_;refine Ag Y (fun hb9=>?_) (fun hb9=>?_)
 ·
  refine Zq<|BK (n:=9) (0::0::0::6::15::0::0::96::255::[]) 256 (by kernel_rfl) (by kernel_rfl) rfl ?_;refine Zi 1 0 rfl (AL Y)<|Zi 3 1 rfl (AL Y)<|Zi 7 2 rfl (AL Y) ?_;refine Zi 15 3 rfl (DJ Y Y (by omega)) ?_
  (refine Dz (D':=31) 4 (Bo underlying282 sizeOf284 Y Y ?_ ?_) ?_;(focus (omega));(focus (omega)))
  refine Zi 63 5 rfl (AL Y)<|Zi 127 6 rfl (AL Y) ?_
  (refine Dz (D':=255) 7 (Bo underlying282 sizeOf284 Y Y ?_ ?_) ?_;(focus (omega));(focus (omega)))
  refine Yw 8 511 rfl (JM (cs:=Am (rows.drop i)) underlying282 sizeOf284 Y Y Wh Wo (PP hin9 i hi) (by rw [BF,uE];omega) (by rw [BF,uE];omega) (hfr) (Eb _)) ?_;rintro _ _ ⟨rfl,rfl⟩;refine Ao ?_;refine Zx<|Zq<|Zg<|Zm Y<|Zm Y ?_
  (refine BO (Bo underlying282 sizeOf284 Y Y ?_ ?_) ?_;(focus (omega));(focus (omega)))
  refine Zm Y<|Xe (JM (cs:=Am [y]) underlying282 sizeOf284 Y Y Wh Wo ((rfl:CB (#[I4 y.l.t,I4 y.l.k,I4 y.l.v.a,I4 y.l.v.b,I4 y.l.v.c,I4 y.r.t,I4 y.r.k,I4 y.r.v.a,I4 y.r.v.b,I4 y.r.v.c]:Array Value) 0 (Am [y]))) (by rw [BF,uH];omega) (by rw [BF,uH,Fu (by rw [BF,uE];omega)];omega) (by rw [Fu (by rw [BF,uE];omega)];exact hfr) (Eb _)) ?_;refine Z0<|Zn [0] ?_;refine Zx<|Zq<|Zg<|Zm Y<|Za Y<|Z0<|Zx<|AA<|Zt ?_;refine AJ rfl results300 Y (by
   refine ⟨_,[],BP (EK (i:=0+i*10) (ys:=Am [y]) (EK (i:=0+(i+1)*10) (ys:=Am (rows.drop i)) hrM (by rw [hAl,BF,uE];omega)) ?_) (R7 rows i hi y).symm ?_,rfl⟩
   · simp only [u6,uD,uE,BF,hyl9,uH];omega
   · rw [YU hAl hi (by rw [BF];rfl) (by rw [BF,uE]),vv (by rw [BF];omega),Sy])
 cases hb9
def Nc(pd:BX→Bool)(rows:List BX)(y:BX):List BX:=rows.take ((rows.findIdx? pd).getD rows.length)++[y]++rows.drop ((rows.findIdx? pd).getD rows.length)
theorem eF(pd:BX→Bool)(rows:List BX)(y:BX):(Nc pd rows y).length=rows.length+1:=by
 unfold Nc;simp only [u6,uD,uE,uH];omega
theorem kD(pd:BX→Bool)(rows:List BX):(Ga pd rows<0∧(rows.findIdx? pd).getD rows.length=rows.length)∨∃i:Nat,i≤rows.length∧Ga pd rows=(i:Int)∧(rows.findIdx? pd).getD rows.length=i:=by
 unfold Ga;cases h:rows.findIdx? pd with
 |none=>exact .inl ⟨by simp,rfl⟩
 |some i=>
  obtain ⟨h1,_,_⟩:=vS.1 h;exact .inr ⟨i,by omega,rfl,rfl⟩
theorem MB{A B:List AU}{v:Value}{rows:List BX}(hv:Rc A v rows)(hn:rows.length≤1000000000)(fid:Nat)(us:List Value)(pd:BX→Bool)(hcf:∀(args:Array Value) (w:World),(callFunc fid args).run Tryz.prog w= .ok (.enter fid args) w)(hf:∀x:BX,Az Tryz.prog fid (.agg #[I4 x.l.t,I4 x.l.k,I4 x.l.v.a,I4 x.l.v.b,I4 x.l.v.c,I4 x.r.t,I4 x.r.k,I4 x.r.v.a,I4 x.r.v.b,I4 x.r.v.c]::us).toArray [B] (.bool (pd x))):CQ Tryz.prog 267 #[v,.func (.func fid) #[] us.toArray] [A,B] (fun r H'=>∃s,BZ 10 284 r (rows.filter fun x=>!pd x).length (Am (rows.filter fun x=>!pd x)) s∧H'=[s,A,B]):=by
 obtain ⟨p,cap,rfl,_⟩:=id hv;refine Se func267 ntmps267 [0,1] ?_;intro u R;refine Zq<|Zg<|Za Y<|Z0<|Zx<|Zq<|Zg<|Zm Y<|Zc [_] Y call299 Y rfl (Ub hv (by omega)) ?_;rintro _ _ ⟨_,⟨s1,h1,rfl⟩,rfl⟩;obtain ⟨g1,c1,rfl⟩:=h1.form;refine Zm Y<|Zc [_,_] Y call298 Y rfl (V4 h1 hn fid us pd hcf hf) ?_;rintro _ _ ⟨_,⟨s2,h2,rfl⟩,rfl⟩;obtain ⟨g2,c2,rfl⟩:=h2.form;refine Za Y<|Z0<|Zx<|AA ?_;refine AJ rfl results267 Y (by exact ⟨_,h2,rfl⟩)
theorem R6{s B:List AU}{v:Value}{rows:List BX}(hrow:BZ 10 284 v rows.length (Am rows) s)(hn:rows.length≤1000000000)(y:BX)(fid:Nat)(us:List Value)(pd:BX→Bool)(hcf:∀(args:Array Value) (w:World),(callFunc fid args).run Tryz.prog w= .ok (.enter fid args) w)(hf:∀x:BX,Az Tryz.prog fid (.agg #[I4 x.l.t,I4 x.l.k,I4 x.l.v.a,I4 x.l.v.b,I4 x.l.v.c,I4 x.r.t,I4 x.r.k,I4 x.r.v.a,I4 x.r.v.b,I4 x.r.v.c]::us).toArray [B] (.bool (pd x))):CQ Tryz.prog 272 #[v,.agg #[I4 y.l.t,I4 y.l.k,I4 y.l.v.a,I4 y.l.v.b,I4 y.l.v.c,I4 y.r.t,I4 y.r.k,I4 y.r.v.a,I4 y.r.v.b,I4 y.r.v.c],.func (.func fid) #[] us.toArray] [s,B] (fun r H'=>∃s' s2,BZ 10 284 r (Nc pd rows y).length (Am (Nc pd rows y)) s'∧H'=[s',s2,B]):=by
 have hml:=mL;obtain ⟨p,cap,rfl⟩:=hrow.form;have hU:=MW hrow (by omega)
 refine Se func272 ntmps272 [0,1,2] ?_;intro u R;refine Zq<|Zg<|Ze (Bx #[_,_,_,_,_,_,_,_,_,_]) ?_;rintro _ _ ⟨bx,rfl,rfl⟩;refine Za Y<|Z0<|Zx<|Zq<|Zg<|Zm Y<|Zm Y<|Xr [_,_] Y call270 Y rfl (LJ hU fid us pd hcf hf) ?_;obtain ⟨z9,hz9⟩:∃z,z=Ga pd rows:=⟨_,rfl⟩;rw [←hz9];have hcs9:=kD pd rows
 rw [←hz9]at hcs9;refine Za Y<|Z0<|Zx<|Zb [7,0,4] ?_;refine CU (e0:=[(7,_)]) (H0:=[]) (fun e H=>∃(i:Nat),(i≤rows.length∧(rows.findIdx? pd).getD rows.length=i)∧e=[(7,I4 (i:Int))]∧H=[]) Wp ?hx_1 ?hy_1
 case hx_1=>
  refine Zq<|Zg<|Zm Y<|Zv (Eg Y Y)<|Z0<|Zx ?_;refine Aq Y (fun hlt=>?_) (fun hlt=>?_)
  ·
   refine Zg<|Zm Y<|Zv (AV underlying282 Y)<|Za Y<|Z0<|Zn [7,0,4] ?_;refine BA (e':=[(7,_)]) (by exact ⟨rows.length,⟨uG _,by rcases hcs9 with⟨_,h⟩|⟨i,h1,h2,h3⟩;exact h;omega⟩,rfl,rfl⟩)
  rcases hcs9 with⟨h9,_⟩|⟨i,h1,h2,h3⟩
  · exact absurd h9 hlt
  subst h2;refine AB<|Zn [7,0,4] ?_;refine BA (e':=[(7,_)]) (by exact ⟨i,⟨h1,h3⟩,rfl,rfl⟩)
 rintro _ _ ⟨i,⟨hi,hgi⟩,rfl,rfl⟩;refine Zq<|Zg<|Zm Y<|Zm Y<|Zo Wh (Pa #[_,_,_,_,_,_,_,_,_,_] isAgg284 sizeOf284 Y) ?_;refine Ze (Af (vs:=[_]) (cs:=[_,_,_,_,_,_,_,_,_,_]) underlying282 sizeOf284 zeroValue284 Y rfl rfl rfl rfl rfl) ?_;rintro _ _ ⟨gy,rfl,rfl⟩;refine Zc [_,_,_] Y call300 Y rfl (Ut hrow hn i hi y gy) ?_;rintro _ _ ⟨_,⟨s3,s4,h3,rfl⟩,rfl⟩;obtain ⟨g3,c3,rfl⟩:=h3.form;refine Za Y<|Z0<|Zx<|AA ?_;refine AJ rfl results272 Y (by exact ⟨_,s4,by unfold Nc;rw [hgi];exact h3,rfl⟩)
def Gi(k:Int)(p:BX):Bool:=decide (p.r.k=k)
def Og(k:Int)(p:BX):Bool:=decide (p.l.k=k)
def Ei(rows:List AQ):List BX:=(List.range (rows.length/2)).map fun k=>⟨rows.getD (2*k) AQ.zero,rows.getD (2*k+1) AQ.zero⟩
def DT(ps:List BX):List AQ:=ps.flatMap fun p=>[p.l,p.r]
def jnT(q:QM)(c:Chg)(ps:List BX):List BX×Bool:=
 if c.t=q.ot then
  (if c.has then(ps.map fun p=>if Gi c.k p then⟨p.l,⟨c.t,c.k,c.n⟩⟩else p,c.had)else(ps.filter fun p=>!Gi c.k p,c.had))
 else match afQ q c with
  |none=>(ps.filter fun p=>!Og c.k p,true)
  |some y=>if Ga (Gi (mQ q (afQ q c))) ps<0 then(ps.filter fun p=>!Og c.k p,(bfQ q c).isSome&&decide (mQ q (bfQ q c)=mQ q (afQ q c)))
   else(Nc (fun p=>JJ q y p.l) (ps.filter fun p=>!Og c.k p) ⟨y,(ps.getD (Ga (Gi (mQ q (afQ q c))) ps).toNat ⟨AQ.zero,AQ.zero⟩).r⟩,true)
def D7(q:QM)(c:Chg)(r:CJ):CJ×Bool:=if q.tb=q.ot then(r,false)else(⟨DT (jnT q c (Ei r.rows)).1,r.val,r.fnd⟩,(jnT q c (Ei r.rows)).2)
theorem Jt(rows:List AQ):(Ei rows).length=rows.length/2:=by unfold Ei;rw [u7,yR]
theorem iy{rows:List AQ}{k:Nat}{x y:AQ}(hx:rows[2*k]?=some x)(hy:rows[2*k+1]?=some y):(Ei rows)[k]?=some ⟨x,y⟩:=by
 have h:=(tu.1 hy).1;unfold Ei;rw [uO,xu (by omega),wE,uy,uy,hx,hy];rfl
theorem HY:∀ps:List BX,(DT ps).length=2*ps.length
 |[]=>rfl
 |p::ps=>by
  have:=HY ps;unfold DT at*;rw [vE,u6,this,uJ];simp;omega
theorem QO{ps:List BX}{k:Nat}{p:BX}(h:ps[k]?=some p):DT (ps.take (k+1))=DT (ps.take k)++[p.l,p.r]:=by
 unfold DT;rw [Bu h,wG,List.flatMap_singleton]
theorem aR(q:QM)(c:Chg)(ps:List BX):(jnT q c ps).1.length≤ps.length+1:=by
 have h1:=wK (fun p=>!Gi c.k p) ps;have h2:=wK (fun p=>!Og c.k p) ps
 unfold jnT;split
 · split
   · simp only [u7];omega
   · simp only;omega
 · split
   · simp only;omega
   · split
     · simp only;omega
     · simp only [eF];omega
theorem nY(q:QM)(c:Chg)(p1 p2:Option Addr)(o n:Int)(be:Nat)(x:BX):Az Tryz.prog 268 #[.agg #[I4 x.l.t,I4 x.l.k,I4 x.l.v.a,I4 x.l.v.b,I4 x.l.v.c,I4 x.r.t,I4 x.r.k,I4 x.r.v.a,I4 x.r.v.b,I4 x.r.v.c],I5 be] [[(be,.cells #[I4 q.kd,I4 q.tb,I4 q.cl,I4 q.lo,I4 q.hi,I4 q.bq,I4 q.ot,I4 c.t,I4 c.k,.bool c.had,I4 c.o.a,I4 c.o.b,I4 c.o.c,.bool c.has,I4 c.n.a,I4 c.n.b,I4 c.n.c,.pointer p1,.pointer p2,I4 o,I4 n] 151 (0,0))]] (.bool (Gi c.k x)):=by
 refine Se func268 ntmps268 [0,1] ?_;intro u R;refine Zq<|Zg<|Ze (Bx #[I4 x.l.t,I4 x.l.k,I4 x.l.v.a,I4 x.l.v.b,I4 x.l.v.c,I4 x.r.t,I4 x.r.k,I4 x.r.v.a,I4 x.r.v.b,I4 x.r.v.c]) ?_;rintro _ _ ⟨bx,rfl,rfl⟩;refine Za Y<|Z0<|Zx<|Zq<|Zg<|Zh 5 underlying284 rfl rfl sizeOf113 Y<|Zv (BI (off:=1) underlying113 rfl rfl sizeOf3 Y)<|Zl isAgg3 Y ?_;refine Zh 7 underlying151 rfl rfl sizeOf77 Y<|Zv (BI (off:=1) underlying77 rfl rfl sizeOf3 Y)<|Zl isAgg3 Y ?_;refine Zv (CO Y Y)<|Za Y<|Z0<|Zx<|AA ?_;refine AJ rfl results268 Y (by exact ⟨rfl,rfl⟩)
theorem nX(q:QM)(c:Chg)(p1 p2:Option Addr)(o n:Int)(be:Nat)(x:BX):Az Tryz.prog 269 #[.agg #[I4 x.l.t,I4 x.l.k,I4 x.l.v.a,I4 x.l.v.b,I4 x.l.v.c,I4 x.r.t,I4 x.r.k,I4 x.r.v.a,I4 x.r.v.b,I4 x.r.v.c],I5 be] [[(be,.cells #[I4 q.kd,I4 q.tb,I4 q.cl,I4 q.lo,I4 q.hi,I4 q.bq,I4 q.ot,I4 c.t,I4 c.k,.bool c.had,I4 c.o.a,I4 c.o.b,I4 c.o.c,.bool c.has,I4 c.n.a,I4 c.n.b,I4 c.n.c,.pointer p1,.pointer p2,I4 o,I4 n] 151 (0,0))]] (.bool (Og c.k x)):=by
 refine Se func269 ntmps269 [0,1] ?_;intro u R;refine Zq<|Zg<|Ze (Bx #[I4 x.l.t,I4 x.l.k,I4 x.l.v.a,I4 x.l.v.b,I4 x.l.v.c,I4 x.r.t,I4 x.r.k,I4 x.r.v.a,I4 x.r.v.b,I4 x.r.v.c]) ?_;rintro _ _ ⟨bx,rfl,rfl⟩;refine Za Y<|Z0<|Zx<|Zq<|Zg<|Zh 0 underlying284 rfl rfl sizeOf113 Y<|Zv (BI (off:=1) underlying113 rfl rfl sizeOf3 Y)<|Zl isAgg3 Y ?_;refine Zh 7 underlying151 rfl rfl sizeOf77 Y<|Zv (BI (off:=1) underlying77 rfl rfl sizeOf3 Y)<|Zl isAgg3 Y ?_;refine Zv (CO Y Y)<|Za Y<|Z0<|Zx<|AA ?_;refine AJ rfl results269 Y (by exact ⟨rfl,rfl⟩)
theorem nW(q:QM)(c:Chg)(p1 p2:Option Addr)(o n:Int)(be:Nat)(x:BX):Az Tryz.prog 271 #[.agg #[I4 x.l.t,I4 x.l.k,I4 x.l.v.a,I4 x.l.v.b,I4 x.l.v.c,I4 x.r.t,I4 x.r.k,I4 x.r.v.a,I4 x.r.v.b,I4 x.r.v.c],I5 be] [[(be,.cells #[I4 q.kd,I4 q.tb,I4 q.cl,I4 q.lo,I4 q.hi,I4 q.bq,I4 q.ot,I4 c.t,I4 c.k,.bool c.had,I4 c.o.a,I4 c.o.b,I4 c.o.c,.bool c.has,I4 c.n.a,I4 c.n.b,I4 c.n.c,.pointer p1,.pointer p2,I4 o,I4 n] 151 (0,0))]] (.bool (Gi n x)):=by
 refine Se func271 ntmps271 [0,1] ?_;intro u R;refine Zq<|Zg<|Ze (Bx #[I4 x.l.t,I4 x.l.k,I4 x.l.v.a,I4 x.l.v.b,I4 x.l.v.c,I4 x.r.t,I4 x.r.k,I4 x.r.v.a,I4 x.r.v.b,I4 x.r.v.c]) ?_;rintro _ _ ⟨bx,rfl,rfl⟩;refine Za Y<|Z0<|Zx<|Zq<|Zg<|Zh 5 underlying284 rfl rfl sizeOf113 Y<|Zv (BI (off:=1) underlying113 rfl rfl sizeOf3 Y)<|Zl isAgg3 Y ?_;refine Zh 20 underlying151 rfl rfl sizeOf3 Y<|Zl isAgg3 Y ?_;refine Zv (CO Y Y)<|Za Y<|Z0<|Zx<|AA ?_;refine AJ rfl results271 Y (by exact ⟨rfl,rfl⟩)
theorem nV{B:List AU}(fid:Nat)(us:List Value)(pd:AQ→Bool)(hcf:∀(args:Array Value) (w:World),(callFunc fid args).run Tryz.prog w= .ok (.enter fid args) w)(hf:∀x:AQ,Az Tryz.prog fid (.agg #[I4 x.t,I4 x.k,I4 x.v.a,I4 x.v.b,I4 x.v.c]::us).toArray [B] (.bool (pd x)))(bb:Nat)(x:BX):Az Tryz.prog 273 #[.agg #[I4 x.l.t,I4 x.l.k,I4 x.l.v.a,I4 x.l.v.b,I4 x.l.v.c,I4 x.r.t,I4 x.r.k,I4 x.r.v.a,I4 x.r.v.b,I4 x.r.v.c],I5 bb] [[(bb,.cells #[.func (.func fid) #[] us.toArray] 191 (0,0))],B] (.bool (pd x.l)):=by
 refine Se func273 ntmps273 [0,1] ?_;intro u R;refine Zq<|Zg<|Ze (Bx #[I4 x.l.t,I4 x.l.k,I4 x.l.v.a,I4 x.l.v.b,I4 x.l.v.c,I4 x.r.t,I4 x.r.k,I4 x.r.v.a,I4 x.r.v.b,I4 x.r.v.c]) ?_;rintro _ _ ⟨bx,rfl,rfl⟩;refine Za Y<|Z0<|Zx<|Zq<|Zg<|Zl isAgg191 Y ?_;refine Zh 0 underlying284 rfl rfl sizeOf113 Y<|Zo Wh (Pa #[I4 x.l.t,I4 x.l.k,I4 x.l.v.a,I4 x.l.v.b,I4 x.l.v.c] isAgg113 sizeOf113 Y) ?_;refine Xr [_] Y (hcf) Y rfl (hf x.l) ?_;refine Za Y<|Z0<|Zx<|AA ?_;refine AJ rfl results273 Y (by exact ⟨rfl,rfl⟩)
theorem dA{ps:List BX}{k:Nat}{p:BX}(hp:ps[k]?=some p)(x:AQ):(Am ps).take (0+k*10+5)++Ae [x]++(Am ps).drop (0+k*10+5+(Ae [x]).length)=Am (ps.set k ⟨p.l,x⟩):=by
 have hk:=(tu.1 hp).1;have e:(Am (ps.take k)).length=k*10:=by rw [BF,uD];omega
 have ep:Am [p]=Ae [p.l]++Ae [p.r]:=rfl;have h5:∀r:AQ,(Ae [r]).length=5:=fun r=>rfl
 have e1:Am ps=(Am (ps.take k)++Ae [p.l])++(Ae [p.r]++Am (ps.drop (k+1))):=by
  rw [Q6 hp,ep];simp
 have e2:(Am (ps.take k)++Ae [p.l]).length=0+k*10+5:=by rw [u6,e,h5];omega
 rw [e1,vG e2,h5,←yK,xL e2,xL (h5 p.r),xM,if_pos hk];have e3:Am (ps.take k++⟨p.l,x⟩::ps.drop (k+1))=Am (ps.take k)++(Am [⟨p.l,x⟩]++Am (ps.drop (k+1))):=by
  rw [←DD,←DD];rfl
 rw [e3,show Am [⟨p.l,x⟩]=Ae [p.l]++Ae [x] from rfl];simp
theorem Ox{cur:Array Value}{ps:List BX}{k:Nat}{p:BX}(hin:CB cur 0 (Am ps))(hp:ps[k]?=some p):cur[0+k*10+5+1]?=some (I4 p.r.k)∧0+k*10+5+5≤cur.size∧cur.extract (0+k*10+5) (0+k*10+5+5)=#[I4 p.r.t,I4 p.r.k,I4 p.r.v.a,I4 p.r.v.b,I4 p.r.v.c]:=by
 have hat:∀j u,j<10→(Am [p])[j]?=some u→cur[k*10+j]?=some u:=fun j u hj hu=>by
  have:=hin.get (k*10+j) u ((Ic hp j hj).trans hu);rwa [uX]at this
 have h6:=hat 6 _ (by decide) rfl;have h9:=hat 9 _ (by decide) rfl
 have hsz:k*10+9<cur.size:=(uT.1 h9).1;refine ⟨by rw [show 0+k*10+5+1=k*10+6 by omega];exact h6,by omega,?_⟩;apply wN.1;apply wR;intro j;rw [ui,xO];split
 · rename_i hj
   have hj5:j<5:=by omega
   obtain ⟨u,hu⟩:∃u,(Ae [p.r])[j]?=some u:=⟨_,tq (by rw [BG];simpa using hj5)⟩;have h2:=hat (5+j) u (by omega) (by
    rw [show Am [p]=Ae [p.l]++Ae [p.r] from rfl,w9 (by rw [BG];simp),BG];rw [show 5+j - [p.l].length*5=j by simp];exact hu)
   rw [show 0+k*10+5+j=k*10+(5+j) by omega,h2];exact hu.symm
 · rw [vM]
   show(Ae [p.r]).length≤j;rw [BG];simp only [uH];omega
def Mg(c:Chg)(ps:List BX)(i:Nat):List BX:=(ps.take i).map (fun p=>if Gi c.k p then⟨p.l,⟨c.t,c.k,c.n⟩⟩else p)++ps.drop i
theorem jX(c:Chg)(ps:List BX)(i:Nat)(hi:i≤ps.length):(Mg c ps i).length=ps.length:=by
 unfold Mg;simp only [u6,u7,uD,uE];omega
theorem Ul{c:Chg}{ps:List BX}{i:Nat}{p:BX}(hp:ps[i]?=some p):(Mg c ps i)[i]?=some p:=by
 have hi:=(tu.1 hp).1;unfold Mg;rw [w9 (by rw [u7,uD];omega),u7,uD,wT (by omega),y8,vK,xJ,hp]
theorem Tj{c:Chg}{ps:List BX}{i:Nat}{p:BX}(hp:ps[i]?=some p):Mg c ps (i+1)=(Mg c ps i).set i (if Gi c.k p then⟨p.l,⟨c.t,c.k,c.n⟩⟩else p):=by
 have hi:=(tu.1 hp).1;have hl:((ps.take i).map (fun p=>if Gi c.k p then(⟨p.l,⟨c.t,c.k,c.n⟩⟩:BX)else p)).length=i:=by rw [u7,uD];omega
 unfold Mg;rw [Bu hp,uW,zK (h:=by omega),hl,y8];obtain ⟨_,rfl⟩:=tu.1 hp;rw [vY hi,List.set_cons_zero];simp
theorem iI{ps:List BX}{i:Nat}{p:BX}(hp:ps[i]?=some p):ps.set i p=ps:=by
 obtain ⟨hi,rfl⟩:=tu.1 hp;exact List.set_getElem_self hi
theorem qH{B:List AU}(fid:Nat)(us:List Value)(pd:AQ→Bool)(hcf:∀(args:Array Value) (w:World),(callFunc fid args).run Tryz.prog w= .ok (.enter fid args) w)(hf:∀x:AQ,Az Tryz.prog fid (.agg #[I4 x.t,I4 x.k,I4 x.v.a,I4 x.v.b,I4 x.v.c]::us).toArray [B] (.bool (pd x)))(bb:Nat)(x:BX):Az Tryz.prog 273 (.agg #[I4 x.l.t,I4 x.l.k,I4 x.l.v.a,I4 x.l.v.b,I4 x.l.v.c,I4 x.r.t,I4 x.r.k,I4 x.r.v.a,I4 x.r.v.b,I4 x.r.v.c]::([I5 bb]:List Value)).toArray [[(bb,.cells #[.func (.func fid) #[] us.toArray] 191 (0,0))]++B] (.bool (pd x.l)):=by
 refine EP (nV fid us pd hcf hf bb x) (by simp) ?_;rintro r H' ⟨rfl,rfl⟩;exact ⟨_,⟨rfl,rfl⟩,by simp⟩
theorem Ur{q:QM}{c:Chg}{p1 p2:Option Addr}{be:Nat}{f:BX→Bool}{fn:Nat}(h:∀x,Az Tryz.prog fn #[.agg #[I4 x.l.t,I4 x.l.k,I4 x.l.v.a,I4 x.l.v.b,I4 x.l.v.c,I4 x.r.t,I4 x.r.k,I4 x.r.v.a,I4 x.r.v.b,I4 x.r.v.c],I5 be] [[(be,.cells #[I4 q.kd,I4 q.tb,I4 q.cl,I4 q.lo,I4 q.hi,I4 q.bq,I4 q.ot,I4 c.t,I4 c.k,.bool c.had,I4 c.o.a,I4 c.o.b,I4 c.o.c,.bool c.has,I4 c.n.a,I4 c.n.b,I4 c.n.c,.pointer p1,.pointer p2,I4 (mQ q (bfQ q c)),I4 (mQ q (afQ q c))] 151 (0,0))]] (.bool (f x)))(x:BX):Az Tryz.prog fn (.agg #[I4 x.l.t,I4 x.l.k,I4 x.l.v.a,I4 x.l.v.b,I4 x.l.v.c,I4 x.r.t,I4 x.r.k,I4 x.r.v.a,I4 x.r.v.b,I4 x.r.v.c]::([I5 be]:List Value)).toArray [[(be,.cells #[I4 q.kd,I4 q.tb,I4 q.cl,I4 q.lo,I4 q.hi,I4 q.bq,I4 q.ot,I4 c.t,I4 c.k,.bool c.had,I4 c.o.a,I4 c.o.b,I4 c.o.c,.bool c.has,I4 c.n.a,I4 c.n.b,I4 c.n.c,.pointer p1,.pointer p2,I4 (mQ q (bfQ q c)),I4 (mQ q (afQ q c))] 151 (0,0))]] (.bool (f x)):=h x
theorem ni{c:Chg}(h:c.has=true):EN c c.has c.n=⟨c.t,c.k,c.n⟩:=by unfold EN;rw [if_pos h]
theorem jY(c:Chg)(ps:List BX):Mg c ps ps.length=ps.map fun p=>if Gi c.k p then⟨p.l,⟨c.t,c.k,c.n⟩⟩else p:=by unfold Mg;rw [ug,AB0,uj]
set_option maxHeartbeats 1000000 in
theorem YS(q:QM)(hcl:0≤q.cl∧q.cl≤3)(c:Chg)(p1 p2:Option Addr){s2:List AU}(e1:p1.isSome=(bfQ q c).isSome)(h2:IP p2 (afQ q c) s2){ps:List BX}{v:Value}{sl:List AU}(hl:BZ 10 284 v ps.length (Am ps) sl)(hn:ps.length≤100000000):CQ Tryz.prog 234 #[.agg #[I4 q.kd,I4 q.tb,I4 q.cl,I4 q.lo,I4 q.hi,I4 q.bq,I4 q.ot,I4 c.t,I4 c.k,.bool c.had,I4 c.o.a,I4 c.o.b,I4 c.o.c,.bool c.has,I4 c.n.a,I4 c.n.b,I4 c.n.c,.pointer p1,.pointer p2,I4 (mQ q (bfQ q c)),I4 (mQ q (afQ q c))],v] [sl,s2] (fun w H'=>∃v' s',w= .tuple #[v',.bool (jnT q c ps).2]∧BZ 10 284 v' (jnT q c ps).1.length (Am (jnT q c ps).1) s'∧H'=[s']):=by
 have hml:=mL;obtain ⟨pl,capl,rfl⟩:=hl.form;have hU:=MW hl (by omega)
 have hfl:(ps.filter fun p=>!Og c.k p).length≤ps.length:=wK _ _;refine Se func234 ntmps234 [0,1] ?_;intro u R;refine Zq<|Zg<|Ze (Ho Y (cs:=#[I4 q.kd,I4 q.tb,I4 q.cl,I4 q.lo,I4 q.hi,I4 q.bq,I4 q.ot,I4 c.t,I4 c.k,.bool c.had,I4 c.o.a,I4 c.o.b,I4 c.o.c,.bool c.has,I4 c.n.a,I4 c.n.b,I4 c.n.c,.pointer p1,.pointer p2,I4 (mQ q (bfQ q c)),I4 (mQ q (afQ q c))]) (Ff q c p1 p2 (mQ q (bfQ q c)) (mQ q (afQ q c)))) ?_;rintro _ _ ⟨be,rfl,rfl⟩;refine Za Y<|Za Y<|Z0<|Zx<|Zq<|Zq<|Zg<|Zh 7 underlying151 rfl rfl sizeOf77 Y<|Zv (BI (off:=0) underlying77 rfl rfl sizeOf3 Y)<|Zl isAgg3 Y ?_;refine Zh 0 underlying151 rfl rfl sizeOf30 Y<|Zv (BI (off:=6) underlying30 rfl rfl sizeOf3 Y)<|Zl isAgg3 Y ?_;refine Zv (CO Y Y)<|Z0<|Zx ?_;refine Aq Y (fun hot=>?_) (fun hot=>?_)
 ·
  refine Zq<|Zg<|Zh 7 underlying151 rfl rfl sizeOf77 Y<|Zo Wh (Pa #[I4 c.t,I4 c.k,.bool c.had,I4 c.o.a,I4 c.o.b,I4 c.o.c,.bool c.has,I4 c.n.a,I4 c.n.b,I4 c.n.c] isAgg77 sizeOf77 Y) ?_;refine Xr [_] Y call108 Y rfl (QI c) ?_;obtain ⟨y9,hy9⟩:∃y,y=EN c c.has c.n:=⟨_,rfl⟩;rw [←hy9];refine Zm Y<|Zd Y rfl<|Zd Y rfl<|Ze (Al zeroValue113 #[_,_,_,_,_]) ?_;rintro _ _ ⟨by9,rfl,rfl⟩;refine Xe (Xw sizeOf113 #[I4 y9.t,I4 y9.k,I4 y9.v.a,I4 y9.v.b,I4 y9.v.c]) ?_;refine Za Y<|Z0<|Zn [1,2,6,7] ?_;refine Zx<|Zq<|Zq<|Zg<|Zm Y<|Zv (Cg Y)<|Z0<|Zx ?_;refine Ag Y (fun hh=>?_) (fun hh=>?_)
  ·
   have hh9:c.has=false:=by simpa using hh
   refine Zq<|BK (n:=8) (0::0::3::0::8::24::7::127::[]) 4 (by kernel_rfl) (by kernel_rfl) rfl ?_;refine Zi 1 0 rfl (AL Y)<|Zi 3 1 rfl (Bt (vs:=[]) (us:=[_]) Y Y) ?_;refine Zi 11 3 rfl (AY (off:=7) underlying151 rfl rfl sizeOf77 Y)<|Zi 27 4 rfl (BI (off:=2) underlying77 rfl rfl sizeOf4 Y)<|Zj 59 5 rfl isAgg4 Y ?_;refine Zz (l:=[2]) ?_;refine Zy 3 63 [5] [true] [(5,(_,_))] rfl Y rfl rfl rfl rfl (Zw [_,_] Y call267 Y rfl (MB (B:=[(be,.cells #[I4 q.kd,I4 q.tb,I4 q.cl,I4 q.lo,I4 q.hi,I4 q.bq,I4 q.ot,I4 c.t,I4 c.k,.bool c.had,I4 c.o.a,I4 c.o.b,I4 c.o.c,.bool c.has,I4 c.n.a,I4 c.n.b,I4 c.n.c,.pointer p1,.pointer p2,I4 (mQ q (bfQ q c)),I4 (mQ q (afQ q c))] 151 (0,0))]) hU (by omega) 268 [I5 be] (Gi c.k) call268 (Ur fun x=>nY q c p1 p2 (mQ q (bfQ q c)) (mQ q (afQ q c)) be x))) ?hk_1 Cj ?hl_1
   case hk_1=>
    rintro _ _ ⟨_,⟨s9,h9,rfl⟩,rfl⟩;refine ⟨Zk (Ad),?_⟩;obtain ⟨g9,c9,rfl⟩:=h9.form;refine Zi 127 6 rfl (Au Y)<|Zi 255 7 rfl (Au Y)<|Ao ?_;refine Zx<|AA<|Zt<|Zt ?_;refine Dh rfl results234 Y Y (by
     have e8:jnT q c ps=(ps.filter fun p=>!Gi c.k p,c.had):=by unfold jnT;rw [if_pos hot,if_neg (by rw [hh9];decide)]
     exact ⟨.slice g9 _ c9,s9,by rw [e8],by rw [e8];exact h9,rfl⟩)
   exact Ap
  have hh9:c.has=true:=by simpa using hh
  rw [ni hh9]at hy9;refine AB<|Zx<|Zq<|Zq<|Zg<|Zm Y<|Zv (AV underlying282 Y)<|Zm Y<|Z0<|Zx<|AR<|Zb [35,1,2,6,34] ?_;refine BB (e0:=[(35,_)]) (fun m e H=>∃(i:Nat) (sk:List AU),m=ps.length -i∧(i≤ps.length∧BZ 10 284 (.slice pl ps.length capl) ps.length (Am (Mg c ps i)) sk)∧e=[(35,I4 (i:Int))]∧H=[sk]) (by exact ⟨0,sl,rfl,⟨uK _,hl⟩,rfl,rfl⟩) Wp ?_;rintro _ _ _ ⟨i,sk,rfl,⟨hi,hsk⟩,rfl,rfl⟩;refine Zq<|Zg<|Zv (Av Y Y)<|Z0<|Zx<|Zq ?_;refine Aq Y (fun hlt=>?_) (fun hlt=>?_)
  ·
   obtain ⟨p,hp⟩:∃p,ps[i]?=some p:=⟨_,tq hlt⟩;obtain ⟨g,cap9,cur,z,hv9,rfl,hle9,hin9⟩:=Di hsk (by omega);injection hv9 with hv1 hv2 hv3
   subst hv1 hv3;obtain ⟨_,hcs9,_,hcm9,hfr9⟩:=JR hsk;obtain ⟨h6,hsz9,_⟩:=Ox hin9 (Ul hp);refine AB<|Zx<|Zq<|AR<|Zq<|Zg<|Zm Y<|Za Y<|Z0<|Zx<|Zq<|BK (n:=10) (0::0::3::7::15::31::0::64::192::511::[]) 0 (by kernel_rfl) (by kernel_rfl) rfl ?_;refine Zi 1 0 rfl (AL Y)<|Zi 3 1 rfl (AL Y) ?_;refine Zi 7 2 rfl (Ac underlying282 sizeOf284 Y Y (by first|omega|decide|(simp;done))) ?_;refine Zi 15 3 rfl (BI (off:=5) underlying284 rfl rfl sizeOf113 Y)<|Zi 31 4 rfl (BI (off:=1) underlying113 rfl rfl sizeOf3 Y)<|Zj 63 5 rfl isAgg3 Y (hv:=by exact h6) ?_;refine Zi 127 6 rfl (AY (off:=7) underlying151 rfl rfl sizeOf77 Y)<|Zi 255 7 rfl (BI (off:=1) underlying77 rfl rfl sizeOf3 Y)<|Zj 511 8 rfl isAgg3 Y ?_;refine Zi 1023 9 rfl (CO Y Y)<|Ao ?_;refine Zn [1,2,6,8,34,35,47] ?_;refine Zx ?_;refine Aq Y (fun hk=>?_) (fun hk=>?_)
   ·
    have e9:Mg c ps (i+1)=(Mg c ps i).set i ⟨p.l,y9⟩:=by rw [Tj hp,if_pos (by unfold Gi;simp [hk]),hy9]
    have hsk2:=BP (xs':=Am (Mg c ps (i+1))) (EK (i:=0+i*10+5) (ys:=Ae [y9]) hsk (by rw [BF,BG,uH,jX c ps i hi];omega)) rfl (by rw [e9];exact dA (Ul hp) y9);refine Zg<|Zm Y<|Zm Y<|Zo Wh (Pa #[I4 y9.t,I4 y9.k,I4 y9.v.a,I4 y9.v.b,I4 y9.v.c] isAgg113 sizeOf113 Y) ?_;refine BO (Ac underlying282 sizeOf284 Y Y (by first|omega|decide|(simp;done))) ?_;refine Zv (BI (off:=5) underlying284 rfl rfl sizeOf113 Y)<|Xe (BQ sizeOf113 Y Y (by(simp [Value.oneCell'];done)) Wu (by exact (rfl:_=Eh cur (0+i*10+5) (Ae [y9]))) (by first|rfl|(simp;done)) Wb (by exact hfr9)) ?_;refine Z0<|A8<|Zx<|Zg<|Ya (n:=1) Y Y<|Zm Y<|Z0<|Zn [35,1,2,6,34] ?_;refine Aa (e':=[(35,_)]) (by exact ⟨i+1,_,rfl,⟨by omega,hsk2⟩,rfl,rfl⟩)
   have e9:Mg c ps (i+1)=Mg c ps i:=by rw [Tj hp,if_neg (by unfold Gi;simp [hk]),iI (Ul hp)]
   have hsk2:=hsk;rw [←e9]at hsk2;refine AB<|A8<|Zx<|Zg<|Ya (n:=1) Y Y<|Zm Y<|Z0<|Zn [35,1,2,6,34] ?_;refine Aa (e':=[(35,_)]) (by exact ⟨i+1,_,rfl,⟨by omega,hsk2⟩,rfl,rfl⟩)
  have ei:i=ps.length:=by omega
  subst ei;rw [jY]at hsk;refine Aw<|Zt<|Zt<|AP<|Zx<|Zq<|BK (n:=6) (0::0::2::6::1::31::[]) 0 (by kernel_rfl) (by kernel_rfl) rfl ?_;refine Zi 1 0 rfl (AL Y)<|Zi 3 1 rfl (AY (off:=7) underlying151 rfl rfl sizeOf77 Y)<|Zi 7 2 rfl (BI (off:=2) underlying77 rfl rfl sizeOf4 Y)<|Zj 15 3 rfl isAgg4 Y ?_;refine Zi 31 4 rfl (Au Y)<|Zi 63 5 rfl (Au Y)<|Ao ?_;refine Zx<|AA<|Zt ?_;refine Dh rfl results234 Y Y (by
   have e8:jnT q c ps=(ps.map fun p=>if Gi c.k p then⟨p.l,⟨c.t,c.k,c.n⟩⟩else p,c.had):=by unfold jnT;rw [if_pos hot,if_pos hh9]
   exact ⟨.slice pl ps.length capl,sk,by rw [e8],by rw [e8];exact BP hsk (u7 _).symm rfl,rfl⟩)
 refine AB<|Zx<|Zq<|Zg<|Zm Y<|Zv (Bt (vs:=[]) (us:=[_]) Y Y) ?_;refine Zc [_,_] Y call267 Y rfl (MB (B:=[(be,.cells #[I4 q.kd,I4 q.tb,I4 q.cl,I4 q.lo,I4 q.hi,I4 q.bq,I4 q.ot,I4 c.t,I4 c.k,.bool c.had,I4 c.o.a,I4 c.o.b,I4 c.o.c,.bool c.has,I4 c.n.a,I4 c.n.b,I4 c.n.c,.pointer p1,.pointer p2,I4 (mQ q (bfQ q c)),I4 (mQ q (afQ q c))] 151 (0,0))]) hU (by omega) 269 [I5 be] (Og c.k) call269 (Ur fun x=>nX q c p1 p2 (mQ q (bfQ q c)) (mQ q (afQ q c)) be x)) ?_;rintro _ _ ⟨_,⟨s9,h9,rfl⟩,rfl⟩;obtain ⟨g9,c9,rfl⟩:=h9.form;refine Za Y<|Z0<|Zn [1,2,9] ?_;refine Zx<|Zq<|Zq<|Zg<|Zh 18 underlying151 rfl rfl sizeOf149 Y<|Zl isAgg149 Y ?_;refine Zv (Me underlying149 Y Y)<|Z0<|Zx ?_;refine Ag Y (fun hp2=>?_) (fun hp2=>?_)
 ·
  have hy:afQ q c=none:=by have h8:=h2.some_;cases h7:afQ q c with|none=>rfl|some y=>(rw [h7]at h8;cases p2<;>simp at hp2 h8)
  refine Zq<|Zg<|Zm Y<|Za Y<|Za Y<|Z0<|Zx<|AA<|Zt ?_;refine Dh rfl results234 Y Y (by
   have e8:jnT q c ps=(ps.filter fun p=>!Og c.k p,true):=by unfold jnT;rw [if_neg hot,hy]
   exact ⟨.slice g9 _ c9,s9,by rw [e8],by rw [e8];exact h9,rfl⟩)
 obtain ⟨y,hy⟩:∃y,afQ q c=some y:=xg.1 (by rw [←h2.some_];cases p2<;>simp at hp2⊢);rw [hy]at h2;obtain ⟨b2,rfl,rfl⟩:=h2;refine AB<|Zx<|Zq<|Zg<|Zm Y<|Zv (Bt (vs:=[]) (us:=[_]) Y Y) ?_;refine Xr [_,_] Y call270 Y rfl (LJ (B:=[(be,.cells #[I4 q.kd,I4 q.tb,I4 q.cl,I4 q.lo,I4 q.hi,I4 q.bq,I4 q.ot,I4 c.t,I4 c.k,.bool c.had,I4 c.o.a,I4 c.o.b,I4 c.o.c,.bool c.has,I4 c.n.a,I4 c.n.b,I4 c.n.c,.pointer p1,I5 b2,I4 (mQ q (bfQ q c)),I4 (mQ q (afQ q c))] 151 (0,0))]) hU 271 [I5 be] (Gi (mQ q (afQ q c))) call271 (Ur fun x=>nW q c p1 (some ⟨b2,0,none⟩) (mQ q (bfQ q c)) (mQ q (afQ q c)) be x)) ?_;have hcs9:=R9 (Gi (mQ q (afQ q c))) ps
 obtain ⟨z9,hz9⟩:∃z,z=Ga (Gi (mQ q (afQ q c))) ps:=⟨_,rfl⟩;rw [←hz9]at hcs9⊢;refine Za Y<|Z0<|Zx<|Zq<|Zq<|Zg<|Zm Y<|Zv (Eg Y Y)<|Z0<|Zx ?_;refine Aq Y (fun hlt=>?_) (fun hlt=>?_)
 ·
  have e8:jnT q c ps=(ps.filter fun p=>!Og c.k p,(bfQ q c).isSome&&decide (mQ q (bfQ q c)=mQ q (afQ q c))):=by unfold jnT;rw [if_neg hot];split;rename_i h7;rw [hy]at h7;cases h7;rw [if_pos (by rw [←hz9];exact hlt)]
  refine Zq<|BK (n:=13) (0::0::2::6::14::30::62::30::158::510::1022::31::4095::[]) 0 (by kernel_rfl) (by kernel_rfl) rfl ?_;refine Zi 1 0 rfl (AL Y)<|Zi 3 1 rfl (AY (off:=17) underlying151 rfl rfl sizeOf149 Y)<|Zj 7 2 rfl isAgg149 Y ?_;refine Zi 15 3 rfl (Ee underlying149 Y Y)<|Zi 31 4 rfl (AL Y) ?_;refine Cc (t:=74) Y (fun h1=>?_) (fun h1=>?_)
  ·
   first|rw [decide_eq_true h1]|rw [h1]|skip
   refine Ai (D':=63) 5 Y rfl rfl rfl (AY (off:=19) underlying151 rfl rfl sizeOf3 Y) ?_;refine Bn (D':=127) 6 Y rfl rfl rfl Wh (Bh isAgg3 Y (by rfl)) ?_;refine Ai (D':=255) 7 Y rfl rfl rfl (AY (off:=20) underlying151 rfl rfl sizeOf3 Y) ?_;refine Bn (D':=511) 8 Y rfl rfl rfl Wh (Bh isAgg3 Y (by rfl)) ?_;refine Ai (D':=1023) 9 Y rfl rfl rfl (CO Y Y) ?_;refine Zi 2047 10 rfl (AO Y Y)<|Zi 4095 11 rfl (Au Y)<|Zi 8191 12 rfl (Au Y)<|Ao ?_;refine Zn [4,5] ?_;refine Zx<|AA<|Zt ?_;refine Dh rfl results234 Y Y (by exact ⟨.slice g9 _ c9,s9,by rw [e8,←e1,h1];rfl,by rw [e8];exact h9,rfl⟩)
  first|rw [decide_eq_false h1]|rw [h1]|skip
  refine Yk 63 5 rfl<|Yk 127 6 rfl<|Yk 255 7 rfl<|Yk 511 8 rfl<|Yk 1023 9 rfl<|Zi 2047 10 rfl (AC Y Y)<|Zi 4095 11 rfl (Au Y)<|Zi 8191 12 rfl (Au Y)<|Ao ?_;refine Zn [4,5] ?_;refine Zx<|AA<|Zt ?_;refine Dh rfl results234 Y Y (by exact ⟨.slice g9 _ c9,s9,by rw [e8,←e1,h1];rfl,by rw [e8];exact h9,rfl⟩)
 rcases hcs9 with⟨h7,_⟩|⟨k,p,h7,hp,_,_⟩
 · exact absurd h7 (by omega)
 subst h7;have e8:jnT q c ps=((Nc (fun p=>JJ q y p.l) (ps.filter fun p=>!Og c.k p) ⟨y,p.r⟩),true):=by
  unfold jnT;rw [if_neg hot];split
  · rename_i h7;rw [hy]at h7;cases h7
  · rename_i y0 h7;rw [hy]at h7;injection h7 with h7;subst h7;rw [←hz9,if_neg (by omega),wI,uy,hp];rfl
 have hk:=(tu.1 hp).1;obtain ⟨g,cap9,cur,z,hv9,rfl,hle9,hin9⟩:=Di hl (by omega);injection hv9 with hv1 hv2 hv3
 subst hv1 hv3;obtain ⟨_,hsz9,hex9⟩:=Ox hin9 hp;refine AB<|Zx<|Zq<|Zg<|Zo Wh (AZ isAgg151 sizeOf151 Y Wb (by exact Ay rfl)) ?_;refine Zc [_] Y call232 Y rfl (PV q hcl c p1 (mQ q (bfQ q c)) (mQ q (afQ q c)) y b2) ?_;rintro _ _ ⟨_,⟨b8,b9,rfl,rfl⟩,rfl⟩;refine Ze (Al zeroValue191 #[_]) ?_;rintro _ _ ⟨bb,rfl,rfl⟩;refine Xe (Zs sizeOf191 Y Y rfl (hc:=by exact (rfl:_=(#[.func (.func 266) #[] ([I5 b8,I5 b9]:List Value).toArray]:Array Value))) (hi:=by first|omega|decide|(simp;done))) ?_;refine Z0<|Zn [1,2,9,10,11] ?_;refine Zx<|Zq<|Ki (s1:=[(bb,_)]) (s2:=_++_++[(b2,_)]) Wo Wo ?_;refine BK (n:=15) (0::0::2::6::14::0::0::96::224::480::1022::0::4095::8191::16383::[]) 4096 (by kernel_rfl) (by kernel_rfl) rfl ?_;refine Zi 1 0 rfl (AL Y)<|Zi 3 1 rfl (AY (off:=18) underlying151 rfl rfl sizeOf149 Y)<|Zj 7 2 rfl isAgg149 Y ?_;refine Zi 15 3 rfl (EB Y rfl)<|G6 (b:=b2) (x:= .cells #[I4 y.t,I4 y.k,I4 y.v.a,I4 y.v.b,I4 y.v.c] 113 (0,0)) (D':=31) 4 rfl rfl rfl (by simp) (AZ (cs:=#[I4 y.t,I4 y.k,I4 y.v.a,I4 y.v.b,I4 y.v.c]) isAgg113 sizeOf113 Y (by first|decide|exact uG _|(simp;done)) (by rfl)) ?_;refine Zi 63 5 rfl (AL Y)<|Zi 127 6 rfl (AL Y) ?_;refine Zi 255 7 rfl (Ac underlying282 sizeOf284 Y Y (by first|omega|decide|(simp;done))) ?_;refine Zi 511 8 rfl (BI (off:=5) underlying284 rfl rfl sizeOf113 Y)<|D9 (D':=1023) 9 rfl rfl rfl Wh (AZ (cs:=#[I4 p.r.t,I4 p.r.k,I4 p.r.v.a,I4 p.r.v.b,I4 p.r.v.c]) isAgg113 sizeOf113 Y Wb (by exact hex9)) ?_;refine Zi 2047 10 rfl (BL (vs:=[(0,.agg #[I4 y.t,I4 y.k,I4 y.v.a,I4 y.v.b,I4 y.v.c]),(1,.agg #[I4 p.r.t,I4 p.r.k,I4 p.r.v.a,I4 p.r.v.b,I4 p.r.v.c])]) (cs:=#[I4 y.t,I4 y.k,I4 y.v.a,I4 y.v.b,I4 y.v.c,I4 p.r.t,I4 p.r.k,I4 p.r.v.a,I4 p.r.v.b,I4 p.r.v.c]) Y (Ab (pl:=#[(0,5),(5,5)]) zeroValue284 underlying284 (fun _=>by kernel_rfl) (by kernel_rfl))) ?_;refine Zi 4095 11 rfl (Bt (vs:=[]) (us:=[_]) Y Y) ?_;refine Zz (l:=[12]) ?_
 refine Zy 4095 8191 [9,4,2] [false,false,false] [] rfl Y rfl rfl rfl rfl (Zw [_,_,_] Y call272 Y rfl (R6 h9 (by omega) ⟨y,p.r⟩ 273 [I5 bb] (fun p=>JJ q y p.l) call273 (fun x=>qH 266 ([I5 b8,I5 b9]:List Value) (JJ q y) call266 (fun x=>XN q hcl c p1 (mQ q (bfQ q c)) (mQ q (afQ q c)) y b2 b8 b9 x) bb x))) ?hk_10 Cj ?hl_10
 case hk_10=>
  rintro _ _ ⟨_,⟨s5,s6,h5,rfl⟩,rfl⟩;refine ⟨Ad,?_⟩;obtain ⟨g5,c5,rfl⟩:=h5.form;refine Zi 16383 13 rfl (Au Y)<|Zi 32767 14 rfl (Au Y)<|Ao ?_;refine Zn [4,5] ?_;refine Zx<|AA ?_;refine Dh rfl results234 Y Y (by exact ⟨.slice g5 _ c5,s5,by rw [e8],by rw [e8];exact h5,rfl⟩)
 exact Ap
theorem Y7(q:QM)(c:Chg)(r:CJ):(D7 q c r).1.val=r.val:=by unfold D7;split<;>rfl
theorem Y8(q:QM)(c:Chg)(r:CJ):(D7 q c r).1.rows.length≤r.rows.length+2:=by
 unfold D7;split
 · exact yN _ _
 · show(DT _).length≤_
   have h:=aR q c (Ei r.rows);rw [Jt]at h;rw [HY];omega
theorem aX{cur:Array Value}{rs:List AQ}{k:Nat}{x:AQ}(hin:CB cur 0 (Ae rs))(hx:rs[k]?=some x):k*5+5≤cur.size∧cur.extract (0+k*5) (0+k*5+5)=#[I4 x.t,I4 x.k,I4 x.v.a,I4 x.v.b,I4 x.v.c]:=X3 hin hx
theorem kX{cur:Array Value}{rs:List BX}{k:Nat}{x:BX}(hin:CB cur 0 (Am rs))(hx:rs[k]?=some x):k*10+10≤cur.size∧cur.extract (0+k*10) (0+k*10+10)=#[I4 x.l.t,I4 x.l.k,I4 x.l.v.a,I4 x.l.v.b,I4 x.l.v.c,I4 x.r.t,I4 x.r.k,I4 x.r.v.a,I4 x.r.v.b,I4 x.r.v.c]:=Tz hin hx
set_option maxHeartbeats 1000000 in
theorem Y1(q:QM)(hcl:0≤q.cl∧q.cl≤3)(c:Chg)(p1 p2:Option Addr){s2:List AU}(e1:p1.isSome=(bfQ q c).isSome)(h2:IP p2 (afQ q c) s2){r:CJ}{rv:Value}{sr:List AU}(hr:BZ 5 113 rv r.rows.length (Ae r.rows) sr)(hn:r.rows.length≤100000000):CQ Tryz.prog 176 #[.agg #[I4 q.kd,I4 q.tb,I4 q.cl,I4 q.lo,I4 q.hi,I4 q.bq,I4 q.ot,I4 c.t,I4 c.k,.bool c.had,I4 c.o.a,I4 c.o.b,I4 c.o.c,.bool c.has,I4 c.n.a,I4 c.n.b,I4 c.n.c,.pointer p1,.pointer p2,I4 (mQ q (bfQ q c)),I4 (mQ q (afQ q c))],.agg #[rv,I4 r.val,.bool r.fnd]] [sr,s2] (fun w H'=>∃rv' s',w= .tuple #[.agg #[rv',I4 (D7 q c r).1.val,.bool (D7 q c r).1.fnd],.bool (D7 q c r).2]∧BZ 5 113 rv' (D7 q c r).1.rows.length (Ae (D7 q c r).1.rows) s'∧H'=[s']):=by
 have hml:=mL;obtain ⟨pv,cv,rfl⟩:=hr.form;refine Se func176 ntmps176 [0,1] ?_;intro u R;refine Zq<|Zg<|Ze (Ho Y (cs:=#[I4 q.kd,I4 q.tb,I4 q.cl,I4 q.lo,I4 q.hi,I4 q.bq,I4 q.ot,I4 c.t,I4 c.k,.bool c.had,I4 c.o.a,I4 c.o.b,I4 c.o.c,.bool c.has,I4 c.n.a,I4 c.n.b,I4 c.n.c,.pointer p1,.pointer p2,I4 (mQ q (bfQ q c)),I4 (mQ q (afQ q c))]) (Ff q c p1 p2 (mQ q (bfQ q c)) (mQ q (afQ q c)))) ?_;rintro _ _ ⟨be,rfl,rfl⟩;refine Ze (Bx #[.slice pv r.rows.length cv,I4 r.val,.bool r.fnd]) ?_;rintro _ _ ⟨br,rfl,rfl⟩;refine Ze (Al zeroValue51 #[_,_,_]) ?_;rintro _ _ ⟨bo,rfl,rfl⟩;refine Za Y<|Z0<|Zx<|Zq<|Zq<|Zg<|Zh 0 underlying151 rfl rfl sizeOf30 Y<|Zv (BI (off:=1) underlying30 rfl rfl sizeOf3 Y)<|Zl isAgg3 Y ?_;refine Zh 0 underlying151 rfl rfl sizeOf30 Y<|Zv (BI (off:=6) underlying30 rfl rfl sizeOf3 Y)<|Zl isAgg3 Y ?_;refine Zv (CO Y Y)<|Z0<|Zx ?_;refine Aq Y (fun hto=>?_) (fun hto=>?_)
 ·
  refine Zq<|Zg<|Zo Wh (Pa #[_,_,_] isAgg51 sizeOf51 Y) ?_;refine Xe (Xw sizeOf51 _) ?_;refine Za Y<|Z0<|Zn [4,5] ?_;refine Zx<|AA<|Zt ?_;refine Be rfl results176 Y Wh (Ah isAgg51 sizeOf51 Wn (rfl)) Y (by
   have e8:D7 q c r=(r,false):=by unfold D7;rw [if_pos hto]
   exact ⟨.slice pv r.rows.length cv,sr,by rw [e8];rfl,by rw [e8];exact hr,rfl⟩)
 refine AB<|Zx<|Zq<|Zg<|Za Y<|Z0<|Zx<|Zq<|Zq<|Bf ?_;refine Zg<|Za Y<|Z0<|Zn [2,3,4,6,7] ?_;refine Zx<|AR<|Zb [6,7,2,3,4] ?_;refine BB (e0:=[(6,_),(7,_)]) (fun m e H=>∃(k:Nat) (gk:Option Addr) (ck:Nat) (sk:List AU),m=r.rows.length -k∧(k≤r.rows.length/2∧BZ 10 284 (.slice gk k ck) k (Am ((Ei r.rows).take k)) sk)∧e=[(6,.slice gk k ck),(7,I4 ((2*k:Nat):Int))]∧H=[sk]) (by exact ⟨0,none,0,[],rfl,⟨uK _,Ba 10 _⟩,rfl,rfl⟩) Wp ?_;rintro _ _ _ ⟨k,gk,ck,sk,rfl,⟨hk,hsk⟩,rfl,rfl⟩;refine Zq<|Zq<|Bf ?_;refine Zg<|Zm Y<|Ya (n:=1) Y Y<|Zh 0 underlying51 rfl rfl sizeOf45 Y<|Zl isAgg45 Y ?_;refine Zv (AV underlying45 Y)<|Zv (Av Y Y)<|Z0<|Zx ?_;refine Aq Y (fun hlt=>?_) (fun hlt=>?_)
 ·
  obtain ⟨x,hx⟩:∃x,r.rows[2*k]?=some x:=⟨_,tq (by omega)⟩;obtain ⟨y,hy⟩:∃y,r.rows[2*k+1]?=some y:=⟨_,tq (by omega)⟩;obtain ⟨g,cap9,cur,z,hv9,rfl,hle9,hin9⟩:=Di hr (by omega);injection hv9 with hv1 hv2 hv3
  subst hv1 hv3;obtain ⟨hszx,hexx⟩:=aX hin9 hx;obtain ⟨hszy,hexy⟩:=aX hin9 hy;refine AB<|Zx<|Zq<|AR<|BK (n:=16) (0::0::2::0::14::30::0::64::0::256::960::1984::4094::8190::16383::32767::[]) 24576 (by kernel_rfl) (by kernel_rfl) rfl ?_;refine Zi 1 0 rfl (AL Y)<|Zi 3 1 rfl (AY (off:=0) underlying51 rfl rfl sizeOf45 Y)<|Zj 7 2 rfl isAgg45 Y ?_;refine Zi 15 3 rfl (AL Y) ?_;refine Zi 31 4 rfl (Ac underlying45 sizeOf113 Y Y (by first|omega|decide|(simp;done))) ?_;refine D9 (D':=63) 5 rfl rfl rfl Wh (AZ (cs:=#[_,_,_,_,_]) isAgg113 sizeOf113 Y Wb (by exact hexx)) ?_;refine Zi 127 6 rfl (AY (off:=0) underlying51 rfl rfl sizeOf45 Y)<|Zj 255 7 rfl isAgg45 Y ?_;refine Zi 511 8 rfl (AL Y) ?_;refine Zi 1023 9 rfl (DJ (n:=1) Y Y (by omega)) ?_;refine Zi 2047 10 rfl (Ac underlying45 sizeOf113 Y Y (by first|omega|decide|(simp;done))) ?_;refine D9 (D':=4095) 11 rfl rfl rfl Wh (AZ (cs:=#[_,_,_,_,_]) isAgg113 sizeOf113 Y Wb (by exact hexy)) ?_;refine Zi 8191 12 rfl (BL (vs:=[(0,.agg #[I4 x.t,I4 x.k,I4 x.v.a,I4 x.v.b,I4 x.v.c]),(1,.agg #[I4 y.t,I4 y.k,I4 y.v.a,I4 y.v.b,I4 y.v.c])]) (cs:=#[I4 x.t,I4 x.k,I4 x.v.a,I4 x.v.b,I4 x.v.c,I4 y.t,I4 y.k,I4 y.v.a,I4 y.v.b,I4 y.v.c]) Y (Ab (pl:=#[(0,5),(5,5)]) zeroValue284 underlying284 (fun _=>by kernel_rfl) (by kernel_rfl))) ?_;refine Yw 13 16383 rfl (Af (vs:=[_]) (cs:=[_,_,_,_,_,_,_,_,_,_]) underlying282 sizeOf284 zeroValue284 Y rfl rfl rfl rfl rfl) ?_;rintro _ _ ⟨gp,rfl,rfl⟩;refine Yw 14 32767 rfl (BR (by_:=80) (sz:=10) underlying282 (rfl:Tryz.prog.info? 284=some Tryz.t284) rfl rfl rfl rfl Y (hsk) Y (Da 10 gp 1 1 284 (0,0) (Am [⟨x,y⟩]) rfl) Wo Wo (by exact Eb _) (by omega) (by omega)) ?_;rintro _ _ ⟨sw6,hrw6,rfl⟩;obtain ⟨gw6,cw6,rfl⟩:=hrw6.form;refine Zi 65535 15 rfl (Au Y)<|Ao ?_;refine Zn [2,3,4,6,7] ?_;refine A8<|Zx<|Bf ?_;refine Zg<|Zm Y<|Ya (n:=2) Y Y<|Za Y<|Z0<|Zn [6,7,2,3,4] ?_;refine Aa (e':=[(6,_),(7,_)]) (by exact ⟨k+1,gw6,cw6,sw6,rfl,⟨by omega,BP hrw6 rfl (by rw [Bu (iy hx hy),DD])⟩,rfl,rfl⟩)
 have ek:k=(Ei r.rows).length:=by rw [Jt];omega
 have hskL:=BP hsk ek (by rw [ek,ug]);refine Aw<|Zt<|Zt<|AP<|Zx<|Zq<|Zg<|Zo Wh (AZ isAgg151 sizeOf151 Y Wb (by exact Ay rfl)) ?_;refine Zm Y<|Zc [_,_] Y call234 Y rfl (YS q hcl c p1 p2 e1 h2 hskL (by rw [Jt];omega)) ?_;rintro _ _ ⟨_,⟨lv,s5,rfl,h5,rfl⟩,rfl⟩;have e8:D7 q c r=(⟨DT (jnT q c (Ei r.rows)).1,r.val,r.fnd⟩,(jnT q c (Ei r.rows)).2):=by unfold D7;rw [if_neg hto]
 have hL9:=aR q c (Ei r.rows);rw [Jt]at hL9;obtain ⟨L,hL⟩:∃L,L=(jnT q c (Ei r.rows)).1:=⟨_,rfl⟩;rw [←hL]at h5 e8 hL9;obtain ⟨g5,c5,rfl⟩:=h5.form;refine Zm Y<|Zd Y rfl<|Zd Y rfl<|Za Y<|Za Y<|Z0<|Zn [3,4,6,8] ?_;refine Zx<|Zq<|Zg<|Zh 0 underlying51 rfl rfl sizeOf45 Y<|Xe (Zs sizeOf45 Y Y rfl (hc:=by exact (rfl:_=(#[.slice none 0 0,I4 r.val,.bool r.fnd]:Array Value))) (hi:=by first|omega|decide|(simp;done))) ?_;refine Z0<|Zx<|Zq<|Zq<|Bf ?_;refine Zg<|Zm Y<|Zv (AV underlying282 Y)<|Zm Y<|Z0<|Zx<|AR<|Zb [51,3,4,8,49,50] ?_;refine BB (e0:=[(51,_)]) (fun m e H=>∃(k:Nat) (gk:Option Addr) (ck:Nat) (sk:List AU),m=L.length -k∧(k≤L.length∧BZ 5 113 (.slice gk (2*k) ck) (2*k) (Ae (DT (L.take k))) sk)∧e=[(51,I4 (k:Int))]∧H=[[(br,.cells #[.slice gk (2*k) ck,I4 r.val,.bool r.fnd] 51 (0,0))],sk]) (by exact ⟨0,none,0,[],rfl,⟨uK _,Ba 5 _⟩,rfl,rfl⟩) Wp ?_;rintro _ _ _ ⟨k,gk,ck,sk,rfl,⟨hk,hsk⟩,rfl,rfl⟩;refine Zq<|Bf ?_;refine Zg<|Zv (Av Y Y)<|Z0<|Zx<|Zq ?_;refine Aq Y (fun hlt=>?_) (fun hlt=>?_)
 ·
  obtain ⟨p,hp⟩:∃p,L[k]?=some p:=⟨_,tq hlt⟩;obtain ⟨g,cap9,cur,z,hv9,rfl,hle9,hin9⟩:=Di h5 (by omega);injection hv9 with hv1 hv2 hv3
  subst hv1 hv3;obtain ⟨hszp,hexp⟩:=kX hin9 hp;refine AB<|Zx<|Zq<|AR<|Zq<|Bf ?_;refine Zg ?_;refine BO (Ac underlying282 sizeOf284 Y Y (by first|omega|decide|(simp;done))) ?_;refine Zo Wh (AZ (cs:=#[_,_,_,_,_,_,_,_,_,_]) isAgg284 sizeOf284 Y Wb (by exact hexp)) ?_;refine Ze (Al zeroValue284 #[_,_,_,_,_,_,_,_,_,_]) ?_;rintro _ _ ⟨bp,rfl,rfl⟩;refine Xe (Xw sizeOf284 #[I4 p.l.t,I4 p.l.k,I4 p.l.v.a,I4 p.l.v.b,I4 p.l.v.c,I4 p.r.t,I4 p.r.k,I4 p.r.v.a,I4 p.r.v.b,I4 p.r.v.c]) ?_;refine Z0<|Zx<|Zg<|Zh 0 underlying51 rfl rfl sizeOf45 Y<|Zl isAgg45 Y ?_;refine Zh 0 underlying284 rfl rfl sizeOf113 Y<|Zo Wh (Pa #[_,_,_,_,_] isAgg113 sizeOf113 Y) ?_;refine Zh 5 underlying284 rfl rfl sizeOf113 Y<|Zo Wh (Pa #[_,_,_,_,_] isAgg113 sizeOf113 Y) ?_;refine Ze (Af (vs:=[_,_]) (cs:=[_,_,_,_,_,_,_,_,_,_]) underlying45 sizeOf113 zeroValue113 Y rfl rfl rfl rfl rfl) ?_;rintro _ _ ⟨gq,rfl,rfl⟩;refine Ze (BR (by_:=40) (sz:=5) underlying45 (rfl:Tryz.prog.info? 113=some Tryz.t113) rfl rfl rfl rfl Y (hsk) Y (Da 5 gq 2 2 113 (0,0) (Ae [p.l,p.r]) rfl) Wo Wo (by exact CS _) (by omega) (by omega)) ?_;rintro _ _ ⟨sw7,hrw7,rfl⟩;obtain ⟨gw7,cw7,rfl⟩:=hrw7.form;refine Zh 0 underlying51 rfl rfl sizeOf45 Y<|Xe (Zs sizeOf45 Y Y rfl (hc:=by exact (rfl:_=(#[.slice gw7 (2*k+2) cw7,I4 r.val,.bool r.fnd]:Array Value))) (hi:=by first|omega|decide|(simp;done))) ?_;refine Z0<|Zn [3,4,8,49,50,51] ?_;refine A8<|Zx<|Bf ?_;refine Zg<|Ya (n:=1) Y Y<|Zm Y<|Z0<|Zn [51,3,4,8,49,50] ?_;refine Aa (e':=[(51,_)]) (by exact ⟨k+1,gw7,cw7,sw7,rfl,⟨by omega,BP hrw7 rfl (by rw [QO hp,Bb])⟩,rfl,rfl⟩)
 have ek:k=L.length:=by omega
 subst ek;rw [ug]at hsk;refine Aw<|Zt<|Zt<|AP<|Zx<|Zq<|Zg<|Zo Wh (Pa #[_,_,_] isAgg51 sizeOf51 Y) ?_;refine Zm Y<|Xe (Xw sizeOf51 _) ?_;refine Za Y<|Z0<|Zx<|AA ?_;refine Be rfl results176 Y Wh (Ah isAgg51 sizeOf51 Wn (rfl)) Y (by exact ⟨.slice gk (2*L.length) ck,sk,by rw [e8];rfl,by rw [e8];exact BP hsk (HY L).symm rfl,rfl⟩)
end Go.Proofs.YtkdgffcfmgmemaaGreatDoor
