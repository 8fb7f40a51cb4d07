/- Pairs of rows in memory; slices.Clone, IndexFunc, DeleteFunc, Insert at pairs. -/
/- predicate.without, inserted at pairs. -/
/- The pairs of a join: plain words, the closures. -/
/- effect.join. -/
/- effect.join. -/
/- predicate.patchJoin. -/
import Derived.Test.YtkdgffcfmgmemaaGreatDoorEz
import Derived.Test.YtkdgffcfmgmemaaGreatDoorPr3
import Derived.Test.YtkdgffcfmgmemaaGreatDoorEx5
set_option linter.unusedVariables false
set_option linter.unusedSimpArgs false
namespace Go.Proofs.YtkdgffcfmgmemaaGreatDoor
open Go.Proofs.Tryz
open Go Go.RowKit Gw
set_option maxRecDepth 100000
attribute [local irreducible] Gw.At Gw.Nx Gw.Ops
structure BU where
 l:AP
 r:AP
deriving DecidableEq
def Ak(ps:List BU):List Value:=ps.flatMap fun p=>[I4 p.l.t,I4 p.l.k,I4 p.l.v.a,I4 p.l.v.b,I4 p.l.v.c,I4 p.r.t,I4 p.r.k,I4 p.r.v.a,I4 p.r.v.b,I4 p.r.v.c]
theorem Cy(a b:List BU):Ak (a++b)=Ak a++Ak b:=by unfold Ak;rw [vX]
theorem BD:∀(rs:List BU),(Ak rs).length=rs.length*10
 |[]=>rfl
 |r::rs=>by
  have:=BD rs;unfold Ak at*;rw [ui,tK,this,tY];simp;omega
theorem FJ(rs:List BU)(k:Nat):(Ak rs).take (k*10)=Ak (rs.take k):=by
 rcases uJ rs.length k with h|h
 · rw [uN (by rw [BD];omega),uN (by omega)]
 · have e:Ak rs=Ak (rs.take k)++Ak (rs.drop k):=by rw [←Cy,uY]
   rw [e,ul (by rw [BD,tL];omega)]
theorem Kg(rs:List BU)(k:Nat):(Ak rs).drop (k*10)=Ak (rs.drop k):=by
 rcases uJ rs.length k with h|h
 · rw [vI (by rw [BD];omega),vI (by omega)];rfl
 · have e:Ak rs=Ak (rs.take k)++Ak (rs.drop k):=by rw [←Cy,uY]
   rw [e,wm (by rw [BD,tL];omega)]
theorem EW(rs:List BU):∀u∈Ak rs,u.oneCell'=true:=by
 intro u hu;unfold Ak at hu;obtain ⟨r,_,h⟩:=xK.1 hu;simp only [uI,vT,or_false]at h;rcases h with rfl|rfl|rfl|rfl|rfl|rfl|rfl|rfl|rfl|rfl<;>rfl
def RH(M:List AR)(v:Value)(rs:List BU):Prop:=∃p cap,v= .slice p rs.length cap∧(rs.length≤maxLen∧rs.length≤cap)∧∀(i:Nat) (x:BU),rs[i]?=some x→∃g off cur T zz,p=some ⟨g,off,none⟩∧(g,Obj.cells cur T zz)∈M∧off+i*10+10≤cur.size∧cur.extract (off+i*10) (off+i*10+10)=#[I4 x.l.t,I4 x.l.k,I4 x.l.v.a,I4 x.l.v.b,I4 x.l.v.c,I4 x.r.t,I4 x.r.k,I4 x.r.v.a,I4 x.r.v.b,I4 x.r.v.c]
theorem MG{e:TypeId}{v:Value}{rs:List BU}{s:List AR}(h:BX 10 e v rs.length (Ak rs) s)(hn:rs.length≤maxLen):RH s v rs:=by
 obtain ⟨b,cap,rfl⟩:=h.form;refine ⟨b,cap,rfl,⟨hn,FD h⟩,fun i x hx=>?_⟩;obtain ⟨g,cap',cur,z,hv,rfl,hsz,hex⟩:=Ha h i (tH.1 hx).1;injection hv with hv1 hv2 hv3
 refine ⟨g,0,cur,e,z,hv1,by simp,by omega,?_⟩;unfold Ak at hex;rw [GN _ 10 (fun _=>rfl) rs i x hx]at hex;rw [uL];exact vS.1 hex
theorem Pi{rs:List BU}{k:Nat}{r:BU}(h:rs[k]?=some r):Ak rs=Ak (rs.take k)++(Ak [r]++Ak (rs.drop (k+1))):=by
 rw [←Cy,←Cy];congr 1;obtain ⟨hk,rfl⟩:=tH.1 h;rw [uU,←vB hk,uY]
theorem IU{rs:List BU}{k:Nat}{r:BU}(h:rs[k]?=some r)(j:Nat)(hj:j<10):(Ak rs)[k*10+j]?=(Ak [r])[j]?:=by
 have hk:=(tH.1 h).1;have e:(Ak (rs.take k)).length=k*10:=by rw [BD,tL];omega
 rw [Pi h,vQ (by omega),xE (by rw [e,BD];simp;omega),e,zt]
theorem U8{M:List AR}{p:Option Addr}{n cap:Nat}{rs:List BU}(h:RH M (.slice p n cap) rs):Fa M p (Ak rs):=by
 obtain ⟨p',cap',e,hl,hg⟩:=h;injection e with e1 e2 e3
 subst e1;intro j u hj;have hjl:=(tH.1 hj).1
 rw [BD]at hjl;obtain ⟨x,hx⟩:∃x,rs[j/10]?=some x:=⟨_,tF (by omega)⟩;obtain ⟨g,off,cur,T,zz,rfl,hm,hsz,hex⟩:=hg (j/10) x hx;refine ⟨g,off,cur,T,zz,rfl,hm,?_⟩;have h1:=NV hex hsz (j%10) (by omega)
 have h2:=IU hx (j%10) (by omega);rw [show j/10*10+j%10=j by omega,hj]at h2;rw [show off+j=off+j/10*10+j%10 by omega,h1,h2,←uO];rfl
theorem UH{M:List AR}{v:Value}{rs:List BU}(hv:RH M v rs)(hb:rs.length≤1000000000000):CO Tryz.prog 299 #[v] [M] (fun r H'=>∃sr,BX 10 284 r rs.length (Ak rs) sr∧H'=[sr,M]):=by
 have hml:=mL;obtain ⟨p,cap,rfl,⟨hl,hlc⟩,hg⟩:=id hv;have hcm:Fa M p (Ak rs):=U8 hv
 refine Se func299 ntmps299 [0] ?_;intro u R;refine Zq<|Zg<|Za Y<|Z0<|Zx<|Zq<|Zq<|Zg<|Zm Y<|Zv (Fg underlying282 Y Y)<|Z0<|Zx ?_;refine Af Y (fun hp=>?_) (fun hp=>?_)
 ·
  have hp0:p=none:=by cases p with
   |none=>rfl
   |some x=>cases hp
  have h0:rs=[]:=by
   cases rs with
   |nil=>rfl
   |cons x l=>obtain ⟨g,off,cur,T,zz,e9,_⟩:=hg 0 x rfl;rw [hp0]at e9;cases e9
  refine Zq<|Bd ?_;refine Zg<|Za Y<|Z0<|Zx<|A9<|Zt ?_;refine AB rfl results299 Y (by exact ⟨[],by rw [h0];exact BV 10 _,rfl⟩)
 refine AC<|Zx<|Zq<|Zg<|Ze (Gv underlying282 sizeOf284) ?_;rintro _ _ ⟨g1,rfl,rfl⟩;refine Zm Y ?_;refine Ze (LJ (by_:=80) (sz:=10) underlying282 (rfl:Tryz.prog.info? 284=some Tryz.t284) rfl rfl rfl rfl Y (Iq 10 284 g1 0 [] rfl (by decide)) Y (hcm) (by exact BD _) (by decide) Wo Wo (by exact EW _) (by omega) (by omega)) ?_;rintro _ _ ⟨sa1,hra1,rfl⟩;replace hra1:=BO hra1 (uL _) (vN _);refine Za Y<|Z0<|Zx<|A9 ?_;refine AB rfl results299 Y (by exact ⟨_,hra1,rfl⟩)
def GM(pd:BU→Bool)(rows:List BU):Int:=(rows.findIdx? pd).elim (-1) fun i=>(i:Int)
theorem dh{pd:BU→Bool}{rows:List BU}{i:Nat}{x:BU}(h:∀(j:Nat) (y:BU),j<i→rows[j]?=some y→pd y=false)(hx:rows[i]?=some x)(hp:pd x=true):GM pd rows=(i:Int):=by
 obtain ⟨hi,rfl⟩:=tH.1 hx;unfold GM;rw [vF.2 ⟨hi,hp,fun j hj=>by simp [h j _ hj (tF (by omega))]⟩];rfl
theorem di{pd:BU→Bool}{rows:List BU}(h:∀(j:Nat) (y:BU),j<rows.length→rows[j]?=some y→pd y=false):GM pd rows=-1:=by
 unfold GM;rw [wL.2 fun y hy=>by
  obtain ⟨j,hj⟩:=uV hy;exact h j y (tH.1 hj).1 hj]
 rfl
theorem Qq(pd:BU→Bool)(rows:List BU):(GM pd rows=-1∧∀y∈rows,pd y=false)∨∃(i:Nat) (x:BU),GM pd rows=(i:Int)∧rows[i]?=some x∧pd x=true∧∀(j:Nat) (y:BU),j<i→rows[j]?=some y→pd y=false:=by
 unfold GM;cases h:rows.findIdx? pd with
 |none=>exact .inl ⟨rfl,wL.1 h⟩
 |some i=>
  obtain ⟨h1,h2,h3⟩:=vF.1 h;refine .inr ⟨i,_,rfl,tF h1,h2,fun j y hj hy=>?_⟩;obtain ⟨h4,rfl⟩:=tH.1 hy;simpa using h3 j hj
theorem bS{rs:List BU}{k:Nat}(hk:k<rs.length)(x:BU):(Ak rs).take (k*10)++Ak [x]++(Ak rs).drop (k*10+(Ak [x]).length)=Ak (rs.set k x):=by
 rw [show k*10+(Ak [x]).length=(k+1)*10 by rw [BD];simp;omega,FJ,Kg,←Cy,←Cy,wu,if_pos hk];simp
theorem Tc{cur:Array Value}{rs:List BU}{k:Nat}{x:BU}(hin:Bw cur 0 (Ak rs))(hx:rs[k]?=some x):k*10+10≤cur.size∧cur.extract (0+k*10) (0+k*10+10)=(Ak [x]).toArray:=by
 have hk:=(tH.1 hx).1;have hs:k*10+10≤cur.size:=by
  have h4:=IU hx 9 (by decide);have h5:=hin.get (k*10+9) _ (h4.trans (by rfl))
  have:=(u7.1 h5).1;omega
 refine ⟨hs,?_⟩;apply vS.1;apply vg;intro j;rw [uO,wW];split
 · rename_i hj
   have hj5:j<10:=by omega
   have h1:=IU hx j hj5;obtain ⟨u,hu⟩:∃u,(Ak [x])[j]?=some u:=⟨_,tF (by rw [BD];simpa using hj5)⟩;rw [hu]at h1;have h2:=hin.get _ _ h1
   rw [uL]at h2;rw [uL,h2];exact hu.symm
 · rw [uq]
   show(Ak [x]).length≤j;rw [BD];simp only [tT];omega
theorem KI{rows:List BU}{j:Nat}{x:BU}(f:BU→Bool)(hx:rows[j]?=some x):(rows.take (j+1)).filter f=(rows.take j).filter f++(if f x then [x]else []):=by
 rw [Bo hx,um];congr 1;rw [zA,zN]
theorem Kz{rows:List BU}{f:BU→Bool}(h:∀(j:Nat) (y:BU),rows[j]?=some y→f y=true):rows.filter f=rows:=List.filter_eq_self.2 fun y hy=>by
 obtain ⟨j,hj⟩:=uV hy;exact h j y hj
theorem Kv{A B:List AR}{v:Value}{rows:List BU}(hv:RH A v rows)(fid:Nat)(us:List Value)(pd:BU→Bool)(hcf:∀(args:Array Value) (w:World),(callFunc fid args).run Tryz.prog w= .ok (.enter fid args) w)(hf:∀x:BU,Av Tryz.prog fid (.agg #[I4 x.l.t,I4 x.l.k,I4 x.l.v.a,I4 x.l.v.b,I4 x.l.v.c,I4 x.r.t,I4 x.r.k,I4 x.r.v.a,I4 x.r.v.b,I4 x.r.v.c]::us).toArray [B] (.bool (pd x))):Av Tryz.prog 270 #[v,.func (.func fid) #[] us.toArray] [A,B] (I4 (GM pd rows)):=by
 have hml:=mL;obtain ⟨p,cap,rfl,⟨hl,hlc⟩,hg⟩:=id hv;refine Se func270 ntmps270 [0,1] ?_;intro u R;refine Zq<|Zg<|Za Y<|Z0<|Zx<|Zq<|Zq<|Zg<|Zm Y<|Zv (AV underlying282 Y)<|Zm Y<|Z0<|Zx<|AQ<|Zb [8,0,1,7] ?_;refine Az (e0:=[(8,_)]) (fun m e H=>∃(i:Nat),m=rows.length -i∧(i≤rows.length∧∀(j:Nat) (y:BU),j<i→rows[j]?=some y→pd y=false)∧e=[(8,I4 (i:Int))]∧H=[]) (by exact ⟨0,rfl,⟨tX _,fun j y h=>by omega⟩,rfl,rfl⟩) Wp ?_;rintro _ _ _ ⟨i,rfl,⟨hi,hno⟩,rfl,rfl⟩;refine Zq<|Zg<|Zv (Aq Y Y)<|Z0<|Zx<|Zq ?_;refine Ao Y (fun hlt=>?_) (fun hlt=>?_)
 ·
  obtain ⟨x,hx⟩:∃x,rows[i]?=some x:=⟨_,tF hlt⟩;obtain ⟨g,off,cur,T,zz,rfl,hm9,hsz9,hex9⟩:=hg i x hx;refine AC<|Zx<|Zq<|AQ<|Zq<|Zg<|Zm Y<|Za Y<|Z0<|Zx<|Zq<|Zg<|Zm Y<|Zm Y<|Zm Y ?_;refine BM (AU underlying282 sizeOf284 Y Y (by first|omega|decide|(simp;done))) ?_;refine Cf (cs:=[(g,.cells cur T zz)]) (by simp [hm9]) (AX (cs:=#[I4 x.l.t,I4 x.l.k,I4 x.l.v.a,I4 x.l.v.b,I4 x.l.v.c,I4 x.r.t,I4 x.r.k,I4 x.r.v.a,I4 x.r.v.b,I4 x.r.v.c]) isAgg284 sizeOf284 Y (by omega) hex9) rfl rfl ?_;refine Xr [_] Y (hcf) Y rfl (hf x) ?_;refine Z0<|Zx ?_;refine Af Y (fun hpx=>?_) (fun hpx=>?_)
  ·
   refine Zq<|Zg<|Zm Y<|Za Y<|Z0<|Zx<|A9<|AY<|Zt<|Zt<|AY<|Zt ?_;refine AB rfl results270 Y (by exact ⟨congrArg (Value.int .i64) (dh hno hx hpx).symm,rfl⟩)
  refine AC<|A8<|Zx<|Zg<|Ya (n:=1) Y Y<|Zm Y<|Z0<|Zn [8,0,1,7] ?_;refine Ab (e':=[(8,_)]) (by exact ⟨i+1,rfl,⟨by omega,fun j y h1 h2=>by rcases uJ j i with h9|h9;exact hno j y h9 h2;obtain rfl:j=i:=(by omega);rw [hx]at h2;injection h2 with h2;subst h2;exact hpx⟩,rfl,rfl⟩)
 have ei:i=rows.length:=by omega
 subst ei;refine Ar<|Zt<|Zt<|AO<|Zx<|Zq<|Zg<|Za Y<|Z0<|Zx<|A9 ?_;refine AB rfl results270 Y (by exact ⟨congrArg (Value.int .i64) (di hno).symm,rfl⟩)
set_option maxHeartbeats 1000000 in
theorem Uf{B s:List AR}{v:Value}{rows:List BU}(hrow:BX 10 284 v rows.length (Ak rows) s)(hn:rows.length≤1000000000)(fid:Nat)(us:List Value)(pd:BU→Bool)(hcf:∀(args:Array Value) (w:World),(callFunc fid args).run Tryz.prog w= .ok (.enter fid args) w)(hf:∀x:BU,Av Tryz.prog fid (.agg #[I4 x.l.t,I4 x.l.k,I4 x.l.v.a,I4 x.l.v.b,I4 x.l.v.c,I4 x.r.t,I4 x.r.k,I4 x.r.v.a,I4 x.r.v.b,I4 x.r.v.c]::us).toArray [B] (.bool (pd x))):CO Tryz.prog 298 #[v,.func (.func fid) #[] us.toArray] [s,B] (fun r H'=>∃s',BX 10 284 r (rows.filter fun x=>!pd x).length (Ak (rows.filter fun x=>!pd x)) s'∧H'=[s',B]):=by
 have hml:=mL;obtain ⟨p,cap,rfl⟩:=hrow.form;have hU:=MG hrow (by omega)
 refine Se func298 ntmps298 [0,1] ?_;intro u R;refine Zq<|Zg<|Za Y<|Z0<|Zx<|Zq<|Zg<|Zm Y<|Zm Y<|Xr [_,_] Y call270 Y rfl (Kv hU fid us pd hcf hf) ?_;rcases Qq pd rows with⟨e9,hall⟩|⟨k,x0,e9,hx0,hp0,hno⟩
 ·
  rw [e9];refine Za Y<|Z0<|Zx<|Zq<|Zq<|Zg<|Zm Y<|Zv (CF Y Y)<|Z0<|Zx ?_;refine Ao Y (fun h1=>?_) (fun h1=>?_)
  ·
   refine Zq<|Zg<|Zm Y<|Za Y<|Z0<|Zx<|A9<|Zt ?_;refine AB rfl results298 Y (by exact ⟨_,BO hrow (congrArg List.length (Kz fun j y hy=>by rw [hall y (tV hy)];rfl).symm) (congrArg Ak (Kz fun j y hy=>by rw [hall y (tV hy)];rfl).symm),rfl⟩)
  exact absurd rfl h1
 rw [e9];have hk0:=(tH.1 hx0).1
 obtain ⟨g,cap9,cur,z,hv9,rfl,hle9,hin9⟩:=Db hrow (by omega);injection hv9 with hv1 hv2 hv3
 subst hv1 hv3;refine Za Y<|Z0<|Zx<|Zq<|Zq<|Zg<|Zm Y<|Zv (CF Y Y)<|Z0<|Zx ?_;refine Ao Y (fun h2=>?_) (fun h2=>?_)
 ·
  exfalso;omega
 refine AC<|Zx<|Zq<|Zq<|Zg<|Zm Y<|Ya (n:=1) Y Y<|Za Y<|Z0<|Zx<|AQ<|Zb [5,6,0,1] ?_;refine Az (e0:=[(5,_),(6,_)]) (fun m e H=>∃(i j:Nat) (W:List BU) (cur:Array Value),m=rows.length -j∧((i<j∧j≤rows.length)∧W.length=rows.length∧BX 10 284 (I6 g rows.length cap) rows.length (Ak W) [(g,.cells cur 284 z)]∧W.take i=(rows.take j).filter (fun x=>!pd x)∧∀t,j≤t→W[t]?=rows[t]?)∧e=[(5,I4 (i:Int)),(6,I4 (j:Int))]∧H=[[(g,.cells cur 284 z)]]) (by exact ⟨k,k+1,rows,cur,rfl,⟨⟨by omega,by omega⟩,rfl,hrow,by rw [KI _ hx0,hp0];simp only [wT,vH,if_false,uR];exact (Kz (fun j y hy=>by rw [uX]at hy;split at hy;rw [hno j y (by assumption) hy];rfl;cases hy)).symm,fun t _=>rfl⟩,rfl,rfl⟩) Wp ?_;rintro _ _ _ ⟨i,j,W,cur,rfl,⟨hij,hWl,hrW,hWt,hWr⟩,rfl,rfl⟩;obtain ⟨hinW,hcsW,hleW,hcmW,hfrW⟩:=JD hrW;refine Zq<|Zq<|Zg<|Zm Y<|Zm Y<|Zv (AV underlying282 Y)<|Zv (Aq Y Y)<|Z0<|Zx ?_;refine Ao Y (fun hlt=>?_) (fun hlt=>?_)
 ·
  obtain ⟨x,hx⟩:∃x,rows[j]?=some x:=⟨_,tF hlt⟩;obtain ⟨hsz9,hex9⟩:=Tc hinW ((hWr j (tQ _)).trans hx);refine AC<|Zx<|Zq<|AQ<|Zq<|Zg<|Zm Y<|Zm Y ?_;refine BM (AU underlying282 sizeOf284 Y Y (by first|omega|decide|(simp;done))) ?_;refine Zo Wh (AX (cs:=#[I4 x.l.t,I4 x.l.k,I4 x.l.v.a,I4 x.l.v.b,I4 x.l.v.c,I4 x.r.t,I4 x.r.k,I4 x.r.v.a,I4 x.r.v.b,I4 x.r.v.c]) isAgg284 sizeOf284 Y (by omega) hex9) ?_;refine Ze (Al zeroValue284 #[_,_,_,_,_,_,_,_,_,_]) ?_;rintro _ _ ⟨bx,rfl,rfl⟩;refine Xe (Xw sizeOf284 #[I4 x.l.t,I4 x.l.k,I4 x.l.v.a,I4 x.l.v.b,I4 x.l.v.c,I4 x.r.t,I4 x.r.k,I4 x.r.v.a,I4 x.r.v.b,I4 x.r.v.c]) ?_;refine Z0<|Zx<|Zq<|Zg<|Zm Y<|Zo Wh (Pa #[_,_,_,_,_,_,_,_,_,_] isAgg284 sizeOf284 Y) ?_;refine Xr [_] Y (hcf) Y rfl (hf x) ?_;refine Zv (Ca Y)<|Z0<|Zn [0,1,5,6,7,29] ?_;refine Zx ?_;refine Af Y (fun hpx=>?_) (fun hpx=>?_)
  ·
   have hpx:pd x=false:=by simpa using hpx
   have hrW2:=BO (xs':=Ak (W.set i x)) (EH (i:=0+i*10) (ys:=Ak [x]) hrW (by rw [BD,BD,tT];omega)) rfl (by rw [uL];exact bS (by omega) x);refine Zq<|Zg<|Zm Y<|Zm Y<|Zo Wh (Pa #[_,_,_,_,_,_,_,_,_,_] isAgg284 sizeOf284 Y) ?_;refine BM (AU underlying282 sizeOf284 Y Y (by first|omega|decide|(simp;done))) ?_;refine Xe (BN sizeOf284 Y Y (by(simp [Value.oneCell'];done)) Wu (by exact (rfl:_=Ed cur (0+i*10) (Ak [x]))) (by first|rfl|(simp;done)) Wb (by exact hfrW)) ?_;refine Z0<|Zx<|Zg<|Zm Y<|Ya (n:=1) Y Y<|Za Y<|Z0<|A8<|Zx<|Zg<|Zm Y<|Ya (n:=1) Y Y<|Za Y<|Z0<|Zn [5,6,0,1] ?_;refine Ab (e':=[(5,_),(6,_)]) (by exact ⟨i+1,j+1,W.set i x,_,rfl,⟨by omega,by rw [List.length_set];exact hWl,hrW2,by rw [VH (by omega),hWt,KI _ hx];simp [hpx],fun t ht=>by rw [List.getElem?_set_ne (by omega)];exact hWr t (by omega)⟩,rfl,rfl⟩)
  have hpx:pd x=true:=by simpa using hpx
  refine AC<|A8<|Zx<|Zg<|Zm Y<|Ya (n:=1) Y Y<|Za Y<|Z0<|Zn [5,6,0,1] ?_;refine Ab (e':=[(5,_),(6,_)]) (by exact ⟨i,j+1,W,cur,rfl,⟨by omega,hWl,hrW,by rw [hWt,KI _ hx];simp [hpx],fun t ht=>hWr t (by omega)⟩,rfl,rfl⟩)
 have ej:j=rows.length:=by omega
 subst ej;rw [uQ]at hWt;have hil:(rows.filter fun x=>!pd x).length=i:=by rw [←hWt,tL];omega
 refine Ar<|Zt<|Zt<|AO<|Zx<|Zq<|Zg<|Zm Y<|Zm Y ?_;refine BM (Bz underlying282 sizeOf284 Y Y (by omega)) ?_;refine Ze (Mk underlying282 (rfl:Tryz.prog.info? 284=some Tryz.t284) rfl rfl (by simp [Value.cells,Value.oneCell']) Y (by omega) hcsW hfrW Wo) ?_;rintro _ _ rfl;have hrW3:=Sb (EH (i:=i*10) (ys:=(Builtin.zeroCells (Value.agg #[I4 0,I4 0,I4 0,I4 0,I4 0,I4 0,I4 0,I4 0,I4 0,I4 0]).cells (rows.length -i)).toList) hrW (by rw [w9,size_zeroCells,BD];show i*10+(rows.length -i)*10≤_;omega)) i (by omega)
 refine Z0<|Zx<|Zq<|Zg<|Zm Y<|Zm Y ?_;refine BM (Bc underlying282 sizeOf284 Y Y (by omega)) ?_;refine Za Y<|Z0<|Zx<|A9 ?_;refine AB rfl results298 Y (by
  refine ⟨_,BO hrW3 hil.symm ?_,rfl⟩;rw [tO,ul (by rw [tL,BD];omega),FJ,hWt])
theorem dY{A Y D:List Value}{i n:Nat}(hA:A.length=(n+1)*10)(hi:i≤n)(hY:Y.length=10)(hD:D.length=(n -i)*10):(A.take (0+i*10)++Y++A.drop (0+i*10+Y.length)).take (0+(i+1)*10)++D++(A.take (0+i*10)++Y++A.drop (0+i*10+Y.length)).drop (0+(i+1)*10+D.length)=A.take (i*10)++Y++D:=by
 rw [uL,uL,ul (by rw [tK,tL];omega),vI (by simp only [tK,tL,tN];omega),uR]
theorem YH{A Y D:List Value}{i n:Nat}(hA:A.length=(n+1)*10)(hi:i≤n)(hY:Y.length=10)(hD:D.length=(n -i)*10):(A.take (0+(i+1)*10)++D++A.drop (0+(i+1)*10+D.length)).take (0+i*10)++Y++(A.take (0+(i+1)*10)++D++A.drop (0+(i+1)*10+D.length)).drop (0+i*10+Y.length)=A.take (i*10)++Y++D:=by
 rw [uL,uL,vI (l:=A) (by omega),uR,vP (by rw [tL];omega),xB,wB (by omega),wm (by rw [tL];omega)]
theorem SY(rows:List BU)(i:Nat)(y:BU):(Ak rows).take (i*10)++Ak [y]++Ak (rows.drop i)=Ak (rows.take i++[y]++rows.drop i):=by
 rw [FJ,Cy,Cy]
theorem Ox{c:Array Value}{rows:List BU}(h:Bw c 0 (Ak rows))(i:Nat)(hi:i≤rows.length):Bw c (0+i*10) (Ak (rows.drop i)):=by
 have h1:=Ia h (i*10) ((rows.length -i)*10) (by rw [BD];omega);rw [Kg,uN (by rw [BD,tN];omega)]at h1;exact h1
theorem X6{c:Array Value}{rows:List BU}(h:Bw c 0 (Ak rows))(i:Nat)(hi:i≤rows.length):Bw c 0 (Ak (rows.take i)):=by
 have h1:=Ia h 0 (i*10) (by rw [BD];omega);rw [wO,FJ]at h1;exact h1
theorem Qo(rows:List BU)(i:Nat)(hi:i≤rows.length)(y:BU):(rows.take i++[y]++rows.drop i).length=rows.length+1:=by
 simp only [tK,tL,tN,tT];omega
set_option maxHeartbeats 1000000 in
theorem UZ{s:List AR}{v:Value}{rows:List BU}(hrow:BX 10 284 v rows.length (Ak rows) s)(hn:rows.length≤1000000000)(i:Nat)(hi:i≤rows.length)(y:BU)(g2:Nat):CO Tryz.prog 300 #[v,I4 (i:Int),I6 g2 1 1] [s,[(g2,.cells #[I4 y.l.t,I4 y.l.k,I4 y.l.v.a,I4 y.l.v.b,I4 y.l.v.c,I4 y.r.t,I4 y.r.k,I4 y.r.v.a,I4 y.r.v.b,I4 y.r.v.c] 284 (0,0))]] (fun r H'=>∃s' s2,BX 10 284 r (rows.take i++[y]++rows.drop i).length (Ak (rows.take i++[y]++rows.drop i)) s'∧H'=[s',s2,[(g2,.cells #[I4 y.l.t,I4 y.l.k,I4 y.l.v.a,I4 y.l.v.b,I4 y.l.v.c,I4 y.r.t,I4 y.r.k,I4 y.r.v.a,I4 y.r.v.b,I4 y.r.v.c] 284 (0,0))]]):=by
 have hml:=mL;obtain ⟨p,cap,rfl⟩:=hrow.form;have hle:=FD hrow
 refine Se func300 ntmps300 [0,1,2] ?_;intro u R;refine Zq<|Zg<|Za Y<|Z0<|Zx<|Zq<|Bd ?_;refine Zg<|Zm Y<|Zm Y ?_;refine BM (Bz underlying282 sizeOf284 Y Y (by omega)) ?_;refine Z0<|Zx<|Zq<|Zg<|Zm Y<|Zv (AV underlying282 Y)<|Za Y<|Z0<|Zx<|Zq<|Zq<|Zg<|Zm Y<|Zv (C8 (n:=0) Y Y)<|Z0<|Zx ?_;refine Ao Y (fun h0=>?_) (fun h0=>?_)
 ·
  cases h0
 refine AC<|Zx<|Zq<|Zg<|Zm Y<|Zv (AV underlying282 Y)<|Za Y<|Z0<|Zx<|Zq<|Zq<|Zg<|Zm Y<|Zm Y<|Zv (C8 Y Y)<|Z0<|Zn [0,1,2,7,8,22] ?_;refine Zx ?_;refine Ao Y (fun hin=>?_) (fun hin=>?_)
 ·
  refine Zq<|Zg<|Zm Y<|Zm Y ?_;refine Ze (BR (by_:=80) (sz:=10) underlying282 (rfl:Tryz.prog.info? 284=some Tryz.t284) rfl rfl rfl rfl Y (hrow) Y (DY 10 g2 1 1 284 (0,0) (Ak [y]) rfl) Wo Wo (by exact EW _) (by omega) (by omega)) ?_;rintro _ _ ⟨sw5,hrw5,rfl⟩;obtain ⟨gw5,cw5,rfl⟩:=hrw5.form;refine Za Y<|Z0<|Zx<|A9<|Zt ?_;refine AB rfl results300 Y (by
   have hin:i=rows.length:=by omega
   subst hin;exact ⟨_,[],BO hrw5 (Qo rows _ (tQ _) y).symm (by rw [uQ,AA0,uR,Cy]),rfl⟩)
 obtain ⟨g,cap9,cur,z,hv9,rfl,hle9,hin9⟩:=Db hrow (by omega);injection hv9 with hv1 hv2 hv3
 subst hv1 hv3;obtain ⟨_,hcs,_,hcm,hfr⟩:=JD hrow;refine AC<|Zx<|Zq<|Zq<|Zg<|Zm Y<|Zm Y<|Ya Y Y<|Zm Y<|Zv (Ou underlying282 Y)<|Zv (DJ Y Y)<|Z0<|Zx ?_;refine Ao Y (fun hg=>?_) (fun hg=>?_)
 ·
  refine Zq<|Zg<|Zm Y<|Zm Y ?_;refine BM (Bc underlying282 sizeOf284 Y Y (by omega)) ?_;refine Zm Y<|Zm Y<|Ya Y Y<|Zm Y<|Yb Y Y ?_;refine Ze (KV (by_:=80) (sz:=10) (xs:=Ak (rows.take i)) underlying282 underlying3 (rfl:Tryz.prog.info? 284=some Tryz.t284) rfl rfl rfl rfl Y Y Wh (X6 hin9 i hi) (by rw [BD,tL];omega) (by omega) (by decide) (by omega) (by omega) (by omega)) ?_;rintro _ _ ⟨s9,hr9,rfl⟩;rw [show i+(rows.length+1 -i)=rows.length+1 by omega]at hr9;have hAl:=hr9.1
  obtain ⟨g3,cap3,cur3,z3,rfl,rfl,hle3,hin3⟩:=Db hr9 (by omega);obtain ⟨_,hcs3,_,hcm3,hfr3⟩:=JD hr9;refine Za Y<|Z0<|Zn [0,1,2,7,9] ?_;refine Zx<|Zq<|Zg<|Zm Y<|Zm Y ?_
  (refine BM (Bn underlying282 sizeOf284 Y Y ?_ ?_) ?_;(focus (omega));(focus (omega)))
  refine Zm Y<|Xe (J8 (cs:=Ak [y]) underlying282 sizeOf284 Y Y Wh Wo ((rfl:Bw (#[I4 y.l.t,I4 y.l.k,I4 y.l.v.a,I4 y.l.v.b,I4 y.l.v.c,I4 y.r.t,I4 y.r.k,I4 y.r.v.a,I4 y.r.v.b,I4 y.r.v.c]:Array Value) 0 (Ak [y]))) (by rw [BD,tT];omega) (by rw [BD,tT];omega) (hfr3) (EW _)) ?_;refine Z0<|Zx<|Zq<|BI (n:=9) (0::0::0::6::15::0::0::96::255::[]) 256 (by kernel_rfl) (by kernel_rfl) rfl ?_;refine Zi 1 0 rfl (AJ Y)<|Zi 3 1 rfl (AJ Y)<|Zi 7 2 rfl (AJ Y) ?_;refine Zi 15 3 rfl (D6 Y Y (by omega)) ?_
  (refine EF (D':=31) 4 (Bn underlying282 sizeOf284 Y Y ?_ ?_) ?_;(focus (omega));(focus (omega)))
  refine Zi 63 5 rfl (AJ Y)<|Zi 127 6 rfl (AJ Y) ?_
  (refine EF (D':=255) 7 (Bn underlying282 sizeOf284 Y Y ?_ ?_) ?_;(focus (omega));(focus (omega)))
  refine Yw 8 511 rfl (J8 (cs:=Ak (rows.drop i)) underlying282 sizeOf284 Y Y Wh Wo (Ox hin9 i hi) (by rw [BD,tN];omega) (by rw [BD,tN,Fe (by rw [BD,tT];omega)];omega) (by rw [Fe (by rw [BD,tT];omega)];exact hfr3) (EW _)) ?_;rintro _ _ ⟨rfl,rfl⟩;refine Am ?_;refine Zn [9] ?_;refine Zx<|Zq<|Zg<|Zm Y<|Za Y<|Z0<|Zx<|A9<|Zt ?_;refine AB rfl results300 Y (by
   refine ⟨_,[(g,.cells cur 284 z)],BO (EH (i:=0+(i+1)*10) (ys:=Ak (rows.drop i)) (EH (i:=0+i*10) (ys:=Ak [y]) hr9 (by rw [hAl,BD,tT];omega)) ?_) (Qo rows i hi y).symm ?_,rfl⟩
   · simp only [tK,tL,tN,hAl,BD,tT];omega
   · rw [dY hAl hi (by rw [BD];rfl) (by rw [BD,tN]),ul (by rw [BD,tL];omega),←FJ,SY])
 refine AC<|Zx<|Zq ?_;obtain ⟨ys9,hyl9,hrM⟩:=Sa hrow (rows.length+1) (by omega) (by omega);have hAl:=hrM.1
 refine Zg<|Zm Y<|Zm Y<|Zm Y<|Ya Y Y ?_;refine BM (Bc underlying282 sizeOf284 Y Y (by omega)) ?_;refine Za Y<|Z0<|Zx<|Zq<|Zq ?_;refine oJ (s1:=[(g2,_)]) (s2:=[(g,_)]) (a:=g2) (b:=g) Wo Wo (tq.2 rfl) (tq.2 rfl) (fun hne9=>?_);refine Zg<|Zm Y<|Zm Y<|Zm Y<|Zm Y<|Ya Y Y ?_
 (refine BM (Bn underlying282 sizeOf284 Y Y ?_ ?_) ?_;(focus (omega));(focus (omega)))
 refine Cf (cs:=[(g2,.cells #[I4 y.l.t,I4 y.l.k,I4 y.l.v.a,I4 y.l.v.b,I4 y.l.v.c,I4 y.r.t,I4 y.r.k,I4 y.r.v.a,I4 y.r.v.b,I4 y.r.v.c] 284 (0,0)),(g,.cells cur 284 z)]) (by simp) (QW (tR:=4) func309 (by kernel_rfl) (by kernel_rfl) (by kernel_rfl) (by kernel_rfl) underlying282 sizeOf284 Y hne9 (by omega)) rfl rfl ?_;refine Zv (Ca Y)<|Z0<|Zn [0,1,2,7,8,68] ?_;refine Zx ?_;refine Af Y (fun hb9=>?_) (fun hb9=>?_)
 ·
  refine Zq<|BI (n:=9) (0::0::0::6::15::0::0::96::255::[]) 256 (by kernel_rfl) (by kernel_rfl) rfl ?_;refine Zi 1 0 rfl (AJ Y)<|Zi 3 1 rfl (AJ Y)<|Zi 7 2 rfl (AJ Y) ?_;refine Zi 15 3 rfl (D6 Y Y (by omega)) ?_
  (refine EF (D':=31) 4 (Bn underlying282 sizeOf284 Y Y ?_ ?_) ?_;(focus (omega));(focus (omega)))
  refine Zi 63 5 rfl (AJ Y)<|Zi 127 6 rfl (AJ Y) ?_
  (refine EF (D':=255) 7 (Bn underlying282 sizeOf284 Y Y ?_ ?_) ?_;(focus (omega));(focus (omega)))
  refine Yw 8 511 rfl (J8 (cs:=Ak (rows.drop i)) underlying282 sizeOf284 Y Y Wh Wo (Ox hin9 i hi) (by rw [BD,tN];omega) (by rw [BD,tN];omega) (hfr) (EW _)) ?_;rintro _ _ ⟨rfl,rfl⟩;refine Am ?_;refine Zx<|Zq<|Zg<|Zm Y<|Zm Y ?_
  (refine BM (Bn underlying282 sizeOf284 Y Y ?_ ?_) ?_;(focus (omega));(focus (omega)))
  refine Zm Y<|Xe (J8 (cs:=Ak [y]) underlying282 sizeOf284 Y Y Wh Wo ((rfl:Bw (#[I4 y.l.t,I4 y.l.k,I4 y.l.v.a,I4 y.l.v.b,I4 y.l.v.c,I4 y.r.t,I4 y.r.k,I4 y.r.v.a,I4 y.r.v.b,I4 y.r.v.c]:Array Value) 0 (Ak [y]))) (by rw [BD,tT];omega) (by rw [BD,tT,Fe (by rw [BD,tN];omega)];omega) (by rw [Fe (by rw [BD,tN];omega)];exact hfr) (EW _)) ?_;refine Z0<|Zn [0] ?_;refine Zx<|Zq<|Zg<|Zm Y<|Za Y<|Z0<|Zx<|A9<|Zt ?_;refine AB rfl results300 Y (by
   refine ⟨_,[],BO (EH (i:=0+i*10) (ys:=Ak [y]) (EH (i:=0+(i+1)*10) (ys:=Ak (rows.drop i)) hrM (by rw [hAl,BD,tN];omega)) ?_) (Qo rows i hi y).symm ?_,rfl⟩
   · simp only [tK,tL,tN,BD,hyl9,tT];omega
   · rw [YH hAl hi (by rw [BD];rfl) (by rw [BD,tN]),vP (by rw [BD];omega),SY])
 cases hb9
def NQ(pd:BU→Bool)(rows:List BU)(y:BU):List BU:=rows.take ((rows.findIdx? pd).getD rows.length)++[y]++rows.drop ((rows.findIdx? pd).getD rows.length)
theorem dZ(pd:BU→Bool)(rows:List BU)(y:BU):(NQ pd rows y).length=rows.length+1:=by
 unfold NQ;simp only [tK,tL,tN,tT];omega
theorem jf(pd:BU→Bool)(rows:List BU):(GM pd rows<0∧(rows.findIdx? pd).getD rows.length=rows.length)∨∃i:Nat,i≤rows.length∧GM pd rows=(i:Int)∧(rows.findIdx? pd).getD rows.length=i:=by
 unfold GM;cases h:rows.findIdx? pd with
 |none=>exact .inl ⟨by simp,rfl⟩
 |some i=>
  obtain ⟨h1,_,_⟩:=vF.1 h;exact .inr ⟨i,by omega,rfl,rfl⟩
theorem Ls{A B:List AR}{v:Value}{rows:List BU}(hv:RH A v rows)(hn:rows.length≤1000000000)(fid:Nat)(us:List Value)(pd:BU→Bool)(hcf:∀(args:Array Value) (w:World),(callFunc fid args).run Tryz.prog w= .ok (.enter fid args) w)(hf:∀x:BU,Av Tryz.prog fid (.agg #[I4 x.l.t,I4 x.l.k,I4 x.l.v.a,I4 x.l.v.b,I4 x.l.v.c,I4 x.r.t,I4 x.r.k,I4 x.r.v.a,I4 x.r.v.b,I4 x.r.v.c]::us).toArray [B] (.bool (pd x))):CO Tryz.prog 267 #[v,.func (.func fid) #[] us.toArray] [A,B] (fun r H'=>∃s,BX 10 284 r (rows.filter fun x=>!pd x).length (Ak (rows.filter fun x=>!pd x)) s∧H'=[s,A,B]):=by
 obtain ⟨p,cap,rfl,_⟩:=id hv;refine Se func267 ntmps267 [0,1] ?_;intro u R;refine Zq<|Zg<|Za Y<|Z0<|Zx<|Zq<|Zg<|Zm Y<|Zc [_] Y call299 Y rfl (UH hv (by omega)) ?_;rintro _ _ ⟨_,⟨s1,h1,rfl⟩,rfl⟩;obtain ⟨g1,c1,rfl⟩:=h1.form;refine Zm Y<|Zc [_,_] Y call298 Y rfl (Uf h1 hn fid us pd hcf hf) ?_;rintro _ _ ⟨_,⟨s2,h2,rfl⟩,rfl⟩;obtain ⟨g2,c2,rfl⟩:=h2.form;refine Za Y<|Z0<|Zx<|A9 ?_;refine AB rfl results267 Y (by exact ⟨_,h2,rfl⟩)
theorem Qn{s B:List AR}{v:Value}{rows:List BU}(hrow:BX 10 284 v rows.length (Ak rows) s)(hn:rows.length≤1000000000)(y:BU)(fid:Nat)(us:List Value)(pd:BU→Bool)(hcf:∀(args:Array Value) (w:World),(callFunc fid args).run Tryz.prog w= .ok (.enter fid args) w)(hf:∀x:BU,Av Tryz.prog fid (.agg #[I4 x.l.t,I4 x.l.k,I4 x.l.v.a,I4 x.l.v.b,I4 x.l.v.c,I4 x.r.t,I4 x.r.k,I4 x.r.v.a,I4 x.r.v.b,I4 x.r.v.c]::us).toArray [B] (.bool (pd x))):CO Tryz.prog 272 #[v,.agg #[I4 y.l.t,I4 y.l.k,I4 y.l.v.a,I4 y.l.v.b,I4 y.l.v.c,I4 y.r.t,I4 y.r.k,I4 y.r.v.a,I4 y.r.v.b,I4 y.r.v.c],.func (.func fid) #[] us.toArray] [s,B] (fun r H'=>∃s' s2,BX 10 284 r (NQ pd rows y).length (Ak (NQ pd rows y)) s'∧H'=[s',s2,B]):=by
 have hml:=mL;obtain ⟨p,cap,rfl⟩:=hrow.form;have hU:=MG hrow (by omega)
 refine Se func272 ntmps272 [0,1,2] ?_;intro u R;refine Zq<|Zg<|Ze (Bx #[_,_,_,_,_,_,_,_,_,_]) ?_;rintro _ _ ⟨bx,rfl,rfl⟩;refine Za Y<|Z0<|Zx<|Zq<|Zg<|Zm Y<|Zm Y<|Xr [_,_] Y call270 Y rfl (Kv hU fid us pd hcf hf) ?_;obtain ⟨z9,hz9⟩:∃z,z=GM pd rows:=⟨_,rfl⟩;rw [←hz9];have hcs9:=jf pd rows
 rw [←hz9]at hcs9;refine Za Y<|Z0<|Zx<|Zb [7,0,4] ?_;refine CW (e0:=[(7,_)]) (H0:=[]) (fun e H=>∃(i:Nat),(i≤rows.length∧(rows.findIdx? pd).getD rows.length=i)∧e=[(7,I4 (i:Int))]∧H=[]) Wp ?hx_1 ?hy_1
 case hx_1=>
  refine Zq<|Zg<|Zm Y<|Zv (Eb Y Y)<|Z0<|Zx ?_;refine Ao Y (fun hlt=>?_) (fun hlt=>?_)
  ·
   refine Zg<|Zm Y<|Zv (AV underlying282 Y)<|Za Y<|Z0<|Zn [7,0,4] ?_;refine BB (e':=[(7,_)]) (by exact ⟨rows.length,⟨tQ _,by rcases hcs9 with⟨_,h⟩|⟨i,h1,h2,h3⟩;exact h;omega⟩,rfl,rfl⟩)
  rcases hcs9 with⟨h9,_⟩|⟨i,h1,h2,h3⟩
  · exact absurd h9 hlt
  subst h2;refine AC<|Zn [7,0,4] ?_;refine BB (e':=[(7,_)]) (by exact ⟨i,⟨h1,h3⟩,rfl,rfl⟩)
 rintro _ _ ⟨i,⟨hi,hgi⟩,rfl,rfl⟩;refine Zq<|Zg<|Zm Y<|Zm Y<|Zo Wh (Pa #[_,_,_,_,_,_,_,_,_,_] isAgg284 sizeOf284 Y) ?_;refine Ze (Ae (vs:=[_]) (cs:=[_,_,_,_,_,_,_,_,_,_]) underlying282 sizeOf284 zeroValue284 Y rfl rfl rfl rfl rfl) ?_;rintro _ _ ⟨gy,rfl,rfl⟩;refine Zc [_,_,_] Y call300 Y rfl (UZ hrow hn i hi y gy) ?_;rintro _ _ ⟨_,⟨s3,s4,h3,rfl⟩,rfl⟩;obtain ⟨g3,c3,rfl⟩:=h3.form;refine Za Y<|Z0<|Zx<|A9 ?_;refine AB rfl results272 Y (by exact ⟨_,s4,by unfold NQ;rw [hgi];exact h3,rfl⟩)
def GY(k:Int)(p:BU):Bool:=decide (p.r.k=k)
def OT(k:Int)(p:BU):Bool:=decide (p.l.k=k)
def Ee(rows:List AP):List BU:=(List.range (rows.length/2)).map fun k=>⟨rows.getD (2*k) AP.zero,rows.getD (2*k+1) AP.zero⟩
def DI(ps:List BU):List AP:=ps.flatMap fun p=>[p.l,p.r]
def jnT(q:QM)(c:Chg)(ps:List BU):List BU×Bool:=
 if c.t=q.ot then
  (if c.has then(ps.map fun p=>if GY c.k p then⟨p.l,⟨c.t,c.k,c.n⟩⟩else p,c.had)else(ps.filter fun p=>!GY c.k p,c.had))
 else match afQ q c with
  |none=>(ps.filter fun p=>!OT c.k p,true)
  |some y=>if GM (GY (mQ q (afQ q c))) ps<0 then(ps.filter fun p=>!OT c.k p,(bfQ q c).isSome&&decide (mQ q (bfQ q c)=mQ q (afQ q c)))
   else(NQ (fun p=>J5 q y p.l) (ps.filter fun p=>!OT c.k p) ⟨y,(ps.getD (GM (GY (mQ q (afQ q c))) ps).toNat ⟨AP.zero,AP.zero⟩).r⟩,true)
def Cw(q:QM)(c:Chg)(r:CG):CG×Bool:=if q.tb=q.ot then(r,false)else(⟨DI (jnT q c (Ee r.rows)).1,r.val,r.fnd⟩,(jnT q c (Ee r.rows)).2)
theorem Jg(rows:List AP):(Ee rows).length=rows.length/2:=by unfold Ee;rw [tJ,yE]
theorem iW{rows:List AP}{k:Nat}{x y:AP}(hx:rows[2*k]?=some x)(hy:rows[2*k+1]?=some y):(Ee rows)[k]?=some ⟨x,y⟩:=by
 have h:=(tH.1 hy).1;unfold Ee;rw [uD,xQ (by omega),vV,uZ,uZ,hx,hy];rfl
theorem Gx:∀ps:List BU,(DI ps).length=2*ps.length
 |[]=>rfl
 |p::ps=>by
  have:=Gx ps;unfold DI at*;rw [ui,tK,this,tY];simp;omega
theorem Q8{ps:List BU}{k:Nat}{p:BU}(h:ps[k]?=some p):DI (ps.take (k+1))=DI (ps.take k)++[p.l,p.r]:=by
 unfold DI;rw [Bo h,vX,List.flatMap_singleton]
theorem aC(q:QM)(c:Chg)(ps:List BU):(jnT q c ps).1.length≤ps.length+1:=by
 have h1:=wG (fun p=>!GY c.k p) ps;have h2:=wG (fun p=>!OT c.k p) ps
 unfold jnT;split
 · split
   · simp only [tJ];omega
   · simp only;omega
 · split
   · simp only;omega
   · split
     · simp only;omega
     · simp only [dZ];omega
theorem nH(q:QM)(c:Chg)(p1 p2:Option Addr)(o n:Int)(be:Nat)(x:BU):Av Tryz.prog 268 #[.agg #[I4 x.l.t,I4 x.l.k,I4 x.l.v.a,I4 x.l.v.b,I4 x.l.v.c,I4 x.r.t,I4 x.r.k,I4 x.r.v.a,I4 x.r.v.b,I4 x.r.v.c],I5 be] [[(be,.cells #[I4 q.kd,I4 q.tb,I4 q.cl,I4 q.lo,I4 q.hi,I4 q.bq,I4 q.ot,I4 c.t,I4 c.k,.bool c.had,I4 c.o.a,I4 c.o.b,I4 c.o.c,.bool c.has,I4 c.n.a,I4 c.n.b,I4 c.n.c,.pointer p1,.pointer p2,I4 o,I4 n] 151 (0,0))]] (.bool (GY c.k x)):=by
 refine Se func268 ntmps268 [0,1] ?_;intro u R;refine Zq<|Zg<|Ze (Bx #[I4 x.l.t,I4 x.l.k,I4 x.l.v.a,I4 x.l.v.b,I4 x.l.v.c,I4 x.r.t,I4 x.r.k,I4 x.r.v.a,I4 x.r.v.b,I4 x.r.v.c]) ?_;rintro _ _ ⟨bx,rfl,rfl⟩;refine Za Y<|Z0<|Zx<|Zq<|Zg<|Zh 5 underlying284 rfl rfl sizeOf113 Y<|Zv (BH (off:=1) underlying113 rfl rfl sizeOf3 Y)<|Zl isAgg3 Y ?_;refine Zh 7 underlying151 rfl rfl sizeOf77 Y<|Zv (BH (off:=1) underlying77 rfl rfl sizeOf3 Y)<|Zl isAgg3 Y ?_;refine Zv (CF Y Y)<|Za Y<|Z0<|Zx<|A9 ?_;refine AB rfl results268 Y (by exact ⟨rfl,rfl⟩)
theorem nG(q:QM)(c:Chg)(p1 p2:Option Addr)(o n:Int)(be:Nat)(x:BU):Av Tryz.prog 269 #[.agg #[I4 x.l.t,I4 x.l.k,I4 x.l.v.a,I4 x.l.v.b,I4 x.l.v.c,I4 x.r.t,I4 x.r.k,I4 x.r.v.a,I4 x.r.v.b,I4 x.r.v.c],I5 be] [[(be,.cells #[I4 q.kd,I4 q.tb,I4 q.cl,I4 q.lo,I4 q.hi,I4 q.bq,I4 q.ot,I4 c.t,I4 c.k,.bool c.had,I4 c.o.a,I4 c.o.b,I4 c.o.c,.bool c.has,I4 c.n.a,I4 c.n.b,I4 c.n.c,.pointer p1,.pointer p2,I4 o,I4 n] 151 (0,0))]] (.bool (OT c.k x)):=by
 refine Se func269 ntmps269 [0,1] ?_;intro u R;refine Zq<|Zg<|Ze (Bx #[I4 x.l.t,I4 x.l.k,I4 x.l.v.a,I4 x.l.v.b,I4 x.l.v.c,I4 x.r.t,I4 x.r.k,I4 x.r.v.a,I4 x.r.v.b,I4 x.r.v.c]) ?_;rintro _ _ ⟨bx,rfl,rfl⟩;refine Za Y<|Z0<|Zx<|Zq<|Zg<|Zh 0 underlying284 rfl rfl sizeOf113 Y<|Zv (BH (off:=1) underlying113 rfl rfl sizeOf3 Y)<|Zl isAgg3 Y ?_;refine Zh 7 underlying151 rfl rfl sizeOf77 Y<|Zv (BH (off:=1) underlying77 rfl rfl sizeOf3 Y)<|Zl isAgg3 Y ?_;refine Zv (CF Y Y)<|Za Y<|Z0<|Zx<|A9 ?_;refine AB rfl results269 Y (by exact ⟨rfl,rfl⟩)
theorem nE(q:QM)(c:Chg)(p1 p2:Option Addr)(o n:Int)(be:Nat)(x:BU):Av Tryz.prog 271 #[.agg #[I4 x.l.t,I4 x.l.k,I4 x.l.v.a,I4 x.l.v.b,I4 x.l.v.c,I4 x.r.t,I4 x.r.k,I4 x.r.v.a,I4 x.r.v.b,I4 x.r.v.c],I5 be] [[(be,.cells #[I4 q.kd,I4 q.tb,I4 q.cl,I4 q.lo,I4 q.hi,I4 q.bq,I4 q.ot,I4 c.t,I4 c.k,.bool c.had,I4 c.o.a,I4 c.o.b,I4 c.o.c,.bool c.has,I4 c.n.a,I4 c.n.b,I4 c.n.c,.pointer p1,.pointer p2,I4 o,I4 n] 151 (0,0))]] (.bool (GY n x)):=by
 refine Se func271 ntmps271 [0,1] ?_;intro u R;refine Zq<|Zg<|Ze (Bx #[I4 x.l.t,I4 x.l.k,I4 x.l.v.a,I4 x.l.v.b,I4 x.l.v.c,I4 x.r.t,I4 x.r.k,I4 x.r.v.a,I4 x.r.v.b,I4 x.r.v.c]) ?_;rintro _ _ ⟨bx,rfl,rfl⟩;refine Za Y<|Z0<|Zx<|Zq<|Zg<|Zh 5 underlying284 rfl rfl sizeOf113 Y<|Zv (BH (off:=1) underlying113 rfl rfl sizeOf3 Y)<|Zl isAgg3 Y ?_;refine Zh 20 underlying151 rfl rfl sizeOf3 Y<|Zl isAgg3 Y ?_;refine Zv (CF Y Y)<|Za Y<|Z0<|Zx<|A9 ?_;refine AB rfl results271 Y (by exact ⟨rfl,rfl⟩)
theorem nD{B:List AR}(fid:Nat)(us:List Value)(pd:AP→Bool)(hcf:∀(args:Array Value) (w:World),(callFunc fid args).run Tryz.prog w= .ok (.enter fid args) w)(hf:∀x:AP,Av Tryz.prog fid (.agg #[I4 x.t,I4 x.k,I4 x.v.a,I4 x.v.b,I4 x.v.c]::us).toArray [B] (.bool (pd x)))(bb:Nat)(x:BU):Av Tryz.prog 273 #[.agg #[I4 x.l.t,I4 x.l.k,I4 x.l.v.a,I4 x.l.v.b,I4 x.l.v.c,I4 x.r.t,I4 x.r.k,I4 x.r.v.a,I4 x.r.v.b,I4 x.r.v.c],I5 bb] [[(bb,.cells #[.func (.func fid) #[] us.toArray] 191 (0,0))],B] (.bool (pd x.l)):=by
 refine Se func273 ntmps273 [0,1] ?_;intro u R;refine Zq<|Zg<|Ze (Bx #[I4 x.l.t,I4 x.l.k,I4 x.l.v.a,I4 x.l.v.b,I4 x.l.v.c,I4 x.r.t,I4 x.r.k,I4 x.r.v.a,I4 x.r.v.b,I4 x.r.v.c]) ?_;rintro _ _ ⟨bx,rfl,rfl⟩;refine Za Y<|Z0<|Zx<|Zq<|Zg<|Zl isAgg191 Y ?_;refine Zh 0 underlying284 rfl rfl sizeOf113 Y<|Zo Wh (Pa #[I4 x.l.t,I4 x.l.k,I4 x.l.v.a,I4 x.l.v.b,I4 x.l.v.c] isAgg113 sizeOf113 Y) ?_;refine Xr [_] Y (hcf) Y rfl (hf x.l) ?_;refine Za Y<|Z0<|Zx<|A9 ?_;refine AB rfl results273 Y (by exact ⟨rfl,rfl⟩)
theorem bR{ps:List BU}{k:Nat}{p:BU}(hp:ps[k]?=some p)(x:AP):(Ak ps).take (0+k*10+5)++Ac [x]++(Ak ps).drop (0+k*10+5+(Ac [x]).length)=Ak (ps.set k ⟨p.l,x⟩):=by
 have hk:=(tH.1 hp).1;have e:(Ak (ps.take k)).length=k*10:=by rw [BD,tL];omega
 have ep:Ak [p]=Ac [p.l]++Ac [p.r]:=rfl;have h5:∀r:AP,(Ac [r]).length=5:=fun r=>rfl
 have e1:Ak ps=(Ak (ps.take k)++Ac [p.l])++(Ac [p.r]++Ak (ps.drop (k+1))):=by
  rw [Pi hp,ep];simp
 have e2:(Ak (ps.take k)++Ac [p.l]).length=0+k*10+5:=by rw [tK,e,h5];omega
 rw [e1,ul e2,h5,←yH,wm e2,wm (h5 p.r),wu,if_pos hk];have e3:Ak (ps.take k++⟨p.l,x⟩::ps.drop (k+1))=Ak (ps.take k)++(Ak [⟨p.l,x⟩]++Ak (ps.drop (k+1))):=by
  rw [←Cy,←Cy];rfl
 rw [e3,show Ak [⟨p.l,x⟩]=Ac [p.l]++Ac [x] from rfl];simp
theorem Oe{cur:Array Value}{ps:List BU}{k:Nat}{p:BU}(hin:Bw cur 0 (Ak ps))(hp:ps[k]?=some p):cur[0+k*10+5+1]?=some (I4 p.r.k)∧0+k*10+5+5≤cur.size∧cur.extract (0+k*10+5) (0+k*10+5+5)=#[I4 p.r.t,I4 p.r.k,I4 p.r.v.a,I4 p.r.v.b,I4 p.r.v.c]:=by
 have hat:∀j u,j<10→(Ak [p])[j]?=some u→cur[k*10+j]?=some u:=fun j u hj hu=>by
  have:=hin.get (k*10+j) u ((IU hp j hj).trans hu);rwa [uL]at this
 have h6:=hat 6 _ (by decide) rfl;have h9:=hat 9 _ (by decide) rfl
 have hsz:k*10+9<cur.size:=(u7.1 h9).1;refine ⟨by rw [show 0+k*10+5+1=k*10+6 by omega];exact h6,by omega,?_⟩;apply vS.1;apply vg;intro j;rw [uO,wW];split
 · rename_i hj
   have hj5:j<5:=by omega
   obtain ⟨u,hu⟩:∃u,(Ac [p.r])[j]?=some u:=⟨_,tF (by rw [BF];simpa using hj5)⟩;have h2:=hat (5+j) u (by omega) (by
    rw [show Ak [p]=Ac [p.l]++Ac [p.r] from rfl,vQ (by rw [BF];simp),BF];rw [show 5+j - [p.l].length*5=j by simp];exact hu)
   rw [show 0+k*10+5+j=k*10+(5+j) by omega,h2];exact hu.symm
 · rw [uq]
   show(Ac [p.r]).length≤j;rw [BF];simp only [tT];omega
def MR(c:Chg)(ps:List BU)(i:Nat):List BU:=(ps.take i).map (fun p=>if GY c.k p then⟨p.l,⟨c.t,c.k,c.n⟩⟩else p)++ps.drop i
theorem jJ(c:Chg)(ps:List BU)(i:Nat)(hi:i≤ps.length):(MR c ps i).length=ps.length:=by
 unfold MR;simp only [tK,tJ,tL,tN];omega
theorem UR{c:Chg}{ps:List BU}{i:Nat}{p:BU}(hp:ps[i]?=some p):(MR c ps i)[i]?=some p:=by
 have hi:=(tH.1 hp).1;unfold MR;rw [vQ (by rw [tJ,tL];omega),tJ,tL,wB (by omega),xU,uw,wU,hp]
theorem TP{c:Chg}{ps:List BU}{i:Nat}{p:BU}(hp:ps[i]?=some p):MR c ps (i+1)=(MR c ps i).set i (if GY c.k p then⟨p.l,⟨c.t,c.k,c.n⟩⟩else p):=by
 have hi:=(tH.1 hp).1;have hl:((ps.take i).map (fun p=>if GY c.k p then(⟨p.l,⟨c.t,c.k,c.n⟩⟩:BU)else p)).length=i:=by rw [tJ,tL];omega
 unfold MR;rw [Bo hp,uK,yu (h:=by omega),hl,xU];obtain ⟨_,rfl⟩:=tH.1 hp;rw [vB hi,List.set_cons_zero];simp
theorem gY{ps:List BU}{i:Nat}{p:BU}(hp:ps[i]?=some p):ps.set i p=ps:=by
 obtain ⟨hi,rfl⟩:=tH.1 hp;exact List.set_getElem_self hi
theorem pQ{B:List AR}(fid:Nat)(us:List Value)(pd:AP→Bool)(hcf:∀(args:Array Value) (w:World),(callFunc fid args).run Tryz.prog w= .ok (.enter fid args) w)(hf:∀x:AP,Av Tryz.prog fid (.agg #[I4 x.t,I4 x.k,I4 x.v.a,I4 x.v.b,I4 x.v.c]::us).toArray [B] (.bool (pd x)))(bb:Nat)(x:BU):Av Tryz.prog 273 (.agg #[I4 x.l.t,I4 x.l.k,I4 x.l.v.a,I4 x.l.v.b,I4 x.l.v.c,I4 x.r.t,I4 x.r.k,I4 x.r.v.a,I4 x.r.v.b,I4 x.r.v.c]::([I5 bb]:List Value)).toArray [[(bb,.cells #[.func (.func fid) #[] us.toArray] 191 (0,0))]++B] (.bool (pd x.l)):=by
 refine EB (nD fid us pd hcf hf bb x) (by simp) ?_;rintro r H' ⟨rfl,rfl⟩;exact ⟨_,⟨rfl,rfl⟩,by simp⟩
theorem UX{q:QM}{c:Chg}{p1 p2:Option Addr}{be:Nat}{f:BU→Bool}{fn:Nat}(h:∀x,Av Tryz.prog fn #[.agg #[I4 x.l.t,I4 x.l.k,I4 x.l.v.a,I4 x.l.v.b,I4 x.l.v.c,I4 x.r.t,I4 x.r.k,I4 x.r.v.a,I4 x.r.v.b,I4 x.r.v.c],I5 be] [[(be,.cells #[I4 q.kd,I4 q.tb,I4 q.cl,I4 q.lo,I4 q.hi,I4 q.bq,I4 q.ot,I4 c.t,I4 c.k,.bool c.had,I4 c.o.a,I4 c.o.b,I4 c.o.c,.bool c.has,I4 c.n.a,I4 c.n.b,I4 c.n.c,.pointer p1,.pointer p2,I4 (mQ q (bfQ q c)),I4 (mQ q (afQ q c))] 151 (0,0))]] (.bool (f x)))(x:BU):Av Tryz.prog fn (.agg #[I4 x.l.t,I4 x.l.k,I4 x.l.v.a,I4 x.l.v.b,I4 x.l.v.c,I4 x.r.t,I4 x.r.k,I4 x.r.v.a,I4 x.r.v.b,I4 x.r.v.c]::([I5 be]:List Value)).toArray [[(be,.cells #[I4 q.kd,I4 q.tb,I4 q.cl,I4 q.lo,I4 q.hi,I4 q.bq,I4 q.ot,I4 c.t,I4 c.k,.bool c.had,I4 c.o.a,I4 c.o.b,I4 c.o.c,.bool c.has,I4 c.n.a,I4 c.n.b,I4 c.n.c,.pointer p1,.pointer p2,I4 (mQ q (bfQ q c)),I4 (mQ q (afQ q c))] 151 (0,0))]] (.bool (f x)):=h x
theorem nK{c:Chg}(h:c.has=true):EK c c.has c.n=⟨c.t,c.k,c.n⟩:=by unfold EK;rw [if_pos h]
theorem jK(c:Chg)(ps:List BU):MR c ps ps.length=ps.map fun p=>if GY c.k p then⟨p.l,⟨c.t,c.k,c.n⟩⟩else p:=by unfold MR;rw [uQ,AA0,uR]
set_option maxHeartbeats 1000000 in
theorem YF(q:QM)(hcl:0≤q.cl∧q.cl≤3)(c:Chg)(p1 p2:Option Addr){s2:List AR}(e1:p1.isSome=(bfQ q c).isSome)(h2:IE p2 (afQ q c) s2){ps:List BU}{v:Value}{sl:List AR}(hl:BX 10 284 v ps.length (Ak ps) sl)(hn:ps.length≤100000000):CO Tryz.prog 234 #[.agg #[I4 q.kd,I4 q.tb,I4 q.cl,I4 q.lo,I4 q.hi,I4 q.bq,I4 q.ot,I4 c.t,I4 c.k,.bool c.had,I4 c.o.a,I4 c.o.b,I4 c.o.c,.bool c.has,I4 c.n.a,I4 c.n.b,I4 c.n.c,.pointer p1,.pointer p2,I4 (mQ q (bfQ q c)),I4 (mQ q (afQ q c))],v] [sl,s2] (fun w H'=>∃v' s',w= .tuple #[v',.bool (jnT q c ps).2]∧BX 10 284 v' (jnT q c ps).1.length (Ak (jnT q c ps).1) s'∧H'=[s']):=by
 have hml:=mL;obtain ⟨pl,capl,rfl⟩:=hl.form;have hU:=MG hl (by omega)
 have hfl:(ps.filter fun p=>!OT c.k p).length≤ps.length:=wG _ _;refine Se func234 ntmps234 [0,1] ?_;intro u R;refine Zq<|Zg<|Ze (H8 Y (cs:=#[I4 q.kd,I4 q.tb,I4 q.cl,I4 q.lo,I4 q.hi,I4 q.bq,I4 q.ot,I4 c.t,I4 c.k,.bool c.had,I4 c.o.a,I4 c.o.b,I4 c.o.c,.bool c.has,I4 c.n.a,I4 c.n.b,I4 c.n.c,.pointer p1,.pointer p2,I4 (mQ q (bfQ q c)),I4 (mQ q (afQ q c))]) (FW q c p1 p2 (mQ q (bfQ q c)) (mQ q (afQ q c)))) ?_;rintro _ _ ⟨be,rfl,rfl⟩;refine Za Y<|Za Y<|Z0<|Zx<|Zq<|Zq<|Zg<|Zh 7 underlying151 rfl rfl sizeOf77 Y<|Zv (BH (off:=0) underlying77 rfl rfl sizeOf3 Y)<|Zl isAgg3 Y ?_;refine Zh 0 underlying151 rfl rfl sizeOf30 Y<|Zv (BH (off:=6) underlying30 rfl rfl sizeOf3 Y)<|Zl isAgg3 Y ?_;refine Zv (CF Y Y)<|Z0<|Zx ?_;refine Ao Y (fun hot=>?_) (fun hot=>?_)
 ·
  refine Zq<|Zg<|Zh 7 underlying151 rfl rfl sizeOf77 Y<|Zo Wh (Pa #[I4 c.t,I4 c.k,.bool c.had,I4 c.o.a,I4 c.o.b,I4 c.o.c,.bool c.has,I4 c.n.a,I4 c.n.b,I4 c.n.c] isAgg77 sizeOf77 Y) ?_;refine Xr [_] Y call108 Y rfl (Q0 c) ?_;obtain ⟨y9,hy9⟩:∃y,y=EK c c.has c.n:=⟨_,rfl⟩;rw [←hy9];refine Zm Y<|Zd Y rfl<|Zd Y rfl<|Ze (Al zeroValue113 #[_,_,_,_,_]) ?_;rintro _ _ ⟨by9,rfl,rfl⟩;refine Xe (Xw sizeOf113 #[I4 y9.t,I4 y9.k,I4 y9.v.a,I4 y9.v.b,I4 y9.v.c]) ?_;refine Za Y<|Z0<|Zn [1,2,6,7] ?_;refine Zx<|Zq<|Zq<|Zg<|Zm Y<|Zv (Ca Y)<|Z0<|Zx ?_;refine Af Y (fun hh=>?_) (fun hh=>?_)
  ·
   have hh9:c.has=false:=by simpa using hh
   refine Zq<|BI (n:=8) (0::0::3::0::8::24::7::127::[]) 4 (by kernel_rfl) (by kernel_rfl) rfl ?_;refine Zi 1 0 rfl (AJ Y)<|Zi 3 1 rfl (Bt (vs:=[]) (us:=[_]) Y Y) ?_;refine Zi 11 3 rfl (AZ (off:=7) underlying151 rfl rfl sizeOf77 Y)<|Zi 27 4 rfl (BH (off:=2) underlying77 rfl rfl sizeOf4 Y)<|Zj 59 5 rfl isAgg4 Y ?_;refine Zz (l:=[2]) ?_;refine Zy 3 63 [5] [true] [(5,(_,_))] rfl Y rfl rfl rfl rfl (Zw [_,_] Y call267 Y rfl (Ls (B:=[(be,.cells #[I4 q.kd,I4 q.tb,I4 q.cl,I4 q.lo,I4 q.hi,I4 q.bq,I4 q.ot,I4 c.t,I4 c.k,.bool c.had,I4 c.o.a,I4 c.o.b,I4 c.o.c,.bool c.has,I4 c.n.a,I4 c.n.b,I4 c.n.c,.pointer p1,.pointer p2,I4 (mQ q (bfQ q c)),I4 (mQ q (afQ q c))] 151 (0,0))]) hU (by omega) 268 [I5 be] (GY c.k) call268 (UX fun x=>nH q c p1 p2 (mQ q (bfQ q c)) (mQ q (afQ q c)) be x))) ?hk_1 D9 ?hl_1
   case hk_1=>
    rintro _ _ ⟨_,⟨s9,h9,rfl⟩,rfl⟩;refine ⟨Zk (Ad),?_⟩;obtain ⟨g9,c9,rfl⟩:=h9.form;refine Zi 127 6 rfl (Ay Y)<|Zi 255 7 rfl (Ay Y)<|Am ?_;refine Zx<|A9<|Zt<|Zt ?_;refine Da rfl results234 Y Y (by
     have e8:jnT q c ps=(ps.filter fun p=>!GY c.k p,c.had):=by unfold jnT;rw [if_pos hot,if_neg (by rw [hh9];decide)]
     exact ⟨.slice g9 _ c9,s9,by rw [e8],by rw [e8];exact h9,rfl⟩)
   exact Aw
  have hh9:c.has=true:=by simpa using hh
  rw [nK hh9]at hy9;refine AC<|Zx<|Zq<|Zq<|Zg<|Zm Y<|Zv (AV underlying282 Y)<|Zm Y<|Z0<|Zx<|AQ<|Zb [35,1,2,6,34] ?_;refine Az (e0:=[(35,_)]) (fun m e H=>∃(i:Nat) (sk:List AR),m=ps.length -i∧(i≤ps.length∧BX 10 284 (.slice pl ps.length capl) ps.length (Ak (MR c ps i)) sk)∧e=[(35,I4 (i:Int))]∧H=[sk]) (by exact ⟨0,sl,rfl,⟨tX _,hl⟩,rfl,rfl⟩) Wp ?_;rintro _ _ _ ⟨i,sk,rfl,⟨hi,hsk⟩,rfl,rfl⟩;refine Zq<|Zg<|Zv (Aq Y Y)<|Z0<|Zx<|Zq ?_;refine Ao Y (fun hlt=>?_) (fun hlt=>?_)
  ·
   obtain ⟨p,hp⟩:∃p,ps[i]?=some p:=⟨_,tF hlt⟩;obtain ⟨g,cap9,cur,z,hv9,rfl,hle9,hin9⟩:=Db hsk (by omega);injection hv9 with hv1 hv2 hv3
   subst hv1 hv3;obtain ⟨_,hcs9,_,hcm9,hfr9⟩:=JD hsk;obtain ⟨h6,hsz9,_⟩:=Oe hin9 (UR hp);refine AC<|Zx<|Zq<|AQ<|Zq<|Zg<|Zm Y<|Za Y<|Z0<|Zx<|Zq<|BI (n:=10) (0::0::3::7::15::31::0::64::192::511::[]) 0 (by kernel_rfl) (by kernel_rfl) rfl ?_;refine Zi 1 0 rfl (AJ Y)<|Zi 3 1 rfl (AJ Y) ?_;refine Zi 7 2 rfl (AU underlying282 sizeOf284 Y Y (by first|omega|decide|(simp;done))) ?_;refine Zi 15 3 rfl (BH (off:=5) underlying284 rfl rfl sizeOf113 Y)<|Zi 31 4 rfl (BH (off:=1) underlying113 rfl rfl sizeOf3 Y)<|Zj 63 5 rfl isAgg3 Y (hv:=by exact h6) ?_;refine Zi 127 6 rfl (AZ (off:=7) underlying151 rfl rfl sizeOf77 Y)<|Zi 255 7 rfl (BH (off:=1) underlying77 rfl rfl sizeOf3 Y)<|Zj 511 8 rfl isAgg3 Y ?_;refine Zi 1023 9 rfl (CF Y Y)<|Am ?_;refine Zn [1,2,6,8,34,35,47] ?_;refine Zx ?_;refine Ao Y (fun hk=>?_) (fun hk=>?_)
   ·
    have e9:MR c ps (i+1)=(MR c ps i).set i ⟨p.l,y9⟩:=by rw [TP hp,if_pos (by unfold GY;simp [hk]),hy9]
    have hsk2:=BO (xs':=Ak (MR c ps (i+1))) (EH (i:=0+i*10+5) (ys:=Ac [y9]) hsk (by rw [BD,BF,tT,jJ c ps i hi];omega)) rfl (by rw [e9];exact bR (UR hp) y9);refine Zg<|Zm Y<|Zm Y<|Zo Wh (Pa #[I4 y9.t,I4 y9.k,I4 y9.v.a,I4 y9.v.b,I4 y9.v.c] isAgg113 sizeOf113 Y) ?_;refine BM (AU underlying282 sizeOf284 Y Y (by first|omega|decide|(simp;done))) ?_;refine Zv (BH (off:=5) underlying284 rfl rfl sizeOf113 Y)<|Xe (BN sizeOf113 Y Y (by(simp [Value.oneCell'];done)) Wu (by exact (rfl:_=Ed cur (0+i*10+5) (Ac [y9]))) (by first|rfl|(simp;done)) Wb (by exact hfr9)) ?_;refine Z0<|A8<|Zx<|Zg<|Ya (n:=1) Y Y<|Zm Y<|Z0<|Zn [35,1,2,6,34] ?_;refine Ab (e':=[(35,_)]) (by exact ⟨i+1,_,rfl,⟨by omega,hsk2⟩,rfl,rfl⟩)
   have e9:MR c ps (i+1)=MR c ps i:=by rw [TP hp,if_neg (by unfold GY;simp [hk]),gY (UR hp)]
   have hsk2:=hsk;rw [←e9]at hsk2;refine AC<|A8<|Zx<|Zg<|Ya (n:=1) Y Y<|Zm Y<|Z0<|Zn [35,1,2,6,34] ?_;refine Ab (e':=[(35,_)]) (by exact ⟨i+1,_,rfl,⟨by omega,hsk2⟩,rfl,rfl⟩)
  have ei:i=ps.length:=by omega
  subst ei;rw [jK]at hsk;refine Ar<|Zt<|Zt<|AO<|Zx<|Zq<|BI (n:=6) (0::0::2::6::1::31::[]) 0 (by kernel_rfl) (by kernel_rfl) rfl ?_;refine Zi 1 0 rfl (AJ Y)<|Zi 3 1 rfl (AZ (off:=7) underlying151 rfl rfl sizeOf77 Y)<|Zi 7 2 rfl (BH (off:=2) underlying77 rfl rfl sizeOf4 Y)<|Zj 15 3 rfl isAgg4 Y ?_;refine Zi 31 4 rfl (Ay Y)<|Zi 63 5 rfl (Ay Y)<|Am ?_;refine Zx<|A9<|Zt ?_;refine Da rfl results234 Y Y (by
   have e8:jnT q c ps=(ps.map fun p=>if GY c.k p then⟨p.l,⟨c.t,c.k,c.n⟩⟩else p,c.had):=by unfold jnT;rw [if_pos hot,if_pos hh9]
   exact ⟨.slice pl ps.length capl,sk,by rw [e8],by rw [e8];exact BO hsk (tJ _).symm rfl,rfl⟩)
 refine AC<|Zx<|Zq<|Zg<|Zm Y<|Zv (Bt (vs:=[]) (us:=[_]) Y Y) ?_;refine Zc [_,_] Y call267 Y rfl (Ls (B:=[(be,.cells #[I4 q.kd,I4 q.tb,I4 q.cl,I4 q.lo,I4 q.hi,I4 q.bq,I4 q.ot,I4 c.t,I4 c.k,.bool c.had,I4 c.o.a,I4 c.o.b,I4 c.o.c,.bool c.has,I4 c.n.a,I4 c.n.b,I4 c.n.c,.pointer p1,.pointer p2,I4 (mQ q (bfQ q c)),I4 (mQ q (afQ q c))] 151 (0,0))]) hU (by omega) 269 [I5 be] (OT c.k) call269 (UX fun x=>nG q c p1 p2 (mQ q (bfQ q c)) (mQ q (afQ q c)) be x)) ?_;rintro _ _ ⟨_,⟨s9,h9,rfl⟩,rfl⟩;obtain ⟨g9,c9,rfl⟩:=h9.form;refine Za Y<|Z0<|Zn [1,2,9] ?_;refine Zx<|Zq<|Zq<|Zg<|Zh 18 underlying151 rfl rfl sizeOf149 Y<|Zl isAgg149 Y ?_;refine Zv (MO underlying149 Y Y)<|Z0<|Zx ?_;refine Af Y (fun hp2=>?_) (fun hp2=>?_)
 ·
  have hy:afQ q c=none:=by have h8:=h2.some_;cases h7:afQ q c with|none=>rfl|some y=>(rw [h7]at h8;cases p2<;>simp at hp2 h8)
  refine Zq<|Zg<|Zm Y<|Za Y<|Za Y<|Z0<|Zx<|A9<|Zt ?_;refine Da rfl results234 Y Y (by
   have e8:jnT q c ps=(ps.filter fun p=>!OT c.k p,true):=by unfold jnT;rw [if_neg hot,hy]
   exact ⟨.slice g9 _ c9,s9,by rw [e8],by rw [e8];exact h9,rfl⟩)
 obtain ⟨y,hy⟩:∃y,afQ q c=some y:=xM.1 (by rw [←h2.some_];cases p2<;>simp at hp2⊢);rw [hy]at h2;obtain ⟨b2,rfl,rfl⟩:=h2;refine AC<|Zx<|Zq<|Zg<|Zm Y<|Zv (Bt (vs:=[]) (us:=[_]) Y Y) ?_;refine Xr [_,_] Y call270 Y rfl (Kv (B:=[(be,.cells #[I4 q.kd,I4 q.tb,I4 q.cl,I4 q.lo,I4 q.hi,I4 q.bq,I4 q.ot,I4 c.t,I4 c.k,.bool c.had,I4 c.o.a,I4 c.o.b,I4 c.o.c,.bool c.has,I4 c.n.a,I4 c.n.b,I4 c.n.c,.pointer p1,I5 b2,I4 (mQ q (bfQ q c)),I4 (mQ q (afQ q c))] 151 (0,0))]) hU 271 [I5 be] (GY (mQ q (afQ q c))) call271 (UX fun x=>nE q c p1 (some ⟨b2,0,none⟩) (mQ q (bfQ q c)) (mQ q (afQ q c)) be x)) ?_;have hcs9:=Qq (GY (mQ q (afQ q c))) ps
 obtain ⟨z9,hz9⟩:∃z,z=GM (GY (mQ q (afQ q c))) ps:=⟨_,rfl⟩;rw [←hz9]at hcs9⊢;refine Za Y<|Z0<|Zx<|Zq<|Zq<|Zg<|Zm Y<|Zv (Eb Y Y)<|Z0<|Zx ?_;refine Ao Y (fun hlt=>?_) (fun hlt=>?_)
 ·
  have e8:jnT q c ps=(ps.filter fun p=>!OT c.k p,(bfQ q c).isSome&&decide (mQ q (bfQ q c)=mQ q (afQ q c))):=by unfold jnT;rw [if_neg hot];split;rename_i h7;rw [hy]at h7;cases h7;rw [if_pos (by rw [←hz9];exact hlt)]
  refine Zq<|BI (n:=13) (0::0::2::6::14::30::62::30::158::510::1022::31::4095::[]) 0 (by kernel_rfl) (by kernel_rfl) rfl ?_;refine Zi 1 0 rfl (AJ Y)<|Zi 3 1 rfl (AZ (off:=17) underlying151 rfl rfl sizeOf149 Y)<|Zj 7 2 rfl isAgg149 Y ?_;refine Zi 15 3 rfl (EZ underlying149 Y Y)<|Zi 31 4 rfl (AJ Y) ?_;refine CP (t:=74) Y (fun h1=>?_) (fun h1=>?_)
  ·
   first|rw [decide_eq_true h1]|rw [h1]|skip
   refine Ag (D':=63) 5 Y rfl rfl rfl (AZ (off:=19) underlying151 rfl rfl sizeOf3 Y) ?_;refine Bl (D':=127) 6 Y rfl rfl rfl Wh (Bf isAgg3 Y (by rfl)) ?_;refine Ag (D':=255) 7 Y rfl rfl rfl (AZ (off:=20) underlying151 rfl rfl sizeOf3 Y) ?_;refine Bl (D':=511) 8 Y rfl rfl rfl Wh (Bf isAgg3 Y (by rfl)) ?_;refine Ag (D':=1023) 9 Y rfl rfl rfl (CF Y Y) ?_;refine Zi 2047 10 rfl (AL Y Y)<|Zi 4095 11 rfl (Ay Y)<|Zi 8191 12 rfl (Ay Y)<|Am ?_;refine Zn [4,5] ?_;refine Zx<|A9<|Zt ?_;refine Da rfl results234 Y Y (by exact ⟨.slice g9 _ c9,s9,by rw [e8,←e1,h1];rfl,by rw [e8];exact h9,rfl⟩)
  first|rw [decide_eq_false h1]|rw [h1]|skip
  refine Yk 63 5 rfl<|Yk 127 6 rfl<|Yk 255 7 rfl<|Yk 511 8 rfl<|Yk 1023 9 rfl<|Zi 2047 10 rfl (AA Y Y)<|Zi 4095 11 rfl (Ay Y)<|Zi 8191 12 rfl (Ay Y)<|Am ?_;refine Zn [4,5] ?_;refine Zx<|A9<|Zt ?_;refine Da rfl results234 Y Y (by exact ⟨.slice g9 _ c9,s9,by rw [e8,←e1,h1];rfl,by rw [e8];exact h9,rfl⟩)
 rcases hcs9 with⟨h7,_⟩|⟨k,p,h7,hp,_,_⟩
 · exact absurd h7 (by omega)
 subst h7;have e8:jnT q c ps=((NQ (fun p=>J5 q y p.l) (ps.filter fun p=>!OT c.k p) ⟨y,p.r⟩),true):=by
  unfold jnT;rw [if_neg hot];split
  · rename_i h7;rw [hy]at h7;cases h7
  · rename_i y0 h7;rw [hy]at h7;injection h7 with h7;subst h7;rw [←hz9,if_neg (by omega),vZ,uZ,hp];rfl
 have hk:=(tH.1 hp).1;obtain ⟨g,cap9,cur,z,hv9,rfl,hle9,hin9⟩:=Db hl (by omega);injection hv9 with hv1 hv2 hv3
 subst hv1 hv3;obtain ⟨_,hsz9,hex9⟩:=Oe hin9 hp;refine AC<|Zx<|Zq<|Zg<|Zo Wh (AX isAgg151 sizeOf151 Y Wb (by exact Au rfl)) ?_;refine Zc [_] Y call232 Y rfl (P9 q hcl c p1 (mQ q (bfQ q c)) (mQ q (afQ q c)) y b2) ?_;rintro _ _ ⟨_,⟨b8,b9,rfl,rfl⟩,rfl⟩;refine Ze (Al zeroValue191 #[_]) ?_;rintro _ _ ⟨bb,rfl,rfl⟩;refine Xe (Zs sizeOf191 Y Y rfl (hc:=by exact (rfl:_=(#[.func (.func 266) #[] ([I5 b8,I5 b9]:List Value).toArray]:Array Value))) (hi:=by first|omega|decide|(simp;done))) ?_;refine Z0<|Zn [1,2,9,10,11] ?_;refine Zx<|Zq<|KT (s1:=[(bb,_)]) (s2:=_++_++[(b2,_)]) Wo Wo ?_;refine BI (n:=15) (0::0::2::6::14::0::0::96::224::480::1022::0::4095::8191::16383::[]) 4096 (by kernel_rfl) (by kernel_rfl) rfl ?_;refine Zi 1 0 rfl (AJ Y)<|Zi 3 1 rfl (AZ (off:=18) underlying151 rfl rfl sizeOf149 Y)<|Zj 7 2 rfl isAgg149 Y ?_;refine Zi 15 3 rfl (Dz Y rfl)<|Fp (b:=b2) (x:= .cells #[I4 y.t,I4 y.k,I4 y.v.a,I4 y.v.b,I4 y.v.c] 113 (0,0)) (D':=31) 4 rfl rfl rfl (by simp) (AX (cs:=#[I4 y.t,I4 y.k,I4 y.v.a,I4 y.v.b,I4 y.v.c]) isAgg113 sizeOf113 Y (by first|decide|exact tQ _|(simp;done)) (by rfl)) ?_;refine Zi 63 5 rfl (AJ Y)<|Zi 127 6 rfl (AJ Y) ?_;refine Zi 255 7 rfl (AU underlying282 sizeOf284 Y Y (by first|omega|decide|(simp;done))) ?_;refine Zi 511 8 rfl (BH (off:=5) underlying284 rfl rfl sizeOf113 Y)<|Cj (D':=1023) 9 rfl rfl rfl Wh (AX (cs:=#[I4 p.r.t,I4 p.r.k,I4 p.r.v.a,I4 p.r.v.b,I4 p.r.v.c]) isAgg113 sizeOf113 Y Wb (by exact hex9)) ?_;refine Zi 2047 10 rfl (BK (vs:=[(0,.agg #[I4 y.t,I4 y.k,I4 y.v.a,I4 y.v.b,I4 y.v.c]),(1,.agg #[I4 p.r.t,I4 p.r.k,I4 p.r.v.a,I4 p.r.v.b,I4 p.r.v.c])]) (cs:=#[I4 y.t,I4 y.k,I4 y.v.a,I4 y.v.b,I4 y.v.c,I4 p.r.t,I4 p.r.k,I4 p.r.v.a,I4 p.r.v.b,I4 p.r.v.c]) Y (Aa (pl:=#[(0,5),(5,5)]) zeroValue284 underlying284 (fun _=>by kernel_rfl) (by kernel_rfl))) ?_;refine Zi 4095 11 rfl (Bt (vs:=[]) (us:=[_]) Y Y) ?_;refine Zz (l:=[12]) ?_
 refine Zy 4095 8191 [9,4,2] [false,false,false] [] rfl Y rfl rfl rfl rfl (Zw [_,_,_] Y call272 Y rfl (Qn h9 (by omega) ⟨y,p.r⟩ 273 [I5 bb] (fun p=>J5 q y p.l) call273 (fun x=>pQ 266 ([I5 b8,I5 b9]:List Value) (J5 q y) call266 (fun x=>X8 q hcl c p1 (mQ q (bfQ q c)) (mQ q (afQ q c)) y b2 b8 b9 x) bb x))) ?hk_10 D9 ?hl_10
 case hk_10=>
  rintro _ _ ⟨_,⟨s5,s6,h5,rfl⟩,rfl⟩;refine ⟨Ad,?_⟩;obtain ⟨g5,c5,rfl⟩:=h5.form;refine Zi 16383 13 rfl (Ay Y)<|Zi 32767 14 rfl (Ay Y)<|Am ?_;refine Zn [4,5] ?_;refine Zx<|A9 ?_;refine Da rfl results234 Y Y (by exact ⟨.slice g5 _ c5,s5,by rw [e8],by rw [e8];exact h5,rfl⟩)
 exact Aw
theorem Xq(q:QM)(c:Chg)(r:CG):(Cw q c r).1.val=r.val:=by unfold Cw;split<;>rfl
theorem Xt(q:QM)(c:Chg)(r:CG):(Cw q c r).1.rows.length≤r.rows.length+2:=by
 unfold Cw;split
 · exact y8 _ _
 · show(DI _).length≤_
   have h:=aC q c (Ee r.rows);rw [Jg]at h;rw [Gx];omega
theorem aJ{cur:Array Value}{rs:List AP}{k:Nat}{x:AP}(hin:Bw cur 0 (Ac rs))(hx:rs[k]?=some x):k*5+5≤cur.size∧cur.extract (0+k*5) (0+k*5+5)=#[I4 x.t,I4 x.k,I4 x.v.a,I4 x.v.b,I4 x.v.c]:=We hin hx
theorem kH{cur:Array Value}{rs:List BU}{k:Nat}{x:BU}(hin:Bw cur 0 (Ak rs))(hx:rs[k]?=some x):k*10+10≤cur.size∧cur.extract (0+k*10) (0+k*10+10)=#[I4 x.l.t,I4 x.l.k,I4 x.l.v.a,I4 x.l.v.b,I4 x.l.v.c,I4 x.r.t,I4 x.r.k,I4 x.r.v.a,I4 x.r.v.b,I4 x.r.v.c]:=Tc hin hx
set_option maxHeartbeats 1000000 in
theorem Xk(q:QM)(hcl:0≤q.cl∧q.cl≤3)(c:Chg)(p1 p2:Option Addr){s2:List AR}(e1:p1.isSome=(bfQ q c).isSome)(h2:IE p2 (afQ q c) s2){r:CG}{rv:Value}{sr:List AR}(hr:BX 5 113 rv r.rows.length (Ac r.rows) sr)(hn:r.rows.length≤100000000):CO Tryz.prog 176 #[.agg #[I4 q.kd,I4 q.tb,I4 q.cl,I4 q.lo,I4 q.hi,I4 q.bq,I4 q.ot,I4 c.t,I4 c.k,.bool c.had,I4 c.o.a,I4 c.o.b,I4 c.o.c,.bool c.has,I4 c.n.a,I4 c.n.b,I4 c.n.c,.pointer p1,.pointer p2,I4 (mQ q (bfQ q c)),I4 (mQ q (afQ q c))],.agg #[rv,I4 r.val,.bool r.fnd]] [sr,s2] (fun w H'=>∃rv' s',w= .tuple #[.agg #[rv',I4 (Cw q c r).1.val,.bool (Cw q c r).1.fnd],.bool (Cw q c r).2]∧BX 5 113 rv' (Cw q c r).1.rows.length (Ac (Cw q c r).1.rows) s'∧H'=[s']):=by
 have hml:=mL;obtain ⟨pv,cv,rfl⟩:=hr.form;refine Se func176 ntmps176 [0,1] ?_;intro u R;refine Zq<|Zg<|Ze (H8 Y (cs:=#[I4 q.kd,I4 q.tb,I4 q.cl,I4 q.lo,I4 q.hi,I4 q.bq,I4 q.ot,I4 c.t,I4 c.k,.bool c.had,I4 c.o.a,I4 c.o.b,I4 c.o.c,.bool c.has,I4 c.n.a,I4 c.n.b,I4 c.n.c,.pointer p1,.pointer p2,I4 (mQ q (bfQ q c)),I4 (mQ q (afQ q c))]) (FW q c p1 p2 (mQ q (bfQ q c)) (mQ q (afQ q c)))) ?_;rintro _ _ ⟨be,rfl,rfl⟩;refine Ze (Bx #[.slice pv r.rows.length cv,I4 r.val,.bool r.fnd]) ?_;rintro _ _ ⟨br,rfl,rfl⟩;refine Ze (Al zeroValue51 #[_,_,_]) ?_;rintro _ _ ⟨bo,rfl,rfl⟩;refine Za Y<|Z0<|Zx<|Zq<|Zq<|Zg<|Zh 0 underlying151 rfl rfl sizeOf30 Y<|Zv (BH (off:=1) underlying30 rfl rfl sizeOf3 Y)<|Zl isAgg3 Y ?_;refine Zh 0 underlying151 rfl rfl sizeOf30 Y<|Zv (BH (off:=6) underlying30 rfl rfl sizeOf3 Y)<|Zl isAgg3 Y ?_;refine Zv (CF Y Y)<|Z0<|Zx ?_;refine Ao Y (fun hto=>?_) (fun hto=>?_)
 ·
  refine Zq<|Zg<|Zo Wh (Pa #[_,_,_] isAgg51 sizeOf51 Y) ?_;refine Xe (Xw sizeOf51 _) ?_;refine Za Y<|Z0<|Zn [4,5] ?_;refine Zx<|A9<|Zt ?_;refine Bb rfl results176 Y Wh (Ah isAgg51 sizeOf51 Wn (rfl)) Y (by
   have e8:Cw q c r=(r,false):=by unfold Cw;rw [if_pos hto]
   exact ⟨.slice pv r.rows.length cv,sr,by rw [e8];rfl,by rw [e8];exact hr,rfl⟩)
 refine AC<|Zx<|Zq<|Zg<|Za Y<|Z0<|Zx<|Zq<|Zq<|Bd ?_;refine Zg<|Za Y<|Z0<|Zn [2,3,4,6,7] ?_;refine Zx<|AQ<|Zb [6,7,2,3,4] ?_;refine Az (e0:=[(6,_),(7,_)]) (fun m e H=>∃(k:Nat) (gk:Option Addr) (ck:Nat) (sk:List AR),m=r.rows.length -k∧(k≤r.rows.length/2∧BX 10 284 (.slice gk k ck) k (Ak ((Ee r.rows).take k)) sk)∧e=[(6,.slice gk k ck),(7,I4 ((2*k:Nat):Int))]∧H=[sk]) (by exact ⟨0,none,0,[],rfl,⟨tX _,BV 10 _⟩,rfl,rfl⟩) Wp ?_;rintro _ _ _ ⟨k,gk,ck,sk,rfl,⟨hk,hsk⟩,rfl,rfl⟩;refine Zq<|Zq<|Bd ?_;refine Zg<|Zm Y<|Ya (n:=1) Y Y<|Zh 0 underlying51 rfl rfl sizeOf45 Y<|Zl isAgg45 Y ?_;refine Zv (AV underlying45 Y)<|Zv (Aq Y Y)<|Z0<|Zx ?_;refine Ao Y (fun hlt=>?_) (fun hlt=>?_)
 ·
  obtain ⟨x,hx⟩:∃x,r.rows[2*k]?=some x:=⟨_,tF (by omega)⟩;obtain ⟨y,hy⟩:∃y,r.rows[2*k+1]?=some y:=⟨_,tF (by omega)⟩;obtain ⟨g,cap9,cur,z,hv9,rfl,hle9,hin9⟩:=Db hr (by omega);injection hv9 with hv1 hv2 hv3
  subst hv1 hv3;obtain ⟨hszx,hexx⟩:=aJ hin9 hx;obtain ⟨hszy,hexy⟩:=aJ hin9 hy;refine AC<|Zx<|Zq<|AQ<|BI (n:=16) (0::0::2::0::14::30::0::64::0::256::960::1984::4094::8190::16383::32767::[]) 24576 (by kernel_rfl) (by kernel_rfl) rfl ?_;refine Zi 1 0 rfl (AJ Y)<|Zi 3 1 rfl (AZ (off:=0) underlying51 rfl rfl sizeOf45 Y)<|Zj 7 2 rfl isAgg45 Y ?_;refine Zi 15 3 rfl (AJ Y) ?_;refine Zi 31 4 rfl (AU underlying45 sizeOf113 Y Y (by first|omega|decide|(simp;done))) ?_;refine Cj (D':=63) 5 rfl rfl rfl Wh (AX (cs:=#[_,_,_,_,_]) isAgg113 sizeOf113 Y Wb (by exact hexx)) ?_;refine Zi 127 6 rfl (AZ (off:=0) underlying51 rfl rfl sizeOf45 Y)<|Zj 255 7 rfl isAgg45 Y ?_;refine Zi 511 8 rfl (AJ Y) ?_;refine Zi 1023 9 rfl (D6 (n:=1) Y Y (by omega)) ?_;refine Zi 2047 10 rfl (AU underlying45 sizeOf113 Y Y (by first|omega|decide|(simp;done))) ?_;refine Cj (D':=4095) 11 rfl rfl rfl Wh (AX (cs:=#[_,_,_,_,_]) isAgg113 sizeOf113 Y Wb (by exact hexy)) ?_;refine Zi 8191 12 rfl (BK (vs:=[(0,.agg #[I4 x.t,I4 x.k,I4 x.v.a,I4 x.v.b,I4 x.v.c]),(1,.agg #[I4 y.t,I4 y.k,I4 y.v.a,I4 y.v.b,I4 y.v.c])]) (cs:=#[I4 x.t,I4 x.k,I4 x.v.a,I4 x.v.b,I4 x.v.c,I4 y.t,I4 y.k,I4 y.v.a,I4 y.v.b,I4 y.v.c]) Y (Aa (pl:=#[(0,5),(5,5)]) zeroValue284 underlying284 (fun _=>by kernel_rfl) (by kernel_rfl))) ?_;refine Yw 13 16383 rfl (Ae (vs:=[_]) (cs:=[_,_,_,_,_,_,_,_,_,_]) underlying282 sizeOf284 zeroValue284 Y rfl rfl rfl rfl rfl) ?_;rintro _ _ ⟨gp,rfl,rfl⟩;refine Yw 14 32767 rfl (BR (by_:=80) (sz:=10) underlying282 (rfl:Tryz.prog.info? 284=some Tryz.t284) rfl rfl rfl rfl Y (hsk) Y (DY 10 gp 1 1 284 (0,0) (Ak [⟨x,y⟩]) rfl) Wo Wo (by exact EW _) (by omega) (by omega)) ?_;rintro _ _ ⟨sw6,hrw6,rfl⟩;obtain ⟨gw6,cw6,rfl⟩:=hrw6.form;refine Zi 65535 15 rfl (Ay Y)<|Am ?_;refine Zn [2,3,4,6,7] ?_;refine A8<|Zx<|Bd ?_;refine Zg<|Zm Y<|Ya (n:=2) Y Y<|Za Y<|Z0<|Zn [6,7,2,3,4] ?_;refine Ab (e':=[(6,_),(7,_)]) (by exact ⟨k+1,gw6,cw6,sw6,rfl,⟨by omega,BO hrw6 rfl (by rw [Bo (iW hx hy),Cy])⟩,rfl,rfl⟩)
 have ek:k=(Ee r.rows).length:=by rw [Jg];omega
 have hskL:=BO hsk ek (by rw [ek,uQ]);refine Ar<|Zt<|Zt<|AO<|Zx<|Zq<|Zg<|Zo Wh (AX isAgg151 sizeOf151 Y Wb (by exact Au rfl)) ?_;refine Zm Y<|Zc [_,_] Y call234 Y rfl (YF q hcl c p1 p2 e1 h2 hskL (by rw [Jg];omega)) ?_;rintro _ _ ⟨_,⟨lv,s5,rfl,h5,rfl⟩,rfl⟩;have e8:Cw q c r=(⟨DI (jnT q c (Ee r.rows)).1,r.val,r.fnd⟩,(jnT q c (Ee r.rows)).2):=by unfold Cw;rw [if_neg hto]
 have hL9:=aC q c (Ee r.rows);rw [Jg]at hL9;obtain ⟨L,hL⟩:∃L,L=(jnT q c (Ee r.rows)).1:=⟨_,rfl⟩;rw [←hL]at h5 e8 hL9;obtain ⟨g5,c5,rfl⟩:=h5.form;refine Zm Y<|Zd Y rfl<|Zd Y rfl<|Za Y<|Za Y<|Z0<|Zn [3,4,6,8] ?_;refine Zx<|Zq<|Zg<|Zh 0 underlying51 rfl rfl sizeOf45 Y<|Xe (Zs sizeOf45 Y Y rfl (hc:=by exact (rfl:_=(#[.slice none 0 0,I4 r.val,.bool r.fnd]:Array Value))) (hi:=by first|omega|decide|(simp;done))) ?_;refine Z0<|Zx<|Zq<|Zq<|Bd ?_;refine Zg<|Zm Y<|Zv (AV underlying282 Y)<|Zm Y<|Z0<|Zx<|AQ<|Zb [51,3,4,8,49,50] ?_;refine Az (e0:=[(51,_)]) (fun m e H=>∃(k:Nat) (gk:Option Addr) (ck:Nat) (sk:List AR),m=L.length -k∧(k≤L.length∧BX 5 113 (.slice gk (2*k) ck) (2*k) (Ac (DI (L.take k))) sk)∧e=[(51,I4 (k:Int))]∧H=[[(br,.cells #[.slice gk (2*k) ck,I4 r.val,.bool r.fnd] 51 (0,0))],sk]) (by exact ⟨0,none,0,[],rfl,⟨tX _,BV 5 _⟩,rfl,rfl⟩) Wp ?_;rintro _ _ _ ⟨k,gk,ck,sk,rfl,⟨hk,hsk⟩,rfl,rfl⟩;refine Zq<|Bd ?_;refine Zg<|Zv (Aq Y Y)<|Z0<|Zx<|Zq ?_;refine Ao Y (fun hlt=>?_) (fun hlt=>?_)
 ·
  obtain ⟨p,hp⟩:∃p,L[k]?=some p:=⟨_,tF hlt⟩;obtain ⟨g,cap9,cur,z,hv9,rfl,hle9,hin9⟩:=Db h5 (by omega);injection hv9 with hv1 hv2 hv3
  subst hv1 hv3;obtain ⟨hszp,hexp⟩:=kH hin9 hp;refine AC<|Zx<|Zq<|AQ<|Zq<|Bd ?_;refine Zg ?_;refine BM (AU underlying282 sizeOf284 Y Y (by first|omega|decide|(simp;done))) ?_;refine Zo Wh (AX (cs:=#[_,_,_,_,_,_,_,_,_,_]) isAgg284 sizeOf284 Y Wb (by exact hexp)) ?_;refine Ze (Al zeroValue284 #[_,_,_,_,_,_,_,_,_,_]) ?_;rintro _ _ ⟨bp,rfl,rfl⟩;refine Xe (Xw sizeOf284 #[I4 p.l.t,I4 p.l.k,I4 p.l.v.a,I4 p.l.v.b,I4 p.l.v.c,I4 p.r.t,I4 p.r.k,I4 p.r.v.a,I4 p.r.v.b,I4 p.r.v.c]) ?_;refine Z0<|Zx<|Zg<|Zh 0 underlying51 rfl rfl sizeOf45 Y<|Zl isAgg45 Y ?_;refine Zh 0 underlying284 rfl rfl sizeOf113 Y<|Zo Wh (Pa #[_,_,_,_,_] isAgg113 sizeOf113 Y) ?_;refine Zh 5 underlying284 rfl rfl sizeOf113 Y<|Zo Wh (Pa #[_,_,_,_,_] isAgg113 sizeOf113 Y) ?_;refine Ze (Ae (vs:=[_,_]) (cs:=[_,_,_,_,_,_,_,_,_,_]) underlying45 sizeOf113 zeroValue113 Y rfl rfl rfl rfl rfl) ?_;rintro _ _ ⟨gq,rfl,rfl⟩;refine Ze (BR (by_:=40) (sz:=5) underlying45 (rfl:Tryz.prog.info? 113=some Tryz.t113) rfl rfl rfl rfl Y (hsk) Y (DY 5 gq 2 2 113 (0,0) (Ac [p.l,p.r]) rfl) Wo Wo (by exact CL _) (by omega) (by omega)) ?_;rintro _ _ ⟨sw7,hrw7,rfl⟩;obtain ⟨gw7,cw7,rfl⟩:=hrw7.form;refine Zh 0 underlying51 rfl rfl sizeOf45 Y<|Xe (Zs sizeOf45 Y Y rfl (hc:=by exact (rfl:_=(#[.slice gw7 (2*k+2) cw7,I4 r.val,.bool r.fnd]:Array Value))) (hi:=by first|omega|decide|(simp;done))) ?_;refine Z0<|Zn [3,4,8,49,50,51] ?_;refine A8<|Zx<|Bd ?_;refine Zg<|Ya (n:=1) Y Y<|Zm Y<|Z0<|Zn [51,3,4,8,49,50] ?_;refine Ab (e':=[(51,_)]) (by exact ⟨k+1,gw7,cw7,sw7,rfl,⟨by omega,BO hrw7 rfl (by rw [Q8 hp,BZ])⟩,rfl,rfl⟩)
 have ek:k=L.length:=by omega
 subst ek;rw [uQ]at hsk;refine Ar<|Zt<|Zt<|AO<|Zx<|Zq<|Zg<|Zo Wh (Pa #[_,_,_] isAgg51 sizeOf51 Y) ?_;refine Zm Y<|Xe (Xw sizeOf51 _) ?_;refine Za Y<|Z0<|Zx<|A9 ?_;refine Bb rfl results176 Y Wh (Ah isAgg51 sizeOf51 Wn (rfl)) Y (by exact ⟨.slice gk (2*L.length) ck,sk,by rw [e8];rfl,by rw [e8];exact BO hsk (Gx L).symm rfl,rfl⟩)
end Go.Proofs.YtkdgffcfmgmemaaGreatDoor
