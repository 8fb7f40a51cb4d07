/- Pairs of rows in memory; slices.Clone, IndexFunc, DeleteFunc, Insert at pairs. -/
/- predicate.without, inserted at pairs. -/
/- The pairs of a join: plain words, the closures. -/
/- effect.join. -/
/- effect.join. -/
/- predicate.patchJoin. -/
import Derived.Test.YtkdgffcfmgmemaaGreatDoorEz
import Derived.Test.YtkdgffcfmgmemaaGreatDoorPr3
import Derived.Test.YtkdgffcfmgmemaaGreatDoorEx5
set_option linter.unusedVariables false
set_option linter.unusedSimpArgs false
namespace Go.Proofs.YtkdgffcfmgmemaaGreatDoor
open Go.Proofs.Tryz
open Go Go.RowKit Gw
set_option maxRecDepth 100000
attribute [local irreducible] Gw.At Gw.Nx Gw.Ops
structure BU where
 l:AP
 r:AP
deriving DecidableEq
def Aj(ps:List BU):List Value:=ps.flatMap fun p=>[I4 p.l.t,I4 p.l.k,I4 p.l.v.a,I4 p.l.v.b,I4 p.l.v.c,I4 p.r.t,I4 p.r.k,I4 p.r.v.a,I4 p.r.v.b,I4 p.r.v.c]
theorem Cz(a b:List BU):Aj (a++b)=Aj a++Aj b:=by unfold Aj;rw [vW]
theorem BD:∀(rs:List BU),(Aj rs).length=rs.length*10
 |[]=>rfl
 |r::rs=>by
  have:=BD rs;unfold Aj at*;rw [ui,tJ,this,tX];simp;omega
theorem FM(rs:List BU)(k:Nat):(Aj rs).take (k*10)=Aj (rs.take k):=by
 rcases uI rs.length k with h|h
 · rw [uN (by rw [BD];omega),uN (by omega)]
 · have e:Aj rs=Aj (rs.take k)++Aj (rs.drop k):=by rw [←Cz,uX]
   rw [e,ul (by rw [BD,tL];omega)]
theorem Km(rs:List BU)(k:Nat):(Aj rs).drop (k*10)=Aj (rs.drop k):=by
 rcases uI rs.length k with h|h
 · rw [vH (by rw [BD];omega),vH (by omega)];rfl
 · have e:Aj rs=Aj (rs.take k)++Aj (rs.drop k):=by rw [←Cz,uX]
   rw [e,wh (by rw [BD,tL];omega)]
theorem EZ(rs:List BU):∀u∈Aj rs,u.oneCell'=true:=by
 intro u hu;unfold Aj at hu;obtain ⟨r,_,h⟩:=xK.1 hu;simp only [uJ,vS,or_false]at h;rcases h with rfl|rfl|rfl|rfl|rfl|rfl|rfl|rfl|rfl|rfl<;>rfl
def RL(M:List AR)(v:Value)(rs:List BU):Prop:=∃p cap,v= .slice p rs.length cap∧(rs.length≤maxLen∧rs.length≤cap)∧∀(i:Nat) (x:BU),rs[i]?=some x→∃g off cur T zz,p=some ⟨g,off,none⟩∧(g,Obj.cells cur T zz)∈M∧off+i*10+10≤cur.size∧cur.extract (off+i*10) (off+i*10+10)=#[I4 x.l.t,I4 x.l.k,I4 x.l.v.a,I4 x.l.v.b,I4 x.l.v.c,I4 x.r.t,I4 x.r.k,I4 x.r.v.a,I4 x.r.v.b,I4 x.r.v.c]
theorem MN{e:TypeId}{v:Value}{rs:List BU}{s:List AR}(h:BV 10 e v rs.length (Aj rs) s)(hn:rs.length≤maxLen):RL s v rs:=by
 obtain ⟨b,cap,rfl⟩:=h.form;refine ⟨b,cap,rfl,⟨hn,FI h⟩,fun i x hx=>?_⟩;obtain ⟨g,cap',cur,z,hv,rfl,hsz,hex⟩:=Ha h i (tH.1 hx).1;injection hv with hv1 hv2 hv3
 refine ⟨g,0,cur,e,z,hv1,by simp,by omega,?_⟩;unfold Aj at hex;rw [GR _ 10 (fun _=>rfl) rs i x hx]at hex;rw [uL];exact w9.1 hex
theorem Pp{rs:List BU}{k:Nat}{r:BU}(h:rs[k]?=some r):Aj rs=Aj (rs.take k)++(Aj [r]++Aj (rs.drop (k+1))):=by
 rw [←Cz,←Cz];congr 1;obtain ⟨hk,rfl⟩:=tH.1 h;rw [uU,←vL hk,uX]
theorem IR{rs:List BU}{k:Nat}{r:BU}(h:rs[k]?=some r)(j:Nat)(hj:j<10):(Aj rs)[k*10+j]?=(Aj [r])[j]?:=by
 have hk:=(tH.1 h).1;have e:(Aj (rs.take k)).length=k*10:=by rw [BD,tL];omega
 rw [Pp h,vQ (by omega),xE (by rw [e,BD];simp;omega),e,zt]
theorem UE{M:List AR}{p:Option Addr}{n cap:Nat}{rs:List BU}(h:RL M (.slice p n cap) rs):Fe M p (Aj rs):=by
 obtain ⟨p',cap',e,hl,hg⟩:=h;injection e with e1 e2 e3
 subst e1;intro j u hj;have hjl:=(tH.1 hj).1
 rw [BD]at hjl;obtain ⟨x,hx⟩:∃x,rs[j/10]?=some x:=⟨_,tF (by omega)⟩;obtain ⟨g,off,cur,T,zz,rfl,hm,hsz,hex⟩:=hg (j/10) x hx;refine ⟨g,off,cur,T,zz,rfl,hm,?_⟩;have h1:=NY hex hsz (j%10) (by omega)
 have h2:=IR hx (j%10) (by omega);rw [show j/10*10+j%10=j by omega,hj]at h2;rw [show off+j=off+j/10*10+j%10 by omega,h1,h2,←uP];rfl
theorem UN{M:List AR}{v:Value}{rs:List BU}(hv:RL M v rs)(hb:rs.length≤1000000000000):CF Tryz.prog 299 #[v] [M] (fun r H'=>∃sr,BV 10 284 r rs.length (Aj rs) sr∧H'=[sr,M]):=by
 have hml:=mL;obtain ⟨p,cap,rfl,⟨hl,hlc⟩,hg⟩:=id hv;have hcm:Fe M p (Aj rs):=UE hv
 refine Se func299 ntmps299 [0] ?_;intro u R;refine Zq<|Zg<|Za Y<|Z0<|Zx<|Zq<|Zq<|Zg<|Zm Y<|Zv (Fj underlying282 Y Y)<|Z0<|Zx ?_;refine Af Y (fun hp=>?_) (fun hp=>?_)
 ·
  have hp0:p=none:=by cases p with
   |none=>rfl
   |some x=>cases hp
  have h0:rs=[]:=by
   cases rs with
   |nil=>rfl
   |cons x l=>obtain ⟨g,off,cur,T,zz,e9,_⟩:=hg 0 x rfl;rw [hp0]at e9;cases e9
  refine Zq<|Bd ?_;refine Zg<|Za Y<|Z0<|Zx<|A9<|Zt ?_;refine AC rfl results299 Y (by exact ⟨[],by rw [h0];exact BX 10 _,rfl⟩)
 refine AB<|Zx<|Zq<|Zg<|Ze (Gv underlying282 sizeOf284) ?_;rintro _ _ ⟨g1,rfl,rfl⟩;refine Zm Y ?_;refine Ze (LX (by_:=80) (sz:=10) underlying282 (rfl:Tryz.prog.info? 284=some Tryz.t284) rfl rfl rfl rfl Y (Iq 10 284 g1 0 [] rfl (by decide)) Y (hcm) (by exact BD _) (by decide) Wo Wo (by exact EZ _) (by omega) (by omega)) ?_;rintro _ _ ⟨sa1,hra1,rfl⟩;replace hra1:=BO hra1 (uL _) (vN _);refine Za Y<|Z0<|Zx<|A9 ?_;refine AC rfl results299 Y (by exact ⟨_,hra1,rfl⟩)
def GQ(pd:BU→Bool)(rows:List BU):Int:=(rows.findIdx? pd).elim (-1) fun i=>(i:Int)
theorem di{pd:BU→Bool}{rows:List BU}{i:Nat}{x:BU}(h:∀(j:Nat) (y:BU),j<i→rows[j]?=some y→pd y=false)(hx:rows[i]?=some x)(hp:pd x=true):GQ pd rows=(i:Int):=by
 obtain ⟨hi,rfl⟩:=tH.1 hx;unfold GQ;rw [vE.2 ⟨hi,hp,fun j hj=>by simp [h j _ hj (tF (by omega))]⟩];rfl
theorem dm{pd:BU→Bool}{rows:List BU}(h:∀(j:Nat) (y:BU),j<rows.length→rows[j]?=some y→pd y=false):GQ pd rows=-1:=by
 unfold GQ;rw [wL.2 fun y hy=>by
  obtain ⟨j,hj⟩:=uV hy;exact h j y (tH.1 hj).1 hj]
 rfl
theorem Qv(pd:BU→Bool)(rows:List BU):(GQ pd rows=-1∧∀y∈rows,pd y=false)∨∃(i:Nat) (x:BU),GQ pd rows=(i:Int)∧rows[i]?=some x∧pd x=true∧∀(j:Nat) (y:BU),j<i→rows[j]?=some y→pd y=false:=by
 unfold GQ;cases h:rows.findIdx? pd with
 |none=>exact .inl ⟨rfl,wL.1 h⟩
 |some i=>
  obtain ⟨h1,h2,h3⟩:=vE.1 h;refine .inr ⟨i,_,rfl,tF h1,h2,fun j y hj hy=>?_⟩;obtain ⟨h4,rfl⟩:=tH.1 hy;simpa using h3 j hj
theorem bW{rs:List BU}{k:Nat}(hk:k<rs.length)(x:BU):(Aj rs).take (k*10)++Aj [x]++(Aj rs).drop (k*10+(Aj [x]).length)=Aj (rs.set k x):=by
 rw [show k*10+(Aj [x]).length=(k+1)*10 by rw [BD];simp;omega,FM,Km,←Cz,←Cz,wm,if_pos hk];simp
theorem Tk{cur:Array Value}{rs:List BU}{k:Nat}{x:BU}(hin:Bw cur 0 (Aj rs))(hx:rs[k]?=some x):k*10+10≤cur.size∧cur.extract (0+k*10) (0+k*10+10)=(Aj [x]).toArray:=by
 have hk:=(tH.1 hx).1;have hs:k*10+10≤cur.size:=by
  have h4:=IR hx 9 (by decide);have h5:=hin.get (k*10+9) _ (h4.trans (by rfl))
  have:=(uH.1 h5).1;omega
 refine ⟨hs,?_⟩;apply w9.1;apply wE;intro j;rw [uP,xA];split
 · rename_i hj
   have hj5:j<10:=by omega
   have h1:=IR hx j hj5;obtain ⟨u,hu⟩:∃u,(Aj [x])[j]?=some u:=⟨_,tF (by rw [BD];simpa using hj5)⟩;rw [hu]at h1;have h2:=hin.get _ _ h1
   rw [uL]at h2;rw [uL,h2];exact hu.symm
 · rw [uy]
   show(Aj [x]).length≤j;rw [BD];simp only [tT];omega
theorem KQ{rows:List BU}{j:Nat}{x:BU}(f:BU→Bool)(hx:rows[j]?=some x):(rows.take (j+1)).filter f=(rows.take j).filter f++(if f x then [x]else []):=by
 rw [Bp hx,um];congr 1;rw [zA,zN]
theorem LB{rows:List BU}{f:BU→Bool}(h:∀(j:Nat) (y:BU),rows[j]?=some y→f y=true):rows.filter f=rows:=List.filter_eq_self.2 fun y hy=>by
 obtain ⟨j,hj⟩:=uV hy;exact h j y hj
theorem L8{A B:List AR}{v:Value}{rows:List BU}(hv:RL A v rows)(fid:Nat)(us:List Value)(pd:BU→Bool)(hcf:∀(args:Array Value) (w:World),(callFunc fid args).run Tryz.prog w= .ok (.enter fid args) w)(hf:∀x:BU,Aw Tryz.prog fid (.agg #[I4 x.l.t,I4 x.l.k,I4 x.l.v.a,I4 x.l.v.b,I4 x.l.v.c,I4 x.r.t,I4 x.r.k,I4 x.r.v.a,I4 x.r.v.b,I4 x.r.v.c]::us).toArray [B] (.bool (pd x))):Aw Tryz.prog 270 #[v,.func (.func fid) #[] us.toArray] [A,B] (I4 (GQ pd rows)):=by
 have hml:=mL;obtain ⟨p,cap,rfl,⟨hl,hlc⟩,hg⟩:=id hv;refine Se func270 ntmps270 [0,1] ?_;intro u R;refine Zq<|Zg<|Za Y<|Z0<|Zx<|Zq<|Zq<|Zg<|Zm Y<|Zv (AU underlying282 Y)<|Zm Y<|Z0<|Zx<|AQ<|Zb [8,0,1,7] ?_;refine Az (e0:=[(8,_)]) (fun m e H=>∃(i:Nat),m=rows.length -i∧(i≤rows.length∧∀(j:Nat) (y:BU),j<i→rows[j]?=some y→pd y=false)∧e=[(8,I4 (i:Int))]∧H=[]) (by exact ⟨0,rfl,⟨tY _,fun j y h=>by omega⟩,rfl,rfl⟩) Wp ?_;rintro _ _ _ ⟨i,rfl,⟨hi,hno⟩,rfl,rfl⟩;refine Zq<|Zg<|Zv (Aq Y Y)<|Z0<|Zx<|Zq ?_;refine Ao Y (fun hlt=>?_) (fun hlt=>?_)
 ·
  obtain ⟨x,hx⟩:∃x,rows[i]?=some x:=⟨_,tF hlt⟩;obtain ⟨g,off,cur,T,zz,rfl,hm9,hsz9,hex9⟩:=hg i x hx;refine AB<|Zx<|Zq<|AQ<|Zq<|Zg<|Zm Y<|Za Y<|Z0<|Zx<|Zq<|Zg<|Zm Y<|Zm Y<|Zm Y ?_;refine BM (AZ underlying282 sizeOf284 Y Y (by first|omega|decide|(simp;done))) ?_;refine Cf (cs:=[(g,.cells cur T zz)]) (by simp [hm9]) (AY (cs:=#[I4 x.l.t,I4 x.l.k,I4 x.l.v.a,I4 x.l.v.b,I4 x.l.v.c,I4 x.r.t,I4 x.r.k,I4 x.r.v.a,I4 x.r.v.b,I4 x.r.v.c]) isAgg284 sizeOf284 Y (by omega) hex9) rfl rfl ?_;refine Xr [_] Y (hcf) Y rfl (hf x) ?_;refine Z0<|Zx ?_;refine Af Y (fun hpx=>?_) (fun hpx=>?_)
  ·
   refine Zq<|Zg<|Zm Y<|Za Y<|Z0<|Zx<|A9<|AV<|Zt<|Zt<|AV<|Zt ?_;refine AC rfl results270 Y (by exact ⟨congrArg (Value.int .i64) (di hno hx hpx).symm,rfl⟩)
  refine AB<|A8<|Zx<|Zg<|Ya (n:=1) Y Y<|Zm Y<|Z0<|Zn [8,0,1,7] ?_;refine Ab (e':=[(8,_)]) (by exact ⟨i+1,rfl,⟨by omega,fun j y h1 h2=>by rcases uI j i with h9|h9;exact hno j y h9 h2;obtain rfl:j=i:=(by omega);rw [hx]at h2;injection h2 with h2;subst h2;exact hpx⟩,rfl,rfl⟩)
 have ei:i=rows.length:=by omega
 subst ei;refine Au<|Zt<|Zt<|AO<|Zx<|Zq<|Zg<|Za Y<|Z0<|Zx<|A9 ?_;refine AC rfl results270 Y (by exact ⟨congrArg (Value.int .i64) (dm hno).symm,rfl⟩)
set_option maxHeartbeats 1000000 in
theorem Ul{B s:List AR}{v:Value}{rows:List BU}(hrow:BV 10 284 v rows.length (Aj rows) s)(hn:rows.length≤1000000000)(fid:Nat)(us:List Value)(pd:BU→Bool)(hcf:∀(args:Array Value) (w:World),(callFunc fid args).run Tryz.prog w= .ok (.enter fid args) w)(hf:∀x:BU,Aw Tryz.prog fid (.agg #[I4 x.l.t,I4 x.l.k,I4 x.l.v.a,I4 x.l.v.b,I4 x.l.v.c,I4 x.r.t,I4 x.r.k,I4 x.r.v.a,I4 x.r.v.b,I4 x.r.v.c]::us).toArray [B] (.bool (pd x))):CF Tryz.prog 298 #[v,.func (.func fid) #[] us.toArray] [s,B] (fun r H'=>∃s',BV 10 284 r (rows.filter fun x=>!pd x).length (Aj (rows.filter fun x=>!pd x)) s'∧H'=[s',B]):=by
 have hml:=mL;obtain ⟨p,cap,rfl⟩:=hrow.form;have hU:=MN hrow (by omega)
 refine Se func298 ntmps298 [0,1] ?_;intro u R;refine Zq<|Zg<|Za Y<|Z0<|Zx<|Zq<|Zg<|Zm Y<|Zm Y<|Xr [_,_] Y call270 Y rfl (L8 hU fid us pd hcf hf) ?_;rcases Qv pd rows with⟨e9,hall⟩|⟨k,x0,e9,hx0,hp0,hno⟩
 ·
  rw [e9];refine Za Y<|Z0<|Zx<|Zq<|Zq<|Zg<|Zm Y<|Zv (CG Y Y)<|Z0<|Zx ?_;refine Ao Y (fun h1=>?_) (fun h1=>?_)
  ·
   refine Zq<|Zg<|Zm Y<|Za Y<|Z0<|Zx<|A9<|Zt ?_;refine AC rfl results298 Y (by exact ⟨_,BO hrow (congrArg List.length (LB fun j y hy=>by rw [hall y (tV hy)];rfl).symm) (congrArg Aj (LB fun j y hy=>by rw [hall y (tV hy)];rfl).symm),rfl⟩)
  exact absurd rfl h1
 rw [e9];have hk0:=(tH.1 hx0).1
 obtain ⟨g,cap9,cur,z,hv9,rfl,hle9,hin9⟩:=Df hrow (by omega);injection hv9 with hv1 hv2 hv3
 subst hv1 hv3;refine Za Y<|Z0<|Zx<|Zq<|Zq<|Zg<|Zm Y<|Zv (CG Y Y)<|Z0<|Zx ?_;refine Ao Y (fun h2=>?_) (fun h2=>?_)
 ·
  exfalso;omega
 refine AB<|Zx<|Zq<|Zq<|Zg<|Zm Y<|Ya (n:=1) Y Y<|Za Y<|Z0<|Zx<|AQ<|Zb [5,6,0,1] ?_;refine Az (e0:=[(5,_),(6,_)]) (fun m e H=>∃(i j:Nat) (W:List BU) (cur:Array Value),m=rows.length -j∧((i<j∧j≤rows.length)∧W.length=rows.length∧BV 10 284 (I6 g rows.length cap) rows.length (Aj W) [(g,.cells cur 284 z)]∧W.take i=(rows.take j).filter (fun x=>!pd x)∧∀t,j≤t→W[t]?=rows[t]?)∧e=[(5,I4 (i:Int)),(6,I4 (j:Int))]∧H=[[(g,.cells cur 284 z)]]) (by exact ⟨k,k+1,rows,cur,rfl,⟨⟨by omega,by omega⟩,rfl,hrow,by rw [KQ _ hx0,hp0];simp only [wT,vG,if_false,uR];exact (LB (fun j y hy=>by rw [uZ]at hy;split at hy;rw [hno j y (by assumption) hy];rfl;cases hy)).symm,fun t _=>rfl⟩,rfl,rfl⟩) Wp ?_;rintro _ _ _ ⟨i,j,W,cur,rfl,⟨hij,hWl,hrW,hWt,hWr⟩,rfl,rfl⟩;obtain ⟨hinW,hcsW,hleW,hcmW,hfrW⟩:=JE hrW;refine Zq<|Zq<|Zg<|Zm Y<|Zm Y<|Zv (AU underlying282 Y)<|Zv (Aq Y Y)<|Z0<|Zx ?_;refine Ao Y (fun hlt=>?_) (fun hlt=>?_)
 ·
  obtain ⟨x,hx⟩:∃x,rows[j]?=some x:=⟨_,tF hlt⟩;obtain ⟨hsz9,hex9⟩:=Tk hinW ((hWr j (tQ _)).trans hx);refine AB<|Zx<|Zq<|AQ<|Zq<|Zg<|Zm Y<|Zm Y ?_;refine BM (AZ underlying282 sizeOf284 Y Y (by first|omega|decide|(simp;done))) ?_;refine Zo Wh (AY (cs:=#[I4 x.l.t,I4 x.l.k,I4 x.l.v.a,I4 x.l.v.b,I4 x.l.v.c,I4 x.r.t,I4 x.r.k,I4 x.r.v.a,I4 x.r.v.b,I4 x.r.v.c]) isAgg284 sizeOf284 Y (by omega) hex9) ?_;refine Ze (Al zeroValue284 #[_,_,_,_,_,_,_,_,_,_]) ?_;rintro _ _ ⟨bx,rfl,rfl⟩;refine Xe (Xw sizeOf284 #[I4 x.l.t,I4 x.l.k,I4 x.l.v.a,I4 x.l.v.b,I4 x.l.v.c,I4 x.r.t,I4 x.r.k,I4 x.r.v.a,I4 x.r.v.b,I4 x.r.v.c]) ?_;refine Z0<|Zx<|Zq<|Zg<|Zm Y<|Zo Wh (Pa #[_,_,_,_,_,_,_,_,_,_] isAgg284 sizeOf284 Y) ?_;refine Xr [_] Y (hcf) Y rfl (hf x) ?_;refine Zv (CZ Y)<|Z0<|Zn [0,1,5,6,7,29] ?_;refine Zx ?_;refine Af Y (fun hpx=>?_) (fun hpx=>?_)
  ·
   have hpx:pd x=false:=by simpa using hpx
   have hrW2:=BO (xs':=Aj (W.set i x)) (EH (i:=0+i*10) (ys:=Aj [x]) hrW (by rw [BD,BD,tT];omega)) rfl (by rw [uL];exact bW (by omega) x);refine Zq<|Zg<|Zm Y<|Zm Y<|Zo Wh (Pa #[_,_,_,_,_,_,_,_,_,_] isAgg284 sizeOf284 Y) ?_;refine BM (AZ underlying282 sizeOf284 Y Y (by first|omega|decide|(simp;done))) ?_;refine Xe (BP sizeOf284 Y Y (by(simp [Value.oneCell'];done)) Wu (by exact (rfl:_=Eg cur (0+i*10) (Aj [x]))) (by first|rfl|(simp;done)) Wb (by exact hfrW)) ?_;refine Z0<|Zx<|Zg<|Zm Y<|Ya (n:=1) Y Y<|Za Y<|Z0<|A8<|Zx<|Zg<|Zm Y<|Ya (n:=1) Y Y<|Za Y<|Z0<|Zn [5,6,0,1] ?_;refine Ab (e':=[(5,_),(6,_)]) (by exact ⟨i+1,j+1,W.set i x,_,rfl,⟨by omega,by rw [List.length_set];exact hWl,hrW2,by rw [VK (by omega),hWt,KQ _ hx];simp [hpx],fun t ht=>by rw [List.getElem?_set_ne (by omega)];exact hWr t (by omega)⟩,rfl,rfl⟩)
  have hpx:pd x=true:=by simpa using hpx
  refine AB<|A8<|Zx<|Zg<|Zm Y<|Ya (n:=1) Y Y<|Za Y<|Z0<|Zn [5,6,0,1] ?_;refine Ab (e':=[(5,_),(6,_)]) (by exact ⟨i,j+1,W,cur,rfl,⟨by omega,hWl,hrW,by rw [hWt,KQ _ hx];simp [hpx],fun t ht=>hWr t (by omega)⟩,rfl,rfl⟩)
 have ej:j=rows.length:=by omega
 subst ej;rw [uQ]at hWt;have hil:(rows.filter fun x=>!pd x).length=i:=by rw [←hWt,tL];omega
 refine Au<|Zt<|Zt<|AO<|Zx<|Zq<|Zg<|Zm Y<|Zm Y ?_;refine BM (Bz underlying282 sizeOf284 Y Y (by omega)) ?_;refine Ze (Ms underlying282 (rfl:Tryz.prog.info? 284=some Tryz.t284) rfl rfl (by simp [Value.cells,Value.oneCell']) Y (by omega) hcsW hfrW Wo) ?_;rintro _ _ rfl;have hrW3:=Sk (EH (i:=i*10) (ys:=(Builtin.zeroCells (Value.agg #[I4 0,I4 0,I4 0,I4 0,I4 0,I4 0,I4 0,I4 0,I4 0,I4 0]).cells (rows.length -i)).toList) hrW (by rw [vv,size_zeroCells,BD];show i*10+(rows.length -i)*10≤_;omega)) i (by omega)
 refine Z0<|Zx<|Zq<|Zg<|Zm Y<|Zm Y ?_;refine BM (Bi underlying282 sizeOf284 Y Y (by omega)) ?_;refine Za Y<|Z0<|Zx<|A9 ?_;refine AC rfl results298 Y (by
  refine ⟨_,BO hrW3 hil.symm ?_,rfl⟩;rw [tO,ul (by rw [tL,BD];omega),FM,hWt])
theorem dZ{A Y D:List Value}{i n:Nat}(hA:A.length=(n+1)*10)(hi:i≤n)(hY:Y.length=10)(hD:D.length=(n -i)*10):(A.take (0+i*10)++Y++A.drop (0+i*10+Y.length)).take (0+(i+1)*10)++D++(A.take (0+i*10)++Y++A.drop (0+i*10+Y.length)).drop (0+(i+1)*10+D.length)=A.take (i*10)++Y++D:=by
 rw [uL,uL,ul (by rw [tJ,tL];omega),vH (by simp only [tJ,tL,tN];omega),uR]
theorem YG{A Y D:List Value}{i n:Nat}(hA:A.length=(n+1)*10)(hi:i≤n)(hY:Y.length=10)(hD:D.length=(n -i)*10):(A.take (0+(i+1)*10)++D++A.drop (0+(i+1)*10+D.length)).take (0+i*10)++Y++(A.take (0+(i+1)*10)++D++A.drop (0+(i+1)*10+D.length)).drop (0+i*10+Y.length)=A.take (i*10)++Y++D:=by
 rw [uL,uL,vH (l:=A) (by omega),uR,vP (by rw [tL];omega),xB,wG (by omega),wh (by rw [tL];omega)]
theorem Si(rows:List BU)(i:Nat)(y:BU):(Aj rows).take (i*10)++Aj [y]++Aj (rows.drop i)=Aj (rows.take i++[y]++rows.drop i):=by
 rw [FM,Cz,Cz]
theorem P9{c:Array Value}{rows:List BU}(h:Bw c 0 (Aj rows))(i:Nat)(hi:i≤rows.length):Bw c (0+i*10) (Aj (rows.drop i)):=by
 have h1:=IZ h (i*10) ((rows.length -i)*10) (by rw [BD];omega);rw [Km,uN (by rw [BD,tN];omega)]at h1;exact h1
theorem XA{c:Array Value}{rows:List BU}(h:Bw c 0 (Aj rows))(i:Nat)(hi:i≤rows.length):Bw c 0 (Aj (rows.take i)):=by
 have h1:=IZ h 0 (i*10) (by rw [BD];omega);rw [wO,FM]at h1;exact h1
theorem Qt(rows:List BU)(i:Nat)(hi:i≤rows.length)(y:BU):(rows.take i++[y]++rows.drop i).length=rows.length+1:=by
 simp only [tJ,tL,tN,tT];omega
set_option maxHeartbeats 1000000 in
theorem Uf{s:List AR}{v:Value}{rows:List BU}(hrow:BV 10 284 v rows.length (Aj rows) s)(hn:rows.length≤1000000000)(i:Nat)(hi:i≤rows.length)(y:BU)(g2:Nat):CF Tryz.prog 300 #[v,I4 (i:Int),I6 g2 1 1] [s,[(g2,.cells #[I4 y.l.t,I4 y.l.k,I4 y.l.v.a,I4 y.l.v.b,I4 y.l.v.c,I4 y.r.t,I4 y.r.k,I4 y.r.v.a,I4 y.r.v.b,I4 y.r.v.c] 284 (0,0))]] (fun r H'=>∃s' s2,BV 10 284 r (rows.take i++[y]++rows.drop i).length (Aj (rows.take i++[y]++rows.drop i)) s'∧H'=[s',s2,[(g2,.cells #[I4 y.l.t,I4 y.l.k,I4 y.l.v.a,I4 y.l.v.b,I4 y.l.v.c,I4 y.r.t,I4 y.r.k,I4 y.r.v.a,I4 y.r.v.b,I4 y.r.v.c] 284 (0,0))]]):=by
 have hml:=mL;obtain ⟨p,cap,rfl⟩:=hrow.form;have hle:=FI hrow
 refine Se func300 ntmps300 [0,1,2] ?_;intro u R;refine Zq<|Zg<|Za Y<|Z0<|Zx<|Zq<|Bd ?_;refine Zg<|Zm Y<|Zm Y ?_;refine BM (Bz underlying282 sizeOf284 Y Y (by omega)) ?_;refine Z0<|Zx<|Zq<|Zg<|Zm Y<|Zv (AU underlying282 Y)<|Za Y<|Z0<|Zx<|Zq<|Zq<|Zg<|Zm Y<|Zv (C8 (n:=0) Y Y)<|Z0<|Zx ?_;refine Ao Y (fun h0=>?_) (fun h0=>?_)
 ·
  cases h0
 refine AB<|Zx<|Zq<|Zg<|Zm Y<|Zv (AU underlying282 Y)<|Za Y<|Z0<|Zx<|Zq<|Zq<|Zg<|Zm Y<|Zm Y<|Zv (C8 Y Y)<|Z0<|Zn [0,1,2,7,8,22] ?_;refine Zx ?_;refine Ao Y (fun hin=>?_) (fun hin=>?_)
 ·
  refine Zq<|Zg<|Zm Y<|Zm Y ?_;refine Ze (BQ (by_:=80) (sz:=10) underlying282 (rfl:Tryz.prog.info? 284=some Tryz.t284) rfl rfl rfl rfl Y (hrow) Y (DW 10 g2 1 1 284 (0,0) (Aj [y]) rfl) Wo Wo (by exact EZ _) (by omega) (by omega)) ?_;rintro _ _ ⟨sw5,hrw5,rfl⟩;obtain ⟨gw5,cw5,rfl⟩:=hrw5.form;refine Za Y<|Z0<|Zx<|A9<|Zt ?_;refine AC rfl results300 Y (by
   have hin:i=rows.length:=by omega
   subst hin;exact ⟨_,[],BO hrw5 (Qt rows _ (tQ _) y).symm (by rw [uQ,AA0,uR,Cz]),rfl⟩)
 obtain ⟨g,cap9,cur,z,hv9,rfl,hle9,hin9⟩:=Df hrow (by omega);injection hv9 with hv1 hv2 hv3
 subst hv1 hv3;obtain ⟨_,hcs,_,hcm,hfr⟩:=JE hrow;refine AB<|Zx<|Zq<|Zq<|Zg<|Zm Y<|Zm Y<|Ya Y Y<|Zm Y<|Zv (Oy underlying282 Y)<|Zv (D7 Y Y)<|Z0<|Zx ?_;refine Ao Y (fun hg=>?_) (fun hg=>?_)
 ·
  refine Zq<|Zg<|Zm Y<|Zm Y ?_;refine BM (Bi underlying282 sizeOf284 Y Y (by omega)) ?_;refine Zm Y<|Zm Y<|Ya Y Y<|Zm Y<|Yb Y Y ?_;refine Ze (Kb (by_:=80) (sz:=10) (xs:=Aj (rows.take i)) underlying282 underlying3 (rfl:Tryz.prog.info? 284=some Tryz.t284) rfl rfl rfl rfl Y Y Wh (XA hin9 i hi) (by rw [BD,tL];omega) (by omega) (by decide) (by omega) (by omega) (by omega)) ?_;rintro _ _ ⟨s9,hr9,rfl⟩;rw [show i+(rows.length+1 -i)=rows.length+1 by omega]at hr9;have hAl:=hr9.1
  obtain ⟨g3,cap3,cur3,z3,rfl,rfl,hle3,hin3⟩:=Df hr9 (by omega);obtain ⟨_,hcs3,_,hcm3,hfr3⟩:=JE hr9;refine Za Y<|Z0<|Zn [0,1,2,7,9] ?_;refine Zx<|Zq<|Zg<|Zm Y<|Zm Y ?_
  (refine BM (Bl underlying282 sizeOf284 Y Y ?_ ?_) ?_;(focus (omega));(focus (omega)))
  refine Zm Y<|Xe (J9 (cs:=Aj [y]) underlying282 sizeOf284 Y Y Wh Wo ((rfl:Bw (#[I4 y.l.t,I4 y.l.k,I4 y.l.v.a,I4 y.l.v.b,I4 y.l.v.c,I4 y.r.t,I4 y.r.k,I4 y.r.v.a,I4 y.r.v.b,I4 y.r.v.c]:Array Value) 0 (Aj [y]))) (by rw [BD,tT];omega) (by rw [BD,tT];omega) (hfr3) (EZ _)) ?_;refine Z0<|Zx<|Zq<|BJ (n:=9) (0::0::0::6::15::0::0::96::255::[]) 256 (by kernel_rfl) (by kernel_rfl) rfl ?_;refine Zi 1 0 rfl (AJ Y)<|Zi 3 1 rfl (AJ Y)<|Zi 7 2 rfl (AJ Y) ?_;refine Zi 15 3 rfl (D9 Y Y (by omega)) ?_
  (refine E8 (D':=31) 4 (Bl underlying282 sizeOf284 Y Y ?_ ?_) ?_;(focus (omega));(focus (omega)))
  refine Zi 63 5 rfl (AJ Y)<|Zi 127 6 rfl (AJ Y) ?_
  (refine E8 (D':=255) 7 (Bl underlying282 sizeOf284 Y Y ?_ ?_) ?_;(focus (omega));(focus (omega)))
  refine Yw 8 511 rfl (J9 (cs:=Aj (rows.drop i)) underlying282 sizeOf284 Y Y Wh Wo (P9 hin9 i hi) (by rw [BD,tN];omega) (by rw [BD,tN,Fg (by rw [BD,tT];omega)];omega) (by rw [Fg (by rw [BD,tT];omega)];exact hfr3) (EZ _)) ?_;rintro _ _ ⟨rfl,rfl⟩;refine Am ?_;refine Zn [9] ?_;refine Zx<|Zq<|Zg<|Zm Y<|Za Y<|Z0<|Zx<|A9<|Zt ?_;refine AC rfl results300 Y (by
   refine ⟨_,[(g,.cells cur 284 z)],BO (EH (i:=0+(i+1)*10) (ys:=Aj (rows.drop i)) (EH (i:=0+i*10) (ys:=Aj [y]) hr9 (by rw [hAl,BD,tT];omega)) ?_) (Qt rows i hi y).symm ?_,rfl⟩
   · simp only [tJ,tL,tN,hAl,BD,tT];omega
   · rw [dZ hAl hi (by rw [BD];rfl) (by rw [BD,tN]),ul (by rw [BD,tL];omega),←FM,Si])
 refine AB<|Zx<|Zq ?_;obtain ⟨ys9,hyl9,hrM⟩:=Sj hrow (rows.length+1) (by omega) (by omega);have hAl:=hrM.1
 refine Zg<|Zm Y<|Zm Y<|Zm Y<|Ya Y Y ?_;refine BM (Bi underlying282 sizeOf284 Y Y (by omega)) ?_;refine Za Y<|Z0<|Zx<|Zq<|Zq ?_;refine oN (s1:=[(g2,_)]) (s2:=[(g,_)]) (a:=g2) (b:=g) Wo Wo (tq.2 rfl) (tq.2 rfl) (fun hne9=>?_);refine Zg<|Zm Y<|Zm Y<|Zm Y<|Zm Y<|Ya Y Y ?_
 (refine BM (Bl underlying282 sizeOf284 Y Y ?_ ?_) ?_;(focus (omega));(focus (omega)))
 refine Cf (cs:=[(g2,.cells #[I4 y.l.t,I4 y.l.k,I4 y.l.v.a,I4 y.l.v.b,I4 y.l.v.c,I4 y.r.t,I4 y.r.k,I4 y.r.v.a,I4 y.r.v.b,I4 y.r.v.c] 284 (0,0)),(g,.cells cur 284 z)]) (by simp) (QZ (tR:=4) func309 (by kernel_rfl) (by kernel_rfl) (by kernel_rfl) (by kernel_rfl) underlying282 sizeOf284 Y hne9 (by omega)) rfl rfl ?_;refine Zv (CZ Y)<|Z0<|Zn [0,1,2,7,8,68] ?_;refine Zx ?_;refine Af Y (fun hb9=>?_) (fun hb9=>?_)
 ·
  refine Zq<|BJ (n:=9) (0::0::0::6::15::0::0::96::255::[]) 256 (by kernel_rfl) (by kernel_rfl) rfl ?_;refine Zi 1 0 rfl (AJ Y)<|Zi 3 1 rfl (AJ Y)<|Zi 7 2 rfl (AJ Y) ?_;refine Zi 15 3 rfl (D9 Y Y (by omega)) ?_
  (refine E8 (D':=31) 4 (Bl underlying282 sizeOf284 Y Y ?_ ?_) ?_;(focus (omega));(focus (omega)))
  refine Zi 63 5 rfl (AJ Y)<|Zi 127 6 rfl (AJ Y) ?_
  (refine E8 (D':=255) 7 (Bl underlying282 sizeOf284 Y Y ?_ ?_) ?_;(focus (omega));(focus (omega)))
  refine Yw 8 511 rfl (J9 (cs:=Aj (rows.drop i)) underlying282 sizeOf284 Y Y Wh Wo (P9 hin9 i hi) (by rw [BD,tN];omega) (by rw [BD,tN];omega) (hfr) (EZ _)) ?_;rintro _ _ ⟨rfl,rfl⟩;refine Am ?_;refine Zx<|Zq<|Zg<|Zm Y<|Zm Y ?_
  (refine BM (Bl underlying282 sizeOf284 Y Y ?_ ?_) ?_;(focus (omega));(focus (omega)))
  refine Zm Y<|Xe (J9 (cs:=Aj [y]) underlying282 sizeOf284 Y Y Wh Wo ((rfl:Bw (#[I4 y.l.t,I4 y.l.k,I4 y.l.v.a,I4 y.l.v.b,I4 y.l.v.c,I4 y.r.t,I4 y.r.k,I4 y.r.v.a,I4 y.r.v.b,I4 y.r.v.c]:Array Value) 0 (Aj [y]))) (by rw [BD,tT];omega) (by rw [BD,tT,Fg (by rw [BD,tN];omega)];omega) (by rw [Fg (by rw [BD,tN];omega)];exact hfr) (EZ _)) ?_;refine Z0<|Zn [0] ?_;refine Zx<|Zq<|Zg<|Zm Y<|Za Y<|Z0<|Zx<|A9<|Zt ?_;refine AC rfl results300 Y (by
   refine ⟨_,[],BO (EH (i:=0+i*10) (ys:=Aj [y]) (EH (i:=0+(i+1)*10) (ys:=Aj (rows.drop i)) hrM (by rw [hAl,BD,tN];omega)) ?_) (Qt rows i hi y).symm ?_,rfl⟩
   · simp only [tJ,tL,tN,BD,hyl9,tT];omega
   · rw [YG hAl hi (by rw [BD];rfl) (by rw [BD,tN]),vP (by rw [BD];omega),Si])
 cases hb9
def NT(pd:BU→Bool)(rows:List BU)(y:BU):List BU:=rows.take ((rows.findIdx? pd).getD rows.length)++[y]++rows.drop ((rows.findIdx? pd).getD rows.length)
theorem df(pd:BU→Bool)(rows:List BU)(y:BU):(NT pd rows y).length=rows.length+1:=by
 unfold NT;simp only [tJ,tL,tN,tT];omega
theorem ji(pd:BU→Bool)(rows:List BU):(GQ pd rows<0∧(rows.findIdx? pd).getD rows.length=rows.length)∨∃i:Nat,i≤rows.length∧GQ pd rows=(i:Int)∧(rows.findIdx? pd).getD rows.length=i:=by
 unfold GQ;cases h:rows.findIdx? pd with
 |none=>exact .inl ⟨by simp,rfl⟩
 |some i=>
  obtain ⟨h1,_,_⟩:=vE.1 h;exact .inr ⟨i,by omega,rfl,rfl⟩
theorem M0{A B:List AR}{v:Value}{rows:List BU}(hv:RL A v rows)(hn:rows.length≤1000000000)(fid:Nat)(us:List Value)(pd:BU→Bool)(hcf:∀(args:Array Value) (w:World),(callFunc fid args).run Tryz.prog w= .ok (.enter fid args) w)(hf:∀x:BU,Aw Tryz.prog fid (.agg #[I4 x.l.t,I4 x.l.k,I4 x.l.v.a,I4 x.l.v.b,I4 x.l.v.c,I4 x.r.t,I4 x.r.k,I4 x.r.v.a,I4 x.r.v.b,I4 x.r.v.c]::us).toArray [B] (.bool (pd x))):CF Tryz.prog 267 #[v,.func (.func fid) #[] us.toArray] [A,B] (fun r H'=>∃s,BV 10 284 r (rows.filter fun x=>!pd x).length (Aj (rows.filter fun x=>!pd x)) s∧H'=[s,A,B]):=by
 obtain ⟨p,cap,rfl,_⟩:=id hv;refine Se func267 ntmps267 [0,1] ?_;intro u R;refine Zq<|Zg<|Za Y<|Z0<|Zx<|Zq<|Zg<|Zm Y<|Zc [_] Y call299 Y rfl (UN hv (by omega)) ?_;rintro _ _ ⟨_,⟨s1,h1,rfl⟩,rfl⟩;obtain ⟨g1,c1,rfl⟩:=h1.form;refine Zm Y<|Zc [_,_] Y call298 Y rfl (Ul h1 hn fid us pd hcf hf) ?_;rintro _ _ ⟨_,⟨s2,h2,rfl⟩,rfl⟩;obtain ⟨g2,c2,rfl⟩:=h2.form;refine Za Y<|Z0<|Zx<|A9 ?_;refine AC rfl results267 Y (by exact ⟨_,h2,rfl⟩)
theorem Qs{s B:List AR}{v:Value}{rows:List BU}(hrow:BV 10 284 v rows.length (Aj rows) s)(hn:rows.length≤1000000000)(y:BU)(fid:Nat)(us:List Value)(pd:BU→Bool)(hcf:∀(args:Array Value) (w:World),(callFunc fid args).run Tryz.prog w= .ok (.enter fid args) w)(hf:∀x:BU,Aw Tryz.prog fid (.agg #[I4 x.l.t,I4 x.l.k,I4 x.l.v.a,I4 x.l.v.b,I4 x.l.v.c,I4 x.r.t,I4 x.r.k,I4 x.r.v.a,I4 x.r.v.b,I4 x.r.v.c]::us).toArray [B] (.bool (pd x))):CF Tryz.prog 272 #[v,.agg #[I4 y.l.t,I4 y.l.k,I4 y.l.v.a,I4 y.l.v.b,I4 y.l.v.c,I4 y.r.t,I4 y.r.k,I4 y.r.v.a,I4 y.r.v.b,I4 y.r.v.c],.func (.func fid) #[] us.toArray] [s,B] (fun r H'=>∃s' s2,BV 10 284 r (NT pd rows y).length (Aj (NT pd rows y)) s'∧H'=[s',s2,B]):=by
 have hml:=mL;obtain ⟨p,cap,rfl⟩:=hrow.form;have hU:=MN hrow (by omega)
 refine Se func272 ntmps272 [0,1,2] ?_;intro u R;refine Zq<|Zg<|Ze (Bx #[_,_,_,_,_,_,_,_,_,_]) ?_;rintro _ _ ⟨bx,rfl,rfl⟩;refine Za Y<|Z0<|Zx<|Zq<|Zg<|Zm Y<|Zm Y<|Xr [_,_] Y call270 Y rfl (L8 hU fid us pd hcf hf) ?_;obtain ⟨z9,hz9⟩:∃z,z=GQ pd rows:=⟨_,rfl⟩;rw [←hz9];have hcs9:=ji pd rows
 rw [←hz9]at hcs9;refine Za Y<|Z0<|Zx<|Zb [7,0,4] ?_;refine CU (e0:=[(7,_)]) (H0:=[]) (fun e H=>∃(i:Nat),(i≤rows.length∧(rows.findIdx? pd).getD rows.length=i)∧e=[(7,I4 (i:Int))]∧H=[]) Wp ?hx_1 ?hy_1
 case hx_1=>
  refine Zq<|Zg<|Zm Y<|Zv (Ee Y Y)<|Z0<|Zx ?_;refine Ao Y (fun hlt=>?_) (fun hlt=>?_)
  ·
   refine Zg<|Zm Y<|Zv (AU underlying282 Y)<|Za Y<|Z0<|Zn [7,0,4] ?_;refine BA (e':=[(7,_)]) (by exact ⟨rows.length,⟨tQ _,by rcases hcs9 with⟨_,h⟩|⟨i,h1,h2,h3⟩;exact h;omega⟩,rfl,rfl⟩)
  rcases hcs9 with⟨h9,_⟩|⟨i,h1,h2,h3⟩
  · exact absurd h9 hlt
  subst h2;refine AB<|Zn [7,0,4] ?_;refine BA (e':=[(7,_)]) (by exact ⟨i,⟨h1,h3⟩,rfl,rfl⟩)
 rintro _ _ ⟨i,⟨hi,hgi⟩,rfl,rfl⟩;refine Zq<|Zg<|Zm Y<|Zm Y<|Zo Wh (Pa #[_,_,_,_,_,_,_,_,_,_] isAgg284 sizeOf284 Y) ?_;refine Ze (Ae (vs:=[_]) (cs:=[_,_,_,_,_,_,_,_,_,_]) underlying282 sizeOf284 zeroValue284 Y rfl rfl rfl rfl rfl) ?_;rintro _ _ ⟨gy,rfl,rfl⟩;refine Zc [_,_,_] Y call300 Y rfl (Uf hrow hn i hi y gy) ?_;rintro _ _ ⟨_,⟨s3,s4,h3,rfl⟩,rfl⟩;obtain ⟨g3,c3,rfl⟩:=h3.form;refine Za Y<|Z0<|Zx<|A9 ?_;refine AC rfl results272 Y (by exact ⟨_,s4,by unfold NT;rw [hgi];exact h3,rfl⟩)
def GZ(k:Int)(p:BU):Bool:=decide (p.r.k=k)
def OW(k:Int)(p:BU):Bool:=decide (p.l.k=k)
def Eh(rows:List AP):List BU:=(List.range (rows.length/2)).map fun k=>⟨rows.getD (2*k) AP.zero,rows.getD (2*k+1) AP.zero⟩
def DL(ps:List BU):List AP:=ps.flatMap fun p=>[p.l,p.r]
def jnT(q:QM)(c:Chg)(ps:List BU):List BU×Bool:=
 if c.t=q.ot then
  (if c.has then(ps.map fun p=>if GZ c.k p then⟨p.l,⟨c.t,c.k,c.n⟩⟩else p,c.had)else(ps.filter fun p=>!GZ c.k p,c.had))
 else match afQ q c with
  |none=>(ps.filter fun p=>!OW c.k p,true)
  |some y=>if GQ (GZ (mQ q (afQ q c))) ps<0 then(ps.filter fun p=>!OW c.k p,(bfQ q c).isSome&&decide (mQ q (bfQ q c)=mQ q (afQ q c)))
   else(NT (fun p=>J6 q y p.l) (ps.filter fun p=>!OW c.k p) ⟨y,(ps.getD (GQ (GZ (mQ q (afQ q c))) ps).toNat ⟨AP.zero,AP.zero⟩).r⟩,true)
def Cv(q:QM)(c:Chg)(r:CO):CO×Bool:=if q.tb=q.ot then(r,false)else(⟨DL (jnT q c (Eh r.rows)).1,r.val,r.fnd⟩,(jnT q c (Eh r.rows)).2)
theorem Jj(rows:List AP):(Eh rows).length=rows.length/2:=by unfold Eh;rw [tK,yD]
theorem iX{rows:List AP}{k:Nat}{x y:AP}(hx:rows[2*k]?=some x)(hy:rows[2*k+1]?=some y):(Eh rows)[k]?=some ⟨x,y⟩:=by
 have h:=(tH.1 hy).1;unfold Eh;rw [uD,xR (by omega),vU,uY,uY,hx,hy];rfl
theorem Gx:∀ps:List BU,(DL ps).length=2*ps.length
 |[]=>rfl
 |p::ps=>by
  have:=Gx ps;unfold DL at*;rw [ui,tJ,this,tX];simp;omega
theorem QC{ps:List BU}{k:Nat}{p:BU}(h:ps[k]?=some p):DL (ps.take (k+1))=DL (ps.take k)++[p.l,p.r]:=by
 unfold DL;rw [Bp h,vW,List.flatMap_singleton]
theorem aJ(q:QM)(c:Chg)(ps:List BU):(jnT q c ps).1.length≤ps.length+1:=by
 have h1:=vg (fun p=>!GZ c.k p) ps;have h2:=vg (fun p=>!OW c.k p) ps
 unfold jnT;split
 · split
   · simp only [tK];omega
   · simp only;omega
 · split
   · simp only;omega
   · split
     · simp only;omega
     · simp only [df];omega
theorem nM(q:QM)(c:Chg)(p1 p2:Option Addr)(o n:Int)(be:Nat)(x:BU):Aw Tryz.prog 268 #[.agg #[I4 x.l.t,I4 x.l.k,I4 x.l.v.a,I4 x.l.v.b,I4 x.l.v.c,I4 x.r.t,I4 x.r.k,I4 x.r.v.a,I4 x.r.v.b,I4 x.r.v.c],I5 be] [[(be,.cells #[I4 q.kd,I4 q.tb,I4 q.cl,I4 q.lo,I4 q.hi,I4 q.bq,I4 q.ot,I4 c.t,I4 c.k,.bool c.had,I4 c.o.a,I4 c.o.b,I4 c.o.c,.bool c.has,I4 c.n.a,I4 c.n.b,I4 c.n.c,.pointer p1,.pointer p2,I4 o,I4 n] 151 (0,0))]] (.bool (GZ c.k x)):=by
 refine Se func268 ntmps268 [0,1] ?_;intro u R;refine Zq<|Zg<|Ze (Bx #[I4 x.l.t,I4 x.l.k,I4 x.l.v.a,I4 x.l.v.b,I4 x.l.v.c,I4 x.r.t,I4 x.r.k,I4 x.r.v.a,I4 x.r.v.b,I4 x.r.v.c]) ?_;rintro _ _ ⟨bx,rfl,rfl⟩;refine Za Y<|Z0<|Zx<|Zq<|Zg<|Zh 5 underlying284 rfl rfl sizeOf113 Y<|Zv (BH (off:=1) underlying113 rfl rfl sizeOf3 Y)<|Zl isAgg3 Y ?_;refine Zh 7 underlying151 rfl rfl sizeOf77 Y<|Zv (BH (off:=1) underlying77 rfl rfl sizeOf3 Y)<|Zl isAgg3 Y ?_;refine Zv (CG Y Y)<|Za Y<|Z0<|Zx<|A9 ?_;refine AC rfl results268 Y (by exact ⟨rfl,rfl⟩)
theorem nL(q:QM)(c:Chg)(p1 p2:Option Addr)(o n:Int)(be:Nat)(x:BU):Aw Tryz.prog 269 #[.agg #[I4 x.l.t,I4 x.l.k,I4 x.l.v.a,I4 x.l.v.b,I4 x.l.v.c,I4 x.r.t,I4 x.r.k,I4 x.r.v.a,I4 x.r.v.b,I4 x.r.v.c],I5 be] [[(be,.cells #[I4 q.kd,I4 q.tb,I4 q.cl,I4 q.lo,I4 q.hi,I4 q.bq,I4 q.ot,I4 c.t,I4 c.k,.bool c.had,I4 c.o.a,I4 c.o.b,I4 c.o.c,.bool c.has,I4 c.n.a,I4 c.n.b,I4 c.n.c,.pointer p1,.pointer p2,I4 o,I4 n] 151 (0,0))]] (.bool (OW c.k x)):=by
 refine Se func269 ntmps269 [0,1] ?_;intro u R;refine Zq<|Zg<|Ze (Bx #[I4 x.l.t,I4 x.l.k,I4 x.l.v.a,I4 x.l.v.b,I4 x.l.v.c,I4 x.r.t,I4 x.r.k,I4 x.r.v.a,I4 x.r.v.b,I4 x.r.v.c]) ?_;rintro _ _ ⟨bx,rfl,rfl⟩;refine Za Y<|Z0<|Zx<|Zq<|Zg<|Zh 0 underlying284 rfl rfl sizeOf113 Y<|Zv (BH (off:=1) underlying113 rfl rfl sizeOf3 Y)<|Zl isAgg3 Y ?_;refine Zh 7 underlying151 rfl rfl sizeOf77 Y<|Zv (BH (off:=1) underlying77 rfl rfl sizeOf3 Y)<|Zl isAgg3 Y ?_;refine Zv (CG Y Y)<|Za Y<|Z0<|Zx<|A9 ?_;refine AC rfl results269 Y (by exact ⟨rfl,rfl⟩)
theorem nK(q:QM)(c:Chg)(p1 p2:Option Addr)(o n:Int)(be:Nat)(x:BU):Aw Tryz.prog 271 #[.agg #[I4 x.l.t,I4 x.l.k,I4 x.l.v.a,I4 x.l.v.b,I4 x.l.v.c,I4 x.r.t,I4 x.r.k,I4 x.r.v.a,I4 x.r.v.b,I4 x.r.v.c],I5 be] [[(be,.cells #[I4 q.kd,I4 q.tb,I4 q.cl,I4 q.lo,I4 q.hi,I4 q.bq,I4 q.ot,I4 c.t,I4 c.k,.bool c.had,I4 c.o.a,I4 c.o.b,I4 c.o.c,.bool c.has,I4 c.n.a,I4 c.n.b,I4 c.n.c,.pointer p1,.pointer p2,I4 o,I4 n] 151 (0,0))]] (.bool (GZ n x)):=by
 refine Se func271 ntmps271 [0,1] ?_;intro u R;refine Zq<|Zg<|Ze (Bx #[I4 x.l.t,I4 x.l.k,I4 x.l.v.a,I4 x.l.v.b,I4 x.l.v.c,I4 x.r.t,I4 x.r.k,I4 x.r.v.a,I4 x.r.v.b,I4 x.r.v.c]) ?_;rintro _ _ ⟨bx,rfl,rfl⟩;refine Za Y<|Z0<|Zx<|Zq<|Zg<|Zh 5 underlying284 rfl rfl sizeOf113 Y<|Zv (BH (off:=1) underlying113 rfl rfl sizeOf3 Y)<|Zl isAgg3 Y ?_;refine Zh 20 underlying151 rfl rfl sizeOf3 Y<|Zl isAgg3 Y ?_;refine Zv (CG Y Y)<|Za Y<|Z0<|Zx<|A9 ?_;refine AC rfl results271 Y (by exact ⟨rfl,rfl⟩)
theorem nJ{B:List AR}(fid:Nat)(us:List Value)(pd:AP→Bool)(hcf:∀(args:Array Value) (w:World),(callFunc fid args).run Tryz.prog w= .ok (.enter fid args) w)(hf:∀x:AP,Aw Tryz.prog fid (.agg #[I4 x.t,I4 x.k,I4 x.v.a,I4 x.v.b,I4 x.v.c]::us).toArray [B] (.bool (pd x)))(bb:Nat)(x:BU):Aw Tryz.prog 273 #[.agg #[I4 x.l.t,I4 x.l.k,I4 x.l.v.a,I4 x.l.v.b,I4 x.l.v.c,I4 x.r.t,I4 x.r.k,I4 x.r.v.a,I4 x.r.v.b,I4 x.r.v.c],I5 bb] [[(bb,.cells #[.func (.func fid) #[] us.toArray] 191 (0,0))],B] (.bool (pd x.l)):=by
 refine Se func273 ntmps273 [0,1] ?_;intro u R;refine Zq<|Zg<|Ze (Bx #[I4 x.l.t,I4 x.l.k,I4 x.l.v.a,I4 x.l.v.b,I4 x.l.v.c,I4 x.r.t,I4 x.r.k,I4 x.r.v.a,I4 x.r.v.b,I4 x.r.v.c]) ?_;rintro _ _ ⟨bx,rfl,rfl⟩;refine Za Y<|Z0<|Zx<|Zq<|Zg<|Zl isAgg191 Y ?_;refine Zh 0 underlying284 rfl rfl sizeOf113 Y<|Zo Wh (Pa #[I4 x.l.t,I4 x.l.k,I4 x.l.v.a,I4 x.l.v.b,I4 x.l.v.c] isAgg113 sizeOf113 Y) ?_;refine Xr [_] Y (hcf) Y rfl (hf x.l) ?_;refine Za Y<|Z0<|Zx<|A9 ?_;refine AC rfl results273 Y (by exact ⟨rfl,rfl⟩)
theorem bV{ps:List BU}{k:Nat}{p:BU}(hp:ps[k]?=some p)(x:AP):(Aj ps).take (0+k*10+5)++Ac [x]++(Aj ps).drop (0+k*10+5+(Ac [x]).length)=Aj (ps.set k ⟨p.l,x⟩):=by
 have hk:=(tH.1 hp).1;have e:(Aj (ps.take k)).length=k*10:=by rw [BD,tL];omega
 have ep:Aj [p]=Ac [p.l]++Ac [p.r]:=rfl;have h5:∀r:AP,(Ac [r]).length=5:=fun r=>rfl
 have e1:Aj ps=(Aj (ps.take k)++Ac [p.l])++(Ac [p.r]++Aj (ps.drop (k+1))):=by
  rw [Pp hp,ep];simp
 have e2:(Aj (ps.take k)++Ac [p.l]).length=0+k*10+5:=by rw [tJ,e,h5];omega
 rw [e1,ul e2,h5,←yG,wh e2,wh (h5 p.r),wm,if_pos hk];have e3:Aj (ps.take k++⟨p.l,x⟩::ps.drop (k+1))=Aj (ps.take k)++(Aj [⟨p.l,x⟩]++Aj (ps.drop (k+1))):=by
  rw [←Cz,←Cz];rfl
 rw [e3,show Aj [⟨p.l,x⟩]=Ac [p.l]++Ac [x] from rfl];simp
theorem Oi{cur:Array Value}{ps:List BU}{k:Nat}{p:BU}(hin:Bw cur 0 (Aj ps))(hp:ps[k]?=some p):cur[0+k*10+5+1]?=some (I4 p.r.k)∧0+k*10+5+5≤cur.size∧cur.extract (0+k*10+5) (0+k*10+5+5)=#[I4 p.r.t,I4 p.r.k,I4 p.r.v.a,I4 p.r.v.b,I4 p.r.v.c]:=by
 have hat:∀j u,j<10→(Aj [p])[j]?=some u→cur[k*10+j]?=some u:=fun j u hj hu=>by
  have:=hin.get (k*10+j) u ((IR hp j hj).trans hu);rwa [uL]at this
 have h6:=hat 6 _ (by decide) rfl;have h9:=hat 9 _ (by decide) rfl
 have hsz:k*10+9<cur.size:=(uH.1 h9).1;refine ⟨by rw [show 0+k*10+5+1=k*10+6 by omega];exact h6,by omega,?_⟩;apply w9.1;apply wE;intro j;rw [uP,xA];split
 · rename_i hj
   have hj5:j<5:=by omega
   obtain ⟨u,hu⟩:∃u,(Ac [p.r])[j]?=some u:=⟨_,tF (by rw [BF];simpa using hj5)⟩;have h2:=hat (5+j) u (by omega) (by
    rw [show Aj [p]=Ac [p.l]++Ac [p.r] from rfl,vQ (by rw [BF];simp),BF];rw [show 5+j - [p.l].length*5=j by simp];exact hu)
   rw [show 0+k*10+5+j=k*10+(5+j) by omega,h2];exact hu.symm
 · rw [uy]
   show(Ac [p.r]).length≤j;rw [BF];simp only [tT];omega
def MW(c:Chg)(ps:List BU)(i:Nat):List BU:=(ps.take i).map (fun p=>if GZ c.k p then⟨p.l,⟨c.t,c.k,c.n⟩⟩else p)++ps.drop i
theorem jL(c:Chg)(ps:List BU)(i:Nat)(hi:i≤ps.length):(MW c ps i).length=ps.length:=by
 unfold MW;simp only [tJ,tK,tL,tN];omega
theorem UY{c:Chg}{ps:List BU}{i:Nat}{p:BU}(hp:ps[i]?=some p):(MW c ps i)[i]?=some p:=by
 have hi:=(tH.1 hp).1;unfold MW;rw [vQ (by rw [tK,tL];omega),tK,tL,wG (by omega),xM,ut,wY,hp]
theorem TU{c:Chg}{ps:List BU}{i:Nat}{p:BU}(hp:ps[i]?=some p):MW c ps (i+1)=(MW c ps i).set i (if GZ c.k p then⟨p.l,⟨c.t,c.k,c.n⟩⟩else p):=by
 have hi:=(tH.1 hp).1;have hl:((ps.take i).map (fun p=>if GZ c.k p then(⟨p.l,⟨c.t,c.k,c.n⟩⟩:BU)else p)).length=i:=by rw [tK,tL];omega
 unfold MW;rw [Bp hp,uK,yu (h:=by omega),hl,xM];obtain ⟨_,rfl⟩:=tH.1 hp;rw [vL hi,List.set_cons_zero];simp
theorem gZ{ps:List BU}{i:Nat}{p:BU}(hp:ps[i]?=some p):ps.set i p=ps:=by
 obtain ⟨hi,rfl⟩:=tH.1 hp;exact List.set_getElem_self hi
theorem pV{B:List AR}(fid:Nat)(us:List Value)(pd:AP→Bool)(hcf:∀(args:Array Value) (w:World),(callFunc fid args).run Tryz.prog w= .ok (.enter fid args) w)(hf:∀x:AP,Aw Tryz.prog fid (.agg #[I4 x.t,I4 x.k,I4 x.v.a,I4 x.v.b,I4 x.v.c]::us).toArray [B] (.bool (pd x)))(bb:Nat)(x:BU):Aw Tryz.prog 273 (.agg #[I4 x.l.t,I4 x.l.k,I4 x.l.v.a,I4 x.l.v.b,I4 x.l.v.c,I4 x.r.t,I4 x.r.k,I4 x.r.v.a,I4 x.r.v.b,I4 x.r.v.c]::([I5 bb]:List Value)).toArray [[(bb,.cells #[.func (.func fid) #[] us.toArray] 191 (0,0))]++B] (.bool (pd x.l)):=by
 refine ED (nJ fid us pd hcf hf bb x) (by simp) ?_;rintro r H' ⟨rfl,rfl⟩;exact ⟨_,⟨rfl,rfl⟩,by simp⟩
theorem Ud{q:QM}{c:Chg}{p1 p2:Option Addr}{be:Nat}{f:BU→Bool}{fn:Nat}(h:∀x,Aw Tryz.prog fn #[.agg #[I4 x.l.t,I4 x.l.k,I4 x.l.v.a,I4 x.l.v.b,I4 x.l.v.c,I4 x.r.t,I4 x.r.k,I4 x.r.v.a,I4 x.r.v.b,I4 x.r.v.c],I5 be] [[(be,.cells #[I4 q.kd,I4 q.tb,I4 q.cl,I4 q.lo,I4 q.hi,I4 q.bq,I4 q.ot,I4 c.t,I4 c.k,.bool c.had,I4 c.o.a,I4 c.o.b,I4 c.o.c,.bool c.has,I4 c.n.a,I4 c.n.b,I4 c.n.c,.pointer p1,.pointer p2,I4 (mQ q (bfQ q c)),I4 (mQ q (afQ q c))] 151 (0,0))]] (.bool (f x)))(x:BU):Aw Tryz.prog fn (.agg #[I4 x.l.t,I4 x.l.k,I4 x.l.v.a,I4 x.l.v.b,I4 x.l.v.c,I4 x.r.t,I4 x.r.k,I4 x.r.v.a,I4 x.r.v.b,I4 x.r.v.c]::([I5 be]:List Value)).toArray [[(be,.cells #[I4 q.kd,I4 q.tb,I4 q.cl,I4 q.lo,I4 q.hi,I4 q.bq,I4 q.ot,I4 c.t,I4 c.k,.bool c.had,I4 c.o.a,I4 c.o.b,I4 c.o.c,.bool c.has,I4 c.n.a,I4 c.n.b,I4 c.n.c,.pointer p1,.pointer p2,I4 (mQ q (bfQ q c)),I4 (mQ q (afQ q c))] 151 (0,0))]] (.bool (f x)):=h x
theorem nP{c:Chg}(h:c.has=true):EM c c.has c.n=⟨c.t,c.k,c.n⟩:=by unfold EM;rw [if_pos h]
theorem jM(c:Chg)(ps:List BU):MW c ps ps.length=ps.map fun p=>if GZ c.k p then⟨p.l,⟨c.t,c.k,c.n⟩⟩else p:=by unfold MW;rw [uQ,AA0,uR]
set_option maxHeartbeats 1000000 in
theorem YE(q:QM)(hcl:0≤q.cl∧q.cl≤3)(c:Chg)(p1 p2:Option Addr){s2:List AR}(e1:p1.isSome=(bfQ q c).isSome)(h2:IB p2 (afQ q c) s2){ps:List BU}{v:Value}{sl:List AR}(hl:BV 10 284 v ps.length (Aj ps) sl)(hn:ps.length≤100000000):CF Tryz.prog 234 #[.agg #[I4 q.kd,I4 q.tb,I4 q.cl,I4 q.lo,I4 q.hi,I4 q.bq,I4 q.ot,I4 c.t,I4 c.k,.bool c.had,I4 c.o.a,I4 c.o.b,I4 c.o.c,.bool c.has,I4 c.n.a,I4 c.n.b,I4 c.n.c,.pointer p1,.pointer p2,I4 (mQ q (bfQ q c)),I4 (mQ q (afQ q c))],v] [sl,s2] (fun w H'=>∃v' s',w= .tuple #[v',.bool (jnT q c ps).2]∧BV 10 284 v' (jnT q c ps).1.length (Aj (jnT q c ps).1) s'∧H'=[s']):=by
 have hml:=mL;obtain ⟨pl,capl,rfl⟩:=hl.form;have hU:=MN hl (by omega)
 have hfl:(ps.filter fun p=>!OW c.k p).length≤ps.length:=vg _ _;refine Se func234 ntmps234 [0,1] ?_;intro u R;refine Zq<|Zg<|Ze (H8 Y (cs:=#[I4 q.kd,I4 q.tb,I4 q.cl,I4 q.lo,I4 q.hi,I4 q.bq,I4 q.ot,I4 c.t,I4 c.k,.bool c.had,I4 c.o.a,I4 c.o.b,I4 c.o.c,.bool c.has,I4 c.n.a,I4 c.n.b,I4 c.n.c,.pointer p1,.pointer p2,I4 (mQ q (bfQ q c)),I4 (mQ q (afQ q c))]) (FZ q c p1 p2 (mQ q (bfQ q c)) (mQ q (afQ q c)))) ?_;rintro _ _ ⟨be,rfl,rfl⟩;refine Za Y<|Za Y<|Z0<|Zx<|Zq<|Zq<|Zg<|Zh 7 underlying151 rfl rfl sizeOf77 Y<|Zv (BH (off:=0) underlying77 rfl rfl sizeOf3 Y)<|Zl isAgg3 Y ?_;refine Zh 0 underlying151 rfl rfl sizeOf30 Y<|Zv (BH (off:=6) underlying30 rfl rfl sizeOf3 Y)<|Zl isAgg3 Y ?_;refine Zv (CG Y Y)<|Z0<|Zx ?_;refine Ao Y (fun hot=>?_) (fun hot=>?_)
 ·
  refine Zq<|Zg<|Zh 7 underlying151 rfl rfl sizeOf77 Y<|Zo Wh (Pa #[I4 c.t,I4 c.k,.bool c.had,I4 c.o.a,I4 c.o.b,I4 c.o.c,.bool c.has,I4 c.n.a,I4 c.n.b,I4 c.n.c] isAgg77 sizeOf77 Y) ?_;refine Xr [_] Y call108 Y rfl (Q6 c) ?_;obtain ⟨y9,hy9⟩:∃y,y=EM c c.has c.n:=⟨_,rfl⟩;rw [←hy9];refine Zm Y<|Zd Y rfl<|Zd Y rfl<|Ze (Al zeroValue113 #[_,_,_,_,_]) ?_;rintro _ _ ⟨by9,rfl,rfl⟩;refine Xe (Xw sizeOf113 #[I4 y9.t,I4 y9.k,I4 y9.v.a,I4 y9.v.b,I4 y9.v.c]) ?_;refine Za Y<|Z0<|Zn [1,2,6,7] ?_;refine Zx<|Zq<|Zq<|Zg<|Zm Y<|Zv (CZ Y)<|Z0<|Zx ?_;refine Af Y (fun hh=>?_) (fun hh=>?_)
  ·
   have hh9:c.has=false:=by simpa using hh
   refine Zq<|BJ (n:=8) (0::0::3::0::8::24::7::127::[]) 4 (by kernel_rfl) (by kernel_rfl) rfl ?_;refine Zi 1 0 rfl (AJ Y)<|Zi 3 1 rfl (Bo (vs:=[]) (us:=[_]) Y Y) ?_;refine Zi 11 3 rfl (AX (off:=7) underlying151 rfl rfl sizeOf77 Y)<|Zi 27 4 rfl (BH (off:=2) underlying77 rfl rfl sizeOf4 Y)<|Zj 59 5 rfl isAgg4 Y ?_;refine Zz (l:=[2]) ?_;refine Zy 3 63 [5] [true] [(5,(_,_))] rfl Y rfl rfl rfl rfl (Zw [_,_] Y call267 Y rfl (M0 (B:=[(be,.cells #[I4 q.kd,I4 q.tb,I4 q.cl,I4 q.lo,I4 q.hi,I4 q.bq,I4 q.ot,I4 c.t,I4 c.k,.bool c.had,I4 c.o.a,I4 c.o.b,I4 c.o.c,.bool c.has,I4 c.n.a,I4 c.n.b,I4 c.n.c,.pointer p1,.pointer p2,I4 (mQ q (bfQ q c)),I4 (mQ q (afQ q c))] 151 (0,0))]) hU (by omega) 268 [I5 be] (GZ c.k) call268 (Ud fun x=>nM q c p1 p2 (mQ q (bfQ q c)) (mQ q (afQ q c)) be x))) ?hk_1 Ck ?hl_1
   case hk_1=>
    rintro _ _ ⟨_,⟨s9,h9,rfl⟩,rfl⟩;refine ⟨Zk (Ad),?_⟩;obtain ⟨g9,c9,rfl⟩:=h9.form;refine Zi 127 6 rfl (Ay Y)<|Zi 255 7 rfl (Ay Y)<|Am ?_;refine Zx<|A9<|Zt<|Zt ?_;refine Dc rfl results234 Y Y (by
     have e8:jnT q c ps=(ps.filter fun p=>!GZ c.k p,c.had):=by unfold jnT;rw [if_pos hot,if_neg (by rw [hh9];decide)]
     exact ⟨.slice g9 _ c9,s9,by rw [e8],by rw [e8];exact h9,rfl⟩)
   exact Ar
  have hh9:c.has=true:=by simpa using hh
  rw [nP hh9]at hy9;refine AB<|Zx<|Zq<|Zq<|Zg<|Zm Y<|Zv (AU underlying282 Y)<|Zm Y<|Z0<|Zx<|AQ<|Zb [35,1,2,6,34] ?_;refine Az (e0:=[(35,_)]) (fun m e H=>∃(i:Nat) (sk:List AR),m=ps.length -i∧(i≤ps.length∧BV 10 284 (.slice pl ps.length capl) ps.length (Aj (MW c ps i)) sk)∧e=[(35,I4 (i:Int))]∧H=[sk]) (by exact ⟨0,sl,rfl,⟨tY _,hl⟩,rfl,rfl⟩) Wp ?_;rintro _ _ _ ⟨i,sk,rfl,⟨hi,hsk⟩,rfl,rfl⟩;refine Zq<|Zg<|Zv (Aq Y Y)<|Z0<|Zx<|Zq ?_;refine Ao Y (fun hlt=>?_) (fun hlt=>?_)
  ·
   obtain ⟨p,hp⟩:∃p,ps[i]?=some p:=⟨_,tF hlt⟩;obtain ⟨g,cap9,cur,z,hv9,rfl,hle9,hin9⟩:=Df hsk (by omega);injection hv9 with hv1 hv2 hv3
   subst hv1 hv3;obtain ⟨_,hcs9,_,hcm9,hfr9⟩:=JE hsk;obtain ⟨h6,hsz9,_⟩:=Oi hin9 (UY hp);refine AB<|Zx<|Zq<|AQ<|Zq<|Zg<|Zm Y<|Za Y<|Z0<|Zx<|Zq<|BJ (n:=10) (0::0::3::7::15::31::0::64::192::511::[]) 0 (by kernel_rfl) (by kernel_rfl) rfl ?_;refine Zi 1 0 rfl (AJ Y)<|Zi 3 1 rfl (AJ Y) ?_;refine Zi 7 2 rfl (AZ underlying282 sizeOf284 Y Y (by first|omega|decide|(simp;done))) ?_;refine Zi 15 3 rfl (BH (off:=5) underlying284 rfl rfl sizeOf113 Y)<|Zi 31 4 rfl (BH (off:=1) underlying113 rfl rfl sizeOf3 Y)<|Zj 63 5 rfl isAgg3 Y (hv:=by exact h6) ?_;refine Zi 127 6 rfl (AX (off:=7) underlying151 rfl rfl sizeOf77 Y)<|Zi 255 7 rfl (BH (off:=1) underlying77 rfl rfl sizeOf3 Y)<|Zj 511 8 rfl isAgg3 Y ?_;refine Zi 1023 9 rfl (CG Y Y)<|Am ?_;refine Zn [1,2,6,8,34,35,47] ?_;refine Zx ?_;refine Ao Y (fun hk=>?_) (fun hk=>?_)
   ·
    have e9:MW c ps (i+1)=(MW c ps i).set i ⟨p.l,y9⟩:=by rw [TU hp,if_pos (by unfold GZ;simp [hk]),hy9]
    have hsk2:=BO (xs':=Aj (MW c ps (i+1))) (EH (i:=0+i*10+5) (ys:=Ac [y9]) hsk (by rw [BD,BF,tT,jL c ps i hi];omega)) rfl (by rw [e9];exact bV (UY hp) y9);refine Zg<|Zm Y<|Zm Y<|Zo Wh (Pa #[I4 y9.t,I4 y9.k,I4 y9.v.a,I4 y9.v.b,I4 y9.v.c] isAgg113 sizeOf113 Y) ?_;refine BM (AZ underlying282 sizeOf284 Y Y (by first|omega|decide|(simp;done))) ?_;refine Zv (BH (off:=5) underlying284 rfl rfl sizeOf113 Y)<|Xe (BP sizeOf113 Y Y (by(simp [Value.oneCell'];done)) Wu (by exact (rfl:_=Eg cur (0+i*10+5) (Ac [y9]))) (by first|rfl|(simp;done)) Wb (by exact hfr9)) ?_;refine Z0<|A8<|Zx<|Zg<|Ya (n:=1) Y Y<|Zm Y<|Z0<|Zn [35,1,2,6,34] ?_;refine Ab (e':=[(35,_)]) (by exact ⟨i+1,_,rfl,⟨by omega,hsk2⟩,rfl,rfl⟩)
   have e9:MW c ps (i+1)=MW c ps i:=by rw [TU hp,if_neg (by unfold GZ;simp [hk]),gZ (UY hp)]
   have hsk2:=hsk;rw [←e9]at hsk2;refine AB<|A8<|Zx<|Zg<|Ya (n:=1) Y Y<|Zm Y<|Z0<|Zn [35,1,2,6,34] ?_;refine Ab (e':=[(35,_)]) (by exact ⟨i+1,_,rfl,⟨by omega,hsk2⟩,rfl,rfl⟩)
  have ei:i=ps.length:=by omega
  subst ei;rw [jM]at hsk;refine Au<|Zt<|Zt<|AO<|Zx<|Zq<|BJ (n:=6) (0::0::2::6::1::31::[]) 0 (by kernel_rfl) (by kernel_rfl) rfl ?_;refine Zi 1 0 rfl (AJ Y)<|Zi 3 1 rfl (AX (off:=7) underlying151 rfl rfl sizeOf77 Y)<|Zi 7 2 rfl (BH (off:=2) underlying77 rfl rfl sizeOf4 Y)<|Zj 15 3 rfl isAgg4 Y ?_;refine Zi 31 4 rfl (Ay Y)<|Zi 63 5 rfl (Ay Y)<|Am ?_;refine Zx<|A9<|Zt ?_;refine Dc rfl results234 Y Y (by
   have e8:jnT q c ps=(ps.map fun p=>if GZ c.k p then⟨p.l,⟨c.t,c.k,c.n⟩⟩else p,c.had):=by unfold jnT;rw [if_pos hot,if_pos hh9]
   exact ⟨.slice pl ps.length capl,sk,by rw [e8],by rw [e8];exact BO hsk (tK _).symm rfl,rfl⟩)
 refine AB<|Zx<|Zq<|Zg<|Zm Y<|Zv (Bo (vs:=[]) (us:=[_]) Y Y) ?_;refine Zc [_,_] Y call267 Y rfl (M0 (B:=[(be,.cells #[I4 q.kd,I4 q.tb,I4 q.cl,I4 q.lo,I4 q.hi,I4 q.bq,I4 q.ot,I4 c.t,I4 c.k,.bool c.had,I4 c.o.a,I4 c.o.b,I4 c.o.c,.bool c.has,I4 c.n.a,I4 c.n.b,I4 c.n.c,.pointer p1,.pointer p2,I4 (mQ q (bfQ q c)),I4 (mQ q (afQ q c))] 151 (0,0))]) hU (by omega) 269 [I5 be] (OW c.k) call269 (Ud fun x=>nL q c p1 p2 (mQ q (bfQ q c)) (mQ q (afQ q c)) be x)) ?_;rintro _ _ ⟨_,⟨s9,h9,rfl⟩,rfl⟩;obtain ⟨g9,c9,rfl⟩:=h9.form;refine Za Y<|Z0<|Zn [1,2,9] ?_;refine Zx<|Zq<|Zq<|Zg<|Zh 18 underlying151 rfl rfl sizeOf149 Y<|Zl isAgg149 Y ?_;refine Zv (MU underlying149 Y Y)<|Z0<|Zx ?_;refine Af Y (fun hp2=>?_) (fun hp2=>?_)
 ·
  have hy:afQ q c=none:=by have h8:=h2.some_;cases h7:afQ q c with|none=>rfl|some y=>(rw [h7]at h8;cases p2<;>simp at hp2 h8)
  refine Zq<|Zg<|Zm Y<|Za Y<|Za Y<|Z0<|Zx<|A9<|Zt ?_;refine Dc rfl results234 Y Y (by
   have e8:jnT q c ps=(ps.filter fun p=>!OW c.k p,true):=by unfold jnT;rw [if_neg hot,hy]
   exact ⟨.slice g9 _ c9,s9,by rw [e8],by rw [e8];exact h9,rfl⟩)
 obtain ⟨y,hy⟩:∃y,afQ q c=some y:=xN.1 (by rw [←h2.some_];cases p2<;>simp at hp2⊢);rw [hy]at h2;obtain ⟨b2,rfl,rfl⟩:=h2;refine AB<|Zx<|Zq<|Zg<|Zm Y<|Zv (Bo (vs:=[]) (us:=[_]) Y Y) ?_;refine Xr [_,_] Y call270 Y rfl (L8 (B:=[(be,.cells #[I4 q.kd,I4 q.tb,I4 q.cl,I4 q.lo,I4 q.hi,I4 q.bq,I4 q.ot,I4 c.t,I4 c.k,.bool c.had,I4 c.o.a,I4 c.o.b,I4 c.o.c,.bool c.has,I4 c.n.a,I4 c.n.b,I4 c.n.c,.pointer p1,I5 b2,I4 (mQ q (bfQ q c)),I4 (mQ q (afQ q c))] 151 (0,0))]) hU 271 [I5 be] (GZ (mQ q (afQ q c))) call271 (Ud fun x=>nK q c p1 (some ⟨b2,0,none⟩) (mQ q (bfQ q c)) (mQ q (afQ q c)) be x)) ?_;have hcs9:=Qv (GZ (mQ q (afQ q c))) ps
 obtain ⟨z9,hz9⟩:∃z,z=GQ (GZ (mQ q (afQ q c))) ps:=⟨_,rfl⟩;rw [←hz9]at hcs9⊢;refine Za Y<|Z0<|Zx<|Zq<|Zq<|Zg<|Zm Y<|Zv (Ee Y Y)<|Z0<|Zx ?_;refine Ao Y (fun hlt=>?_) (fun hlt=>?_)
 ·
  have e8:jnT q c ps=(ps.filter fun p=>!OW c.k p,(bfQ q c).isSome&&decide (mQ q (bfQ q c)=mQ q (afQ q c))):=by unfold jnT;rw [if_neg hot];split;rename_i h7;rw [hy]at h7;cases h7;rw [if_pos (by rw [←hz9];exact hlt)]
  refine Zq<|BJ (n:=13) (0::0::2::6::14::30::62::30::158::510::1022::31::4095::[]) 0 (by kernel_rfl) (by kernel_rfl) rfl ?_;refine Zi 1 0 rfl (AJ Y)<|Zi 3 1 rfl (AX (off:=17) underlying151 rfl rfl sizeOf149 Y)<|Zj 7 2 rfl isAgg149 Y ?_;refine Zi 15 3 rfl (Ec underlying149 Y Y)<|Zi 31 4 rfl (AJ Y) ?_;refine CJ (t:=74) Y (fun h1=>?_) (fun h1=>?_)
  ·
   first|rw [decide_eq_true h1]|rw [h1]|skip
   refine Ag (D':=63) 5 Y rfl rfl rfl (AX (off:=19) underlying151 rfl rfl sizeOf3 Y) ?_;refine Be (D':=127) 6 Y rfl rfl rfl Wh (Bg isAgg3 Y (by rfl)) ?_;refine Ag (D':=255) 7 Y rfl rfl rfl (AX (off:=20) underlying151 rfl rfl sizeOf3 Y) ?_;refine Be (D':=511) 8 Y rfl rfl rfl Wh (Bg isAgg3 Y (by rfl)) ?_;refine Ag (D':=1023) 9 Y rfl rfl rfl (CG Y Y) ?_;refine Zi 2047 10 rfl (AL Y Y)<|Zi 4095 11 rfl (Ay Y)<|Zi 8191 12 rfl (Ay Y)<|Am ?_;refine Zn [4,5] ?_;refine Zx<|A9<|Zt ?_;refine Dc rfl results234 Y Y (by exact ⟨.slice g9 _ c9,s9,by rw [e8,←e1,h1];rfl,by rw [e8];exact h9,rfl⟩)
  first|rw [decide_eq_false h1]|rw [h1]|skip
  refine Yk 63 5 rfl<|Yk 127 6 rfl<|Yk 255 7 rfl<|Yk 511 8 rfl<|Yk 1023 9 rfl<|Zi 2047 10 rfl (AA Y Y)<|Zi 4095 11 rfl (Ay Y)<|Zi 8191 12 rfl (Ay Y)<|Am ?_;refine Zn [4,5] ?_;refine Zx<|A9<|Zt ?_;refine Dc rfl results234 Y Y (by exact ⟨.slice g9 _ c9,s9,by rw [e8,←e1,h1];rfl,by rw [e8];exact h9,rfl⟩)
 rcases hcs9 with⟨h7,_⟩|⟨k,p,h7,hp,_,_⟩
 · exact absurd h7 (by omega)
 subst h7;have e8:jnT q c ps=((NT (fun p=>J6 q y p.l) (ps.filter fun p=>!OW c.k p) ⟨y,p.r⟩),true):=by
  unfold jnT;rw [if_neg hot];split
  · rename_i h7;rw [hy]at h7;cases h7
  · rename_i y0 h7;rw [hy]at h7;injection h7 with h7;subst h7;rw [←hz9,if_neg (by omega),vY,uY,hp];rfl
 have hk:=(tH.1 hp).1;obtain ⟨g,cap9,cur,z,hv9,rfl,hle9,hin9⟩:=Df hl (by omega);injection hv9 with hv1 hv2 hv3
 subst hv1 hv3;obtain ⟨_,hsz9,hex9⟩:=Oi hin9 hp;refine AB<|Zx<|Zq<|Zg<|Zo Wh (AY isAgg151 sizeOf151 Y Wb (by exact Av rfl)) ?_;refine Zc [_] Y call232 Y rfl (PG q hcl c p1 (mQ q (bfQ q c)) (mQ q (afQ q c)) y b2) ?_;rintro _ _ ⟨_,⟨b8,b9,rfl,rfl⟩,rfl⟩;refine Ze (Al zeroValue191 #[_]) ?_;rintro _ _ ⟨bb,rfl,rfl⟩;refine Xe (Zs sizeOf191 Y Y rfl (hc:=by exact (rfl:_=(#[.func (.func 266) #[] ([I5 b8,I5 b9]:List Value).toArray]:Array Value))) (hi:=by first|omega|decide|(simp;done))) ?_;refine Z0<|Zn [1,2,9,10,11] ?_;refine Zx<|Zq<|JQ (s1:=[(bb,_)]) (s2:=_++_++[(b2,_)]) Wo Wo ?_;refine BJ (n:=15) (0::0::2::6::14::0::0::96::224::480::1022::0::4095::8191::16383::[]) 4096 (by kernel_rfl) (by kernel_rfl) rfl ?_;refine Zi 1 0 rfl (AJ Y)<|Zi 3 1 rfl (AX (off:=18) underlying151 rfl rfl sizeOf149 Y)<|Zj 7 2 rfl isAgg149 Y ?_;refine Zi 15 3 rfl (E5 Y rfl)<|Fs (b:=b2) (x:= .cells #[I4 y.t,I4 y.k,I4 y.v.a,I4 y.v.b,I4 y.v.c] 113 (0,0)) (D':=31) 4 rfl rfl rfl (by simp) (AY (cs:=#[I4 y.t,I4 y.k,I4 y.v.a,I4 y.v.b,I4 y.v.c]) isAgg113 sizeOf113 Y (by first|decide|exact tQ _|(simp;done)) (by rfl)) ?_;refine Zi 63 5 rfl (AJ Y)<|Zi 127 6 rfl (AJ Y) ?_;refine Zi 255 7 rfl (AZ underlying282 sizeOf284 Y Y (by first|omega|decide|(simp;done))) ?_;refine Zi 511 8 rfl (BH (off:=5) underlying284 rfl rfl sizeOf113 Y)<|DU (D':=1023) 9 rfl rfl rfl Wh (AY (cs:=#[I4 p.r.t,I4 p.r.k,I4 p.r.v.a,I4 p.r.v.b,I4 p.r.v.c]) isAgg113 sizeOf113 Y Wb (by exact hex9)) ?_;refine Zi 2047 10 rfl (BK (vs:=[(0,.agg #[I4 y.t,I4 y.k,I4 y.v.a,I4 y.v.b,I4 y.v.c]),(1,.agg #[I4 p.r.t,I4 p.r.k,I4 p.r.v.a,I4 p.r.v.b,I4 p.r.v.c])]) (cs:=#[I4 y.t,I4 y.k,I4 y.v.a,I4 y.v.b,I4 y.v.c,I4 p.r.t,I4 p.r.k,I4 p.r.v.a,I4 p.r.v.b,I4 p.r.v.c]) Y (Aa (pl:=#[(0,5),(5,5)]) zeroValue284 underlying284 (fun _=>by kernel_rfl) (by kernel_rfl))) ?_;refine Zi 4095 11 rfl (Bo (vs:=[]) (us:=[_]) Y Y) ?_;refine Zz (l:=[12]) ?_
 refine Zy 4095 8191 [9,4,2] [false,false,false] [] rfl Y rfl rfl rfl rfl (Zw [_,_,_] Y call272 Y rfl (Qs h9 (by omega) ⟨y,p.r⟩ 273 [I5 bb] (fun p=>J6 q y p.l) call273 (fun x=>pV 266 ([I5 b8,I5 b9]:List Value) (J6 q y) call266 (fun x=>XC q hcl c p1 (mQ q (bfQ q c)) (mQ q (afQ q c)) y b2 b8 b9 x) bb x))) ?hk_10 Ck ?hl_10
 case hk_10=>
  rintro _ _ ⟨_,⟨s5,s6,h5,rfl⟩,rfl⟩;refine ⟨Ad,?_⟩;obtain ⟨g5,c5,rfl⟩:=h5.form;refine Zi 16383 13 rfl (Ay Y)<|Zi 32767 14 rfl (Ay Y)<|Am ?_;refine Zn [4,5] ?_;refine Zx<|A9 ?_;refine Dc rfl results234 Y Y (by exact ⟨.slice g5 _ c5,s5,by rw [e8],by rw [e8];exact h5,rfl⟩)
 exact Ar
theorem Xq(q:QM)(c:Chg)(r:CO):(Cv q c r).1.val=r.val:=by unfold Cv;split<;>rfl
theorem Xt(q:QM)(c:Chg)(r:CO):(Cv q c r).1.rows.length≤r.rows.length+2:=by
 unfold Cv;split
 · exact y8 _ _
 · show(DL _).length≤_
   have h:=aJ q c (Eh r.rows);rw [Jj]at h;rw [Gx];omega
theorem aP{cur:Array Value}{rs:List AP}{k:Nat}{x:AP}(hin:Bw cur 0 (Ac rs))(hx:rs[k]?=some x):k*5+5≤cur.size∧cur.extract (0+k*5) (0+k*5+5)=#[I4 x.t,I4 x.k,I4 x.v.a,I4 x.v.b,I4 x.v.c]:=Wj hin hx
theorem kK{cur:Array Value}{rs:List BU}{k:Nat}{x:BU}(hin:Bw cur 0 (Aj rs))(hx:rs[k]?=some x):k*10+10≤cur.size∧cur.extract (0+k*10) (0+k*10+10)=#[I4 x.l.t,I4 x.l.k,I4 x.l.v.a,I4 x.l.v.b,I4 x.l.v.c,I4 x.r.t,I4 x.r.k,I4 x.r.v.a,I4 x.r.v.b,I4 x.r.v.c]:=Tk hin hx
set_option maxHeartbeats 1000000 in
theorem Xl(q:QM)(hcl:0≤q.cl∧q.cl≤3)(c:Chg)(p1 p2:Option Addr){s2:List AR}(e1:p1.isSome=(bfQ q c).isSome)(h2:IB p2 (afQ q c) s2){r:CO}{rv:Value}{sr:List AR}(hr:BV 5 113 rv r.rows.length (Ac r.rows) sr)(hn:r.rows.length≤100000000):CF Tryz.prog 176 #[.agg #[I4 q.kd,I4 q.tb,I4 q.cl,I4 q.lo,I4 q.hi,I4 q.bq,I4 q.ot,I4 c.t,I4 c.k,.bool c.had,I4 c.o.a,I4 c.o.b,I4 c.o.c,.bool c.has,I4 c.n.a,I4 c.n.b,I4 c.n.c,.pointer p1,.pointer p2,I4 (mQ q (bfQ q c)),I4 (mQ q (afQ q c))],.agg #[rv,I4 r.val,.bool r.fnd]] [sr,s2] (fun w H'=>∃rv' s',w= .tuple #[.agg #[rv',I4 (Cv q c r).1.val,.bool (Cv q c r).1.fnd],.bool (Cv q c r).2]∧BV 5 113 rv' (Cv q c r).1.rows.length (Ac (Cv q c r).1.rows) s'∧H'=[s']):=by
 have hml:=mL;obtain ⟨pv,cv,rfl⟩:=hr.form;refine Se func176 ntmps176 [0,1] ?_;intro u R;refine Zq<|Zg<|Ze (H8 Y (cs:=#[I4 q.kd,I4 q.tb,I4 q.cl,I4 q.lo,I4 q.hi,I4 q.bq,I4 q.ot,I4 c.t,I4 c.k,.bool c.had,I4 c.o.a,I4 c.o.b,I4 c.o.c,.bool c.has,I4 c.n.a,I4 c.n.b,I4 c.n.c,.pointer p1,.pointer p2,I4 (mQ q (bfQ q c)),I4 (mQ q (afQ q c))]) (FZ q c p1 p2 (mQ q (bfQ q c)) (mQ q (afQ q c)))) ?_;rintro _ _ ⟨be,rfl,rfl⟩;refine Ze (Bx #[.slice pv r.rows.length cv,I4 r.val,.bool r.fnd]) ?_;rintro _ _ ⟨br,rfl,rfl⟩;refine Ze (Al zeroValue51 #[_,_,_]) ?_;rintro _ _ ⟨bo,rfl,rfl⟩;refine Za Y<|Z0<|Zx<|Zq<|Zq<|Zg<|Zh 0 underlying151 rfl rfl sizeOf30 Y<|Zv (BH (off:=1) underlying30 rfl rfl sizeOf3 Y)<|Zl isAgg3 Y ?_;refine Zh 0 underlying151 rfl rfl sizeOf30 Y<|Zv (BH (off:=6) underlying30 rfl rfl sizeOf3 Y)<|Zl isAgg3 Y ?_;refine Zv (CG Y Y)<|Z0<|Zx ?_;refine Ao Y (fun hto=>?_) (fun hto=>?_)
 ·
  refine Zq<|Zg<|Zo Wh (Pa #[_,_,_] isAgg51 sizeOf51 Y) ?_;refine Xe (Xw sizeOf51 _) ?_;refine Za Y<|Z0<|Zn [4,5] ?_;refine Zx<|A9<|Zt ?_;refine Bb rfl results176 Y Wh (Ah isAgg51 sizeOf51 Wn (rfl)) Y (by
   have e8:Cv q c r=(r,false):=by unfold Cv;rw [if_pos hto]
   exact ⟨.slice pv r.rows.length cv,sr,by rw [e8];rfl,by rw [e8];exact hr,rfl⟩)
 refine AB<|Zx<|Zq<|Zg<|Za Y<|Z0<|Zx<|Zq<|Zq<|Bd ?_;refine Zg<|Za Y<|Z0<|Zn [2,3,4,6,7] ?_;refine Zx<|AQ<|Zb [6,7,2,3,4] ?_;refine Az (e0:=[(6,_),(7,_)]) (fun m e H=>∃(k:Nat) (gk:Option Addr) (ck:Nat) (sk:List AR),m=r.rows.length -k∧(k≤r.rows.length/2∧BV 10 284 (.slice gk k ck) k (Aj ((Eh r.rows).take k)) sk)∧e=[(6,.slice gk k ck),(7,I4 ((2*k:Nat):Int))]∧H=[sk]) (by exact ⟨0,none,0,[],rfl,⟨tY _,BX 10 _⟩,rfl,rfl⟩) Wp ?_;rintro _ _ _ ⟨k,gk,ck,sk,rfl,⟨hk,hsk⟩,rfl,rfl⟩;refine Zq<|Zq<|Bd ?_;refine Zg<|Zm Y<|Ya (n:=1) Y Y<|Zh 0 underlying51 rfl rfl sizeOf45 Y<|Zl isAgg45 Y ?_;refine Zv (AU underlying45 Y)<|Zv (Aq Y Y)<|Z0<|Zx ?_;refine Ao Y (fun hlt=>?_) (fun hlt=>?_)
 ·
  obtain ⟨x,hx⟩:∃x,r.rows[2*k]?=some x:=⟨_,tF (by omega)⟩;obtain ⟨y,hy⟩:∃y,r.rows[2*k+1]?=some y:=⟨_,tF (by omega)⟩;obtain ⟨g,cap9,cur,z,hv9,rfl,hle9,hin9⟩:=Df hr (by omega);injection hv9 with hv1 hv2 hv3
  subst hv1 hv3;obtain ⟨hszx,hexx⟩:=aP hin9 hx;obtain ⟨hszy,hexy⟩:=aP hin9 hy;refine AB<|Zx<|Zq<|AQ<|BJ (n:=16) (0::0::2::0::14::30::0::64::0::256::960::1984::4094::8190::16383::32767::[]) 24576 (by kernel_rfl) (by kernel_rfl) rfl ?_;refine Zi 1 0 rfl (AJ Y)<|Zi 3 1 rfl (AX (off:=0) underlying51 rfl rfl sizeOf45 Y)<|Zj 7 2 rfl isAgg45 Y ?_;refine Zi 15 3 rfl (AJ Y) ?_;refine Zi 31 4 rfl (AZ underlying45 sizeOf113 Y Y (by first|omega|decide|(simp;done))) ?_;refine DU (D':=63) 5 rfl rfl rfl Wh (AY (cs:=#[_,_,_,_,_]) isAgg113 sizeOf113 Y Wb (by exact hexx)) ?_;refine Zi 127 6 rfl (AX (off:=0) underlying51 rfl rfl sizeOf45 Y)<|Zj 255 7 rfl isAgg45 Y ?_;refine Zi 511 8 rfl (AJ Y) ?_;refine Zi 1023 9 rfl (D9 (n:=1) Y Y (by omega)) ?_;refine Zi 2047 10 rfl (AZ underlying45 sizeOf113 Y Y (by first|omega|decide|(simp;done))) ?_;refine DU (D':=4095) 11 rfl rfl rfl Wh (AY (cs:=#[_,_,_,_,_]) isAgg113 sizeOf113 Y Wb (by exact hexy)) ?_;refine Zi 8191 12 rfl (BK (vs:=[(0,.agg #[I4 x.t,I4 x.k,I4 x.v.a,I4 x.v.b,I4 x.v.c]),(1,.agg #[I4 y.t,I4 y.k,I4 y.v.a,I4 y.v.b,I4 y.v.c])]) (cs:=#[I4 x.t,I4 x.k,I4 x.v.a,I4 x.v.b,I4 x.v.c,I4 y.t,I4 y.k,I4 y.v.a,I4 y.v.b,I4 y.v.c]) Y (Aa (pl:=#[(0,5),(5,5)]) zeroValue284 underlying284 (fun _=>by kernel_rfl) (by kernel_rfl))) ?_;refine Yw 13 16383 rfl (Ae (vs:=[_]) (cs:=[_,_,_,_,_,_,_,_,_,_]) underlying282 sizeOf284 zeroValue284 Y rfl rfl rfl rfl rfl) ?_;rintro _ _ ⟨gp,rfl,rfl⟩;refine Yw 14 32767 rfl (BQ (by_:=80) (sz:=10) underlying282 (rfl:Tryz.prog.info? 284=some Tryz.t284) rfl rfl rfl rfl Y (hsk) Y (DW 10 gp 1 1 284 (0,0) (Aj [⟨x,y⟩]) rfl) Wo Wo (by exact EZ _) (by omega) (by omega)) ?_;rintro _ _ ⟨sw6,hrw6,rfl⟩;obtain ⟨gw6,cw6,rfl⟩:=hrw6.form;refine Zi 65535 15 rfl (Ay Y)<|Am ?_;refine Zn [2,3,4,6,7] ?_;refine A8<|Zx<|Bd ?_;refine Zg<|Zm Y<|Ya (n:=2) Y Y<|Za Y<|Z0<|Zn [6,7,2,3,4] ?_;refine Ab (e':=[(6,_),(7,_)]) (by exact ⟨k+1,gw6,cw6,sw6,rfl,⟨by omega,BO hrw6 rfl (by rw [Bp (iX hx hy),Cz])⟩,rfl,rfl⟩)
 have ek:k=(Eh r.rows).length:=by rw [Jj];omega
 have hskL:=BO hsk ek (by rw [ek,uQ]);refine Au<|Zt<|Zt<|AO<|Zx<|Zq<|Zg<|Zo Wh (AY isAgg151 sizeOf151 Y Wb (by exact Av rfl)) ?_;refine Zm Y<|Zc [_,_] Y call234 Y rfl (YE q hcl c p1 p2 e1 h2 hskL (by rw [Jj];omega)) ?_;rintro _ _ ⟨_,⟨lv,s5,rfl,h5,rfl⟩,rfl⟩;have e8:Cv q c r=(⟨DL (jnT q c (Eh r.rows)).1,r.val,r.fnd⟩,(jnT q c (Eh r.rows)).2):=by unfold Cv;rw [if_neg hto]
 have hL9:=aJ q c (Eh r.rows);rw [Jj]at hL9;obtain ⟨L,hL⟩:∃L,L=(jnT q c (Eh r.rows)).1:=⟨_,rfl⟩;rw [←hL]at h5 e8 hL9;obtain ⟨g5,c5,rfl⟩:=h5.form;refine Zm Y<|Zd Y rfl<|Zd Y rfl<|Za Y<|Za Y<|Z0<|Zn [3,4,6,8] ?_;refine Zx<|Zq<|Zg<|Zh 0 underlying51 rfl rfl sizeOf45 Y<|Xe (Zs sizeOf45 Y Y rfl (hc:=by exact (rfl:_=(#[.slice none 0 0,I4 r.val,.bool r.fnd]:Array Value))) (hi:=by first|omega|decide|(simp;done))) ?_;refine Z0<|Zx<|Zq<|Zq<|Bd ?_;refine Zg<|Zm Y<|Zv (AU underlying282 Y)<|Zm Y<|Z0<|Zx<|AQ<|Zb [51,3,4,8,49,50] ?_;refine Az (e0:=[(51,_)]) (fun m e H=>∃(k:Nat) (gk:Option Addr) (ck:Nat) (sk:List AR),m=L.length -k∧(k≤L.length∧BV 5 113 (.slice gk (2*k) ck) (2*k) (Ac (DL (L.take k))) sk)∧e=[(51,I4 (k:Int))]∧H=[[(br,.cells #[.slice gk (2*k) ck,I4 r.val,.bool r.fnd] 51 (0,0))],sk]) (by exact ⟨0,none,0,[],rfl,⟨tY _,BX 5 _⟩,rfl,rfl⟩) Wp ?_;rintro _ _ _ ⟨k,gk,ck,sk,rfl,⟨hk,hsk⟩,rfl,rfl⟩;refine Zq<|Bd ?_;refine Zg<|Zv (Aq Y Y)<|Z0<|Zx<|Zq ?_;refine Ao Y (fun hlt=>?_) (fun hlt=>?_)
 ·
  obtain ⟨p,hp⟩:∃p,L[k]?=some p:=⟨_,tF hlt⟩;obtain ⟨g,cap9,cur,z,hv9,rfl,hle9,hin9⟩:=Df h5 (by omega);injection hv9 with hv1 hv2 hv3
  subst hv1 hv3;obtain ⟨hszp,hexp⟩:=kK hin9 hp;refine AB<|Zx<|Zq<|AQ<|Zq<|Bd ?_;refine Zg ?_;refine BM (AZ underlying282 sizeOf284 Y Y (by first|omega|decide|(simp;done))) ?_;refine Zo Wh (AY (cs:=#[_,_,_,_,_,_,_,_,_,_]) isAgg284 sizeOf284 Y Wb (by exact hexp)) ?_;refine Ze (Al zeroValue284 #[_,_,_,_,_,_,_,_,_,_]) ?_;rintro _ _ ⟨bp,rfl,rfl⟩;refine Xe (Xw sizeOf284 #[I4 p.l.t,I4 p.l.k,I4 p.l.v.a,I4 p.l.v.b,I4 p.l.v.c,I4 p.r.t,I4 p.r.k,I4 p.r.v.a,I4 p.r.v.b,I4 p.r.v.c]) ?_;refine Z0<|Zx<|Zg<|Zh 0 underlying51 rfl rfl sizeOf45 Y<|Zl isAgg45 Y ?_;refine Zh 0 underlying284 rfl rfl sizeOf113 Y<|Zo Wh (Pa #[_,_,_,_,_] isAgg113 sizeOf113 Y) ?_;refine Zh 5 underlying284 rfl rfl sizeOf113 Y<|Zo Wh (Pa #[_,_,_,_,_] isAgg113 sizeOf113 Y) ?_;refine Ze (Ae (vs:=[_,_]) (cs:=[_,_,_,_,_,_,_,_,_,_]) underlying45 sizeOf113 zeroValue113 Y rfl rfl rfl rfl rfl) ?_;rintro _ _ ⟨gq,rfl,rfl⟩;refine Ze (BQ (by_:=40) (sz:=5) underlying45 (rfl:Tryz.prog.info? 113=some Tryz.t113) rfl rfl rfl rfl Y (hsk) Y (DW 5 gq 2 2 113 (0,0) (Ac [p.l,p.r]) rfl) Wo Wo (by exact CL _) (by omega) (by omega)) ?_;rintro _ _ ⟨sw7,hrw7,rfl⟩;obtain ⟨gw7,cw7,rfl⟩:=hrw7.form;refine Zh 0 underlying51 rfl rfl sizeOf45 Y<|Xe (Zs sizeOf45 Y Y rfl (hc:=by exact (rfl:_=(#[.slice gw7 (2*k+2) cw7,I4 r.val,.bool r.fnd]:Array Value))) (hi:=by first|omega|decide|(simp;done))) ?_;refine Z0<|Zn [3,4,8,49,50,51] ?_;refine A8<|Zx<|Bd ?_;refine Zg<|Ya (n:=1) Y Y<|Zm Y<|Z0<|Zn [51,3,4,8,49,50] ?_;refine Ab (e':=[(51,_)]) (by exact ⟨k+1,gw7,cw7,sw7,rfl,⟨by omega,BO hrw7 rfl (by rw [QC hp,BZ])⟩,rfl,rfl⟩)
 have ek:k=L.length:=by omega
 subst ek;rw [uQ]at hsk;refine Au<|Zt<|Zt<|AO<|Zx<|Zq<|Zg<|Zo Wh (Pa #[_,_,_] isAgg51 sizeOf51 Y) ?_;refine Zm Y<|Xe (Xw sizeOf51 _) ?_;refine Za Y<|Z0<|Zx<|A9 ?_;refine Bb rfl results176 Y Wh (Ah isAgg51 sizeOf51 Wn (rfl)) Y (by exact ⟨.slice gk (2*L.length) ck,sk,by rw [e8];rfl,by rw [e8];exact BO hsk (Gx L).symm rfl,rfl⟩)
end Go.Proofs.YtkdgffcfmgmemaaGreatDoor
