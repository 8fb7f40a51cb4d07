/- Walking Go code over a heap that is told by chunks: the judgement, the rules for code, for regions of fixed order, and for regions that draw their order. No function of the program is named. -/
import Derived.Test.YtlkdhannldcfbaaGreatDoorA0
import Derived.OrdersIn
import Derived.RangeFuncCalls
import Derived.WalkKit
set_option linter.unusedVariables false
set_option linter.unusedSimpArgs false
namespace Gw
open Go Go.RowKit
abbrev AU:=Nat×Obj
abbrev Env:=List (Nat×A4)
abbrev Hp:=List (List AU)
structure Sat(u:A6)(H:Hp)(w:A6):Prop where
 os:w.os=u.os
 tape:w.tape=u.tape
 output:w.output=u.output
 nodup:(H.flatten.map (·.1)).Nodup
 get:∀p∈H.flatten,w.heap[p.1]?=some p.2
theorem Sat.lt{u w:A6}{H:Hp}(h:Sat u H w){p:AU}(g:p∈H.flatten):p.1<w.heap.size:=by
 have:=h.get p g;rcases DP p.1 w.heap.size with h1|h1
 · exact h1
 · simp [I3 h1]at this
theorem Sat.perm{u w:A6}{H H':Hp}(h:Sat u H w)(g:H.flatten.Perm H'.flatten):Sat u H' w:=
 ⟨h.os,h.tape,h.output,(g.map _).nodup_iff.1 h.nodup,fun p m=>h.get p (g.mem_iff.2 m)⟩
def UB(H' H:Hp):Prop:=∃R:List AU,H.flatten.Perm (H'.flatten++R)
theorem Sat.sub{u w:A6}{H H':Hp}(h:Sat u H w)(g:UB H' H):Sat u H' w:=by
 obtain ⟨R,g⟩:=g;refine ⟨h.os,h.tape,h.output,?_,fun p m=>h.get p (g.mem_iff.2 (E3 _ m))⟩;have:=(g.map (·.1)).nodup_iff.1 h.nodup
 rw [Dg]at this;exact (PB.1 this).1
theorem Sat.drew{u w:A6}{H:Hp}(h:Sat u H w):Sat u H {w with drawn:=w.drawn+1}:=⟨h.os,h.tape,h.output,h.nodup,h.get⟩
theorem Sat.drawn{u w:A6}{H:Hp}(h:Sat u H w)(n:Nat):Sat u H {w with drawn:=n}:=⟨h.os,h.tape,h.output,h.nodup,h.get⟩
theorem Sat.below{u w y:A6}{H:Hp}(h:Sat u H w)(g:Below w.heap.size w y):Sat u H y:=
 ⟨g.os.trans h.os,g.tape.trans h.tape,g.output.trans h.output,h.nodup,fun p m=>(g.block p.1 (h.lt m)).trans (h.get p m)⟩
theorem Sat.alloc{u w:A6}{H:Hp}(h:Sat u H w)(o:Obj):Sat u ([(w.heap.size,o)]::H) {w with heap:=w.heap.push o}:=by
 refine ⟨h.os,h.tape,h.output,?_,?_⟩
 · simp only [GP,SD,HJ,ZD]
   refine ⟨fun m=>?_,h.nodup⟩;obtain ⟨p,g,e⟩:=GB.1 m;have:=h.lt g
   omega
 · intro p g
   simp only [GP,SD,E4]at g;rcases g with rfl|g
   · simp
   · have:=h.lt g
     show(w.heap.push o)[p.1]?=_;rw [Array.getElem?_push,As A0];exact h.get p g
inductive One:List AU->Hp->Hp->Prop
 |here (s:List AU) (H:Hp):One s (s::H) H
 |there {s:List AU} {H R:Hp} (t:List AU) (h:One s H R):One s (t::H) (t::R)
inductive FW:Hp->Hp->Hp->Prop
 |nil (H:Hp):FW [] H H
 |cons {s:List AU} {L H H1 R:Hp} (h:One s H H1) (h2:FW L H1 R):FW (s::L) H R
inductive Sub:Hp->Hp->Prop
 |refl (H:Hp):Sub H H
 |nil (H:Hp):Sub [] H
 |drop {L H:Hp} (t:List AU) (h:Sub L H):Sub L (t::H)
 |cons {s:List AU} {L H H1:Hp} (h:One s H H1) (h2:Sub L H1):Sub (s::L) H
inductive Has(b:Nat)(o:Obj):Hp->Prop
 |here (H:Hp):Has b o ([(b,o)]::H)
 |there {H:Hp} (t:List AU) (h:Has b o H):Has b o (t::H)
inductive Upd(b:Nat)(o o':Obj):Hp->Hp->Prop
 |here (H:Hp):Upd b o o' ([(b,o)]::H) ([(b,o')]::H)
 |there {H H':Hp} (t:List AU) (h:Upd b o o' H H'):Upd b o o' (t::H) (t::H')
theorem One.perm{s:List AU}{H R:Hp}(h:One s H R):H.flatten.Perm (s++R.flatten):=by
 induction h with
 |here H=>simp
 |there t h ih=>
  simp only [GP];refine (W6 t ih).trans ?_;rw [<-D2,<-D2];exact List.Perm.append_right _ RE
theorem FW.perm{L H R:Hp}(h:FW L H R):H.flatten.Perm (L++R).flatten:=by
 induction h with
 |nil H=>simp
 |cons h h2 ih=>
  refine h.perm.trans ?_;simp only [TX,GP];exact W6 _ ih
theorem FW.amid{L H R:Hp}(h:FW L H R):UB L H:=⟨R.flatten,by have:=h.perm;rwa [HT]at this⟩
theorem Sub.amid{L H:Hp}(h:Sub L H):UB L H:=by
 induction h with
 |refl H=>exact ⟨[],by simp⟩
 |nil H=>exact ⟨H.flatten,by simp⟩
 |drop t h ih=>
  obtain ⟨R,g⟩:=ih;refine ⟨t++R,?_⟩;simp only [GP];refine (W6 t g).trans ?_;rw [<-D2,<-D2];exact List.Perm.append_right _ RE
 |cons h h2 ih=>
  obtain ⟨R,g⟩:=ih;refine ⟨R,h.perm.trans ?_⟩;simp only [GP,D2];exact W6 _ g
theorem Has.mem{b:Nat}{o:Obj}{H:Hp}(h:Has b o H):(b,o)∈H.flatten:=by
 induction h with
 |here H=>simp
 |there t h ih=>simp only [GP,DM];exact .inr ih
theorem Upd.has{b:Nat}{o o':Obj}{H H':Hp}(h:Upd b o o' H H'):Has b o H:=by
 induction h with
 |here H=>exact .here _
 |there t h ih=>exact .there _ ih
theorem Upd.keys{b:Nat}{o o':Obj}{H H':Hp}(h:Upd b o o' H H'):H'.flatten.map (·.1)=H.flatten.map (·.1):=by
 induction h with
 |here H=>simp
 |there t h ih=>simp only [GP,Dg,ih]
theorem Upd.mem{b:Nat}{o o':Obj}{H H':Hp}(h:Upd b o o' H H')(hn:(H.flatten.map (·.1)).Nodup):∀p∈H'.flatten,(p=(b,o'))\/(p.1≠b/\p∈H.flatten):=by
 induction h with
 |here H=>
  intro p g;simp only [GP,SD,E4]at g;rcases g with rfl|g
  · exact .inl rfl
  · refine .inr ⟨fun e=>?_,by simp [g]⟩
    simp only [GP,SD,HJ,ZD]at hn;exact hn.1 (GB.2 ⟨p,g,e⟩)
 |there t h ih=>
  rename_i H H';intro p g;simp only [GP,Dg]at hn;have m:=PB.1 hn
  simp only [GP,DM]at g⊢;rcases g with g|g
  · refine .inr ⟨fun e=>?_,.inl g⟩
    exact m.2.2 p.1 (O2 g) b (GB.2 ⟨(b,o),h.has.mem,V⟩) e
  · rcases ih m.2.1 p g with h1|h1
    · exact .inl h1
    · exact .inr ⟨h1.1,.inr h1.2⟩
theorem Sat.upd{u w:A6}{H H':Hp}{b:Nat}{o o':Obj}(h:Sat u H w)(m:Upd b o o' H H'){g:A6}(y:g.os=w.os)(h2:g.tape=w.tape)(E:g.output=w.output)
 (G:g.heap[b]?=some o')(I:∀k,k≠b->g.heap[k]?=w.heap[k]?):Sat u H' g:=by
 refine ⟨y.trans h.os,h2.trans h.tape,E.trans h.output,by rw [m.keys];exact h.nodup,fun p J=>?_⟩;rcases m.mem h.nodup p J with rfl|⟨hne,hm⟩
 · exact G
 · rw [I _ hne];exact h.get p hm
def FU(a:Act):Env->Nat->A4
 |[],t=>a.tmps.getD t undef
 |(d,v)::env,t=>cond (Nat.beq t d) v (FU a env t)
def ev(a:Act)(env:Env):Operand->A4
 | .tmp t=>FU a env t
 | .const v=>v
 | .global g=>I5 g
 | .func f=> .func (.func f) #[] #[]
def CS:Env->Act->Act
 |[],a=>a
 |(d,v)::env,a=>(CS env a).put (some d) v
def putE(d:Option Nat)(v:A4)(env:Env):Env:=
 match d with
 |some d=>(d,v)::env
 |none=>env
def yieldE(ops:Array Oper)(a:Act)(env:Env)(g:Nat)(want:Bool):Bool:=
 match(ops[g]?).bind (·.dst)with
 |some t=>match FU a env t with
  | .bool b=>b==want
  |_=>false
 |none=>false
def wantedE(ops:Array Oper)(a:Act)(env:Env):Option (Nat×Bool)->Bool
 |none=>true
 |some (g,want)=>yieldE ops a env g want
theorem ER(a:Act)(d:Option Tmp)(v:A4):(a.put d v).tmps.size=a.tmps.size:=by cases d<;>simp [Act.put]
theorem KE(a:Act)(d:Option Tmp)(v:A4):(a.put d v).defers=a.defers:=by cases d<;>simp [Act.put]
theorem JQ(a:Act)(d:Option Tmp)(v:A4)(t:Nat)(g:t<a.tmps.size):(a.put d v).tmps[t]?=if d=some t then some v else a.tmps[t]?:=by
 cases d with
 |none=>simp [Act.put]
 |some d=>
  simp only [Act.put,en];by_cases e:d=t;· subst e;simp [g]
  · simp [e]
theorem JW{a b:Act}(m:a.tmps.size=b.tmps.size)(g:a.defers=b.defers)(h:∀t,t<a.tmps.size->a.tmps[t]?=b.tmps[t]?):a=b:=by
 obtain ⟨x,d⟩:=a;obtain ⟨y,e⟩:=b;simp only at g m h;subst g;congr 1;apply Array.ext m;intro i hi E;have:=h i hi
 simp only [HO hi,HO E,TO]at this;exact this
theorem Ja(a:Act):∀env,(CS env a).tmps.size=a.tmps.size
 |[]=>rfl
 |(d,v)::env=>by simp only [CS];rw [ER,Ja a env]
theorem Ff(a:Act):∀env,(CS env a).defers=a.defers
 |[]=>rfl
 |(d,v)::env=>by simp only [CS];rw [KE,Ff a env]
theorem rX{t d:Nat}(h:t≠d):Nat.beq t d=false:=by
 cases e:Nat.beq t d with
 |false=>rfl
 |true=>exact absurd (ir e) h
def Fit(n:Nat)(env:Env):Prop:=∀x∈env,x.1<n
theorem Bi(a:Act):∀(env:Env),Fit a.tmps.size env->∀t,(CS env a).tmps.getD t undef=FU a env t
 |[],_,t=>rfl
 |(d,v)::env,h,t=>by
  simp only [CS,FU];have g:=Bi a env (fun x hx=>h x (HQ _ hx)) t
  have m:=h (d,v) (K0 ..);rw [JT]at g⊢;by_cases E:t<a.tmps.size
  · rw [JQ _ _ _ _ (by rw [Ja];exact E)]
    by_cases e:t=d
    · subst e;simp
    · have:Nat.beq t d=false:=rX e
      rw [this,cond_false,As (fun y=>e (PC y).symm),g]
  · rw [I3 (by rw [ER,Ja];omega)]
    rw [I3 (by rw [Ja];omega)]at g;have:Nat.beq t d=false:=rX (by simp only at m;omega)
    rw [this,cond_false,<-g]
theorem FP(a:Act)(env:Env)(h:Fit a.tmps.size env):(CS env a).eval=ev a env:=by
 funext x;cases x with
 |tmp t=>exact Bi a env h t
 |_=>rfl
theorem FM(ops:Array Oper)(o:Oper)(a:Act)(env:Env)(h:Fit a.tmps.size env):Region.wanted o (yielded ops (CS env a).tmps)=wantedE ops a env o.guard:=by
 unfold Region.wanted wantedE;cases hg:o.guard with
 |none=>rfl
 |some gw=>
  obtain ⟨g,m⟩:=gw;simp only [yielded,yieldE];cases ht:(ops[g]?).bind (·.dst)with
  |none=>simp
  |some t=>
   simp only [IF];rw [<-Bi a env h t,JT];cases hv:(CS env a).tmps[t]?with
   |none=>simp [undef]
   |some v=>cases v<;>simp
structure Cx where
 N:Nat
 D:List Deferred
 u:A6
 r:Option Nat
def Fx(r:Option Nat):Fence:={Fence.wide with round:=r}
structure St(cx:Cx)(env:Env)(H:Hp)(a:Act)(w:A6):Prop where
 size:a.tmps.size=cx.N
 defers:a.defers=cx.D
 fit:Fit cx.N env
 sat:Sat cx.u H w
def At(P:Program)(cx:Cx)(c:Code)(Q:Exit->Act->A6->Prop)(env:Env)(H:Hp):Prop:=∀a w,St cx env H a w->c.wpIn (Fx cx.r) 0 P Q (CS env a) w
def Nx(cx:Cx)(Q:Act->A6->Prop)(env:Env)(H:Hp):Prop:=∀a w,St cx env H a w->Q (CS env a) w
theorem Fit.cons{n:Nat}{env:Env}(h:Fit n env){d:Nat}(g:Nat.blt d n=true)(v:A4):Fit n ((d,v)::env):=by
 intro x hx;rcases E4.1 hx with rfl|hx
 · simpa using g
 · exact h x hx
theorem Fit.putE{n:Nat}{env:Env}(h:Fit n env){d:Option Nat}(g:∀t,d=some t->t<n)(v:A4):Fit n (putE d v env):=by
 cases d with
 |none=>exact h
 |some d=>
  intro x hx;rcases E4.1 hx with rfl|hx
  · exact g d rfl
  · exact h x hx
theorem NK(d:Option Nat)(v:A4)(env:Env)(a:Act):CS (putE d v env) a=(CS env a).put d v:=by cases d<;>rfl
theorem TP{a:Act}{env:Env}(m:Fit a.tmps.size env):∀(sl:Env),(∀p∈sl,p.1<a.tmps.size/\FU a env p.1=p.2)->CS sl (CS env a)=CS env a
 |[],_=>rfl
 |(d,v)::sl,h=>by
  simp only [CS];rw [TP m sl (fun p y=>h p (HQ _ y))];obtain ⟨E,h2⟩:=h (d,v) (K0 ..);refine JW (by rw [ER]) (by rw [KE]) fun t g=>?_;rw [ER]at g;rw [JQ _ _ _ _ g];split
  · rename_i e
    cases e;have:=Bi a env m d
    rw [JT,HO g]at this;rw [HO g];simp only [eL]at this;rw [this];exact congrArg some h2.symm
  · rfl
def K6(a:Act)(env:Env):List Nat->Env
 |[]=>[]
 |t::l=>(t,FU a env t)::K6 a env l
theorem MV{a:Act}{env:Env}:∀{l:List Nat} {p:Nat×A4},p∈K6 a env l->p.1∈l/\FU a env p.1=p.2
 |[],_,h=>by cases h
 |t::l,p,h=>by
  simp only [K6,E4]at h;rcases h with rfl|h
  · exact ⟨K0 ..,rfl⟩
  · exact ⟨HQ _ (MV h).1,(MV h).2⟩
theorem St.slots{cx:Cx}{env g:Env}{H:Hp}{a:Act}{w:A6}(h:St cx env H a w)(G:List Nat)(hn:G.all (fun t=>Nat.blt t cx.N)=true)(J:∀a,K6 a env G=g):∃E,St cx g H E w/\CS g E=CS env a:=by
 have y:∀p∈g,p.1<cx.N/\FU a env p.1=p.2:=fun p m=>by
  rw [<-J a]at m;obtain ⟨I,h2⟩:=MV m;have:=Mp.1 hn _ I
  exact ⟨by simpa using this,h2⟩
 refine ⟨CS env a,⟨by rw [Ja];exact h.size,by rw [Ff];exact h.defers,fun p m=>(y p m).1,h.sat⟩,TP (by rw [h.size];exact h.fit) _ fun p m=>?_⟩;rw [h.size];exact y p m
theorem rZ{P:Program}{cx:Cx}{c:Code}{Q:Exit->Act->A6->Prop}{env g:Env}{H:Hp}(m:List Nat)(hn:m.all (fun t=>Nat.blt t cx.N)=true)(G:∀a,K6 a env m=g)(h:At P cx c Q g H):At P cx c Q env H:=fun a w I=>by
 obtain ⟨y,E,h2⟩:=I.slots m hn G;rw [<-h2];exact h y w E
theorem oh{cx:Cx}{Q:Act->A6->Prop}{env g:Env}{H:Hp}(m:List Nat)(hn:m.all (fun t=>Nat.blt t cx.N)=true)(G:∀a,K6 a env m=g)(h:Nx cx Q g H):Nx cx Q env H:=fun a w I=>by
 obtain ⟨y,E,h2⟩:=I.slots m hn G;rw [<-h2];exact h y w E
theorem St.heap{cx:Cx}{env:Env}{H H':Hp}{a:Act}{w:A6}(h:St cx env H a w)(g:UB H' H):St cx env H' a w:=⟨h.size,h.defers,h.fit,h.sat.sub g⟩
theorem ik{P:Program}{cx:Cx}{c:Code}{Q:Exit->Act->A6->Prop}{env:Env}{H H':Hp}(g:H.flatten=H'.flatten)(h:At P cx c Q env H'):At P cx c Q env H:=fun a w m=>h a w (m.heap ⟨[],by rw [g];simp⟩)
section
variable{P:Program}{cx:Cx}{Q:Exit->Act->A6->Prop}{env:Env}{H:Hp}
theorem xk{x y:Code}(h:At P cx x (Exit.then (y.wpIn (Fx cx.r) 0 P Q) Q) env H):At P cx (.seq x y) Q env H:=fun a w g=>wpIn_seq (h a w g)
theorem uT{y:Code}(h:At P cx y Q env H):Nx cx ((Exit.then (y.wpIn (Fx cx.r) 0 P Q) Q) .normal) env H:=h
theorem uS{K:Act->A6->Prop}{e:Exit}(g:e≠ .normal)(h:Nx cx (Q e) env H):Nx cx (Exit.then K Q e) env H:=by cases e<;>first|exact absurd rfl g|exact h
theorem AB(h:Nx cx (Q .normal) env H):At P cx .skip Q env H:=fun a w g=>wpIn_skip (h a w g)
theorem aa{l:Nat}(h:Nx cx (Q .normal) env H):At P cx (.label l) Q env H:=fun a w g=>wpIn_label (h a w g)
theorem AA(h:Nx cx (Q .ret) env H):At P cx .ret Q env H:=fun a w g=>wpIn_ret (h a w g)
theorem Aw{i:Nat}(h:Nx cx (Q (.exit i)) env H):At P cx (.exit i) Q env H:=fun a w g=>wpIn_exit (h a w g)
theorem AX{i:Nat}{c:Code}(h:At P cx c (Exit.inBlock i Q) env H):At P cx (.block i c) Q env H:=fun a w g=>wpIn_block (h a w g)
theorem A8{i:Nat}(h:Nx cx (Q .normal) env H):Nx cx (Exit.inBlock i Q .normal) env H:=h
theorem AQ{i:Nat}(h:Nx cx (Q .normal) env H):Nx cx (Exit.inBlock i Q (.exit i)) env H:=fun a w g=>by simp only [Exit.inBlock,Ks];exact h a w g
theorem Az{i j:Nat}(hn:Nat.beq j i=false)(h:Nx cx (Q (.exit j)) env H):Nx cx (Exit.inBlock i Q (.exit j)) env H:=fun a w g=>by
 have:j≠i:=fun e=>by subst e;simp at hn
 simp only [Exit.inBlock,As this];exact h a w g
theorem Ab{i:Nat}(h:Nx cx (Q .ret) env H):Nx cx (Exit.inBlock i Q .ret) env H:=h
theorem iQ{a:Act}{x:Operand}{v:A4}{w:A6}(g:St cx env H a w)(h:∀a,ev a env x=v):(CS env a).eval x=v:=by
 rw [FP a env (by rw [g.size];exact g.fit)];exact h a
theorem Ak{x y:Code}{c:Operand}{p:Prop} [G:Decidable p](hc:∀a,ev a env c= .bool (decide p))(E:p->At P cx x Q env H)(m:¬p->At P cx y Q env H):At P cx (.cond c x y) Q env H:=fun a w g=>by
 refine wpIn_cond_split (t:=decide p) (iQ g hc) (fun h=>E (HH h) a w g) (fun h=>m (N2 h) a w g)
theorem Ad{x y:Code}{c:Operand}{b:Bool}(hc:∀a,ev a env c= .bool b)(E:b=true->At P cx x Q env H)(m:b=false->At P cx y Q env H):At P cx (.cond c x y) Q env H:=fun a w g=>
 wpIn_cond_split (iQ g hc) (fun h=>E h a w g) (fun h=>m h a w g)
theorem CQ{x y:Code}{c:Operand}(hc:∀a,ev a env c= .bool true)(h:At P cx x Q env H):At P cx (.cond c x y) Q env H:=fun a w g=>wpIn_cond_true (iQ g hc) (h a w g)
theorem Dj{x y:Code}{c:Operand}(hc:∀a,ev a env c= .bool false)(h:At P cx y Q env H):At P cx (.cond c x y) Q env H:=fun a w g=>wpIn_cond_false (iQ g hc) (h a w g)
def zH(cx:Cx)(I:Nat->Env->Hp->Prop)(n:Nat)(a:Act)(w:A6):Prop:=∃m env H a0,m<n/\I m env H/\St cx env H a0 w/\a=CS env a0
theorem vT{c:Code}(I:Nat->Env->Hp->Prop)(n:Nat)(h0:I n env H)(G:∀n env H,I n env H->At P cx c (Exit.then (zH cx I n) Q) env H):At P cx (.loop c) Q env H:=by
 intro a w hs b k cs ax X hr;have key:∀n env H a w,I n env H->St cx env H a w->
  ∃e O U,Q e O U/\ArrivesIn (Machine.fenced P (Fx cx.r)) P (lone (b.atR (CS env a) (.code c:: .inLoop c::k)) cs w) b k cs e O U:=by
  intro n;induction n using Nat.strongRecOn with
  |_ n ih=>
   intro env H a w hI hs;obtain ⟨e,K,J,y,g⟩:=G n env H hI a w hs b (.inLoop c::k) cs ax X hr;cases e with
   |normal=>
    obtain ⟨m,M,H',a0,Z,W,bf,rfl⟩:=y;obtain ⟨e₂,a₂,w₂,af,E⟩:=ih m Z M H' a0 J W bf;exact ⟨e₂,a₂,w₂,af,.of_steps (StepsIn.trans g (.one (fenced_calm X hr V) stepR_inLoop)) E⟩
   |exit id=>exact ⟨_,K,J,y,.pass (x:= .inLoop c) rfl (fun _ _=> .inl B3) g⟩
   |goto l=>exact ⟨_,K,J,y,.pass (x:= .inLoop c) rfl (fun _ _=> .inl B3) g⟩
   |ret=>exact ⟨_,K,J,y,.pass (x:= .inLoop c) rfl (fun _ _=> .inl B3) g⟩
   |panic ch=>exact ⟨_,K,J,y,.pass (x:= .inLoop c) rfl (fun _ _=> .inl B3) g⟩
   |outgrown=>exact ⟨_,K,J,y,.pass (x:= .inLoop c) rfl (fun _ _=> .inl B3) g⟩
 obtain ⟨e,O,U,y,g⟩:=key n env H a w h0 hs;exact ⟨e,O,U,y,.of_steps (.one (fenced_calm X hr V) stepR_loop) g⟩
def sK(cx:Cx)(I:Nat->Env->Hp->Prop)(B:Env)(R:Hp)(n:Nat)(a:Act)(w:A6):Prop:=∃m e H a0,m<n/\I m e H/\St cx (e++B) (H++R) a0 w/\a=CS (e++B) a0
theorem BB{c:Code}{e0 B:Env}{H0 R:Hp}(I:Nat->Env->Hp->Prop){n:Nat}(h0:I n e0 H0)(M:FW H0 H R)(g:∀n e H,I n e H->At P cx c (Exit.then (sK cx I B R n) Q) (e++B) (H++R)):At P cx (.loop c) Q (e0++B) H:=fun a w y=>by
 refine vT (P:=P) (cx:=cx) (Q:=Q) (fun m env H=>∃e H1,env=e++B/\H=H1++R/\I m e H1) n ⟨e0,H0,V,V,h0⟩ ?_ a w ⟨y.size,y.defers,y.fit,y.sat.perm M.perm⟩;rintro m env H ⟨e,H1,rfl,rfl,K⟩ a w y;refine wpIn_mono (g m e H1 K a w y) fun x O U hx=>?_;cases x<;>first|exact hx|(obtain ⟨m',e',H',a0,E,h2,G,J⟩:=hx;exact ⟨m',e'++B,H'++R,a0,E,⟨e',H',rfl,rfl,h2⟩,G,J⟩)
theorem AZ{I:Nat->Env->Hp->Prop}{B e':Env}{R H':Hp}{n m:Nat}(h:I m e' H')(y:m<n:=by omega)(E:Sub (H'++R) H:=by repeat(first|exact Sub.refl _|exact Sub.nil _|(apply Sub.cons;(focus (repeat(first|exact One.here _ _|apply One.there))))|refine Sub.drop _ ?_)):Nx cx ((Exit.then (sK cx I B R n) Q) .normal) (e'++B) H:=fun a _ g=>⟨m,e',H',a,y,h,⟨g.size,g.defers,g.fit,g.sat.sub E.amid⟩,rfl⟩
end
def wpL(F:Fence)(P:Program)(ops:Array Oper)(Q:Exit->Act->A6->Prop):List Oper->Act->A6->Prop
 |[],a,w=>Q .normal a w
 |o::l,a,w=>if Region.wanted o (yielded ops a.tmps)then o.wpIn F 0 P a w (wpL F P ops Q l) Q else wpL F P ops Q l (a.put o.dst undef) w
theorem lu{r:Option Nat}{P:Program}{ops:Array Oper}{Q:Exit->Act->A6->Prop}:∀(l:List Oper) (j:Nat),(∀i,l[i]?=ops[j+i]?)->∀a w,wpL (Fx r) P ops Q l a w->wpOpsIn (Fx r) 0 P ops Q (List.range' j l.length) a w
 |[],_,_,_,_,h=>h
 |o::l,j,hl,a,w,h=>by
  have h0:=hl 0;simp only [OR,T7]at h0;have g:∀a w,wpL (Fx r) P ops Q l a w->wpOpsIn (Fx r) 0 P ops Q (List.range' (j+1) l.length) a w:=fun a w=>lu l (j+1) (fun i=>by
   have:=hl (i+1);simp only [W5]at this;rw [this];congr 1;omega) a w
  simp only [D3,fg,wpOpsIn,<-h0];simp only [wpL]at h;split at h;· rename_i hw;rw [B0 hw];exact Oper.wpIn_mono g h
  · rename_i hw;rw [As hw];exact ⟨fun _ _=>trivial,g _ _ h⟩
def Ops(P:Program)(ops:Array Oper)(l:List Oper)(cx:Cx)(Q:Exit->Act->A6->Prop)(env:Env)(H:Hp):Prop:=∀a w,St cx env H a w->wpL (Fx cx.r) P ops Q l (CS env a) w
theorem lV{P:Program}{cx:Cx}{Q:Exit->Act->A6->Prop}{env:Env}{H:Hp}{id:Nat}{ops:Array Oper}(h:Ops P ops ops.toList cx Q env H):At P cx (.region id ops false) Q env H:=fun a w g=>by
 refine wpIn_region ?_;have:=lu ops.toList 0 (fun i=>by simp) _ _ (h a w g)
 rwa [RR,<-iu]at this
def OpP(P:Program)(o:Oper)(env:Env)(C:List AU)(v:A4):Prop:=∀(a:Act) (w:A6),(∀p∈C,w.heap[p.1]?=some p.2)->(execOp (ev a env) o).run P w= .ok (.value v) w
def Ur(P:Program)(K:A4->A6->Prop)(Kp:List PanicEntry->A6->Prop):Result Next->Prop
 | .ok (.value v) w=>K v w
 | .ok .skip w=>K undef w
 | .ok (.enter f args) w=>Calls P f args w fun e w'=>match e with
   | .returned v=>K v w'
   | .panicked ch=>Kp ch w'
   | .outgrown=>False
 | .ok (.round l f tmps assign body) w=>RoundIn Fence.wide 0 P l f tmps assign body w fun e w'=>match e with
   | .returned v=>K v w'
   | .panicked ch=>Kp ch w'
   | .outgrown=>False
 | .halt (.panic v) w=>Kp [{v,recovered:=false}] w
 |_=>False
def OpW(P:Program)(u:A6)(o:Oper)(env:Env)(H:Hp)(Fe:A4->Hp->Prop)(Pan:List PanicEntry->Hp->Prop):Prop:=
 ∀(a:Act) (w:A6),Sat u H w->∀(K:A4->A6->Prop) (Kp:List PanicEntry->A6->Prop),(∀v H' w',Fe v H'->Sat u H' w'->K v w')->(∀ch H' w',Pan ch H'->Sat u H' w'->Kp ch w')->Ur P K Kp ((execOp (ev a env) o).run P w)
theorem iY{r:Option Nat}{P:Program}{f:FuncId}{args:AN}{w:A6}{R:Ending->A6->Prop}(h:Calls P f args w R):CallsIn (Fx r) 0 P f args w R:=⟨trivial,fun cs _=>by
 obtain ⟨e,E,g,m,h2,y⟩:=h cs;exact ⟨e,E,g,m,(comesIn_wide (P:=P)).2 h2,y⟩⟩
theorem Rf{P:Program}{r:Option Nat}{o:Oper}{a:Act}{K:Act->A6->Prop}{Q:Exit->Act->A6->Prop}{R:Result Next}
 (h:Ur P (fun v w=>K (a.put o.dst v) w) (fun ch w=>Q (.panic ch) a w) R):o.uponIn (Fx r) 0 P a K Q R:=by
 unfold Ur at h;cases R with
 |ok n w=>
  cases n<;>simp only [Oper.uponIn]at h⊢<;>first|exact h|skip
  · refine ⟨fun h=>by simp [Fx,Fence.wide]at h,iY (Calls.mono h fun e m g=>?_)⟩
    cases e<;>first|exact g|exact g.elim
  · refine ⟨fun h=>by simp [Fx,Fence.wide]at h,?_⟩
    exact RoundIn.mono (F:=Fx r) h fun e m g=>by cases e<;>first|exact g|exact g.elim
 |halt x w=>cases x<;>simp only [Oper.uponIn]at h⊢<;>exact h
theorem Om{r:Option Nat}{o:Oper}{ρ:Operand->A4}(h:∀c,o.op≠ .defer c):o.semAt (Fx r).round ρ=execOp ρ o:=Oper.semAt_eq _ _ _ h
def ED:Op->Bool
 | .defer _=>false
 |_=>true
theorem KL{o:Op}(h:ED o=true)(c:Call):o≠ .defer c:=by intro e;subst e;simp [ED]at h
section
variable{P:Program}{ops:Array Oper}{l:List Oper}{cx:Cx}{Q:Exit->Act->A6->Prop}{env:Env}{H:Hp}{o:Oper}
theorem uP(h:Nx cx (Q .normal) env H):Ops P ops [] cx Q env H:=h
theorem Gn{Fe:A4->Hp->Prop}{E:List PanicEntry->Hp->Prop}(J:∀a,wantedE ops a env o.guard=true)(I:∀t,o.dst=some t->t<cx.N)(hn:ED o.op=true)(M:OpW P cx.u o env H Fe E)
 (h:∀v H',Fe v H'->Ops P ops l cx Q (putE o.dst v env) H')(K:∀ch H',E ch H'->∀env,Nx cx (Q (.panic ch)) env H'):Ops P ops (o::l) cx Q env H:=fun a w m=>by
 have y:Fit a.tmps.size env:=by rw [m.size];exact m.fit
 simp only [wpL];rw [FM ops o a env y,J a,B0 rfl];refine ⟨fun _ _=>trivial,Rf ?_⟩;rw [Om (KL hn),FP a env y];refine M a w m.sat _ _ (fun v H' G hv g=>?_) (fun ch H' G hv g=>?_)
 · rw [<-NK]
   exact h v H' hv a G ⟨m.size,m.defers,m.fit.putE I v,g⟩
 · exact K ch H' hv env a G ⟨m.size,m.defers,m.fit,g⟩
theorem OpP.eff{C:List AU}{v:A4}(h:OpP P o env C v){u:A6}(m:∀p∈C,p∈H.flatten):OpW P u o env H (fun G H'=>G=v/\H'=H) (fun _ _=>False):=fun a w g K I y _=>by
 rw [h a w fun p E=>g.get p (m p E)];exact y _ _ _ ⟨V,V⟩ g
end
def UT(n:Nat):Option Nat->Bool
 |some d=>Nat.blt d n
 |none=>true
theorem Ga{n:Nat}{d:Option Nat}(h:UT n d=true)(t:Nat)(g:d=some t):t<n:=by subst g;simpa [UT]using h
section
variable{P:Program}{ops:Array Oper}{l:List Oper}{cx:Cx}{Q:Exit->Act->A6->Prop}{env:Env}{H:Hp}
theorem KY{d:Nat}{g:Op}{ty:AM}{pos:String}{af:Array Edge}{v:A4}(h:OpP P ⟨some d,g,ty,pos,af,none⟩ env [] v)(hn:ED g=true)(m:Nat.blt d cx.N=true)
 (k:Ops P ops l cx Q ((d,v)::env) H):Ops P ops (⟨some d,g,ty,pos,af,none⟩::l) cx Q env H:=
 Gn (fun _=>rfl) (fun t y=>by cases y;simpa using m) hn (h.eff (u:=cx.u) (H:=H) B3) (by rintro _ _ ⟨rfl,rfl⟩;exact k) (fun _ _ h=>h.elim)
theorem Ap{d:Nat}{g:Op}{ty:AM}{pos:String}{af:Array Edge}{v:A4}(h:OpP P ⟨some d,g,ty,pos,af,none⟩ env [] v)
 (k:Ops P ops l cx Q ((d,v)::env) H)(hn:ED g=true:=by exact rfl)(m:Nat.blt d cx.N=true:=by exact rfl):Ops P ops (⟨some d,g,ty,pos,af,none⟩::l) cx Q env H:=KY h hn m k
theorem yP{d:Nat}{g:Op}{ty:AM}{pos:String}{af:Array Edge}{v:A4}{b:Nat}{o:Obj}(m:Has b o H)(h:OpP P ⟨some d,g,ty,pos,af,none⟩ env [(b,o)] v)(hn:ED g=true)(y:Nat.blt d cx.N=true)
 (k:Ops P ops l cx Q ((d,v)::env) H):Ops P ops (⟨some d,g,ty,pos,af,none⟩::l) cx Q env H:=
 Gn (fun _=>rfl) (fun t E=>by cases E;simpa using y) hn (h.eff (u:=cx.u) (H:=H) (by simpa using m.mem)) (by rintro _ _ ⟨rfl,rfl⟩;exact k) (fun _ _ h=>h.elim)
theorem DV{d:Nat}{m:Op}{ty:AM}{pos:String}{af:Array Edge}{g:Nat×Bool}{v:A4}(E:∀a,wantedE ops a env (some g)=true)(h:OpP P ⟨some d,m,ty,pos,af,some g⟩ env [] v)(hn:ED m=true)(y:Nat.blt d cx.N=true)
 (k:Ops P ops l cx Q ((d,v)::env) H):Ops P ops (⟨some d,m,ty,pos,af,some g⟩::l) cx Q env H:=
 Gn E (fun t G=>by cases G;simpa using y) hn (h.eff (u:=cx.u) (H:=H) B3) (by rintro _ _ ⟨rfl,rfl⟩;exact k) (fun _ _ h=>h.elim)
theorem DF{d:Nat}{m:Op}{ty:AM}{pos:String}{af:Array Edge}{g:Nat×Bool}{v:A4}{b:Nat}{o:Obj}(G:∀a,wantedE ops a env (some g)=true)(y:Has b o H)(h:OpP P ⟨some d,m,ty,pos,af,some g⟩ env [(b,o)] v)(hn:ED m=true)(E:Nat.blt d cx.N=true)
 (k:Ops P ops l cx Q ((d,v)::env) H):Ops P ops (⟨some d,m,ty,pos,af,some g⟩::l) cx Q env H:=
 Gn G (fun t I=>by cases I;simpa using E) hn (h.eff (u:=cx.u) (H:=H) (by simpa using y.mem)) (by rintro _ _ ⟨rfl,rfl⟩;exact k) (fun _ _ h=>h.elim)
theorem A7{d:Option Nat}{I:Op}{ty:AM}{pos:String}{af:Array Edge}{g:Nat×Bool}(G:∀a,wantedE ops a env (some g)=false)(E:UT cx.N d=true)
 (k:Ops P ops l cx Q (putE d undef env) H):Ops P ops (⟨d,I,ty,pos,af,some g⟩::l) cx Q env H:=fun a w m=>by
 have y:Fit a.tmps.size env:=by rw [m.size];exact m.fit
 simp only [wpL];rw [FM ops _ a env y,G a,As B3,<-NK];exact k a w ⟨m.size,m.defers,m.fit.putE (Ga E) _,m.sat⟩
theorem Ai{t:Nat}{p:Prop} [M:Decidable p](hv:∀a,FU a env t= .bool (decide p))(E:Nat.blt t cx.N=true)(K:p->Ops P ops l cx Q ((t,.bool true)::env) H)(J:¬p->Ops P ops l cx Q ((t,.bool false)::env) H):Ops P ops l cx Q env H:=fun a w g=>by
 have m:Fit a.tmps.size env:=by rw [g.size];exact g.fit
 have key:∀b,FU a env t= .bool b->CS ((t,.bool b)::env) a=CS env a:=fun b I=>by
  have:=TP m [(t,.bool b)] (by intro q G;simp only [D0]at G;subst G;exact ⟨by rw [g.size];simpa using E,I⟩);exact this
 by_cases y:p
 · rw [<-key true (by rw [hv a,CA y])];exact K y a w ⟨g.size,g.defers,g.fit.cons E _,g.sat⟩
 · rw [<-key false (by rw [hv a,Bm y])];exact J y a w ⟨g.size,g.defers,g.fit.cons E _,g.sat⟩
theorem Ah{t:Nat}{b:Bool}(hv:∀a,FU a env t= .bool b)(g:Nat.blt t cx.N=true)(y:b=true->Ops P ops l cx Q ((t,.bool true)::env) H)(m:b=false->Ops P ops l cx Q ((t,.bool false)::env) H):Ops P ops l cx Q env H:=
 Ai (p:=b=true) (fun a=>by rw [hv a];cases b<;>rfl) g y (fun h=>m (by simpa using h))
end
end Gw
