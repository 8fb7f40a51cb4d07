/- Walking Go code over a heap that is told by chunks: the judgement, the rules for code, for regions of fixed order, and for regions that draw their order. No function of the program is named. -/
import Derived.Test.YtelliknjeemfoaaGreatDoorA0
import Derived.OrdersIn
import Derived.RangeFuncCalls
import Derived.WalkKit
set_option linter.unusedVariables false
set_option linter.unusedSimpArgs false
namespace Gw
open Go Go.RowKit
abbrev A8:=Nat×Obj
abbrev Env:=List (Nat×A2)
abbrev Hp:=List (List A8)
structure Sat(u:A4)(H:Hp)(w:A4):Prop where
 os:w.os=u.os
 tape:w.tape=u.tape
 output:w.output=u.output
 nodup:(H.flatten.map (·.1)).Nodup
 get:∀p∈H.flatten,w.heap[p.1]?=some p.2
theorem Sat.lt{u w:A4}{H:Hp}(h:Sat u H w){p:A8}(g:p∈H.flatten):p.1<w.heap.size:=by
 have:=h.get p g;rcases Ft p.1 w.heap.size with h1|h1
 · exact h1
 · simp [LR h1]at this
theorem Sat.perm{u w:A4}{H H':Hp}(h:Sat u H w)(g:H.flatten.Perm H'.flatten):Sat u H' w:=
 ⟨h.os,h.tape,h.output,(g.map _).nodup_iff.1 h.nodup,fun p m=>h.get p (g.mem_iff.2 m)⟩
def vY(H' H:Hp):Prop:=∃R:List A8,H.flatten.Perm (H'.flatten++R)
theorem Sat.sub{u w:A4}{H H':Hp}(h:Sat u H w)(g:vY H' H):Sat u H' w:=by
 obtain ⟨R,g⟩:=g;refine ⟨h.os,h.tape,h.output,?_,fun p m=>h.get p (g.mem_iff.2 (Fc _ m))⟩;have:=(g.map (·.1)).nodup_iff.1 h.nodup
 rw [CN]at this;exact (HN.1 this).1
theorem Sat.drew{u w:A4}{H:Hp}(h:Sat u H w):Sat u H {w with drawn:=w.drawn+1}:=⟨h.os,h.tape,h.output,h.nodup,h.get⟩
theorem Sat.drawn{u w:A4}{H:Hp}(h:Sat u H w)(n:Nat):Sat u H {w with drawn:=n}:=⟨h.os,h.tape,h.output,h.nodup,h.get⟩
theorem Sat.below{u w B:A4}{H:Hp}(h:Sat u H w)(g:Below w.heap.size w B):Sat u H B:=
 ⟨g.os.trans h.os,g.tape.trans h.tape,g.output.trans h.output,h.nodup,fun p m=>(g.block p.1 (h.lt m)).trans (h.get p m)⟩
theorem Sat.alloc{u w:A4}{H:Hp}(h:Sat u H w)(o:Obj):Sat u ([(w.heap.size,o)]::H) {w with heap:=w.heap.push o}:=by
 refine ⟨h.os,h.tape,h.output,?_,?_⟩
 · simp only [Cp,PJ,F2,JT]
   refine ⟨fun m=>?_,h.nodup⟩;obtain ⟨p,g,e⟩:=CM.1 m;have:=h.lt g
   omega
 · intro p g
   simp only [Cp,PJ,Dg]at g;rcases g with rfl|g
   · simp
   · have:=h.lt g
     show(w.heap.push o)[p.1]?=_;rw [Array.getElem?_push,As A0];exact h.get p g
inductive One:List A8->Hp->Hp->Prop
 |here (s:List A8) (H:Hp):One s (s::H) H
 |there {s:List A8} {H R:Hp} (t:List A8) (h:One s H R):One s (t::H) (t::R)
inductive Ey:Hp->Hp->Hp->Prop
 |nil (H:Hp):Ey [] H H
 |cons {s:List A8} {L H H1 R:Hp} (h:One s H H1) (h2:Ey L H1 R):Ey (s::L) H R
inductive Sub:Hp->Hp->Prop
 |refl (H:Hp):Sub H H
 |nil (H:Hp):Sub [] H
 |drop {L H:Hp} (t:List A8) (h:Sub L H):Sub L (t::H)
 |cons {s:List A8} {L H H1:Hp} (h:One s H H1) (h2:Sub L H1):Sub (s::L) H
inductive Has(b:Nat)(o:Obj):Hp->Prop
 |here (H:Hp):Has b o ([(b,o)]::H)
 |there {H:Hp} (t:List A8) (h:Has b o H):Has b o (t::H)
inductive Upd(b:Nat)(o o':Obj):Hp->Hp->Prop
 |here (H:Hp):Upd b o o' ([(b,o)]::H) ([(b,o')]::H)
 |there {H H':Hp} (t:List A8) (h:Upd b o o' H H'):Upd b o o' (t::H) (t::H')
theorem One.perm{s:List A8}{H R:Hp}(h:One s H R):H.flatten.Perm (s++R.flatten):=by
 induction h with
 |here H=>simp
 |there t h ih=>
  simp only [Cp];refine (Sp t ih).trans ?_;rw [<-DG,<-DG];exact pL _ OS
theorem Ey.perm{L H R:Hp}(h:Ey L H R):H.flatten.Perm (L++R).flatten:=by
 induction h with
 |nil H=>simp
 |cons h h2 ih=>
  refine h.perm.trans ?_;simp only [S6,Cp];exact Sp _ ih
theorem Ey.amid{L H R:Hp}(h:Ey L H R):vY L H:=⟨R.flatten,by have:=h.perm;rwa [HR]at this⟩
theorem Sub.amid{L H:Hp}(h:Sub L H):vY L H:=by
 induction h with
 |refl H=>exact ⟨[],by simp⟩
 |nil H=>exact ⟨H.flatten,by simp⟩
 |drop t h ih=>
  obtain ⟨R,g⟩:=ih;refine ⟨t++R,?_⟩;simp only [Cp];refine (Sp t g).trans ?_;rw [<-DG,<-DG];exact pL _ OS
 |cons h h2 ih=>
  obtain ⟨R,g⟩:=ih;refine ⟨R,h.perm.trans ?_⟩;simp only [Cp,DG];exact Sp _ g
theorem Has.mem{b:Nat}{o:Obj}{H:Hp}(h:Has b o H):(b,o)∈H.flatten:=by
 induction h with
 |here H=>simp
 |there t h ih=>simp only [Cp,CI];exact .inr ih
theorem Upd.has{b:Nat}{o o':Obj}{H H':Hp}(h:Upd b o o' H H'):Has b o H:=by
 induction h with
 |here H=>exact .here _
 |there t h ih=>exact .there _ ih
theorem Upd.keys{b:Nat}{o o':Obj}{H H':Hp}(h:Upd b o o' H H'):H'.flatten.map (·.1)=H.flatten.map (·.1):=by
 induction h with
 |here H=>simp
 |there t h ih=>simp only [Cp,CN,ih]
theorem Upd.mem{b:Nat}{o o':Obj}{H H':Hp}(h:Upd b o o' H H')(hn:(H.flatten.map (·.1)).Nodup):∀p∈H'.flatten,(p=(b,o'))\/(p.1≠b/\p∈H.flatten):=by
 induction h with
 |here H=>
  intro p g;simp only [Cp,PJ,Dg]at g;rcases g with rfl|g
  · exact .inl rfl
  · refine .inr ⟨fun e=>?_,by simp [g]⟩
    simp only [Cp,PJ,F2,JT]at hn;exact hn.1 (CM.2 ⟨p,g,e⟩)
 |there t h ih=>
  rename_i H H';intro p g;simp only [Cp,CN]at hn;have m:=HN.1 hn
  simp only [Cp,CI]at g⊢;rcases g with g|g
  · refine .inr ⟨fun e=>?_,.inl g⟩
    exact m.2.2 p.1 (Ek g) b (CM.2 ⟨(b,o),h.has.mem,V⟩) e
  · rcases ih m.2.1 p g with h1|h1
    · exact .inl h1
    · exact .inr ⟨h1.1,.inr h1.2⟩
theorem Sat.upd{u w:A4}{H H':Hp}{b:Nat}{o o':Obj}(h:Sat u H w)(m:Upd b o o' H H'){g:A4}(B:g.os=w.os)(h2:g.tape=w.tape)(G:g.output=w.output)
 (I:g.heap[b]?=some o')(J:∀k,k≠b->g.heap[k]?=w.heap[k]?):Sat u H' g:=by
 refine ⟨B.trans h.os,h2.trans h.tape,G.trans h.output,by rw [m.keys];exact h.nodup,fun p K=>?_⟩;rcases m.mem h.nodup p K with rfl|⟨hne,hm⟩
 · exact I
 · rw [J _ hne];exact h.get p hm
def GA(a:Act):Env->Nat->A2
 |[],t=>a.tmps.getD t undef
 |(d,v)::env,t=>cond (Nat.beq t d) v (GA a env t)
def ev(a:Act)(env:Env):Operand->A2
 | .tmp t=>GA a env t
 | .const v=>v
 | .global g=>I1 g
 | .func f=> .func (.func f) #[] #[]
def C9:Env->Act->Act
 |[],a=>a
 |(d,v)::env,a=>(C9 env a).put (some d) v
def putE(d:Option Nat)(v:A2)(env:Env):Env:=
 match d with
 |some d=>(d,v)::env
 |none=>env
def yieldE(ops:Array Oper)(a:Act)(env:Env)(g:Nat)(want:Bool):Bool:=
 match(ops[g]?).bind (·.dst)with
 |some t=>match GA a env t with
  | .bool b=>b==want
  |_=>false
 |none=>false
def wantedE(ops:Array Oper)(a:Act)(env:Env):Option (Nat×Bool)->Bool
 |none=>true
 |some (g,want)=>yieldE ops a env g want
theorem EJ(a:Act)(d:Option Tmp)(v:A2):(a.put d v).tmps.size=a.tmps.size:=by cases d<;>simp [Act.put]
theorem JU(a:Act)(d:Option Tmp)(v:A2):(a.put d v).defers=a.defers:=by cases d<;>simp [Act.put]
theorem Im(a:Act)(d:Option Tmp)(v:A2)(t:Nat)(g:t<a.tmps.size):(a.put d v).tmps[t]?=if d=some t then some v else a.tmps[t]?:=by
 cases d with
 |none=>simp [Act.put]
 |some d=>
  simp only [Act.put,fp];by_cases e:d=t;· subst e;simp [g]
  · simp [e]
theorem Iw{a b:Act}(m:a.tmps.size=b.tmps.size)(g:a.defers=b.defers)(h:∀t,t<a.tmps.size->a.tmps[t]?=b.tmps[t]?):a=b:=by
 obtain ⟨x,d⟩:=a;obtain ⟨y,e⟩:=b;simp only at g m h;subst g;congr 1;apply lO m;intro i hi B;have:=h i hi
 simp only [I3 hi,I3 B,Z3]at this;exact this
theorem J2(a:Act):∀env,(C9 env a).tmps.size=a.tmps.size
 |[]=>rfl
 |(d,v)::env=>by simp only [C9];rw [EJ,J2 a env]
theorem Fh(a:Act):∀env,(C9 env a).defers=a.defers
 |[]=>rfl
 |(d,v)::env=>by simp only [C9];rw [JU,Fh a env]
theorem vF{t d:Nat}(h:t≠d):Nat.beq t d=false:=by
 cases e:Nat.beq t d with
 |false=>rfl
 |true=>exact absurd (pT e) h
def Fit(n:Nat)(env:Env):Prop:=∀x∈env,x.1<n
theorem Ca(a:Act):∀(env:Env),Fit a.tmps.size env->∀t,(C9 env a).tmps.getD t undef=GA a env t
 |[],_,t=>rfl
 |(d,v)::env,h,t=>by
  simp only [C9,GA];have g:=Ca a env (fun x hx=>h x (G3 _ hx)) t
  have m:=h (d,v) (Fo ..);rw [NX]at g⊢;by_cases G:t<a.tmps.size
  · rw [Im _ _ _ _ (by rw [J2];exact G)]
    by_cases e:t=d
    · subst e;simp
    · have:Nat.beq t d=false:=vF e
      rw [this,cond_false,As (fun B=>e (T7 B).symm),g]
  · rw [LR (by rw [EJ,J2];omega)]
    rw [LR (by rw [J2];omega)]at g;have:Nat.beq t d=false:=vF (by simp only at m;omega)
    rw [this,cond_false,<-g]
theorem FU(a:Act)(env:Env)(h:Fit a.tmps.size env):(C9 env a).eval=ev a env:=by
 funext x;cases x with
 |tmp t=>exact Ca a env h t
 |_=>rfl
theorem Fy(ops:Array Oper)(o:Oper)(a:Act)(env:Env)(h:Fit a.tmps.size env):Region.wanted o (yielded ops (C9 env a).tmps)=wantedE ops a env o.guard:=by
 unfold Region.wanted wantedE;cases hg:o.guard with
 |none=>rfl
 |some gw=>
  obtain ⟨g,m⟩:=gw;simp only [yielded,yieldE];cases ht:(ops[g]?).bind (·.dst)with
  |none=>simp
  |some t=>
   simp only [Lk];rw [<-Ca a env h t,NX];cases hv:(C9 env a).tmps[t]?with
   |none=>simp [undef]
   |some v=>cases v<;>simp
structure Cx where
 N:Nat
 D:List Deferred
 u:A4
 r:Option Nat
def Fx(r:Option Nat):Fence:={Fence.wide with round:=r}
structure St(cx:Cx)(env:Env)(H:Hp)(a:Act)(w:A4):Prop where
 size:a.tmps.size=cx.N
 defers:a.defers=cx.D
 fit:Fit cx.N env
 sat:Sat cx.u H w
def At(P:Program)(cx:Cx)(c:Code)(Q:Exit->Act->A4->Prop)(env:Env)(H:Hp):Prop:=∀a w,St cx env H a w->c.wpIn (Fx cx.r) 0 P Q (C9 env a) w
def Nx(cx:Cx)(Q:Act->A4->Prop)(env:Env)(H:Hp):Prop:=∀a w,St cx env H a w->Q (C9 env a) w
theorem Fit.cons{n:Nat}{env:Env}(h:Fit n env){d:Nat}(g:Nat.blt d n=true)(v:A2):Fit n ((d,v)::env):=by
 intro x hx;rcases Dg.1 hx with rfl|hx
 · simpa using g
 · exact h x hx
theorem Fit.putE{n:Nat}{env:Env}(h:Fit n env){d:Option Nat}(g:∀t,d=some t->t<n)(v:A2):Fit n (putE d v env):=by
 cases d with
 |none=>exact h
 |some d=>
  intro x hx;rcases Dg.1 hx with rfl|hx
  · exact g d rfl
  · exact h x hx
theorem Ph(d:Option Nat)(v:A2)(env:Env)(a:Act):C9 (putE d v env) a=(C9 env a).put d v:=by cases d<;>rfl
theorem Sw{a:Act}{env:Env}(m:Fit a.tmps.size env):∀(sl:Env),(∀p∈sl,p.1<a.tmps.size/\GA a env p.1=p.2)->C9 sl (C9 env a)=C9 env a
 |[],_=>rfl
 |(d,v)::sl,h=>by
  simp only [C9];rw [Sw m sl (fun p B=>h p (G3 _ B))];obtain ⟨G,h2⟩:=h (d,v) (Fo ..);refine Iw (by rw [EJ]) (by rw [JU]) fun t g=>?_;rw [EJ]at g;rw [Im _ _ _ _ g];split
  · rename_i e
    cases e;have:=Ca a env m d
    rw [NX,I3 g]at this;rw [I3 g];simp only [kk]at this;rw [this];exact congrArg some h2.symm
  · rfl
def JO(a:Act)(env:Env):List Nat->Env
 |[]=>[]
 |t::l=>(t,GA a env t)::JO a env l
theorem LQ{a:Act}{env:Env}:∀{l:List Nat} {p:Nat×A2},p∈JO a env l->p.1∈l/\GA a env p.1=p.2
 |[],_,h=>by cases h
 |t::l,p,h=>by
  simp only [JO,Dg]at h;rcases h with rfl|h
  · exact ⟨Fo ..,rfl⟩
  · exact ⟨G3 _ (LQ h).1,(LQ h).2⟩
theorem St.slots{cx:Cx}{env g:Env}{H:Hp}{a:Act}{w:A4}(h:St cx env H a w)(I:List Nat)(hn:I.all (fun t=>Nat.blt t cx.N)=true)(K:∀a,JO a env I=g):∃G,St cx g H G w/\C9 g G=C9 env a:=by
 have B:∀p∈g,p.1<cx.N/\GA a env p.1=p.2:=fun p m=>by
  rw [<-K a]at m;obtain ⟨J,h2⟩:=LQ m;have:=Pc.1 hn _ J
  exact ⟨by simpa using this,h2⟩
 refine ⟨C9 env a,⟨by rw [J2];exact h.size,by rw [Fh];exact h.defers,fun p m=>(B p m).1,h.sat⟩,Sw (by rw [h.size];exact h.fit) _ fun p m=>?_⟩;rw [h.size];exact B p m
theorem vH{P:Program}{cx:Cx}{c:Code}{Q:Exit->Act->A4->Prop}{env g:Env}{H:Hp}(m:List Nat)(hn:m.all (fun t=>Nat.blt t cx.N)=true)(I:∀a,JO a env m=g)(h:At P cx c Q g H):At P cx c Q env H:=fun a w J=>by
 obtain ⟨B,G,h2⟩:=J.slots m hn I;rw [<-h2];exact h B w G
theorem rX{cx:Cx}{Q:Act->A4->Prop}{env g:Env}{H:Hp}(m:List Nat)(hn:m.all (fun t=>Nat.blt t cx.N)=true)(I:∀a,JO a env m=g)(h:Nx cx Q g H):Nx cx Q env H:=fun a w J=>by
 obtain ⟨B,G,h2⟩:=J.slots m hn I;rw [<-h2];exact h B w G
theorem St.heap{cx:Cx}{env:Env}{H H':Hp}{a:Act}{w:A4}(h:St cx env H a w)(g:vY H' H):St cx env H' a w:=⟨h.size,h.defers,h.fit,h.sat.sub g⟩
theorem Xf{P:Program}{cx:Cx}{c:Code}{Q:Exit->Act->A4->Prop}{env:Env}{H H':Hp}(g:H.flatten=H'.flatten)(h:At P cx c Q env H'):At P cx c Q env H:=fun a w m=>h a w (m.heap ⟨[],by rw [g];simp⟩)
section
variable{P:Program}{cx:Cx}{Q:Exit->Act->A4->Prop}{env:Env}{H:Hp}
theorem vq{x y:Code}(h:At P cx x (Exit.then (y.wpIn (Fx cx.r) 0 P Q) Q) env H):At P cx (.seq x y) Q env H:=fun a w g=>wpIn_seq (h a w g)
theorem xO{y:Code}(h:At P cx y Q env H):Nx cx ((Exit.then (y.wpIn (Fx cx.r) 0 P Q) Q) .normal) env H:=h
theorem xN{K:Act->A4->Prop}{e:Exit}(g:e≠ .normal)(h:Nx cx (Q e) env H):Nx cx (Exit.then K Q e) env H:=by cases e<;>first|exact absurd rfl g|exact h
theorem AC(h:Nx cx (Q .normal) env H):At P cx .skip Q env H:=fun a w g=>wpIn_skip (h a w g)
theorem Tx{l:Nat}(h:Nx cx (Q .normal) env H):At P cx (.label l) Q env H:=fun a w g=>wpIn_label (h a w g)
theorem AJ(h:Nx cx (Q .ret) env H):At P cx .ret Q env H:=fun a w g=>wpIn_ret (h a w g)
theorem BB{i:Nat}(h:Nx cx (Q (.exit i)) env H):At P cx (.exit i) Q env H:=fun a w g=>wpIn_exit (h a w g)
theorem AP{i:Nat}{c:Code}(h:At P cx c (Exit.inBlock i Q) env H):At P cx (.block i c) Q env H:=fun a w g=>wpIn_block (h a w g)
theorem A9{i:Nat}(h:Nx cx (Q .normal) env H):Nx cx (Exit.inBlock i Q .normal) env H:=h
theorem AV{i:Nat}(h:Nx cx (Q .normal) env H):Nx cx (Exit.inBlock i Q (.exit i)) env H:=fun a w g=>by simp only [Exit.inBlock,J1];exact h a w g
theorem BR{i j:Nat}(hn:Nat.beq j i=false)(h:Nx cx (Q (.exit j)) env H):Nx cx (Exit.inBlock i Q (.exit j)) env H:=fun a w g=>by
 have:j≠i:=fun e=>by subst e;simp at hn
 simp only [Exit.inBlock,As this];exact h a w g
theorem Ag{i:Nat}(h:Nx cx (Q .ret) env H):Nx cx (Exit.inBlock i Q .ret) env H:=h
theorem jM{a:Act}{x:Operand}{v:A2}{w:A4}(g:St cx env H a w)(h:∀a,ev a env x=v):(C9 env a).eval x=v:=by
 rw [FU a env (by rw [g.size];exact g.fit)];exact h a
theorem Ap{x y:Code}{c:Operand}{p:Prop} [G:Decidable p](hc:∀a,ev a env c= .bool (decide p))(B:p->At P cx x Q env H)(m:¬p->At P cx y Q env H):At P cx (.cond c x y) Q env H:=fun a w g=>by
 refine wpIn_cond_split (t:=decide p) (jM g hc) (fun h=>B (IF h) a w g) (fun h=>m (cE h) a w g)
theorem AY{x y:Code}{c:Operand}{b:Bool}(hc:∀a,ev a env c= .bool b)(B:b=true->At P cx x Q env H)(m:b=false->At P cx y Q env H):At P cx (.cond c x y) Q env H:=fun a w g=>
 wpIn_cond_split (jM g hc) (fun h=>B h a w g) (fun h=>m h a w g)
theorem Cg{x y:Code}{c:Operand}(hc:∀a,ev a env c= .bool true)(h:At P cx x Q env H):At P cx (.cond c x y) Q env H:=fun a w g=>wpIn_cond_true (jM g hc) (h a w g)
theorem DW{x y:Code}{c:Operand}(hc:∀a,ev a env c= .bool false)(h:At P cx y Q env H):At P cx (.cond c x y) Q env H:=fun a w g=>wpIn_cond_false (jM g hc) (h a w g)
def yd(cx:Cx)(I:Nat->Env->Hp->Prop)(n:Nat)(a:Act)(w:A4):Prop:=∃m env H a0,m<n/\I m env H/\St cx env H a0 w/\a=C9 env a0
theorem A05{c:Code}(I:Nat->Env->Hp->Prop)(n:Nat)(h0:I n env H)(J:∀n env H,I n env H->At P cx c (Exit.then (yd cx I n) Q) env H):At P cx (.loop c) Q env H:=by
 intro a w hs b k cs bn hb hr;have key:∀n env H a w,I n env H->St cx env H a w->
  ∃e W X,Q e W X/\ArrivesIn (Machine.fenced P (Fx cx.r)) P (lone (b.atR (C9 env a) (.code c:: .inLoop c::k)) cs w) b k cs e W X:=by
  intro n;induction n using Nat.strongRecOn with
  |_ n ih=>
   intro env H a w hI hs;obtain ⟨e,O,K,B,g⟩:=J n env H hI a w hs b (.inLoop c::k) cs bn hb hr;cases e with
   |normal=>
    obtain ⟨m,U,H',a0,af,Z,cu,rfl⟩:=B;obtain ⟨e₂,a₂,w₂,ax,G⟩:=ih m af U H' a0 K Z cu;exact ⟨e₂,a₂,w₂,ax,.of_steps (StepsIn.trans g (.one (fenced_calm hb hr V) stepR_inLoop)) G⟩
   |exit id=>exact ⟨_,O,K,B,.pass (x:= .inLoop c) rfl (fun _ _=> .inl B6) g⟩
   |goto l=>exact ⟨_,O,K,B,.pass (x:= .inLoop c) rfl (fun _ _=> .inl B6) g⟩
   |ret=>exact ⟨_,O,K,B,.pass (x:= .inLoop c) rfl (fun _ _=> .inl B6) g⟩
   |panic ch=>exact ⟨_,O,K,B,.pass (x:= .inLoop c) rfl (fun _ _=> .inl B6) g⟩
   |outgrown=>exact ⟨_,O,K,B,.pass (x:= .inLoop c) rfl (fun _ _=> .inl B6) g⟩
 obtain ⟨e,W,X,B,g⟩:=key n env H a w h0 hs;exact ⟨e,W,X,B,.of_steps (.one (fenced_calm hb hr V) stepR_loop) g⟩
def vg(cx:Cx)(I:Nat->Env->Hp->Prop)(B:Env)(R:Hp)(n:Nat)(a:Act)(w:A4):Prop:=∃m e H a0,m<n/\I m e H/\St cx (e++B) (H++R) a0 w/\a=C9 (e++B) a0
theorem Ay{c:Code}{e0 B:Env}{H0 R:Hp}(I:Nat->Env->Hp->Prop){n:Nat}(h0:I n e0 H0)(W:Ey H0 H R)(g:∀n e H,I n e H->At P cx c (Exit.then (vg cx I B R n) Q) (e++B) (H++R)):At P cx (.loop c) Q (e0++B) H:=fun a w G=>by
 refine A05 (P:=P) (cx:=cx) (Q:=Q) (fun m env H=>∃e H1,env=e++B/\H=H1++R/\I m e H1) n ⟨e0,H0,V,V,h0⟩ ?_ a w ⟨G.size,G.defers,G.fit,G.sat.perm W.perm⟩;rintro m env H ⟨e,H1,rfl,rfl,U⟩ a w G;refine wpIn_mono (g m e H1 U a w G) fun x Z w' hx=>?_;cases x<;>first|exact hx|(obtain ⟨X,e',H',a0,J,h2,K,O⟩:=hx;exact ⟨X,e'++B,H'++R,a0,J,⟨e',H',rfl,rfl,h2⟩,K,O⟩)
theorem Af{I:Nat->Env->Hp->Prop}{B e':Env}{R H':Hp}{n m:Nat}(h:I m e' H')(G:m<n:=by omega)(J:Sub (H'++R) H:=by repeat(first|exact Sub.refl _|exact Sub.nil _|(apply Sub.cons;(focus (repeat(first|exact One.here _ _|apply One.there))))|refine Sub.drop _ ?_)):Nx cx ((Exit.then (vg cx I B R n) Q) .normal) (e'++B) H:=fun a _ g=>⟨m,e',H',a,G,h,⟨g.size,g.defers,g.fit,g.sat.sub J.amid⟩,rfl⟩
end
def wpL(F:Fence)(P:Program)(ops:Array Oper)(Q:Exit->Act->A4->Prop):List Oper->Act->A4->Prop
 |[],a,w=>Q .normal a w
 |o::l,a,w=>if Region.wanted o (yielded ops a.tmps)then o.wpIn F 0 P a w (wpL F P ops Q l) Q else wpL F P ops Q l (a.put o.dst undef) w
theorem oM{r:Option Nat}{P:Program}{ops:Array Oper}{Q:Exit->Act->A4->Prop}:∀(l:List Oper) (j:Nat),(∀i,l[i]?=ops[j+i]?)->∀a w,wpL (Fx r) P ops Q l a w->wpOpsIn (Fx r) 0 P ops Q (List.range' j l.length) a w
 |[],_,_,_,_,h=>h
 |o::l,j,hl,a,w,h=>by
  have h0:=hl 0;simp only [Pu,cL]at h0;have g:∀a w,wpL (Fx r) P ops Q l a w->wpOpsIn (Fx r) 0 P ops Q (List.range' (j+1) l.length) a w:=fun a w=>oM l (j+1) (fun i=>by
   have:=hl (i+1);simp only [dj]at this;rw [this];congr 1;omega) a w
  simp only [EV,qu,wpOpsIn,<-h0];simp only [wpL]at h;split at h;· rename_i hw;rw [B0 hw];exact Oper.wpIn_mono g h
  · rename_i hw;rw [As hw];exact ⟨fun _ _=>trivial,g _ _ h⟩
def Ops(P:Program)(ops:Array Oper)(l:List Oper)(cx:Cx)(Q:Exit->Act->A4->Prop)(env:Env)(H:Hp):Prop:=∀a w,St cx env H a w->wpL (Fx cx.r) P ops Q l (C9 env a) w
theorem nz{P:Program}{cx:Cx}{Q:Exit->Act->A4->Prop}{env:Env}{H:Hp}{id:Nat}{ops:Array Oper}(h:Ops P ops ops.toList cx Q env H):At P cx (.region id ops false) Q env H:=fun a w g=>by
 refine wpIn_region ?_;have:=oM ops.toList 0 (fun i=>by simp) _ _ (h a w g)
 rwa [V1,<-ph]at this
def OpP(P:Program)(o:Oper)(env:Env)(C:List A8)(v:A2):Prop:=∀(a:Act) (w:A4),(∀p∈C,w.heap[p.1]?=some p.2)->(execOp (ev a env) o).run P w= .ok (.value v) w
def Ui(P:Program)(K:A2->A4->Prop)(Kp:List PanicEntry->A4->Prop):Result Next->Prop
 | .ok (.value v) w=>K v w
 | .ok .skip w=>K undef w
 | .ok (.enter f args) w=>Calls P f args w fun e w'=>match e with
   | .returned v=>K v w'
   | .panicked ch=>Kp ch w'
   | .outgrown=>False
 | .ok (.round l f tmps assign body) w=>RoundIn Fence.wide 0 P l f tmps assign body w fun e w'=>match e with
   | .returned v=>K v w'
   | .panicked ch=>Kp ch w'
   | .outgrown=>False
 | .halt (.panic v) w=>Kp [{v,recovered:=false}] w
 |_=>False
def OpW(P:Program)(u:A4)(o:Oper)(env:Env)(H:Hp)(GV:A2->Hp->Prop)(Pan:List PanicEntry->Hp->Prop):Prop:=
 ∀(a:Act) (w:A4),Sat u H w->∀(K:A2->A4->Prop) (Kp:List PanicEntry->A4->Prop),(∀v H' w',GV v H'->Sat u H' w'->K v w')->(∀ch H' w',Pan ch H'->Sat u H' w'->Kp ch w')->Ui P K Kp ((execOp (ev a env) o).run P w)
theorem XW{r:Option Nat}{P:Program}{f:FuncId}{args:AM}{w:A4}{R:Ending->A4->Prop}(h:Calls P f args w R):CallsIn (Fx r) 0 P f args w R:=⟨trivial,fun cs _=>by
 obtain ⟨e,B,fr,g,h2,m⟩:=h cs;exact ⟨e,B,fr,g,(comesIn_wide (P:=P)).2 h2,m⟩⟩
theorem WR{P:Program}{r:Option Nat}{o:Oper}{a:Act}{K:Act->A4->Prop}{Q:Exit->Act->A4->Prop}{R:Result Next}
 (h:Ui P (fun v w=>K (a.put o.dst v) w) (fun ch w=>Q (.panic ch) a w) R):o.uponIn (Fx r) 0 P a K Q R:=by
 unfold Ui at h;cases R with
 |ok n w=>
  cases n<;>simp only [Oper.uponIn]at h⊢<;>first|exact h|skip
  · refine ⟨fun h=>by simp [Fx,Fence.wide]at h,XW (Calls.mono h fun e m g=>?_)⟩
    cases e<;>first|exact g|exact g.elim
  · refine ⟨fun h=>by simp [Fx,Fence.wide]at h,?_⟩
    exact RoundIn.mono (F:=Fx r) h fun e m g=>by cases e<;>first|exact g|exact g.elim
 |halt x w=>cases x<;>simp only [Oper.uponIn]at h⊢<;>exact h
theorem Rh{r:Option Nat}{o:Oper}{ρ:Operand->A2}(h:∀c,o.op≠ .defer c):o.semAt (Fx r).round ρ=execOp ρ o:=Oper.semAt_eq _ _ _ h
def E5:Op->Bool
 | .defer _=>false
 |_=>true
theorem Lj{o:Op}(h:E5 o=true)(c:Call):o≠ .defer c:=by intro e;subst e;simp [E5]at h
section
variable{P:Program}{ops:Array Oper}{l:List Oper}{cx:Cx}{Q:Exit->Act->A4->Prop}{env:Env}{H:Hp}{o:Oper}
theorem xK(h:Nx cx (Q .normal) env H):Ops P ops [] cx Q env H:=h
theorem JY{GV:A2->Hp->Prop}{G:List PanicEntry->Hp->Prop}(K:∀a,wantedE ops a env o.guard=true)(J:∀t,o.dst=some t->t<cx.N)(hn:E5 o.op=true)(U:OpW P cx.u o env H GV G)
 (h:∀v H',GV v H'->Ops P ops l cx Q (putE o.dst v env) H')(O:∀ch H',G ch H'->∀env,Nx cx (Q (.panic ch)) env H'):Ops P ops (o::l) cx Q env H:=fun a w m=>by
 have B:Fit a.tmps.size env:=by rw [m.size];exact m.fit
 simp only [wpL];rw [Fy ops o a env B,K a,B0 rfl];refine ⟨fun _ _=>trivial,WR ?_⟩;rw [Rh (Lj hn),FU a env B];refine U a w m.sat _ _ (fun v H' I hv g=>?_) (fun ch H' I hv g=>?_)
 · rw [<-Ph]
   exact h v H' hv a I ⟨m.size,m.defers,m.fit.putE J v,g⟩
 · exact O ch H' hv env a I ⟨m.size,m.defers,m.fit,g⟩
theorem OpP.eff{C:List A8}{v:A2}(h:OpP P o env C v){u:A4}(m:∀p∈C,p∈H.flatten):OpW P u o env H (fun I H'=>I=v/\H'=H) (fun _ _=>False):=fun a w g K J B _=>by
 rw [h a w fun p G=>g.get p (m p G)];exact B _ _ _ ⟨V,V⟩ g
end
def fits(n:Nat):Option Nat->Bool
 |some d=>Nat.blt d n
 |none=>true
theorem R9{n:Nat}{d:Option Nat}(h:fits n d=true)(t:Nat)(g:d=some t):t<n:=by subst g;simpa [fits]using h
section
variable{P:Program}{ops:Array Oper}{l:List Oper}{cx:Cx}{Q:Exit->Act->A4->Prop}{env:Env}{H:Hp}
theorem KY{d:Nat}{g:Op}{ty:AK}{pos:String}{af:Array Edge}{v:A2}(h:OpP P ⟨some d,g,ty,pos,af,none⟩ env [] v)(hn:E5 g=true)(m:Nat.blt d cx.N=true)
 (k:Ops P ops l cx Q ((d,v)::env) H):Ops P ops (⟨some d,g,ty,pos,af,none⟩::l) cx Q env H:=
 JY (fun _=>rfl) (fun t B=>by cases B;simpa using m) hn (h.eff (u:=cx.u) (H:=H) B6) (by rintro _ _ ⟨rfl,rfl⟩;exact k) (fun _ _ h=>h.elim)
theorem Ba{d:Nat}{g:Op}{ty:AK}{pos:String}{af:Array Edge}{v:A2}(h:OpP P ⟨some d,g,ty,pos,af,none⟩ env [] v)
 (k:Ops P ops l cx Q ((d,v)::env) H)(hn:E5 g=true:=by exact rfl)(m:Nat.blt d cx.N=true:=by exact rfl):Ops P ops (⟨some d,g,ty,pos,af,none⟩::l) cx Q env H:=KY h hn m k
theorem rh{d:Nat}{g:Op}{ty:AK}{pos:String}{af:Array Edge}{v:A2}{b:Nat}{o:Obj}(m:Has b o H)(h:OpP P ⟨some d,g,ty,pos,af,none⟩ env [(b,o)] v)(hn:E5 g=true)(B:Nat.blt d cx.N=true)
 (k:Ops P ops l cx Q ((d,v)::env) H):Ops P ops (⟨some d,g,ty,pos,af,none⟩::l) cx Q env H:=
 JY (fun _=>rfl) (fun t G=>by cases G;simpa using B) hn (h.eff (u:=cx.u) (H:=H) (by simpa using m.mem)) (by rintro _ _ ⟨rfl,rfl⟩;exact k) (fun _ _ h=>h.elim)
theorem HY{d:Nat}{m:Op}{ty:AK}{pos:String}{af:Array Edge}{g:Nat×Bool}{v:A2}(G:∀a,wantedE ops a env (some g)=true)(h:OpP P ⟨some d,m,ty,pos,af,some g⟩ env [] v)(hn:E5 m=true)(B:Nat.blt d cx.N=true)
 (k:Ops P ops l cx Q ((d,v)::env) H):Ops P ops (⟨some d,m,ty,pos,af,some g⟩::l) cx Q env H:=
 JY G (fun t I=>by cases I;simpa using B) hn (h.eff (u:=cx.u) (H:=H) B6) (by rintro _ _ ⟨rfl,rfl⟩;exact k) (fun _ _ h=>h.elim)
theorem DY{d:Nat}{m:Op}{ty:AK}{pos:String}{af:Array Edge}{g:Nat×Bool}{v:A2}{b:Nat}{o:Obj}(I:∀a,wantedE ops a env (some g)=true)(B:Has b o H)(h:OpP P ⟨some d,m,ty,pos,af,some g⟩ env [(b,o)] v)(hn:E5 m=true)(G:Nat.blt d cx.N=true)
 (k:Ops P ops l cx Q ((d,v)::env) H):Ops P ops (⟨some d,m,ty,pos,af,some g⟩::l) cx Q env H:=
 JY I (fun t J=>by cases J;simpa using G) hn (h.eff (u:=cx.u) (H:=H) (by simpa using B.mem)) (by rintro _ _ ⟨rfl,rfl⟩;exact k) (fun _ _ h=>h.elim)
theorem A7{d:Option Nat}{J:Op}{ty:AK}{pos:String}{af:Array Edge}{g:Nat×Bool}(I:∀a,wantedE ops a env (some g)=false)(G:fits cx.N d=true)
 (k:Ops P ops l cx Q (putE d undef env) H):Ops P ops (⟨d,J,ty,pos,af,some g⟩::l) cx Q env H:=fun a w m=>by
 have B:Fit a.tmps.size env:=by rw [m.size];exact m.fit
 simp only [wpL];rw [Fy ops _ a env B,I a,As B6,<-Ph];exact k a w ⟨m.size,m.defers,m.fit.putE (R9 G) _,m.sat⟩
theorem Ae{t:Nat}{p:Prop} [U:Decidable p](hv:∀a,GA a env t= .bool (decide p))(G:Nat.blt t cx.N=true)(O:p->Ops P ops l cx Q ((t,.bool true)::env) H)(K:¬p->Ops P ops l cx Q ((t,.bool false)::env) H):Ops P ops l cx Q env H:=fun a w g=>by
 have m:Fit a.tmps.size env:=by rw [g.size];exact g.fit
 have key:∀b,GA a env t= .bool b->C9 ((t,.bool b)::env) a=C9 env a:=fun b J=>by
  have:=Sw m [(t,.bool b)] (by intro q I;simp only [CH]at I;subst I;exact ⟨by rw [g.size];simpa using G,J⟩);exact this
 by_cases B:p
 · rw [<-key true (by rw [hv a,DO B])];exact O B a w ⟨g.size,g.defers,g.fit.cons G _,g.sat⟩
 · rw [<-key false (by rw [hv a,F0 B])];exact K B a w ⟨g.size,g.defers,g.fit.cons G _,g.sat⟩
theorem Ab{t:Nat}{b:Bool}(hv:∀a,GA a env t= .bool b)(g:Nat.blt t cx.N=true)(B:b=true->Ops P ops l cx Q ((t,.bool true)::env) H)(m:b=false->Ops P ops l cx Q ((t,.bool false)::env) H):Ops P ops l cx Q env H:=
 Ae (p:=b=true) (fun a=>by rw [hv a];cases b<;>rfl) g B (fun h=>m (by simpa using h))
end
end Gw
