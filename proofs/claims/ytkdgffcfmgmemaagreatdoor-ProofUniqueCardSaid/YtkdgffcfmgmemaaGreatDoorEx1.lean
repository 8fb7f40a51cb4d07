/- Walking Go code over a heap that is told by chunks: the judgement, the rules for code, for regions of fixed order, and for regions that draw their order. No function of the program is named. -/
import Derived.Test.YtkdgffcfmgmemaaGreatDoorA0
import Derived.OrdersIn
import Derived.RangeFuncCalls
import Derived.Below
import Derived.WalkKit
set_option linter.unusedVariables false
set_option linter.unusedSimpArgs false
namespace Gw
open Go Go.RowKit
abbrev AR:=Nat×Obj
abbrev Env:=List (Nat×Value)
abbrev Hp:=List (List AR)
structure Sat(u:World)(H:Hp)(w:World):Prop where
 os:w.os=u.os
 tape:w.tape=u.tape
 output:w.output=u.output
 nodup:(H.flatten.map (·.1)).Nodup
 get:∀p∈H.flatten,w.heap[p.1]?=some p.2
theorem Sat.lt{u w:World}{H:Hp}(h:Sat u H w){p:AR}(hp:p∈H.flatten):p.1<w.heap.size:=by
 have:=h.get p hp;rcases uJ p.1 w.heap.size with h1|h1
 · exact h1
 · simp [uT h1]at this
theorem Sat.perm{u w:World}{H H':Hp}(h:Sat u H w)(hp:H.flatten.Perm H'.flatten):Sat u H' w:=
 ⟨h.os,h.tape,h.output,(hp.map _).nodup_iff.1 h.nodup,fun p hm=>h.get p (hp.mem_iff.2 hm)⟩
def lC(H' H:Hp):Prop:=∃R:List AR,H.flatten.Perm (H'.flatten++R)
theorem Sat.sub{u w:World}{H H':Hp}(h:Sat u H w)(hp:lC H' H):Sat u H' w:=by
 obtain ⟨R,hp⟩:=hp;refine ⟨h.os,h.tape,h.output,?_,fun p hm=>h.get p (hp.mem_iff.2 (u6 _ hm))⟩;have:=(hp.map (·.1)).nodup_iff.1 h.nodup
 rw [uK]at this;exact (wD.1 this).1
theorem Sat.drew{u w:World}{H:Hp}(h:Sat u H w):Sat u H {w with drawn:=w.drawn+1}:=⟨h.os,h.tape,h.output,h.nodup,h.get⟩
theorem Sat.drawn{u w:World}{H:Hp}(h:Sat u H w)(n:Nat):Sat u H {w with drawn:=n}:=⟨h.os,h.tape,h.output,h.nodup,h.get⟩
theorem Sat.below{u w w':World}{H:Hp}(h:Sat u H w)(hb:Below w.heap.size w w'):Sat u H w':=
 ⟨hb.os.trans h.os,hb.tape.trans h.tape,hb.output.trans h.output,h.nodup,fun p hp=>(hb.block p.1 (h.lt hp)).trans (h.get p hp)⟩
theorem Sat.alloc{u w:World}{H:Hp}(h:Sat u H w)(o:Obj):Sat u ([(w.heap.size,o)]::H) {w with heap:=w.heap.push o}:=by
 refine ⟨h.os,h.tape,h.output,?_,?_⟩
 · simp only [uG,uU,uo,xg]
   refine ⟨fun hm=>?_,h.nodup⟩;obtain ⟨p,hp,e⟩:=uh.1 hm;have:=h.lt hp
   omega
 · intro p hp
   simp only [uG,uU,uI]at hp;rcases hp with rfl|hp
   · simp
   · have:=h.lt hp
     show(w.heap.push o)[p.1]?=_;rw [Array.getElem?_push,if_neg (by omega)];exact h.get p hp
inductive One:List AR→Hp→Hp→Prop
 |here (s:List AR) (H:Hp):One s (s::H) H
 |there {s:List AR} {H R:Hp} (t:List AR) (h:One s H R):One s (t::H) (t::R)
inductive FB:Hp→Hp→Hp→Prop
 |nil (H:Hp):FB [] H H
 |cons {s:List AR} {L H H1 R:Hp} (h:One s H H1) (h2:FB L H1 R):FB (s::L) H R
inductive Sub:Hp→Hp→Prop
 |refl (H:Hp):Sub H H
 |nil (H:Hp):Sub [] H
 |drop {L H:Hp} (t:List AR) (h:Sub L H):Sub L (t::H)
 |cons {s:List AR} {L H H1:Hp} (h:One s H H1) (h2:Sub L H1):Sub (s::L) H
inductive Has(b:Nat)(o:Obj):Hp→Prop
 |here (H:Hp):Has b o ([(b,o)]::H)
 |there {H:Hp} (t:List AR) (h:Has b o H):Has b o (t::H)
inductive Upd(b:Nat)(o o':Obj):Hp→Hp→Prop
 |here (H:Hp):Upd b o o' ([(b,o)]::H) ([(b,o')]::H)
 |there {H H':Hp} (t:List AR) (h:Upd b o o' H H'):Upd b o o' (t::H) (t::H')
theorem One.perm{s:List AR}{H R:Hp}(h:One s H R):H.flatten.Perm (s++R.flatten):=by
 induction h with
 |here H=>simp
 |there t h ih=>
  simp only [uG];refine (wQ t ih).trans ?_;rw [←tO,←tO];exact List.Perm.append_right _ uj
theorem FB.perm{L H R:Hp}(h:FB L H R):H.flatten.Perm (L++R).flatten:=by
 induction h with
 |nil H=>simp
 |cons h h2 ih=>
  refine h.perm.trans ?_;simp only [wH,uG];exact wQ _ ih
theorem FB.amid{L H R:Hp}(h:FB L H R):lC L H:=⟨R.flatten,by have:=h.perm;rwa [uW]at this⟩
theorem Sub.amid{L H:Hp}(h:Sub L H):lC L H:=by
 induction h with
 |refl H=>exact ⟨[],by simp⟩
 |nil H=>exact ⟨H.flatten,by simp⟩
 |drop t h ih=>
  obtain ⟨R,hR⟩:=ih;refine ⟨t++R,?_⟩;simp only [uG];refine (wQ t hR).trans ?_;rw [←tO,←tO];exact List.Perm.append_right _ uj
 |cons h h2 ih=>
  obtain ⟨R,hR⟩:=ih;refine ⟨R,h.perm.trans ?_⟩;simp only [uG,tO];exact wQ _ hR
theorem Has.mem{b:Nat}{o:Obj}{H:Hp}(h:Has b o H):(b,o)∈H.flatten:=by
 induction h with
 |here H=>simp
 |there t h ih=>simp only [uG,uF];exact .inr ih
theorem Upd.has{b:Nat}{o o':Obj}{H H':Hp}(h:Upd b o o' H H'):Has b o H:=by
 induction h with
 |here H=>exact .here _
 |there t h ih=>exact .there _ ih
theorem Upd.keys{b:Nat}{o o':Obj}{H H':Hp}(h:Upd b o o' H H'):H'.flatten.map (·.1)=H.flatten.map (·.1):=by
 induction h with
 |here H=>simp
 |there t h ih=>simp only [uG,uK,ih]
theorem Upd.mem{b:Nat}{o o':Obj}{H H':Hp}(h:Upd b o o' H H')(hn:(H.flatten.map (·.1)).Nodup):∀p∈H'.flatten,(p=(b,o'))∨(p.1≠b∧p∈H.flatten):=by
 induction h with
 |here H=>
  intro p hp;simp only [uG,uU,uI]at hp;rcases hp with rfl|hp
  · exact .inl rfl
  · refine .inr ⟨fun e=>?_,by simp [hp]⟩
    simp only [uG,uU,uo,xg]at hn;exact hn.1 (uh.2 ⟨p,hp,e⟩)
 |there t h ih=>
  rename_i H H';intro p hp;simp only [uG,uK]at hn;have hn2:=wD.1 hn
  simp only [uG,uF]at hp⊢;rcases hp with hp|hp
  · refine .inr ⟨fun e=>?_,.inl hp⟩
    exact hn2.2.2 p.1 (xP hp) b (uh.2 ⟨(b,o),h.has.mem,rfl⟩) e
  · rcases ih hn2.2.1 p hp with h1|h1
    · exact .inl h1
    · exact .inr ⟨h1.1,.inr h1.2⟩
theorem Sat.upd{u w:World}{H H':Hp}{b:Nat}{o o':Obj}(h:Sat u H w)(hu:Upd b o o' H H'){w':World}(h1:w'.os=w.os)(h2:w'.tape=w.tape)(h3:w'.output=w.output)
 (hb:w'.heap[b]?=some o')(hk:∀k,k≠b→w'.heap[k]?=w.heap[k]?):Sat u H' w':=by
 refine ⟨h1.trans h.os,h2.trans h.tape,h3.trans h.output,by rw [hu.keys];exact h.nodup,fun p hp=>?_⟩;rcases hu.mem h.nodup p hp with rfl|⟨hne,hm⟩
 · exact hb
 · rw [hk _ hne];exact h.get p hm
/- slots -/
def Ep(a:Act):Env→Nat→Value
 |[],t=>a.tmps.getD t undef
 |(d,v)::env,t=>cond (Nat.beq t d) v (Ep a env t)
def ev(a:Act)(env:Env):Operand→Value
 | .tmp t=>Ep a env t
 | .const v=>v
 | .global g=>I5 g
 | .func f=> .func (.func f) #[] #[]
def Bv:Env→Act→Act
 |[],a=>a
 |(d,v)::env,a=>(Bv env a).put (some d) v
def putE(d:Option Nat)(v:Value)(env:Env):Env:=
 match d with
 |some d=>(d,v)::env
 |none=>env
def yieldE(ops:Array Oper)(a:Act)(env:Env)(g:Nat)(want:Bool):Bool:=
 match(ops[g]?).bind (·.dst)with
 |some t=>match Ep a env t with
  | .bool b=>b==want
  |_=>false
 |none=>false
def wantedE(ops:Array Oper)(a:Act)(env:Env):Option (Nat×Bool)→Bool
 |none=>true
 |some (g,want)=>yieldE ops a env g want
theorem Dt(a:Act)(d:Option Tmp)(v:Value):(a.put d v).tmps.size=a.tmps.size:=by cases d<;>simp [Act.put]
theorem JE(a:Act)(d:Option Tmp)(v:Value):(a.put d v).defers=a.defers:=by cases d<;>simp [Act.put]
theorem IV(a:Act)(d:Option Tmp)(v:Value)(t:Nat)(ht:t<a.tmps.size):(a.put d v).tmps[t]?=if d=some t then some v else a.tmps[t]?:=by
 cases d with
 |none=>simp [Act.put]
 |some d=>
  simp only [Act.put,xN];by_cases e:d=t
  · subst e;simp [ht]
  · simp [e]
theorem Ib{a b:Act}(hs:a.tmps.size=b.tmps.size)(hd:a.defers=b.defers)(h:∀t,t<a.tmps.size→a.tmps[t]?=b.tmps[t]?):a=b:=by
 obtain ⟨x,d⟩:=a;obtain ⟨y,e⟩:=b;simp only at hd hs h;subst hd;congr 1;apply Array.ext hs;intro i hi hj;have:=h i hi
 simp only [tu hi,tu hj,wZ]at this;exact this
theorem Ij(a:Act):∀env,(Bv env a).tmps.size=a.tmps.size
 |[]=>rfl
 |(d,v)::env=>by simp only [Bv];rw [Dt,Ij a env]
theorem Ey(a:Act):∀env,(Bv env a).defers=a.defers
 |[]=>rfl
 |(d,v)::env=>by simp only [Bv];rw [JE,Ey a env]
theorem kY{t d:Nat}(h:t≠d):Nat.beq t d=false:=by
 cases e:Nat.beq t d with
 |false=>rfl
 |true=>exact absurd (yo e) h
def Fit(n:Nat)(env:Env):Prop:=∀x∈env,x.1<n
theorem Bu(a:Act):∀(env:Env),Fit a.tmps.size env→∀t,(Bv env a).tmps.getD t undef=Ep a env t
 |[],_,t=>rfl
 |(d,v)::env,h,t=>by
  simp only [Bv,Ep];have ih:=Bu a env (fun x hx=>h x (ug _ hx)) t
  have hd:=h (d,v) (uz ..);rw [uM]at ih⊢;by_cases ht:t<a.tmps.size
  · rw [IV _ _ _ _ (by rw [Ij];exact ht)]
    by_cases e:t=d
    · subst e;simp
    · have:Nat.beq t d=false:=kY e
      rw [this,cond_false,if_neg (fun he=>e (wN he).symm),ih]
  · rw [uT (by rw [Dt,Ij];omega)]
    rw [uT (by rw [Ij];omega)]at ih;have:Nat.beq t d=false:=kY (by simp only at hd;omega)
    rw [this,cond_false,←ih]
theorem El(a:Act)(env:Env)(h:Fit a.tmps.size env):(Bv env a).eval=ev a env:=by
 funext x;cases x with
 |tmp t=>exact Bu a env h t
 |_=>rfl
theorem FP(ops:Array Oper)(o:Oper)(a:Act)(env:Env)(h:Fit a.tmps.size env):Region.wanted o (yielded ops (Bv env a).tmps)=wantedE ops a env o.guard:=by
 unfold Region.wanted wantedE;cases hg:o.guard with
 |none=>rfl
 |some gw=>
  obtain ⟨g,want⟩:=gw;simp only [yielded,yieldE];cases ht:(ops[g]?).bind (·.dst)with
  |none=>simp
  |some t=>
   simp only [uy];rw [←Bu a env h t,uM];cases hv:(Bv env a).tmps[t]?with
   |none=>simp [undef]
   |some v=>cases v<;>simp
/- the judgement -/
structure Cx where
 N:Nat
 D:List Deferred
 u:World
 r:Option Nat
def Fx(r:Option Nat):Fence:={Fence.wide with round:=r}
structure St(cx:Cx)(env:Env)(H:Hp)(a:Act)(w:World):Prop where
 size:a.tmps.size=cx.N
 defers:a.defers=cx.D
 fit:Fit cx.N env
 sat:Sat cx.u H w
def At(P:Program)(cx:Cx)(c:Code)(Q:Exit→Act→World→Prop)(env:Env)(H:Hp):Prop:=∀a w,St cx env H a w→c.wpIn (Fx cx.r) 0 P Q (Bv env a) w
def Nx(cx:Cx)(Q:Act→World→Prop)(env:Env)(H:Hp):Prop:=∀a w,St cx env H a w→Q (Bv env a) w
theorem Fit.cons{n:Nat}{env:Env}(h:Fit n env){d:Nat}(hd:Nat.blt d n=true)(v:Value):Fit n ((d,v)::env):=by
 intro x hx;rcases uI.1 hx with rfl|hx
 · simpa using hd
 · exact h x hx
theorem Fit.putE{n:Nat}{env:Env}(h:Fit n env){d:Option Nat}(hd:∀t,d=some t→t<n)(v:Value):Fit n (putE d v env):=by
 cases d with
 |none=>exact h
 |some d=>
  intro x hx;rcases uI.1 hx with rfl|hx
  · exact hd d rfl
  · exact h x hx
theorem O5(d:Option Nat)(v:Value)(env:Env)(a:Act):Bv (putE d v env) a=(Bv env a).put d v:=by cases d<;>rfl
/- states told otherwise -/
theorem Ql{a:Act}{env:Env}(hf:Fit a.tmps.size env):∀(sl:Env),(∀p∈sl,p.1<a.tmps.size∧Ep a env p.1=p.2)→Bv sl (Bv env a)=Bv env a
 |[],_=>rfl
 |(d,v)::sl,h=>by
  simp only [Bv];rw [Ql hf sl (fun p hp=>h p (ug _ hp))];obtain ⟨h1,h2⟩:=h (d,v) (uz ..);refine Ib (by rw [Dt]) (by rw [JE]) fun t ht=>?_;rw [Dt]at ht;rw [IV _ _ _ _ ht];split
  · rename_i e
    cases e;have:=Bu a env hf d
    rw [uM,tu ht]at this;rw [tu ht];simp only [yL]at this;rw [this];exact congrArg some h2.symm
  · rfl
def JB(a:Act)(env:Env):List Nat→Env
 |[]=>[]
 |t::l=>(t,Ep a env t)::JB a env l
theorem Kb{a:Act}{env:Env}:∀{l:List Nat} {p:Nat×Value},p∈JB a env l→p.1∈l∧Ep a env p.1=p.2
 |[],_,h=>by cases h
 |t::l,p,h=>by
  simp only [JB,uI]at h;rcases h with rfl|h
  · exact ⟨uz ..,rfl⟩
  · exact ⟨ug _ (Kb h).1,(Kb h).2⟩
theorem St.slots{cx:Cx}{env env':Env}{H:Hp}{a:Act}{w:World}(h:St cx env H a w)(sl:List Nat)(hn:sl.all (fun t=>Nat.blt t cx.N)=true)(he:∀a,JB a env sl=env'):∃a',St cx env' H a' w∧Bv env' a'=Bv env a:=by
 have hlt:∀p∈env',p.1<cx.N∧Ep a env p.1=p.2:=fun p hp=>by
  rw [←he a]at hp;obtain ⟨h1,h2⟩:=Kb hp;have:=vL.1 hn _ h1
  exact ⟨by simpa using this,h2⟩
 refine ⟨Bv env a,⟨by rw [Ij];exact h.size,by rw [Ey];exact h.defers,fun p hp=>(hlt p hp).1,h.sat⟩,Ql (by rw [h.size];exact h.fit) _ fun p hp=>?_⟩;rw [h.size];exact hlt p hp
theorem ko{P:Program}{cx:Cx}{c:Code}{Q:Exit→Act→World→Prop}{env env':Env}{H:Hp}(sl:List Nat)(hn:sl.all (fun t=>Nat.blt t cx.N)=true)(he:∀a,JB a env sl=env')(h:At P cx c Q env' H):At P cx c Q env H:=fun a w hs=>by
 obtain ⟨a',h1,h2⟩:=hs.slots sl hn he;rw [←h2];exact h a' w h1
theorem jA{cx:Cx}{Q:Act→World→Prop}{env env':Env}{H:Hp}(sl:List Nat)(hn:sl.all (fun t=>Nat.blt t cx.N)=true)(he:∀a,JB a env sl=env')(h:Nx cx Q env' H):Nx cx Q env H:=fun a w hs=>by
 obtain ⟨a',h1,h2⟩:=hs.slots sl hn he;rw [←h2];exact h a' w h1
theorem St.heap{cx:Cx}{env:Env}{H H':Hp}{a:Act}{w:World}(h:St cx env H a w)(hp:lC H' H):St cx env H' a w:=⟨h.size,h.defers,h.fit,h.sat.sub hp⟩
theorem aS{P:Program}{cx:Cx}{c:Code}{Q:Exit→Act→World→Prop}{env:Env}{H H':Hp}(hp:H.flatten=H'.flatten)(h:At P cx c Q env H'):At P cx c Q env H:=fun a w hs=>h a w (hs.heap ⟨[],by rw [hp];simp⟩)
/- code -/
section
variable{P:Program}{cx:Cx}{Q:Exit→Act→World→Prop}{env:Env}{H:Hp}
theorem qC{x y:Code}(h:At P cx x (Exit.then (y.wpIn (Fx cx.r) 0 P Q) Q) env H):At P cx (.seq x y) Q env H:=fun a w hs=>wpIn_seq (h a w hs)
theorem mU{y:Code}(h:At P cx y Q env H):Nx cx ((Exit.then (y.wpIn (Fx cx.r) 0 P Q) Q) .normal) env H:=h
theorem mR{K:Act→World→Prop}{e:Exit}(he:e≠ .normal)(h:Nx cx (Q e) env H):Nx cx (Exit.then K Q e) env H:=by cases e<;>first|exact absurd rfl he|exact h
theorem AC(h:Nx cx (Q .normal) env H):At P cx .skip Q env H:=fun a w hs=>wpIn_skip (h a w hs)
theorem XA{l:Nat}(h:Nx cx (Q .normal) env H):At P cx (.label l) Q env H:=fun a w hs=>wpIn_label (h a w hs)
theorem A9(h:Nx cx (Q .ret) env H):At P cx .ret Q env H:=fun a w hs=>wpIn_ret (h a w hs)
theorem Ar{i:Nat}(h:Nx cx (Q (.exit i)) env H):At P cx (.exit i) Q env H:=fun a w hs=>wpIn_exit (h a w hs)
theorem AQ{i:Nat}{c:Code}(h:At P cx c (Exit.inBlock i Q) env H):At P cx (.block i c) Q env H:=fun a w hs=>wpIn_block (h a w hs)
theorem A8{i:Nat}(h:Nx cx (Q .normal) env H):Nx cx (Exit.inBlock i Q .normal) env H:=h
theorem AO{i:Nat}(h:Nx cx (Q .normal) env H):Nx cx (Exit.inBlock i Q (.exit i)) env H:=fun a w hs=>by simp only [Exit.inBlock,if_true];exact h a w hs
theorem Ap{i j:Nat}(hn:Nat.beq j i=false)(h:Nx cx (Q (.exit j)) env H):Nx cx (Exit.inBlock i Q (.exit j)) env H:=fun a w hs=>by
 have:j≠i:=fun e=>by subst e;simp at hn
 simp only [Exit.inBlock,if_neg this];exact h a w hs
theorem AY{i:Nat}(h:Nx cx (Q .ret) env H):Nx cx (Exit.inBlock i Q .ret) env H:=h
theorem aL{a:Act}{x:Operand}{v:Value}{w:World}(hs:St cx env H a w)(h:∀a,ev a env x=v):(Bv env a).eval x=v:=by
 rw [El a env (by rw [hs.size];exact hs.fit)];exact h a
theorem Ao{x y:Code}{c:Operand}{p:Prop} [hd:Decidable p](hc:∀a,ev a env c= .bool (decide p))(ht:p→At P cx x Q env H)(hf:¬p→At P cx y Q env H):At P cx (.cond c x y) Q env H:=fun a w hs=>by
 refine wpIn_cond_split (t:=decide p) (aL hs hc) (fun h=>ht (of_decide_eq_true h) a w hs) (fun h=>hf (of_decide_eq_false h) a w hs)
theorem Af{x y:Code}{c:Operand}{b:Bool}(hc:∀a,ev a env c= .bool b)(ht:b=true→At P cx x Q env H)(hf:b=false→At P cx y Q env H):At P cx (.cond c x y) Q env H:=fun a w hs=>
 wpIn_cond_split (aL hs hc) (fun h=>ht h a w hs) (fun h=>hf h a w hs)
theorem CE{x y:Code}{c:Operand}(hc:∀a,ev a env c= .bool true)(h:At P cx x Q env H):At P cx (.cond c x y) Q env H:=fun a w hs=>wpIn_cond_true (aL hs hc) (h a w hs)
theorem Di{x y:Code}{c:Operand}(hc:∀a,ev a env c= .bool false)(h:At P cx y Q env H):At P cx (.cond c x y) Q env H:=fun a w hs=>wpIn_cond_false (aL hs hc) (h a w hs)
def sD(cx:Cx)(I:Nat→Env→Hp→Prop)(n:Nat)(a:Act)(w:World):Prop:=∃m env H a0,m<n∧I m env H∧St cx env H a0 w∧a=Bv env a0
theorem nV{c:Code}(I:Nat→Env→Hp→Prop)(n:Nat)(h0:I n env H)(round:∀n env H,I n env H→At P cx c (Exit.then (sD cx I n) Q) env H):At P cx (.loop c) Q env H:=by
 intro a w hs b k cs hro hb hr;have key:∀n env H a w,I n env H→St cx env H a w→
  ∃e a' w',Q e a' w'∧ArrivesIn (Machine.fenced P (Fx cx.r)) P (lone (b.atR (Bv env a) (.code c:: .inLoop c::k)) cs w) b k cs e a' w':=by
  intro n;induction n using Nat.strongRecOn with
  |_ n ih=>
   intro env H a w hI hs;obtain ⟨e,a₁,w₁,hq,harr⟩:=round n env H hI a w hs b (.inLoop c::k) cs hro hb hr;cases e with
   |normal=>
    obtain ⟨m,env',H',a0,hlt,hI',hs',rfl⟩:=hq;obtain ⟨e₂,a₂,w₂,hq₂,harr₂⟩:=ih m hlt env' H' a0 w₁ hI' hs';exact ⟨e₂,a₂,w₂,hq₂,.of_steps (StepsIn.trans harr (.one (fenced_calm hb hr rfl) stepR_inLoop)) harr₂⟩
   |exit id=>exact ⟨_,a₁,w₁,hq,.pass (x:= .inLoop c) rfl (fun _ _=> .inl (by simp)) harr⟩
   |goto l=>exact ⟨_,a₁,w₁,hq,.pass (x:= .inLoop c) rfl (fun _ _=> .inl (by simp)) harr⟩
   |ret=>exact ⟨_,a₁,w₁,hq,.pass (x:= .inLoop c) rfl (fun _ _=> .inl (by simp)) harr⟩
   |panic ch=>exact ⟨_,a₁,w₁,hq,.pass (x:= .inLoop c) rfl (fun _ _=> .inl (by simp)) harr⟩
   |outgrown=>exact ⟨_,a₁,w₁,hq,.pass (x:= .inLoop c) rfl (fun _ _=> .inl (by simp)) harr⟩
 obtain ⟨e,a',w',hq,harr⟩:=key n env H a w h0 hs;exact ⟨e,a',w',hq,.of_steps (.one (fenced_calm hb hr rfl) stepR_loop) harr⟩
def lD(cx:Cx)(I:Nat→Env→Hp→Prop)(B:Env)(R:Hp)(n:Nat)(a:Act)(w:World):Prop:=∃m e H a0,m<n∧I m e H∧St cx (e++B) (H++R) a0 w∧a=Bv (e++B) a0
theorem Az{c:Code}{e0 B:Env}{H0 R:Hp}(I:Nat→Env→Hp→Prop){n:Nat}(h0:I n e0 H0)(hp:FB H0 H R)(round:∀n e H,I n e H→At P cx c (Exit.then (lD cx I B R n) Q) (e++B) (H++R)):At P cx (.loop c) Q (e0++B) H:=fun a w hs=>by
 refine nV (P:=P) (cx:=cx) (Q:=Q) (fun m env H=>∃e H1,env=e++B∧H=H1++R∧I m e H1) n ⟨e0,H0,rfl,rfl,h0⟩ ?_ a w ⟨hs.size,hs.defers,hs.fit,hs.sat.perm hp.perm⟩;rintro m env H ⟨e,H1,rfl,rfl,hI⟩ a w hs;refine wpIn_mono (round m e H1 hI a w hs) fun x a' w' hx=>?_;cases x<;>first|exact hx|(obtain ⟨m',e',H',a0,h1,h2,h3,h4⟩:=hx;exact ⟨m',e'++B,H'++R,a0,h1,⟨e',H',rfl,rfl,h2⟩,h3,h4⟩)
theorem Ab{I:Nat→Env→Hp→Prop}{B e':Env}{R H':Hp}{n m:Nat}(h:I m e' H')(hm:m<n:=by omega)(hp:Sub (H'++R) H:=by repeat(first|exact Sub.refl _|exact Sub.nil _|(apply Sub.cons;(focus (repeat(first|exact One.here _ _|apply One.there))))|refine Sub.drop _ ?_)):Nx cx ((Exit.then (lD cx I B R n) Q) .normal) (e'++B) H:=fun a _ hs=>⟨m,e',H',a,hm,h,⟨hs.size,hs.defers,hs.fit,hs.sat.sub hp.amid⟩,rfl⟩
end
/- regions of fixed order -/
def wpL(F:Fence)(P:Program)(ops:Array Oper)(Q:Exit→Act→World→Prop):List Oper→Act→World→Prop
 |[],a,w=>Q .normal a w
 |o::l,a,w=>if Region.wanted o (yielded ops a.tmps)then o.wpIn F 0 P a w (wpL F P ops Q l) Q else wpL F P ops Q l (a.put o.dst undef) w
theorem fU{r:Option Nat}{P:Program}{ops:Array Oper}{Q:Exit→Act→World→Prop}:∀(l:List Oper) (j:Nat),(∀i,l[i]?=ops[j+i]?)→∀a w,wpL (Fx r) P ops Q l a w→wpOpsIn (Fx r) 0 P ops Q (List.range' j l.length) a w
 |[],_,_,_,_,h=>h
 |o::l,j,hl,a,w,h=>by
  have h0:=hl 0;simp only [wU,vv]at h0;have ih:∀a w,wpL (Fx r) P ops Q l a w→wpOpsIn (Fx r) 0 P ops Q (List.range' (j+1) l.length) a w:=fun a w=>fU l (j+1) (fun i=>by
   have:=hl (i+1);simp only [wI]at this;rw [this];congr 1;omega) a w
  simp only [tY,yw,wpOpsIn,←h0];simp only [wpL]at h;split at h
  · rename_i hw;rw [if_pos hw];exact Oper.wpIn_mono ih h
  · rename_i hw;rw [if_neg hw];exact ⟨fun _ _=>trivial,ih _ _ h⟩
def Ops(P:Program)(ops:Array Oper)(l:List Oper)(cx:Cx)(Q:Exit→Act→World→Prop)(env:Env)(H:Hp):Prop:=∀a w,St cx env H a w→wpL (Fx cx.r) P ops Q l (Bv env a) w
theorem fI{P:Program}{cx:Cx}{Q:Exit→Act→World→Prop}{env:Env}{H:Hp}{id:Nat}{ops:Array Oper}(h:Ops P ops ops.toList cx Q env H):At P cx (.region id ops false) Q env H:=fun a w hs=>by
 refine wpIn_region ?_;have:=fU ops.toList 0 (fun i=>by simp) _ _ (h a w hs)
 rwa [w9,←zC]at this
def OpP(P:Program)(o:Oper)(env:Env)(C:List AR)(v:Value):Prop:=∀(a:Act) (w:World),(∀p∈C,w.heap[p.1]?=some p.2)→(execOp (ev a env) o).run P w= .ok (.value v) w
def SH(P:Program)(K:Value→World→Prop)(Kp:List PanicEntry→World→Prop):Result Next→Prop
 | .ok (.value v) w=>K v w
 | .ok .skip w=>K undef w
 | .ok (.enter f args) w=>Calls P f args w fun e w'=>match e with
   | .returned v=>K v w'
   | .panicked ch=>Kp ch w'
   | .outgrown=>False
 | .ok (.round l f tmps assign body) w=>RoundIn Fence.wide 0 P l f tmps assign body w fun e w'=>match e with
   | .returned v=>K v w'
   | .panicked ch=>Kp ch w'
   | .outgrown=>False
 | .halt (.panic v) w=>Kp [{v,recovered:=false}] w
 |_=>False
def OpW(P:Program)(u:World)(o:Oper)(env:Env)(H:Hp)(Ff:Value→Hp→Prop)(Pan:List PanicEntry→Hp→Prop):Prop:=
 ∀(a:Act) (w:World),Sat u H w→∀(K:Value→World→Prop) (Kp:List PanicEntry→World→Prop),(∀v H' w',Ff v H'→Sat u H' w'→K v w')→(∀ch H' w',Pan ch H'→Sat u H' w'→Kp ch w')→SH P K Kp ((execOp (ev a env) o).run P w)
theorem PW{r:Option Nat}{P:Program}{f:FuncId}{args:Array Value}{w:World}{R:Ending→World→Prop}(h:Calls P f args w R):CallsIn (Fx r) 0 P f args w R:=⟨trivial,fun cs _=>by
 obtain ⟨e,w',fr,h1,h2,h3⟩:=h cs;exact ⟨e,w',fr,h1,(comesIn_wide (P:=P)).2 h2,h3⟩⟩
theorem U1{P:Program}{r:Option Nat}{o:Oper}{a:Act}{K:Act→World→Prop}{Q:Exit→Act→World→Prop}{R:Result Next}
 (h:SH P (fun v w=>K (a.put o.dst v) w) (fun ch w=>Q (.panic ch) a w) R):o.uponIn (Fx r) 0 P a K Q R:=by
 unfold SH at h;cases R with
 |ok n w=>
  cases n<;>simp only [Oper.uponIn]at h⊢<;>first|exact h|skip
  · refine ⟨fun h=>by simp [Fx,Fence.wide]at h,PW (Calls.mono h fun e w' he=>?_)⟩
    cases e<;>first|exact he|exact he.elim
  · refine ⟨fun h=>by simp [Fx,Fence.wide]at h,?_⟩
    exact RoundIn.mono (F:=Fx r) h fun e w' he=>by cases e<;>first|exact he|exact he.elim
 |halt x w=>cases x<;>simp only [Oper.uponIn]at h⊢<;>exact h
theorem Pp{r:Option Nat}{o:Oper}{ρ:Operand→Value}(h:∀c,o.op≠ .defer c):o.semAt (Fx r).round ρ=execOp ρ o:=Oper.semAt_eq _ _ _ h
def Dk:Op→Bool
 | .defer _=>false
 |_=>true
theorem Kq{o:Op}(h:Dk o=true)(c:Call):o≠ .defer c:=by intro e;subst e;simp [Dk]at h
section
variable{P:Program}{ops:Array Oper}{l:List Oper}{cx:Cx}{Q:Exit→Act→World→Prop}{env:Env}{H:Hp}{o:Oper}
theorem mO(h:Nx cx (Q .normal) env H):Ops P ops [] cx Q env H:=h
theorem JK{Ff:Value→Hp→Prop}{Pan:List PanicEntry→Hp→Prop}(hg:∀a,wantedE ops a env o.guard=true)(hd:∀t,o.dst=some t→t<cx.N)(hn:Dk o.op=true)(hw:OpW P cx.u o env H Ff Pan)
 (h:∀v H',Ff v H'→Ops P ops l cx Q (putE o.dst v env) H')(hp:∀ch H',Pan ch H'→∀env,Nx cx (Q (.panic ch)) env H'):Ops P ops (o::l) cx Q env H:=fun a w hs=>by
 have hfit:Fit a.tmps.size env:=by rw [hs.size];exact hs.fit
 simp only [wpL];rw [FP ops o a env hfit,hg a,if_pos rfl];refine ⟨fun _ _=>trivial,U1 ?_⟩;rw [Pp (Kq hn),El a env hfit];refine hw a w hs.sat _ _ (fun v H' w' hv hsat=>?_) (fun ch H' w' hv hsat=>?_)
 · rw [←O5]
   exact h v H' hv a w' ⟨hs.size,hs.defers,hs.fit.putE hd v,hsat⟩
 · exact hp ch H' hv env a w' ⟨hs.size,hs.defers,hs.fit,hsat⟩
theorem OpP.eff{C:List AR}{v:Value}(h:OpP P o env C v){u:World}(hC:∀p∈C,p∈H.flatten):OpW P u o env H (fun v' H'=>v'=v∧H'=H) (fun _ _=>False):=fun a w hs K Kp hK _=>by
 rw [h a w fun p hp=>hs.get p (hC p hp)];exact hK _ _ _ ⟨rfl,rfl⟩ hs
end
def Rm(n:Nat):Option Nat→Bool
 |some d=>Nat.blt d n
 |none=>true
theorem PT{n:Nat}{d:Option Nat}(h:Rm n d=true)(t:Nat)(ht:d=some t):t<n:=by subst ht;simpa [Rm]using h
/- pure operations in a region of fixed order -/
section
variable{P:Program}{ops:Array Oper}{l:List Oper}{cx:Cx}{Q:Exit→Act→World→Prop}{env:Env}{H:Hp}
theorem JX{d:Nat}{op:Op}{ty:TypeId}{pos:String}{af:Array Edge}{v:Value}(h:OpP P ⟨some d,op,ty,pos,af,none⟩ env [] v)(hn:Dk op=true)(hd:Nat.blt d cx.N=true)
 (k:Ops P ops l cx Q ((d,v)::env) H):Ops P ops (⟨some d,op,ty,pos,af,none⟩::l) cx Q env H:=
 JK (fun _=>rfl) (fun t ht=>by cases ht;simpa using hd) hn (h.eff (u:=cx.u) (H:=H) (by simp)) (by rintro _ _ ⟨rfl,rfl⟩;exact k) (fun _ _ h=>h.elim)
theorem BM{d:Nat}{op:Op}{ty:TypeId}{pos:String}{af:Array Edge}{v:Value}(h:OpP P ⟨some d,op,ty,pos,af,none⟩ env [] v)
 (k:Ops P ops l cx Q ((d,v)::env) H)(hn:Dk op=true:=by exact rfl)(hd:Nat.blt d cx.N=true:=by exact rfl):Ops P ops (⟨some d,op,ty,pos,af,none⟩::l) cx Q env H:=JX h hn hd k
theorem qh{d:Nat}{op:Op}{ty:TypeId}{pos:String}{af:Array Edge}{v:Value}{b:Nat}{o:Obj}(hb:Has b o H)(h:OpP P ⟨some d,op,ty,pos,af,none⟩ env [(b,o)] v)(hn:Dk op=true)(hd:Nat.blt d cx.N=true)
 (k:Ops P ops l cx Q ((d,v)::env) H):Ops P ops (⟨some d,op,ty,pos,af,none⟩::l) cx Q env H:=
 JK (fun _=>rfl) (fun t ht=>by cases ht;simpa using hd) hn (h.eff (u:=cx.u) (H:=H) (by simpa using hb.mem)) (by rintro _ _ ⟨rfl,rfl⟩;exact k) (fun _ _ h=>h.elim)
theorem FX{d:Nat}{op:Op}{ty:TypeId}{pos:String}{af:Array Edge}{g:Nat×Bool}{v:Value}(hg:∀a,wantedE ops a env (some g)=true)(h:OpP P ⟨some d,op,ty,pos,af,some g⟩ env [] v)(hn:Dk op=true)(hd:Nat.blt d cx.N=true)
 (k:Ops P ops l cx Q ((d,v)::env) H):Ops P ops (⟨some d,op,ty,pos,af,some g⟩::l) cx Q env H:=
 JK hg (fun t ht=>by cases ht;simpa using hd) hn (h.eff (u:=cx.u) (H:=H) (by simp)) (by rintro _ _ ⟨rfl,rfl⟩;exact k) (fun _ _ h=>h.elim)
theorem DL{d:Nat}{op:Op}{ty:TypeId}{pos:String}{af:Array Edge}{g:Nat×Bool}{v:Value}{b:Nat}{o:Obj}(hg:∀a,wantedE ops a env (some g)=true)(hb:Has b o H)(h:OpP P ⟨some d,op,ty,pos,af,some g⟩ env [(b,o)] v)(hn:Dk op=true)(hd:Nat.blt d cx.N=true)
 (k:Ops P ops l cx Q ((d,v)::env) H):Ops P ops (⟨some d,op,ty,pos,af,some g⟩::l) cx Q env H:=
 JK hg (fun t ht=>by cases ht;simpa using hd) hn (h.eff (u:=cx.u) (H:=H) (by simpa using hb.mem)) (by rintro _ _ ⟨rfl,rfl⟩;exact k) (fun _ _ h=>h.elim)
theorem A7{d:Option Nat}{op:Op}{ty:TypeId}{pos:String}{af:Array Edge}{g:Nat×Bool}(hg:∀a,wantedE ops a env (some g)=false)(hd:Rm cx.N d=true)
 (k:Ops P ops l cx Q (putE d undef env) H):Ops P ops (⟨d,op,ty,pos,af,some g⟩::l) cx Q env H:=fun a w hs=>by
 have hfit:Fit a.tmps.size env:=by rw [hs.size];exact hs.fit
 simp only [wpL];rw [FP ops _ a env hfit,hg a,if_neg (by simp),←O5];exact k a w ⟨hs.size,hs.defers,hs.fit.putE (PT hd) _,hs.sat⟩
theorem Aj{t:Nat}{p:Prop} [hd:Decidable p](hv:∀a,Ep a env t= .bool (decide p))(h1:Nat.blt t cx.N=true)(ht:p→Ops P ops l cx Q ((t,.bool true)::env) H)(hf:¬p→Ops P ops l cx Q ((t,.bool false)::env) H):Ops P ops l cx Q env H:=fun a w hs=>by
 have hfit:Fit a.tmps.size env:=by rw [hs.size];exact hs.fit
 have key:∀b,Ep a env t= .bool b→Bv ((t,.bool b)::env) a=Bv env a:=fun b hb=>by
  have:=Ql hfit [(t,.bool b)] (by intro q hq;simp only [tq]at hq;subst hq;exact ⟨by rw [hs.size];simpa using h1,hb⟩);exact this
 by_cases hp:p
 · rw [←key true (by rw [hv a,decide_eq_true hp])];exact ht hp a w ⟨hs.size,hs.defers,hs.fit.cons h1 _,hs.sat⟩
 · rw [←key false (by rw [hv a,decide_eq_false hp])];exact hf hp a w ⟨hs.size,hs.defers,hs.fit.cons h1 _,hs.sat⟩
theorem Ai{t:Nat}{b:Bool}(hv:∀a,Ep a env t= .bool b)(h1:Nat.blt t cx.N=true)(ht:b=true→Ops P ops l cx Q ((t,.bool true)::env) H)(hf:b=false→Ops P ops l cx Q ((t,.bool false)::env) H):Ops P ops l cx Q env H:=
 Aj (p:=b=true) (fun a=>by rw [hv a];cases b<;>rfl) h1 ht (fun h=>hf (by simpa using h))
end
end Gw
