/- Walking Go code over a heap that is told by chunks: the judgement, the rules for code, for regions of fixed order, and for regions that draw their order. No function of the program is named. -/
import Derived.Test.YtljkoipiekbijaaGreatDoorA0
import Derived.OrdersIn
import Derived.RangeFuncCalls
import Derived.WalkKit
set_option linter.unusedVariables false
set_option linter.unusedSimpArgs false
namespace Gw
open Go Go.RowKit
abbrev AR:=Nat×Obj
abbrev Env:=List (Nat×A3)
abbrev Hp:=List (List AR)
structure Sat(u:AD)(H:Hp)(w:AD):Prop where
 os:w.os=u.os
 tape:w.tape=u.tape
 output:w.output=u.output
 nodup:(H.flatten.map (·.1)).Nodup
 get:∀p∈H.flatten,w.heap[p.1]?=some p.2
theorem Sat.lt{u w:AD}{H:Hp}(h:Sat u H w){p:AR}(g:p∈H.flatten):p.1<w.heap.size:=by
 have:=h.get p g;rcases FA p.1 w.heap.size with h1|h1
 · exact h1
 · simp [Lk h1]at this
theorem Sat.perm{u w:AD}{H H':Hp}(h:Sat u H w)(g:H.flatten.Perm H'.flatten):Sat u H' w:=
 ⟨h.os,h.tape,h.output,(g.map _).nodup_iff.1 h.nodup,fun p m=>h.get p (g.mem_iff.2 m)⟩
def UB(H' H:Hp):Prop:=∃R:List AR,H.flatten.Perm (H'.flatten++R)
theorem Sat.sub{u w:AD}{H H':Hp}(h:Sat u H w)(g:UB H' H):Sat u H' w:=by
 obtain ⟨R,g⟩:=g;refine ⟨h.os,h.tape,h.output,?_,fun p m=>h.get p (g.mem_iff.2 (HE _ m))⟩;have:=(g.map (·.1)).nodup_iff.1 h.nodup
 rw [HD]at this;exact (S6.1 this).1
theorem Sat.drew{u w:AD}{H:Hp}(h:Sat u H w):Sat u H {w with drawn:=w.drawn+1}:=⟨h.os,h.tape,h.output,h.nodup,h.get⟩
theorem Sat.drawn{u w:AD}{H:Hp}(h:Sat u H w)(n:Nat):Sat u H {w with drawn:=n}:=⟨h.os,h.tape,h.output,h.nodup,h.get⟩
theorem Sat.below{u w y:AD}{H:Hp}(h:Sat u H w)(g:Below w.heap.size w y):Sat u H y:=
 ⟨g.os.trans h.os,g.tape.trans h.tape,g.output.trans h.output,h.nodup,fun p m=>(g.block p.1 (h.lt m)).trans (h.get p m)⟩
theorem Sat.alloc{u w:AD}{H:Hp}(h:Sat u H w)(o:Obj):Sat u ([(w.heap.size,o)]::H) {w with heap:=w.heap.push o}:=by
 refine ⟨h.os,h.tape,h.output,?_,?_⟩
 · simp only [HW,WD,L3,cf]
   refine ⟨fun m=>?_,h.nodup⟩;obtain ⟨p,g,e⟩:=HX.1 m;have:=h.lt g
   omega
 · intro p g
   simp only [HW,WD,H4]at g;rcases g with rfl|g
   · simp
   · have:=h.lt g
     show(w.heap.push o)[p.1]?=_;rw [Array.getElem?_push,Ax A0];exact h.get p g
inductive One:List AR->Hp->Hp->Prop
 |here (s:List AR) (H:Hp):One s (s::H) H
 |there {s:List AR} {H R:Hp} (t:List AR) (h:One s H R):One s (t::H) (t::R)
inductive FX:Hp->Hp->Hp->Prop
 |nil (H:Hp):FX [] H H
 |cons {s:List AR} {L H H1 R:Hp} (h:One s H H1) (h2:FX L H1 R):FX (s::L) H R
inductive Sub:Hp->Hp->Prop
 |refl (H:Hp):Sub H H
 |nil (H:Hp):Sub [] H
 |drop {L H:Hp} (t:List AR) (h:Sub L H):Sub L (t::H)
 |cons {s:List AR} {L H H1:Hp} (h:One s H H1) (h2:Sub L H1):Sub (s::L) H
inductive Has(b:Nat)(o:Obj):Hp->Prop
 |here (H:Hp):Has b o ([(b,o)]::H)
 |there {H:Hp} (t:List AR) (h:Has b o H):Has b o (t::H)
inductive Upd(b:Nat)(o o':Obj):Hp->Hp->Prop
 |here (H:Hp):Upd b o o' ([(b,o)]::H) ([(b,o')]::H)
 |there {H H':Hp} (t:List AR) (h:Upd b o o' H H'):Upd b o o' (t::H) (t::H')
theorem One.perm{s:List AR}{H R:Hp}(h:One s H R):H.flatten.Perm (s++R.flatten):=by
 induction h with
 |here H=>simp
 |there t h ih=>
  simp only [HW];refine (bm t ih).trans ?_;rw [<-G0,<-G0];exact List.Perm.append_right _ S4
theorem FX.perm{L H R:Hp}(h:FX L H R):H.flatten.Perm (L++R).flatten:=by
 induction h with
 |nil H=>simp
 |cons h h2 ih=>
  refine h.perm.trans ?_;simp only [cX,HW];exact bm _ ih
theorem FX.amid{L H R:Hp}(h:FX L H R):UB L H:=⟨R.flatten,by have:=h.perm;rwa [Kx]at this⟩
theorem Sub.amid{L H:Hp}(h:Sub L H):UB L H:=by
 induction h with
 |refl H=>exact ⟨[],by simp⟩
 |nil H=>exact ⟨H.flatten,by simp⟩
 |drop t h ih=>
  obtain ⟨R,g⟩:=ih;refine ⟨t++R,?_⟩;simp only [HW];refine (bm t g).trans ?_;rw [<-G0,<-G0];exact List.Perm.append_right _ S4
 |cons h h2 ih=>
  obtain ⟨R,g⟩:=ih;refine ⟨R,h.perm.trans ?_⟩;simp only [HW,G0];exact bm _ g
theorem Has.mem{b:Nat}{o:Obj}{H:Hp}(h:Has b o H):(b,o)∈H.flatten:=by
 induction h with
 |here H=>simp
 |there t h ih=>simp only [HW,GS];exact .inr ih
theorem Upd.has{b:Nat}{o o':Obj}{H H':Hp}(h:Upd b o o' H H'):Has b o H:=by
 induction h with
 |here H=>exact .here _
 |there t h ih=>exact .there _ ih
theorem Upd.keys{b:Nat}{o o':Obj}{H H':Hp}(h:Upd b o o' H H'):H'.flatten.map (·.1)=H.flatten.map (·.1):=by
 induction h with
 |here H=>simp
 |there t h ih=>simp only [HW,HD,ih]
theorem Upd.mem{b:Nat}{o o':Obj}{H H':Hp}(h:Upd b o o' H H')(hn:(H.flatten.map (·.1)).Nodup):∀p∈H'.flatten,(p=(b,o'))\/(p.1≠b/\p∈H.flatten):=by
 induction h with
 |here H=>
  intro p g;simp only [HW,WD,H4]at g;rcases g with rfl|g
  · exact .inl rfl
  · refine .inr ⟨fun e=>?_,by simp [g]⟩
    simp only [HW,WD,L3,cf]at hn;exact hn.1 (HX.2 ⟨p,g,e⟩)
 |there t h ih=>
  rename_i H H';intro p g;simp only [HW,HD]at hn;have m:=S6.1 hn
  simp only [HW,GS]at g⊢;rcases g with g|g
  · refine .inr ⟨fun e=>?_,.inl g⟩
    exact m.2.2 p.1 (S0 g) b (HX.2 ⟨(b,o),h.has.mem,V⟩) e
  · rcases ih m.2.1 p g with h1|h1
    · exact .inl h1
    · exact .inr ⟨h1.1,.inr h1.2⟩
theorem Sat.upd{u w:AD}{H H':Hp}{b:Nat}{o o':Obj}(h:Sat u H w)(m:Upd b o o' H H'){g:AD}(y:g.os=w.os)(h2:g.tape=w.tape)(z:g.output=w.output)
 (E:g.heap[b]?=some o')(G:∀k,k≠b->g.heap[k]?=w.heap[k]?):Sat u H' g:=by
 refine ⟨y.trans h.os,h2.trans h.tape,z.trans h.output,by rw [m.keys];exact h.nodup,fun p I=>?_⟩;rcases m.mem h.nodup p I with rfl|⟨hne,hm⟩
 · exact E
 · rw [G _ hne];exact h.get p hm
def FC(a:Act):Env->Nat->A3
 |[],t=>a.tmps.getD t undef
 |(d,v)::env,t=>cond (Nat.beq t d) v (FC a env t)
def ev(a:Act)(env:Env):Operand->A3
 | .tmp t=>FC a env t
 | .const v=>v
 | .global g=>I5 g
 | .func f=> .func (.func f) #[] #[]
def Ck:Env->Act->Act
 |[],a=>a
 |(d,v)::env,a=>(Ck env a).put (some d) v
def putE(d:Option Nat)(v:A3)(env:Env):Env:=
 match d with
 |some d=>(d,v)::env
 |none=>env
def yieldE(ops:Array Oper)(a:Act)(env:Env)(g:Nat)(want:Bool):Bool:=
 match(ops[g]?).bind (·.dst)with
 |some t=>match FC a env t with
  | .bool b=>b==want
  |_=>false
 |none=>false
def wantedE(ops:Array Oper)(a:Act)(env:Env):Option (Nat×Bool)->Bool
 |none=>true
 |some (g,want)=>yieldE ops a env g want
theorem EP(a:Act)(d:Option Tmp)(v:A3):(a.put d v).tmps.size=a.tmps.size:=by cases d<;>simp [Act.put]
theorem KT(a:Act)(d:Option Tmp)(v:A3):(a.put d v).defers=a.defers:=by cases d<;>simp [Act.put]
theorem Jb(a:Act)(d:Option Tmp)(v:A3)(t:Nat)(g:t<a.tmps.size):(a.put d v).tmps[t]?=if d=some t then some v else a.tmps[t]?:=by
 cases d with
 |none=>simp [Act.put]
 |some d=>
  simp only [Act.put,i7];by_cases e:d=t;· subst e;simp [g]
  · simp [e]
theorem Jh{a b:Act}(m:a.tmps.size=b.tmps.size)(g:a.defers=b.defers)(h:∀t,t<a.tmps.size->a.tmps[t]?=b.tmps[t]?):a=b:=by
 obtain ⟨x,d⟩:=a;obtain ⟨y,e⟩:=b;simp only at g m h;subst g;congr 1;apply Array.ext m;intro i hi z;have:=h i hi
 simp only [KK hi,KK z,ZD]at this;exact this
theorem Jo(a:Act):∀env,(Ck env a).tmps.size=a.tmps.size
 |[]=>rfl
 |(d,v)::env=>by simp only [Ck];rw [EP,Jo a env]
theorem Fu(a:Act):∀env,(Ck env a).defers=a.defers
 |[]=>rfl
 |(d,v)::env=>by simp only [Ck];rw [KT,Fu a env]
theorem sU{t d:Nat}(h:t≠d):Nat.beq t d=false:=by
 cases e:Nat.beq t d with
 |false=>rfl
 |true=>exact absurd (lf e) h
def Fit(n:Nat)(env:Env):Prop:=∀x∈env,x.1<n
theorem Br(a:Act):∀(env:Env),Fit a.tmps.size env->∀t,(Ck env a).tmps.getD t undef=FC a env t
 |[],_,t=>rfl
 |(d,v)::env,h,t=>by
  simp only [Ck,FC];have g:=Br a env (fun x hx=>h x (Mu _ hx)) t
  have m:=h (d,v) (P0 ..);rw [Lw]at g⊢;by_cases z:t<a.tmps.size
  · rw [Jb _ _ _ _ (by rw [Jo];exact z)]
    by_cases e:t=d
    · subst e;simp
    · have:Nat.beq t d=false:=sU e
      rw [this,cond_false,Ax (fun y=>e (SD y).symm),g]
  · rw [Lk (by rw [EP,Jo];omega)]
    rw [Lk (by rw [Jo];omega)]at g;have:Nat.beq t d=false:=sU (by simp only at m;omega)
    rw [this,cond_false,<-g]
theorem FQ(a:Act)(env:Env)(h:Fit a.tmps.size env):(Ck env a).eval=ev a env:=by
 funext x;cases x with
 |tmp t=>exact Br a env h t
 |_=>rfl
theorem FM(ops:Array Oper)(o:Oper)(a:Act)(env:Env)(h:Fit a.tmps.size env):Region.wanted o (yielded ops (Ck env a).tmps)=wantedE ops a env o.guard:=by
 unfold Region.wanted wantedE;cases hg:o.guard with
 |none=>rfl
 |some gw=>
  obtain ⟨g,m⟩:=gw;simp only [yielded,yieldE];cases ht:(ops[g]?).bind (·.dst)with
  |none=>simp
  |some t=>
   simp only [I0];rw [<-Br a env h t,Lw];cases hv:(Ck env a).tmps[t]?with
   |none=>simp [undef]
   |some v=>cases v<;>simp
structure Cx where
 N:Nat
 D:List Deferred
 u:AD
 r:Option Nat
def Fx(r:Option Nat):Fence:={Fence.wide with round:=r}
structure St(cx:Cx)(env:Env)(H:Hp)(a:Act)(w:AD):Prop where
 size:a.tmps.size=cx.N
 defers:a.defers=cx.D
 fit:Fit cx.N env
 sat:Sat cx.u H w
def At(P:Program)(cx:Cx)(c:Code)(Q:Exit->Act->AD->Prop)(env:Env)(H:Hp):Prop:=∀a w,St cx env H a w->c.wpIn (Fx cx.r) 0 P Q (Ck env a) w
def Nx(cx:Cx)(Q:Act->AD->Prop)(env:Env)(H:Hp):Prop:=∀a w,St cx env H a w->Q (Ck env a) w
theorem Fit.cons{n:Nat}{env:Env}(h:Fit n env){d:Nat}(g:Nat.blt d n=true)(v:A3):Fit n ((d,v)::env):=by
 intro x hx;rcases H4.1 hx with rfl|hx
 · simpa using g
 · exact h x hx
theorem Fit.putE{n:Nat}{env:Env}(h:Fit n env){d:Option Nat}(g:∀t,d=some t->t<n)(v:A3):Fit n (putE d v env):=by
 cases d with
 |none=>exact h
 |some d=>
  intro x hx;rcases H4.1 hx with rfl|hx
  · exact g d rfl
  · exact h x hx
theorem NK(d:Option Nat)(v:A3)(env:Env)(a:Act):Ck (putE d v env) a=(Ck env a).put d v:=by cases d<;>rfl
theorem TR{a:Act}{env:Env}(m:Fit a.tmps.size env):∀(sl:Env),(∀p∈sl,p.1<a.tmps.size/\FC a env p.1=p.2)->Ck sl (Ck env a)=Ck env a
 |[],_=>rfl
 |(d,v)::sl,h=>by
  simp only [Ck];rw [TR m sl (fun p y=>h p (Mu _ y))];obtain ⟨z,h2⟩:=h (d,v) (P0 ..);refine Jh (by rw [EP]) (by rw [KT]) fun t g=>?_;rw [EP]at g;rw [Jb _ _ _ _ g];split
  · rename_i e
    cases e;have:=Br a env m d
    rw [Lw,KK g]at this;rw [KK g];simp only [fy]at this;rw [this];exact congrArg some h2.symm
  · rfl
def KM(a:Act)(env:Env):List Nat->Env
 |[]=>[]
 |t::l=>(t,FC a env t)::KM a env l
theorem MJ{a:Act}{env:Env}:∀{l:List Nat} {p:Nat×A3},p∈KM a env l->p.1∈l/\FC a env p.1=p.2
 |[],_,h=>by cases h
 |t::l,p,h=>by
  simp only [KM,H4]at h;rcases h with rfl|h
  · exact ⟨P0 ..,rfl⟩
  · exact ⟨Mu _ (MJ h).1,(MJ h).2⟩
theorem St.slots{cx:Cx}{env g:Env}{H:Hp}{a:Act}{w:AD}(h:St cx env H a w)(E:List Nat)(hn:E.all (fun t=>Nat.blt t cx.N)=true)(I:∀a,KM a env E=g):∃z,St cx g H z w/\Ck g z=Ck env a:=by
 have y:∀p∈g,p.1<cx.N/\FC a env p.1=p.2:=fun p m=>by
  rw [<-I a]at m;obtain ⟨G,h2⟩:=MJ m;have:=PF.1 hn _ G
  exact ⟨by simpa using this,h2⟩
 refine ⟨Ck env a,⟨by rw [Jo];exact h.size,by rw [Fu];exact h.defers,fun p m=>(y p m).1,h.sat⟩,TR (by rw [h.size];exact h.fit) _ fun p m=>?_⟩;rw [h.size];exact y p m
theorem sZ{P:Program}{cx:Cx}{c:Code}{Q:Exit->Act->AD->Prop}{env g:Env}{H:Hp}(m:List Nat)(hn:m.all (fun t=>Nat.blt t cx.N)=true)(E:∀a,KM a env m=g)(h:At P cx c Q g H):At P cx c Q env H:=fun a w G=>by
 obtain ⟨y,z,h2⟩:=G.slots m hn E;rw [<-h2];exact h y w z
theorem pY{cx:Cx}{Q:Act->AD->Prop}{env g:Env}{H:Hp}(m:List Nat)(hn:m.all (fun t=>Nat.blt t cx.N)=true)(E:∀a,KM a env m=g)(h:Nx cx Q g H):Nx cx Q env H:=fun a w G=>by
 obtain ⟨y,z,h2⟩:=G.slots m hn E;rw [<-h2];exact h y w z
theorem St.heap{cx:Cx}{env:Env}{H H':Hp}{a:Act}{w:AD}(h:St cx env H a w)(g:UB H' H):St cx env H' a w:=⟨h.size,h.defers,h.fit,h.sat.sub g⟩
theorem jG{P:Program}{cx:Cx}{c:Code}{Q:Exit->Act->AD->Prop}{env:Env}{H H':Hp}(g:H.flatten=H'.flatten)(h:At P cx c Q env H'):At P cx c Q env H:=fun a w m=>h a w (m.heap ⟨[],by rw [g];simp⟩)
section
variable{P:Program}{cx:Cx}{Q:Exit->Act->AD->Prop}{env:Env}{H:Hp}
theorem zA{x y:Code}(h:At P cx x (Exit.then (y.wpIn (Fx cx.r) 0 P Q) Q) env H):At P cx (.seq x y) Q env H:=fun a w g=>wpIn_seq (h a w g)
theorem vC{y:Code}(h:At P cx y Q env H):Nx cx ((Exit.then (y.wpIn (Fx cx.r) 0 P Q) Q) .normal) env H:=h
theorem vB{K:Act->AD->Prop}{e:Exit}(g:e≠ .normal)(h:Nx cx (Q e) env H):Nx cx (Exit.then K Q e) env H:=by cases e<;>first|exact absurd rfl g|exact h
theorem AB(h:Nx cx (Q .normal) env H):At P cx .skip Q env H:=fun a w g=>wpIn_skip (h a w g)
theorem ag{l:Nat}(h:Nx cx (Q .normal) env H):At P cx (.label l) Q env H:=fun a w g=>wpIn_label (h a w g)
theorem AC(h:Nx cx (Q .ret) env H):At P cx .ret Q env H:=fun a w g=>wpIn_ret (h a w g)
theorem Az{i:Nat}(h:Nx cx (Q (.exit i)) env H):At P cx (.exit i) Q env H:=fun a w g=>wpIn_exit (h a w g)
theorem AQ{i:Nat}{c:Code}(h:At P cx c (Exit.inBlock i Q) env H):At P cx (.block i c) Q env H:=fun a w g=>wpIn_block (h a w g)
theorem A8{i:Nat}(h:Nx cx (Q .normal) env H):Nx cx (Exit.inBlock i Q .normal) env H:=h
theorem AU{i:Nat}(h:Nx cx (Q .normal) env H):Nx cx (Exit.inBlock i Q (.exit i)) env H:=fun a w g=>by simp only [Exit.inBlock,Mp];exact h a w g
theorem Ba{i j:Nat}(hn:Nat.beq j i=false)(h:Nx cx (Q (.exit j)) env H):Nx cx (Exit.inBlock i Q (.exit j)) env H:=fun a w g=>by
 have:j≠i:=fun e=>by subst e;simp at hn
 simp only [Exit.inBlock,Ax this];exact h a w g
theorem AX{i:Nat}(h:Nx cx (Q .ret) env H):Nx cx (Exit.inBlock i Q .ret) env H:=h
theorem iw{a:Act}{x:Operand}{v:A3}{w:AD}(g:St cx env H a w)(h:∀a,ev a env x=v):(Ck env a).eval x=v:=by
 rw [FQ a env (by rw [g.size];exact g.fit)];exact h a
theorem Ad{x y:Code}{c:Operand}{p:Prop} [E:Decidable p](hc:∀a,ev a env c= .bool (decide p))(z:p->At P cx x Q env H)(m:¬p->At P cx y Q env H):At P cx (.cond c x y) Q env H:=fun a w g=>by
 refine wpIn_cond_split (t:=decide p) (iw g hc) (fun h=>z (I2 h) a w g) (fun h=>m (NX h) a w g)
theorem Af{x y:Code}{c:Operand}{b:Bool}(hc:∀a,ev a env c= .bool b)(z:b=true->At P cx x Q env H)(m:b=false->At P cx y Q env H):At P cx (.cond c x y) Q env H:=fun a w g=>
 wpIn_cond_split (iw g hc) (fun h=>z h a w g) (fun h=>m h a w g)
theorem BV{x y:Code}{c:Operand}(hc:∀a,ev a env c= .bool true)(h:At P cx x Q env H):At P cx (.cond c x y) Q env H:=fun a w g=>wpIn_cond_true (iw g hc) (h a w g)
theorem DY{x y:Code}{c:Operand}(hc:∀a,ev a env c= .bool false)(h:At P cx y Q env H):At P cx (.cond c x y) Q env H:=fun a w g=>wpIn_cond_false (iw g hc) (h a w g)
def qk(cx:Cx)(I:Nat->Env->Hp->Prop)(n:Nat)(a:Act)(w:AD):Prop:=∃m env H a0,m<n/\I m env H/\St cx env H a0 w/\a=Ck env a0
theorem wP{c:Code}(I:Nat->Env->Hp->Prop)(n:Nat)(h0:I n env H)(E:∀n env H,I n env H->At P cx c (Exit.then (qk cx I n) Q) env H):At P cx (.loop c) Q env H:=by
 intro a w hs b k cs af W hr;have key:∀n env H a w,I n env H->St cx env H a w->
  ∃e M O,Q e M O/\ArrivesIn (Machine.fenced P (Fx cx.r)) P (lone (b.atR (Ck env a) (.code c:: .inLoop c::k)) cs w) b k cs e M O:=by
  intro n;induction n using Nat.strongRecOn with
  |_ n ih=>
   intro env H a w hI hs;obtain ⟨e,J,G,y,g⟩:=E n env H hI a w hs b (.inLoop c::k) cs af W hr;cases e with
   |normal=>
    obtain ⟨m,K,H',a0,X,U,ax,rfl⟩:=y;obtain ⟨e₂,a₂,w₂,Z,z⟩:=ih m X K H' a0 G U ax;exact ⟨e₂,a₂,w₂,Z,.of_steps (StepsIn.trans g (.one (fenced_calm W hr V) stepR_inLoop)) z⟩
   |exit id=>exact ⟨_,J,G,y,.pass (x:= .inLoop c) rfl (fun _ _=> .inl C4) g⟩
   |goto l=>exact ⟨_,J,G,y,.pass (x:= .inLoop c) rfl (fun _ _=> .inl C4) g⟩
   |ret=>exact ⟨_,J,G,y,.pass (x:= .inLoop c) rfl (fun _ _=> .inl C4) g⟩
   |panic ch=>exact ⟨_,J,G,y,.pass (x:= .inLoop c) rfl (fun _ _=> .inl C4) g⟩
   |outgrown=>exact ⟨_,J,G,y,.pass (x:= .inLoop c) rfl (fun _ _=> .inl C4) g⟩
 obtain ⟨e,M,O,y,g⟩:=key n env H a w h0 hs;exact ⟨e,M,O,y,.of_steps (.one (fenced_calm W hr V) stepR_loop) g⟩
def tX(cx:Cx)(I:Nat->Env->Hp->Prop)(B:Env)(R:Hp)(n:Nat)(a:Act)(w:AD):Prop:=∃m e H a0,m<n/\I m e H/\St cx (e++B) (H++R) a0 w/\a=Ck (e++B) a0
theorem Av{c:Code}{e0 B:Env}{H0 R:Hp}(I:Nat->Env->Hp->Prop){n:Nat}(h0:I n e0 H0)(K:FX H0 H R)(g:∀n e H,I n e H->At P cx c (Exit.then (tX cx I B R n) Q) (e++B) (H++R)):At P cx (.loop c) Q (e0++B) H:=fun a w y=>by
 refine wP (P:=P) (cx:=cx) (Q:=Q) (fun m env H=>∃e H1,env=e++B/\H=H1++R/\I m e H1) n ⟨e0,H0,V,V,h0⟩ ?_ a w ⟨y.size,y.defers,y.fit,y.sat.perm K.perm⟩;rintro m env H ⟨e,H1,rfl,rfl,J⟩ a w y;refine wpIn_mono (g m e H1 J a w y) fun x M O hx=>?_;cases x<;>first|exact hx|(obtain ⟨m',e',H',a0,z,h2,E,G⟩:=hx;exact ⟨m',e'++B,H'++R,a0,z,⟨e',H',rfl,rfl,h2⟩,E,G⟩)
theorem Ac{I:Nat->Env->Hp->Prop}{B e':Env}{R H':Hp}{n m:Nat}(h:I m e' H')(y:m<n:=by omega)(z:Sub (H'++R) H:=by repeat(first|exact Sub.refl _|exact Sub.nil _|(apply Sub.cons;(focus (repeat(first|exact One.here _ _|apply One.there))))|refine Sub.drop _ ?_)):Nx cx ((Exit.then (tX cx I B R n) Q) .normal) (e'++B) H:=fun a _ g=>⟨m,e',H',a,y,h,⟨g.size,g.defers,g.fit,g.sat.sub z.amid⟩,rfl⟩
end
def wpL(F:Fence)(P:Program)(ops:Array Oper)(Q:Exit->Act->AD->Prop):List Oper->Act->AD->Prop
 |[],a,w=>Q .normal a w
 |o::l,a,w=>if Region.wanted o (yielded ops a.tmps)then o.wpIn F 0 P a w (wpL F P ops Q l) Q else wpL F P ops Q l (a.put o.dst undef) w
theorem mh{r:Option Nat}{P:Program}{ops:Array Oper}{Q:Exit->Act->AD->Prop}:∀(l:List Oper) (j:Nat),(∀i,l[i]?=ops[j+i]?)->∀a w,wpL (Fx r) P ops Q l a w->wpOpsIn (Fx r) 0 P ops Q (List.range' j l.length) a w
 |[],_,_,_,_,h=>h
 |o::l,j,hl,a,w,h=>by
  have h0:=hl 0;simp only [RT,Z3]at h0;have g:∀a w,wpL (Fx r) P ops Q l a w->wpOpsIn (Fx r) 0 P ops Q (List.range' (j+1) l.length) a w:=fun a w=>mh l (j+1) (fun i=>by
   have:=hl (i+1);simp only [bj]at this;rw [this];congr 1;omega) a w
  simp only [GB,jj,wpOpsIn,<-h0];simp only [wpL]at h;split at h;· rename_i hw;rw [B2 hw];exact Oper.wpIn_mono g h
  · rename_i hw;rw [Ax hw];exact ⟨fun _ _=>trivial,g _ _ h⟩
def Ops(P:Program)(ops:Array Oper)(l:List Oper)(cx:Cx)(Q:Exit->Act->AD->Prop)(env:Env)(H:Hp):Prop:=∀a w,St cx env H a w->wpL (Fx cx.r) P ops Q l (Ck env a) w
theorem mW{P:Program}{cx:Cx}{Q:Exit->Act->AD->Prop}{env:Env}{H:Hp}{id:Nat}{ops:Array Oper}(h:Ops P ops ops.toList cx Q env H):At P cx (.region id ops false) Q env H:=fun a w g=>by
 refine wpIn_region ?_;have:=mh ops.toList 0 (fun i=>by simp) _ _ (h a w g)
 rwa [TO,<-lj]at this
def OpP(P:Program)(o:Oper)(env:Env)(C:List AR)(v:A3):Prop:=∀(a:Act) (w:AD),(∀p∈C,w.heap[p.1]?=some p.2)->(execOp (ev a env) o).run P w= .ok (.value v) w
def Ul(P:Program)(K:A3->AD->Prop)(Kp:List PanicEntry->AD->Prop):Result Next->Prop
 | .ok (.value v) w=>K v w
 | .ok .skip w=>K undef w
 | .ok (.enter f args) w=>Calls P f args w fun e w'=>match e with
   | .returned v=>K v w'
   | .panicked ch=>Kp ch w'
   | .outgrown=>False
 | .ok (.round l f tmps assign body) w=>RoundIn Fence.wide 0 P l f tmps assign body w fun e w'=>match e with
   | .returned v=>K v w'
   | .panicked ch=>Kp ch w'
   | .outgrown=>False
 | .halt (.panic v) w=>Kp [{v,recovered:=false}] w
 |_=>False
def OpW(P:Program)(u:AD)(o:Oper)(env:Env)(H:Hp)(Fp:A3->Hp->Prop)(Pan:List PanicEntry->Hp->Prop):Prop:=
 ∀(a:Act) (w:AD),Sat u H w->∀(K:A3->AD->Prop) (Kp:List PanicEntry->AD->Prop),(∀v H' w',Fp v H'->Sat u H' w'->K v w')->(∀ch H' w',Pan ch H'->Sat u H' w'->Kp ch w')->Ul P K Kp ((execOp (ev a env) o).run P w)
theorem jA{r:Option Nat}{P:Program}{f:FuncId}{args:As}{w:AD}{R:Ending->AD->Prop}(h:Calls P f args w R):CallsIn (Fx r) 0 P f args w R:=⟨trivial,fun cs _=>by
 obtain ⟨e,z,g,m,h2,y⟩:=h cs;exact ⟨e,z,g,m,(comesIn_wide (P:=P)).2 h2,y⟩⟩
theorem RQ{P:Program}{r:Option Nat}{o:Oper}{a:Act}{K:Act->AD->Prop}{Q:Exit->Act->AD->Prop}{R:Result Next}
 (h:Ul P (fun v w=>K (a.put o.dst v) w) (fun ch w=>Q (.panic ch) a w) R):o.uponIn (Fx r) 0 P a K Q R:=by
 unfold Ul at h;cases R with
 |ok n w=>
  cases n<;>simp only [Oper.uponIn]at h⊢<;>first|exact h|skip
  · refine ⟨fun h=>by simp [Fx,Fence.wide]at h,jA (Calls.mono h fun e m g=>?_)⟩
    cases e<;>first|exact g|exact g.elim
  · refine ⟨fun h=>by simp [Fx,Fence.wide]at h,?_⟩
    exact RoundIn.mono (F:=Fx r) h fun e m g=>by cases e<;>first|exact g|exact g.elim
 |halt x w=>cases x<;>simp only [Oper.uponIn]at h⊢<;>exact h
theorem Oq{r:Option Nat}{o:Oper}{ρ:Operand->A3}(h:∀c,o.op≠ .defer c):o.semAt (Fx r).round ρ=execOp ρ o:=Oper.semAt_eq _ _ _ h
def EB:Op->Bool
 | .defer _=>false
 |_=>true
theorem KX{o:Op}(h:EB o=true)(c:Call):o≠ .defer c:=by intro e;subst e;simp [EB]at h
section
variable{P:Program}{ops:Array Oper}{l:List Oper}{cx:Cx}{Q:Exit->Act->AD->Prop}{env:Env}{H:Hp}{o:Oper}
theorem uy(h:Nx cx (Q .normal) env H):Ops P ops [] cx Q env H:=h
theorem HY{Fp:A3->Hp->Prop}{z:List PanicEntry->Hp->Prop}(I:∀a,wantedE ops a env o.guard=true)(G:∀t,o.dst=some t->t<cx.N)(hn:EB o.op=true)(K:OpW P cx.u o env H Fp z)
 (h:∀v H',Fp v H'->Ops P ops l cx Q (putE o.dst v env) H')(J:∀ch H',z ch H'->∀env,Nx cx (Q (.panic ch)) env H'):Ops P ops (o::l) cx Q env H:=fun a w m=>by
 have y:Fit a.tmps.size env:=by rw [m.size];exact m.fit
 simp only [wpL];rw [FM ops o a env y,I a,B2 rfl];refine ⟨fun _ _=>trivial,RQ ?_⟩;rw [Oq (KX hn),FQ a env y];refine K a w m.sat _ _ (fun v H' E hv g=>?_) (fun ch H' E hv g=>?_)
 · rw [<-NK]
   exact h v H' hv a E ⟨m.size,m.defers,m.fit.putE G v,g⟩
 · exact J ch H' hv env a E ⟨m.size,m.defers,m.fit,g⟩
theorem OpP.eff{C:List AR}{v:A3}(h:OpP P o env C v){u:AD}(m:∀p∈C,p∈H.flatten):OpW P u o env H (fun E H'=>E=v/\H'=H) (fun _ _=>False):=fun a w g K G y _=>by
 rw [h a w fun p z=>g.get p (m p z)];exact y _ _ _ ⟨V,V⟩ g
end
def UR(n:Nat):Option Nat->Bool
 |some d=>Nat.blt d n
 |none=>true
theorem Gr{n:Nat}{d:Option Nat}(h:UR n d=true)(t:Nat)(g:d=some t):t<n:=by subst g;simpa [UR]using h
section
variable{P:Program}{ops:Array Oper}{l:List Oper}{cx:Cx}{Q:Exit->Act->AD->Prop}{env:Env}{H:Hp}
theorem KH{d:Nat}{g:Op}{ty:An}{pos:String}{af:Array Edge}{v:A3}(h:OpP P ⟨some d,g,ty,pos,af,none⟩ env [] v)(hn:EB g=true)(m:Nat.blt d cx.N=true)
 (k:Ops P ops l cx Q ((d,v)::env) H):Ops P ops (⟨some d,g,ty,pos,af,none⟩::l) cx Q env H:=
 HY (fun _=>rfl) (fun t y=>by cases y;simpa using m) hn (h.eff (u:=cx.u) (H:=H) C4) (by rintro _ _ ⟨rfl,rfl⟩;exact k) (fun _ _ h=>h.elim)
theorem BN{d:Nat}{g:Op}{ty:An}{pos:String}{af:Array Edge}{v:A3}(h:OpP P ⟨some d,g,ty,pos,af,none⟩ env [] v)
 (k:Ops P ops l cx Q ((d,v)::env) H)(hn:EB g=true:=by exact rfl)(m:Nat.blt d cx.N=true:=by exact rfl):Ops P ops (⟨some d,g,ty,pos,af,none⟩::l) cx Q env H:=KH h hn m k
theorem mv{d:Nat}{g:Op}{ty:An}{pos:String}{af:Array Edge}{v:A3}{b:Nat}{o:Obj}(m:Has b o H)(h:OpP P ⟨some d,g,ty,pos,af,none⟩ env [(b,o)] v)(hn:EB g=true)(y:Nat.blt d cx.N=true)
 (k:Ops P ops l cx Q ((d,v)::env) H):Ops P ops (⟨some d,g,ty,pos,af,none⟩::l) cx Q env H:=
 HY (fun _=>rfl) (fun t z=>by cases z;simpa using y) hn (h.eff (u:=cx.u) (H:=H) (by simpa using m.mem)) (by rintro _ _ ⟨rfl,rfl⟩;exact k) (fun _ _ h=>h.elim)
theorem ER{d:Nat}{m:Op}{ty:An}{pos:String}{af:Array Edge}{g:Nat×Bool}{v:A3}(z:∀a,wantedE ops a env (some g)=true)(h:OpP P ⟨some d,m,ty,pos,af,some g⟩ env [] v)(hn:EB m=true)(y:Nat.blt d cx.N=true)
 (k:Ops P ops l cx Q ((d,v)::env) H):Ops P ops (⟨some d,m,ty,pos,af,some g⟩::l) cx Q env H:=
 HY z (fun t E=>by cases E;simpa using y) hn (h.eff (u:=cx.u) (H:=H) C4) (by rintro _ _ ⟨rfl,rfl⟩;exact k) (fun _ _ h=>h.elim)
theorem DK{d:Nat}{m:Op}{ty:An}{pos:String}{af:Array Edge}{g:Nat×Bool}{v:A3}{b:Nat}{o:Obj}(E:∀a,wantedE ops a env (some g)=true)(y:Has b o H)(h:OpP P ⟨some d,m,ty,pos,af,some g⟩ env [(b,o)] v)(hn:EB m=true)(z:Nat.blt d cx.N=true)
 (k:Ops P ops l cx Q ((d,v)::env) H):Ops P ops (⟨some d,m,ty,pos,af,some g⟩::l) cx Q env H:=
 HY E (fun t G=>by cases G;simpa using z) hn (h.eff (u:=cx.u) (H:=H) (by simpa using y.mem)) (by rintro _ _ ⟨rfl,rfl⟩;exact k) (fun _ _ h=>h.elim)
theorem PL{d:Option Nat}{G:Op}{ty:An}{pos:String}{af:Array Edge}{g:Nat×Bool}(E:∀a,wantedE ops a env (some g)=false)(z:UR cx.N d=true)
 (k:Ops P ops l cx Q (putE d undef env) H):Ops P ops (⟨d,G,ty,pos,af,some g⟩::l) cx Q env H:=fun a w m=>by
 have y:Fit a.tmps.size env:=by rw [m.size];exact m.fit
 simp only [wpL];rw [FM ops _ a env y,E a,Ax C4,<-NK];exact k a w ⟨m.size,m.defers,m.fit.putE (Gr z) _,m.sat⟩
theorem AZ{t:Nat}{p:Prop} [K:Decidable p](hv:∀a,FC a env t= .bool (decide p))(z:Nat.blt t cx.N=true)(J:p->Ops P ops l cx Q ((t,.bool true)::env) H)(I:¬p->Ops P ops l cx Q ((t,.bool false)::env) H):Ops P ops l cx Q env H:=fun a w g=>by
 have m:Fit a.tmps.size env:=by rw [g.size];exact g.fit
 have key:∀b,FC a env t= .bool b->Ck ((t,.bool b)::env) a=Ck env a:=fun b G=>by
  have:=TR m [(t,.bool b)] (by intro q E;simp only [HA]at E;subst E;exact ⟨by rw [g.size];simpa using z,G⟩);exact this
 by_cases y:p
 · rw [<-key true (by rw [hv a,Cp y])];exact J y a w ⟨g.size,g.defers,g.fit.cons z _,g.sat⟩
 · rw [<-key false (by rw [hv a,CC y])];exact I y a w ⟨g.size,g.defers,g.fit.cons z _,g.sat⟩
theorem Ae{t:Nat}{b:Bool}(hv:∀a,FC a env t= .bool b)(g:Nat.blt t cx.N=true)(y:b=true->Ops P ops l cx Q ((t,.bool true)::env) H)(m:b=false->Ops P ops l cx Q ((t,.bool false)::env) H):Ops P ops l cx Q env H:=
 AZ (p:=b=true) (fun a=>by rw [hv a];cases b<;>rfl) g y (fun h=>m (by simpa using h))
end
end Gw
