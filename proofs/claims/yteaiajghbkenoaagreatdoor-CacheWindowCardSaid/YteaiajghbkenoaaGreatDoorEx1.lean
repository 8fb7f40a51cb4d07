/- Walking Go code over a heap that is told by chunks: the judgement, the rules for code, for regions of fixed order, and for regions that draw their order. No function of the program is named. -/
import Derived.Test.YteaiajghbkenoaaGreatDoorA0
import Derived.OrdersIn
import Derived.RangeFuncCalls
import Derived.Below
import Derived.WalkKit
set_option linter.unusedVariables false
set_option linter.unusedSimpArgs false
namespace Gw
open Go Go.RowKit
abbrev A8:=Nat×Obj
abbrev Env:=List (Nat×Value)
abbrev Hp:=List (List A8)
structure Sat(u:World)(H:Hp)(w:World):Prop where
 os:w.os=u.os
 tape:w.tape=u.tape
 output:w.output=u.output
 nodup:(H.flatten.map (·.1)).Nodup
 get:∀p∈H.flatten,w.heap[p.1]?=some p.2
theorem Sat.lt{u w:World}{H:Hp}(h:Sat u H w){p:A8}(hp:p∈H.flatten):p.1<w.heap.size:=by
 have:=h.get p hp;rcases AB1 p.1 w.heap.size with h1|h1
 · exact h1
 · simp [AA9 h1]at this
theorem Sat.perm{u w:World}{H H':Hp}(h:Sat u H w)(hp:H.flatten.Perm H'.flatten):Sat u H' w:=
 ⟨h.os,h.tape,h.output,(hp.map _).nodup_iff.1 h.nodup,fun p hm=>h.get p (hp.mem_iff.2 hm)⟩
def qy(H' H:Hp):Prop:=∃R:List A8,H.flatten.Perm (H'.flatten++R)
theorem Sat.sub{u w:World}{H H':Hp}(h:Sat u H w)(hp:qy H' H):Sat u H' w:=by
 obtain ⟨R,hp⟩:=hp;refine ⟨h.os,h.tape,h.output,?_,fun p hm=>h.get p (hp.mem_iff.2 (zR _ hm))⟩;have:=(hp.map (·.1)).nodup_iff.1 h.nodup
 rw [zK]at this;exact (AA5.1 this).1
theorem Sat.drew{u w:World}{H:Hp}(h:Sat u H w):Sat u H {w with drawn:=w.drawn+1}:=⟨h.os,h.tape,h.output,h.nodup,h.get⟩
theorem Sat.drawn{u w:World}{H:Hp}(h:Sat u H w)(n:Nat):Sat u H {w with drawn:=n}:=⟨h.os,h.tape,h.output,h.nodup,h.get⟩
theorem Sat.below{u w w':World}{H:Hp}(h:Sat u H w)(hb:Below w.heap.size w w'):Sat u H w':=
 ⟨hb.os.trans h.os,hb.tape.trans h.tape,hb.output.trans h.output,h.nodup,fun p hp=>(hb.block p.1 (h.lt hp)).trans (h.get p hp)⟩
theorem Sat.alloc{u w:World}{H:Hp}(h:Sat u H w)(o:Obj):Sat u ([(w.heap.size,o)]::H) {w with heap:=w.heap.push o}:=by
 refine ⟨h.os,h.tape,h.output,?_,?_⟩
 · simp only [zL,AC2,zx,AB9]
   refine ⟨fun hm=>?_,h.nodup⟩;obtain ⟨p,hp,e⟩:=zQ.1 hm;have:=h.lt hp
   omega
 · intro p hp
   simp only [zL,AC2,za]at hp;rcases hp with rfl|hp
   · simp
   · have:=h.lt hp
     show(w.heap.push o)[p.1]?=_;rw [Array.getElem?_push,Am6 Ao7];exact h.get p hp
inductive One:List A8->Hp->Hp->Prop
 |here (s:List A8) (H:Hp):One s (s::H) H
 |there {s:List A8} {H R:Hp} (t:List A8) (h:One s H R):One s (t::H) (t::R)
inductive EY:Hp->Hp->Hp->Prop
 |nil (H:Hp):EY [] H H
 |cons {s:List A8} {L H H1 R:Hp} (h:One s H H1) (h2:EY L H1 R):EY (s::L) H R
inductive Sub:Hp->Hp->Prop
 |refl (H:Hp):Sub H H
 |nil (H:Hp):Sub [] H
 |drop {L H:Hp} (t:List A8) (h:Sub L H):Sub L (t::H)
 |cons {s:List A8} {L H H1:Hp} (h:One s H H1) (h2:Sub L H1):Sub (s::L) H
inductive Has(b:Nat)(o:Obj):Hp->Prop
 |here (H:Hp):Has b o ([(b,o)]::H)
 |there {H:Hp} (t:List A8) (h:Has b o H):Has b o (t::H)
inductive Upd(b:Nat)(o o':Obj):Hp->Hp->Prop
 |here (H:Hp):Upd b o o' ([(b,o)]::H) ([(b,o')]::H)
 |there {H H':Hp} (t:List A8) (h:Upd b o o' H H'):Upd b o o' (t::H) (t::H')
theorem One.perm{s:List A8}{H R:Hp}(h:One s H R):H.flatten.Perm (s++R.flatten):=by
 induction h with
 |here H=>simp
 |there t h ih=>
  simp only [zL];refine (AD2 t ih).trans ?_;rw [<-zM,<-zM];exact AP1 _ AB7
theorem EY.perm{L H R:Hp}(h:EY L H R):H.flatten.Perm (L++R).flatten:=by
 induction h with
 |nil H=>simp
 |cons h h2 ih=>
  refine h.perm.trans ?_;simp only [AF3,zL];exact AD2 _ ih
theorem EY.amid{L H R:Hp}(h:EY L H R):qy L H:=⟨R.flatten,by have:=h.perm;rwa [AA0]at this⟩
theorem Sub.amid{L H:Hp}(h:Sub L H):qy L H:=by
 induction h with
 |refl H=>exact ⟨[],by simp⟩
 |nil H=>exact ⟨H.flatten,by simp⟩
 |drop t h ih=>
  obtain ⟨R,hR⟩:=ih;refine ⟨t++R,?_⟩;simp only [zL];refine (AD2 t hR).trans ?_;rw [<-zM,<-zM];exact AP1 _ AB7
 |cons h h2 ih=>
  obtain ⟨R,hR⟩:=ih;refine ⟨R,h.perm.trans ?_⟩;simp only [zL,zM];exact AD2 _ hR
theorem Has.mem{b:Nat}{o:Obj}{H:Hp}(h:Has b o H):(b,o)∈H.flatten:=by
 induction h with
 |here H=>simp
 |there t h ih=>simp only [zL,zJ];exact .inr ih
theorem Upd.has{b:Nat}{o o':Obj}{H H':Hp}(h:Upd b o o' H H'):Has b o H:=by
 induction h with
 |here H=>exact .here _
 |there t h ih=>exact .there _ ih
theorem Upd.keys{b:Nat}{o o':Obj}{H H':Hp}(h:Upd b o o' H H'):H'.flatten.map (·.1)=H.flatten.map (·.1):=by
 induction h with
 |here H=>simp
 |there t h ih=>simp only [zL,zK,ih]
theorem Upd.mem{b:Nat}{o o':Obj}{H H':Hp}(h:Upd b o o' H H')(hn:(H.flatten.map (·.1)).Nodup):∀p∈H'.flatten,(p=(b,o'))\/(p.1≠b/\p∈H.flatten):=by
 induction h with
 |here H=>
  intro p hp;simp only [zL,AC2,za]at hp;rcases hp with rfl|hp
  · exact .inl rfl
  · refine .inr ⟨fun e=>?_,by simp [hp]⟩
    simp only [zL,AC2,zx,AB9]at hn;exact hn.1 (zQ.2 ⟨p,hp,e⟩)
 |there t h ih=>
  rename_i H H';intro p hp;simp only [zL,zK]at hn;have hn2:=AA5.1 hn
  simp only [zL,zJ]at hp⊢;rcases hp with hp|hp
  · refine .inr ⟨fun e=>?_,.inl hp⟩
    exact hn2.2.2 p.1 (zS hp) b (zQ.2 ⟨(b,o),h.has.mem,V⟩) e
  · rcases ih hn2.2.1 p hp with h1|h1
    · exact .inl h1
    · exact .inr ⟨h1.1,.inr h1.2⟩
theorem Sat.upd{u w:World}{H H':Hp}{b:Nat}{o o':Obj}(h:Sat u H w)(hu:Upd b o o' H H'){w':World}(h1:w'.os=w.os)(h2:w'.tape=w.tape)(h3:w'.output=w.output)
 (hb:w'.heap[b]?=some o')(hk:∀k,k≠b->w'.heap[k]?=w.heap[k]?):Sat u H' w':=by
 refine ⟨h1.trans h.os,h2.trans h.tape,h3.trans h.output,by rw [hu.keys];exact h.nodup,fun p hp=>?_⟩;rcases hu.mem h.nodup p hp with rfl|⟨hne,hm⟩
 · exact hb
 · rw [hk _ hne];exact h.get p hm
/- slots -/
def Fb(a:Act):Env->Nat->Value
 |[],t=>a.tmps.getD t undef
 |(d,v)::env,t=>cond (Nat.beq t d) v (Fb a env t)
def ev(a:Act)(env:Env):Operand->Value
 | .tmp t=>Fb a env t
 | .const v=>v
 | .global g=>I5 g
 | .func f=> .func (.func f) #[] #[]
def Bz:Env->Act->Act
 |[],a=>a
 |(d,v)::env,a=>(Bz env a).put (some d) v
def putE(d:Option Nat)(v:Value)(env:Env):Env:=
 match d with
 |some d=>(d,v)::env
 |none=>env
def yieldE(ops:Array Oper)(a:Act)(env:Env)(g:Nat)(want:Bool):Bool:=
 match(ops[g]?).bind (·.dst)with
 |some t=>match Fb a env t with
  | .bool b=>b==want
  |_=>false
 |none=>false
def wantedE(ops:Array Oper)(a:Act)(env:Env):Option (Nat×Bool)->Bool
 |none=>true
 |some (g,want)=>yieldE ops a env g want
theorem Dl(a:Act)(d:Option Tmp)(v:Value):(a.put d v).tmps.size=a.tmps.size:=by cases d<;>simp [Act.put]
theorem JL(a:Act)(d:Option Tmp)(v:Value):(a.put d v).defers=a.defers:=by cases d<;>simp [Act.put]
theorem IX(a:Act)(d:Option Tmp)(v:Value)(t:Nat)(ht:t<a.tmps.size):(a.put d v).tmps[t]?=if d=some t then some v else a.tmps[t]?:=by
 cases d with
 |none=>simp [Act.put]
 |some d=>
  simp only [Act.put,AI7];by_cases e:d=t
  · subst e;simp [ht]
  · simp [e]
theorem Ib{a b:Act}(hs:a.tmps.size=b.tmps.size)(hd:a.defers=b.defers)(h:∀t,t<a.tmps.size->a.tmps[t]?=b.tmps[t]?):a=b:=by
 obtain ⟨x,d⟩:=a;obtain ⟨y,e⟩:=b;simp only at hd hs h;subst hd;congr 1;apply AT9 hs;intro i hi hj;have:=h i hi
 simp only [zn hi,zn hj,AI2]at this;exact this
theorem Ih(a:Act):∀env,(Bz env a).tmps.size=a.tmps.size
 |[]=>rfl
 |(d,v)::env=>by simp only [Bz];rw [Dl,Ih a env]
theorem FO(a:Act):∀env,(Bz env a).defers=a.defers
 |[]=>rfl
 |(d,v)::env=>by simp only [Bz];rw [JL,FO a env]
theorem qL{t d:Nat}(h:t≠d):Nat.beq t d=false:=by
 cases e:Nat.beq t d with
 |false=>rfl
 |true=>exact absurd (AP7 e) h
def Fit(n:Nat)(env:Env):Prop:=∀x∈env,x.1<n
theorem CJ(a:Act):∀(env:Env),Fit a.tmps.size env->∀t,(Bz env a).tmps.getD t undef=Fb a env t
 |[],_,t=>rfl
 |(d,v)::env,h,t=>by
  simp only [Bz,Fb];have ih:=CJ a env (fun x hx=>h x (zW _ hx)) t
  have hd:=h (d,v) (zX ..);rw [AA8]at ih⊢;by_cases ht:t<a.tmps.size
  · rw [IX _ _ _ _ (by rw [Ih];exact ht)]
    by_cases e:t=d
    · subst e;simp
    · have:Nat.beq t d=false:=qL e
      rw [this,cond_false,Am6 (fun he=>e (AG5 he).symm),ih]
  · rw [AA9 (by rw [Dl,Ih];omega)]
    rw [AA9 (by rw [Ih];omega)]at ih;have:Nat.beq t d=false:=qL (by simp only at hd;omega)
    rw [this,cond_false,<-ih]
theorem F9(a:Act)(env:Env)(h:Fit a.tmps.size env):(Bz env a).eval=ev a env:=by
 funext x;cases x with
 |tmp t=>exact CJ a env h t
 |_=>rfl
theorem FV(ops:Array Oper)(o:Oper)(a:Act)(env:Env)(h:Fit a.tmps.size env):Region.wanted o (yielded ops (Bz env a).tmps)=wantedE ops a env o.guard:=by
 unfold Region.wanted wantedE;cases hg:o.guard with
 |none=>rfl
 |some gw=>
  obtain ⟨g,want⟩:=gw;simp only [yielded,yieldE];cases ht:(ops[g]?).bind (·.dst)with
  |none=>simp
  |some t=>
   simp only [AC4];rw [<-CJ a env h t,AA8];cases hv:(Bz env a).tmps[t]?with
   |none=>simp [undef]
   |some v=>cases v<;>simp
/- the judgement -/
structure Cx where
 N:Nat
 D:List Deferred
 u:World
 r:Option Nat
def Fx(r:Option Nat):Fence:={Fence.wide with round:=r}
structure St(cx:Cx)(env:Env)(H:Hp)(a:Act)(w:World):Prop where
 size:a.tmps.size=cx.N
 defers:a.defers=cx.D
 fit:Fit cx.N env
 sat:Sat cx.u H w
def At(P:Program)(cx:Cx)(c:Code)(Q:Exit->Act->World->Prop)(env:Env)(H:Hp):Prop:=∀a w,St cx env H a w->c.wpIn (Fx cx.r) 0 P Q (Bz env a) w
def Nx(cx:Cx)(Q:Act->World->Prop)(env:Env)(H:Hp):Prop:=∀a w,St cx env H a w->Q (Bz env a) w
theorem Fit.cons{n:Nat}{env:Env}(h:Fit n env){d:Nat}(hd:Nat.blt d n=true)(v:Value):Fit n ((d,v)::env):=by
 intro x hx;rcases za.1 hx with rfl|hx
 · simpa using hd
 · exact h x hx
theorem Fit.putE{n:Nat}{env:Env}(h:Fit n env){d:Option Nat}(hd:∀t,d=some t->t<n)(v:Value):Fit n (putE d v env):=by
 cases d with
 |none=>exact h
 |some d=>
  intro x hx;rcases za.1 hx with rfl|hx
  · exact hd d rfl
  · exact h x hx
theorem PN(d:Option Nat)(v:Value)(env:Env)(a:Act):Bz (putE d v env) a=(Bz env a).put d v:=by cases d<;>rfl
/- states told otherwise -/
theorem SG{a:Act}{env:Env}(hf:Fit a.tmps.size env):∀(sl:Env),(∀p∈sl,p.1<a.tmps.size/\Fb a env p.1=p.2)->Bz sl (Bz env a)=Bz env a
 |[],_=>rfl
 |(d,v)::sl,h=>by
  simp only [Bz];rw [SG hf sl (fun p hp=>h p (zW _ hp))];obtain ⟨h1,h2⟩:=h (d,v) (zX ..);refine Ib (by rw [Dl]) (by rw [JL]) fun t ht=>?_;rw [Dl]at ht;rw [IX _ _ _ _ ht];split
  · rename_i e
    cases e;have:=CJ a env hf d
    rw [AA8,zn ht]at this;rw [zn ht];simp only [AN4]at this;rw [this];exact congrArg some h2.symm
  · rfl
def JF(a:Act)(env:Env):List Nat->Env
 |[]=>[]
 |t::l=>(t,Fb a env t)::JF a env l
theorem Kz{a:Act}{env:Env}:∀{l:List Nat} {p:Nat×Value},p∈JF a env l->p.1∈l/\Fb a env p.1=p.2
 |[],_,h=>by cases h
 |t::l,p,h=>by
  simp only [JF,za]at h;rcases h with rfl|h
  · exact ⟨zX ..,rfl⟩
  · exact ⟨zW _ (Kz h).1,(Kz h).2⟩
theorem St.slots{cx:Cx}{env env':Env}{H:Hp}{a:Act}{w:World}(h:St cx env H a w)(sl:List Nat)(hn:sl.all (fun t=>Nat.blt t cx.N)=true)(he:∀a,JF a env sl=env'):∃a',St cx env' H a' w/\Bz env' a'=Bz env a:=by
 have hlt:∀p∈env',p.1<cx.N/\Fb a env p.1=p.2:=fun p hp=>by
  rw [<-he a]at hp;obtain ⟨h1,h2⟩:=Kz hp;have:=AE0.1 hn _ h1
  exact ⟨by simpa using this,h2⟩
 refine ⟨Bz env a,⟨by rw [Ih];exact h.size,by rw [FO];exact h.defers,fun p hp=>(hlt p hp).1,h.sat⟩,SG (by rw [h.size];exact h.fit) _ fun p hp=>?_⟩;rw [h.size];exact hlt p hp
theorem qM{P:Program}{cx:Cx}{c:Code}{Q:Exit->Act->World->Prop}{env env':Env}{H:Hp}(sl:List Nat)(hn:sl.all (fun t=>Nat.blt t cx.N)=true)(he:∀a,JF a env sl=env')(h:At P cx c Q env' H):At P cx c Q env H:=fun a w hs=>by
 obtain ⟨a',h1,h2⟩:=hs.slots sl hn he;rw [<-h2];exact h a' w h1
theorem nR{cx:Cx}{Q:Act->World->Prop}{env env':Env}{H:Hp}(sl:List Nat)(hn:sl.all (fun t=>Nat.blt t cx.N)=true)(he:∀a,JF a env sl=env')(h:Nx cx Q env' H):Nx cx Q env H:=fun a w hs=>by
 obtain ⟨a',h1,h2⟩:=hs.slots sl hn he;rw [<-h2];exact h a' w h1
theorem St.heap{cx:Cx}{env:Env}{H H':Hp}{a:Act}{w:World}(h:St cx env H a w)(hp:qy H' H):St cx env H' a w:=⟨h.size,h.defers,h.fit,h.sat.sub hp⟩
theorem WS{P:Program}{cx:Cx}{c:Code}{Q:Exit->Act->World->Prop}{env:Env}{H H':Hp}(hp:H.flatten=H'.flatten)(h:At P cx c Q env H'):At P cx c Q env H:=fun a w hs=>h a w (hs.heap ⟨[],by rw [hp];simp⟩)
/- code -/
section
variable{P:Program}{cx:Cx}{Q:Exit->Act->World->Prop}{env:Env}{H:Hp}
theorem wo{x y:Code}(h:At P cx x (Exit.then (y.wpIn (Fx cx.r) 0 P Q) Q) env H):At P cx (.seq x y) Q env H:=fun a w hs=>wpIn_seq (h a w hs)
theorem tJ{y:Code}(h:At P cx y Q env H):Nx cx ((Exit.then (y.wpIn (Fx cx.r) 0 P Q) Q) .normal) env H:=h
theorem tH{K:Act->World->Prop}{e:Exit}(he:e≠ .normal)(h:Nx cx (Q e) env H):Nx cx (Exit.then K Q e) env H:=by cases e<;>first|exact absurd rfl he|exact h
theorem AJ(h:Nx cx (Q .normal) env H):At P cx .skip Q env H:=fun a w hs=>wpIn_skip (h a w hs)
theorem TK{l:Nat}(h:Nx cx (Q .normal) env H):At P cx (.label l) Q env H:=fun a w hs=>wpIn_label (h a w hs)
theorem AC(h:Nx cx (Q .ret) env H):At P cx .ret Q env H:=fun a w hs=>wpIn_ret (h a w hs)
theorem BG{i:Nat}(h:Nx cx (Q (.exit i)) env H):At P cx (.exit i) Q env H:=fun a w hs=>wpIn_exit (h a w hs)
theorem AO{i:Nat}{c:Code}(h:At P cx c (Exit.inBlock i Q) env H):At P cx (.block i c) Q env H:=fun a w hs=>wpIn_block (h a w hs)
theorem A9{i:Nat}(h:Nx cx (Q .normal) env H):Nx cx (Exit.inBlock i Q .normal) env H:=h
theorem AX{i:Nat}(h:Nx cx (Q .normal) env H):Nx cx (Exit.inBlock i Q (.exit i)) env H:=fun a w hs=>by simp only [Exit.inBlock,An4];exact h a w hs
theorem Ao{i j:Nat}(hn:Nat.beq j i=false)(h:Nx cx (Q (.exit j)) env H):Nx cx (Exit.inBlock i Q (.exit j)) env H:=fun a w hs=>by
 have:j≠i:=fun e=>by subst e;simp at hn
 simp only [Exit.inBlock,Am6 this];exact h a w hs
theorem Ab{i:Nat}(h:Nx cx (Q .ret) env H):Nx cx (Exit.inBlock i Q .ret) env H:=h
theorem fM{a:Act}{x:Operand}{v:Value}{w:World}(hs:St cx env H a w)(h:∀a,ev a env x=v):(Bz env a).eval x=v:=by
 rw [F9 a env (by rw [hs.size];exact hs.fit)];exact h a
theorem Aw{x y:Code}{c:Operand}{p:Prop} [hd:Decidable p](hc:∀a,ev a env c= .bool (decide p))(ht:p->At P cx x Q env H)(hf:¬p->At P cx y Q env H):At P cx (.cond c x y) Q env H:=fun a w hs=>by
 refine wpIn_cond_split (t:=decide p) (fM hs hc) (fun h=>ht (An1 h) a w hs) (fun h=>hf (An3 h) a w hs)
theorem AR{x y:Code}{c:Operand}{b:Bool}(hc:∀a,ev a env c= .bool b)(ht:b=true->At P cx x Q env H)(hf:b=false->At P cx y Q env H):At P cx (.cond c x y) Q env H:=fun a w hs=>
 wpIn_cond_split (fM hs hc) (fun h=>ht h a w hs) (fun h=>hf h a w hs)
theorem DV{x y:Code}{c:Operand}(hc:∀a,ev a env c= .bool true)(h:At P cx x Q env H):At P cx (.cond c x y) Q env H:=fun a w hs=>wpIn_cond_true (fM hs hc) (h a w hs)
theorem Dv{x y:Code}{c:Operand}(hc:∀a,ev a env c= .bool false)(h:At P cx y Q env H):At P cx (.cond c x y) Q env H:=fun a w hs=>wpIn_cond_false (fM hs hc) (h a w hs)
def yS(cx:Cx)(I:Nat->Env->Hp->Prop)(n:Nat)(a:Act)(w:World):Prop:=∃m env H a0,m<n/\I m env H/\St cx env H a0 w/\a=Bz env a0
theorem uf{c:Code}(I:Nat->Env->Hp->Prop)(n:Nat)(h0:I n env H)(round:∀n env H,I n env H->At P cx c (Exit.then (yS cx I n) Q) env H):At P cx (.loop c) Q env H:=by
 intro a w hs b k cs hro hb hr;have key:∀n env H a w,I n env H->St cx env H a w->
  ∃e a' w',Q e a' w'/\ArrivesIn (Machine.fenced P (Fx cx.r)) P (lone (b.atR (Bz env a) (.code c:: .inLoop c::k)) cs w) b k cs e a' w':=by
  intro n;induction n using Nat.strongRecOn with
  |_ n ih=>
   intro env H a w hI hs;obtain ⟨e,a₁,w₁,hq,harr⟩:=round n env H hI a w hs b (.inLoop c::k) cs hro hb hr;cases e with
   |normal=>
    obtain ⟨m,env',H',a0,hlt,hI',hs',rfl⟩:=hq;obtain ⟨e₂,a₂,w₂,hq₂,harr₂⟩:=ih m hlt env' H' a0 w₁ hI' hs';exact ⟨e₂,a₂,w₂,hq₂,.of_steps (StepsIn.trans harr (.one (fenced_calm hb hr V) stepR_inLoop)) harr₂⟩
   |exit id=>exact ⟨_,a₁,w₁,hq,.pass (x:= .inLoop c) rfl (fun _ _=> .inl Ap0) harr⟩
   |goto l=>exact ⟨_,a₁,w₁,hq,.pass (x:= .inLoop c) rfl (fun _ _=> .inl Ap0) harr⟩
   |ret=>exact ⟨_,a₁,w₁,hq,.pass (x:= .inLoop c) rfl (fun _ _=> .inl Ap0) harr⟩
   |panic ch=>exact ⟨_,a₁,w₁,hq,.pass (x:= .inLoop c) rfl (fun _ _=> .inl Ap0) harr⟩
   |outgrown=>exact ⟨_,a₁,w₁,hq,.pass (x:= .inLoop c) rfl (fun _ _=> .inl Ap0) harr⟩
 obtain ⟨e,a',w',hq,harr⟩:=key n env H a w h0 hs;exact ⟨e,a',w',hq,.of_steps (.one (fenced_calm hb hr V) stepR_loop) harr⟩
def rC(cx:Cx)(I:Nat->Env->Hp->Prop)(B:Env)(R:Hp)(n:Nat)(a:Act)(w:World):Prop:=∃m e H a0,m<n/\I m e H/\St cx (e++B) (H++R) a0 w/\a=Bz (e++B) a0
theorem BI{c:Code}{e0 B:Env}{H0 R:Hp}(I:Nat->Env->Hp->Prop){n:Nat}(h0:I n e0 H0)(hp:EY H0 H R)(round:∀n e H,I n e H->At P cx c (Exit.then (rC cx I B R n) Q) (e++B) (H++R)):At P cx (.loop c) Q (e0++B) H:=fun a w hs=>by
 refine uf (P:=P) (cx:=cx) (Q:=Q) (fun m env H=>∃e H1,env=e++B/\H=H1++R/\I m e H1) n ⟨e0,H0,V,V,h0⟩ ?_ a w ⟨hs.size,hs.defers,hs.fit,hs.sat.perm hp.perm⟩;rintro m env H ⟨e,H1,rfl,rfl,hI⟩ a w hs;refine wpIn_mono (round m e H1 hI a w hs) fun x a' w' hx=>?_;cases x<;>first|exact hx|(obtain ⟨m',e',H',a0,h1,h2,h3,h4⟩:=hx;exact ⟨m',e'++B,H'++R,a0,h1,⟨e',H',rfl,rfl,h2⟩,h3,h4⟩)
theorem Ad{I:Nat->Env->Hp->Prop}{B e':Env}{R H':Hp}{n m:Nat}(h:I m e' H')(hm:m<n:=by omega)(hp:Sub (H'++R) H:=by repeat(first|exact Sub.refl _|exact Sub.nil _|(apply Sub.cons;(focus (repeat(first|exact One.here _ _|apply One.there))))|refine Sub.drop _ ?_)):Nx cx ((Exit.then (rC cx I B R n) Q) .normal) (e'++B) H:=fun a _ hs=>⟨m,e',H',a,hm,h,⟨hs.size,hs.defers,hs.fit,hs.sat.sub hp.amid⟩,rfl⟩
end
/- regions of fixed order -/
def wpL(F:Fence)(P:Program)(ops:Array Oper)(Q:Exit->Act->World->Prop):List Oper->Act->World->Prop
 |[],a,w=>Q .normal a w
 |o::l,a,w=>if Region.wanted o (yielded ops a.tmps)then o.wpIn F 0 P a w (wpL F P ops Q l) Q else wpL F P ops Q l (a.put o.dst undef) w
theorem kr{r:Option Nat}{P:Program}{ops:Array Oper}{Q:Exit->Act->World->Prop}:∀(l:List Oper) (j:Nat),(∀i,l[i]?=ops[j+i]?)->∀a w,wpL (Fx r) P ops Q l a w->wpOpsIn (Fx r) 0 P ops Q (List.range' j l.length) a w
 |[],_,_,_,_,h=>h
 |o::l,j,hl,a,w,h=>by
  have h0:=hl 0;simp only [AH6,AH1]at h0;have ih:∀a w,wpL (Fx r) P ops Q l a w->wpOpsIn (Fx r) 0 P ops Q (List.range' (j+1) l.length) a w:=fun a w=>kr l (j+1) (fun i=>by
   have:=hl (i+1);simp only [AH0]at this;rw [this];congr 1;omega) a w
  simp only [ze,AS8,wpOpsIn,<-h0];simp only [wpL]at h;split at h
  · rename_i hw;rw [Am7 hw];exact Oper.wpIn_mono ih h
  · rename_i hw;rw [Am6 hw];exact ⟨fun _ _=>trivial,ih _ _ h⟩
def Ops(P:Program)(ops:Array Oper)(l:List Oper)(cx:Cx)(Q:Exit->Act->World->Prop)(env:Env)(H:Hp):Prop:=∀a w,St cx env H a w->wpL (Fx cx.r) P ops Q l (Bz env a) w
theorem kQ{P:Program}{cx:Cx}{Q:Exit->Act->World->Prop}{env:Env}{H:Hp}{id:Nat}{ops:Array Oper}(h:Ops P ops ops.toList cx Q env H):At P cx (.region id ops false) Q env H:=fun a w hs=>by
 refine wpIn_region ?_;have:=kr ops.toList 0 (fun i=>by simp) _ _ (h a w hs)
 rwa [AE7,<-AQ5]at this
def OpP(P:Program)(o:Oper)(env:Env)(C:List A8)(v:Value):Prop:=∀(a:Act) (w:World),(∀p∈C,w.heap[p.1]?=some p.2)->(execOp (ev a env) o).run P w= .ok (.value v) w
def Ww(P:Program)(K:Value->World->Prop)(Kp:List PanicEntry->World->Prop):Result Next->Prop
 | .ok (.value v) w=>K v w
 | .ok .skip w=>K undef w
 | .ok (.enter f args) w=>Calls P f args w fun e w'=>match e with
   | .returned v=>K v w'
   | .panicked ch=>Kp ch w'
   | .outgrown=>False
 | .ok (.round l f tmps assign body) w=>RoundIn Fence.wide 0 P l f tmps assign body w fun e w'=>match e with
   | .returned v=>K v w'
   | .panicked ch=>Kp ch w'
   | .outgrown=>False
 | .halt (.panic v) w=>Kp [{v,recovered:=false}] w
 |_=>False
def OpW(P:Program)(u:World)(o:Oper)(env:Env)(H:Hp)(Fw:Value->Hp->Prop)(Pan:List PanicEntry->Hp->Prop):Prop:=
 ∀(a:Act) (w:World),Sat u H w->∀(K:Value->World->Prop) (Kp:List PanicEntry->World->Prop),(∀v H' w',Fw v H'->Sat u H' w'->K v w')->(∀ch H' w',Pan ch H'->Sat u H' w'->Kp ch w')->Ww P K Kp ((execOp (ev a env) o).run P w)
theorem WL{r:Option Nat}{P:Program}{f:FuncId}{args:Array Value}{w:World}{R:Ending->World->Prop}(h:Calls P f args w R):CallsIn (Fx r) 0 P f args w R:=⟨trivial,fun cs _=>by
 obtain ⟨e,w',fr,h1,h2,h3⟩:=h cs;exact ⟨e,w',fr,h1,(comesIn_wide (P:=P)).2 h2,h3⟩⟩
theorem VN{P:Program}{r:Option Nat}{o:Oper}{a:Act}{K:Act->World->Prop}{Q:Exit->Act->World->Prop}{R:Result Next}
 (h:Ww P (fun v w=>K (a.put o.dst v) w) (fun ch w=>Q (.panic ch) a w) R):o.uponIn (Fx r) 0 P a K Q R:=by
 unfold Ww at h;cases R with
 |ok n w=>
  cases n<;>simp only [Oper.uponIn]at h⊢<;>first|exact h|skip
  · refine ⟨fun h=>by simp [Fx,Fence.wide]at h,WL (Calls.mono h fun e w' he=>?_)⟩
    cases e<;>first|exact he|exact he.elim
  · refine ⟨fun h=>by simp [Fx,Fence.wide]at h,?_⟩
    exact RoundIn.mono (F:=Fx r) h fun e w' he=>by cases e<;>first|exact he|exact he.elim
 |halt x w=>cases x<;>simp only [Oper.uponIn]at h⊢<;>exact h
theorem RD{r:Option Nat}{o:Oper}{ρ:Operand->Value}(h:∀c,o.op≠ .defer c):o.semAt (Fx r).round ρ=execOp ρ o:=Oper.semAt_eq _ _ _ h
def Da:Op->Bool
 | .defer _=>false
 |_=>true
theorem LV{o:Op}(h:Da o=true)(c:Call):o≠ .defer c:=by intro e;subst e;simp [Da]at h
section
variable{P:Program}{ops:Array Oper}{l:List Oper}{cx:Cx}{Q:Exit->Act->World->Prop}{env:Env}{H:Hp}{o:Oper}
theorem si(h:Nx cx (Q .normal) env H):Ops P ops [] cx Q env H:=h
theorem JO{Fw:Value->Hp->Prop}{Pan:List PanicEntry->Hp->Prop}(hg:∀a,wantedE ops a env o.guard=true)(hd:∀t,o.dst=some t->t<cx.N)(hn:Da o.op=true)(hw:OpW P cx.u o env H Fw Pan)
 (h:∀v H',Fw v H'->Ops P ops l cx Q (putE o.dst v env) H')(hp:∀ch H',Pan ch H'->∀env,Nx cx (Q (.panic ch)) env H'):Ops P ops (o::l) cx Q env H:=fun a w hs=>by
 have hfit:Fit a.tmps.size env:=by rw [hs.size];exact hs.fit
 simp only [wpL];rw [FV ops o a env hfit,hg a,Am7 rfl];refine ⟨fun _ _=>trivial,VN ?_⟩;rw [RD (LV hn),F9 a env hfit];refine hw a w hs.sat _ _ (fun v H' w' hv hsat=>?_) (fun ch H' w' hv hsat=>?_)
 · rw [<-PN]
   exact h v H' hv a w' ⟨hs.size,hs.defers,hs.fit.putE hd v,hsat⟩
 · exact hp ch H' hv env a w' ⟨hs.size,hs.defers,hs.fit,hsat⟩
theorem OpP.eff{C:List A8}{v:Value}(h:OpP P o env C v){u:World}(hC:∀p∈C,p∈H.flatten):OpW P u o env H (fun v' H'=>v'=v/\H'=H) (fun _ _=>False):=fun a w hs K Kp hK _=>by
 rw [h a w fun p hp=>hs.get p (hC p hp)];exact hK _ _ _ ⟨V,V⟩ hs
end
def fits(n:Nat):Option Nat->Bool
 |some d=>Nat.blt d n
 |none=>true
theorem Qk{n:Nat}{d:Option Nat}(h:fits n d=true)(t:Nat)(ht:d=some t):t<n:=by subst ht;simpa [fits]using h
/- pure operations in a region of fixed order -/
section
variable{P:Program}{ops:Array Oper}{l:List Oper}{cx:Cx}{Q:Exit->Act->World->Prop}{env:Env}{H:Hp}
theorem KH{d:Nat}{op:Op}{ty:TypeId}{pos:String}{af:Array Edge}{v:Value}(h:OpP P ⟨some d,op,ty,pos,af,none⟩ env [] v)(hn:Da op=true)(hd:Nat.blt d cx.N=true)
 (k:Ops P ops l cx Q ((d,v)::env) H):Ops P ops (⟨some d,op,ty,pos,af,none⟩::l) cx Q env H:=
 JO (fun _=>rfl) (fun t ht=>by cases ht;simpa using hd) hn (h.eff (u:=cx.u) (H:=H) Ap0) (by rintro _ _ ⟨rfl,rfl⟩;exact k) (fun _ _ h=>h.elim)
theorem Bq{d:Nat}{op:Op}{ty:TypeId}{pos:String}{af:Array Edge}{v:Value}(h:OpP P ⟨some d,op,ty,pos,af,none⟩ env [] v)
 (k:Ops P ops l cx Q ((d,v)::env) H)(hn:Da op=true:=by exact rfl)(hd:Nat.blt d cx.N=true:=by exact rfl):Ops P ops (⟨some d,op,ty,pos,af,none⟩::l) cx Q env H:=KH h hn hd k
theorem xW{d:Nat}{op:Op}{ty:TypeId}{pos:String}{af:Array Edge}{v:Value}{b:Nat}{o:Obj}(hb:Has b o H)(h:OpP P ⟨some d,op,ty,pos,af,none⟩ env [(b,o)] v)(hn:Da op=true)(hd:Nat.blt d cx.N=true)
 (k:Ops P ops l cx Q ((d,v)::env) H):Ops P ops (⟨some d,op,ty,pos,af,none⟩::l) cx Q env H:=
 JO (fun _=>rfl) (fun t ht=>by cases ht;simpa using hd) hn (h.eff (u:=cx.u) (H:=H) (by simpa using hb.mem)) (by rintro _ _ ⟨rfl,rfl⟩;exact k) (fun _ _ h=>h.elim)
theorem Kg{d:Nat}{op:Op}{ty:TypeId}{pos:String}{af:Array Edge}{g:Nat×Bool}{v:Value}(hg:∀a,wantedE ops a env (some g)=true)(h:OpP P ⟨some d,op,ty,pos,af,some g⟩ env [] v)(hn:Da op=true)(hd:Nat.blt d cx.N=true)
 (k:Ops P ops l cx Q ((d,v)::env) H):Ops P ops (⟨some d,op,ty,pos,af,some g⟩::l) cx Q env H:=
 JO hg (fun t ht=>by cases ht;simpa using hd) hn (h.eff (u:=cx.u) (H:=H) Ap0) (by rintro _ _ ⟨rfl,rfl⟩;exact k) (fun _ _ h=>h.elim)
theorem FJ{d:Nat}{op:Op}{ty:TypeId}{pos:String}{af:Array Edge}{g:Nat×Bool}{v:Value}{b:Nat}{o:Obj}(hg:∀a,wantedE ops a env (some g)=true)(hb:Has b o H)(h:OpP P ⟨some d,op,ty,pos,af,some g⟩ env [(b,o)] v)(hn:Da op=true)(hd:Nat.blt d cx.N=true)
 (k:Ops P ops l cx Q ((d,v)::env) H):Ops P ops (⟨some d,op,ty,pos,af,some g⟩::l) cx Q env H:=
 JO hg (fun t ht=>by cases ht;simpa using hd) hn (h.eff (u:=cx.u) (H:=H) (by simpa using hb.mem)) (by rintro _ _ ⟨rfl,rfl⟩;exact k) (fun _ _ h=>h.elim)
theorem A7{d:Option Nat}{op:Op}{ty:TypeId}{pos:String}{af:Array Edge}{g:Nat×Bool}(hg:∀a,wantedE ops a env (some g)=false)(hd:fits cx.N d=true)
 (k:Ops P ops l cx Q (putE d undef env) H):Ops P ops (⟨d,op,ty,pos,af,some g⟩::l) cx Q env H:=fun a w hs=>by
 have hfit:Fit a.tmps.size env:=by rw [hs.size];exact hs.fit
 simp only [wpL];rw [FV ops _ a env hfit,hg a,Am6 Ap0,<-PN];exact k a w ⟨hs.size,hs.defers,hs.fit.putE (Qk hd) _,hs.sat⟩
theorem Ak{t:Nat}{p:Prop} [hd:Decidable p](hv:∀a,Fb a env t= .bool (decide p))(h1:Nat.blt t cx.N=true)(ht:p->Ops P ops l cx Q ((t,.bool true)::env) H)(hf:¬p->Ops P ops l cx Q ((t,.bool false)::env) H):Ops P ops l cx Q env H:=fun a w hs=>by
 have hfit:Fit a.tmps.size env:=by rw [hs.size];exact hs.fit
 have key:∀b,Fb a env t= .bool b->Bz ((t,.bool b)::env) a=Bz env a:=fun b hb=>by
  have:=SG hfit [(t,.bool b)] (by intro q hq;simp only [zI]at hq;subst hq;exact ⟨by rw [hs.size];simpa using h1,hb⟩);exact this
 by_cases hp:p
 · rw [<-key true (by rw [hv a,Am8 hp])];exact ht hp a w ⟨hs.size,hs.defers,hs.fit.cons h1 _,hs.sat⟩
 · rw [<-key false (by rw [hv a,Am5 hp])];exact hf hp a w ⟨hs.size,hs.defers,hs.fit.cons h1 _,hs.sat⟩
theorem Aj{t:Nat}{b:Bool}(hv:∀a,Fb a env t= .bool b)(h1:Nat.blt t cx.N=true)(ht:b=true->Ops P ops l cx Q ((t,.bool true)::env) H)(hf:b=false->Ops P ops l cx Q ((t,.bool false)::env) H):Ops P ops l cx Q env H:=
 Ak (p:=b=true) (fun a=>by rw [hv a];cases b<;>rfl) h1 ht (fun h=>hf (by simpa using h))
end
end Gw
