/- Walking by chunks: a deferred call, recover. No function of the program is named. -/
/- Walking by chunks: two deferred calls, the last of which leaves memory as it was; a deferred call with an argument, one that does not recover. No function of the program is named. -/
/- Walking by chunks: structs of four numbers compared. No function of the program is named. -/
import Derived.Test.YtkdgffcfmgmemaaGreatDoorEz
import Derived.Test.YtkdgffcfmgmemaaGreatDoorEx5
import Derived.Lib.AppendStr
import Derived.Lib.UnsafeStr
import Derived.Lib.Builder
import Derived.Laws.Externs
import Derived.Test.YtkdgffcfmgmemaaGreatDoorEx6
import Derived.RecoverIn
import Derived.Test.YtkdgffcfmgmemaaGreatDoorEx22
set_option linter.unusedVariables false
set_option linter.unusedSimpArgs false
namespace Gw
open Go Go.RowKit
section
variable{P:Program}{ops:Array Oper}{l:List Oper}{cx:Cx}{Q:Exit→Act→World→Prop}{env:Env}{H:Hp}
theorem dA{fx:Operand}{fv:Fn}{caps:Array Value}{ty:TypeId}{pos:String}{af:Array Edge}(hr:cx.r=none)(hf:∀a,ev a env fx= .func fv #[] caps)
 (k:Ops P ops l ⟨cx.N,⟨.fn fv caps,#[]⟩::cx.D,cx.u,cx.r⟩ Q env H):Ops P ops (⟨none,.defer ⟨.value fx,#[],#[]⟩,ty,pos,af,none⟩::l) cx Q env H:=fun a w hs=>by
 have hfit:Fit a.tmps.size env:=by rw [hs.size];exact hs.fit
 simp only [wpL];rw [FP ops _ a env hfit,show wantedE ops a env (⟨none,.defer ⟨.value fx,#[],#[]⟩,ty,pos,af,none⟩:Oper).guard=true from rfl,if_pos rfl];refine ⟨fun _ _=>trivial,?_⟩;have hro:(Fx cx.r).round=none:=hr
 rw [hro,Oper.semAt_none,El a env hfit];have:(execOp (ev a env) ⟨none,.defer ⟨.value fx,#[],#[]⟩,ty,pos,af,none⟩).run P w= .ok (.defer ⟨.fn fv caps,#[]⟩) w:=by
  simp [execOp,resolve,hf a,Deferred.ofValue]
 rw [this,Oper.uponIn_defer];have h:=k {a with defers:=⟨.fn fv caps,#[]⟩::cx.D} w ⟨hs.size,rfl,hs.fit,hs.sat⟩
 have e:Bv env {a with defers:=⟨.fn fv caps,#[]⟩::cx.D}={Bv env a with defers:=⟨.fn fv caps,#[]⟩::(Bv env a).defers}:=by
  rw [De,Ey,hs.defers]
 rw [e]at h;exact h
end
def Nj(P:Program)(f:FuncId)(args:Array Value)(m m':FrameMode)(H:Hp)(Q:Hp→Prop):Prop:=
 ∀(u:World) (R:Hp) (w:World),Sat u (H++R) w→CallsDIn Fence.wide 0 P f args m w fun e m2 w'=>∃v H',e= .returned v∧m2=m'∧Q H'∧Sat u (H'++R) w'
theorem Oy{P:Program}{f:FuncId}{args:Array Value}{m:FrameMode}{w:World}{R1 R2:Ending→FrameMode→World→Prop}(h:CallsDIn Fence.wide 0 P f args m w R1)(hq:∀e m2 w',R1 e m2 w'→R2 e m2 w'):CallsDIn Fence.wide 0 P f args m w R2:=
 ⟨h.1,fun c cs hc hr=>by
   obtain ⟨e,u',w',fr,h1,h2⟩:=h.2 c cs hc hr;exact ⟨e,u',w',fr,hq _ _ _ h1,h2⟩⟩
theorem YC{P:Program}{fn:Func}{tmps:Array Value}{f:FuncId}{caps:Array Value}{m m':FrameMode}{w u:World}{Hd Rr R:Hp}{Qd:Hp→Prop}{Q:Value→Hp→Prop}{Pn:List PanicEntry→Hp→Prop}
 (hm:m≠ .run)(hm':settle m'= .returning)(hc:∀(args:Array Value) (w:World),(callFunc f args).run P w= .ok (.enter f args) w)(hd:Nj P f caps m m' Hd Qd)(hs:Sat u (Hd++Rr) w)
 (hfin:∀H1 w',Qd H1→Sat u (H1++Rr) w'→∃v H',(results fn tmps).run P w'= .ok v w'∧Q v H'∧Sat u (H'++R) w'):
 LeavesInM Fence.wide 0 P fn tmps (Ff u R Q Pn) [⟨.fn (.func f) caps,#[]⟩] m w:=by
 refine ⟨hm,.inr ⟨fun h=>by simp [Fence.wide]at h,.func f,caps,f,caps,rfl,?_,fun _ _=>trivial,?_⟩⟩
 · simp [invoke,hc]
 · refine Oy (hd u Rr w hs) ?_
   rintro e m2 w' ⟨v,H1,rfl,rfl,hq,hsat⟩;obtain ⟨v2,H',h1,h2,h3⟩:=hfin H1 w' hq hsat;show LeavesInM Fence.wide 0 P fn tmps (Ff u R Q Pn) [] (settle m2) w'
   rw [hm'];exact ⟨v2,h1,.inl ⟨v2,H',rfl,h2,h3⟩⟩
section
variable{P:Program}{N:Nat}{u:World}{fn:Func}{R H Hd Rr:Hp}{Q:Value→Hp→Prop}{Pn:List PanicEntry→Hp→Prop}{env:Env}{e:Exit}{f:FuncId}{caps:Array Value}{Qd:Hp→Prop}{m':FrameMode}
end
/- a region that recovers -/
def fM(P:Program)(ops:Array Oper)(l:List Nat)(cx:Cx)(cs:List Frame)(Q:Exit→Act→List Frame→World→Prop)(env:Env)(H:Hp):Prop:=∀a w,St cx env H a w→wpOpsSIn Fence.wide 0 P ops Q l (Bv env a) cs w
section
variable{P:Program}{ops:Array Oper}{l:List Nat}{i:Nat}{cx:Cx}{cs:List Frame}{Q:Exit→Act→List Frame→World→Prop}{env:Env}{H:Hp}
theorem OJ{d:Nat}{op:Op}{ty:TypeId}{pos:String}{af:Array Edge}{v:Value}(ho:ops[i]?=some ⟨some d,op,ty,pos,af,none⟩)(h:OpP P ⟨some d,op,ty,pos,af,none⟩ env [] v)(hd:Nat.blt d cx.N=true)
 (k:fM P ops l cx cs Q ((d,v)::env) H):fM P ops (i::l) cx cs Q env H:=fun a w hs=>by
 have hfit:Fit a.tmps.size env:=by rw [hs.size];exact hs.fit
 simp only [wpOpsSIn,ho];refine ⟨fun _ _=>trivial,?_⟩;rw [FP ops _ a env hfit,show wantedE ops a env (⟨some d,op,ty,pos,af,none⟩:Oper).guard=true from rfl,if_pos rfl,El a env hfit,h a w (by simp)];exact k a w ⟨hs.size,hs.defers,hs.fit.cons hd v,hs.sat⟩
theorem Y1{d:Nat}{ty:TypeId}{pos:String}{af:Array Edge}(ho:ops[i]?=some ⟨some d,.call ⟨.builtin .recover,#[],#[]⟩,ty,pos,af,none⟩)(hr:recoverD cs=none)(hd:Nat.blt d cx.N=true)
 (k:fM P ops l cx cs Q ((d,.nilIface)::env) H):fM P ops (i::l) cx cs Q env H:=fun a w hs=>by
 have hfit:Fit a.tmps.size env:=by rw [hs.size];exact hs.fit
 simp only [wpOpsSIn,ho];refine ⟨fun _ _=>trivial,?_⟩;rw [FP ops _ a env hfit,show wantedE ops a env (⟨some d,.call ⟨.builtin .recover,#[],#[]⟩,ty,pos,af,none⟩:Oper).guard=true from rfl,if_pos rfl,El a env hfit];have:(execOp (ev a env) ⟨some d,.call ⟨.builtin .recover,#[],#[]⟩,ty,pos,af,none⟩).run P w= .ok .recover w:=by
  simp [EJ,resolve,invoke,builtin]
 rw [this];simp only [hr];exact k a w ⟨hs.size,hs.defers,hs.fit.cons hd _,hs.sat⟩
end
theorem VF{P:Program}{f:FuncId}{fn:Func}{id:Nat}{ops:Array Oper}{y:Code}{args:Array Value}{N:Nat}{m m':FrameMode}{H:Hp}{Qd:Hp→Prop}{env1:Env}(hf:P.funcs[f]?=some fn)(hb:fn.body=some (.seq (.region id ops false) y))(hN:fn.ntmps=N)(hs:Nat.ble args.size N=true)(hres:fn.results=#[])
 (hrec:∀(u:World) (R:Hp) (c:Frame) (cs:List Frame) (Q:Exit→Act→List Frame→World→Prop),c.mode=m→(∀a w,St ⟨N,[],u,none⟩ env1 (H++R) a w→Q .normal (Bv env1 a) ({c with mode:=m'}::cs) w)→fM P ops (List.range ops.size) ⟨N,[],u,none⟩ (c::cs) Q (F9 0 args.toList) (H++R))
 (h:∀u R,At P ⟨N,[],u,none⟩ y (bodyPost P fn (Ff u R (fun _ H'=>Qd H') (fun _ _=>False))) env1 (H++R)):Nj P f args m m' H Qd:=fun u R w hsat=>by
 have hle:args.size≤N:=wR hs;have hput:Bv (F9 0 args.toList) {tmps:=args++Array.replicate (fn.ntmps -args.size) undef,defers:=[]}={tmps:=args++Array.replicate (fn.ntmps -args.size) undef,defers:=[]}:=by
  refine Jf _ fun p hp=>?_;obtain ⟨_,h2⟩:=Ew _ _ _ hp;simp only [xA,uO]at h2;have hlt:p.1<args.size:=by
   rcases uJ p.1 args.size with h|h
   · exact h
   · simp [uT h]at h2
  rw [wS hlt];exact h2
 refine callsDIn_of_wpSIn (F:=Fence.wide) hf hb trivial fun c₀ cs hm=>?_;rw [←hput];refine wpSIn_seq (wpSIn_region ?_);refine hrec u R c₀ cs _ hm (fun a w1 hs1=>?_) _ w ⟨by simp [hN];omega,rfl,fun p hp=>?_,hsat⟩
 · refine wpSIn_of_wpIn rfl (wpIn_mono (h u R a w1 hs1) ?_)
   intro e a2 w2 hpost;cases e with
   |normal=>
    obtain ⟨hd,v,hr,hR⟩:=hpost;rcases hR with⟨v',H',h1,h2,h3⟩|⟨_,_,_,h4,_⟩
    · exact ⟨hd,m',rfl,v,hr,v',H',h1,rfl,h2,h3⟩
    · exact h4.elim
   |ret=>
    obtain ⟨hd,v,hr,hR⟩:=hpost;rcases hR with⟨v',H',h1,h2,h3⟩|⟨_,_,_,h4,_⟩
    · exact ⟨hd,m',rfl,v,hr,v',H',h1,rfl,h2,h3⟩
    · exact h4.elim
   |panic ch=>
    obtain ⟨hd,hR⟩:=hpost;rcases hR with⟨_,_,h1,_⟩|⟨_,_,_,h4,_⟩
    · cases h1
    · exact h4.elim
   |outgrown=>
    rcases hpost with⟨_,_,h1,_⟩|⟨_,_,_,h4,_⟩
    · cases h1
    · exact h4.elim
   |exit i=>exact hpost.elim
   |goto i=>exact hpost.elim
 · obtain ⟨_,h2⟩:=Ew _ _ _ hp
   simp only [xA,uO]at h2;rcases uJ p.1 args.size with h|h
   · exact yZ h hle
   · simp [uT h]at h2
section
variable{P:Program}{ops:Array Oper}{l:List Oper}{cx:Cx}{Q:Exit→Act→World→Prop}{env:Env}{H:Hp}
theorem Y0{f:FuncId}{x:Operand}{v:Value}{ats:Array TypeId}{ty:TypeId}{pos:String}{af:Array Edge}(hr:cx.r=none)(hx:∀a,ev a env x=v)
 (k:Ops P ops l ⟨cx.N,⟨.fn (.func f) #[],#[v]⟩::cx.D,cx.u,cx.r⟩ Q env H):Ops P ops (⟨none,.defer ⟨.value (.func f),#[x],ats⟩,ty,pos,af,none⟩::l) cx Q env H:=fun a w hs=>by
 have hfit:Fit a.tmps.size env:=by rw [hs.size];exact hs.fit
 simp only [wpL];rw [FP ops _ a env hfit,show wantedE ops a env (⟨none,.defer ⟨.value (.func f),#[x],ats⟩,ty,pos,af,none⟩:Oper).guard=true from rfl,if_pos rfl];refine ⟨fun _ _=>trivial,?_⟩;have hro:(Fx cx.r).round=none:=hr
 rw [hro,Oper.semAt_none,El a env hfit];have h3:ev a env (.func f)= .func (.func f) #[] #[]:=rfl
 have:(execOp (ev a env) ⟨none,.defer ⟨.value (.func f),#[x],ats⟩,ty,pos,af,none⟩).run P w= .ok (.defer ⟨.fn (.func f) #[],#[v]⟩) w:=by
  simp [execOp,resolve,h3,hx a,Deferred.ofValue]
 rw [this,Oper.uponIn_defer];have h:=k {a with defers:=⟨.fn (.func f) #[],#[v]⟩::cx.D} w ⟨hs.size,rfl,hs.fit,hs.sat⟩
 have e:Bv env {a with defers:=⟨.fn (.func f) #[],#[v]⟩::cx.D}={Bv env a with defers:=⟨.fn (.func f) #[],#[v]⟩::(Bv env a).defers}:=by
  rw [De,Ey,hs.defers]
 rw [e]at h;exact h
end
theorem YB{P:Program}{fn:Func}{tmps:Array Value}{fa f:FuncId}{va caps:Array Value}{ma m':FrameMode}{w u:World}{Hd Rr R:Hp}{Qd:Hp→Prop}{Q:Value→Hp→Prop}{Pn:List PanicEntry→Hp→Prop}
 (hma:settle ma= .returning)(hca:∀(args:Array Value) (w:World),(callFunc fa args).run P w= .ok (.enter fa args) w)(hda:Nj P fa va .returning ma [] (fun H'=>H'=[]))
 (hm':settle m'= .returning)(hc:∀(args:Array Value) (w:World),(callFunc f args).run P w= .ok (.enter f args) w)(hd:Nj P f caps .returning m' Hd Qd)(hs:Sat u (Hd++Rr) w)
 (hfin:∀H1 w',Qd H1→Sat u (H1++Rr) w'→∃v H',(results fn tmps).run P w'= .ok v w'∧Q v H'∧Sat u (H'++R) w'):
 LeavesInM Fence.wide 0 P fn tmps (Ff u R Q Pn) [⟨.fn (.func fa) #[],va⟩,⟨.fn (.func f) caps,#[]⟩] .returning w:=by
 refine ⟨by simp,.inr ⟨fun h=>by simp [Fence.wide]at h,.func fa,#[],fa,va,rfl,?_,fun _ _=>trivial,?_⟩⟩
 · simp [invoke,hca]
 · refine Oy (hda u (Hd++Rr) w hs) ?_
   rintro e m2 w' ⟨v,H1,rfl,rfl,rfl,hsat⟩;show LeavesInM Fence.wide 0 P fn tmps (Ff u R Q Pn) [⟨.fn (.func f) caps,#[]⟩] (settle m2) w'
   rw [hma];exact YC (by simp) hm' hc hd hsat hfin
section
variable{P:Program}{N:Nat}{u:World}{fn:Func}{R H Hd Rr:Hp}{Q:Value→Hp→Prop}{Pn:List PanicEntry→Hp→Prop}{env:Env}{e:Exit}{fa f:FuncId}{va caps:Array Value}{Qd:Hp→Prop}{ma m':FrameMode}
theorem jD(he:FC e=true)(hma:settle ma= .returning)(hca:∀(args:Array Value) (w:World),(callFunc fa args).run P w= .ok (.enter fa args) w)(hda:Nj P fa va .returning ma [] (fun H'=>H'=[]))
 (hm':settle m'= .returning)(hc:∀(args:Array Value) (w:World),(callFunc f args).run P w= .ok (.enter f args) w)(hd:Nj P f caps .returning m' Hd Qd)(hp:FB Hd H Rr)
 (hfin:∀H1,Qd H1→∃v H',(∀(a:Act) (w:World),Fit a.tmps.size env→Sat u (H1++Rr) w→(results fn (Bv env a).tmps).run P w= .ok v w)∧Q v H'∧lC (H'++R) (H1++Rr)):
 Nx ⟨N,[⟨.fn (.func fa) #[],va⟩,⟨.fn (.func f) caps,#[]⟩],u,none⟩ (bodyPostM Fence.wide 0 P fn (Ff u R Q Pn) e) env H:=fun a w hs=>by
 have h1:(Bv env a).defers=[⟨.fn (.func fa) #[],va⟩,⟨.fn (.func f) caps,#[]⟩]:=by rw [Ey];exact hs.defers
 have hfin2:LeavesInM Fence.wide 0 P fn (Bv env a).tmps (Ff u R Q Pn) (Bv env a).defers .returning w:=by
  rw [h1];refine YB hma hca hda hm' hc hd (hs.sat.perm hp.perm) fun H1 w' hq hsat=>?_;obtain ⟨v,H',h2,h3,h4⟩:=hfin H1 hq;exact ⟨v,H',h2 a w' (by rw [hs.size];exact hs.fit) hsat,h3,hsat.sub h4⟩
 cases e<;>first|exact hfin2|simp [FC]at he
end
theorem X0{P:Program}{f:FuncId}{fn:Func}{y:Code}{args:Array Value}{N:Nat}{m:FrameMode}{H:Hp}{Qd:Hp→Prop}(hf:P.funcs[f]?=some fn)(hb:fn.body=some y)(hN:fn.ntmps=N)(hs:Nat.ble args.size N=true)
 (h:∀u R,At P ⟨N,[],u,none⟩ y (bodyPost P fn (Ff u R (fun _ H'=>Qd H') (fun _ _=>False))) (F9 0 args.toList) (H++R)):Nj P f args m m H Qd:=fun u R w hsat=>by
 have hle:args.size≤N:=wR hs;have hput:Bv (F9 0 args.toList) {tmps:=args++Array.replicate (fn.ntmps -args.size) undef,defers:=[]}={tmps:=args++Array.replicate (fn.ntmps -args.size) undef,defers:=[]}:=by
  refine Jf _ fun p hp=>?_;obtain ⟨_,h2⟩:=Ew _ _ _ hp;simp only [xA,uO]at h2;have hlt:p.1<args.size:=by
   rcases uJ p.1 args.size with h|h
   · exact h
   · simp [uT h]at h2
  rw [wS hlt];exact h2
 refine callsDIn_of_wpSIn (F:=Fence.wide) hf hb trivial fun c₀ cs hm=>?_;have hcm:({c₀ with mode:=m}:Frame)=c₀:=by cases c₀;simp only at hm;subst hm;rfl
 rw [←hput];refine wpSIn_of_wpIn rfl (wpIn_mono (h u R _ w ⟨by simp [hN];omega,rfl,fun p hp=>?_,hsat⟩) ?_)
 · obtain ⟨_,h2⟩:=Ew _ _ _ hp
   simp only [xA,uO]at h2;rcases uJ p.1 args.size with h|h
   · exact yZ h hle
   · simp [uT h]at h2
 · intro e a2 w2 hpost
   cases e with
   |normal=>
    obtain ⟨hd,v,hr,hR⟩:=hpost;rcases hR with⟨v',H',h1,h2,h3⟩|⟨_,_,_,h4,_⟩
    · exact ⟨hd,m,by rw [hcm],v,hr,v',H',h1,rfl,h2,h3⟩
    · exact h4.elim
   |ret=>
    obtain ⟨hd,v,hr,hR⟩:=hpost;rcases hR with⟨v',H',h1,h2,h3⟩|⟨_,_,_,h4,_⟩
    · exact ⟨hd,m,by rw [hcm],v,hr,v',H',h1,rfl,h2,h3⟩
    · exact h4.elim
   |panic ch=>
    obtain ⟨hd,hR⟩:=hpost;rcases hR with⟨_,_,h1,_⟩|⟨_,_,_,h4,_⟩
    · cases h1
    · exact h4.elim
   |outgrown=>
    rcases hpost with⟨_,_,h1,_⟩|⟨_,_,_,h4,_⟩
    · cases h1
    · exact h4.elim
   |exit i=>exact hpost.elim
   |goto i=>exact hpost.elim
section
variable{P:Program}{u:World}{env:Env}{H R:Hp}{d:Option Nat}{ty:TypeId}{pos:String}{af:Array Edge}{g:Option (Nat×Bool)}
theorem kN{t e:TypeId}{f0 f1 f2 f3:Field}(w:World)(n:Nat)(x0 x1 x2 x3 y0 y1 y2 y3:Int)(hu:P.underlying t=some (.struct #[f0,f1,f2,f3]))(hst:P.stoodInHeld t=false)
 (h0:f0.name≠ "_"∧f0.type=e∧f0.offset=0)(h1:f1.name≠ "_"∧f1.type=e∧f1.offset=1)(h2:f2.name≠ "_"∧f2.type=e∧f2.offset=2)(h3:f3.name≠ "_"∧f3.type=e∧f3.offset=3)
 (he:P.underlying e=some (.int .i64))(ha:∀w:World,(isAgg e).run P w= .ok false w):
 (Op.equalIn (n+2) t (.agg #[I4 x0,I4 x1,I4 x2,I4 x3]) (.agg #[I4 y0,I4 y1,I4 y2,I4 y3])).run P w= .ok (decide (x0=y0∧x1=y1∧x2=y2∧x3=y3)) w:=by
 obtain ⟨n0,e0,o0⟩:=h0;obtain ⟨n1,e1,o1⟩:=h1;obtain ⟨n2,e2,o2⟩:=h2;obtain ⟨n3,e3,o3⟩:=h3;have ei:∀(m k:Int) (w:World),(Op.equalIn (n+1) e (I4 m) (I4 k)).run P w= .ok (decide (m=k)) w:=fun m k w=>NY n w he m k
 have p0:∀(v0 v1 v2 v3:Value) (w:World),(part e #[v0,v1,v2,v3] 0).run P w= .ok v0 w:=fun _ _ _ _ w=>Em w (ha w) _ _ rfl;have p1:∀(v0 v1 v2 v3:Value) (w:World),(part e #[v0,v1,v2,v3] 1).run P w= .ok v1 w:=fun _ _ _ _ w=>Em w (ha w) _ _ rfl
 have p2:∀(v0 v1 v2 v3:Value) (w:World),(part e #[v0,v1,v2,v3] 2).run P w= .ok v2 w:=fun _ _ _ _ w=>Em w (ha w) _ _ rfl;have p3:∀(v0 v1 v2 v3:Value) (w:World),(part e #[v0,v1,v2,v3] 3).run P w= .ok v3 w:=fun _ _ _ _ w=>Em w (ha w) _ _ rfl
 rw [show n+2=(n+1)+1 from rfl,Op.equalIn];generalize n+1=m at*;simp only [Sem.run_bind,run_underlying hu,Result.andThen_ok,run_program,hst,vH,if_false];rw [←zV];simp only [yT,zQ,n0,n1,n2,n3,e0,e1,e2,e3,o0,o1,o2,o3,ne_eq,not_false_eq_true,if_true];simp only [Sem.run_bind,p0,p1,p2,p3,ei,Result.andThen_ok];by_cases c0:x0=y0
 · by_cases c1:x1=y1
   · by_cases c2:x2=y2
     · by_cases c3:x3=y3<;>simp [c0,c1,c2,c3,p0,p1,p2,p3,ei,n1,n2,n3]
     · simp [c0,c1,c2,p0,p1,p2,p3,ei,n1,n2,n3]
   · simp [c0,c1,p0,p1,p2,p3,ei,n1,n2,n3]
 · simp [c0,p0,p1,p2,p3,ei,n1,n2,n3]
theorem Vq{t yt e:TypeId}{f0 f1 f2 f3:Field}{x y:Operand}{x0 x1 x2 x3 y0 y1 y2 y3:Int}(hg:P.eqGuardType P.depth t=false)(hu:P.underlying t=some (.struct #[f0,f1,f2,f3]))(hst:P.stoodInHeld t=false)
 (h0:f0.name≠ "_"∧f0.type=e∧f0.offset=0)(h1:f1.name≠ "_"∧f1.type=e∧f1.offset=1)(h2:f2.name≠ "_"∧f2.type=e∧f2.offset=2)(h3:f3.name≠ "_"∧f3.type=e∧f3.offset=3)
 (he:P.underlying e=some (.int .i64))(ha:∀w:World,(isAgg e).run P w= .ok false w)
 (hx:∀a,ev a env x= .agg #[I4 x0,I4 x1,I4 x2,I4 x3])(hy:∀a,ev a env y= .agg #[I4 y0,I4 y1,I4 y2,I4 y3]):OpP P ⟨d,.binOp .eql t x y yt,ty,pos,af,g⟩ env [] (.bool (decide (x0=y0∧x1=y1∧x2=y2∧x3=y3))):=fun a w _=>by
 simp [Cb,hx a,hy a,go_sem,run_eqGuard_agg w _ t _ _ _ _ hg,JP,Op.equal,Op.maxDepth,kN w 9998 x0 x1 x2 x3 y0 y1 y2 y3 hu hst h0 h1 h2 h3 he ha]
end
end Gw
