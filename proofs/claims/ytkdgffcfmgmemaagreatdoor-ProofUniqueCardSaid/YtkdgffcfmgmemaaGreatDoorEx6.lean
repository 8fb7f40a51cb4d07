/- Walking by chunks: a range over a function; the end of a function that holds one. No function of the program is named. -/
import Derived.Test.YtkdgffcfmgmemaaGreatDoorEz
import Derived.Test.YtkdgffcfmgmemaaGreatDoorEx5
import Derived.RangeFuncLeaves
import Derived.RangeFuncRecord
set_option linter.unusedVariables false
set_option linter.unusedSimpArgs false
namespace Gw
open Go Go.RowKit
def Ll(P:Program)(l:Nat)(args:Array Value)(H:Hp)(Q:Value→Hp→Prop):Prop:=
 ∀(u:World) (R:Hp) (w:World),Sat u (H++R) w→∀(K:Value→World→Prop) (Kp:List PanicEntry→World→Prop),(∀v H' w',Q v H'→Sat u (H'++R) w'→K v w')→SH P K Kp ((Instr.yield l args).run P w)
section
variable{P:Program}{u:World}{env:Env}{H R:Hp}{d:Option Nat}{ty:TypeId}{pos:String}{af:Array Edge}{g:Option (Nat×Bool)}
theorem Mj{fx:Operand}{as:Array Operand}{ats:Array TypeId}{l:Nat}{vs:List Value}{Hf:Hp}{Q:Value→Hp→Prop}
 (hf:∀a,ev a env fx= .func (.yield l) #[] #[])(ha:∀a,as.toList.map (ev a env)=vs)(hsp:Ll P l vs.toArray Hf Q)(hp:FB Hf H R):
 OpW P u ⟨d,.call ⟨.value fx,as,ats⟩,ty,pos,af,g⟩ env H (fun v H'=>∃H1,Q v H1∧H'=H1++R) (fun _ _=>False):=fun a w hs K Kp hK _=>by
 have h1:as.map (ev a env)=vs.toArray:=by rw [←ha a];exact Jl _ as
 have:(execOp (ev a env) ⟨d,.call ⟨.value fx,as,ats⟩,ty,pos,af,g⟩).run P w=(Instr.yield l vs.toArray).run P w:=by
  simp [EJ,resolve,hf a,Deferred.ofValue,invoke,h1]
 rw [this];exact hsp u R w (hs.perm hp.perm) K Kp fun v H' w' hq hsat=>hK v _ w' ⟨H',hq,rfl⟩ hsat
end
def RL{α:Type}(P:Program)(gf:FuncId)(lb:Array Value)(Hit:Hp)(encs:α→Array Value)(xs:List α):Prop:=
 ∀(l:Nat) (J:List α→List AR→Prop),(∀pre x post s,xs=pre++x::post→J pre s→Ll P l (encs x) [s] (fun v H'=>∃s',v= .bool true∧H'=[s']∧J (pre++[x]) s'))→
  ∀s,J [] s→CO P gf (#[.func (.yield l) #[] #[]]++lb) (Hit++[s]) (fun _ H'=>∃s',H'=[s']∧J xs s')
def Lm{α:Type}(P:Program)(gf:FuncId)(lb:Array Value)(Hit:Hp)(A:List AR→Prop)(encs:α→Array Value)(xs:List α):Prop:=
 ∀(l:Nat) (J:List α→List AR→Prop),(∀pre s,J pre s→A s)→(∀pre x post s,xs=pre++x::post→J pre s→Ll P l (encs x) [s] (fun v H'=>∃s',v= .bool true∧H'=[s']∧J (pre++[x]) s'))→
  ∀s,J [] s→CO P gf (#[.func (.yield l) #[] #[]]++lb) (Hit++[s]) (fun _ H'=>∃s',H'=[s']∧J xs s')
def Is(cx:Cx)(env:Env)(H:Hp)(a:Act)(w:World):Prop:=∃a0,St cx env H a0 w∧a=Bv env a0
theorem jC{cx:Cx}{env:Env}{H:Hp}{Q:Exit→Act→World→Prop}:Nx cx ((Exit.then (Is cx env H) Q) .normal) env H:=fun a _ hs=>⟨a,hs,rfl⟩
def LG{α:Type}(u:World)(I:List α→Hp→Prop)(xs:List α)(R:Hp):Exit→Act→World→Prop
 | .normal,_,w=>∃H,I xs H∧Sat u (H++R) w
 |_,_,_=>False
theorem Ji{α:Type}{cx:Cx}{I:List α→Hp→Prop}{xs:List α}{R:Hp}{env:Env}{H H':Hp}{u:World}(hu:cx.u=u)(h:I xs H')(hp:Sub (H'++R) H:=by repeat(first|exact Sub.refl _|exact Sub.nil _|(apply Sub.cons;(focus (repeat(first|exact One.here _ _|apply One.there))))|refine Sub.drop _ ?_)):Nx cx (LG u I xs R .normal) env H:=fun _ _ hs=>⟨H',h,by subst hu;exact hs.sat.sub hp.amid⟩
theorem Hg:∀(e1 e2:Env) (a:Act),Bv (e1++e2) a=Bv e1 (Bv e2 a)
 |[],_,_=>rfl
 |(d,v)::e1,e2,a=>by simp only [wH,Bv];rw [Hg e1 e2 a]
theorem KG:∀(l:List (Nat×Value)) (b:Act),(l.foldl (fun(t:Array Value) (p:Nat×Value)=>t.setIfInBounds p.1 p.2) b.tmps)=(Bv l.reverse b).tmps
 |[],_=>rfl
 |(d,v)::l,b=>by
  simp only [xD,List.reverse_cons];rw [Hg];have:=KG l (b.put (some d) v)
  simpa [Bv,Act.put]using this
theorem De(D:List Deferred):∀(e:Env) (a:Act),Bv e {a with defers:=D}={Bv e a with defers:=D}
 |[],_=>rfl
 |(d,v)::e,a=>by simp only [Bv];rw [De D e a];rfl
theorem Sat.turn{u w:World}{b:Nat}{o o':Obj}{H:Hp}(h:Sat u ([(b,o)]::H) w):Sat u ([(b,o')]::H) (w.putObj b o'):=by
 have hb:b<w.heap.size:=h.lt (p:=(b,o)) (by simp);refine h.upd (.here _) rfl rfl rfl (World.putObj_heap_same hb) fun k hk=>World.putObj_heap_other hk
theorem Ng{α:Type}{A:List AR→Prop}{P:Program}{cx:Cx}{Q:Exit→Act→World→Prop}{env:Env}{H Hit H0 R:Hp}{g:Operand}{ps:Array Tmp}{assign body:Code}{gf:FuncId}{lb:Array Value}{encs:α→Array Value}{xs:List α}
 (I:List α→Hp→Prop)(asg:α→Env)(hr:cx.r=none)(hg:∀a,ev a env g= .func (.func gf) #[] lb)(hcall:∀(args:Array Value) (w:World),(callFunc gf args).run P w= .ok (.enter gf args) w)
 (hiter:Lm P gf lb Hit A encs xs)(hA:∀pre H1 c d,I pre H1→A ([c,d]++H1.flatten))(hps:∀x,(encs x).size=ps.size)(hpf:(ps.toList.all fun t=>Nat.blt t cx.N)=true)(hp:FB (Hit++H0) H R)(h0:I [] H0)
 (hassign:∀(l:Nat) (x:α) (u:World) (H:Hp),At P ⟨cx.N,[],u,some l⟩ assign (Exit.then (Is ⟨cx.N,[],u,some l⟩ (asg x++env) H) (fun _ _ _=>False)) ((ps.toList.zip (encs x).toList).reverse++env) H)
 (hbody:∀(l:Nat) (pre:List α) (x:α) (post:List α) (u:World) (H1 R1:Hp),xs=pre++x::post→I pre H1→At P ⟨cx.N,[],u,some l⟩ body (LG u I (pre++[x]) R1) (asg x++env) (H1++R1))
 (hk:∀(D:Nat) (H2:Hp),I xs H2→Nx ⟨cx.N,⟨.collected D,#[]⟩::cx.D,cx.u,none⟩ (Q .normal) env ([(D,.deferred (some []))]::(H2++R))):At P cx (.rangeFunc g ps assign body) Q env H:=by
 intro a w hs;refine wpIn_rangeFunc ?_;intro fn hfn;have hro:(Fx cx.r).round=none:=hr
 rw [hro];obtain ⟨rec,hrec⟩:∃rec:LoopState→Option Code→Loop,rec=fun st pe=>{state:=st,pending:=pe,fn,tmps:=(Bv env a).tmps,params:=ps,assign,body,defers:=w.heap.size}:=⟨_,rfl⟩;have hsat:Sat cx.u ((Hit++H0)++R) w:=hs.sat.perm hp.perm
 have hsat1:Sat cx.u ([(w.heap.size+1,.loop (rec .ready none))]::([(w.heap.size,.deferred (some []))]::(Hit++H0++R))) ((w.alloc (.deferred (some []))).alloc (.loop (rec .ready none))):=by
  have:=(hsat.alloc (.deferred (some []))).alloc (.loop (rec .ready none));rw [show({w with heap:=w.heap.push (.deferred (some []))}:World).heap.size=w.heap.size+1 from zL _]at this;exact this
 have hfitA:Fit a.tmps.size env:=by rw [hs.size];exact hs.fit
 refine ⟨w.heap.size+1,[⟨.collected w.heap.size,#[]⟩],(w.alloc (.deferred (some []))).alloc (.loop (rec .ready none)),⟨.fn (.func gf) lb,#[.func (.yield (w.heap.size+1)) #[] #[]]⟩,(w.alloc (.deferred (some []))).alloc (.loop (rec .ready none)),gf,
  #[.func (.yield (w.heap.size+1)) #[] #[]]++lb,(w.alloc (.deferred (some []))).alloc (.loop (rec .ready none)),?_,?_,fun _ _=>trivial,?_,fun h=>by simp [Fx,Fence.wide]at h,?_⟩
 · rw [hrec];exact run_enterLoop_outer _ _ _ _ _
 · simp only [resolve,El a env hfitA,hg a]
   simp [Deferred.ofValue,ev,Act.eval]
 · simp [invoke,hcall]
 · refine PW ?_
   have hJ:=hiter (w.heap.size+1) (fun pre s=>∃H1,I pre H1∧s=[(w.heap.size+1,.loop (rec .ready none)),(w.heap.size,.deferred (some []))]++H1.flatten) (by rintro pre _ ⟨H1,h1,rfl⟩;exact hA pre H1 _ _ h1) ?_ _ ⟨H0,h0,rfl⟩
   · have hperm:([(w.heap.size+1,Obj.loop (rec .ready none))]::([(w.heap.size,Obj.deferred (some []))]::(Hit++H0++R))).flatten.Perm ((Hit++[[(w.heap.size+1,Obj.loop (rec .ready none)),(w.heap.size,.deferred (some []))]++H0.flatten])++R).flatten:=by
      simp only [uG,uW,uU,wH,vN,xW,uR,tO];have e:∀(x y:AR) (A B C:List AR),(x::y::(A++(B++C))).Perm (A++(x::y::(B++C))):=fun x y A B C=>by
       refine (List.Perm.cons x uS.symm).trans ?_;exact uS.symm
      exact e _ _ _ _ _
     have hs1:Sat cx.u ((Hit++[[(w.heap.size+1,Obj.loop (rec .ready none)),(w.heap.size,.deferred (some []))]++H0.flatten])++R) ((w.alloc (.deferred (some []))).alloc (.loop (rec .ready none))):=by
      exact hsat1.perm hperm
     refine Calls.mono (hJ cx.u R _ hs1) fun e w2 he=>?_;rcases he with⟨v,H',rfl,⟨s',rfl,H2,hI2,rfl⟩,hsat2⟩|⟨_,_,_,h,_⟩
     ·
      have hsat3:Sat cx.u ([(w.heap.size+1,Obj.loop (rec .ready none))]::([(w.heap.size,.deferred (some []))]::(H2++R))) w2:=by
       refine hsat2.perm ?_;simp
      have hl:=hsat3.get (w.heap.size+1,Obj.loop (rec .ready none)) (by simp);have hend:=run_endLoop (P:=P) hl (by rw [hrec];simp)
      have hpd:(rec .ready none).pending=none:=by rw [hrec]
      have hk':=hk w.heap.size H2 hI2 {a with defers:=⟨.collected w.heap.size,#[]⟩::cx.D} (w2.putObj (w.heap.size+1) (.loop {rec .ready none with state:= .exhausted}))
       ⟨hs.size,rfl,hs.fit,(hsat3.turn (o':= .loop {rec .ready none with state:= .exhausted})).sub ⟨[(w.heap.size+1,.loop {rec .ready none with state:= .exhausted})],by
         simp only [uG];exact uj⟩⟩
      refine ⟨_,_,hend,?_⟩;have key:∀(p:Option Code) (A:Act) (W:World),p=none→Q .normal A W→(match p with|none=>Q .normal A W|some c=>c.wpIn (Fx cx.r) 0 P Q A W):=fun p A W h1 h2=>by subst h1;exact h2
      refine key _ _ _ hpd ?_;have:Bv env {a with defers:=⟨.collected w.heap.size,#[]⟩::cx.D}={Bv env a with defers:=[⟨.collected w.heap.size,#[]⟩]++(Bv env a).defers}:=by
       rw [De,Ey,hs.defers];rfl
      rw [this]at hk';exact hk'
     · exact h.elim
   ·
    rintro pre x post s hxs ⟨H1,hI,rfl⟩ u R1 w1 hw1 K Kp hK;have hw1':Sat u ([(w.heap.size+1,Obj.loop (rec .ready none))]::([(w.heap.size,.deferred (some []))]::(H1++R1))) w1:=by
     refine hw1.perm ?_;simp
    have hl:=hw1'.get (w.heap.size+1,Obj.loop (rec .ready none)) (by simp);have hy:=run_yield (P:=P) (args:=encs x) hl (by rw [hrec];exact hps x)
    rw [hy];show RoundIn Fence.wide 0 P (w.heap.size+1) _ _ _ _ w1 _
    rw [hrec];refine roundIn_of_wpIn (F:=Fence.wide) trivial ?_;have htm:({tmps:=(ps.zip (encs x)).foldl (fun tmps x=>match x with|(t,a)=>tmps.setIfInBounds t a) (Bv env a).tmps,defers:=[]}:Act)=Bv ((ps.toList.zip (encs x).toList).reverse++env) {a with defers:=[]}:=by
     rw [Hg,De [] env a];have h1:(ps.zip (encs x)).foldl (fun tmps x=>match x with|(t,a)=>tmps.setIfInBounds t a) (Bv env a).tmps=(Bv (ps.toList.zip (encs x).toList).reverse (Bv env a)).tmps:=by
      rw [←KG,←yY,zy]
     rw [h1,De [] _ (Bv env a)]
    have hfit2:Fit cx.N ((ps.toList.zip (encs x).toList).reverse++env):=by
     intro q hq;rcases uF.1 hq with hq|hq
     · have:=xx.1 hq
       have h2:=vL.1 hpf q.1 (AA5 this).1;simpa using h2
     · exact hs.fit q hq
    have ha:=hassign (w.heap.size+1) x u ([(w.heap.size+1,Obj.loop (rec .ready none))]::([(w.heap.size,.deferred (some []))]::(H1++R1))) {a with defers:=[]} w1 ⟨hs.size,rfl,hfit2,hw1'⟩;rw [←htm]at ha;refine wpIn_mono ha fun e a1 w2 he=>?_;cases e<;>first|exact he|skip
    obtain ⟨a2,hst,rfl⟩:=he;have hl2:=hst.sat.get (w.heap.size+1,Obj.loop (rec .ready none)) (by simp)
    refine ⟨_,run_beginRound hl2 (by rw [hrec]),?_⟩;have hst2:Sat u (H1++([(w.heap.size+1,Obj.loop {rec .ready none with state:= .busy})]::([(w.heap.size,.deferred (some []))]::R1))) (w2.putObj (w.heap.size+1) (.loop {rec .ready none with state:= .busy})):=by
     refine (hst.sat.turn (o':= .loop {rec .ready none with state:= .busy})).perm ?_;simp only [uG,uW,uU];refine (List.Perm.cons _ uS.symm).trans uS.symm
    have hb:=hbody (w.heap.size+1) pre x post u H1 _ hxs hI a2 _ ⟨hst.size,hst.defers,hst.fit,hst2⟩;refine wpIn_mono hb fun e a3 w3 he3=>?_;cases e<;>first|exact he3.elim|skip
    obtain ⟨H2,hI2,hs3⟩:=he3;have hs3':Sat u ([(w.heap.size+1,Obj.loop {rec .ready none with state:= .busy})]::([(w.heap.size,.deferred (some []))]::(H2++R1))) w3:=by
     refine hs3.perm ?_;simp only [uG,uW,uU];exact uS.trans (List.Perm.cons _ uS)
    have hl3:=hs3'.get (w.heap.size+1,Obj.loop {rec .ready none with state:= .busy}) (by simp);have hend:=run_endRound (P:=P) none hl3
    refine ⟨_,_,hend,?_⟩;refine hK _ _ _ ⟨[(w.heap.size+1,.loop (rec .ready none)),(w.heap.size,.deferred (some []))]++H2.flatten,rfl,rfl,H2,hI2,rfl⟩ ?_;have hfin:=hs3'.turn (o':= .loop (rec .ready none))
    have hsame:({{rec .ready none with state:=LoopState.busy}with state:=if(none:Option Code).isNone=true then LoopState.ready else .done,pending:=none}:Loop)=rec .ready none:=by rw [hrec];rfl
    rw [hsame];refine hfin.perm ?_;simp
/- the end of a function that holds ranges over functions -/
theorem PD{α:Type}{P:Program}{cx:Cx}{Q:Exit→Act→World→Prop}{env:Env}{H Hit H0 R:Hp}{g:Operand}{ps:Array Tmp}{assign body:Code}{gf:FuncId}{lb:Array Value}{encs:α→Array Value}{xs:List α}
 (I:List α→Hp→Prop)(asg:α→Env)(hr:cx.r=none)(hg:∀a,ev a env g= .func (.func gf) #[] lb)(hcall:∀(args:Array Value) (w:World),(callFunc gf args).run P w= .ok (.enter gf args) w)
 (hiter:RL P gf lb Hit encs xs)(hps:∀x,(encs x).size=ps.size)(hpf:(ps.toList.all fun t=>Nat.blt t cx.N)=true)(hp:FB (Hit++H0) H R)(h0:I [] H0)
 (hassign:∀(l:Nat) (x:α) (u:World) (H:Hp),At P ⟨cx.N,[],u,some l⟩ assign (Exit.then (Is ⟨cx.N,[],u,some l⟩ (asg x++env) H) (fun _ _ _=>False)) ((ps.toList.zip (encs x).toList).reverse++env) H)
 (hbody:∀(l:Nat) (pre:List α) (x:α) (post:List α) (u:World) (H1 R1:Hp),xs=pre++x::post→I pre H1→At P ⟨cx.N,[],u,some l⟩ body (LG u I (pre++[x]) R1) (asg x++env) (H1++R1))
 (hk:∀(D:Nat) (H2:Hp),I xs H2→Nx ⟨cx.N,⟨.collected D,#[]⟩::cx.D,cx.u,none⟩ (Q .normal) env ([(D,.deferred (some []))]::(H2++R))):At P cx (.rangeFunc g ps assign body) Q env H:=
 Ng (A:=fun _=>True) I asg hr hg hcall (fun l J _=>hiter l J) (fun _ _ _ _ _=>trivial) hps hpf hp h0 hassign hbody hk
theorem G5{P:Program}{f:FuncId}{fn:Func}{c:Code}{args:Array Value}{N:Nat}{H:Hp}{Q:Value→Hp→Prop}{Pn:List PanicEntry→Hp→Prop}(hf:P.funcs[f]?=some fn)(hb:fn.body=some c)(hN:fn.ntmps=N)(hs:Nat.ble args.size N=true)
 (h:∀u R,At P ⟨N,[],u,none⟩ c (bodyPostM Fence.wide 0 P fn (Ff u R Q Pn)) (F9 0 args.toList) (H++R)):Jw P f args H Q Pn:=fun u R w hsat=>by
 have hle:args.size≤N:=wR hs;refine (callsIn_wide (n:=0)).1 (callsIn_of_wp_marks (F:=Fence.wide) hf hb trivial ?_);have hput:Bv (F9 0 args.toList) {tmps:=args++Array.replicate (fn.ntmps -args.size) undef,defers:=[]}={tmps:=args++Array.replicate (fn.ntmps -args.size) undef,defers:=[]}:=by
  refine Jf _ fun p hp=>?_;obtain ⟨_,h2⟩:=Ew _ _ _ hp;simp only [xA,uO]at h2;have hlt:p.1<args.size:=by
   rcases uJ p.1 args.size with h|h
   · exact h
   · simp [uT h]at h2
  rw [wS hlt];exact h2
 rw [←hput];refine h u R _ w ⟨by simp [hN];omega,rfl,fun p hp=>?_,hsat⟩;obtain ⟨_,h2⟩:=Ew _ _ _ hp;simp only [xA,uO]at h2;rcases uJ p.1 args.size with h|h
 · exact yZ h hle
 · simp [uT h]at h2
section
variable{P:Program}{N:Nat}{u:World}{fn:Func}{R H H':Hp}{Q:Value→Hp→Prop}{Pn:List PanicEntry→Hp→Prop}{env:Env}{e:Exit}
theorem iA{D:Nat}{w:World}(h:w.heap[D]?=some (.deferred (some []))):(Instr.takeDeferred D).run P w= .ok [] (w.putObj D (.deferred none)):=by
 simp [Instr.takeDeferred,getObj,setObj,Sem.run,h];rfl
def Res(P:Program)(fn:Func)(env:Env)(v:Value):Prop:=∀(a:Act) (w:World),Fit a.tmps.size env→(results fn (Bv env a).tmps).run P w= .ok v w
theorem VV{t:Nat}{v:Value}(hr:fn.results=#[.tmp t])(hv:∀a,Ep a env t=v):Res P fn env v:=fun a w hf=>by rw [Oh hr,Bu a env hf,hv a]
theorem sH{t s:Nat}{v x:Value}(hr:fn.results=#[.tmp t,.tmp s])(hv:∀a,Ep a env t=v)(hx:∀a,Ep a env s=x):Res P fn env (.tuple #[v,x]):=fun a w hf=>by rw [Og hr,Bu a env hf,Bu a env hf,hv a,hx a]
theorem Qg{v:Value}(he:FC e=true)(hr:Res P fn env v)(hq:Q v H')(hp:Sub (H'++R) H:=by repeat(first|exact Sub.refl _|exact Sub.nil _|(apply Sub.cons;(focus (repeat(first|exact One.here _ _|apply One.there))))|refine Sub.drop _ ?_)):Nx ⟨N,[],u,none⟩ (bodyPostM Fence.wide 0 P fn (Ff u R Q Pn) e) env H:=fun a w hs=>by
 have h1:(Bv env a).defers=[]:=by rw [Ey];exact hs.defers
 have hfin:LeavesInM Fence.wide 0 P fn (Bv env a).tmps (Ff u R Q Pn) (Bv env a).defers .returning w:=by
  rw [h1];exact ⟨v,hr a w (by rw [hs.size];exact hs.fit),.inl ⟨v,H',rfl,hq,hs.sat.sub hp.amid⟩⟩
 cases e<;>first|exact hfin|simp [FC]at he
theorem Jj{D:Nat}{v:Value}{H0:Hp}(he:FC e=true)(hr:Res P fn env v)(hd:One [(D,.deferred (some []))] H H0)(hq:Q v H')(hp:Sub (H'++R) H0:=by repeat(first|exact Sub.refl _|exact Sub.nil _|(apply Sub.cons;(focus (repeat(first|exact One.here _ _|apply One.there))))|refine Sub.drop _ ?_)):Nx ⟨N,[⟨.collected D,#[]⟩],u,none⟩ (bodyPostM Fence.wide 0 P fn (Ff u R Q Pn) e) env H:=fun a w hs=>by
 have h1:(Bv env a).defers=[⟨.collected D,#[]⟩]:=by rw [Ey];exact hs.defers
 have hsat:Sat u ([(D,.deferred (some []))]::H0) w:=hs.sat.perm (by simpa using hd.perm);have hget:=hsat.get (D,.deferred (some [])) (by simp)
 have hsat2:Sat u (H'++R) (w.putObj D (.deferred none)):=((hsat.turn (o':= .deferred none)).sub ⟨[(D,.deferred none)],by simp only [uG];exact uj⟩).sub hp.amid;have hfin:LeavesInM Fence.wide 0 P fn (Bv env a).tmps (Ff u R Q Pn) (Bv env a).defers .returning w:=by
  rw [h1];refine ⟨by simp,.inl ⟨D,_,rfl,iA hget,?_⟩⟩;exact ⟨v,hr a _ (by rw [hs.size];exact hs.fit),.inl ⟨v,H',rfl,hq,hsat2⟩⟩
 cases e<;>first|exact hfin|simp [FC]at he
end
end Gw
