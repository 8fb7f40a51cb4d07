/- Walking by chunks: a load out of a segment in a region that draws; the same memory cut otherwise. No function of the program is named. -/
/- Walking by chunks: a range over a function whose variables lie in memory. No function of the program is named. -/
/- Walking by chunks: a range over a function that hands on values with memory of their own. No function of the program is named. -/
/- Walking by chunks: append of what lies in a memory that is read by membership, to an own slice whose elements are of several cells. No function of the program is named. -/
import Derived.Test.YtkdgffcfmgmemaaGreatDoorEz
import Derived.Test.YtkdgffcfmgmemaaGreatDoorEx5
import Derived.Test.YtkdgffcfmgmemaaGreatDoorEx16
import Derived.Test.YtkdgffcfmgmemaaGreatDoorEx22
import Derived.Test.YtkdgffcfmgmemaaGreatDoorEx6
import Derived.Scope
set_option linter.unusedVariables false
set_option linter.unusedSimpArgs false
namespace Gw
open Go Go.RowKit
section
variable{P:Program}{ops:Array Oper}{A:List Nat}{F:Nat}{cx:Cx}{Q:Exit→Act→World→Prop}{n D:Nat}{T:List (Nat×AR)}{env:Env}{H:Hp}
theorem Fp{d:Nat}{op:Op}{ty:TypeId}{pos:String}{af:Array Edge}{v:Value}{b:Nat}{x:Obj}{D':Nat}(i:Nat)(ho:ops[i]?=some ⟨some d,op,ty,pos,af,none⟩)(h1:(!bit F i&&!bit D i&&Ef (A.getD i 0) D)=true)(hD:D|||(1<<<i)=D')(hb:(b,x)∈H.flatten)(hop:OpP P ⟨some d,op,ty,pos,af,none⟩ env [(b,x)] v)
 (k:Lin P ops A F cx Q n D' ((i,(b,x))::T) ((d,v)::env) H):Lin P ops A F cx Q (n+1) D T env H:=by
 simp only [uE,wE]at h1;subst hD;exact .inl ⟨i,_,v,[(b,x)],ho,h1.1.2,h1.2,by simpa using hb,.inl ⟨fun _=>rfl,hop⟩,k⟩
theorem mZ{d:Nat}{op:Op}{ty:TypeId}{pos:String}{af:Array Edge}{g:Nat×Bool}{v:Value}{b:Nat}{x:Obj}{D':Nat}(i:Nat)(hg:∀a,wantedE ops a env (some g)=true)(ho:ops[i]?=some ⟨some d,op,ty,pos,af,some g⟩)(h1:(!bit F i&&!bit D i&&Ef (A.getD i 0) D)=true)(hD:D|||(1<<<i)=D')(hb:(b,x)∈H.flatten)(hop:OpP P ⟨some d,op,ty,pos,af,some g⟩ env [(b,x)] v)
 (k:Lin P ops A F cx Q n D' ((i,(b,x))::T) ((d,v)::env) H):Lin P ops A F cx Q (n+1) D T env H:=by
 simp only [uE,wE]at h1;subst hD;exact .inl ⟨i,_,v,[(b,x)],ho,h1.1.2,h1.2,by simpa using hb,.inl ⟨hg,hop⟩,k⟩
theorem KE{i b:Nat}{x:Obj}(h:(b,x)∈H.flatten)(ht:∀p∈T,p.2∈H.flatten):∀p∈((i,(b,x))::T),p.2∈H.flatten:=by
 intro p hp;rcases uI.1 hp with rfl|hp
 · exact h
 · exact ht p hp
end
theorem ZI{b o n cap:Nat}{cur:Array Value}{T:TypeId}{z:Nat×Nat}{ys:List Value}(hn:ys.length=n)(hp:0<n)(h:Bw cur o ys):ru (.slice (some ⟨b,o,none⟩) n cap) ys [(b,.cells cur T z)]:=by
 subst hn;exact .inr ⟨hp,b,o,cap,cur,T,z,rfl,rfl,h⟩
theorem Uq{α:Type}{A:List AR→Prop}{P:Program}{cx:Cx}{Q:Exit→Act→World→Prop}{env:Env}{H Hit H0 R:Hp}{g:Operand}{ps:Array Tmp}{assign body:Code}{gf:FuncId}{lb:Array Value}{encs:α→Array Value}{xs:List α}
 (I:List α→Hp→Prop)(E:α→Env→Hp→Prop)(hr:cx.r=none)(hg:∀a,ev a env g= .func (.func gf) #[] lb)(hcall:∀(args:Array Value) (w:World),(callFunc gf args).run P w= .ok (.enter gf args) w)
 (hiter:Lm P gf lb Hit A encs xs)(hA:∀pre H1 c d,I pre H1→A ([c,d]++H1.flatten))(hps:∀x,(encs x).size=ps.size)(hpf:(ps.toList.all fun t=>Nat.blt t cx.N)=true)(hp:FB (Hit++H0) H R)(h0:I [] H0)
 (hassign:∀(l:Nat) (x:α) (u:World) (H:Hp),At P ⟨cx.N,[],u,some l⟩ assign (Exit.then (fun a w=>∃e Hn,E x e Hn∧Is ⟨cx.N,[],u,some l⟩ (e++env) (Hn++H) a w) (fun _ _ _=>False)) ((ps.toList.zip (encs x).toList).reverse++env) H)
 (hbody:∀(l:Nat) (pre:List α) (x:α) (post:List α) (u:World) (e:Env) (Hn H1 R1:Hp),xs=pre++x::post→I pre H1→E x e Hn→At P ⟨cx.N,[],u,some l⟩ body (LG u I (pre++[x]) R1) (e++env) (H1++(Hn++R1)))
 (hk:∀(D:Nat) (H2:Hp),I xs H2→Nx ⟨cx.N,⟨.collected D,#[]⟩::cx.D,cx.u,none⟩ (Q .normal) env ([(D,.deferred (some []))]::(H2++R))):At P cx (.rangeFunc g ps assign body) Q env H:=by
 intro a w hs;refine wpIn_rangeFunc ?_;intro fn hfn;have hro:(Fx cx.r).round=none:=hr
 rw [hro];obtain ⟨rec,hrec⟩:∃rec:LoopState→Option Code→Loop,rec=fun st pe=>{state:=st,pending:=pe,fn,tmps:=(Bv env a).tmps,params:=ps,assign,body,defers:=w.heap.size}:=⟨_,rfl⟩;have hsat:Sat cx.u ((Hit++H0)++R) w:=hs.sat.perm hp.perm
 have hsat1:Sat cx.u ([(w.heap.size+1,.loop (rec .ready none))]::([(w.heap.size,.deferred (some []))]::(Hit++H0++R))) ((w.alloc (.deferred (some []))).alloc (.loop (rec .ready none))):=by
  have:=(hsat.alloc (.deferred (some []))).alloc (.loop (rec .ready none));rw [show({w with heap:=w.heap.push (.deferred (some []))}:World).heap.size=w.heap.size+1 from zL _]at this;exact this
 have hfitA:Fit a.tmps.size env:=by rw [hs.size];exact hs.fit
 refine ⟨w.heap.size+1,[⟨.collected w.heap.size,#[]⟩],(w.alloc (.deferred (some []))).alloc (.loop (rec .ready none)),⟨.fn (.func gf) lb,#[.func (.yield (w.heap.size+1)) #[] #[]]⟩,(w.alloc (.deferred (some []))).alloc (.loop (rec .ready none)),gf,
  #[.func (.yield (w.heap.size+1)) #[] #[]]++lb,(w.alloc (.deferred (some []))).alloc (.loop (rec .ready none)),?_,?_,fun _ _=>trivial,?_,fun h=>by simp [Fx,Fence.wide]at h,?_⟩
 · rw [hrec];exact run_enterLoop_outer _ _ _ _ _
 · simp only [resolve,El a env hfitA,hg a]
   simp [Deferred.ofValue,ev,Act.eval]
 · simp [invoke,hcall]
 · refine PW ?_
   have hJ:=hiter (w.heap.size+1) (fun pre s=>∃H1,I pre H1∧s=[(w.heap.size+1,.loop (rec .ready none)),(w.heap.size,.deferred (some []))]++H1.flatten) (by rintro pre _ ⟨H1,h1,rfl⟩;exact hA pre H1 _ _ h1) ?_ _ ⟨H0,h0,rfl⟩
   · have hperm:([(w.heap.size+1,Obj.loop (rec .ready none))]::([(w.heap.size,Obj.deferred (some []))]::(Hit++H0++R))).flatten.Perm ((Hit++[[(w.heap.size+1,Obj.loop (rec .ready none)),(w.heap.size,.deferred (some []))]++H0.flatten])++R).flatten:=by
      simp only [uG,uW,uU,wH,vN,xW,uR,tO];have e:∀(x y:AR) (A B C:List AR),(x::y::(A++(B++C))).Perm (A++(x::y::(B++C))):=fun x y A B C=>by
       refine (List.Perm.cons x uS.symm).trans ?_;exact uS.symm
      exact e _ _ _ _ _
     have hs1:Sat cx.u ((Hit++[[(w.heap.size+1,Obj.loop (rec .ready none)),(w.heap.size,.deferred (some []))]++H0.flatten])++R) ((w.alloc (.deferred (some []))).alloc (.loop (rec .ready none))):=by
      exact hsat1.perm hperm
     refine Calls.mono (hJ cx.u R _ hs1) fun e w2 he=>?_;rcases he with⟨v,H',rfl,⟨s',rfl,H2,hI2,rfl⟩,hsat2⟩|⟨_,_,_,h,_⟩
     ·
      have hsat3:Sat cx.u ([(w.heap.size+1,Obj.loop (rec .ready none))]::([(w.heap.size,.deferred (some []))]::(H2++R))) w2:=by
       refine hsat2.perm ?_;simp
      have hl:=hsat3.get (w.heap.size+1,Obj.loop (rec .ready none)) (by simp);have hend:=run_endLoop (P:=P) hl (by rw [hrec];simp)
      have hpd:(rec .ready none).pending=none:=by rw [hrec]
      have hk':=hk w.heap.size H2 hI2 {a with defers:=⟨.collected w.heap.size,#[]⟩::cx.D} (w2.putObj (w.heap.size+1) (.loop {rec .ready none with state:= .exhausted}))
       ⟨hs.size,rfl,hs.fit,(hsat3.turn (o':= .loop {rec .ready none with state:= .exhausted})).sub ⟨[(w.heap.size+1,.loop {rec .ready none with state:= .exhausted})],by
         simp only [uG];exact uj⟩⟩
      refine ⟨_,_,hend,?_⟩;have key:∀(p:Option Code) (A:Act) (W:World),p=none→Q .normal A W→(match p with|none=>Q .normal A W|some c=>c.wpIn (Fx cx.r) 0 P Q A W):=fun p A W h1 h2=>by subst h1;exact h2
      refine key _ _ _ hpd ?_;have:Bv env {a with defers:=⟨.collected w.heap.size,#[]⟩::cx.D}={Bv env a with defers:=[⟨.collected w.heap.size,#[]⟩]++(Bv env a).defers}:=by
       rw [De,Ey,hs.defers];rfl
      rw [this]at hk';exact hk'
     · exact h.elim
   ·
    rintro pre x post s hxs ⟨H1,hI,rfl⟩ u R1 w1 hw1 K Kp hK;have hw1':Sat u ([(w.heap.size+1,Obj.loop (rec .ready none))]::([(w.heap.size,.deferred (some []))]::(H1++R1))) w1:=by
     refine hw1.perm ?_;simp
    have hl:=hw1'.get (w.heap.size+1,Obj.loop (rec .ready none)) (by simp);have hy:=run_yield (P:=P) (args:=encs x) hl (by rw [hrec];exact hps x)
    rw [hy];show RoundIn Fence.wide 0 P (w.heap.size+1) _ _ _ _ w1 _
    rw [hrec];refine roundIn_of_wpIn (F:=Fence.wide) trivial ?_;have htm:({tmps:=(ps.zip (encs x)).foldl (fun tmps x=>match x with|(t,a)=>tmps.setIfInBounds t a) (Bv env a).tmps,defers:=[]}:Act)=Bv ((ps.toList.zip (encs x).toList).reverse++env) {a with defers:=[]}:=by
     rw [Hg,De [] env a];have h1:(ps.zip (encs x)).foldl (fun tmps x=>match x with|(t,a)=>tmps.setIfInBounds t a) (Bv env a).tmps=(Bv (ps.toList.zip (encs x).toList).reverse (Bv env a)).tmps:=by
      rw [←KG,←yY,zy]
     rw [h1,De [] _ (Bv env a)]
    have hfit2:Fit cx.N ((ps.toList.zip (encs x).toList).reverse++env):=by
     intro q hq;rcases uF.1 hq with hq|hq
     · have:=xx.1 hq
       have h2:=vL.1 hpf q.1 (AA5 this).1;simpa using h2
     · exact hs.fit q hq
    have ha:=hassign (w.heap.size+1) x u ([(w.heap.size+1,Obj.loop (rec .ready none))]::([(w.heap.size,.deferred (some []))]::(H1++R1))) {a with defers:=[]} w1 ⟨hs.size,rfl,hfit2,hw1'⟩;rw [←htm]at ha;refine wpIn_mono ha fun e a1 w2 he=>?_;cases e<;>first|exact he|skip
    obtain ⟨e9,Hn,hE,a2,hst,rfl⟩:=he;have hst1:Sat u ([(w.heap.size+1,Obj.loop (rec .ready none))]::([(w.heap.size,.deferred (some []))]::(H1++(Hn++R1)))) w2:=by
     refine hst.sat.perm ?_;simp only [uG,uW,uU];refine uS.trans (List.Perm.cons _ ?_);refine uS.trans (List.Perm.cons _ ?_);rw [←tO,←tO];exact uj.append_right _
    have hl2:=hst1.get (w.heap.size+1,Obj.loop (rec .ready none)) (by simp);refine ⟨_,run_beginRound hl2 (by rw [hrec]),?_⟩;have hst2:Sat u (H1++(Hn++([(w.heap.size+1,Obj.loop {rec .ready none with state:= .busy})]::([(w.heap.size,.deferred (some []))]::R1)))) (w2.putObj (w.heap.size+1) (.loop {rec .ready none with state:= .busy})):=by
     refine (hst1.turn (o':= .loop {rec .ready none with state:= .busy})).perm ?_;simp only [uG,uW,uU];rw [←tO,←tO];refine List.Perm.trans ?_ (uS.symm);refine List.Perm.cons _ ?_;exact uS.symm
    have hb:=hbody (w.heap.size+1) pre x post u e9 Hn H1 _ hxs hI hE a2 _ ⟨hst.size,hst.defers,hst.fit,hst2⟩;refine wpIn_mono hb fun e a3 w3 he3=>?_;cases e<;>first|exact he3.elim|skip
    obtain ⟨H2,hI2,hs3⟩:=he3;have hs3':Sat u ([(w.heap.size+1,Obj.loop {rec .ready none with state:= .busy})]::([(w.heap.size,.deferred (some []))]::(H2++R1))) w3:=by
     refine hs3.perm ?_;simp only [uG,uW,uU];exact uS.trans (List.Perm.cons _ uS)
    have hl3:=hs3'.get (w.heap.size+1,Obj.loop {rec .ready none with state:= .busy}) (by simp);have hend:=run_endRound (P:=P) none hl3
    refine ⟨_,_,hend,?_⟩;refine hK _ _ _ ⟨[(w.heap.size+1,.loop (rec .ready none)),(w.heap.size,.deferred (some []))]++H2.flatten,rfl,rfl,H2,hI2,rfl⟩ ?_;have hfin:=hs3'.turn (o':= .loop (rec .ready none))
    have hsame:({{rec .ready none with state:=LoopState.busy}with state:=if(none:Option Code).isNone=true then LoopState.ready else .done,pending:=none}:Loop)=rec .ready none:=by rw [hrec];rfl
    rw [hsame];refine hfin.perm ?_;simp
theorem jB{cx:Cx}{E:Env→Hp→Prop}{env e:Env}{H Hn:Hp}{Q:Exit→Act→World→Prop}(hE:E e Hn):Nx cx ((Exit.then (fun a w=>∃e Hn,E e Hn∧Is cx (e++env) (Hn++H) a w) Q) .normal) (e++env) (Hn++H):=fun a _ hs=>⟨e,Hn,hE,a,hs,rfl⟩
section
variable{F:Fence}{n:Nat}{P:Program}{Q:Exit→Act→World→Prop}{a:Act}{w:World}{b:Frame}{k:List Item}{cs:List Frame}
theorem Fz{c:Code}:step P (lone (b.atR a (.code (.scope c)::k)) cs w)= .next (lone (b.atR a (.code c:: .inScope c::k)) cs w):=
 step_lone_go (by simp [stepG,stepG.exec,Frame.atR])
theorem RQ{c:Code}:step P (lone (b.atR a (.inScope c::k)) cs w)= .next (lone (b.atR a k) cs w):=
 step_lone_go (by simp [stepG,stepG.exec,Frame.atR])
theorem XF{c:Code}(h:c.wpIn F n P (Exit.noGoto Q) a w):(Code.scope c).wpIn F n P Q a w:=by
 intro b k cs hro hb hr;have h0:(lone (b.atR a (.code (.scope c)::k)) cs w).fenced P F:=fenced_calm hb hr rfl
 obtain ⟨e,a₁,w₁,hq,harr⟩:=h b (.inScope c::k) cs hro hb hr;cases e with
 |normal=>exact ⟨.normal,a₁,w₁,hq,.head h0 Fz (StepsIn.trans harr (.one (fenced_calm hb hr rfl) RQ))⟩
 |exit id'=>
  have hx:exitTo id' (.inScope c::k)=exitTo id' k:=by simp [exitTo]
  exact ⟨.exit id',a₁,w₁,hq,fun k' hk=> .head h0 Fz (harr.1 k' (by rw [hx];exact hk)),
   fun hr' hk=>let⟨k₁,h1,h2⟩:=harr.2 hr' (by rw [hx];exact hk);⟨k₁,h1,.head h0 Fz h2⟩⟩
 |goto l=>exact hq.elim
 |ret=>exact ⟨_,a₁,w₁,hq,.of_steps (.one h0 Fz) harr⟩
 |panic ch=>exact ⟨_,a₁,w₁,hq,.of_steps (.one h0 Fz) harr⟩
 |outgrown=>exact ⟨_,a₁,w₁,hq,.of_steps (.one h0 Fz) harr⟩
end
section
variable{P:Program}{cx:Cx}{Q:Exit→Act→World→Prop}{env:Env}{H:Hp}
theorem X9{c:Code}(h:At P cx c (Exit.noGoto Q) env H):At P cx (.scope c) Q env H:=fun a w hs=>XF (h a w hs)
theorem K9(h:Nx cx (Q .ret) env H):Nx cx (Exit.noGoto Q .ret) env H:=h
end
def Tu{α:Type}(P:Program)(gf:FuncId)(lb:Array Value)(Hit Hk:Hp)(Enc:α→Array Value→List AR→Prop)(xs:List α):Prop:=
 ∀(l:Nat) (J:List α→List AR→Prop),(∀pre x post s vs sx,xs=pre++x::post→J pre s→Enc x vs sx→Ll P l vs [sx,s] (fun v H'=>∃s',v= .bool true∧H'=[s']∧J (pre++[x]) s'))→
  ∀s,J [] s→CO P gf (#[.func (.yield l) #[] #[]]++lb) (Hit++(Hk++[s])) (fun _ H'=>∃s',H'=Hk++[s']∧J xs s')
theorem Ur{α:Type}{P:Program}{cx:Cx}{Q:Exit→Act→World→Prop}{env:Env}{H Hit Hk H0 R:Hp}{g:Operand}{ps:Array Tmp}{assign body:Code}{gf:FuncId}{lb:Array Value}{Enc:α→Array Value→List AR→Prop}{xs:List α}
 (I:List α→Hp→Prop)(E:α→Array Value→List AR→Env→Hp→Prop)(hr:cx.r=none)(hg:∀a,ev a env g= .func (.func gf) #[] lb)(hcall:∀(args:Array Value) (w:World),(callFunc gf args).run P w= .ok (.enter gf args) w)
 (hiter:Tu P gf lb Hit Hk Enc xs)(hps:∀x vs sx,Enc x vs sx→vs.size=ps.size)(hpf:(ps.toList.all fun t=>Nat.blt t cx.N)=true)(hp:FB (Hit++(Hk++H0)) H R)(h0:I [] H0)
 (hassign:∀(l:Nat) (x:α) (vs:Array Value) (sx:List AR) (u:World) (H:Hp),Enc x vs sx→At P ⟨cx.N,[],u,some l⟩ assign (Exit.then (fun a w=>∃e Hn,E x vs sx e Hn∧Is ⟨cx.N,[],u,some l⟩ (e++env) (Hn++H) a w) (fun _ _ _=>False)) ((ps.toList.zip vs.toList).reverse++env) H)
 (hbody:∀(l:Nat) (pre:List α) (x:α) (post:List α) (u:World) (vs:Array Value) (sx:List AR) (e:Env) (Hn H1 R1:Hp),xs=pre++x::post→I pre H1→Enc x vs sx→E x vs sx e Hn→At P ⟨cx.N,[],u,some l⟩ body (LG u I (pre++[x]) R1) (e++env) (H1++(sx::(Hn++R1))))
 (hk:∀(D:Nat) (H2:Hp),I xs H2→Nx ⟨cx.N,⟨.collected D,#[]⟩::cx.D,cx.u,none⟩ (Q .normal) env ([(D,.deferred (some []))]::(Hk++(H2++R)))):At P cx (.rangeFunc g ps assign body) Q env H:=by
 intro a w hs;refine wpIn_rangeFunc ?_;intro fn hfn;have hro:(Fx cx.r).round=none:=hr
 rw [hro];obtain ⟨rec,hrec⟩:∃rec:LoopState→Option Code→Loop,rec=fun st pe=>{state:=st,pending:=pe,fn,tmps:=(Bv env a).tmps,params:=ps,assign,body,defers:=w.heap.size}:=⟨_,rfl⟩;have hsat:Sat cx.u ((Hit++(Hk++H0))++R) w:=hs.sat.perm hp.perm
 have hsat1:Sat cx.u ([(w.heap.size+1,.loop (rec .ready none))]::([(w.heap.size,.deferred (some []))]::(Hit++(Hk++H0)++R))) ((w.alloc (.deferred (some []))).alloc (.loop (rec .ready none))):=by
  have:=(hsat.alloc (.deferred (some []))).alloc (.loop (rec .ready none));rw [show({w with heap:=w.heap.push (.deferred (some []))}:World).heap.size=w.heap.size+1 from zL _]at this;exact this
 have hfitA:Fit a.tmps.size env:=by rw [hs.size];exact hs.fit
 refine ⟨w.heap.size+1,[⟨.collected w.heap.size,#[]⟩],(w.alloc (.deferred (some []))).alloc (.loop (rec .ready none)),⟨.fn (.func gf) lb,#[.func (.yield (w.heap.size+1)) #[] #[]]⟩,(w.alloc (.deferred (some []))).alloc (.loop (rec .ready none)),gf,
  #[.func (.yield (w.heap.size+1)) #[] #[]]++lb,(w.alloc (.deferred (some []))).alloc (.loop (rec .ready none)),?_,?_,fun _ _=>trivial,?_,fun h=>by simp [Fx,Fence.wide]at h,?_⟩
 · rw [hrec];exact run_enterLoop_outer _ _ _ _ _
 · simp only [resolve,El a env hfitA,hg a]
   simp [Deferred.ofValue,ev,Act.eval]
 · simp [invoke,hcall]
 · refine PW ?_
   have hJ:=hiter (w.heap.size+1) (fun pre s=>∃H1,I pre H1∧s=[(w.heap.size+1,.loop (rec .ready none)),(w.heap.size,.deferred (some []))]++H1.flatten) ?_ _ ⟨H0,h0,rfl⟩
   · have hs1:Sat cx.u ((Hit++(Hk++[[(w.heap.size+1,Obj.loop (rec .ready none)),(w.heap.size,.deferred (some []))]++H0.flatten]))++R) ((w.alloc (.deferred (some []))).alloc (.loop (rec .ready none))):=by
      refine hsat1.perm ?_;simp only [uG,uW,uU,wH,vN,xW,uR,tO];have e:∀(x y:AR) (A B C D:List AR),(x::y::(A++(B++(C++D)))).Perm (A++(B++(x::y::(C++D)))):=fun x y A B C D=>by
       rw [←tO,←tO A B (x::y::(C++D))];refine (List.Perm.cons x uS.symm).trans ?_;exact uS.symm
      exact e _ _ _ _ _ _
     refine Calls.mono (hJ cx.u R _ hs1) fun e w2 he=>?_;rcases he with⟨v,H',rfl,⟨s',rfl,H2,hI2,rfl⟩,hsat2⟩|⟨_,_,_,h,_⟩
     ·
      have hsat3:Sat cx.u ([(w.heap.size+1,Obj.loop (rec .ready none))]::([(w.heap.size,.deferred (some []))]::(Hk++(H2++R)))) w2:=by
       refine hsat2.perm ?_;simp only [uG,uW,uU,wH,vN,xW,uR,tO];refine uS.trans (List.Perm.cons _ ?_);exact uS
      have hl:=hsat3.get (w.heap.size+1,Obj.loop (rec .ready none)) (by simp);have hend:=run_endLoop (P:=P) hl (by rw [hrec];simp)
      have hpd:(rec .ready none).pending=none:=by rw [hrec]
      have hk':=hk w.heap.size H2 hI2 {a with defers:=⟨.collected w.heap.size,#[]⟩::cx.D} (w2.putObj (w.heap.size+1) (.loop {rec .ready none with state:= .exhausted}))
       ⟨hs.size,rfl,hs.fit,(hsat3.turn (o':= .loop {rec .ready none with state:= .exhausted})).sub ⟨[(w.heap.size+1,.loop {rec .ready none with state:= .exhausted})],by
         simp only [uG];exact uj⟩⟩
      refine ⟨_,_,hend,?_⟩;have key:∀(p:Option Code) (A:Act) (W:World),p=none→Q .normal A W→(match p with|none=>Q .normal A W|some c=>c.wpIn (Fx cx.r) 0 P Q A W):=fun p A W h1 h2=>by subst h1;exact h2
      refine key _ _ _ hpd ?_;have:Bv env {a with defers:=⟨.collected w.heap.size,#[]⟩::cx.D}={Bv env a with defers:=[⟨.collected w.heap.size,#[]⟩]++(Bv env a).defers}:=by
       rw [De,Ey,hs.defers];rfl
      rw [this]at hk';exact hk'
     · exact h.elim
   ·
    rintro pre x post s vs sx hxs ⟨H1,hI,rfl⟩ hEnc u R1 w1 hw1 K Kp hK;have hw1':Sat u ([(w.heap.size+1,Obj.loop (rec .ready none))]::([(w.heap.size,.deferred (some []))]::(H1++(sx::R1)))) w1:=by
     refine hw1.perm ?_;simp only [uG,uW,uU,wH,vN,xW,uR,tO];refine uS.trans (List.Perm.cons _ ?_);refine uS.trans (List.Perm.cons _ ?_);rw [←tO,←tO];exact uj.append_right _
    have hl:=hw1'.get (w.heap.size+1,Obj.loop (rec .ready none)) (by simp);have hy:=run_yield (P:=P) (args:=vs) hl (by rw [hrec];exact hps x vs sx hEnc)
    rw [hy];show RoundIn Fence.wide 0 P (w.heap.size+1) _ _ _ _ w1 _
    rw [hrec];refine roundIn_of_wpIn (F:=Fence.wide) trivial ?_;have htm:({tmps:=(ps.zip (vs)).foldl (fun tmps x=>match x with|(t,a)=>tmps.setIfInBounds t a) (Bv env a).tmps,defers:=[]}:Act)=Bv ((ps.toList.zip (vs).toList).reverse++env) {a with defers:=[]}:=by
     rw [Hg,De [] env a];have h1:(ps.zip (vs)).foldl (fun tmps x=>match x with|(t,a)=>tmps.setIfInBounds t a) (Bv env a).tmps=(Bv (ps.toList.zip (vs).toList).reverse (Bv env a)).tmps:=by
      rw [←KG,←yY,zy]
     rw [h1,De [] _ (Bv env a)]
    have hfit2:Fit cx.N ((ps.toList.zip (vs).toList).reverse++env):=by
     intro q hq;rcases uF.1 hq with hq|hq
     · have:=xx.1 hq
       have h2:=vL.1 hpf q.1 (AA5 this).1;simpa using h2
     · exact hs.fit q hq
    have ha:=hassign (w.heap.size+1) x vs sx u ([(w.heap.size+1,Obj.loop (rec .ready none))]::([(w.heap.size,.deferred (some []))]::(H1++(sx::R1)))) hEnc {a with defers:=[]} w1 ⟨hs.size,rfl,hfit2,hw1'⟩;rw [←htm]at ha;refine wpIn_mono ha fun e a1 w2 he=>?_;cases e<;>first|exact he|skip
    obtain ⟨e9,Hn,hE,a2,hst,rfl⟩:=he;have hst1:Sat u ([(w.heap.size+1,Obj.loop (rec .ready none))]::([(w.heap.size,.deferred (some []))]::(H1++(sx::(Hn++R1))))) w2:=by
     refine hst.sat.perm ?_;simp only [uG,uW,uU];refine uS.trans (List.Perm.cons _ ?_);refine uS.trans (List.Perm.cons _ ?_);have e:∀(A B C D:List AR),(A++(B++(C++D))).Perm (B++(C++(A++D))):=fun A B C D=>by
      rw [←tO B C D,←tO B C (A++D),←tO A,←tO (B++C) A D];exact uj.append_right _
     exact e _ _ _ _
    have hl2:=hst1.get (w.heap.size+1,Obj.loop (rec .ready none)) (by simp);refine ⟨_,run_beginRound hl2 (by rw [hrec]),?_⟩;have hst2:Sat u (H1++(sx::(Hn++([(w.heap.size+1,Obj.loop {rec .ready none with state:= .busy})]::([(w.heap.size,.deferred (some []))]::R1))))) (w2.putObj (w.heap.size+1) (.loop {rec .ready none with state:= .busy})):=by
     refine (hst1.turn (o':= .loop {rec .ready none with state:= .busy})).perm ?_;simp only [uG,uW,uU];have e:∀(x y:AR) (A B C D:List AR),(x::y::(A++(B++(C++D)))).Perm (A++(B++(C++(x::y::D)))):=fun x y A B C D=>by
      rw [←tO B C D,←tO A (B++C) D,←tO B C (x::y::D),←tO A (B++C) (x::y::D)];refine (List.Perm.cons x uS.symm).trans ?_;exact uS.symm
     exact e _ _ _ _ _ _
    have hb:=hbody (w.heap.size+1) pre x post u vs sx e9 Hn H1 _ hxs hI hEnc hE a2 _ ⟨hst.size,hst.defers,hst.fit,hst2⟩;refine wpIn_mono hb fun e a3 w3 he3=>?_;cases e<;>first|exact he3.elim|skip
    obtain ⟨H2,hI2,hs3⟩:=he3;have hs3':Sat u ([(w.heap.size+1,Obj.loop {rec .ready none with state:= .busy})]::([(w.heap.size,.deferred (some []))]::(H2++R1))) w3:=by
     refine hs3.perm ?_;simp only [uG,uW,uU];exact uS.trans (List.Perm.cons _ uS)
    have hl3:=hs3'.get (w.heap.size+1,Obj.loop {rec .ready none with state:= .busy}) (by simp);have hend:=run_endRound (P:=P) none hl3
    refine ⟨_,_,hend,?_⟩;refine hK _ _ _ ⟨[(w.heap.size+1,.loop (rec .ready none)),(w.heap.size,.deferred (some []))]++H2.flatten,rfl,rfl,H2,hI2,rfl⟩ ?_;have hfin:=hs3'.turn (o':= .loop (rec .ready none))
    have hsame:({{rec .ready none with state:=LoopState.busy}with state:=if(none:Option Code).isNone=true then LoopState.ready else .done,pending:=none}:Loop)=rec .ready none:=by rw [hrec];rfl
    rw [hsame];refine hfin.perm ?_;simp
section
variable{P:Program}{env:Env}{d:Option Nat}{ty:TypeId}{pos:String}{af:Array Edge}{g:Option (Nat×Bool)}
theorem bZ{x y:Operand}{Ts:Array TypeId}{k:IntKind}{m n:Int}(hx:∀a,ev a env x= .int k m)(hy:∀a,ev a env y= .int k n):OpP P ⟨d,.call ⟨.builtin .max,#[x,y],Ts⟩,ty,pos,af,g⟩ env [] (.int k (max m n)):=fun a w _=>by
 simp [EJ,resolve,invoke,builtin,hx a,hy a,Builtin.max_,Builtin.max2];by_cases h:m<n
 · simp [h,show max m n=n by omega]
 · simp [h,show max m n=m by omega]
theorem Xx{x y:Operand}{Ts:Array TypeId}{k:IntKind}{m:Nat}(hx:∀a,ev a env x= .int k ((m:Int) -1))(hy:∀a,ev a env y= .int k 0):OpP P ⟨d,.call ⟨.builtin .max,#[x,y],Ts⟩,ty,pos,af,g⟩ env [] (.int k ((m -1:Nat):Int)):=by
 have h:=bZ (P:=P) (d:=d) (ty:=ty) (pos:=pos) (af:=af) (g:=g) (Ts:=Ts) hx hy;rwa [show max ((m:Int) -1) 0=((m -1:Nat):Int) by omega]at h
end
def Fa(M:List AR)(p:Option Addr)(ys:List Value):Prop:=∀(j:Nat) (u:Value),ys[j]?=some u→∃g o c T z,p=some ⟨g,o,none⟩∧(g,Obj.cells c T z)∈M∧c[o+j]?=some u
theorem One.mem9{s:List AR}{H R:Hp}(h:One s H R):∀c∈s,c∈H.flatten:=by
 intro c hc;have:=h.perm.mem_iff (a:=c)
 rw [this];simp [hc]
section
variable{P:Program}{u:World}{env:Env}{H R R2:Hp}{d:Option Nat}{ty:TypeId}{pos:String}{af:Array Edge}{g:Option (Nat×Bool)}
theorem LJ{x y:Operand}{t e:TypeId}{i:TypeInfo}{z:Value}{by_ sz n k c:Nat}{v:Value}{p:Option Addr}{xs ys:List Value}{s M:List AR}
 (ht:P.underlying t=some (.slice e))(hi:P.info? e=some i)(hsz:i.size=sz)(hby:i.bytes=by_)(hzi:i.zero=some z)(hz1:z.cells.size=sz)
 (hx:∀a,ev a env x=v)(hrow:BX sz e v n xs s)(hy:∀a,ev a env y= .slice p k c)(hsrc:Fa M p ys)(hl:ys.length=k*sz)(h0:0<sz)(hone:One s H R)(htwo:One M R R2)(h1:∀u∈ys,u.oneCell'=true)
 (h63:n+k≤maxLen)(hb:(n+k)*by_≤140737488355328):
 OpW P u ⟨d,.call ⟨.builtin .append,#[x,y],#[t,t]⟩,ty,pos,af,g⟩ env H (fun v' H1=>∃s',BX sz e v' (n+k) (xs++ys) s'∧H1=s'::R) (fun _ _=>False):=by
 rcases vJ k with hk|hk
 · subst hk
   have hy0:ys=[]:=uf (by omega);subst hy0;obtain ⟨b,c',rfl⟩:=hrow.form;have hle:n≤c':=by
    obtain ⟨_,⟨hv,h0,_⟩|⟨_,_,_,_,hv,_,h2,_⟩⟩:=hrow
    · omega
    · injection hv with _ _ hv3;omega
   intro a w hsat K Kp hK _;have hs1:Sat u (s::R) w:=hsat.perm (by simpa using hone.perm)
   have hl0:(Builtin.firstCells i.size 0 (.slice p 0 c)).run P w= .ok #[] w:=by
    cases p with
    |none=>simp [Builtin.firstCells]
    |some ad=>simp [Builtin.firstCells,loadCells,loadCellsFrom]
   have hr:(Builtin.append_ #[t,t] ty #[.slice b n c',.slice p 0 c]).run P w= .ok (.slice b n c') w:=by
    rw [hsz]at hl0;cases b with
    |none=>simp [Builtin.append_,run_underlying ht,Go.sizeOf,typeInfo,hi,hsz,Builtin.lenOf,hle,hl0]
    |some ad=>simp [Builtin.append_,run_underlying ht,Go.sizeOf,typeInfo,hi,hsz,Builtin.lenOf,hle,hl0,storeCells]
   have hx':(execOp (ev a env) ⟨d,.call ⟨.builtin .append,#[x,y],#[t,t]⟩,ty,pos,af,g⟩).run P w= .ok (.value (.slice b n c')) w:=by
    simp only [EJ,resolve,invoke,builtin,wV,uo,wM,hx a,hy a,Sem.run_bind,Sem.run_pure,Result.andThen_ok,hr]
   rw [hx'];exact hK _ _ _ ⟨s,by rw [uR];exact hrow,rfl⟩ hs1
 · have hpos:0<ys.length:=by rw [hl];exact Nat.mul_pos hk h0
   obtain ⟨gb,o,_,_,_,rfl,_,_⟩:=hsrc 0 _ (tF hpos);refine SA ht hi hsz hby hzi hz1 hx hrow hy hone (fun w hs j v hj=>?_) hl h1 hk h63 hb;obtain ⟨g',o',c1,T1,z1,e,hm,hc⟩:=hsrc j v hj;injection e with e
   injection e with e1 e2
   subst e1 e2;rw [CJ];exact Cg (hs.get _ (htwo.mem9 _ hm)) hc
end
end Gw
