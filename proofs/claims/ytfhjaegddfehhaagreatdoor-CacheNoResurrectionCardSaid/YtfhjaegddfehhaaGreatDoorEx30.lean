/- Walking by chunks: a range over a function; the end of a function that holds one. No function of the program is named. -/
import Derived.Test.YtfhjaegddfehhaaGreatDoorEz
import Derived.Lib.Hide
import Derived.Shelf.GgSortFunc.InsertionK
import Derived.Lib.AppendZerosOnto
import Derived.Lib.Overlaps
import Derived.RecoverIn
import Derived.RangeFuncNested
set_option linter.unusedVariables false
set_option linter.unusedSimpArgs false
namespace Gw
open Go Go.RowKit
def GD(P:Program)(l:Nat)(args:Array Value)(H:Hp)(Q:Value->Hp->Prop):Prop:=
 ∀(u:World) (R:Hp) (w:World),Sat u (H++R) w->∀(K:Value->World->Prop) (Kp:List PanicEntry->World->Prop),(∀v H' w',Q v H'->Sat u (H'++R) w'->K v w')->Uu P K Kp ((Instr.yield l args).run P w)
section
variable{P:Program}{u:World}{env:Env}{H R:Hp}{d:Option Nat}{ty:TypeId}{pos:String}{af:Array Edge}{g:Option (Nat×Bool)}
theorem GZ{J:Operand}{B:Array Operand}{G:Array TypeId}{l:Nat}{vs:List Value}{U:Hp}{Q:Value->Hp->Prop}
 (hf:∀a,ev a env J= .func (.yield l) #[] #[])(ha:∀a,B.toList.map (ev a env)=vs)(O:GD P l vs.toArray U Q)(hp:Ew U H R):
 OpW P u ⟨d,.call ⟨.value J,B,G⟩,ty,pos,af,g⟩ env H (fun v H'=>∃H1,Q v H1/\H'=H1++R) (fun _ _=>False):=fun a w hs K W Z _=>by
 have X:B.map (ev a env)=vs.toArray:=by rw [<-ha a];exact JJ _ B
 have:(execOp (ev a env) ⟨d,.call ⟨.value J,B,G⟩,ty,pos,af,g⟩).run P w=(Instr.yield l vs.toArray).run P w:=by
  simp [Dz,resolve,hf a,Deferred.ofValue,invoke,X]
 rw [this];exact O u R w (hs.perm hp.perm) K W fun v H' w' hq I=>Z v _ w' ⟨H',hq,V⟩ I
end
def UI{α:Type}(P:Program)(gf:FuncId)(lb:Array Value)(Hit:Hp)(encs:α->Array Value)(xs:List α):Prop:=
 ∀(l:Nat) (J:List α->List AA->Prop),(∀pre x post s,xs=pre++x::post->J pre s->GD P l (encs x) [s] (fun v H'=>∃s',v= .bool true/\H'=[s']/\J (pre++[x]) s'))->
  ∀s,J [] s->Ba P gf (#[.func (.yield l) #[] #[]]++lb) (Hit++[s]) (fun _ H'=>∃s',H'=[s']/\J xs s')
def FC{α:Type}(P:Program)(gf:FuncId)(lb:Array Value)(Hit:Hp)(A:List AA->Prop)(encs:α->Array Value)(xs:List α):Prop:=
 ∀(l:Nat) (J:List α->List AA->Prop),(∀pre s,J pre s->A s)->(∀pre x post s,xs=pre++x::post->J pre s->GD P l (encs x) [s] (fun v H'=>∃s',v= .bool true/\H'=[s']/\J (pre++[x]) s'))->
  ∀s,J [] s->Ba P gf (#[.func (.yield l) #[] #[]]++lb) (Hit++[s]) (fun _ H'=>∃s',H'=[s']/\J xs s')
def Is(cx:Cx)(env:Env)(H:Hp)(a:Act)(w:World):Prop:=∃a0,St cx env H a0 w/\a=CF env a0
theorem rQ{cx:Cx}{env:Env}{H:Hp}{Q:Exit->Act->World->Prop}:Nx cx ((Exit.then (Is cx env H) Q) .normal) env H:=fun a _ B=>⟨a,B,rfl⟩
def Ig{α:Type}(u:World)(I:List α->Hp->Prop)(xs:List α)(R:Hp):Exit->Act->World->Prop
 | .normal,_,w=>∃H,I xs H/\Sat u (H++R) w
 |_,_,_=>False
theorem F7{α:Type}{cx:Cx}{I:List α->Hp->Prop}{xs:List α}{R:Hp}{env:Env}{H H':Hp}{u:World}(J:cx.u=u)(h:I xs H')(B:Sub (H'++R) H:=by repeat(first|exact Sub.refl _|exact Sub.nil _|(apply Sub.cons;(focus (repeat(first|exact One.here _ _|apply One.there))))|refine Sub.drop _ ?_)):Nx cx (Ig u I xs R .normal) env H:=fun _ _ G=>⟨H',h,by subst J;exact G.sat.sub B.amid⟩
theorem Je:∀(e1 e2:Env) (a:Act),CF (e1++e2) a=CF e1 (CF e2 a)
 |[],_,_=>rfl
 |(d,v)::e1,e2,a=>by simp only [PJ,CF];rw [Je e1 e2 a]
theorem Nv:∀(l:List (Nat×Value)) (b:Act),(l.foldl (fun(t:Array Value) (p:Nat×Value)=>t.setIfInBounds p.1 p.2) b.tmps)=(CF l.reverse b).tmps
 |[],_=>rfl
 |(d,v)::l,b=>by
  simp only [Tl,List.reverse_cons];rw [Je];have:=Nv l (b.put (some d) v)
  simpa [CF,Act.put]using this
theorem FH(D:List Deferred):∀(e:Env) (a:Act),CF e {a with defers:=D}={CF e a with defers:=D}
 |[],_=>rfl
 |(d,v)::e,a=>by simp only [CF];rw [FH D e a];rfl
theorem Sat.turn{u w:World}{b:Nat}{o o':Obj}{H:Hp}(h:Sat u ([(b,o)]::H) w):Sat u ([(b,o')]::H) (w.putObj b o'):=by
 have B:b<w.heap.size:=h.lt (p:=(b,o)) B0;refine h.upd (.here _) V rfl V (World.putObj_heap_same B) fun k G=>World.putObj_heap_other G
theorem CL{a b:List AA}(h:∀f:List AA->Nat,(∀u v,f (u++v)=f u+f v)->f a=f b):a.Perm b:=by
 letI:DecidableEq AA:=fun a b=>Classical.propDecidable (a=b)
 exact List.perm_iff_count.2 fun x=>h (fun l=>l.count x) fun u v=>List.count_append
theorem Sat.parts{u w:World}{H H':Hp}(G:Sat u H w)(h:∀f:List AA->Nat,(∀u v,f (u++v)=f u+f v)->f []=0->(∀x y,f [x,y]=f [x]+f [y])->f H.flatten=f H'.flatten):Sat u H' w:=
 G.perm (CL fun f B=>h f B (by have:=B [] [];simp at this;omega) fun x y=>B [x] [y])
theorem UA{P:Program}{cx:Cx}{c:Code}{Q:Exit->Act->World->Prop}{env:Env}{H H':Hp}(h:At P cx c Q env H)(G:∀f:List AA->Nat,(∀u v,f (u++v)=f u+f v)->f []=0->(∀x y,f [x,y]=f [x]+f [y])->f H'.flatten=f H.flatten):At P cx c Q env H':=fun a w B=>h a w ⟨B.size,B.defers,B.fit,B.sat.parts G⟩
def KS{α:Type}(u:World)(I Ix:List α->Hp->Prop)(xs:List α)(R:Hp):Exit->Act->World->Prop
 | .normal,_,w=>∃H,I xs H/\Sat u (H++R) w
 | .ret,_,w=>∃H,Ix xs H/\Sat u (H++R) w
 |_,_,_=>False
theorem Vg{α:Type}{cx:Cx}{I Ix:List α->Hp->Prop}{xs:List α}{R:Hp}{env:Env}{H H':Hp}{u:World}(J:cx.u=u)(h:I xs H')(B:Sub (H'++R) H:=by repeat(first|exact Sub.refl _|exact Sub.nil _|(apply Sub.cons;(focus (repeat(first|exact One.here _ _|apply One.there))))|refine Sub.drop _ ?_)):Nx cx (KS u I Ix xs R .normal) env H:=fun _ _ G=>⟨H',h,by subst J;exact G.sat.sub B.amid⟩
theorem lL{α:Type}{cx:Cx}{I Ix:List α->Hp->Prop}{xs:List α}{R:Hp}{env:Env}{H H':Hp}{u:World}(J:cx.u=u)(h:Ix xs H')(B:Sub (H'++R) H:=by repeat(first|exact Sub.refl _|exact Sub.nil _|(apply Sub.cons;(focus (repeat(first|exact One.here _ _|apply One.there))))|refine Sub.drop _ ?_)):Nx cx (KS u I Ix xs R .ret) env H:=fun _ _ G=>⟨H',h,by subst J;exact G.sat.sub B.amid⟩
def WO{α:Type}(P:Program)(gf:FuncId)(lb:Array Value)(Hit Hk:Hp)(A:List α->List AA->Prop)(Enc:α->Array Value->List AA->Prop)(Adm Full:List α->Prop)(St:Prop):Prop:=
 ∀(l:Nat) (J Jx:List α->List AA->Prop),(∀pre s,J pre s->A pre s)->(∀pre s,Jx pre s->St)->(∀pre x s vs sx,Adm (pre++[x])->J pre s->Enc x vs sx->GD P l vs [sx,s] (fun v H'=>∃s',H'=[s']/\((v= .bool true/\J (pre++[x]) s')\/(v= .bool false/\Jx (pre++[x]) s'))))->
  ∀s,J [] s->Ba P gf (#[.func (.yield l) #[] #[]]++lb) (Hit++(Hk++[s])) (fun _ H'=>∃s',H'=Hk++[s']/\((∃ys,Full ys/\J ys s')\/∃pre,Jx pre s'))
theorem Mv{α:Type}{A:List α->List AA->Prop}{Adm Full:List α->Prop}{P:Program}{cx:Cx}{Q:Exit->Act->World->Prop}{env:Env}{H gB Hk H0 R:Hp}{g:Operand}{ps:Array Tmp}{assign body:Code}{gf:FuncId}{lb:Array Value}{Enc:α->Array Value->List AA->Prop}{St:Prop}
 (I Ix:List α->Hp->Prop)(E:α->Array Value->List AA->Env->Hp->Prop)(hr:cx.r=none)(hg:∀a,ev a env g= .func (.func gf) #[] lb)(j3:∀(args:Array Value) (w:World),(callFunc gf args).run P w= .ok (.enter gf args) w)
 (l8:WO P gf lb gB Hk A Enc Adm Full St)(hX:∀pre H1,Ix pre H1->St)(hA:∀pre H1 c d,I pre H1->A pre ([c,d]++H1.flatten))(q9:∀x vs Z,Enc x vs Z->vs.size=ps.size)(pz:(ps.toList.all fun t=>Nat.blt t cx.N)=true)(hp:Ew (gB++(Hk++H0)) H R)(h0:I [] H0)
 (cu:∀(l:Nat) (x:α) (vs:Array Value) (Z:List AA) (u:World) (H:Hp),Enc x vs Z->At P ⟨cx.N,[],u,some l⟩ assign (Exit.then (fun a w=>∃e Hn,E x vs Z e Hn/\Is ⟨cx.N,[],u,some l⟩ (e++env) (Hn++H) a w) (fun _ _ _=>False)) ((ps.toList.zip vs.toList).reverse++env) H)
 (ic:∀(l:Nat) (pre:List α) (x:α) (u:World) (vs:Array Value) (Z:List AA) (e:Env) (Hn H1 R1:Hp) (r0:Loop),Adm (pre++[x])->I pre H1->Enc x vs Z->E x vs Z e Hn->At P ⟨cx.N,[],u,some l⟩ body (KS u I Ix (pre++[x]) ([(l,.loop r0)]::R1)) (e++env) (H1++(Z::(Hn++([(l,.loop r0)]::R1)))))
 (hk:∀(D:Nat) (ys:List α) (O:Hp),Full ys->I ys O->Nx ⟨cx.N,⟨.collected D,#[]⟩::cx.D,cx.u,none⟩ (Q .normal) env ([(D,.deferred (some []))]::(Hk++(O++R))))
 (p9:∀(D:Nat) (pre:List α) (O:Hp),Ix pre O->Nx ⟨cx.N,⟨.collected D,#[]⟩::cx.D,cx.u,none⟩ (Q .ret) env ([(D,.deferred (some []))]::(Hk++(O++R)))):At P cx (.rangeFunc g ps assign body) Q env H:=by
 intro a w hs;refine wpIn_rangeFunc ?_;intro fn qo;have qa:(Fx cx.r).round=none:=hr
 rw [qa];obtain ⟨d9,B⟩:∃d9:LoopState->Option Code->Loop,d9=fun st pe=>{state:=st,pending:=pe,fn,tmps:=(CF env a).tmps,params:=ps,assign,body,defers:=w.heap.size}:=⟨_,rfl⟩;obtain ⟨G,U⟩:∃G,G=d9 .ready none:=⟨_,rfl⟩;obtain ⟨L2,gF⟩:∃L2,L2=d9 .done (some .ret):=⟨_,rfl⟩;obtain ⟨n,hn⟩:∃n,n=w.heap.size:=⟨_,rfl⟩;have lw:Sat cx.u ([(n+1,.loop G)]::([(n,.deferred (some []))]::((gB++(Hk++H0))++R))) ((w.alloc (.deferred (some []))).alloc (.loop G)):=by
  have:=((hs.sat.perm hp.perm).alloc (.deferred (some []))).alloc (.loop G);rw [show({w with heap:=w.heap.push (.deferred (some []))}:World).heap.size=w.heap.size+1 from Array.size_push _,<-hn]at this;exact this
 have l5:Fit a.tmps.size env:=by rw [hs.size];exact hs.fit
 have o8:∀d,CF env {a with defers:=d::cx.D}={CF env a with defers:=[d]++(CF env a).defers}:=fun d=>by
  rw [FH,Fj,hs.defers];rfl
 have ek:∀(L:Loop) (e:Exit) (O:Hp) (w2:World),L.state≠ .busy->(∀(A:Act) (W:World),Q e A W->(match L.pending with|none=>Q .normal A W|some c=>c.wpIn (Fx cx.r) 0 P Q A W))->
  Sat cx.u ([(n+1,Obj.loop L)]::([(n,.deferred (some []))]::O)) w2->Nx ⟨cx.N,⟨.collected n,#[]⟩::cx.D,cx.u,none⟩ (Q e) env ([(n,.deferred (some []))]::O)->
  ∃v w3,(Instr.endLoop (n+1)).run P w2= .ok v w3/\(match v with|none=>Q .normal {CF env a with defers:=[⟨.collected n,#[]⟩]++(CF env a).defers} w3|some c=>c.wpIn (Fx cx.r) 0 P Q {CF env a with defers:=[⟨.collected n,#[]⟩]++(CF env a).defers} w3):=by
  intro L e O w2 bg pq gm hN;have hl:=gm.get (n+1,Obj.loop L) B0
  refine ⟨_,_,run_endLoop (P:=P) hl bg,pq _ _ ?_⟩;rw [<-o8];exact hN {a with defers:=⟨.collected n,#[]⟩::cx.D} _ ⟨hs.size,V,hs.fit,(gm.turn (o':= .loop {L with state:= .exhausted})).sub ⟨[(n+1,.loop {L with state:= .exhausted})],by
   simp only [CA];exact Ly⟩⟩
 refine ⟨n+1,[⟨.collected n,#[]⟩],(w.alloc (.deferred (some []))).alloc (.loop G),⟨.fn (.func gf) lb,#[.func (.yield (n+1)) #[] #[]]⟩,(w.alloc (.deferred (some []))).alloc (.loop G),gf,
  #[.func (.yield (n+1)) #[] #[]]++lb,(w.alloc (.deferred (some []))).alloc (.loop G),?_,?_,fun _ _=>trivial,?_,fun h=>by simp [Fx,Fence.wide]at h,?_⟩
 · rw [hn,U,B];exact run_enterLoop_outer _ _ _ _ _
 · simp only [resolve,FR a env l5,hg a]
   simp [Deferred.ofValue,ev,Act.eval]
 · simp [invoke,j3]
 · refine Xi ?_
   have hJ:=l8 (n+1) (fun pre s=>∃H1,I pre H1/\s=[(n+1,.loop G),(n,.deferred (some []))]++H1.flatten) (fun pre s=>∃H1,Ix pre H1/\s=[(n+1,.loop L2),(n,.deferred (some []))]++H1.flatten) (by rintro pre _ ⟨H1,J,rfl⟩;exact hA pre H1 _ _ J) (by rintro pre _ ⟨H1,J,rfl⟩;exact hX pre H1 J) ?_ _ ⟨H0,h0,rfl⟩
   · refine Calls.mono (hJ cx.u R _ (lw.parts fun f h J h2=>by simp only [CA,Ge,FG,h,J,h2];omega)) fun e w2 he=>?_
     rcases he with⟨v,H',rfl,⟨s',rfl,⟨ys,p8,O,af,rfl⟩|⟨pre,O,af,rfl⟩⟩,cO⟩|⟨_,_,_,h,_⟩
     · exact ek G .normal _ w2 (by rw [U,B];simp) (fun A W h=>by rw [U,B];exact h) (cO.parts fun f h J h2=>by simp only [CA,Ge,FG,h,J,h2];omega) (hk n ys O p8 af)
     · exact ek L2 .ret _ w2 (by rw [gF,B];simp) (fun A W h=>by rw [gF,B];exact wpIn_ret h) (cO.parts fun f h J h2=>by simp only [CA,Ge,FG,h,J,h2];omega) (p9 n pre O af)
     · exact h.elim
   · rintro pre x s vs Z ql ⟨H1,hI,rfl⟩ bn u R1 w1 qj K Kp hK
     have gy:Sat u ([(n+1,Obj.loop G)]::([(n,.deferred (some []))]::(H1++(Z::R1)))) w1:=qj.parts fun f h J h2=>by simp only [CA,Ge,FG,h,J,h2];omega
     have hl:=gy.get (n+1,Obj.loop G) B0;have hy:=run_yield (P:=P) (args:=vs) hl (by rw [U,B];exact q9 x vs Z bn)
     rw [hy];show RoundIn Fence.wide 0 P (n+1) _ _ _ _ w1 _
     rw [U,B];refine roundIn_of_wpIn (F:=Fence.wide) trivial ?_;have qb:({tmps:=(ps.zip vs).foldl (fun tmps x=>match x with|(t,a)=>tmps.setIfInBounds t a) (CF env a).tmps,defers:=[]}:Act)=CF ((ps.toList.zip vs.toList).reverse++env) {a with defers:=[]}:=by
      rw [Je,FH [] env a];have J:(ps.zip vs).foldl (fun tmps x=>match x with|(t,a)=>tmps.setIfInBounds t a) (CF env a).tmps=(CF (ps.toList.zip vs.toList).reverse (CF env a)).tmps:=by
       rw [<-Nv,<-oR,Array.toList_zip]
      rw [J,FH [] _ (CF env a)]
     have kv:Fit cx.N ((ps.toList.zip vs.toList).reverse++env):=by
      intro q hq;rcases B9.1 hq with hq|hq
      · have:=ee.1 hq
        have h2:=N0.1 pz q.1 (List.of_mem_zip this).1;simpa using h2
      · exact hs.fit q hq
     have ha:=cu (n+1) x vs Z u ([(n+1,Obj.loop G)]::([(n,.deferred (some []))]::(H1++(Z::R1)))) bn {a with defers:=[]} w1 ⟨hs.size,rfl,kv,gy⟩;rw [<-qb]at ha;refine wpIn_mono ha fun e a1 w2 he=>?_;cases e<;>first|exact he|skip
     obtain ⟨e9,Hn,hE,a2,bg,rfl⟩:=he;have gq:Sat u ([(n+1,Obj.loop G)]::([(n,.deferred (some []))]::(H1++(Z::(Hn++R1))))) w2:=bg.sat.parts fun f h J h2=>by simp only [CA,Ge,FG,h,J,h2];omega
     have pg:=gq.get (n+1,Obj.loop G) B0;refine ⟨_,run_beginRound pg (by rw [U,B]),?_⟩;have o9:Sat u (H1++(Z::(Hn++([(n+1,Obj.loop {G with state:= .busy})]::([(n,.deferred (some []))]::R1))))) (w2.putObj (n+1) (.loop {G with state:= .busy})):=
      (gq.turn (o':= .loop {G with state:= .busy})).parts fun f h J h2=>by simp only [CA,Ge,FG,h,J,h2];omega
     have hb:=ic (n+1) pre x u vs Z e9 Hn H1 ([(n,.deferred (some []))]::R1) _ ql hI bn hE a2 _ ⟨bg.size,bg.defers,bg.fit,o9⟩;refine wpIn_mono hb fun e a3 w3 j5=>?_;cases e<;>first|exact j5.elim|skip
     · obtain ⟨O,af,l9⟩:=j5
       have X:Sat u ([(n+1,Obj.loop {G with state:= .busy})]::([(n,.deferred (some []))]::(O++R1))) w3:=l9.parts fun f h J h2=>by simp only [CA,Ge,FG,h,J,h2];omega
       refine ⟨_,_,run_endRound (P:=P) none (X.get (n+1,Obj.loop {G with state:= .busy}) B0),?_⟩;refine hK _ _ _ ⟨[(n+1,.loop G),(n,.deferred (some []))]++O.flatten,V,.inl ⟨V,O,af,V⟩⟩ ?_;have ax:({{G with state:=LoopState.busy}with state:=if(none:Option Code).isNone=true then LoopState.ready else .done,pending:=none}:Loop)=G:=by rw [U,B];rfl
       rw [ax];exact (X.turn (o':= .loop G)).parts fun f h J h2=>by simp only [CA,Ge,FG,h,J,h2];omega
     · obtain ⟨O,af,l9⟩:=j5
       have X:Sat u ([(n+1,Obj.loop {G with state:= .busy})]::([(n,.deferred (some []))]::(O++R1))) w3:=l9.parts fun f h J h2=>by simp only [CA,Ge,FG,h,J,h2];omega
       refine ⟨_,_,run_endRound (P:=P) (some .ret) (X.get (n+1,Obj.loop {G with state:= .busy}) B0),?_⟩;refine hK _ _ _ ⟨[(n+1,.loop L2),(n,.deferred (some []))]++O.flatten,V,.inr ⟨V,O,af,V⟩⟩ ?_;have ax:({{G with state:=LoopState.busy}with state:=if(some Code.ret:Option Code).isNone=true then LoopState.ready else .done,pending:=some .ret}:Loop)=L2:=by rw [U,gF,B];rfl
       rw [ax];exact (X.turn (o':= .loop L2)).parts fun f h J h2=>by simp only [CA,Ge,FG,h,J,h2];omega
def yD{α:Type}(encs:α->Array Value)(x:α)(vs:Array Value)(sx:List AA):Prop:=vs=encs x/\sx=[]
theorem NV{P:Program}{l:Nat}{vs:Array Value}{s:List AA}{Q B:Value->Hp->Prop}(h:GD P l vs [[],s] Q)(W:∀v H',Q v H'->B v H'):GD P l vs [s] B:=fun u R w X K G U=>h u R w (X.parts fun f h I h2=>by simp only [CA,Ge,FG,h,I];omega) K G fun v H' Z J O=>U v H' Z (W v H' J) O
theorem Px{P:Program}{cx:Cx}{c:Code}{env:Env}{H:Hp}{α:Type}{u:World}{I Ix:List α->Hp->Prop}{xs:List α}{R:Hp}(h:At P cx c (Ig u I xs R) env H):At P cx c (KS u I Ix xs R) env H:=fun a w G=>wpIn_mono (h a w G) fun e _ _ B=>by cases e<;>first|exact B|exact B.elim
theorem xZ{α:Type}{P:Program}{U:FuncId}{W:Array Value}{I:Hp}{A:List AA->Prop}{G:α->Array Value}{xs:List α}(h:FC P U W I A G xs):WO P U W I [] (fun _=>A) (yD G) (fun p=>∃B,xs=p++B) (fun ys=>ys=xs) False:=fun l J Jx X Z hy s h0=>
 (h l J X (fun pre x B s hx hj=>NV (hy pre x s _ [] ⟨B,by rw [hx,Cd];rfl⟩ hj ⟨rfl,rfl⟩) fun v H' ⟨O,K,h2⟩=>h2.elim (fun h=>⟨O,h.1,K,h.2⟩) fun h=>(Z _ _ h.2).elim) s h0).mono (by rintro v H' ⟨O,K,h2⟩;exact ⟨O,K,.inl ⟨xs,rfl,h2⟩⟩)
theorem PW{α:Type}{A:List AA->Prop}{P:Program}{cx:Cx}{Q:Exit->Act->World->Prop}{env:Env}{H Z H0 R:Hp}{g:Operand}{ps:Array Tmp}{G O:Code}{gf:FuncId}{lb:Array Value}{J:α->Array Value}{xs:List α}
 (I:List α->Hp->Prop)(asg:α->Env)(hr:cx.r=none)(hg:∀a,ev a env g= .func (.func gf) #[] lb)(W:∀(args:Array Value) (w:World),(callFunc gf args).run P w= .ok (.enter gf args) w)
 (X:FC P gf lb Z A J xs)(hA:∀pre H1 c d,I pre H1->A ([c,d]++H1.flatten))(ax:∀x,(J x).size=ps.size)(af:(ps.toList.all fun t=>Nat.blt t cx.N)=true)(hp:Ew (Z++H0) H R)(h0:I [] H0)
 (K:∀(l:Nat) (x:α) (u:World) (H:Hp),At P ⟨cx.N,[],u,some l⟩ G (Exit.then (Is ⟨cx.N,[],u,some l⟩ (asg x++env) H) (fun _ _ _=>False)) ((ps.toList.zip (J x).toList).reverse++env) H)
 (U:∀(l:Nat) (pre:List α) (x:α) (B:List α) (u:World) (H1 R1:Hp),xs=pre++x::B->I pre H1->At P ⟨cx.N,[],u,some l⟩ O (Ig u I (pre++[x]) R1) (asg x++env) (H1++R1))
 (hk:∀(D:Nat) (H2:Hp),I xs H2->Nx ⟨cx.N,⟨.collected D,#[]⟩::cx.D,cx.u,none⟩ (Q .normal) env ([(D,.deferred (some []))]::(H2++R))):At P cx (.rangeFunc g ps G O) Q env H:=
 Mv (Hk:=[]) (A:=fun _=>A) (St:=False) (Adm:=fun p=>∃B,xs=p++B) (Full:=fun ys=>ys=xs) (Enc:=yD J) I (fun _ _=>False) (fun x _ _ e Hn=>e=asg x/\Hn=[]) hr hg W (xZ X) (fun _ _ h=>h) hA (fun x vs sx he=>by rw [he.1];exact ax x) af hp h0
  (fun l x vs sx u H he a w hs=>by
    obtain ⟨rfl,rfl⟩:=he;exact wpIn_mono (K l x u H a w hs) fun e _ _ h=>by cases e<;>first|exact h|exact ⟨_,[],⟨rfl,rfl⟩,h⟩)
  (fun l pre x u vs sx e Hn H1 R1 r0 ⟨B,hx⟩ hI he hE=>by
    obtain ⟨rfl,rfl⟩:=he;obtain ⟨rfl,rfl⟩:=hE;exact UA (Px (U l pre x B u H1 _ (by rw [hx,Cd];rfl) hI)) fun f h h1 h2=>by simp only [CA,Ge,FG,h,h1,h2];omega) (fun D ys H2 hf hI=>by rw [hf]at hI;exact hk D H2 hI) fun _ _ _ h=>h.elim
theorem Qx{α:Type}{P:Program}{cx:Cx}{Q:Exit->Act->World->Prop}{env:Env}{H Z H0 R:Hp}{g:Operand}{ps:Array Tmp}{B O:Code}{gf:FuncId}{lb:Array Value}{G:α->Array Value}{xs:List α}
 (I:List α->Hp->Prop)(asg:α->Env)(hr:cx.r=none)(hg:∀a,ev a env g= .func (.func gf) #[] lb)(W:∀(args:Array Value) (w:World),(callFunc gf args).run P w= .ok (.enter gf args) w)
 (X:UI P gf lb Z G xs)(ax:∀x,(G x).size=ps.size)(af:(ps.toList.all fun t=>Nat.blt t cx.N)=true)(hp:Ew (Z++H0) H R)(h0:I [] H0)
 (K:∀(l:Nat) (x:α) (u:World) (H:Hp),At P ⟨cx.N,[],u,some l⟩ B (Exit.then (Is ⟨cx.N,[],u,some l⟩ (asg x++env) H) (fun _ _ _=>False)) ((ps.toList.zip (G x).toList).reverse++env) H)
 (U:∀(l:Nat) (pre:List α) (x:α) (post:List α) (u:World) (H1 R1:Hp),xs=pre++x::post->I pre H1->At P ⟨cx.N,[],u,some l⟩ O (Ig u I (pre++[x]) R1) (asg x++env) (H1++R1))
 (hk:∀(D:Nat) (H2:Hp),I xs H2->Nx ⟨cx.N,⟨.collected D,#[]⟩::cx.D,cx.u,none⟩ (Q .normal) env ([(D,.deferred (some []))]::(H2++R))):At P cx (.rangeFunc g ps B O) Q env H:=
 PW (A:=fun _=>True) I asg hr hg W (fun l J _=>X l J) (fun _ _ _ _ _=>trivial) ax af hp h0 K U hk
def Ji(l:List Nat):List Deferred:=l.map fun D=>⟨.collected D,#[]⟩
theorem DL{P:Program}{f:FuncId}{fn:Func}{c:Code}{args:Array Value}{N:Nat}{H:Hp}{Q:Value->Hp->Prop}{Pn:List PanicEntry->Hp->Prop}(W:P.funcs[f]?=some fn)(U:fn.body=some c)(O:fn.ntmps=N)(X:Nat.ble args.size N=true)
 (h:∀u R,At P ⟨N,[],u,none⟩ c (bodyPostM Fence.wide 0 P fn (GX u R Q Pn)) (FZ 0 args.toList) (H++R)):LH P f args H Q Pn:=fun u R w G=>by
 have I:args.size<=N:=cU X;refine (callsIn_wide (n:=0)).1 (callsIn_of_wp_marks (F:=Fence.wide) W U trivial ?_);have B:CF (FZ 0 args.toList) {tmps:=args++Array.replicate (fn.ntmps -args.size) undef,defers:=[]}={tmps:=args++Array.replicate (fn.ntmps -args.size) undef,defers:=[]}:=by
  refine K9 _ fun p K=>?_;obtain ⟨_,h2⟩:=FM _ _ _ K;simp only [Sh,HH]at h2;have J:p.1<args.size:=by
   rcases E0 p.1 args.size with h|h
   · exact h
   · simp [I0 h]at h2
  rw [eK J];exact h2
 rw [<-B];refine h u R _ w ⟨by simp [O];omega,V,fun p K=>?_,G⟩;obtain ⟨_,h2⟩:=FM _ _ _ K;simp only [Sh,HH]at h2;rcases E0 p.1 args.size with h|h
 · exact l3 h I
 · simp [I0 h]at h2
section
variable{P:Program}{N:Nat}{u:World}{fn:Func}{R H H':Hp}{Q:Value->Hp->Prop}{Pn:List PanicEntry->Hp->Prop}{env:Env}{e:Exit}
theorem YK{D:Nat}{w:World}(h:w.heap[D]?=some (.deferred (some []))):(Instr.takeDeferred D).run P w= .ok [] (w.putObj D (.deferred none)):=by
 simp [Instr.takeDeferred,getObj,setObj,Sem.run,h];rfl
def Res(P:Program)(fn:Func)(env:Env)(v:Value):Prop:=∀(a:Act) (w:World),Fit a.tmps.size env->(results fn (CF env a).tmps).run P w= .ok v w
theorem zQ(B:fn.results=#[]):Res P fn env (.tuple #[]):=fun a w _=>Oh B w _
theorem dM{t:Nat}{v:Value}(G:fn.results=#[.tmp t])(hv:∀a,G8 a env t=v):Res P fn env v:=fun a w B=>by rw [QZ G,Ca a env B,hv a]
theorem qC{t s:Nat}{v x:Value}(G:fn.results=#[.tmp t,.tmp s])(hv:∀a,G8 a env t=v)(hx:∀a,G8 a env s=x):Res P fn env (.tuple #[v,x]):=fun a w B=>by rw [QY G,Ca a env B,Ca a env B,hv a,hx a]
theorem Ow{v:Value}(J:Fa e=true)(U:Res P fn env v)(O:Q v H')(K:Sub (H'++R) H:=by repeat(first|exact Sub.refl _|exact Sub.nil _|(apply Sub.cons;(focus (repeat(first|exact One.here _ _|apply One.there))))|refine Sub.drop _ ?_)):Nx ⟨N,[],u,none⟩ (bodyPostM Fence.wide 0 P fn (GX u R Q Pn) e) env H:=fun a w G=>by
 have I:(CF env a).defers=[]:=by rw [Fj];exact G.defers
 have B:LeavesInM Fence.wide 0 P fn (CF env a).tmps (GX u R Q Pn) (CF env a).defers .returning w:=by
  rw [I];exact ⟨v,U a w (by rw [G.size];exact G.fit),.inl ⟨v,H',rfl,O,G.sat.sub K.amid⟩⟩
 cases e<;>first|exact B|simp [Fa]at J
theorem GN{D:Nat}{v:Value}{H0:Hp}(W:Fa e=true)(hr:Res P fn env v)(U:One [(D,.deferred (some []))] H H0)(Z:Q v H')(X:Sub (H'++R) H0:=by repeat(first|exact Sub.refl _|exact Sub.nil _|(apply Sub.cons;(focus (repeat(first|exact One.here _ _|apply One.there))))|refine Sub.drop _ ?_)):Nx ⟨N,[⟨.collected D,#[]⟩],u,none⟩ (bodyPostM Fence.wide 0 P fn (GX u R Q Pn) e) env H:=fun a w K=>by
 have O:(CF env a).defers=[⟨.collected D,#[]⟩]:=by rw [Fj];exact K.defers
 have B:Sat u ([(D,.deferred (some []))]::H0) w:=K.sat.perm (by simpa using U.perm);have J:=B.get (D,.deferred (some [])) (by simp)
 have G:Sat u (H'++R) (w.putObj D (.deferred none)):=((B.turn (o':= .deferred none)).sub ⟨[(D,.deferred none)],by simp only [CA];exact Ly⟩).sub X.amid;have I:LeavesInM Fence.wide 0 P fn (CF env a).tmps (GX u R Q Pn) (CF env a).defers .returning w:=by
  rw [O];refine ⟨by simp,.inl ⟨D,_,V,YK J,?_⟩⟩;exact ⟨v,hr a _ (by rw [K.size];exact K.fit),.inl ⟨v,H',rfl,Z,G⟩⟩
 cases e<;>first|exact I|simp [Fa]at W
end
def NU(sz:Nat)(v:Value)(k:Nat)(ys:List Value)(s:List AA):Prop:=
 ys.length=k*sz/\((k=0/\∃b c,v= .slice b 0 c)\/∃g o cap cur T z,v= .slice (some ⟨g,o,none⟩) k cap/\s=[(g,.cells cur T z)]/\C8 cur o ys)
theorem E8{sz:Nat}{e:TypeId}{v:Value}{k:Nat}{xs:List Value}{s:List AA}(h:Bc sz e v k xs s)(J:0<k):∃g cap cur z,v=I6 g k cap/\s=[(g,.cells cur e z)]/\k<=cap/\C8 cur 0 xs:=by
 obtain ⟨I,⟨_,h0,_⟩|⟨g,cap,cur,z,rfl,rfl,B,_,_,G,_⟩⟩:=h;· omega
 · refine ⟨g,cap,cur,z,rfl,rfl,B,?_⟩
   unfold C8;rw [Pr,I];exact G
theorem iW{sz:Nat}{e:TypeId}{v:Value}{k:Nat}{xs:List Value}{s:List AA}(h:Bc sz e v k xs s):NU sz v k xs s:=by
 refine ⟨h.1,?_⟩;rcases PB k with h0|h0
 · obtain ⟨b,c,rfl⟩:=h.form
   subst h0;exact .inl ⟨V,b,c,V⟩
 · obtain ⟨g,cap,cur,z,rfl,rfl,_,B⟩:=E8 h h0
   exact .inr ⟨g,0,cap,cur,e,z,V,V,B⟩
theorem O7{cur:Array Value}{o a n:Nat}{ys:List Value}(h:C8 cur o ys)(hn:a+n<=ys.length):C8 cur (o+a) ((ys.drop a).take n):=by
 unfold C8 at*;have B:((ys.drop a).take n).length=n:=by rw [C3,C2];omega
 rw [B,<-ZD,<-h,eh,To];congr 1;have:=congrArg List.length h
 rw [C3]at this;omega
theorem K3{sz:Nat}{e:TypeId}{b:Option Addr}{n c:Nat}{xs:List Value}{s:List AA}(h:Bc sz e (.slice b n c) n xs s)(k d:Nat)(G:k<=n):NU sz (.slice b k d) k (xs.take (k*sz)) s:=by
 have I:k*sz<=n*sz:=TO sz G;refine ⟨by rw [C3,h.1];omega,?_⟩;rcases PB k with h0|h0
 · subst h0;exact .inl ⟨rfl,b,d,rfl⟩
 · obtain ⟨g,cap,cur,z,hv,rfl,_,B⟩:=E8 h A1
   injection hv with hv1 hv2 hv3
   subst hv1;have h2:=O7 B (a:=0) (n:=k*sz) (by rw [h.1];omega)
   rw [Pr]at h2;exact .inr ⟨g,0,d,cur,e,z,V,V,h2⟩
theorem K4{sz:Nat}{e:TypeId}{b:Option Addr}{n c:Nat}{xs:List Value}{s:List AA}(h:Bc sz e (.slice b n c) n xs s)(k m d:Nat)(G:k+m=n):NU sz (.slice (EY b k c sz) m d) m (xs.drop (k*sz)) s:=by
 have J:n*sz=k*sz+m*sz:=by rw [<-G,Ks]
 refine ⟨by rw [C2,h.1];omega,?_⟩;rcases PB m with h0|h0
 · subst h0;exact .inl ⟨rfl,_,d,rfl⟩
 · obtain ⟨g,cap,cur,z,hv,rfl,I,B⟩:=E8 h A1
   injection hv with hv1 hv2 hv3
   subst hv1 hv3;have h2:=O7 B (a:=k*sz) (n:=m*sz) (by rw [h.1];omega)
   rw [I2 (by rw [C2,h.1];omega)]at h2;refine .inr ⟨g,0+k*sz,d,cur,e,z,?_,V,h2⟩;unfold EY;rw [AK A1,N1,CY]
theorem YB{sz:Nat}{b:Option Addr}{n c:Nat}{xs:List Value}{s:List AA}(h:NU sz (.slice b n c) n xs s)(k m d:Nat)(I:k+m=n)(hc:n<=c):NU sz (.slice (EY b k c sz) m d) m (xs.drop (k*sz)) s:=by
 have J:n*sz=k*sz+m*sz:=by rw [<-I,Ks]
 refine ⟨by rw [C2,h.1];omega,?_⟩;rcases PB m with h0|h0
 · subst h0;exact .inl ⟨rfl,_,d,rfl⟩
 · obtain ⟨G,⟨K,_⟩|⟨g,o,cap,cur,T,z,hv,rfl,B⟩⟩:=h
   · omega
   · injection hv with hv1 hv2 hv3
     subst hv1 hv3;have h2:=O7 B (a:=k*sz) (n:=m*sz) (by rw [G];omega)
     rw [I2 (by rw [C2,G];omega)]at h2;refine .inr ⟨g,o+k*sz,d,cur,T,z,?_,V,h2⟩;unfold EY;rw [AK A1,N1,CY]
section
variable{P:Program}{u:World}{env:Env}{H R R2:Hp}{d:Option Nat}{ty:TypeId}{pos:String}{af:Array Edge}{g:Option (Nat×Bool)}
theorem BR{x y:Operand}{t e:TypeId}{i:TypeInfo}{z:Value}{by_ sz n k:Nat}{v v2:Value}{xs ys:List Value}{s s2:List AA}
 (ht:P.underlying t=some (.slice e))(hi:P.info? e=some i)(I:i.size=sz)(cu:i.bytes=by_)(ek:i.zero=some z)(d9:z.cells.size=sz)
 (hx:∀a,ev a env x=v)(B:Bc sz e v n xs s)(hy:∀a,ev a env y=v2)(ax:NU sz v2 k ys s2)(O:One s H R)(bg:One s2 R R2)(h1:∀u∈ys,u.oneCell'=true)
 (bn:n+k<=maxLen)(hb:(n+k)*by_<=140737488355328):
 OpW P u ⟨d,.call ⟨.builtin .append,#[x,y],#[t,t]⟩,ty,pos,af,g⟩ env H (fun v' H1=>∃s',Bc sz e v' (n+k) (xs++ys) s'/\H1=s'::R) (fun _ _=>False):=by
 obtain ⟨hl,⟨rfl,b2,c2,rfl⟩|⟨gb,o,cap,cur,T,zz,rfl,rfl,cO⟩⟩:=ax
 · have Z:ys=[]:=Lw A1
   subst Z;obtain ⟨b,c,rfl⟩:=B.form;have J:n<=c:=by
    obtain ⟨_,⟨hv,h0,_⟩|⟨_,_,_,_,hv,_,h2,_⟩⟩:=B;· omega
    · injection hv with _ _ hv3;omega
   intro a w U K Kp hK _;have W:Sat u (s::R) w:=U.perm (by simpa using O.perm)
   have G:(Builtin.firstCells i.size 0 (.slice b2 0 c2)).run P w= .ok #[] w:=by
    cases b2 with
    |none=>simp [Builtin.firstCells]
    |some ad=>simp [Builtin.firstCells,loadCells,loadCellsFrom]
   have hr:(Builtin.append_ #[t,t] ty #[.slice b n c,.slice b2 0 c2]).run P w= .ok (.slice b n c) w:=by
    rw [I]at G;cases b with
    |none=>simp [Builtin.append_,run_underlying ht,Go.sizeOf,typeInfo,hi,I,Builtin.lenOf,J,G]
    |some ad=>simp [Builtin.append_,run_underlying ht,Go.sizeOf,typeInfo,hi,I,Builtin.lenOf,J,G,storeCells]
   have X:(execOp (ev a env) ⟨d,.call ⟨.builtin .append,#[x,y],#[t,t]⟩,ty,pos,af,g⟩).run P w= .ok (.value (.slice b n c)) w:=by
    simp only [Dz,resolve,invoke,builtin,RT,DQ,J1,hx a,hy a,Sem.run_bind,Sem.run_pure,Result.andThen_ok,hr]
   rw [X];exact hK _ _ _ ⟨s,by rw [DB];exact B,rfl⟩ W
 · rcases PB k with h0|h0
   · subst h0
     have Z:ys=[]:=Lw A1;subst Z;obtain ⟨b,c,rfl⟩:=B.form;have J:n<=c:=by
      obtain ⟨_,⟨hv,h0,_⟩|⟨_,_,_,_,hv,_,h2,_⟩⟩:=B;· omega
      · injection hv with _ _ hv3;omega
     intro a w U K Kp hK _;have W:Sat u (s::R) w:=U.perm (by simpa using O.perm)
     have G:(Builtin.firstCells i.size 0 (.slice (some ⟨gb,o,none⟩) 0 cap)).run P w= .ok #[] w:=by simp [Builtin.firstCells,loadCells,loadCellsFrom]
     have hr:(Builtin.append_ #[t,t] ty #[.slice b n c,.slice (some ⟨gb,o,none⟩) 0 cap]).run P w= .ok (.slice b n c) w:=by
      rw [I]at G;cases b with
      |none=>simp [Builtin.append_,run_underlying ht,Go.sizeOf,typeInfo,hi,I,Builtin.lenOf,J,G]
      |some ad=>simp [Builtin.append_,run_underlying ht,Go.sizeOf,typeInfo,hi,I,Builtin.lenOf,J,G,storeCells]
     have X:(execOp (ev a env) ⟨d,.call ⟨.builtin .append,#[x,y],#[t,t]⟩,ty,pos,af,g⟩).run P w= .ok (.value (.slice b n c)) w:=by
      simp only [Dz,resolve,invoke,builtin,RT,DQ,J1,hx a,hy a,Sem.run_bind,Sem.run_pure,Result.andThen_ok,hr]
     rw [X];exact hK _ _ _ ⟨s,by rw [DB];exact B,rfl⟩ W
   · exact E5 ht hi I cu ek d9 hx B hy O bg.has cO hl h1 h0 bn hb
end
theorem One.memF{s:List AA}{H R:Hp}(h:One s H R):∀p∈s,p∈H.flatten:=fun p B=>by
 have:=h.perm.mem_iff (a:=p);exact this.2 (Dg _ B)
section
variable{P:Program}{u:World}{env:Env}{H R R2:Hp}{d:Option Nat}{ty:TypeId}{pos:String}{af:Array Edge}{g:Option (Nat×Bool)}
theorem R3{x y:Operand}{t e:TypeId}{i:TypeInfo}{z:Value}{by_ sz n k:Nat}{b:Option Addr}{v2:Value}{xs ys:List Value}{s s2:List AA}
 (ht:P.underlying t=some (.slice e))(hi:P.info? e=some i)(gB:i.size=sz)(cO:i.bytes=by_)(j5:i.zero=some z)(j3:z.cells.size=sz)
 (hx:∀a,ev a env x= .slice b n n)(U:NU sz (.slice b n n) n xs s)(hy:∀a,ev a env y=v2)(bg:NU sz v2 k ys s2)(gy:One s H R)(gF:One s2 H R2)(hk:0<k)
 (kv:n+k<=maxLen)(hb:(n+k)*by_<=140737488355328):
 OpW P u ⟨d,.call ⟨.builtin .append,#[x,y],#[t,t]⟩,ty,pos,af,g⟩ env H (fun v' H1=>∃s',Bc sz e v' (n+k) (xs++ys) s'/\H1=s'::H) (fun _ _=>False):=by
 obtain ⟨X,⟨h0,_⟩|⟨g2,o2,cap2,cu,T2,z2,rfl,rfl,ek⟩⟩:=bg;· omega
 intro a w O K Kp hK _;have gq:=H6 (O.get _ (gF.memF (g2,.cells cu T2 z2) B0)) ek
 have gm:ys.length=k*i.size:=by rw [gB];exact X
 have lw:=mL;have G:∀{v':Value} {w':World},(Builtin.append_ #[t,t] ty #[.slice b n n,.slice (some ⟨g2,o2,none⟩) k cap2]).run P w= .ok v' w'->(execOp (ev a env) ⟨d,.call ⟨.builtin .append,#[x,y],#[t,t]⟩,ty,pos,af,g⟩).run P w= .ok (.value v') w':=fun h=>by
  simp only [Dz,resolve,invoke,builtin,RT,DQ,J1,hx a,hy a,Sem.run_bind,Sem.run_pure,Result.andThen_ok,h]
 have I:∀(m:Nat) (cells:Array Value) (w1:World),w1={w with drawn:=m,heap:=w.heap.push (.cells cells e)}->Sat u ([(w.heap.size,.cells cells e (0,0))]::H) w1:=fun m cells w1 h=>by
  subst h;exact (O.drawn m).alloc _
 have B:(xs++ys).length=(n+k)*sz:=by rw [B7,U.1,X,Ks]
 have split:∀m p:Nat,p<=m->p*sz+(m -p)*sz=m*sz:=fun m p h=>by rw [<-Ks];congr 1;omega
 have Z:∀(ad:Addr),b=some ad->(∀j v,xs[j]?=some v->w.cell? (ad.add j)=some v)->Uu P K Kp ((execOp (ev a env) ⟨d,.call ⟨.builtin .append,#[x,y],#[t,t]⟩,ty,pos,af,g⟩).run P w):=fun ad l5 ax=>by
  subst l5;have hr:=run_append_grow (P:=P) w t ty e i z ht hi j5 ad n n xs (by rw [gB];exact U.1) ax ⟨g2,o2,none⟩ k cap2 ys gm gq A1 A1 (growslice_fits A1 (by rw [cO];exact hb))
  rw [G hr];have W:=grownCap_ge w (n+k) n e
  have J:grownCap w (n+k) n e<=maxLen:=grownCap_le_maxLen w (n+k) n e kv;refine hK _ _ _ ⟨[(w.heap.size,.cells (xs.toArray++ys.toArray++Builtin.zeroCells z.cells (grownCap w (n+k) n e -(n+k))) e (0,0))],⟨B,.inr ⟨w.heap.size,grownCap w (n+k) n e,_,(0,0),V,V,W,J,?_,?_,BB _⟩⟩,V⟩ (I _ _ _ V)
  · simp only [hY,size_zeroCells,j3,Gk]
    have h1:=split _ _ W;rw [B7]at B;rw [B];exact h1
  · simp only [cE]
    exact HM (by simpa using B)
 obtain ⟨hl,⟨h0,b9,c9,l9⟩|⟨g1,o1,l8,bn,T1,z1,hv,rfl,d9⟩⟩:=U
 · subst h0
   have ic:xs=[]:=Lw A1;cases b with
   |some ad=>exact Z ad rfl (fun j v hj=>by rw [ic]at hj;cases hj)
   |none=>
    subst ic;have hr:=run_append_nil (P:=P) w t ty e i z ht hi j5 ⟨g2,o2,none⟩ k cap2 ys gm gq hk A1 (by rw [cO];exact MY (by simpa using hb) (by decide:140737488355328<=281474976710656))
    rw [G hr];have W:=grownCap_ge w k 0 e
    have J:grownCap w k 0 e<=maxLen:=grownCap_le_maxLen w k 0 e A1;refine hK _ _ _ ⟨[(w.heap.size,.cells (ys.toArray++Builtin.zeroCells z.cells (grownCap w k 0 e -k)) e (0,0))],⟨B,.inr ⟨w.heap.size,grownCap w k 0 e,_,(0,0),by simp,V,by omega,J,?_,?_,BB _⟩⟩,V⟩ (I _ _ _ V)
    · simp only [hY,size_zeroCells,j3,Gk,X]
      exact split _ _ W
    · simp only [cE,LN,D0]
      exact HM X
 · injection hv with hv1 hv2 hv3
   refine Z ⟨g1,o1,none⟩ hv1 fun j v hj=>?_;have h9:=H6 (O.get _ (gy.memF (g1,.cells bn T1 z1) B0)) d9
   exact h9 j v hj
theorem Oo{t e:TypeId}{x hi B:Operand}{b:Option Addr}{n cap h s:Nat}{I mk:IntKind}(O:P.underlying t=some (.slice e))(K:∀w:World,(Go.sizeOf e).run P w= .ok s w)(hx:∀a,ev a env x= .slice b n cap)(G:∀a,ev a env hi= .int I (h:Int))(J:∀a,ev a env B= .int mk (h:Int))(h2:h<=cap):
 OpP P ⟨d,.slice t x none (some hi) (some B),ty,pos,af,g⟩ env [] (.slice b h h):=fun a w _=>by
 cases b<;>simp [KV,hx a,G a,J a,Instr.sliceAt,Instr.slice,run_underlying O,Instr.sliceBounds,Instr.sliceBound,asIntOf,h2,K,Addr.add]
theorem IW(sz:Nat)(e:TypeId)(g k:Nat)(xs:List Value)(h:xs.length=k*sz)(B:k<=maxLen):Bc sz e (I6 g k k) k xs [(g,.cells xs.toArray e (0,0))]:=
 ⟨h,.inr ⟨g,k,xs.toArray,(0,0),rfl,rfl,CM _,B,by simp [h],I2 (by simp [h]),BB _⟩⟩
end
end Gw
namespace Gw
open Go Go.RowKit
open Go.ChangeMaps (setBlock)
section
variable{α:Type}{κ:α->Value}{D:α->Prop}{P:Program}
structure Co(κ:α->Value)(es:Array MapEntry)(clock:Nat)(l:List (α×Value)):Prop where
 pairs:es.toList.map (fun e=>(e.key,e.val))=l.map (fun p=>(κ p.1,p.2))
 born:(es.toList.map (·.born)).Nodup
 old:∀e∈es.toList,e.born<clock
 keys:(l.map (·.1)).Nodup
structure Fv(P:Program)(kt:TypeId)(κ:α->Value)(D:α->Prop):Prop where
 check:∀(w:World) (em:Bool) (a:α),D a->(Instr.checkKey em 10000 kt (κ a)).run P w= .ok () w
 find:∀(w:World) (k:α),D k->∀es:List MapEntry,(∀e∈es,∃a,D a/\e.key=κ a)->((Instr.findKey kt (κ k) es).run P w= .ok none w/\∀e∈es,e.key≠κ k)\/∃j e,(Instr.findKey kt (κ k) es).run P w= .ok (some (j,e.val)) w/\es[j]?=some e/\e.key=κ k
 stays:∀(w:World) (a:α),D a->(Instr.keyThatStays (κ a) (κ a)).run P w= .ok (κ a) w
 inj:∀a b,κ a=κ b->a=b
theorem Fv.ofLaw{kt:TypeId}(law:WideMaps.KeyLaw P kt)(key:∀a,D a->∃l,keyOf P kt (κ a)=some l)(inj:∀a b,κ a=κ b->a=b):Fv P kt κ D where
 check:=fun w em a B=>by obtain ⟨l,G⟩:=key a B;exact law.check w em G
 find:=fun w k J es I=>by
  obtain ⟨l,G⟩:=key k J;exact law.find w G es fun e h=>by obtain ⟨a,B,e1⟩:=I e h;rw [e1];exact key a B
 stays:=fun w a B=>by obtain ⟨l,G⟩:=key a B;exact law.stays w G
 inj:=inj
theorem Fv.basic [DecidableEq α]{kt:TypeId}{K:TypeDesc}(Z:P.underlying kt=some K)(U:∀a b,Instr.sameNow K (κ a) (κ b)=some (decide (a=b)))(hc:∀(w:World) (em:Bool) (a:α),(Instr.checkKey em 10000 kt (κ a)).run P w= .ok () w)
 (W:∀(w:World) (a:α),(Instr.keyThatStays (κ a) (κ a)).run P w= .ok (κ a) w)(inj:∀a b,κ a=κ b->a=b):Fv P kt κ D where
 check:=fun w em a _=>hc w em a
 find:=fun w k _ es O=>by
  have h:∀(es:List MapEntry) (i:Nat),(∀e∈es,∃a,D a/\e.key=κ a)->(Instr.findNow K (κ k) es i=some none/\∀e∈es,e.key≠κ k)\/∃j e,Instr.findNow K (κ k) es i=some (some (i+j,e.val))/\es[j]?=some e/\e.key=κ k:=by
   intro es;induction es with
   |nil=>intro i _;exact .inl ⟨rfl,by simp⟩
   |cons e es ih=>
    intro i O;obtain ⟨a,_,I⟩:=O e B0;by_cases J:k=a
    · refine .inr ⟨0,e,?_,rfl,by rw [I,J]⟩
      simp only [Instr.findNow,I,U,J,decide_true,Pu]
    · rcases ih (i+1) (fun e h=>O e (EV _ h))with⟨G,h2⟩|⟨j,e',G,h2,h3⟩
      · refine .inl ⟨?_,fun e' h=>?_⟩
        · simp only [Instr.findNow,I,U,J,X1];exact G
        · rcases D4.1 h with rfl|h
          · rw [I];exact fun h=>J (inj _ _ h.symm)
          · exact h2 e' h
      · refine .inr ⟨j+1,e',?_,h2,h3⟩
        simp only [Instr.findNow,I,U,J,X1];rw [G,show i+1+j=i+(j+1) by omega]
  have B:∀r,Instr.findNow K (κ k) es 0=some r->(Instr.findKey kt (κ k) es).run P w= .ok r w:=fun r X=>by
   simp only [Instr.findKey,Sem.run_bind,run_underlying Z,Result.andThen,X];rfl
  rcases h es 0 O with⟨G,h2⟩|⟨j,e,G,h2,h3⟩
  · exact .inl ⟨B _ G,h2⟩
  · exact .inr ⟨j,e,B _ (by rw [G,D0]),h2,h3⟩
 stays:=fun w a _=>W w a
 inj:=inj
theorem ng{kt:TypeId}(B:P.underlying kt=some (.int .i64))(w:World)(k:Int)(b:Bool)(n:Nat):(Instr.checkKey b (n+1) kt (I4 k)).run P w= .ok () w:=by
 simp only [Instr.checkKey,Sem.run_bind,run_underlying B,Result.andThen];rfl
theorem nZ{kt:TypeId}(B:P.underlying kt=some .string)(w:World)(k:ByteArray)(b:Bool)(n:Nat):(Instr.checkKey b (n+1) kt (.string k)).run P w= .ok () w:=by
 simp only [Instr.checkKey,Sem.run_bind,run_underlying B,Result.andThen];rfl
theorem ul(n:Nat)(k:Int):Instr.sameBits (n+1) (I4 k) (I4 k)=true:=by simp [Instr.sameBits]
theorem uk(n:Nat)(k:ByteArray):Instr.sameBits (n+1) (.string k) (.string k)=true:=by
 simp only [Instr.sameBits];cases k with|mk k=>show(k==k)=true;simp
theorem YC{v:Value}(h:Instr.sameBits 10000 v v=true)(w:World):(Instr.keyThatStays v v).run P w= .ok v w:=by
 unfold Instr.keyThatStays;rw [AM h];rfl
theorem Cc{kt:TypeId}{D:Int->Prop}(B:P.underlying kt=some (.int .i64)):Fv P kt (fun k:Int=>Value.int .i64 k) D:=
 Fv.basic B (fun a b=>by simp only [Instr.sameNow];congr 1) (fun w em a=>ng B w a em 9999) (fun w a=>YC (ul 9999 a) w) (fun a b h=>by injection h)
theorem Dk{kt:TypeId}{D:ByteArray->Prop}(B:P.underlying kt=some .string):Fv P kt (fun k:ByteArray=>Value.string k) D:=
 Fv.basic B (fun a b=>by
  simp only [Instr.sameNow];congr 1;cases a with|mk a=>cases b with|mk b=>
  show(a==b)=_;simp only [ByteArray.mk.injEq];exact ij.2 B0) (fun w em a=>nZ B w a em 9999) (fun w a=>YC (uk 9999 a) w) (fun a b h=>by injection h)
theorem EU(κ:α->Value):Co κ #[] 0 []:=⟨rfl,by simp,by simp,by simp⟩
variable{es:Array MapEntry}{clock:Nat}{l:List (α×Value)}{kt:TypeId}
theorem Co.size(h:Co κ es clock l):es.size=l.length:=by
 have:=congrArg List.length h.pairs;simpa using this
theorem Co.at_(h:Co κ es clock l){j:Nat}{e:MapEntry}(G:es.toList[j]?=some e):∃p,l[j]?=some p/\e.key=κ p.1/\e.val=p.2:=by
 have B:(es.toList.map (fun e=>(e.key,e.val)))[j]?=some (e.key,e.val):=by rw [DO,G];rfl
 rw [h.pairs,DO]at B;cases hp:l[j]?with
 |none=>rw [hp]at B;cases B
 |some p=>
  rw [hp]at B;injection B with B
  injection B with h2 h3
  exact ⟨p,V,h2.symm,h3.symm⟩
theorem Co.of(h:Co κ es clock l){j:Nat}{p:α×Value}(G:l[j]?=some p):∃e,es.toList[j]?=some e/\e.key=κ p.1/\e.val=p.2:=by
 have B:(l.map (fun p=>(κ p.1,p.2)))[j]?=some (κ p.1,p.2):=by rw [DO,G];rfl
 rw [<-h.pairs,DO]at B;cases he:es.toList[j]?with
 |none=>rw [he]at B;cases B
 |some e=>
  rw [he]at B;injection B with B
  injection B with h2 h3
  exact ⟨e,V,h2,h3⟩
theorem I9(W:Fv P kt κ D)(U:Co κ es clock l)(Z:∀p∈l,D p.1)(w:World)(k:α)(X:D k):
 ((Instr.findKey kt (κ k) es.toList).run P w= .ok none w/\∀p∈l,p.1≠k)\/∃j v,(Instr.findKey kt (κ k) es.toList).run P w= .ok (some (j,v)) w/\l[j]?=some (k,v):=by
 rcases W.find w k X es.toList (fun e K=>by
  obtain ⟨j,O⟩:=GW K;obtain ⟨p,G,B,_⟩:=U.at_ O;exact ⟨p.1,Z p (DE G),B⟩)with⟨B,h2⟩|⟨j,e,B,h2,h3⟩
 · refine .inl ⟨B,fun p G K=>?_⟩
   obtain ⟨j,O⟩:=GW G;obtain ⟨e,I,J,_⟩:=U.of O;exact h2 e (DE I) (by rw [J,K])
 · obtain ⟨p,G,I,J⟩:=U.at_ h2
   refine .inr ⟨j,e.val,B,?_⟩;rw [G,J,<-W.inj p.1 k (by rw [<-I,h3])]
def EI [DecidableEq α](k:α)(l:List (α×Value)):Option Value:=(l.find? (fun p=>decide (p.1=k))).map (·.2)
theorem DW [DecidableEq α]{k:α}(h:∀p∈l,p.1≠k):EI k l=none:=by
 unfold EI;rw [l4.2 (fun p B=>by simpa using h p B)];rfl
theorem Cy [DecidableEq α]{k:α}{v:Value}:∀{l:List (α×Value)},(l.map (·.1)).Nodup->(k,v)∈l->EI k l=some v
 |p::l,hn,h=>by
  rw [DQ,Hj]at hn;unfold EI;rcases D4.1 h with rfl|h
  · simp
  · rw [List.find?_cons_of_neg (by simp;rintro rfl;exact hn.1 (Bm.2 ⟨_,h,rfl⟩))]
    exact Cy hn.2 h
theorem Vi [DecidableEq α]{k:α}{v:Value}{l:List (α×Value)}(h:EI k l=some v):(k,v)∈l:=by
 unfold EI at h;cases hf:l.find? (fun p=>decide (p.1=k))with
 |none=>rw [hf]at h;cases h
 |some p=>
  rw [hf]at h;injection h with h
  have B:=lj hf;have h2:=kc hf
  simp only [Fl]at B;rw [<-B,<-h];exact h2
section
variable{env:Env}{d:Option Nat}{ty:TypeId}{pos:String}{af:Array Edge}{g:Option (Nat×Bool)}{t et:TypeId}{r:Nat}{m x y:Operand}{k:α}{v z:Value}
theorem F4(B:Fv P kt κ D)(G:D k)(w:World)(em:Bool):(Instr.checkKey em 10000 kt (κ k)).run P w= .ok () w:=by
 exact B.check w em k G
theorem qm [DecidableEq α](G:Fv P kt κ D)(O:P.underlying t=some (.map kt et))(hz:∀w:World,(zeroValue et).run P w= .ok z w)(K:Co κ es clock l)(U:∀p∈l,D p.1)(I:D k)(hx:∀a,ev a env m= .map (some r))(hy:∀a,ev a env x=κ k):
 OpP P ⟨d,.lookup t m x true,ty,pos,af,g⟩ env [(r,.map es clock)] (.tuple #[(EI k l).getD z,.bool (EI k l).isSome]):=fun a w W=>by
 have J:=W (r,.map es clock) B0;show((do pure (Next.value (<-Instr.lookup t (ev a env m) (ev a env x) true))):Sem Next).run P w=_
 rw [hx a,hy a];rcases I9 G K U w k I with⟨B,h2⟩|⟨j,v,B,h2⟩
 · rw [DW h2]
   simp only [Instr.lookup,Sem.run_bind,run_underlying O,Result.andThen,MapKept.run_getObj_map J,F4 G I,Sem.run_pure,B,hz];rfl
 · rw [Cy K.keys (DE h2)]
   simp only [Instr.lookup,Sem.run_bind,run_underlying O,Result.andThen,MapKept.run_getObj_map J,F4 G I,Sem.run_pure,B];rfl
theorem EB [DecidableEq α]{v0:Value}{b0:Bool}(B:Fv P kt κ D)(K:P.underlying t=some (.map kt et))(hz:∀w:World,(zeroValue et).run P w= .ok z w)(J:Co κ es clock l)(I:∀p∈l,D p.1)(G:D k)(hv:(EI k l).getD z=v0/\(EI k l).isSome=b0)(hx:∀a,ev a env m= .map (some r))(hy:∀a,ev a env x=κ k):
 OpP P ⟨d,.lookup t m x true,ty,pos,af,g⟩ env [(r,.map es clock)] (.tuple #[v0,.bool b0]):=by
 have:=qm (d:=d) (ty:=ty) (pos:=pos) (af:=af) (g:=g) B K hz J I G hx hy;rwa [hv.1,hv.2]at this
theorem QD(J:P.underlying t=some (.map kt et))(G:Co κ es clock l)(hx:∀a,ev a env m= .map (some r)):
 OpP P ⟨d,.call ⟨.builtin .len,#[m],#[t]⟩,ty,pos,af,g⟩ env [(r,.map es clock)] (I4 (l.length:Int)):=fun a w I=>by
 have B:=I (r,.map es clock) B0;simp [Dz,resolve,invoke,builtin,hx a,Builtin.len_,run_underlying J,MapKept.run_getObj_map B,goInt,G.size]
theorem Fg{w:World}{c:Nat}(B:w.heap[r]?=some (.map es c))(o':Obj):(setObj r o').run P w= .ok () (setBlock w r o'):=by
 simp [setObj,Sem.run,B,setBlock]
variable{u:World}{H R:Hp}
theorem DT:OpW P u ⟨d,.makeMap t none,ty,pos,af,g⟩ env H (fun I H1=>∃b,I= .map (some b)/\H1=[(b,.map #[] 0)]::H) (fun _ _=>False):=fun a w G K J B _=>by
 have:(execOp (ev a env) ⟨d,.makeMap t none,ty,pos,af,g⟩).run P w= .ok (.value (.map (some w.heap.size))) {w with heap:=w.heap.push (.map #[] 0)}:=by
  show((do pure (Next.value (<-Instr.makeMap t none))):Sem Next).run P w=_;rfl
 rw [this];exact B _ _ _ ⟨_,V,V⟩ (G.alloc _)
theorem Ja{w:World}(B:One [(r,.map es clock)] H R)(G:Sat u H w)(o':Obj):w.heap[r]?=some (.map es clock)/\Sat u ([(r,o')]::R) (setBlock w r o'):=by
 have J:Sat u ([(r,.map es clock)]::R) w:=G.perm (by simpa using B.perm);have K:=J.get (r,.map es clock) B0
 have I:r<w.heap.size:=(HS.1 K).1;exact ⟨K,J.upd (Upd.here _) rfl rfl rfl (by simp [setBlock,I]) (fun j O=>by simp only [setBlock,gE];rw [AK (fun e=>O e.symm)])⟩
theorem ZF{i:Nat}{q:Value}(I:l[i]?=some (k,q))(v:Value):((l.set i (k,v)).map (·.1))=l.map (·.1):=by
 apply MT;intro j;rw [DO,DO,Sf];by_cases B:i=j
 · subst B
   have G:=(BE.1 I).1;rw [AM rfl,AM G,I];rfl
 · rw [AK B]
theorem L8{i j:Nat}{p q:α×Value}(hn:(l.map (·.1)).Nodup)(G:l[i]?=some p)(I:l[j]?=some q)(h:p.1=q.1):i=j:=by
 have B:(l.map (·.1))[i]?=some p.1:=by rw [DO,G];rfl
 have h2:(l.map (·.1))[j]?=some q.1:=by rw [DO,I];rfl
 exact (oX (BE.1 B).1 hn).1 (by rw [B,h2,h])
theorem jF{i:Nat}{q:Value}(hn:(l.map (·.1)).Nodup)(J:l[i]?=some (k,q))(v:Value)(p:α×Value):p∈l.set i (k,v)↔p=(k,v)\/(p∈l/\p.1≠k):=by
 have I:=(BE.1 J).1;constructor
 · intro h
   obtain ⟨j,B⟩:=GW h;rw [Sf]at B;by_cases G:i=j
   · rw [AM G,AM A1]at B
     injection B with B;exact .inl B.symm
   · rw [AK G]at B
     exact .inr ⟨DE B,fun e=>G (L8 hn J B e.symm)⟩
 · rintro (rfl|⟨h,hne⟩)
   · exact DE (by rw [Sf,AM rfl,AM I])
   · obtain ⟨j,B⟩:=GW h
     refine DE (i:=j) ?_;rw [Sf,AK];· exact B
     · rintro rfl
       rw [J]at B;injection B with B
       exact hne (by rw [<-B])
theorem FE(hK:Fv P kt κ D)(ht:P.underlying t=some (.map kt et))(J:Co κ es clock l)(hl:∀p∈l,D p.1)(hk:D k)(hx:∀a,ev a env m= .map (some r))(hy:∀a,ev a env x=κ k)(hv:∀a,ev a env y=v)(W:One [(r,.map es clock)] H R):
 OpW P u ⟨d,.mapUpdate t m x y,ty,pos,af,g⟩ env H (fun v' H1=>v'=undef/\∃G B Z,Co κ G B Z/\(∀p,p∈Z↔p=(k,v)\/(p∈l/\p.1≠k))/\H1=[(r,.map G B)]::R) (fun _ _=>False):=fun a w X K Kp bn _=>by
 obtain ⟨hb,_⟩:=Ja W X (.map es clock)
 suffices hrun:∃G B Z,(Instr.mapUpdate t (.map (some r)) (κ k) v).run P w= .ok () (setBlock w r (.map G B))/\Co κ G B Z/\∀p,p∈Z↔p=(k,v)\/(p∈l/\p.1≠k) by
  obtain ⟨G,B,Z,h1,h2,h3⟩:=hrun;have:(execOp (ev a env) ⟨d,.mapUpdate t m x y,ty,pos,af,g⟩).run P w= .ok .skip (setBlock w r (.map G B)):=by
   show((do Instr.mapUpdate t (ev a env m) (ev a env x) (ev a env y);pure Next.skip):Sem Next).run P w=_;rw [hx a,hy a,hv a,Sem.run_bind,h1];rfl
  rw [this];exact bn _ _ _ ⟨V,G,B,Z,h2,h3,V⟩ (Ja W X _).2
 rcases I9 hK J hl w k hk with⟨h1,h2⟩|⟨j,q,h1,h2⟩
 · refine ⟨es.push {key:=κ k,val:=v,born:=clock},clock+1,l++[(k,v)],?_,⟨?_,?_,?_,?_⟩,?_⟩
   · simp only [Instr.mapUpdate,Sem.run_bind,run_underlying ht,Result.andThen,MapKept.run_getObj_map hb,F4 hK hk,h1,Fg hb]
   · simp [J.pairs]
   · simp only [lB,BW,DQ,J1]
     rw [H3];refine ⟨J.born,by simp,?_⟩;intro a ha b O ax;simp only [Bm,BT]at ha O;obtain ⟨e,U,rfl⟩:=ha;have:=J.old e U
     omega
   · intro e U
     simp only [lB,B9,BT]at U;rcases U with U|rfl
     · have:=J.old e U;omega
     · simp
   · rw [BW,H3]
     refine ⟨J.keys,by simp,?_⟩;intro a ha b O ax;simp only [DQ,J1,BT]at O;obtain ⟨p,hp,rfl⟩:=Bm.1 ha;exact h2 p hp (by rw [ax,O])
   · intro p
     rw [B9,BT];constructor
     · rintro (h|rfl)
       · exact .inr ⟨h,h2 p h⟩
       · exact .inl rfl
     · rintro (rfl|⟨h,_⟩)
       · exact .inr rfl
       · exact .inl h
 · obtain ⟨e0,bg,cO,ek⟩:=J.of h2
   have cu:es[j]?=some e0:=by simpa using bg
   have d9:(Instr.keyThatStays (((es[j]?).map (·.key)).getD (κ k)) (κ k)).run P w= .ok (κ k) w:=by
    rw [cu];show(Instr.keyThatStays e0.key (κ k)).run P w=_
    rw [cO];exact hK.stays w k hk
   refine ⟨es.modify j fun e=>{e with key:=κ k,val:=v},clock,l.set j (k,v),?_,⟨?_,?_,?_,?_⟩,jF J.keys h2 v⟩;· simp only [Instr.mapUpdate,Sem.run_bind,run_underlying ht,Result.andThen,MapKept.run_getObj_map hb,F4 hK hk,h1,d9,Fg hb]
   · rw [eV]
     apply MT;intro i;have hj:(es.toList.map (fun e=>(e.key,e.val)))[i]?=(l.map (fun p=>(κ p.1,p.2)))[i]?:=by rw [J.pairs]
     rw [DO,DO]at hj;rw [DO,DO,eS,Sf];by_cases I:j=i
     · subst I
       rw [AM rfl,AM (BE.1 h2).1,bg];simp
     · simpa [I]using hj
   · have:(es.modify j fun e=>{e with key:=κ k,val:=v}).toList.map (·.born)=es.toList.map (·.born):=by
      rw [eV];apply MT;intro i;simp only [DO,eS];by_cases I:j=i;· subst I;cases es.toList[j]?<;>simp
      · simp [I]
     rw [this];exact J.born
   · intro e U
     rw [eV]at U;obtain ⟨i,hi⟩:=GW U;simp only [eS]at hi;cases h9:es.toList[i]?with
     |none=>simp [h9]at hi
     |some e1=>
      have:=J.old e1 (DE h9);by_cases I:j=i
      · subst I
        simp only [h9,HR,Option.map_eq_map,N1,W1]at hi;subst hi;exact this
      · simp [h9,I]at hi
        subst hi;exact this
   · rw [ZF h2 v];exact J.keys
theorem LV{t2:TypeId}(hK:Fv P kt κ D)(ht:P.underlying t=some (.map kt et))(W:Co κ es clock l)(hl:∀p∈l,D p.1)(hk:D k)(hx:∀a,ev a env m= .map (some r))(hy:∀a,ev a env x=κ k)(I:One [(r,.map es clock)] H R):
 OpW P u ⟨d,.call ⟨.builtin .delete,#[m,x],#[t,t2]⟩,ty,pos,af,g⟩ env H (fun v' H1=>v'= .tuple #[]/\∃G B X,Co κ G B X/\(∀p,p∈X↔p∈l/\p.1≠k)/\H1=[(r,.map G B)]::R) (fun _ _=>False):=fun a w J K Kp bg _=>by
 obtain ⟨hb,_⟩:=Ja I J (.map es clock)
 suffices hrun:∃G B X,(Builtin.delete_ #[t,t2] ty #[.map (some r),κ k]).run P w= .ok (.tuple #[]) (setBlock w r (.map G B))/\Co κ G B X/\∀p,p∈X↔p∈l/\p.1≠k by
  obtain ⟨G,B,X,Z,h2,h3⟩:=hrun;have:(execOp (ev a env) ⟨d,.call ⟨.builtin .delete,#[m,x],#[t,t2]⟩,ty,pos,af,g⟩).run P w= .ok (.value (.tuple #[])) (setBlock w r (.map G B)):=by
   simp only [Dz,resolve,invoke,builtin,RT,DQ,J1,hx a,hy a,Sem.run_bind,Sem.run_pure,Result.andThen_ok,Z]
  rw [this];exact bg _ _ _ ⟨V,G,B,X,h2,h3,V⟩ (Ja I J _).2
 rcases I9 hK W hl w k hk with⟨Z,h2⟩|⟨j,q,Z,h2⟩
 · refine ⟨es,clock,l,?_,W,fun p=>⟨fun h=>⟨h,h2 p h⟩,fun h=>h.1⟩⟩
   simp only [Builtin.delete_,gx,Ys,cD,Sem.run_bind,run_underlying ht,Result.andThen,MapKept.run_getObj_map hb,F4 hK hk,Z,Fg hb,Sem.run_pure]
 · have U:(es.eraseIdxIfInBounds j).toList=es.toList.eraseIdx j:=by
    unfold Array.eraseIdxIfInBounds;split;· simp
    · rename_i h;rw [List.eraseIdx_of_length_le (by simpa using h)]
   have O:(es.toList.eraseIdx j).Sublist es.toList:=List.eraseIdx_sublist _ _;have ax:∀{α β:Type} (f:α->β) (m:List α) (n:Nat),(m.eraseIdx n).map f=(m.map f).eraseIdx n:=by
    intro α β f m;induction m with
    |nil=>intro n;simp
    |cons x m ih=>intro n;cases n<;>simp [ih]
   refine ⟨es.eraseIdxIfInBounds j,clock,l.eraseIdx j,?_,⟨?_,?_,?_,?_⟩,fun p=>?_⟩;· simp only [Builtin.delete_,gx,Ys,cD,Sem.run_bind,run_underlying ht,Result.andThen,MapKept.run_getObj_map hb,F4 hK hk,Z,Fg hb,Sem.run_pure]
   · rw [U,ax,W.pairs,ax]
   · rw [U];exact (O.map _).nodup W.born
   · intro e he
     rw [U]at he;exact W.old e (O.subset he)
   · exact ((List.eraseIdx_sublist l j).map _).nodup W.keys
   · rw [List.mem_eraseIdx_iff_getElem?]
     constructor
     · rintro ⟨i,bn,hi⟩
       exact ⟨DE hi,fun e=>bn (L8 W.keys hi h2 e)⟩
     · rintro ⟨h,cu⟩
       obtain ⟨i,hi⟩:=GW h;refine ⟨i,?_,hi⟩;rintro rfl;rw [h2]at hi;injection hi with hi
       exact cu (by rw [<-hi])
end
end
end Gw
namespace Gw
open Go Go.RowKit
open Go.ChangeMaps
section
variable{α:Type}{κ:α->Value}{P:Program}{es:Array MapEntry}{clock:Nat}{l:List (α×Value)}
structure Iu(es:Array MapEntry)(js:List Nat)(seen:Array Nat):Prop where
 nodup:js.Nodup
 lt:∀j∈js,j<es.size
 mem:∀(j:Nat) (e:MapEntry),es.toList[j]?=some e->(seen.contains e.born=true↔j∈js)
 last:∀(j:Nat),js.getLast?=some j->∃e,es.toList[j]?=some e/\∃s0:Array Nat,seen=s0.push e.born
theorem KL(es:Array MapEntry):Iu es [] #[]:=⟨by simp,by simp,by simp,by simp⟩
theorem ay{es:Array MapEntry}(hn:(es.toList.map (·.born)).Nodup){i j:Nat}{a b:MapEntry}(G:es.toList[i]?=some a)(I:es.toList[j]?=some b)(h:a.born=b.born):i=j:=by
 have B:(es.toList.map (·.born))[i]?=some a.born:=by rw [DO,G];rfl
 have h2:(es.toList.map (·.born))[j]?=some b.born:=by rw [DO,I];rfl
 exact (oX (BE.1 B).1 hn).1 (by rw [B,h2,h])
theorem Iu.push(J:Co κ es clock l){js:List Nat}{seen:Array Nat}(h:Iu es js seen){j:Nat}{e:MapEntry}(G:es.toList[j]?=some e)(O:j∉js):Iu es (js++[j]) (seen.push e.born):=by
 refine ⟨?_,?_,?_,?_⟩
 · rw [H3]
   refine ⟨h.nodup,by simp,?_⟩;intro a K b B I;rw [BT]at B;subst B I;exact O K
 · intro i hi
   rcases B9.1 hi with hi|hi
   · exact h.lt i hi
   · rw [BT]at hi
     subst hi;have:=(BE.1 G).1
     simpa using this
 · intro i x hx
   rw [B9,BT,<-h.mem i x hx,Array.contains_push];simp only [S2,beq_iff_eq];constructor
   · rintro (B|hc)
     · first|exact .inr (ay J.born hx G B)|exact .inl B
     · first|exact .inl hc|exact .inr (ay J.born hx G hc)
   · rintro (hc|rfl)
     · first|exact .inr hc|exact .inl hc
     · rw [G]at hx
       injection hx with hx
       subst hx;first|exact .inl rfl|exact .inr rfl
 · intro i hi
   rw [List.getLast?_append]at hi;simp at hi;subst hi;exact ⟨e,G,seen,V⟩
def DR(l:List (α×Value))(js:List Nat):List (α×Value):=js.filterMap (fun j=>l[j]?)
theorem G5(l:List (α×Value))(js:List Nat){j:Nat}{p:α×Value}(B:l[j]?=some p):DR l (js++[j])=DR l js++[p]:=by
 unfold DR;rw [eN];simp [B]
theorem NJ(l:List (α×Value)):DR l (List.range l.length)=l:=by
 have h:∀n,n<=l.length->DR l (List.range n)=l.take n:=by
  intro n;induction n with
  |zero=>intro _;rfl
  |succ n ih=>
   intro hn;obtain ⟨p,B⟩:∃p,l[n]?=some p:=⟨_,B3 A1⟩;rw [ir,G5 l _ B,ih A1,PF,B];rfl
 rw [h _ (CM _),GB]
theorem Iu.done(K:Co κ es clock l){js:List Nat}{seen:Array Nat}(h:Iu es js seen)(h0:(leftOf es seen).size=0):(DR l js).Perm l:=by
 have O:js.Perm (List.range l.length):=by
  rw [RE h.nodup iS];intro j;rw [Kd,<-K.size];constructor;· exact h.lt j
  · intro J
    have B:j<es.toList.length:=by simpa using J
    have I:es.toList[j]?=some (es.toList[j]):=B3 B;rw [<-h.mem j _ I];unfold leftOf at h0;have G:=Array.filter_eq_empty_iff.1 (Array.eq_empty_of_size_eq_zero h0)
    have h2:=G (es.toList[j]) (nw.1 (oe B));simpa using h2
 have:=O.filterMap (fun j=>l[j]?);exact this.trans (by rw [show(List.range l.length).filterMap (fun j=>l[j]?)=DR l (List.range l.length) from rfl,NJ])
section
variable{env:Env}{d:Option Nat}{ty:TypeId}{pos:String}{af:Array Edge}{g:Option (Nat×Bool)}{t kt et:TypeId}{r b:Nat}{x:Operand}{u:World}{H R:Hp}
theorem LU(O:P.underlying t=some (.map kt et))(hx:∀a,ev a env x= .map (some r))(B:(r,.map es clock)∈H.flatten):
 OpW P u ⟨d,.range t x,ty,pos,af,g⟩ env H (fun U H1=>∃b,U=I5 b/\H1=[(b,.mapIter (some r) clock #[] clock)]::H) (fun _ _=>False):=fun a w G K W I _=>by
 have J:=G.get _ B;have:(execOp (ev a env) ⟨d,.range t x,ty,pos,af,g⟩).run P w= .ok (.value (.pointer (some ⟨w.heap.size,0,none⟩))) {w with heap:=w.heap.push (.mapIter (some r) clock #[] clock)}:=by
  show((do pure (Next.value (<-Instr.range t (ev a env x)))):Sem Next).run P w=_;rw [hx a];simp only [Instr.range,Sem.run_bind,run_underlying O,Result.andThen,MapKept.run_getObj_map J];rfl
 rw [this];exact I _ _ _ ⟨_,V,V⟩ (G.alloc _)
theorem NW(G:P.underlying t=some (.map kt et))(hx:∀a,ev a env x= .map (some r))(B:Has r (.map es clock) H):
 OpW P u ⟨d,.range t x,ty,pos,af,g⟩ env H (fun I H1=>∃b,I=I5 b/\H1=[(b,.mapIter (some r) clock #[] clock)]::H) (fun _ _=>False):=LU G hx B.mem
theorem wN{w:World}{o:Obj}(B:One [(b,o)] H R)(G:Sat u H w)(o':Obj):w.heap[b]?=some o/\Sat u ([(b,o')]::R) (setBlock w b o'):=by
 have J:Sat u ([(b,o)]::R) w:=G.perm (by simpa using B.perm);have K:=J.get (b,o) B0
 have I:b<w.heap.size:=(HS.1 K).1;exact ⟨K,J.upd (Upd.here _) rfl rfl rfl (by simp [setBlock,I]) (fun j O=>by simp only [setBlock,gE];rw [AK (fun e=>O e.symm)])⟩
theorem NY(X:Co κ es clock l){js:List Nat}{seen:Array Nat}(hi:Iu es js seen)(hx:∀a,ev a env x=I5 b)(J:One [(b,.mapIter (some r) clock seen clock)] H R)(U:(r,.map es clock)∈R.flatten):
 OpW P u ⟨d,.next x false,ty,pos,af,g⟩ env H (fun v' H1=>((DR l js).Perm l/\v'= .tuple #[.bool false]/\H1=[(b,.mapIter (some r) clock seen clock)]::R)\/
  ∃j p I,l[j]?=some p/\j∉js/\Iu es (js++[j]) I/\v'= .tuple #[.bool true,κ p.1,p.2]/\H1=[(b,.mapIter (some r) clock I clock)]::R) (fun _ _=>False):=fun a w G K Kp hK _=>by
 have Z:Sat u ([(b,.mapIter (some r) clock seen clock)]::R) w:=G.perm (by simpa using J.perm);have hb:=Z.get (b,.mapIter (some r) clock seen clock) (by simp)
 have hr:=Z.get (r,.map es clock) (by simp [U]);have ax:(execOp (ev a env) ⟨d,.next x false,ty,pos,af,g⟩)=((do pure (Next.value (<-Instr.next (I5 b) false ty))):Sem Next):=by
  rw [<-hx a];rfl
 rw [ax];rcases run_next_at (P:=P) w ty b r clock clock seen es clock hb hr X.old (CM _)with⟨hz,B⟩|⟨e,he,w1,hw1,B⟩
 · rw [Sem.run_bind,B]
   exact hK _ _ _ (.inl ⟨hi.done X hz,V,V⟩) Z
 · rw [Sem.run_bind,B]
   have O:e∈es.toList/\seen.contains e.born=false:=by
    unfold leftOf at he;simpa using he
   obtain ⟨j,hj⟩:=GW O.1;obtain ⟨p,hp,hk,hv⟩:=X.at_ hj;have W:j∉js:=fun h=>by
    have:=(hi.mem j e hj).2 h;rw [O.2]at this;cases this
   refine hK _ _ _ (.inr ⟨j,p,_,hp,W,hi.push X hj W,by rw [hk,hv],rfl⟩) ?_;have h2:Sat u H w1:=by
    rcases hw1 with rfl|rfl
    · exact G
    · exact G.drew
   exact (wN J h2 _).2
theorem Pe(K:Co κ es clock l){js:List Nat}{seen:Array Nat}(hi:Iu es js seen)(hx:∀a,ev a env x=I5 b)(I:One [(b,.mapIter (some r) clock seen clock)] H R)(G:Has r (.map es clock) R):
 OpW P u ⟨d,.next x false,ty,pos,af,g⟩ env H (fun J H1=>((DR l js).Perm l/\J= .tuple #[.bool false]/\H1=[(b,.mapIter (some r) clock seen clock)]::R)\/
  ∃j p B,l[j]?=some p/\j∉js/\Iu es (js++[j]) B/\J= .tuple #[.bool true,κ p.1,p.2]/\H1=[(b,.mapIter (some r) clock B clock)]::R) (fun _ _=>False):=NY K hi hx I G.mem
theorem JG(J:Co κ es clock l){js:List Nat}{seen:Array Nat}{j:Nat}{p:α×Value}(hi:Iu es (js++[j]) seen)(W:l[j]?=some p)(hx:∀a,ev a env x=I5 b):
 OpP P ⟨d,.entry x,ty,pos,af,g⟩ env [(b,.mapIter (some r) clock seen clock),(r,.map es clock)] (.tuple #[κ p.1,p.2]):=fun a w K=>by
 have O:=K (b,.mapIter (some r) clock seen clock) B0;have X:=K (r,.map es clock) B0
 obtain ⟨e,I,s0,rfl⟩:=hi.last j B0;obtain ⟨Z,B,U,hv⟩:=J.at_ I;rw [W]at B;injection B with B
 subst B;have G:=run_entry_at (P:=P) w b r clock s0 es clock e O X (DE I) J.born
 show((do pure (Next.value (<-Instr.entry (ev a env x)))):Sem Next).run P w=_;rw [hx a,Sem.run_bind,G,U,hv];rfl
end
end
end Gw
namespace Gl
open Go
def linUpon(P:Program)(K:Value->World->Prop):Result Next->Prop
 | .ok (.value u) w=>K u w
 | .ok .skip w=>K undef w
 | .ok (.enter f args) w=>Calls P f args w (fun e w'=>∃u,e= .returned u/\K u w')
 |_=>False
def lookE(a:Act):List (Nat×Value)->Nat->Value
 |[],t=>a.tmps.getD t undef
 |(d,v)::env,t=>if t=d then v else lookE a env t
def evalE(a:Act)(env:List (Nat×Value)):Operand->Value
 | .tmp t=>lookE a env t
 | .const v=>v
 | .global g=>I5 g
 | .func f=> .func (.func f) #[] #[]
def yieldE(ops:Array Oper)(a:Act)(env:List (Nat×Value))(g:Nat)(want:Bool):Bool:=
 match(ops[g]?).bind (·.dst)with
 |some t=>match lookE a env t with
  | .bool b=>b==want
  |_=>false
 |none=>false
def wantedE(ops:Array Oper)(a:Act)(env:List (Nat×Value)):Option (Nat×Bool)->Bool
 |none=>true
 |some (g,want)=>yieldE ops a env g want
def putE(d:Option Nat)(v:Value)(env:List (Nat×Value)):List (Nat×Value):=
 match d with
 |some d=>(d,v)::env
 |none=>env
def putsE:List (Nat×Value)->Act->Act
 |[],a=>a
 |(d,v)::env,a=>(putsE env a).put (some d) v
def ZB(P:Program)(ops:Array Oper)(o:Oper)(a:Act)(env:List (Nat×Value))(v:Value)(R:World->Prop)(w:World):Prop:=
 ∀K:Value->World->Prop,(∀w',R w'->K v w')->if wantedE ops a env o.guard=true then linUpon P K ((execOp (evalE a env) o).run P w)else K undef w
def NB(P:Program)(ops:Array Oper)(S:Nat->World->Prop)(Q:Act->World->Prop)(a:Act):Nat->List Oper->List Bool->List (Nat×Value)->Prop
 |k,[],_,env=>∀w,S k w->Q (putsE env a) w
 |k,o::l,true::fs,env=>∃v,(∀w,S k w->ZB P ops o a env v (S (k+1)) w)/\NB P ops S Q a (k+1) l fs (putE o.dst v env)
 |k,o::l,false::fs,env=>∃v,(∀j w,S j w->ZB P ops o a env v (S j) w)/\NB P ops S Q a k l fs (putE o.dst v env)
 |_,_::_,[],_=>False
def TQ(ops:Array Oper)(fl:List Bool)(N:Nat):Bool:=
 let b:=Region.before ops
 decide (fl.length=ops.size)&&
 (List.range ops.size).all fun j=>match ops[j]?with
   |none=>false
   |some oj=>
    (oj.after.toList.all fun e=>!Region.binds .any e||decide (e.on<j))&&
    ((List.range j).all fun i=>match ops[i]?with
      |none=>false
      |some oi=>
       (!(b.getD j 0).testBit i||oj.after.toList.any (fun e=>Region.binds .any e&&(e.on==i||(decide (i<e.on)&&(b.getD e.on 0).testBit i))))&&
       (oi.apart ops oj||(b.getD j 0).testBit i)&&
       (!(fl.getD i false&&fl.getD j false)||(b.getD j 0).testBit i))&&
    (match oj.op with| .select ..=>false|_=>true)&&
    (match oj.dst with|some d=>decide (d<N)|none=>true)
def KJ(p:Nat->Bool):Nat->List (Oper×Value)->Act->Act
 |_,[],a=>a
 |i,x::l,a=>KJ p (i+1) l (if p i then a.put x.1.dst x.2 else a)
def tv(p:Nat->Bool)(t:Nat):Nat->List (Oper×Value)->Option Value->Option Value
 |_,[],d=>d
 |i,x::l,d=>tv p t (i+1) l (if p i=true/\x.1.dst=some t then some x.2 else d)
theorem EH(a:Act)(d:Option Tmp)(v:Value):(a.put d v).tmps.size=a.tmps.size:=by cases d<;>simp [Act.put]
theorem Jf(a:Act)(d:Option Tmp)(v:Value):(a.put d v).defers=a.defers:=by cases d<;>simp [Act.put]
theorem J2(a:Act)(d:Option Tmp)(v:Value)(t:Nat)(B:t<a.tmps.size):(a.put d v).tmps[t]?=if d=some t then some v else a.tmps[t]?:=by
 cases d with
 |none=>simp [Act.put]
 |some d=>
  simp only [Act.put,gE];by_cases e:d=t;· subst e;simp [B]
  · simp [e]
theorem J7{a b:Act}(G:a.tmps.size=b.tmps.size)(B:a.defers=b.defers)(h:∀t,t<a.tmps.size->a.tmps[t]?=b.tmps[t]?):a=b:=by
 obtain ⟨x,d⟩:=a;obtain ⟨y,e⟩:=b;simp only at B G h;subst B;congr 1;apply j7 G;intro i hi I;have:=h i hi
 simp only [HG hi,HG I,W1]at this;exact this
theorem D5(p:Nat->Bool):∀(i:Nat) (l:List (Oper×Value)) (a:Act),(KJ p i l a).tmps.size=a.tmps.size
 |_,[],_=>rfl
 |i,x::l,a=>by simp only [KJ];rw [D5 p (i+1) l];split<;>simp [EH]
theorem FJ(p:Nat->Bool):∀(i:Nat) (l:List (Oper×Value)) (a:Act),(KJ p i l a).defers=a.defers
 |_,[],_=>rfl
 |i,x::l,a=>by simp only [KJ];rw [FJ p (i+1) l];split<;>simp [Jf]
theorem EF(p:Nat->Bool)(t:Nat):∀(i:Nat) (l:List (Oper×Value)) (a:Act),t<a.tmps.size->(KJ p i l a).tmps[t]?=tv p t i l a.tmps[t]?
 |_,[],_,_=>rfl
 |i,x::l,a,ht=>by
  simp only [KJ,tv];rw [EF p t (i+1) l _ (by split<;>simpa [EH]using ht)];congr 1;by_cases B:p i=true;· simp only [B,HR,V2];rw [J2 _ _ _ _ ht]
  · simp [B]
theorem F3(p q:Nat->Bool)(t:Nat):∀(i:Nat) (l:List (Oper×Value)) (d:Option Value),(∀k x,l[k]?=some x->x.1.dst=some t->p (i+k)=q (i+k))->tv p t i l d=tv q t i l d
 |_,[],_,_=>rfl
 |i,x::l,d,h=>by
  simp only [tv];have h0:(if p i=true/\x.1.dst=some t then some x.2 else d)=(if q i=true/\x.1.dst=some t then some x.2 else d):=by
   by_cases e:x.1.dst=some t
   · have:=h 0 x rfl e;simp only [Pu]at this;simp [this]
   · simp [e]
  rw [h0];exact F3 p q t (i+1) l _ fun k y B hy=>by
   have:=h (k+1) y (by simpa using B) hy;rwa [show i+(k+1)=i+1+k from by omega]at this
theorem iN(p:Nat->Bool)(t:Nat):∀(i k:Nat) (l:List (Oper×Value)) (d:Option Value) (x:Oper×Value),l[k]?=some x->x.1.dst=some t->p (i+k)=true->
 (∀G y,k<G->l[G]?=some y->y.1.dst=some t->p (i+G)=false)->tv p t i l d=some x.2
 |i,0,z::l,d,x,B,hx,hp,h=>by
  simp only [Ys,W1]at B;subst B;simp only [tv];simp only [Pu]at hp;simp only [hp,hx,and_self,HR];rw [F3 p (fun _=>false) t (i+1) l _ fun k y B hy=>by
   have:=h (k+1) y (by omega) (by simpa using B) hy;rwa [show i+(k+1)=i+1+k from by omega]at this]
  have:∀(i:Nat) (l:List (Oper×Value)) (d:Option Value),tv (fun _=>false) t i l d=d:=by
   intro i l;induction l generalizing i with
   |nil=>intro d;rfl
   |cons y l ih=>intro d;simp [tv,ih]
  rw [this]
 |i,k+1,z::l,d,x,B,hx,hp,h=>by
  simp only [tv];exact iN p t (i+1) k l _ x (by simpa using B) hx (by rwa [show i+1+k=i+(k+1) from by omega]) fun G y J hy I=>by
   have:=h (G+1) y A1 (by simpa using hy) I;rwa [show i+(G+1)=i+1+G from by omega]at this
 |i,k,[],d,x,B,_,_,_=>by simp at B
def pre(j:Nat)(l:List (Oper×Value))(a:Act):Act:=(l.take j).foldl (fun a x=>a.put x.1.dst x.2) a
theorem RO(j:Nat):∀(i:Nat) (l:List (Oper×Value)) (a:Act),KJ (fun k=>decide (k<i+j)) i l a=pre j l a:=by
 induction j with
 |zero=>
  intro i l;induction l generalizing i with
  |nil=>intro a;rfl
  |cons x l ih=>
   intro a;simp only [KJ,Pu,Nat.lt_irrefl,X1,MA,HF];have:∀(m i:Nat) (l:List (Oper×Value)) (a:Act),i<=m->KJ (fun k=>decide (k<i)) m l a=a:=by
    intro m i l;induction l generalizing m with
    |nil=>intro a _;rfl
    |cons y l ih=>intro a h;simp only [KJ];rw [AK Hh];exact ih (m+1) a A1
   rw [this (i+1) i l a A1];rfl
 |succ j ih=>
  intro i l a;cases l with
  |nil=>rfl
  |cons x l=>
   simp only [KJ];rw [AM B0];have:=ih (i+1) l (a.put x.1.dst x.2)
   rw [show i+1+j=i+(j+1) from by omega]at this;rw [this];rfl
def F9(fs:List Bool):Nat:=(fs.filter id).length
def M7(P:Program)(ops:Array Oper)(o:Oper)(a:Act)(v:Value)(R:World->Prop)(w:World):Prop:=
 ∀K:Value->World->Prop,(∀w',R w'->K v w')->if Region.wanted o (yielded ops a.tmps)then linUpon P K ((execOp a.eval o).run P w)else K undef w
theorem Ke(a:Act):∀env,(putsE env a).tmps.size=a.tmps.size
 |[]=>rfl
 |(d,v)::env=>by simp only [putsE];rw [EH,Ke a env]
theorem Ni(a:Act):∀(env:List (Nat×Value)),(∀x∈env,x.1<a.tmps.size)->∀t,(putsE env a).tmps.getD t undef=lookE a env t
 |[],_,t=>rfl
 |(d,v)::env,h,t=>by
  simp only [putsE,lookE];have B:=Ni a env (fun x hx=>h x (EV _ hx)) t
  have G:=h (d,v) (E4 ..);rw [LR]at B⊢;by_cases J:t<a.tmps.size
  · rw [J2 _ _ _ _ (by rw [Ke];exact J)]
    by_cases e:t=d
    · subst e;simp
    · rw [AK e,<-B,AK (fun I=>e (S1 I).symm)]
  · rw [I0 (by rw [EH,Ke];omega)]
    rw [I0 (by rw [Ke];omega)]at B;rw [<-B,AK (by simp only at G;omega)]
theorem dP(a:Act)(env:List (Nat×Value))(h:∀x∈env,x.1<a.tmps.size):(putsE env a).eval=evalE a env:=by
 funext x;cases x with
 |tmp t=>exact Ni a env h t
 |_=>rfl
theorem bO(ops:Array Oper)(o:Oper)(a:Act)(env:List (Nat×Value))(h:∀x∈env,x.1<a.tmps.size):Region.wanted o (yielded ops (putsE env a).tmps)=wantedE ops a env o.guard:=by
 unfold Region.wanted wantedE;cases hg:o.guard with
 |none=>rfl
 |some gw=>
  obtain ⟨g,B⟩:=gw;simp only [yielded,yieldE];cases ht:(ops[g]?).bind (·.dst)with
  |none=>simp
  |some t=>
   simp only [I3];rw [<-Ni a env h t,LR];cases hv:(putsE env a).tmps[t]?with
   |none=>simp [undef]
   |some v=>cases v<;>simp
theorem Vo{P:Program}{ops:Array Oper}{o:Oper}{a:Act}{env:List (Nat×Value)}{v:Value}{R:World->Prop}{w:World}(h:∀x∈env,x.1<a.tmps.size)(G:ZB P ops o a env v R w):M7 P ops o (putsE env a) v R w:=by
 intro K B;have:=G K B
 rw [bO ops o a env h,dP a env h];exact this
theorem Rc{P:Program}{ops:Array Oper}{S:Nat->World->Prop}{Q:Act->World->Prop}{a:Act}:∀(l:List Oper) (fs:List Bool) (k:Nat) (env:List (Nat×Value)),(∀o∈l,∀d,o.dst=some d->d<a.tmps.size)->(∀x∈env,x.1<a.tmps.size)->NB P ops S Q a k l fs env->
 ∃x:List (Oper×Value),x.map (·.1)=l/\
  (∀j o v,x[j]?=some (o,v)->(fs.getD j false=true->∀w,S (k+F9 (fs.take j)) w->M7 P ops o (pre j x (putsE env a)) v (S (k+F9 (fs.take j)+1)) w)/\
    (fs.getD j false=false->∀i w,S i w->M7 P ops o (pre j x (putsE env a)) v (S i) w))/\
  ∀w,S (k+F9 (fs.take l.length)) w->Q (pre l.length x (putsE env a)) w
 |[],fs,k,env,_,_,h=>⟨[],rfl,fun j o v B=>by simp at B,by simpa [NB,F9,pre]using h⟩
 |o::l,true::fs,k,env,hd,he,h=>by
  obtain ⟨v,X,h2⟩:=h;have I:∀x∈putE o.dst v env,x.1<a.tmps.size:=by
   intro x hx;unfold putE at hx;split at hx
   · rename_i d hdd
     rcases D4.1 hx with rfl|hx
     · exact hd o (E4 ..) d hdd
     · exact he x hx
   · exact he x hx
  have J:putsE (putE o.dst v env) a=(putsE env a).put o.dst v:=by unfold putE;split<;>(rename_i hdd;rw [hdd];rfl)
  obtain ⟨x,hx,O,K⟩:=Rc l fs (k+1) _ (fun o' Z=>hd o' (EV _ Z)) I h2;rw [J]at O K;refine ⟨(o,v)::x,by simp [hx],fun j o' v' B=>?_,fun w G=>?_⟩
  · cases j with
    |zero=>
     simp only [Ys,W1,j1]at B;obtain ⟨rfl,rfl⟩:=B;exact ⟨fun _ w G=>Vo he (X w (by simpa [F9]using G)),fun h=>by simp at h⟩
    |succ j=>
     obtain ⟨U,W⟩:=O j o' v' (by simpa using B);have e:k+F9 ((true::fs).take (j+1))=k+1+F9 (fs.take j):=by simp [F9];omega
     rw [e];exact ⟨fun h=>U (by simpa using h),fun h=>W (by simpa using h)⟩
  · have e:k+F9 ((true::fs).take (o::l).length)=k+1+F9 (fs.take l.length):=by simp [F9];omega
    rw [e]at G;exact K w G
 |o::l,false::fs,k,env,hd,he,h=>by
  obtain ⟨v,X,h2⟩:=h;have I:∀x∈putE o.dst v env,x.1<a.tmps.size:=by
   intro x hx;unfold putE at hx;split at hx
   · rename_i d hdd
     rcases D4.1 hx with rfl|hx
     · exact hd o (E4 ..) d hdd
     · exact he x hx
   · exact he x hx
  have J:putsE (putE o.dst v env) a=(putsE env a).put o.dst v:=by unfold putE;split<;>(rename_i hdd;rw [hdd];rfl)
  obtain ⟨x,hx,O,K⟩:=Rc l fs k _ (fun o' Z=>hd o' (EV _ Z)) I h2;rw [J]at O K;refine ⟨(o,v)::x,by simp [hx],fun j o' v' B=>?_,fun w G=>?_⟩
  · cases j with
    |zero=>
     simp only [Ys,W1,j1]at B;obtain ⟨rfl,rfl⟩:=B;exact ⟨fun h=>by simp at h,fun _ i w G=>Vo he (X i w G)⟩
    |succ j=>
     obtain ⟨U,W⟩:=O j o' v' (by simpa using B);have e:k+F9 ((false::fs).take (j+1))=k+F9 (fs.take j):=by simp [F9]
     rw [e];exact ⟨fun h=>U (by simpa using h),fun h=>W (by simpa using h)⟩
  · have e:k+F9 ((false::fs).take (o::l).length)=k+F9 (fs.take l.length):=by simp [F9]
    rw [e]at G;exact K w G
 |_::_,[],_,_,_,_,h=>(h:False).elim
theorem QO(n j:Nat)(p q:Nat->Bool)(I:j<n)(B:p j=false)(G:q j=true)(h:∀i,i<n->i≠j->p i=q i):(List.range n).countP q=(List.range n).countP p+1:=by
 induction n with
 |zero=>omega
 |succ n ih=>
  rw [ir,kx,kx];by_cases e:j=n
  · subst e
    have:(List.range j).countP q=(List.range j).countP p:=List.countP_congr fun i hi=>by
     have:=Kd.1 hi;rw [h i A1 A1]
    simp [this,B,G]
  · have:=ih A1 fun i hi hn=>h i A1 hn
    have e2:=h n A1 (da e);simp only [List.countP_singleton,e2];omega
theorem Ky(n:Nat)(p q:Nat->Bool)(h:∀i,i<n->p i=q i):(List.range n).countP q=(List.range n).countP p:=
 List.countP_congr fun i hi=>by rw [h i (Kd.1 hi)]
theorem O3(fs:List Bool)(n:Nat)(hn:n<=fs.length):∀j,j<=n->(List.range n).countP (fun i=>decide (i<j)&&fs.getD i false)=F9 (fs.take j)
 |0,_=>by simp [F9]
 |j+1,hj=>by
  have G:=O3 fs n hn j A1;have J:fs.take (j+1)=fs.take j++[fs[j]]:=by rw [nB A1]
  have B:fs.getD j false=fs[j]:=by simp [B3 (show j<fs.length by omega)]
  rw [J];cases hb:fs[j]with
  |true=>
   rw [QO n j (fun i=>decide (i<j)&&fs.getD i false) _ A1 B0 (by simp only [B,hb];simp) (fun i _ I=>by
    have:decide (i<j)=decide (i<j+1):=by apply decide_eq_decide.2;omega
    simp only [this]),G]
   simp [F9]
  |false=>
   rw [Ky n (fun i=>decide (i<j)&&fs.getD i false) _ (fun i _=>by
    by_cases e:i=j
    · subst e;simp only [B,hb];simp
    · have:decide (i<j)=decide (i<j+1):=by apply decide_eq_decide.2;omega
      simp only [this]),G]
   simp [F9]
structure Im(ops:Array Oper)(fl:List Bool)(N:Nat):Prop where
 len:fl.length=ops.size
 edge:∀j oj e,ops[j]?=some oj->e∈oj.after->Region.binds .any e=true->e.on<j
 anc:∀j oj i,ops[j]?=some oj->i<j->((Region.before ops).getD j 0).testBit i=true->∃e∈oj.after,Region.binds .any e=true/\(e.on=i\/(i<e.on/\((Region.before ops).getD e.on 0).testBit i=true))
 apart:∀i j oi oj,ops[i]?=some oi->ops[j]?=some oj->i<j->oi.apart ops oj=true\/((Region.before ops).getD j 0).testBit i=true
 flags:∀i j oj,ops[j]?=some oj->i<j->fl.getD i false=true->fl.getD j false=true->((Region.before ops).getD j 0).testBit i=true
 sel:∀(j:Nat) (oj:Oper) (cs:Array SelectCase) (b:Bool),ops[j]?=some oj->oj.op≠ .select cs b
 room:∀(j:Nat) (oj:Oper) (d:Nat),ops[j]?=some oj->oj.dst=some d->d<N
theorem fF{ops:Array Oper}{fl:List Bool}{N:Nat}(h:TQ ops fl N=true):Im ops fl N:=by
 simp only [TQ,F2,Fl,N0,Kd]at h;obtain ⟨h0,h⟩:=h;have G:∀{j:Nat} {o:Oper},ops[j]?=some o->j<ops.size:=fun B=>(HS.1 B).1
 refine ⟨h0,fun j oj e B U O=>?_,fun j oj i B hi O=>?_,fun i j K oj hi B I=>?_,fun i j oj B I W h2=>?_,fun j oj cs b B hs=>?_,fun j oj d B X=>?_⟩
 · have:=h j (G B)
   simp only [B,F2,N0]at this;have:=this.1.1.1 e (by simpa using U)
   simpa [O]using this
 · have:=h j (G B)
   simp only [B,F2,N0,Kd]at this;have:=this.1.1.2 i hi
   obtain ⟨K,J⟩:∃K,ops[i]?=some K:=⟨_,HG (by have:=G B;omega)⟩;simp only [J,F2]at this;have:=this.1.1
   rw [O]at this;simp only [S3,lx,lE,F2,S2,beq_iff_eq,Fl]at this;obtain ⟨e,U,O,Z⟩:=this;exact ⟨e,by simpa using U,O,Z⟩
 · have:=h j (G B)
   simp only [B,F2,N0,Kd]at this;have:=this.1.1.2 i I
   simp only [hi,F2,S2]at this;exact this.1.2
 · have:=h j (G B)
   simp only [B,F2,N0,Kd]at this;have:=this.1.1.2 i I
   obtain ⟨K,J⟩:∃K,ops[i]?=some K:=⟨_,HG (by have:=G B;omega)⟩;simp only [J,F2]at this;have:=this.2
   rw [W,h2]at this;simpa using this
 · have:=h j (G B)
   simp only [B,F2]at this;rw [hs]at this;simp at this
 · have:=h j (G B)
   simp only [B,F2]at this;rw [X]at this;simpa using this.2
def iH(ops:Array Oper)(L:Array Bool):Prop:=∀j oj,ops[j]?=some oj->L.getD j false=true->∀e∈oj.after,Region.binds .any e=true->L.getD e.on false=true
theorem Fs{ops:Array Oper}{fl:List Bool}{N:Nat}(F:Im ops fl N){L:Array Bool}(hL:iH ops L):∀(j i:Nat) (oj:Oper),ops[j]?=some oj->i<j->((Region.before ops).getD j 0).testBit i=true->
 (∀e∈oj.after,Region.binds .any e=true->L.getD e.on false=true)->L.getD i false=true:=by
 intro j;induction j using Nat.strongRecOn with
 |ind j ih=>
  intro i oj W hi hb Z;obtain ⟨e,O,B,G⟩:=F.anc j oj i W hi hb;rcases G with rfl|⟨hie,G⟩
  · exact Z e O B
  · have X:=F.edge j oj e W O B
    obtain ⟨J,I⟩:∃J,ops[e.on]?=some J:=⟨_,HG (by have:=(HS.1 W).1;omega)⟩;exact ih e.on X i J I hie G (fun e' U K=>hL e.on J I (Z e O B) e' U K)
theorem Ku{ops:Array Oper}{o:Oper}{a b:Act}(h:∀t∈o.looksAt ops,a.tmps[t]?=b.tmps[t]?):∀x∈o.op.operands,a.eval x=b.eval x:=by
 intro x hx;cases x with
 |tmp t=>
  have B:t∈o.looksAt ops:=Dg _ (Z2.2 ⟨.tmp t,by simpa using hx,rfl⟩);have:=h t B
  simp only [Act.eval,LR,this]
 |_=>rfl
theorem Gm{ops:Array Oper}{o:Oper}{a b:Act}(h:∀t∈o.looksAt ops,a.tmps[t]?=b.tmps[t]?):Region.wanted o (yielded ops a.tmps)=Region.wanted o (yielded ops b.tmps):=by
 unfold Region.wanted;cases hg:o.guard with
 |none=>rfl
 |some gw=>
  obtain ⟨g,B⟩:=gw;have hy:yielded ops a.tmps g=yielded ops b.tmps g:=by
   unfold yielded;cases ht:(ops[g]?).bind (·.dst)with
   |none=>rfl
   |some t=>
    have:=h t (by simp [Oper.looksAt,hg,ht]);simp [this]
  simp only [hy]
theorem ZA{P:Program}{ops:Array Oper}{i:Nat}{o:Oper}{a b:Act}{v:Value}{R:World->Prop}{w:World}{Q:Exit->Act->World->Prop}{K:Act->World->Prop}
 (hi:ops[i]?=some o)(I:∀cs b,o.op≠ .select cs b)(U:∀t∈o.looksAt ops,a.tmps[t]?=b.tmps[t]?)
 (h:M7 P ops o b v R w)(J:∀G,R G->K (a.put o.dst v) G):wpOp P ops Q i K a w:=by
 have B:=h (fun u G=>u=v/\R G) (fun G O=>⟨rfl,O⟩);unfold wpOp;simp only [hi];rw [Gm U];by_cases O:Region.wanted o (yielded ops b.tmps)=true
 · rw [AM O]at B⊢
   refine .inl ?_;unfold Oper.wp;rw [execOp_congr o I (Ku U)];generalize (execOp b.eval o).run P w=r at*;cases r with
   |ok n G=>
    cases n<;>simp only [Oper.upon,linUpon]at B⊢
    case value u=>rw [B.1];exact J _ B.2
    case skip=>rw [B.1];exact J _ B.2
    case enter f args=>
     refine Calls.mono B fun e af X=>?_;obtain ⟨u,rfl,Z,W⟩:=X;simp only;rw [Z];exact J _ W
   |halt x G=>simp only [linUpon]at B
 · rw [AK O]at B⊢
   rw [B.1];exact J _ B.2
section
variable{P:Program}{ops:Array Oper}{fl:List Bool}{N:Nat}{S:Nat->World->Prop}{Q:Exit->Act->World->Prop}{x:List (Oper×Value)}{a0:Act}
structure Jo(ops:Array Oper)(fl:List Bool)(S:Nat->World->Prop)(x:List (Oper×Value))(a0:Act)(L:Array Bool)(a:Act)(w:World):Prop where
 size:L.size=ops.size
 shut:iH ops L
 act:a=KJ (fun i=>L.getD i false) 0 x a0
 stage:S ((List.range ops.size).countP fun i=>L.getD i false&&fl.getD i false) w
theorem sI(F:Im ops fl N)(hx:x.map (·.1)=ops.toList)
 (hs:∀j o v,x[j]?=some (o,v)->(fl.getD j false=true->∀w,S (F9 (fl.take j)) w->M7 P ops o (pre j x a0) v (S (F9 (fl.take j)+1)) w)/\
   (fl.getD j false=false->∀i w,S i w->M7 P ops o (pre j x a0) v (S i) w))
 {L:Array Bool}{a:Act}{w:World}(H:Jo ops fl S x a0 L a w){j:Nat}(hj:j∈Region.ready .any ops L){K:Act->World->Prop}
 (hK:∀a' w',Jo ops fl S x a0 (L.setIfInBounds j true) a' w'->K a' w'):wpOp P ops Q j K a w:=by
 obtain ⟨gB,oj,B,cO⟩:=mem_ready.1 hj;have X:j<ops.size:=(HS.1 B).1
 have o9:x.length=ops.size:=by have:=congrArg List.length hx;simpa using this
 have gF:∀k,k<ops.size->∃o v,x[k]?=some (o,v)/\ops[k]?=some o:=fun k hk=>by
  obtain ⟨y,hy⟩:∃y,x[k]?=some y:=⟨_,B3 A1⟩;refine ⟨y.1,y.2,hy,?_⟩;have:(x.map (·.1))[k]?=some y.1:=by simp [hy]
  rw [hx]at this;simpa using this
 have j5:∀(k:Nat) (y:Oper×Value),x[k]?=some y->ops[k]?=some y.1:=fun k y hy=>by
  have:(x.map (·.1))[k]?=some y.1:=by simp [hy]
  rw [hx]at this;simpa using this
 obtain ⟨o',v,cu,j3⟩:=gF j X;obtain rfl:oj=o':=by rw [B]at j3;exact S1 j3
 have U:L.getD j false=false:=by
  rw [LR]at gB⊢;rw [HG (by rw [H.size];exact X)]at gB⊢;simpa using gB
 have I:∀i,i<j->((Region.before ops).getD j 0).testBit i=true->L.getD i false=true:=fun i hi hb=>Fs F H.shut j i oj B hi hb cO;have J:∀i oi,ops[i]?=some oi->j<i->((Region.before ops).getD i 0).testBit j=true->L.getD i false=false:=fun i oi af lw hb=>by
  cases h:L.getD i false with
  |false=>rfl
  |true=>
   have:=Fs F H.shut i j oi af lw hb (fun e he l9=>H.shut i oi af h e he l9);rw [U]at this;cases this
 have l8:∀(t:Nat),(t∈oj.looksAt ops\/oj.dst=some t)->∀(k:Nat) (y:Oper×Value),x[k]?=some y->y.1.dst=some t->k≠j->L.getD k false=decide (k<j):=by
  intro t O k y hy W hk;have gy:=j5 k y hy
  rcases E0 k j with hlt|hge
  · rw [Cp hlt]
    refine I k hlt ((F.apart k j y.1 oj gy B hlt).resolve_left fun gm=>?_);obtain ⟨h1,h2,h3⟩:=Oper.apart_spec gm;rcases O with O|O
    · exact h1 t W O
    · exact h2 t W O
  · have ic:j<k:=by omega
    rw [CN A1];refine J k y.1 gy ic ((F.apart j k oj y.1 B gy ic).resolve_left fun gm=>?_);obtain ⟨h1,h2,h3⟩:=Oper.apart_spec gm;rcases O with O|O
    · exact h3 t W O
    · exact h2 t O W
 have bg:a.tmps.size=a0.tmps.size:=by rw [H.act,D5]
 have l5:(pre j x a0).tmps.size=a0.tmps.size:=by rw [<-RO j 0 x a0,D5]
 have Z:∀t∈oj.looksAt ops,a.tmps[t]?=(pre j x a0).tmps[t]?:=by
  intro t O;by_cases bn:t<a0.tmps.size
  · rw [H.act,<-RO j 0 x a0,EF _ _ _ _ _ bn,EF _ _ _ _ _ bn]
    refine F3 _ _ t 0 x _ fun k y hy W=>?_;simp only [D0];by_cases e:k=j;· subst e;rw [U];simp
    · exact l8 t (.inl O) k y hy W e
  · rw [I0 (by rw [bg];exact eW bn),I0 (by rw [l5];exact eW bn)]
 have G:∀i,(L.setIfInBounds j true).getD i false=if i=j then true else L.getD i false:=fun i=>by
  by_cases e:i=j
  · subst e;simp [H.size,X]
  · rw [getD_set_ne false (da e),AK e]
 have ek:∀w',(∀k,k=((List.range ops.size).countP fun i=>(L.setIfInBounds j true).getD i false&&fl.getD i false)->S k w')->Jo ops fl S x a0 (L.setIfInBounds j true) (a.put oj.dst v) w':=by
  intro w' ax;refine ⟨by simp [H.size],fun k ok hk hl e he hb=>?_,?_,ax _ V⟩
  · rw [G]at hl
    rw [G];by_cases e1:k=j
    · subst e1
      rw [B]at hk;obtain rfl:=S1 hk;rw [cO e he hb];simp
    · rw [AK e1]at hl
      rw [H.shut k ok hk hl e he hb];simp
  · refine J7 ?_ ?_ fun t O=>?_
    · rw [EH,D5,bg]
    · rw [Jf,FJ,H.act,FJ]
    · rw [EH,bg]at O
      rw [J2 _ _ _ _ (by rw [bg];exact O),EF _ _ _ _ _ O];by_cases W:oj.dst=some t
      · rw [AM W]
        refine (iN _ t 0 j x _ (oj,v) cu W (by simp [H.size,X]) fun k y hk hy gq=>?_).symm;simp only [D0];rw [G,AK A1,l8 t (.inr W) k y hy gq A1];simp;omega
      · rw [AK W,H.act,EF _ _ _ _ _ O]
        refine F3 _ _ t 0 x _ fun k y hy gq=>?_;simp only [D0];rw [G];by_cases e:k=j
        · subst e
          rw [cu]at hy;obtain rfl:=S1 hy;exact absurd gq W
        · rw [AK e]
 cases hf:fl.getD j false with
 |false=>
  refine ZA B (F.sel j oj · · B) Z ((hs j oj v cu).2 hf _ w H.stage) fun w' ax=>hK _ _ (ek w' fun k hk=>?_);rw [hk,Ky ops.size (fun i=>L.getD i false&&fl.getD i false) _ fun i _=>by
   rw [G];by_cases e:i=j;· subst e;simp only [hf];simp
   · rw [AK e]]
  exact ax
 |true=>
  have d9:((List.range ops.size).countP fun i=>L.getD i false&&fl.getD i false)=F9 (fl.take j):=by
   rw [<-O3 fl ops.size (by rw [F.len];exact CM _) j A1];refine Ky _ _ _ fun i hi=>?_;cases hfi:fl.getD i false with
   |false=>simp
   |true=>
    simp only [iz];rcases Nat.lt_trichotomy i j with h|h|h
    · rw [I i h (F.flags i j oj B h hfi hf)];simp [h]
    · subst h;rw [U];simp
    · obtain ⟨oi,af⟩:∃oi,ops[i]?=some oi:=⟨_,HG hi⟩
      rw [J i oi af h (F.flags j i oi af h hf hfi)];simp;omega
  have kv:=H.stage;rw [d9]at kv;refine ZA B (F.sel j oj · · B) Z ((hs j oj v cu).1 hf w kv) fun w' ax=>hK _ _ (ek w' fun k hk=>?_);rw [hk,QO ops.size j (fun i=>L.getD i false&&fl.getD i false) _ X (by simp only [U];rfl) (by simp only [G,hf];simp) (fun i _ o8=>by rw [G,AK o8]),d9];exact ax
theorem XL(F:Im ops fl N)(hx:x.map (·.1)=ops.toList)
 (hs:∀j o v,x[j]?=some (o,v)->(fl.getD j false=true->∀w,S (F9 (fl.take j)) w->M7 P ops o (pre j x a0) v (S (F9 (fl.take j)+1)) w)/\
   (fl.getD j false=false->∀i w,S i w->M7 P ops o (pre j x a0) v (S i) w))
 (hq:∀w,S (F9 (fl.take ops.size)) w->Q .normal (pre ops.size x a0) w):
 ∀(B:Nat) (L:Array Bool) (a:Act) (w:World),((List.range ops.size).countP fun i=>!L.getD i false)<=B->Jo ops fl S x a0 L a w->wpAny P .any ops Q B L a w:=by
 have U:∀(L:Array Bool) (a:Act) (w:World),Jo ops fl S x a0 L a w->Region.ready .any ops L=[]->Q .normal a w:=by
  intro L a w H W;have O:∀j,j<ops.size->L.getD j false=true:=by
   intro j;induction j using Nat.strongRecOn with
   |ind j ih=>
    intro X;cases hl:L.getD j false with
    |true=>rfl
    |false=>
     obtain ⟨oj,J⟩:∃oj,ops[j]?=some oj:=⟨_,HG X⟩;have:j∈Region.ready .any ops L:=mem_ready.2 ⟨by
      rw [LR,HG (by rw [H.size];exact X)]at hl⊢;simpa using hl,oj,J,fun e he hb=>by
       have:=F.edge j oj e J he hb;exact ih e.on this A1⟩
     rw [W]at this;cases this
  have bg:x.length=ops.size:=by have:=congrArg List.length hx;simpa using this
  have ha:a=pre ops.size x a0:=by
   rw [H.act,<-RO ops.size 0 x a0];have Z:∀(t:Nat) (k:Nat) (y:Oper×Value),x[k]?=some y->y.1.dst=some t->(fun i=>L.getD i false) (0+k)=(fun k=>decide (k<0+ops.size)) (0+k):=fun t k y hy _=>by
    have:k<x.length:=(BE.1 hy).1;simp only [D0];rw [O k A1];simp;omega
   refine J7 (by rw [D5,D5]) (by rw [FJ,FJ]) fun t ht=>?_;rw [D5]at ht;rw [EF _ _ _ _ _ ht,EF _ _ _ _ _ ht];exact F3 _ _ t 0 x _ (Z t)
  rw [ha];refine hq w ?_;have ax:=H.stage
  rw [<-O3 fl ops.size (by rw [F.len];exact CM _) ops.size (CM _)];rw [Ky ops.size (fun i=>L.getD i false&&fl.getD i false) _ fun i hi=>by rw [O i hi];simp [hi]];exact ax
 intro B;induction B with
 |zero=>
  intro L a w hc H;have W:Region.ready .any ops L=[]:=by
   cases W:Region.ready .any ops L with
   |nil=>rfl
   |cons j js=>
    have X:j∈Region.ready .any ops L:=by rw [W];exact E4 ..
    obtain ⟨G,oj,J,_⟩:=mem_ready.1 X;have I:j<ops.size:=(HS.1 J).1
    have K:L.getD j false=false:=by
     rw [LR]at G⊢;rw [HG (by rw [H.size];exact I)]at G⊢;simpa using G
    have:0<(List.range ops.size).countP fun i=>!L.getD i false:=List.countP_pos_iff.2 ⟨j,Kd.2 I,by rw [K];rfl⟩;omega
  exact ⟨W,U L a w H W⟩
 |succ B ih=>
  intro L a w hc H;refine ⟨fun W=>U L a w H W,fun j X=>sI F hx hs H X fun a' w' H'=>ih _ a' w' ?_ H'⟩;obtain ⟨G,oj,J,_⟩:=mem_ready.1 X;have I:j<ops.size:=(HS.1 J).1
  have K:L.getD j false=false:=by
   rw [LR]at G⊢;rw [HG (by rw [H.size];exact I)]at G⊢;simpa using G
  have:=QO ops.size j (fun i=>!(L.setIfInBounds j true).getD i false) (fun i=>!L.getD i false) I (by simp [H.size,I]) (by rw [K];rfl) (fun i _ af=>by rw [getD_set_ne false (da af)]);omega
end
theorem wpLin_keep{P:Program}{ops:Array Oper}{S:Nat->World->Prop}{Q:Act->World->Prop}{a:Act}{k:Nat}{o:Oper}{l:List Oper}{fs:List Bool}{env:List (Nat×Value)}{v:Value}(h:∀j w,S j w->ZB P ops o a env v (S j) w)(h2:NB P ops S Q a k l fs (putE o.dst v env)):NB P ops S Q a k (o::l) (false::fs) env:=⟨v,h,h2⟩
theorem wpLin_move{P:Program}{ops:Array Oper}{S:Nat->World->Prop}{Q:Act->World->Prop}{a:Act}{k:Nat}{o:Oper}{l:List Oper}{fs:List Bool}{env:List (Nat×Value)}{v:Value}(h:∀w,S k w->ZB P ops o a env v (S (k+1)) w)(h2:NB P ops S Q a (k+1) l fs (putE o.dst v env)):NB P ops S Q a k (o::l) (true::fs) env:=⟨v,h,h2⟩
theorem wpLin_done{P:Program}{ops:Array Oper}{S:Nat->World->Prop}{Q:Act->World->Prop}{a:Act}{k:Nat}{env:List (Nat×Value)}{fs:List Bool}(h:∀w,S k w->Q (putsE env a) w):NB P ops S Q a k [] fs env:=h
theorem wp_region_lin{P:Program}{id:Nat}{ops:Array Oper}{Q:Exit->Act->World->Prop}{a:Act}{w:World}(fl:List Bool)(S:Nat->World->Prop)(N:Nat)(O:a.tmps.size=N)
 (X:P.follows .mixedOrders=true)(G:TQ ops fl N=true)(U:S 0 w.drew)(h:∀I,I=a->NB P ops S (fun a w=>Q .normal a w) I 0 ops.toList fl []):(Code.region id ops true).wp P Q a w:=by
 have F:=fF G;obtain ⟨x,hx,hs,hq⟩:=Rc _ _ _ _ (fun o Z d W=>by
  obtain ⟨j,B⟩:=List.mem_iff_getElem?.1 Z;rw [O];exact F.room j o d (by simpa using B) W) (fun x hx=>by cases hx) (h a V)
 refine wp_region_any X (XL (S:=S) (a0:=a) F hx (fun j o v B=>?_) ?_ _ _ _ _ ?_ ?_)
 · have:=hs j o v B
   simpa [putsE]using this
 · simpa [putsE]using hq
 · refine MY List.countP_le_length ?_
   simp
 · refine ⟨by simp,fun j oj B J=>?_,?_,?_⟩
   · simp [gh]at J
     split at J<;>simp_all
   · have:=RO 0 0 x a
     refine J7 (by rw [D5]) (by rw [FJ]) fun t K=>?_;rw [EF _ _ _ _ _ K];rw [F3 _ (fun k=>decide (k<0+0)) t 0 x _ fun k y _ _=>by simp [gh];split<;>rfl];rw [<-EF _ _ _ _ _ K,this];rfl
   · have:((List.range ops.size).countP fun i=>(Array.replicate ops.size false).getD i false&&fl.getD i false)=0:=by
      rw [List.countP_eq_zero];intro i _;simp [gh];split<;>simp
     rw [this];exact U
end Gl
namespace Gw
open Go Go.RowKit Go.Sort
theorem aJ{α:Type}(f:α->List Value)(k:Nat)(B:∀x,(f x).length=k):∀(l:List α) (i r:Nat) (a:α),l[i]?=some a->r<k->(l.flatMap f)[i*k+r]?=(f a)[r]?
 |[],i,r,a,h,_=>by simp at h
 |x::l,0,r,a,h,hr=>by
  simp only [Ys,W1]at h;subst h;rw [HL,en,D0,cC (by rw [B];exact hr)]
 |x::l,i+1,r,a,h,hr=>by
  simp only [cD]at h;rw [HL,SM (by rw [B,Ks];omega),B,show(i+1)*k+r -k=i*k+r by rw [Ks];omega];exact aJ f k B l i r a h hr
theorem aI{α:Type}(f:α->List Value)(k:Nat)(B:∀x,(f x).length=k):∀(l:List α),(l.flatMap f).length=l.length*k
 |[]=>by simp
 |x::l=>by rw [HL,B7,aI f k B l,B,DG,Ks];omega
theorem Ny{α:Type} [Inhabited α](f:α->List Value)(k:Nat)(B:∀x,(f x).length=k)(l:List α):(flatK f k l.toArray).toList=l.flatMap f:=by
 apply MT;intro t;by_cases G:t<l.length*k
 · have K:0<k:=by
    rcases PB k with h|h
    · subst h;simp at G
    · exact h
   have I:t/k<l.length:=nv (by rwa [mA]at G);have h2:t%k<k:=er _ K
   have e:=aJ f k B l (t/k) (t%k) l[t/k] (B3 I) h2;rw [Nat.div_add_mod' t k]at e;rw [e];have J:t%k<(f l[t/k]).length:=by rw [B];exact h2
   unfold flatK;rw [HH];simp [G,I,J]
 · rw [Lz Hh,Lz (by rw [aI f k B];omega)]
theorem Te{α:Type} [Inhabited α]{w:World}{g:Nat}{cur:Array Value}{e:TypeId}{z:Nat×Nat}(f:α->List Value)(k:Nat)(O:∀x,(f x).length=k)(l:List α)(K:w.heap[g]?=some (.cells cur e z))(U:l.length*k<=cur.size)(B:Ih z cur.size)(W:cur.toList.take (l.length*k)=l.flatMap f):HoldsK f k w g 0 l.toArray:=by
 intro j G;have I:j<l.length*k:=by simpa using G
 have X:=B j A1;have h0:=Ny f k O l
 have J:(cur.toList.take (l.length*k))[j]?=(flatK f k l.toArray).toList[j]?:=by rw [W,h0]
 rw [ke I,HH,HH]at J;refine ⟨?_,?_⟩
 · simp only [World.cell?,K,D0]
   simp only [oE,MA,HF];rw [J,HG G,getElem!_pos _ j G];rfl
 · simp only [World.frozen?,K,D0]
   simp;omega
theorem VN(cur F:Array Value)(h:F.size<=cur.size):(putCells id 0 F cur).toList.take F.size=F.toList:=by
 apply MT;intro j;rw [HC];by_cases B:j<F.size
 · rw [AM B,HH]
   unfold putCells;rw [nj,HG A1];simp [B]
 · rw [AK B,Lz Hh]
theorem Me(cur F:Array Value):(putCells id 0 F cur).size=cur.size:=by simp [putCells]
theorem Sat.sortedK{α:Type} [Inhabited α]{u w:World}{g n k:Nat}{cur:Array Value}{e:TypeId}{z:Nat×Nat}{R:Hp}(f:α->List Value)(d:Array α)(os:Array Obj)(h:Sat u ([(g,.cells cur e z)]::R) w):Sat u ([(g,.cells (putCells id 0 (flatK f k d) cur) e z)]::R) (Go.Proofs.sortWorldK f k w g 0 n d os):=by
 have I:=h.get (g,.cells cur e z) B0;have G:Sat u ([(g,.cells (putCells id 0 (flatK f k d) cur) e z)]::R) (putRowK f k (Sort.ahead w n) g 0 d):=by
  refine h.upd (.here _) V rfl V ?_ fun k B=>?_;· simp [putRowK,putRow,mapBlock,Sort.ahead,SR,I,onCells]
  · have:g≠k:=fun e=>B e.symm
    simp [putRowK,putRow,mapBlock,Sort.ahead,SR,this]
 exact G.below ⟨V,V,V,by simp [Go.Proofs.sortWorldK,grow],fun k B=>heap_grow_old _ _ B⟩
theorem Pk{α:Type} [Inhabited α](f:α->List Value)(k:Nat)(w:World)(g n b:Nat)(d:Array α)(os:Array Obj)(B:g≠b)(I:b<w.heap.size):(Go.Proofs.sortWorldK f k w g 0 n d os).heap[b]?=w.heap[b]?:=by
 have G:(putRowK f k (Sort.ahead w n) g 0 d).heap[b]?=w.heap[b]?:=by
  simp [putRowK,putRow,mapBlock,Sort.ahead,SR,B]
 unfold Go.Proofs.sortWorldK;rw [<-G];refine heap_grow_old _ _ ?_;simpa [putRowK,putRow,mapBlock,Sort.ahead]using I
end Gw
namespace Gw
open Go Go.RowKit
section
variable{P:Program}{u:World}{env:Env}{H R:Hp}{d:Option Nat}{ty:TypeId}{pos:String}{af:Array Edge}{g:Option (Nat×Bool)}
def UE(t1 t2 k1 k2:Int)(x y:V3):Prop:=t1=t2/\k1=k2/\x=y
instance(t1 t2 k1 k2:Int)(x y:V3):Decidable (UE t1 t2 k1 k2 x y):=inferInstanceAs(Decidable (_/\_/\_))
theorem rN{t e ta:TypeId}{f0 f1 f2:Field}(w:World)(n:Nat)(t1 t2 k1 k2:Int)(x y:V3)(hu:P.underlying t=some (.struct #[f0,f1,f2]))(hst:P.stoodInHeld t=false)
 (h0:f0.name≠ "_"∧f0.type=e∧f0.offset=0)(h1:f1.name≠ "_"∧f1.type=e∧f1.offset=1)(h2:f2.name≠ "_"∧f2.type=ta∧f2.offset=2)
 (he:P.underlying e=some (.int .i64))(hta:P.underlying ta=some (.array 3 e))(ha:∀w:World,(isAgg e).run P w= .ok false w)(hs:∀w:World,(Go.sizeOf e).run P w= .ok 1 w)
 (haa:∀w:World,(isAgg ta).run P w= .ok true w)(hsa:∀w:World,(Go.sizeOf ta).run P w= .ok 3 w):
 (Op.equalIn (n+3) t (.agg #[I4 t1,I4 k1,I4 x.a,I4 x.b,I4 x.c]) (.agg #[I4 t2,I4 k2,I4 y.a,I4 y.b,I4 y.c])).run P w= .ok (decide (UE t1 t2 k1 k2 x y)) w:=by
 obtain ⟨n0,e0,o0⟩:=h0;obtain ⟨n1,e1,o1⟩:=h1;obtain ⟨n2,e2,o2⟩:=h2;have ei:∀(m k:Int) (w:World),(Op.equalIn (n+2) e (I4 m) (I4 k)).run P w= .ok (decide (m=k)) w:=fun m k w=>RU (n+1) w he m k
 have ea:∀(w:World),(Op.equalIn (n+2) ta (.agg #[I4 x.a,I4 x.b,I4 x.c]) (.agg #[I4 y.a,I4 y.b,I4 y.c])).run P w= .ok (decide (x=y)) w:=fun w=>RV w n x y hta he ha hs;have p0:∀(v0 v1 v2 v3 v4:Value) (w:World),(part e #[v0,v1,v2,v3,v4] 0).run P w= .ok v0 w:=fun _ _ _ _ _ w=>FU w (ha w) _ _ rfl
 have p1:∀(v0 v1 v2 v3 v4:Value) (w:World),(part e #[v0,v1,v2,v3,v4] 1).run P w= .ok v1 w:=fun _ _ _ _ _ w=>FU w (ha w) _ _ rfl;have p2:∀(v0 v1 v2 v3 v4:Value) (w:World),(part ta #[v0,v1,v2,v3,v4] 2).run P w= .ok (.agg #[v2,v3,v4]) w:=fun _ _ _ _ _ w=>by simp [part,haa,hsa]
 rw [show n+3=(n+2)+1 from rfl,Op.equalIn];generalize n+2=m at*;simp only [Sem.run_bind,run_underlying hu,Result.andThen_ok,run_program,hst,MA,HF];rw [<-oT];simp only [lO,ox,n0,n1,n2,e0,e1,e2,o0,o1,o2,ne_eq,fy,HR];simp only [Sem.run_bind,p0,p1,p2,ei,ea,Result.andThen_ok];have hd:decide (UE t1 t2 k1 k2 x y)=(decide (t1=t2)&&(decide (k1=k2)&&decide (x=y))):=by
  by_cases h:UE t1 t2 k1 k2 x y
  · rw [Cp h,Cp h.1,Cp h.2.1,Cp h.2.2];rfl
  · rw [CN h]
    by_cases c1:t1=t2<;>by_cases c2:k1=k2<;>by_cases c3:x=y<;>simp [c1,c2,c3]
    exact h ⟨c1,c2,c3⟩
 rw [hd];generalize decide (x=y)=b3 at*;by_cases c1:t1=t2<;>by_cases c2:k1=k2<;>cases b3<;>simp [c1,c2,p0,p1,p2,ei,ea,n1,n2]
section
variable{t yt e ta:TypeId}{f0 f1 f2:Field}{x y:Operand}{t1 t2 k1 k2:Int}{p q:V3}
theorem Vd(hg:P.eqGuardType P.depth t=false)(hu:P.underlying t=some (.struct #[f0,f1,f2]))(hst:P.stoodInHeld t=false)
 (h0:f0.name≠ "_"∧f0.type=e∧f0.offset=0)(h1:f1.name≠ "_"∧f1.type=e∧f1.offset=1)(h2:f2.name≠ "_"∧f2.type=ta∧f2.offset=2)
 (he:P.underlying e=some (.int .i64))(hta:P.underlying ta=some (.array 3 e))(ha:∀w:World,(isAgg e).run P w= .ok false w)(hs:∀w:World,(Go.sizeOf e).run P w= .ok 1 w)
 (haa:∀w:World,(isAgg ta).run P w= .ok true w)(hsa:∀w:World,(Go.sizeOf ta).run P w= .ok 3 w)
 (hx:∀a,ev a env x= .agg #[I4 t1,I4 k1,I4 p.a,I4 p.b,I4 p.c])(hy:∀a,ev a env y= .agg #[I4 t2,I4 k2,I4 q.a,I4 q.b,I4 q.c]):OpP P ⟨d,.binOp .neq t x y yt,ty,pos,af,g⟩ env [] (.bool (decide (¬UE t1 t2 k1 k2 p q))):=fun a w _=>by
 simp [Cm,hx a,hy a,go_sem,run_eqGuard_agg w _ t _ _ _ _ hg,MI,Op.equal,Op.maxDepth,rN w 9997 t1 t2 k1 k2 p q hu hst h0 h1 h2 he hta ha hs haa hsa]
end
end
theorem Gy{P:Program}{f:FuncId}{args:Array Value}{H H1:Hp}{Q I:Value->Hp->Prop}(h:Ba P f args H Q)(U:H1.flatten=H.flatten)(W:∀v H',Q v H'->∃B,I v B/\B.flatten.Perm H'.flatten):Ba P f args H1 I:=fun u R w X=>
 Calls.mono (h u R w (X.sub ⟨[],by simp [U]⟩)) fun e Z O=>by
  rcases O with⟨v,H',rfl,G,h2⟩|⟨ch,H',rfl,G,h2⟩
  · obtain ⟨B,J,K⟩:=W v H' G
    refine .inl ⟨v,B,V,J,h2.perm ?_⟩;rw [Ge,Ge];exact K.symm.append_right _
  · exact G.elim
section
variable{P:Program}{ops:Array Oper}{A:List Nat}{F:Nat}{cx:Cx}{Q:Exit->Act->World->Prop}{n D:Nat}{T:List (Nat×AA)}{env:Env}{H:Hp}
theorem CQ{d:Nat}{I:Op}{ty:TypeId}{pos:String}{af:Array Edge}{v:Value}{b:Nat}{x:Obj}{D':Nat}(i:Nat)(O:ops[i]?=some ⟨some d,I,ty,pos,af,none⟩)(B:(!bit F i&&!bit D i&&Ez (A.getD i 0) D)=true)(J:D|||(1<<<i)=D')(K:(b,x)∈H.flatten)(G:OpP P ⟨some d,I,ty,pos,af,none⟩ env [(b,x)] v)
 (k:Lin P ops A F cx Q n D' ((i,(b,x))::T) ((d,v)::env) H):Lin P ops A F cx Q (n+1) D T env H:=by
 simp only [F2,SZ]at B;subst J;exact .inl ⟨i,_,v,[(b,x)],O,B.1.2,B.2,by simpa using K,.inl ⟨fun _=>rfl,G⟩,k⟩
theorem XJ{d:Nat}{I:Op}{ty:TypeId}{pos:String}{af:Array Edge}{g:Nat×Bool}{v:Value}{b:Nat}{x:Obj}{D':Nat}(i:Nat)(O:∀a,wantedE ops a env (some g)=true)(U:ops[i]?=some ⟨some d,I,ty,pos,af,some g⟩)(B:(!bit F i&&!bit D i&&Ez (A.getD i 0) D)=true)(J:D|||(1<<<i)=D')(K:(b,x)∈H.flatten)(G:OpP P ⟨some d,I,ty,pos,af,some g⟩ env [(b,x)] v)
 (k:Lin P ops A F cx Q n D' ((i,(b,x))::T) ((d,v)::env) H):Lin P ops A F cx Q (n+1) D T env H:=by
 simp only [F2,SZ]at B;subst J;exact .inl ⟨i,_,v,[(b,x)],U,B.1.2,B.2,by simpa using K,.inl ⟨O,G⟩,k⟩
theorem FK{i b:Nat}{x:Obj}(h:(b,x)∈H.flatten)(G:∀p∈T,p.2∈H.flatten):∀p∈((i,(b,x))::T),p.2∈H.flatten:=by
 intro p B;rcases D4.1 B with rfl|B
 · exact h
 · exact G p B
end
theorem Lv{cx:Cx}{E:Env->Hp->Prop}{env e:Env}{H Hn:Hp}{Q:Exit->Act->World->Prop}(B:E e Hn):Nx cx ((Exit.then (fun a w=>∃e Hn,E e Hn/\Is cx (e++env) (Hn++H) a w) Q) .normal) (e++env) (Hn++H):=fun a _ G=>⟨e,Hn,B,a,G,rfl⟩
section
variable{F:Fence}{n:Nat}{P:Program}{Q:Exit->Act->World->Prop}{a:Act}{w:World}{b:Frame}{k:List Item}{cs:List Frame}
theorem Gh{c:Code}:step P (lone (b.atR a (.code (.scope c)::k)) cs w)= .next (lone (b.atR a (.code c:: .inScope c::k)) cs w):=
 step_lone_go (by simp [stepG,stepG.exec,Frame.atR])
theorem UM{c:Code}:step P (lone (b.atR a (.inScope c::k)) cs w)= .next (lone (b.atR a k) cs w):=
 step_lone_go (by simp [stepG,stepG.exec,Frame.atR])
theorem bL{c:Code}(h:c.wpIn F n P (Exit.noGoto Q) a w):(Code.scope c).wpIn F n P Q a w:=by
 intro b k cs X K U;have h0:(lone (b.atR a (.code (.scope c)::k)) cs w).fenced P F:=fenced_calm K U rfl
 obtain ⟨e,I,J,G,B⟩:=h b (.inScope c::k) cs X K U;cases e with
 |normal=>exact ⟨.normal,I,J,G,.head h0 Gh (StepsIn.trans B (.one (fenced_calm K U rfl) UM))⟩
 |exit id'=>
  have hx:exitTo id' (.inScope c::k)=exitTo id' k:=by simp [exitTo]
  exact ⟨.exit id',I,J,G,fun Z O=> .head h0 Gh (B.1 Z (by rw [hx];exact O)),
   fun W O=>let⟨k₁,h1,h2⟩:=B.2 W (by rw [hx];exact O);⟨k₁,h1,.head h0 Gh h2⟩⟩
 |goto l=>exact G.elim
 |ret=>exact ⟨_,I,J,G,.of_steps (.one h0 Gh) B⟩
 |panic ch=>exact ⟨_,I,J,G,.of_steps (.one h0 Gh) B⟩
 |outgrown=>exact ⟨_,I,J,G,.of_steps (.one h0 Gh) B⟩
end
section
variable{P:Program}{cx:Cx}{Q:Exit->Act->World->Prop}{env:Env}{H:Hp}
theorem U9{c:Code}(h:At P cx c (Exit.noGoto Q) env H):At P cx (.scope c) Q env H:=fun a w B=>bL (h a w B)
theorem Km(h:Nx cx (Q .ret) env H):Nx cx (Exit.noGoto Q .ret) env H:=h
end
def WP{α:Type}(P:Program)(gf:FuncId)(lb:Array Value)(Hit Hk:Hp)(Enc:α->Array Value->List AA->Prop)(xs:List α):Prop:=
 ∀(l:Nat) (J:List α->List AA->Prop),(∀pre x post s vs sx,xs=pre++x::post->J pre s->Enc x vs sx->GD P l vs [sx,s] (fun v H'=>∃s',v= .bool true/\H'=[s']/\J (pre++[x]) s'))->
  ∀s,J [] s->Ba P gf (#[.func (.yield l) #[] #[]]++lb) (Hit++(Hk++[s])) (fun _ H'=>∃s',H'=Hk++[s']/\J xs s')
theorem Xp{α:Type}{P:Program}{cx:Cx}{Q:Exit->Act->World->Prop}{env:Env}{H ax Hk H0 R:Hp}{g:Operand}{ps:Array Tmp}{G W:Code}{gf:FuncId}{lb:Array Value}{Enc:α->Array Value->List AA->Prop}{xs:List α}
 (I:List α->Hp->Prop)(E:α->Array Value->List AA->Env->Hp->Prop)(hr:cx.r=none)(hg:∀a,ev a env g= .func (.func gf) #[] lb)(Z:∀(args:Array Value) (w:World),(callFunc gf args).run P w= .ok (.enter gf args) w)
 (af:WP P gf lb ax Hk Enc xs)(bn:∀x vs O,Enc x vs O->vs.size=ps.size)(bg:(ps.toList.all fun t=>Nat.blt t cx.N)=true)(hp:Ew (ax++(Hk++H0)) H R)(h0:I [] H0)
 (U:∀(l:Nat) (x:α) (vs:Array Value) (O:List AA) (u:World) (H:Hp),Enc x vs O->At P ⟨cx.N,[],u,some l⟩ G (Exit.then (fun a w=>∃e Hn,E x vs O e Hn/\Is ⟨cx.N,[],u,some l⟩ (e++env) (Hn++H) a w) (fun _ _ _=>False)) ((ps.toList.zip vs.toList).reverse++env) H)
 (X:∀(l:Nat) (pre:List α) (x:α) (B:List α) (u:World) (vs:Array Value) (O:List AA) (e:Env) (Hn H1 R1:Hp),xs=pre++x::B->I pre H1->Enc x vs O->E x vs O e Hn->At P ⟨cx.N,[],u,some l⟩ W (Ig u I (pre++[x]) R1) (e++env) (H1++(O::(Hn++R1))))
 (hk:∀(D:Nat) (H2:Hp),I xs H2->Nx ⟨cx.N,⟨.collected D,#[]⟩::cx.D,cx.u,none⟩ (Q .normal) env ([(D,.deferred (some []))]::(Hk++(H2++R)))):At P cx (.rangeFunc g ps G W) Q env H:=
 Mv (A:=fun _ _=>True) (St:=False) (Adm:=fun p=>∃B,xs=p++B) (Full:=fun ys=>ys=xs) I (fun _ _=>False) E hr hg Z (fun l J Jx _ hX hy s h9=>(af l J (fun pre x B s vs O hx hj he u R w hs K Kp hK=>hy pre x s vs O ⟨B,by rw [hx,Cd];rfl⟩ hj he u R w hs K Kp fun v H' w' ⟨s',h1,h2⟩ h4=>h2.elim (fun h=>hK v H' w' ⟨s',h.1,h1,h.2⟩ h4) fun h=>(hX _ _ h.2).elim) s h9).mono (by rintro v H' ⟨s',h1,h2⟩;exact ⟨s',h1,.inl ⟨xs,rfl,h2⟩⟩)) (fun _ _ h=>h) (fun _ _ _ _ _=>trivial) bn bg hp h0 U
  (fun l pre x u vs O e Hn H1 R1 r0 ⟨B,hx⟩ hI he hE=>Px (X l pre x B u vs O e Hn H1 _ (by rw [hx,Cd];rfl) hI he hE)) (fun D ys H2 hf hI=>by rw [hf]at hI;exact hk D H2 hI) fun _ _ _ h=>h.elim
section
variable{P:Program}{env:Env}{d:Option Nat}{ty:TypeId}{pos:String}{af:Array Edge}{g:Option (Nat×Bool)}
theorem QB{x y:Operand}{Ts:Array TypeId}{k:IntKind}{m n:Int}(hx:∀a,ev a env x= .int k m)(hy:∀a,ev a env y= .int k n):OpP P ⟨d,.call ⟨.builtin .max,#[x,y],Ts⟩,ty,pos,af,g⟩ env [] (.int k (max m n)):=fun a w _=>by
 simp [Dz,resolve,invoke,builtin,hx a,hy a,Builtin.max_,Builtin.max2];by_cases h:m<n;· simp [h,show max m n=n by omega]
 · simp [h,show max m n=m by omega]
theorem eO{x y:Operand}{Ts:Array TypeId}{k:IntKind}{m:Nat}(hx:∀a,ev a env x= .int k ((m:Int) -1))(hy:∀a,ev a env y= .int k 0):OpP P ⟨d,.call ⟨.builtin .max,#[x,y],Ts⟩,ty,pos,af,g⟩ env [] (.int k ((m -1:Nat):Int)):=by
 have h:=QB (P:=P) (d:=d) (ty:=ty) (pos:=pos) (af:=af) (g:=g) (Ts:=Ts) hx hy;rwa [show max ((m:Int) -1) 0=((m -1:Nat):Int) by omega]at h
end
def FN(M:List AA)(p:Option Addr)(ys:List Value):Prop:=∀(j:Nat) (u:Value),ys[j]?=some u->∃g o c T z,p=some ⟨g,o,none⟩/\(g,Obj.cells c T z)∈M/\c[o+j]?=some u
theorem One.mem9{s:List AA}{H R:Hp}(h:One s H R):∀c∈s,c∈H.flatten:=by
 intro c hc;have:=h.perm.mem_iff (a:=c)
 rw [this];simp [hc]
section
variable{P:Program}{u:World}{env:Env}{H R R2:Hp}{d:Option Nat}{ty:TypeId}{pos:String}{af:Array Edge}{g:Option (Nat×Bool)}
theorem Hl{x y:Operand}{t e:TypeId}{i:TypeInfo}{z:Value}{by_ sz n k c:Nat}{v:Value}{p:Option Addr}{xs ys:List Value}{s M:List AA}
 (ht:P.underlying t=some (.slice e))(hi:P.info? e=some i)(G:i.size=sz)(bg:i.bytes=by_)(ek:i.zero=some z)(d9:z.cells.size=sz)
 (hx:∀a,ev a env x=v)(B:Bc sz e v n xs s)(hy:∀a,ev a env y= .slice p k c)(J:FN M p ys)(hl:ys.length=k*sz)(h0:0<sz)(I:One s H R)(Z:One M R R2)(h1:∀u∈ys,u.oneCell'=true)
 (ax:n+k<=maxLen)(hb:(n+k)*by_<=140737488355328):
 OpW P u ⟨d,.call ⟨.builtin .append,#[x,y],#[t,t]⟩,ty,pos,af,g⟩ env H (fun v' H1=>∃s',Bc sz e v' (n+k) (xs++ys) s'/\H1=s'::R) (fun _ _=>False):=by
 rcases PB k with hk|hk
 · subst hk
   have cO:ys=[]:=Lw A1;subst cO;obtain ⟨b,c',rfl⟩:=B.form;have U:n<=c':=by
    obtain ⟨_,⟨hv,h0,_⟩|⟨_,_,_,_,hv,_,h2,_⟩⟩:=B;· omega
    · injection hv with _ _ hv3;omega
   intro a w X K Kp hK _;have bn:Sat u (s::R) w:=X.perm (by simpa using I.perm)
   have O:(Builtin.firstCells i.size 0 (.slice p 0 c)).run P w= .ok #[] w:=by
    cases p with
    |none=>simp [Builtin.firstCells]
    |some ad=>simp [Builtin.firstCells,loadCells,loadCellsFrom]
   have hr:(Builtin.append_ #[t,t] ty #[.slice b n c',.slice p 0 c]).run P w= .ok (.slice b n c') w:=by
    rw [G]at O;cases b with
    |none=>simp [Builtin.append_,run_underlying ht,Go.sizeOf,typeInfo,hi,G,Builtin.lenOf,U,O]
    |some ad=>simp [Builtin.append_,run_underlying ht,Go.sizeOf,typeInfo,hi,G,Builtin.lenOf,U,O,storeCells]
   have cu:(execOp (ev a env) ⟨d,.call ⟨.builtin .append,#[x,y],#[t,t]⟩,ty,pos,af,g⟩).run P w= .ok (.value (.slice b n c')) w:=by
    simp only [Dz,resolve,invoke,builtin,RT,DQ,J1,hx a,hy a,Sem.run_bind,Sem.run_pure,Result.andThen_ok,hr]
   rw [cu];exact hK _ _ _ ⟨s,by rw [DB];exact B,rfl⟩ bn
 · have W:0<ys.length:=by rw [hl];exact Nat.mul_pos hk h0
   obtain ⟨gb,o,_,_,_,rfl,_,_⟩:=J 0 _ (B3 W);refine Ur ht hi G bg ek d9 hx B hy I (fun w hs j v hj=>?_) hl h1 hk ax hb;obtain ⟨g',o',c1,T1,z1,e,hm,hc⟩:=J j v hj;injection e with e
   injection e with e1 e2
   subst e1 e2;rw [CY];exact Cn (hs.get _ (Z.mem9 _ hm)) hc
theorem Og{sz:Nat}{e:TypeId}{g k cap:Nat}{cur:Array Value}{z:Nat×Nat}{xs:List Value}(h:Bc sz e (I6 g k cap) k xs [(g,.cells cur e z)])(i:Nat)(v:Value):Bc sz e (I6 g k cap) k (xs.set i v) [(g,.cells (cur.setIfInBounds i v) e z)]:=by
 obtain ⟨hl,⟨h0,_⟩|⟨g',X,Z,z',hv,hs,J,B,G,W,I⟩⟩:=h;· cases h0
 · injection hv with hv1 _ hv3
   injection hv1 with hv1
   injection hv1 with hv1
   subst hv3;simp only [lf,j1,Obj.cells.injEq,eI,V2]at hs;obtain ⟨K,O,U⟩:=hs;subst K O U;refine ⟨by rw [cW];exact hl,.inr ⟨g,cap,_,z,rfl,rfl,J,B,by rw [SO];exact G,?_,by rw [SO];exact I⟩⟩;rw [gS,<-W,List.take_set]
end
theorem GM{c:Array Value}{i:Nat}{ys:List Value}(h:i+ys.length<=c.size):(EL c i ys).size=c.size:=by
 unfold EL;simp only [Gk,B7,C3,C2,SU];omega
theorem ES{sz:Nat}{e:TypeId}{g k cap:Nat}{cur:Array Value}{z:Nat×Nat}{xs ys:List Value}{i:Nat}(h:Bc sz e (I6 g k cap) k xs [(g,.cells cur e z)])(hi:i+ys.length<=xs.length):
 Bc sz e (I6 g k cap) k (xs.take i++ys++xs.drop (i+ys.length)) [(g,.cells (EL cur i ys) e z)]:=by
 obtain ⟨hl,⟨G,_⟩|⟨g',U,W,z',G,h2,I,J,B,O,K⟩⟩:=h;· injection G with G;cases G
 injection G with h3 _ h4
 injection h3 with h3
 injection h3 with h3
 injection h2 with h2 _
 injection h2 with _ h2
 injection h2 with h5 _ h6
 subst h3 h4 h5 h6;have X:k*sz<=cap*sz:=TO sz I
 have Z:cur.toList.length=cap*sz:=by rw [SU,B]
 have e1:cur.toList=xs++cur.toList.drop (k*sz):=by rw [<-O,Iv]
 refine ⟨?_,.inr ⟨g,cap,_,z,V,V,I,J,?_,?_,?_⟩⟩;· simp only [B7,C3,C2];omega
 · rw [GM (by rw [B];omega),B]
 · show(EL cur i ys).toList.take (k*sz)=_
   unfold EL;show(cur.toList.take i++ys++cur.toList.drop (i+ys.length)).take (k*sz)=_
   have t1:cur.toList.take i=xs.take i:=by
    conv=>lhs;rw [e1]
    exact bm A1
   have t2:cur.toList.drop (i+ys.length)=xs.drop (i+ys.length)++cur.toList.drop (k*sz):=by
    conv=>lhs;rw [e1]
    exact gC A1
   rw [t1,t2,<-Cd];refine HM ?_;simp only [B7,C3,C2];omega
 · show Ih z (EL cur i ys).size
   rw [GM (by rw [B];omega)];exact K
theorem VG{sz:Nat}{e:TypeId}{g k cap:Nat}{xs:List Value}{s:List AA}(h:Bc sz e (I6 g k cap) k xs s)(i:Nat)(hi:i<=k):Bc sz e (I6 g i cap) i (xs.take (i*sz)) s:=by
 obtain ⟨hl,⟨G,_⟩|⟨g',U,B,Z,G,rfl,X,I,J,O,K⟩⟩:=h;· injection G with G;cases G
 injection G with h3 _ h4
 injection h3 with h3
 injection h3 with h3
 subst h3 h4;have W:i*sz<=k*sz:=TO sz hi
 refine ⟨by rw [C3];omega,.inr ⟨g,cap,B,Z,rfl,rfl,by omega,I,J,?_,K⟩⟩;rw [<-O,To,Pc W]
theorem Jc{sz:Nat}{e:TypeId}{g k cap:Nat}{cur:Array Value}{z:Nat×Nat}{xs:List Value}(h:Bc sz e (I6 g k cap) k xs [(g,.cells cur e z)]):C8 cur 0 xs/\cur.size=cap*sz/\k<=cap/\cap<=maxLen/\Ih z cur.size:=by
 obtain ⟨X,⟨B,_⟩|⟨Z,U,W,z',B,h2,K,G,I,O,J⟩⟩:=h;· injection B with B;cases B
 injection B with h3 _ h4
 injection h2 with h2 _
 injection h2 with _ h2
 injection h2 with h5 _ h6
 subst h4 h5 h6;exact ⟨by unfold C8;rw [Pr,X];exact O,I,K,G,J⟩
theorem VF{sz:Nat}{e:TypeId}{g k cap:Nat}{cur:Array Value}{z:Nat×Nat}{xs:List Value}(h:Bc sz e (I6 g k cap) k xs [(g,.cells cur e z)])(m:Nat)(Z:k<=m)(I:m<=cap):∃ys,ys.length=(m -k)*sz/\Bc sz e (I6 g m cap) m (xs++ys) [(g,.cells cur e z)]:=by
 obtain ⟨G,B,W,J,K⟩:=Jc h;have U:=h.1
 have X:m*sz<=cap*sz:=TO sz I;have h2:k*sz+(m -k)*sz=m*sz:=by rw [<-Ks];congr 1;omega
 unfold C8 at G;rw [Pr,U]at G;refine ⟨(cur.toList.drop (k*sz)).take ((m -k)*sz),by rw [C3,C2,SU,B];omega,?_,.inr ⟨g,cap,cur,z,rfl,rfl,I,J,B,?_,K⟩⟩
 · have O:cur.toList.length=cap*sz:=by rw [SU,B]
   rw [B7,C3,C2,O,U];omega
 · conv=>rhs;rw [<-G]
   rw [<-h2,List.take_add]
theorem J5{c:Array Value}{o:Nat}{xs:List Value}(h:C8 c o xs)(i m:Nat)(B:i+m<=xs.length):C8 c (o+i) ((xs.drop i).take m):=by
 unfold C8 at*;rw [C3,C2,Pc A1];conv=>rhs;rw [<-h]
 rw [eh,To,Pc A1,ZD]
theorem RZ(z:Value)(m:Nat)(h:∀u∈z.cells.toList,u.oneCell'=true):∀y∈(Builtin.zeroCells z.cells m).toList,y.oneCell'=true:=by
 intro y hy;simp only [Builtin.zeroCells,nw,Array.mem_map,Array.mem_range]at hy;obtain ⟨j,I,rfl⟩:=hy;refine h _ ?_;have G:0<z.cells.size:=by
  rcases PB z.cells.size with h9|h9
  · rw [h9]at I;omega
  · exact h9
 have B:j%z.cells.size<z.cells.size:=er _ G;rw [getElem!_pos z.cells (j%z.cells.size) B];exact nw.2 (Array.getElem_mem B)
section
variable{P:Program}{u:World}{env:Env}{H H' R R2:Hp}{d:Option Nat}{ty:TypeId}{pos:String}{af:Array Edge}{g:Option (Nat×Bool)}
theorem JW{x y:Operand}{dT sT e:TypeId}{sz b o n cap Z o' n' G:Nat}{c c1:Array Value}{T T1:TypeId}{z z1:Nat×Nat}{cs:List Value}
 (hu:P.underlying dT=some (.slice e))(hs:∀w:World,(Go.sizeOf e).run P w= .ok sz w)(hx:∀a,ev a env x= .slice (some ⟨b,o,none⟩) n cap)(hy:∀a,ev a env y= .slice (some ⟨Z,o',none⟩) n' G)
 (W:Has Z (.cells c1 T1 z1) H)(O:One [(b,.cells c T z)] H R)(bg:C8 c1 o' cs)(hn:cs.length=min n' n*sz)(I:o+cs.length<=c.size)(hz:Ih z c.size)(h1:∀v∈cs,v.oneCell'=true):
 OpW P u ⟨d,.call ⟨.builtin .copy,#[x,y],#[dT,sT]⟩,ty,pos,af,g⟩ env H (fun v H1=>v=I4 ((min n' n:Nat):Int)/\H1=[(b,.cells (EL c o cs) T z)]::R) (fun _ _=>False):=fun a w B K Kp hK _=>by
 have U:Sat u ([(b,.cells c T z)]::R) w:=B.perm (by simpa using O.perm);have hb:=U.get (b,.cells c T z) (by simp)
 have ax:=B.get _ W.mem;have hl:=run_loadCells_list (P:=P) w ⟨Z,o',none⟩ cs (H6 ax bg)
 rw [hn]at hl;have X:=Ch (P:=P) b o T z cs 0 c w hb hz (by simpa using I) h1
 simp only [Pu]at X;have J:Nat.min n' n=min n' n:=rfl
 have:(execOp (ev a env) ⟨d,.call ⟨.builtin .copy,#[x,y],#[dT,sT]⟩,ty,pos,af,g⟩).run P w= .ok (.value (I4 ((min n' n:Nat):Int))) (w.setRow b (EL c o cs)):=by
  simp [Dz,resolve,invoke,builtin,hx a,hy a,Builtin.copy_,run_underlying hu,Builtin.lenOf,Builtin.firstCells,hs,J,hl,X,EL,goInt]
 rw [this];exact hK _ _ _ ⟨V,V⟩ (U.upd (.here _) V rfl V (setRow_heap w b c _ T z hb) fun k hk=>setRow_other w b k _ hk)
theorem LC{x y:Operand}{t ti e T:TypeId}{i:TypeInfo}{z:Value}{by_ sz k m cap gb:Nat}{cur:Array Value}{zz:Nat×Nat}{xs:List Value}
 (ht:P.underlying t=some (.slice e))(cO:P.underlying ti=some (.int .i64))(hi:P.info? e=some i)(cu:i.size=sz)(O:i.bytes=by_)(d9:i.zero=some z)(Z:z.cells.size=sz)
 (hx:∀a,ev a env x=I6 gb k cap)(hy:∀a,ev a env y=I4 (m:Int))(W:Has gb (.cells cur T zz) H)(bn:C8 cur 0 xs)(J:xs.length=k*sz)(h0:0<m)(gy:0<sz)(hg:cap<k+m)(ax:k+m<=maxLen)(hb:(k+m)*by_<=140737488355328):
 OpW P u ⟨d,.call ⟨.builtin .append,#[x,y],#[t,ti]⟩,ty,pos,af,g⟩ env H (fun v' H1=>∃s',Bc sz e v' (k+m) (xs++(Builtin.zeroCells z.cells m).toList) s'/\H1=s'::H) (fun _ _=>False):=fun a w I K Kp hK _=>by
 have gq:=mL;have hl:=run_loadCells_list (P:=P) w.drew ⟨gb,0,none⟩ xs (H6 (I.drew.get _ W.mem) bn)
 rw [J]at hl;have X:(Builtin.firstCells i.size k (I6 gb k cap)).run P w.drew= .ok xs.toArray w.drew:=by
  rw [cu];simp [Builtin.firstCells,hl]
 have gm:m*by_<=(k+m)*by_:=TO _ A1;have hr:=Lib.run_append_grow_zeros (P:=P) w t ti ty e i z .i64 .i64 ht cO hi d9 (some ⟨gb,0,none⟩) k cap xs X m h0 A1 hg A1 (by rw [O];omega) (growslice_fits A1 (by rw [O];exact hb))
 have B:∀{v':Value} {w':World},(Builtin.append_ #[t,ti] ty #[I6 gb k cap,I4 (m:Int)]).run P w= .ok v' w'->(execOp (ev a env) ⟨d,.call ⟨.builtin .append,#[x,y],#[t,ti]⟩,ty,pos,af,g⟩).run P w= .ok (.value v') w':=fun h=>by
  simp only [Dz,resolve,invoke,builtin,RT,DQ,J1,hx a,hy a,Sem.run_bind,Sem.run_pure,Result.andThen_ok,h]
 rw [B hr];have bg:=grownCap_ge w (k+m) cap e
 have U:grownCap w (k+m) cap e<=maxLen:=grownCap_le_maxLen w (k+m) cap e ax;have G:(xs++(Builtin.zeroCells z.cells m).toList).length=(k+m)*sz:=by
  have ek:(Builtin.zeroCells z.cells m).toList.length=m*sz:=by rw [SU,size_zeroCells,Z]
  rw [B7,ek,J,Ks]
 refine hK _ _ _ ⟨[(w.heap.size,.cells (xs.toArray++Builtin.zeroCells z.cells m++Builtin.zeroCells z.cells (grownCap w (k+m) cap e -(k+m))) e (0,0))],⟨G,.inr ⟨w.heap.size,grownCap w (k+m) cap e,_,(0,0),V,V,bg,U,?_,?_,BB _⟩⟩,V⟩ (I.drew.alloc _)
 · simp only [hY,size_zeroCells,Z,Gk,J]
   rw [<-Ks,<-Ks];congr 1;omega
 · simp only [cE]
   exact HM G
theorem OH{x:Operand}{t e:TypeId}{i:TypeInfo}{z:Value}{sz gb k cap m c:Nat}{cur:Array Value}{T:TypeId}{zz:Nat×Nat}
 (ht:P.underlying t=some (.slice e))(hi:P.info? e=some i)(bg:i.zero=some z)(ax:z.cells.size=sz)(cu:∀u∈z.cells.toList,u.oneCell'=true)
 (hx:∀a,ev a env x= .slice (EY (some ⟨gb,0,none⟩) k cap sz) m c)(hm:k+m<=cap)(W:cur.size=cap*sz)(X:Ih zz cur.size)(J:One [(gb,.cells cur T zz)] H R):
 OpW P u ⟨d,.call ⟨.builtin .clear,#[x],#[t]⟩,ty,pos,af,g⟩ env H (fun _ H1=>H1=[(gb,.cells (EL cur (k*sz) (Builtin.zeroCells z.cells m).toList) T zz)]::R) (fun _ _=>False):=fun a w O K Kp hK _=>by
 have G:Sat u ([(gb,.cells cur T zz)]::R) w:=O.perm (by simpa using J.perm);have B:∀{v':Value} {w':World},(Builtin.clear_ #[t] ty #[.slice (EY (some ⟨gb,0,none⟩) k cap sz) m c]).run P w= .ok v' w'->(execOp (ev a env) ⟨d,.call ⟨.builtin .clear,#[x],#[t]⟩,ty,pos,af,g⟩).run P w= .ok (.value v') w':=fun h=>by
  simp only [Dz,resolve,invoke,builtin,RT,DQ,J1,hx a,Sem.run_bind,Sem.run_pure,Result.andThen_ok,h]
 rcases PB m with h0|h0
 · subst h0
   have hr:(Builtin.clear_ #[t] ty #[.slice (EY (some ⟨gb,0,none⟩) k cap sz) 0 c]).run P w= .ok (.tuple #[]) w:=by
    have:∃q,EY (some ⟨gb,0,none⟩) k cap sz=some q:=by unfold EY;split<;>exact ⟨_,rfl⟩
    obtain ⟨q,Z⟩:=this;rw [Z];simp [Builtin.clear_,run_underlying ht]
   rw [B hr];refine hK _ _ _ V ?_;have:(Builtin.zeroCells z.cells 0).toList=[]:=Lw (by rw [SU,size_zeroCells];simp)
   rw [this,rF];exact G
 · have Z:EY (some ⟨gb,0,none⟩) k cap sz=some ⟨gb,k*sz,none⟩:=by
    unfold EY;rw [AK A1,N1,CY,D0]
   have hg:=G.get (gb,.cells cur T zz) B0;have bn:(Builtin.zeroCells z.cells m).toList.length=m*sz:=by rw [SU,size_zeroCells,ax]
   have I:∀y∈(Builtin.zeroCells z.cells m).toList,y.oneCell'=true:=RZ z m cu;have cO:k*sz+m*sz<=cap*sz:=by rw [<-Ks];exact TO _ hm
   have U:=Ch (P:=P) gb (k*sz) T zz (Builtin.zeroCells z.cells m).toList 0 cur w hg X (by rw [bn,W];omega) I;have hr:(Builtin.clear_ #[t] ty #[.slice (EY (some ⟨gb,0,none⟩) k cap sz) m c]).run P w= .ok (.tuple #[]) (w.setRow gb (EL cur (k*sz) (Builtin.zeroCells z.cells m).toList)):=by
    rw [Z];obtain ⟨m',rfl⟩:∃m',m=m'+1:=⟨m -1,by omega⟩;simp [Builtin.clear_,run_underlying ht,UN hi bg,EL]at U⊢;simp [U]
   rw [B hr];exact hK _ _ _ V (G.upd (.here _) V rfl V (setRow_heap w gb cur _ T zz hg) fun k hk=>setRow_other w gb k _ hk)
theorem Bo{t e:TypeId}{x lo:Operand}{b o n cap l sz:Nat}{K:IntKind}(J:P.underlying t=some (.slice e))(I:∀w:World,(Go.sizeOf e).run P w= .ok sz w)(hx:∀a,ev a env x= .slice (some ⟨b,o,none⟩) n cap)(G:∀a,ev a env lo= .int K (l:Int))(B:l<=n)(h2:l<cap):
 OpP P ⟨d,.slice t x (some lo) none none,ty,pos,af,g⟩ env [] (.slice (some ⟨b,o+l*sz,none⟩) (n -l) (cap -l)):=by
 have h:=C9 (d:=d) (ty:=ty) (pos:=pos) (af:=af) (g:=g) J I hx G B;have e1:EY (some ⟨b,o,none⟩) l cap sz=some ⟨b,o+l*sz,none⟩:=by
  unfold EY;rw [AK A1,N1,CY]
 rwa [e1]at h
theorem YT{t ty b j s1 s2:Nat}{fn:Func}{v x y:Value}(G:fn.results=#[.cell t ty,.tmp s1,.tmp s2]){w:World}{tmps:Array Value}(hx:tmps.getD t undef= .pointer (some ⟨b,j,none⟩))(B:(loadVar ty ⟨b,j,none⟩).run P w= .ok v w)(hy:tmps.getD s1 undef=x)(hz:tmps.getD s2 undef=y):(results fn tmps).run P w= .ok (.tuple #[v,x,y]) w:=by
 rw [LR]at hx hy hz;simp [results,G,hx,hy,hz,asAddr,B]
theorem Hz{e:Exit}{N:Nat}{r:Option Nat}{fn:Func}{Q:Value->Hp->Prop}{Pn:List PanicEntry->Hp->Prop}{H':Hp}{t ty b j s1 s2:Nat}{v x y:Value}{o:Obj}(I:Fa e=true)(U:fn.results=#[.cell t ty,.tmp s1,.tmp s2])(hv:∀a,G8 a env t= .pointer (some ⟨b,j,none⟩))(G:Has b o H)(J:∀w:World,w.heap[b]?=some o->(loadVar ty ⟨b,j,none⟩).run P w= .ok v w)(hx:∀a,G8 a env s1=x)(hy:∀a,G8 a env s2=y)(O:Q (.tuple #[v,x,y]) H')(K:Sub (H'++R) H:=by repeat(first|exact Sub.refl _|exact Sub.nil _|(apply Sub.cons;(focus (repeat(first|exact One.here _ _|apply One.there))))|refine Sub.drop _ ?_)):Nx ⟨N,[],u,r⟩ (bodyPost P fn (GX u R Q Pn) e) env H:=
 Lx I (fun a w B=>YT U (by rw [Ca a env (by rw [B.size];exact B.fit),hv a]) (J w (B.sat.get _ G.mem)) (by rw [Ca a env (by rw [B.size];exact B.fit),hx a]) (by rw [Ca a env (by rw [B.size];exact B.fit),hy a])) O K
theorem X4{t s q k:Nat}{fn:Func}(B:fn.results=#[.tmp t,.tmp s,.tmp q,.tmp k])(w:World)(tmps:Array Value):(results fn tmps).run P w= .ok (.tuple #[tmps.getD t undef,tmps.getD s undef,tmps.getD q undef,tmps.getD k undef]) w:=by simp [results,B]
theorem jC{e:Exit}{N:Nat}{r:Option Nat}{fn:Func}{Q:Value->Hp->Prop}{Pn:List PanicEntry->Hp->Prop}{H':Hp}{t s q k:Nat}{v x y z:Value}(G:Fa e=true)(K:fn.results=#[.tmp t,.tmp s,.tmp q,.tmp k])(hv:∀a,G8 a env t=v)(hx:∀a,G8 a env s=x)(hy:∀a,G8 a env q=y)(hz:∀a,G8 a env k=z)(J:Q (.tuple #[v,x,y,z]) H')(I:Sub (H'++R) H:=by repeat(first|exact Sub.refl _|exact Sub.nil _|(apply Sub.cons;(focus (repeat(first|exact One.here _ _|apply One.there))))|refine Sub.drop _ ?_)):Nx ⟨N,[],u,r⟩ (bodyPost P fn (GX u R Q Pn) e) env H:=
 Lx G (fun a w B=>by rw [X4 K,Ca a env (by rw [B.size];exact B.fit),Ca a env (by rw [B.size];exact B.fit),Ca a env (by rw [B.size];exact B.fit),Ca a env (by rw [B.size];exact B.fit),hv a,hx a,hy a,hz a]) J I
theorem TC{f:FuncId}{fn:Func}{ax:Array Operand}{ats:Array TypeId}{tS tR e:TypeId}{size a b oa ob la ca lb cb:Nat}{xa xb:Array Value}{Ta Tb:TypeId}{zb:Nat×Nat}
 (hf:P.funcs[f]?=some fn)(hname:(fn.name== "runtime.NumGoroutine")=false)(hb:fn.body.isNone=true)(hn:Extern.findNext fn=none)(he:Extern.find fn=some (Extern.SlicesOverlaps.overlaps #[tS,tS] #[tR]))
 (ht:P.underlying tS=some (.slice e))(hz:∀w:World,(Go.sizeOf e).run P w= .ok size w)(ha:∀c,ax.toList.map (ev c env)=[.slice (some ⟨a,oa,none⟩) la ca,.slice (some ⟨b,ob,none⟩) lb cb])(hne:a≠b)(hk:xb.size≠0):
 OpP P ⟨d,.call ⟨.value (.func f),ax,ats⟩,ty,pos,af,g⟩ env [(a,.cells xa Ta (0,0)),(b,.cells xb Tb zb)] (.bool false):=fun c w hs=>by
 have g1:=hs (a,.cells xa Ta (0,0)) (by simp);have g2:=hs (b,.cells xb Tb zb) (by simp)
 have h1:ax.map (ev c env)=#[.slice (some ⟨a,oa,none⟩) la ca,.slice (some ⟨b,ob,none⟩) lb cb]:=by
  have:=JJ (ev c env) ax;rw [this,ha c]
 have h2:=run_callFunc_extern hf hname hb hn he #[.slice (some ⟨a,oa,none⟩) la ca,.slice (some ⟨b,ob,none⟩) lb cb] w;rw [Lib.run_overlaps_apart w tS tR e ht size hz ⟨a,oa,none⟩ ⟨b,ob,none⟩ la ca lb cb hne Ta Tb xa.size xb.size (by simp [World.shape?,g1]) (by simp [World.shape?,g2]) hk (by simp [World.frozen?,g1]) (by simp [World.frozen?,g1])]at h2;have h3:ev c env (.func f)= .func (.func f) #[] #[]:=rfl
 simp [Dz,resolve,h3,Deferred.ofValue,invoke,h1,h2,Result.andThen]
end
section
variable{α:Type}{κ:α->Value}{D:α->Prop}{P:Program}{es:Array MapEntry}{clock r:Nat}{l:List (α×Value)}{kt et:TypeId}
variable{u:World}{env:Env}{H R:Hp}{d:Option Nat}{ty:TypeId}{pos:String}{af:Array Edge}{g:Option (Nat×Bool)}{t:TypeId}{m x y:Operand}{k:α}{v:Value}
theorem EG(W:Fv P kt κ D)(ht:P.underlying t=some (.map kt et))(hm:Co κ es clock l)(Z:∀p∈l,D p.1)(X:D k)(hx:∀a,ev a env m= .map (some r))(hy:∀a,ev a env x=κ k)(hv:∀a,ev a env y=v)(I:One [(r,.map es clock)] H R):
 OpW P u ⟨d,.insert t m x y,ty,pos,af,g⟩ env H (fun v' H1=>v'=undef/\∃G B O,Co κ G B O/\(∀p,p∈O↔p=(k,v)\/(p∈l/\p.1≠k))/\H1=[(r,.map G B)]::R) (fun _ _=>False):=fun a w hs K U J hp=>
 FE (d:=d) (ty:=ty) (pos:=pos) (af:=af) (g:=g) W ht hm Z X hx hy hv I a w hs K U J hp
theorem De [DecidableEq α]{et:TypeId}{z v0:Value}(G:Fv P kt κ D)(O:P.underlying t=some (.map kt et))(hz:∀w:World,(zeroValue et).run P w= .ok z w)(K:Co κ es clock l)(U:∀p∈l,D p.1)(I:D k)(hv:(EI k l).getD z=v0)(hx:∀a,ev a env m= .map (some r))(hy:∀a,ev a env x=κ k):
 OpP P ⟨d,.lookup t m x false,ty,pos,af,g⟩ env [(r,.map es clock)] v0:=fun a w W=>by
 have J:=W (r,.map es clock) B0;show((do pure (Next.value (<-Instr.lookup t (ev a env m) (ev a env x) false))):Sem Next).run P w=_
 rw [hx a,hy a,<-hv];rcases I9 G K U w k I with⟨B,h2⟩|⟨j,v,B,h2⟩
 · rw [DW h2]
   simp only [Instr.lookup,Sem.run_bind,run_underlying O,Result.andThen,MapKept.run_getObj_map J,F4 G I,Sem.run_pure,B,hz];rfl
 · rw [Cy K.keys (DE h2)]
   simp only [Instr.lookup,Sem.run_bind,run_underlying O,Result.andThen,MapKept.run_getObj_map J,F4 G I,Sem.run_pure,B];rfl
theorem Nl{d:Nat}{x y:Operand}{t yt e:TypeId}{p:Option Addr}(B:P.underlying t=some (.pointer e))(hx:∀a,ev a env x= .pointer p)(hy:∀a,ev a env y= .pointer none):OpP P ⟨some d,.binOp .eql t x y yt,ty,pos,af,g⟩ env [] (.bool p.isNone):=by
 cases p with
 |none=>exact Jr B hx hy
 |some a=>exact Be B hx hy
theorem Er{d:Nat}{x y:Operand}{t yt e:TypeId}{p:Option Addr}(B:P.underlying t=some (.pointer e))(hx:∀a,ev a env x= .pointer p)(hy:∀a,ev a env y= .pointer none):OpP P ⟨some d,.binOp .neq t x y yt,ty,pos,af,g⟩ env [] (.bool p.isSome):=by
 cases p with
 |none=>exact NL B hx hy
 |some a=>exact NK B hx hy
theorem Dw{c cs:Array Value}(h:cs.size=c.size):EL c 0 cs.toList=cs:=by
 rw [Yu c cs.toList (by simpa using h)]
theorem BK{c:Array Value}{n:Nat}(h:c.size=n):c.extract 0 (0+n)=c:=by
 subst h;simp
end
section
variable{P:Program}{u:World}{env:Env}{H R:Hp}{d:Option Nat}{ty:TypeId}{pos:String}{af:Array Edge}{g:Option (Nat×Bool)}
theorem OI{x y:Operand}{t su e:TypeId}{i:TypeInfo}{z:Value}{by_:Nat}{v:Value}{xs:List Value}{s:List AA}{l:List UInt8}
 (ht:P.underlying t=some (.slice e))(ax:P.underlying su=some .string)(hi:P.info? e=some i)(gq:i.size=1)(bg:i.bytes=by_)(gB:i.zero=some z)(j3:z.oneCell'=true)
 (hx:∀a,ev a env x=v)(cO:Row e v xs s)(hy:∀a,ev a env y= .string (str l))(bn:One s H R)
 (hm:0<l.length)(U:xs.length+l.length<=maxLen)(hb:(xs.length+l.length)*by_<=140737488355328):
 OpW P u ⟨d,.call ⟨.builtin .append,#[x,y],#[t,su]⟩,ty,pos,af,g⟩ env H (fun v' H1=>∃s',Row e v' (xs++l.map u8v) s'/\H1=s'::R) (fun _ _=>False):=fun a w d9 K Kp hK _=>by
 have Z:Sat u (s::R) w:=d9.perm (by simpa using bn.perm);have ic:Sat u R w:=Z.sub ⟨s,by simp only [CA];exact Ly⟩
 have gy:z.cells=#[z]:=by cases z<;>first|rfl|simp [Value.oneCell']at j3
 have j5:=mL;have G:(str l).size=l.length:=by simp [str,ByteArray.size]
 have ek:Lib.strCells (str l)=l.map u8v:=by simp only [Lib.strCells,str];rfl
 have hl:(l.map u8v).length=l.length:=B4 ..;have B:∀{v':Value} {w':World},(Builtin.append_ #[t,su] ty #[v,.string (str l)]).run P w= .ok v' w'->(execOp (ev a env) ⟨d,.call ⟨.builtin .append,#[x,y],#[t,su]⟩,ty,pos,af,g⟩).run P w= .ok (.value v') w':=fun h=>by
  simp only [Dz,resolve,invoke,builtin,RT,DQ,J1,hx a,hy a,Sem.run_bind,Sem.run_pure,Result.andThen_ok,h]
 have I:∀(n cap:Nat) (cells:Array Value) (w1:World),w1={w with drawn:=n,heap:=w.heap.push (.cells cells e)}->Sat u ([(w.heap.size,.cells cells e (0,0))]::R) w1:=fun n cap cells w1 h=>by
  subst h;exact (ic.drawn n).alloc _
 rcases cO with⟨rfl,rfl,rfl⟩|⟨gb,cap,cur,zz,rfl,rfl,hle,hcm,hcs,htk,hfr⟩
 · have hr:=run_append_nil_string (P:=P) w t su ty e i z ht ax hi gB (str l) (by omega) (by rw [G];simp only [KK,D0]at U;omega) (by rw [bg,G];simp only [KK,D0]at hb;omega)
   rw [B hr,G];have W:=grownCap_ge w l.length 0 e
   have J:grownCap w l.length 0 e<=maxLen:=grownCap_le_maxLen w l.length 0 e (by simpa using U);refine hK _ _ _ ⟨[(w.heap.size,.cells ((str l).data.map (fun b=>Value.int .u8 b.toNat)++Builtin.zeroCells z.cells (grownCap w l.length 0 e -l.length)) e (0,0))],.inr ⟨w.heap.size,grownCap w l.length 0 e,_,(0,0),?_,rfl,?_,J,?_,?_,BB _⟩,rfl⟩ (I _ 0 _ _ rfl);· simp
   · simpa using W
   · simp [size_zeroCells,gy,str];omega
   · have:((str l).data.map (fun b=>Value.int .u8 b.toNat)).toList=l.map u8v:=by rw [Array.toList_map];rfl
     simp only [LN,cE,this];exact HM rfl
 · have hg:=Z.get (gb,.cells cur e zz) (by simp)
   by_cases O:xs.length+l.length<=cap
   · have hf:=Lib.run_firstCells_string (P:=P) w 1 (str l)
     rw [G,ek]at hf;have gm:=Ch (P:=P) gb xs.length e zz (l.map u8v) 0 cur w hg hfr (by rw [hl,hcs];omega) (ni l)
     simp only [Pu]at gm;have hr:(Builtin.append_ #[t,su] ty #[I6 gb xs.length cap,.string (str l)]).run P w= .ok (I6 gb (xs.length+l.length) cap) (w.setRow gb (EL cur xs.length (l.map u8v))):=by
      simp [Builtin.append_,run_underlying ht,run_underlying ax,Go.sizeOf,typeInfo,hi,gq,Builtin.lenOf,G,O,hf,CY,gm,EL]
     rw [B hr];have cu:(EL cur xs.length (l.map u8v)).size=cap:=by
      unfold EL;simp;omega
     refine hK _ _ _ ⟨[(gb,.cells (EL cur xs.length (l.map u8v)) e zz)],.inr ⟨gb,cap,_,zz,by simp,rfl,by simpa using O,hcm,cu,?_,by rw [cu,<-hcs];exact hfr⟩,rfl⟩
      (Z.upd (.here _) rfl rfl rfl (setRow_heap w gb cur _ e zz hg) fun k hk=>setRow_other w gb k _ hk)
     unfold EL;rw [htk];simp only [Cd];rw [<-Cd];exact HM B0
   · have X:∀j v,xs[j]?=some v->w.cell? ((⟨gb,0,none⟩:Addr).add j)=some v:=fun j v hj=>by
      rw [CY];refine Cn hg ?_;have gF:j<xs.length:=(BE.1 hj).1
      have:(cur.toList.take xs.length)[j]?=some v:=by rw [htk];exact hj
      rw [HC,AM gF]at this;simpa using this
     have hr:=Lib.run_append_grow_string (P:=P) w t su ty e i z ht ax hi gB ⟨gb,0,none⟩ xs.length cap xs (by rw [gq];omega) X (str l) A1 A1 (growslice_fits A1 (by rw [bg,G];exact hb));rw [B hr,G,ek];have W:=grownCap_ge w (xs.length+l.length) cap e
     have J:grownCap w (xs.length+l.length) cap e<=maxLen:=grownCap_le_maxLen w (xs.length+l.length) cap e U;refine hK _ _ _ ⟨[(w.heap.size,.cells (xs.toArray++(l.map u8v).toArray++Builtin.zeroCells z.cells (grownCap w (xs.length+l.length) cap e -(xs.length+l.length))) e (0,0))],.inr ⟨w.heap.size,grownCap w (xs.length+l.length) cap e,_,(0,0),?_,V,?_,J,?_,?_,BB _⟩,V⟩ (I _ 0 _ _ V);· simp
     · simpa using W
     · simp [size_zeroCells,gy];omega
     · simp only [cE]
       exact HM B0
theorem Yr{s t q e:TypeId}{x:Operand}{j:TypeInfo}{b:Nat}{c:Array Value}{z:Nat×Nat}(O:P.underlying s=some (.pointer q))(I:P.underlying t=some .unsafePointer)(K:P.info? q=some j)(J:j.size≠0)(hc:0<c.size)(hx:∀a,ev a env x=I5 b):
 OpP P ⟨d,.convert s t x,ty,pos,af,g⟩ env [(b,.cells c e z)] (I5 b):=fun a w h=>by
 have G:=h (b,.cells c e z) B0;have B:w.shape? b=some (e,c.size):=by simp [World.shape?,G]
 have:=Lib.run_to_unsafe (P:=P) (w:=w) ⟨b,0,none⟩ O I K J B hc;simp [Jw,hx a,this]
theorem UY{s t q e:TypeId}{x:Operand}{j:TypeInfo}{b:Nat}{c:Array Value}{z:Nat×Nat}(O:P.underlying s=some .unsafePointer)(I:P.underlying t=some (.pointer q))(K:P.info? q=some j)(J:liesAt P P.depth e (c.size/P.cellsOf e) 0 q 1=true)(hx:∀a,ev a env x=I5 b):
 OpP P ⟨d,.convert s t x,ty,pos,af,g⟩ env [(b,.cells c e z)] (I5 b):=fun a w h=>by
 have G:=h (b,.cells c e z) B0;have B:w.shape? b=some (e,c.size):=by simp [World.shape?,G]
 have:=Lib.run_from_unsafe (P:=P) (w:=w) ⟨b,0,none⟩ O I K B J;simp [Jw,hx a,this]
theorem TD{t q:TypeId}{x y:Operand}{yt:TypeId}{j:TypeInfo}{p:Addr}(G:P.underlying t=some (.pointer q))(B:P.info? q=some j)(hx:∀a,ev a env x= .pointer (some p))(hy:∀a,ev a env y= .pointer (some p)):
 OpP P ⟨d,.binOp .neq t x y yt,ty,pos,af,g⟩ env [] (.bool false):=fun a w _=>by
 have:=Lib.run_neq_ptr_same (P:=P) w p G B;simp [Cm,hx a,hy a,eqGuard,this]
theorem rC{f:FuncId}{fn:Func}{e:Array Value→Sem Value}{ax:Array Operand}{ats:Array TypeId}{vs:List Value}{v:Value}(hf:P.funcs[f]?=some fn)(hname:(fn.name== "runtime.NumGoroutine")=false)(hb:fn.body.isNone=true)(hn:Extern.findNext fn=none)(he:Extern.find fn=some e)
 (ha:∀a,ax.toList.map (ev a env)=vs)(hr:∀w:World,(e vs.toArray).run P w= .ok v w):
 OpP P ⟨d,.call ⟨.value (.func f),ax,ats⟩,ty,pos,af,g⟩ env [] v:=fun a w _=>by
 have h1:ax.map (ev a env)=vs.toArray:=by rw [<-ha a];exact JJ _ ax
 have h2:=run_callFunc_extern hf hname hb hn he vs.toArray w;rw [hr w]at h2;have h3:ev a env (.func f)= .func (.func f) #[] #[]:=rfl
 simp [Dz,resolve,h3,Deferred.ofValue,invoke,h1,h2,Result.andThen]
theorem Y3{t:TypeId}{x:Operand}{p:Addr}{n c:Nat}(hx:∀a,ev a env x= .slice (some p) n c)(hc:c≠0):
 OpW P u ⟨d,.call ⟨.builtin .unsafeSliceData,#[x],#[t]⟩,ty,pos,af,g⟩ env H (fun v H1=>v= .pointer (some p)/\H1=H) (fun _ _=>False):=fun a w B K I G _=>by
 have h:=Lib.run_unsafeSliceData_row (P:=P) (w:=w) #[t] ty p n c hc;have:(execOp (ev a env) ⟨d,.call ⟨.builtin .unsafeSliceData,#[x],#[t]⟩,ty,pos,af,g⟩).run P w= .ok (.value (.pointer (some p))) w:=by
  simp only [Dz,resolve,invoke,builtin,RT,DQ,J1,hx a,Sem.run_bind,Sem.run_pure,Result.andThen_ok,h]
 rw [this];exact G _ _ _ ⟨V,V⟩ B
theorem Ri{t it e:TypeId}{x y:Operand}{b:Nat}{c:Array Value}{z:Nat×Nat}{l:List UInt8}(ht:P.underlying t=some (.pointer e))(W:P.cellsOf e=1)(hx:∀a,ev a env x=I5 b)(hy:∀a,ev a env y=I4 (l.length:Int))(h0:l≠[])(U:l.length<=9223372036854775807)
 (J:One [(b,.cells c e z)] H R)(hc:c.toList.take l.length=l.map u8v):
 OpW P u ⟨d,.call ⟨.builtin .unsafeString,#[x,y],#[t,it]⟩,ty,pos,af,g⟩ env H (fun v H1=>v= .string (str l)/\H1=R) (fun _ _=>False):=fun a w O K Kp hK _=>by
 have G:Sat u ([(b,.cells c e z)]::R) w:=O.perm (by simpa using J.perm);have B:Sat u R w:=G.sub ⟨[(b,.cells c e z)],by simp only [CA];exact Ly⟩
 have hb:=G.get (b,.cells c e z) (by simp);have bn:w.shape? b=some (e,c.size):=by simp [World.shape?,hb]
 have ax:l.length<=c.size:=by
  have h1:(c.toList.take l.length).length=l.length:=by rw [hc,B4]
  rw [C3]at h1;have h2:=od l.length c.toList.length
  rw [h1]at h2;exact MY h2 (Nat.le_of_eq (show c.toList.length=c.size from SU))
 have X:C8 c 0 (l.map u8v):=by unfold C8;rw [Pr,B4];exact hc
 have h:=Lib.run_unsafeString_row (P:=P) w t it ty e ht W b c.size bn l h0 ax U (fun j x hx=>H6 hb X j (.int .u8 x.toNat) (by rw [DO,hx];rfl));have:(execOp (ev a env) ⟨d,.call ⟨.builtin .unsafeString,#[x,y],#[t,it]⟩,ty,pos,af,g⟩).run P w= .ok (.value (.string (str l))) (w.freeze ⟨b,0,none⟩ l.length):=by
  simp only [Dz,resolve,invoke,builtin,RT,DQ,J1,hx a,hy a,Sem.run_bind,Sem.run_pure,Result.andThen_ok,h];rfl
 rw [this];refine hK _ _ _ ⟨V,V⟩ ?_;have Z:l.length≠0:=by simpa using h0
 have I:=G.nodup;simp only [CA,Mz,DQ,Hj]at I;unfold World.freeze;rw [AK Z];refine ⟨B.os,B.tape,B.output,B.nodup,fun p hp=>?_⟩;have bg:p.1≠b:=fun h=>I.1 (Bm.2 ⟨p,hp,h⟩)
 show(w.heap.modify b _)[p.1]?=some p.2;rw [SR,AK (fun h=>bg h.symm)];exact B.get p hp
end
section
variable{P:Program}{ops:Array Oper}{l:List Oper}{cx:Cx}{Q:Exit->Act->World->Prop}{env:Env}{H:Hp}
theorem lI{I:Operand}{fv:Fn}{caps:Array Value}{ty:TypeId}{pos:String}{af:Array Edge}(O:cx.r=none)(K:∀a,ev a env I= .func fv #[] caps)
 (k:Ops P ops l ⟨cx.N,⟨.fn fv caps,#[]⟩::cx.D,cx.u,cx.r⟩ Q env H):Ops P ops (⟨none,.defer ⟨.value I,#[],#[]⟩,ty,pos,af,none⟩::l) cx Q env H:=fun a w G=>by
 have B:Fit a.tmps.size env:=by rw [G.size];exact G.fit
 simp only [wpL];rw [Fw ops _ a env B,show wantedE ops a env (⟨none,.defer ⟨.value I,#[],#[]⟩,ty,pos,af,none⟩:Oper).guard=true from rfl,AM rfl];refine ⟨fun _ _=>trivial,?_⟩;have J:(Fx cx.r).round=none:=O
 rw [J,Oper.semAt_none,FR a env B];have:(execOp (ev a env) ⟨none,.defer ⟨.value I,#[],#[]⟩,ty,pos,af,none⟩).run P w= .ok (.defer ⟨.fn fv caps,#[]⟩) w:=by
  simp [execOp,resolve,K a,Deferred.ofValue]
 rw [this,Oper.uponIn_defer];have h:=k {a with defers:=⟨.fn fv caps,#[]⟩::cx.D} w ⟨G.size,rfl,G.fit,G.sat⟩
 have e:CF env {a with defers:=⟨.fn fv caps,#[]⟩::cx.D}={CF env a with defers:=⟨.fn fv caps,#[]⟩::(CF env a).defers}:=by
  rw [FH,Fj,G.defers]
 rw [e]at h;exact h
end
def PY(P:Program)(f:FuncId)(args:Array Value)(m m':FrameMode)(H:Hp)(Q:Hp->Prop):Prop:=
 ∀(u:World) (R:Hp) (w:World),Sat u (H++R) w->CallsDIn Fence.wide 0 P f args m w fun e m2 w'=>∃v H',e= .returned v/\m2=m'/\Q H'/\Sat u (H'++R) w'
theorem Qt{P:Program}{f:FuncId}{args:Array Value}{m:FrameMode}{w:World}{G R2:Ending->FrameMode->World->Prop}(h:CallsDIn Fence.wide 0 P f args m w G)(K:∀e I B,G e I B->R2 e I B):CallsDIn Fence.wide 0 P f args m w R2:=
 ⟨h.1,fun c cs hc O=>by
   obtain ⟨e,U,B,fr,J,h2⟩:=h.2 c cs hc O;exact ⟨e,U,B,fr,K _ _ _ J,h2⟩⟩
theorem fH{P:Program}{fn:Func}{tmps:Array Value}{f:FuncId}{caps:Array Value}{m m':FrameMode}{w u:World}{Hd Rr R:Hp}{Qd:Hp->Prop}{Q:Value->Hp->Prop}{Pn:List PanicEntry->Hp->Prop}
 (X:m≠ .run)(J:settle m'= .returning)(hc:∀(args:Array Value) (w:World),(callFunc f args).run P w= .ok (.enter f args) w)(W:PY P f caps m m' Hd Qd)(hs:Sat u (Hd++Rr) w)
 (G:∀H1 B,Qd H1->Sat u (H1++Rr) B->∃v H',(results fn tmps).run P B= .ok v B/\Q v H'/\Sat u (H'++R) B):
 LeavesInM Fence.wide 0 P fn tmps (GX u R Q Pn) [⟨.fn (.func f) caps,#[]⟩] m w:=by
 refine ⟨X,.inr ⟨fun h=>by simp [Fence.wide]at h,.func f,caps,f,caps,V,?_,fun _ _=>trivial,?_⟩⟩;· simp [invoke,hc]
 · refine Qt (W u Rr w hs) ?_
   rintro e m2 B ⟨v,H1,rfl,rfl,Z,I⟩;obtain ⟨K,H',O,h2,U⟩:=G H1 B Z I;show LeavesInM Fence.wide 0 P fn tmps (GX u R Q Pn) [] (settle m2) B
   rw [J];exact ⟨K,O,.inl ⟨K,H',V,h2,U⟩⟩
section
variable{P:Program}{N:Nat}{u:World}{fn:Func}{R H Hd Rr:Hp}{Q:Value->Hp->Prop}{Pn:List PanicEntry->Hp->Prop}{env:Env}{e:Exit}{f:FuncId}{caps:Array Value}{Qd:Hp->Prop}{m':FrameMode}
end
def oF(P:Program)(ops:Array Oper)(l:List Nat)(cx:Cx)(cs:List Frame)(Q:Exit->Act->List Frame->World->Prop)(env:Env)(H:Hp):Prop:=∀a w,St cx env H a w->wpOpsSIn Fence.wide 0 P ops Q l (CF env a) cs w
section
variable{P:Program}{ops:Array Oper}{l:List Nat}{i:Nat}{cx:Cx}{cs:List Frame}{Q:Exit->Act->List Frame->World->Prop}{env:Env}{H:Hp}
theorem QE{d:Nat}{I:Op}{ty:TypeId}{pos:String}{af:Array Edge}{v:Value}(K:ops[i]?=some ⟨some d,I,ty,pos,af,none⟩)(h:OpP P ⟨some d,I,ty,pos,af,none⟩ env [] v)(J:Nat.blt d cx.N=true)
 (k:oF P ops l cx cs Q ((d,v)::env) H):oF P ops (i::l) cx cs Q env H:=fun a w G=>by
 have B:Fit a.tmps.size env:=by rw [G.size];exact G.fit
 simp only [wpOpsSIn,K];refine ⟨fun _ _=>trivial,?_⟩;rw [Fw ops _ a env B,show wantedE ops a env (⟨some d,I,ty,pos,af,none⟩:Oper).guard=true from rfl,AM rfl,FR a env B,h a w B0];exact k a w ⟨G.size,G.defers,G.fit.cons J v,G.sat⟩
theorem eQ{d:Nat}{ty:TypeId}{pos:String}{af:Array Edge}(J:ops[i]?=some ⟨some d,.call ⟨.builtin .recover,#[],#[]⟩,ty,pos,af,none⟩)(K:recoverD cs=none)(I:Nat.blt d cx.N=true)
 (k:oF P ops l cx cs Q ((d,.nilIface)::env) H):oF P ops (i::l) cx cs Q env H:=fun a w G=>by
 have B:Fit a.tmps.size env:=by rw [G.size];exact G.fit
 simp only [wpOpsSIn,J];refine ⟨fun _ _=>trivial,?_⟩;rw [Fw ops _ a env B,show wantedE ops a env (⟨some d,.call ⟨.builtin .recover,#[],#[]⟩,ty,pos,af,none⟩:Oper).guard=true from rfl,AM rfl,FR a env B];have:(execOp (ev a env) ⟨some d,.call ⟨.builtin .recover,#[],#[]⟩,ty,pos,af,none⟩).run P w= .ok .recover w:=by
  simp [Dz,resolve,invoke,builtin]
 rw [this];simp only [K];exact k a w ⟨G.size,G.defers,G.fit.cons I _,G.sat⟩
end
theorem YE{P:Program}{f:FuncId}{fn:Func}{id:Nat}{ops:Array Oper}{y:Code}{args:Array Value}{N:Nat}{m m':FrameMode}{H:Hp}{Qd:Hp->Prop}{env1:Env}(hf:P.funcs[f]?=some fn)(hb:fn.body=some (.seq (.region id ops false) y))(hN:fn.ntmps=N)(hs:Nat.ble args.size N=true)(ax:fn.results=#[])
 (K:∀(u:World) (R:Hp) (c:Frame) (cs:List Frame) (Q:Exit->Act->List Frame->World->Prop),c.mode=m->(∀a w,St ⟨N,[],u,none⟩ env1 (H++R) a w->Q .normal (CF env1 a) ({c with mode:=m'}::cs) w)->oF P ops (List.range ops.size) ⟨N,[],u,none⟩ (c::cs) Q (FZ 0 args.toList) (H++R))
 (h:∀u R,At P ⟨N,[],u,none⟩ y (bodyPost P fn (GX u R (fun _ H'=>Qd H') (fun _ _=>False))) env1 (H++R)):PY P f args m m' H Qd:=fun u R w O=>by
 have X:args.size<=N:=cU hs;have J:CF (FZ 0 args.toList) {tmps:=args++Array.replicate (fn.ntmps -args.size) undef,defers:=[]}={tmps:=args++Array.replicate (fn.ntmps -args.size) undef,defers:=[]}:=by
  refine K9 _ fun p hp=>?_;obtain ⟨_,h2⟩:=FM _ _ _ hp;simp only [Sh,HH]at h2;have Z:p.1<args.size:=by
   rcases E0 p.1 args.size with h|h
   · exact h
   · simp [I0 h]at h2
  rw [eK Z];exact h2
 refine callsDIn_of_wpSIn (F:=Fence.wide) hf hb trivial fun c₀ cs hm=>?_;rw [<-J];refine wpSIn_seq (wpSIn_region ?_);refine K u R c₀ cs _ hm (fun a w1 af=>?_) _ w ⟨by simp [hN];omega,V,fun p hp=>?_,O⟩
 · refine wpSIn_of_wpIn rfl (wpIn_mono (h u R a w1 af) ?_)
   intro e a2 w2 B;cases e with
   |normal=>
    obtain ⟨U,v,hr,I⟩:=B;rcases I with⟨v',H',G,h2,W⟩|⟨_,_,_,h4,_⟩
    · exact ⟨U,m',rfl,v,hr,v',H',G,rfl,h2,W⟩
    · exact h4.elim
   |ret=>
    obtain ⟨U,v,hr,I⟩:=B;rcases I with⟨v',H',G,h2,W⟩|⟨_,_,_,h4,_⟩
    · exact ⟨U,m',rfl,v,hr,v',H',G,rfl,h2,W⟩
    · exact h4.elim
   |panic ch=>
    obtain ⟨U,I⟩:=B;rcases I with⟨_,_,G,_⟩|⟨_,_,_,h4,_⟩
    · cases G
    · exact h4.elim
   |outgrown=>
    rcases B with⟨_,_,G,_⟩|⟨_,_,_,h4,_⟩
    · cases G
    · exact h4.elim
   |exit i=>exact B.elim
   |goto i=>exact B.elim
 · obtain ⟨_,h2⟩:=FM _ _ _ hp
   simp only [Sh,HH]at h2;rcases E0 p.1 args.size with h|h
   · exact l3 h X
   · simp [I0 h]at h2
section
variable{P:Program}{ops:Array Oper}{l:List Oper}{cx:Cx}{Q:Exit->Act->World->Prop}{env:Env}{H:Hp}
theorem eP{f:FuncId}{x:Operand}{v:Value}{G:Array TypeId}{ty:TypeId}{pos:String}{af:Array Edge}(O:cx.r=none)(hx:∀a,ev a env x=v)
 (k:Ops P ops l ⟨cx.N,⟨.fn (.func f) #[],#[v]⟩::cx.D,cx.u,cx.r⟩ Q env H):Ops P ops (⟨none,.defer ⟨.value (.func f),#[x],G⟩,ty,pos,af,none⟩::l) cx Q env H:=fun a w I=>by
 have B:Fit a.tmps.size env:=by rw [I.size];exact I.fit
 simp only [wpL];rw [Fw ops _ a env B,show wantedE ops a env (⟨none,.defer ⟨.value (.func f),#[x],G⟩,ty,pos,af,none⟩:Oper).guard=true from rfl,AM rfl];refine ⟨fun _ _=>trivial,?_⟩;have J:(Fx cx.r).round=none:=O
 rw [J,Oper.semAt_none,FR a env B];have K:ev a env (.func f)= .func (.func f) #[] #[]:=rfl
 have:(execOp (ev a env) ⟨none,.defer ⟨.value (.func f),#[x],G⟩,ty,pos,af,none⟩).run P w= .ok (.defer ⟨.fn (.func f) #[],#[v]⟩) w:=by
  simp [execOp,resolve,K,hx a,Deferred.ofValue]
 rw [this,Oper.uponIn_defer];have h:=k {a with defers:=⟨.fn (.func f) #[],#[v]⟩::cx.D} w ⟨I.size,rfl,I.fit,I.sat⟩
 have e:CF env {a with defers:=⟨.fn (.func f) #[],#[v]⟩::cx.D}={CF env a with defers:=⟨.fn (.func f) #[],#[v]⟩::(CF env a).defers}:=by
  rw [FH,Fj,I.defers]
 rw [e]at h;exact h
end
theorem fG{P:Program}{fn:Func}{tmps:Array Value}{fa f:FuncId}{va caps:Array Value}{ma m':FrameMode}{w u:World}{Hd Rr R:Hp}{Qd:Hp->Prop}{Q:Value->Hp->Prop}{Pn:List PanicEntry->Hp->Prop}
 (U:settle ma= .returning)(J:∀(args:Array Value) (w:World),(callFunc fa args).run P w= .ok (.enter fa args) w)(K:PY P fa va .returning ma [] (fun H'=>H'=[]))
 (O:settle m'= .returning)(hc:∀(args:Array Value) (w:World),(callFunc f args).run P w= .ok (.enter f args) w)(W:PY P f caps .returning m' Hd Qd)(X:Sat u (Hd++Rr) w)
 (G:∀H1 B,Qd H1->Sat u (H1++Rr) B->∃v H',(results fn tmps).run P B= .ok v B/\Q v H'/\Sat u (H'++R) B):
 LeavesInM Fence.wide 0 P fn tmps (GX u R Q Pn) [⟨.fn (.func fa) #[],va⟩,⟨.fn (.func f) caps,#[]⟩] .returning w:=by
 refine ⟨by simp,.inr ⟨fun h=>by simp [Fence.wide]at h,.func fa,#[],fa,va,V,?_,fun _ _=>trivial,?_⟩⟩;· simp [invoke,J]
 · refine Qt (K u (Hd++Rr) w X) ?_
   rintro e Z B ⟨v,H1,rfl,rfl,rfl,I⟩;show LeavesInM Fence.wide 0 P fn tmps (GX u R Q Pn) [⟨.fn (.func f) caps,#[]⟩] (settle Z) B
   rw [U];exact fH B0 O hc W I G
section
variable{P:Program}{N:Nat}{u:World}{fn:Func}{R H Hd Rr:Hp}{Q:Value->Hp->Prop}{Pn:List PanicEntry->Hp->Prop}{env:Env}{e:Exit}{fa f:FuncId}{va caps:Array Value}{Qd:Hp->Prop}{ma m':FrameMode}
theorem rT(he:Fa e=true)(W:settle ma= .returning)(K:∀(args:Array Value) (w:World),(callFunc fa args).run P w= .ok (.enter fa args) w)(O:PY P fa va .returning ma [] (fun H'=>H'=[]))
 (U:settle m'= .returning)(hc:∀(args:Array Value) (w:World),(callFunc f args).run P w= .ok (.enter f args) w)(hd:PY P f caps .returning m' Hd Qd)(hp:Ew Hd H Rr)
 (I:∀H1,Qd H1->∃v H',(∀(a:Act) (w:World),Fit a.tmps.size env->Sat u (H1++Rr) w->(results fn (CF env a).tmps).run P w= .ok v w)/\Q v H'/\vP (H'++R) (H1++Rr)):
 Nx ⟨N,[⟨.fn (.func fa) #[],va⟩,⟨.fn (.func f) caps,#[]⟩],u,none⟩ (bodyPostM Fence.wide 0 P fn (GX u R Q Pn) e) env H:=fun a w J=>by
 have X:(CF env a).defers=[⟨.fn (.func fa) #[],va⟩,⟨.fn (.func f) caps,#[]⟩]:=by rw [Fj];exact J.defers
 have G:LeavesInM Fence.wide 0 P fn (CF env a).tmps (GX u R Q Pn) (CF env a).defers .returning w:=by
  rw [X];refine fG W K O U hc hd (J.sat.perm hp.perm) fun H1 w' hq B=>?_;obtain ⟨v,H',h2,Z,h4⟩:=I H1 hq;exact ⟨v,H',h2 a w' (by rw [J.size];exact J.fit) B,Z,B.sub h4⟩
 cases e<;>first|exact G|simp [Fa]at he
end
theorem aZ{P:Program}{f:FuncId}{fn:Func}{y:Code}{args:Array Value}{N:Nat}{m:FrameMode}{H:Hp}{Qd:Hp->Prop}(hf:P.funcs[f]?=some fn)(hb:fn.body=some y)(hN:fn.ntmps=N)(hs:Nat.ble args.size N=true)
 (h:∀u R,At P ⟨N,[],u,none⟩ y (bodyPost P fn (GX u R (fun _ H'=>Qd H') (fun _ _=>False))) (FZ 0 args.toList) (H++R)):PY P f args m m H Qd:=fun u R w O=>by
 have Z:args.size<=N:=cU hs;have K:CF (FZ 0 args.toList) {tmps:=args++Array.replicate (fn.ntmps -args.size) undef,defers:=[]}={tmps:=args++Array.replicate (fn.ntmps -args.size) undef,defers:=[]}:=by
  refine K9 _ fun p hp=>?_;obtain ⟨_,h2⟩:=FM _ _ _ hp;simp only [Sh,HH]at h2;have af:p.1<args.size:=by
   rcases E0 p.1 args.size with h|h
   · exact h
   · simp [I0 h]at h2
  rw [eK af];exact h2
 refine callsDIn_of_wpSIn (F:=Fence.wide) hf hb trivial fun W cs hm=>?_;have J:({W with mode:=m}:Frame)=W:=by cases W;simp only at hm;subst hm;rfl
 rw [<-K];refine wpSIn_of_wpIn V (wpIn_mono (h u R _ w ⟨by simp [hN];omega,V,fun p hp=>?_,O⟩) ?_)
 · obtain ⟨_,h2⟩:=FM _ _ _ hp
   simp only [Sh,HH]at h2;rcases E0 p.1 args.size with h|h
   · exact l3 h Z
   · simp [I0 h]at h2
 · intro e a2 w2 B
   cases e with
   |normal=>
    obtain ⟨U,v,hr,I⟩:=B;rcases I with⟨v',H',G,h2,X⟩|⟨_,_,_,h4,_⟩
    · exact ⟨U,m,by rw [J],v,hr,v',H',G,rfl,h2,X⟩
    · exact h4.elim
   |ret=>
    obtain ⟨U,v,hr,I⟩:=B;rcases I with⟨v',H',G,h2,X⟩|⟨_,_,_,h4,_⟩
    · exact ⟨U,m,by rw [J],v,hr,v',H',G,rfl,h2,X⟩
    · exact h4.elim
   |panic ch=>
    obtain ⟨U,I⟩:=B;rcases I with⟨_,_,G,_⟩|⟨_,_,_,h4,_⟩
    · cases G
    · exact h4.elim
   |outgrown=>
    rcases B with⟨_,_,G,_⟩|⟨_,_,_,h4,_⟩
    · cases G
    · exact h4.elim
   |exit i=>exact B.elim
   |goto i=>exact B.elim
section
variable{P:Program}{u:World}{env:Env}{H R:Hp}{d:Option Nat}{ty:TypeId}{pos:String}{af:Array Edge}{g:Option (Nat×Bool)}
theorem uP{t e:TypeId}{f0 f1 f2 f3:Field}(w:World)(n:Nat)(x0 x1 x2 x3 y0 y1 y2 y3:Int)(hu:P.underlying t=some (.struct #[f0,f1,f2,f3]))(hst:P.stoodInHeld t=false)
 (h0:f0.name≠ "_"∧f0.type=e∧f0.offset=0)(h1:f1.name≠ "_"∧f1.type=e∧f1.offset=1)(h2:f2.name≠ "_"∧f2.type=e∧f2.offset=2)(h3:f3.name≠ "_"∧f3.type=e∧f3.offset=3)
 (he:P.underlying e=some (.int .i64))(ha:∀w:World,(isAgg e).run P w= .ok false w):
 (Op.equalIn (n+2) t (.agg #[I4 x0,I4 x1,I4 x2,I4 x3]) (.agg #[I4 y0,I4 y1,I4 y2,I4 y3])).run P w= .ok (decide (x0=y0/\x1=y1/\x2=y2/\x3=y3)) w:=by
 obtain ⟨n0,e0,o0⟩:=h0;obtain ⟨n1,e1,o1⟩:=h1;obtain ⟨n2,e2,o2⟩:=h2;obtain ⟨n3,e3,o3⟩:=h3;have ei:∀(m k:Int) (w:World),(Op.equalIn (n+1) e (I4 m) (I4 k)).run P w= .ok (decide (m=k)) w:=fun m k w=>RU n w he m k
 have p0:∀(v0 v1 v2 v3:Value) (w:World),(part e #[v0,v1,v2,v3] 0).run P w= .ok v0 w:=fun _ _ _ _ w=>FU w (ha w) _ _ rfl;have p1:∀(v0 v1 v2 v3:Value) (w:World),(part e #[v0,v1,v2,v3] 1).run P w= .ok v1 w:=fun _ _ _ _ w=>FU w (ha w) _ _ rfl
 have p2:∀(v0 v1 v2 v3:Value) (w:World),(part e #[v0,v1,v2,v3] 2).run P w= .ok v2 w:=fun _ _ _ _ w=>FU w (ha w) _ _ rfl;have p3:∀(v0 v1 v2 v3:Value) (w:World),(part e #[v0,v1,v2,v3] 3).run P w= .ok v3 w:=fun _ _ _ _ w=>FU w (ha w) _ _ rfl
 rw [show n+2=(n+1)+1 from rfl,Op.equalIn];generalize n+1=m at*;simp only [Sem.run_bind,run_underlying hu,Result.andThen_ok,run_program,hst,MA,HF];rw [<-oT];simp only [lO,ox,n0,n1,n2,n3,e0,e1,e2,e3,o0,o1,o2,o3,ne_eq,fy,HR];simp only [Sem.run_bind,p0,p1,p2,p3,ei,Result.andThen_ok];by_cases c0:x0=y0
 · by_cases c1:x1=y1
   · by_cases c2:x2=y2
     · by_cases c3:x3=y3<;>simp [c0,c1,c2,c3,p0,p1,p2,p3,ei,n1,n2,n3]
     · simp [c0,c1,c2,p0,p1,p2,p3,ei,n1,n2,n3]
   · simp [c0,c1,p0,p1,p2,p3,ei,n1,n2,n3]
 · simp [c0,p0,p1,p2,p3,ei,n1,n2,n3]
theorem Yt{t yt e:TypeId}{f0 f1 f2 f3:Field}{x y:Operand}{x0 x1 x2 x3 y0 y1 y2 y3:Int}(hg:P.eqGuardType P.depth t=false)(hu:P.underlying t=some (.struct #[f0,f1,f2,f3]))(hst:P.stoodInHeld t=false)
 (h0:f0.name≠ "_"∧f0.type=e∧f0.offset=0)(h1:f1.name≠ "_"∧f1.type=e∧f1.offset=1)(h2:f2.name≠ "_"∧f2.type=e∧f2.offset=2)(h3:f3.name≠ "_"∧f3.type=e∧f3.offset=3)
 (he:P.underlying e=some (.int .i64))(ha:∀w:World,(isAgg e).run P w= .ok false w)
 (hx:∀a,ev a env x= .agg #[I4 x0,I4 x1,I4 x2,I4 x3])(hy:∀a,ev a env y= .agg #[I4 y0,I4 y1,I4 y2,I4 y3]):OpP P ⟨d,.binOp .eql t x y yt,ty,pos,af,g⟩ env [] (.bool (decide (x0=y0/\x1=y1/\x2=y2/\x3=y3))):=fun a w _=>by
 simp [Cm,hx a,hy a,go_sem,run_eqGuard_agg w _ t _ _ _ _ hg,Qv,Op.equal,Op.maxDepth,uP w 9998 x0 x1 x2 x3 y0 y1 y2 y3 hu hst h0 h1 h2 h3 he ha]
end
def IQ(b:Nat)(o:Obj)(s:List AA):List AA:=s.map fun p=>if p.1=b then(b,o)else p
theorem jl(b:Nat)(o:Obj)(s:List AA):(IQ b o s).map (·.1)=s.map (·.1):=by
 unfold IQ;rw [Kf];apply Vc;intro p _;show(if p.1=b then(b,o)else p).1=p.1
 split;· rename_i h;exact h.symm
 · rfl
theorem oU{b:Nat}{o:Obj}{s:List AA}{p:AA}(h:p∈IQ b o s):p=(b,o)\/(p.1≠b/\p∈s):=by
 obtain ⟨q,B,e⟩:=Bm.1 h;split at e;· exact .inl e.symm
 · rename_i hn;subst e;exact .inr ⟨hn,B⟩
theorem YI{u w G:World}{H R:Hp}{s:List AA}{b:Nat}{o o':Obj}(B:Sat u H w)(W:One s H R)(Z:(b,o)∈s)(e1:G.os=w.os)(e2:G.tape=w.tape)(U:G.output=w.output)
 (X:G.heap[b]?=some o')(O:∀k,k≠b->G.heap[k]?=w.heap[k]?):Sat u (IQ b o' s::R) G:=by
 have K:=W.perm;have hn:((s++R.flatten).map (·.1)).Nodup:=(K.map _).nodup_iff.1 B.nodup
 refine ⟨e1.trans B.os,e2.trans B.tape,U.trans B.output,?_,fun p I=>?_⟩;· rw [CA,BW,jl,<-BW];exact hn
 · rw [CA]at I
   rcases B9.1 I with h|h
   · rcases oU h with rfl|⟨h2,h3⟩
     · exact X
     · rw [O _ h2];exact B.get p (K.mem_iff.2 (Dg _ h3))
   · have J:p.1≠b:=fun e=>by
      rw [BW,H3]at hn;exact hn.2.2 b (Bm.2 ⟨_,Z,V⟩) p.1 (DP h) e.symm
     rw [O _ J];exact B.get p (K.mem_iff.2 (G2 _ h))
theorem GV{P:Program}{cx:Cx}{c:Code}{Q:Exit->Act->World->Prop}{env:Env}{H R:Hp}{s:List AA}(G:One s H R)(k:(s.map (·.1)).Nodup->At P cx c Q env H):At P cx c Q env H:=fun a w B=>k (by
 have:=B.sat.nodup;rw [(G.perm.map (·.1)).nodup_iff,BW]at this;exact (H3.1 this).1) a w B
theorem uu{P:Program}{cx:Cx}{c:Code}{Q:Exit->Act->World->Prop}{env:Env}{H R R2:Hp}{s:List AA}{b:Nat}{y:Obj}(G:One [(b,y)] H R)(h2:One s R R2)(k:b∉s.map (·.1)->At P cx c Q env H):At P cx c Q env H:=fun a w B=>k (fun I=>by
 have:=B.sat.nodup;rw [((G.perm.trans (RM _ h2.perm)).map (·.1)).nodup_iff,BW,BW]at this;exact (H3.1 this).2.2 b B0 b (Dg _ I) V) a w B
theorem Ee{s:List AA}{H R:Hp}(h:One s H R){b:Nat}{x:Obj}(B:(b,x)∈s):(b,x)∈H.flatten:=h.perm.mem_iff.2 (Dg _ B)
theorem I1{s:List AA}{H R:Hp}(h:One s H R){p:AA}(B:p∈s):∀c∈[p],c∈H.flatten:=fun c hc=>by
 rw [BT.1 hc];exact h.perm.mem_iff.2 (Dg _ B)
section
variable{P:Program}{u:World}{env:Env}{H R:Hp}{d:Option Nat}{ty:TypeId}{pos:String}{af:Array Edge}{g:Option (Nat×Bool)}
theorem Gn{t:TypeId}{x y:Operand}{b i:Nat}{c:Array Value}{T:TypeId}{z:Nat×Nat}{v:Value}{s X:List AA}(hs:∀w:World,(Go.sizeOf t).run P w= .ok 1 w)(hx:∀a,ev a env x= .pointer (some ⟨b,i,none⟩))(hy:∀a,ev a env y=v)(J:v.oneCell'=true)
 (W:One s H R)(U:(b,.cells c T z)∈s)(hc:IQ b (.cells (c.setIfInBounds i v) T z) s=X)(hi:i<c.size)(hz:Ih z c.size):
 OpW P u ⟨d,.store t x y,ty,pos,af,g⟩ env H (fun v' H1=>v'=undef/\H1=X::R) (fun _ _=>False):=fun a w G K Kp Z _=>by
 have O:=G.get _ (W.perm.mem_iff.2 (Dg _ U));have B:v.cells=#[v]:=by cases v<;>first|rfl|simp [Value.oneCell']at J
 have I:=Jq (P:=P) O hi hz J;have:(execOp (ev a env) ⟨d,.store t x y,ty,pos,af,g⟩).run P w= .ok .skip (w.setCell ⟨b,i,none⟩ v):=by
  simp [RI,hx a,hy a,Instr.storeAt,Instr.sureAddr,storeVar,hs,B,storeCells,Addr.add_zero',I]
 rw [this];exact Z _ _ _ ⟨V,V⟩ (hc▸YI G W U V rfl V (PG v O) fun k hk=>LG v hk)
theorem OG{t:TypeId}{x y:Operand}{b i n:Nat}{c cs:Array Value}{T:TypeId}{z:Nat×Nat}{s U:List AA}(hs:∀w:World,(Go.sizeOf t).run P w= .ok n w)(hx:∀a,ev a env x= .pointer (some ⟨b,i,none⟩))(hy:∀a,ev a env y= .agg cs)(W:∀v∈cs.toList,v.oneCell'=true)
 (O:One s H R)(J:(b,.cells c T z)∈s)(hc:IQ b (.cells (EL c i cs.toList) T z) s=U)(hn:cs.size=n)(hi:i+n<=c.size)(hz:Ih z c.size):
 OpW P u ⟨d,.store t x y,ty,pos,af,g⟩ env H (fun v' H1=>v'=undef/\H1=U::R) (fun _ _=>False):=fun a w B K Kp X _=>by
 have I:=B.get _ (O.perm.mem_iff.2 (Dg _ J));have G:=Ch (P:=P) b i T z cs.toList 0 c w I hz (by simp;omega) W
 simp only [Pu]at G;have:(execOp (ev a env) ⟨d,.store t x y,ty,pos,af,g⟩).run P w= .ok .skip (w.setRow b (EL c i cs.toList)):=by
  simp [RI,hx a,hy a,Instr.storeAt,Instr.sureAddr,storeVar,hs,Value.cells,hn,G,EL]
 rw [this];exact X _ _ _ ⟨rfl,rfl⟩ (hc▸YI B O J rfl rfl rfl (by rw [setRow_heap w b c _ T z I]) fun k Z=>setRow_other w b k _ Z)
end
end Gw
namespace Gw
open Go Go.RowKit
open Go.ChangeMaps (setBlock)
section
variable{α:Type}{P:Program}{κ:α->Value}{D:α->Prop}{u:World}{env:Env}{H R:Hp}{d:Option Nat}{ty:TypeId}{pos:String}{af:Array Edge}{g:Option (Nat×Bool)}{t kt et:TypeId}{m x y:Operand}{r:Nat}{es:Array MapEntry}{clock:Nat}{l:List (α×Value)}{k:α}{z v:Value}
def yP(es:Array MapEntry)(j st:Nat):Prop:=∃e,es.toList[j]?=some e/\e.born=st
theorem rX{es:Array MapEntry}{j:Nat}{e0:MapEntry}{kv:Value}(h:es[j]?=some e0)(G:e0.key=kv):(es.modify j fun e=>{e with key:=kv})=es:=by
 obtain ⟨J,B⟩:=HS.1 h;apply j7 B0;intro i I h2;rw [Array.getElem_modify];split
 · rename_i e;subst e
   rw [B];subst G;rfl
 · rfl
theorem KX [DecidableEq α]{v0:Value}(hK:Fv P kt κ D)(ht:P.underlying t=some (.map kt et))(hz:∀w:World,(zeroValue et).run P w= .ok z w)(I:Co κ es clock l)(hl:∀p∈l,D p.1)(hk:D k)(hv:(EI k l).getD z=v0)(hx:∀a,ev a env m= .map (some r))(hy:∀a,ev a env x=κ k)(U:One [(r,.map es clock)] H R):
 OpW P u ⟨d,.mapEntry t m x,ty,pos,af,g⟩ env H (fun v' H1=>∃G B O j st,v'= .tuple #[v0,I4 ((st:Nat):Int)]/\Co κ G B O/\O[j]?=some (k,v0)/\yP G j st/\(∀p,p∈O↔p=(k,v0)\/(p∈l/\p.1≠k))/\H1=[(r,.map G B)]::R) (fun _ _=>False):=fun a w W K Kp cO _=>by
 obtain ⟨hb,_⟩:=Ja U W (.map es clock)
 suffices hrun:∃G B O j st,(Instr.mapEntry t (.map (some r)) (κ k)).run P w= .ok (.tuple #[v0,I4 ((st:Nat):Int)]) (setBlock w r (.map G B))/\Co κ G B O/\O[j]?=some (k,v0)/\yP G j st/\∀p,p∈O↔p=(k,v0)\/(p∈l/\p.1≠k) by
  obtain ⟨G,B,O,j,st,h1,h2,h3,h4,h5⟩:=hrun;have:(execOp (ev a env) ⟨d,.mapEntry t m x,ty,pos,af,g⟩).run P w= .ok (.value (.tuple #[v0,I4 ((st:Nat):Int)])) (setBlock w r (.map G B)):=by
   show((do pure (Next.value (<-Instr.mapEntry t (ev a env m) (ev a env x))):Sem Next)).run P w=_;rw [hx a,hy a,Sem.run_bind,h1];rfl
  rw [this];exact cO _ _ _ ⟨G,B,O,j,st,V,h2,h3,h4,h5,V⟩ (Ja U W _).2
 rcases I9 hK I hl w k hk with⟨h1,h2⟩|⟨j,q,h1,h2⟩
 · rw [DW h2]at hv
   subst hv;refine ⟨es.push {key:=κ k,val:=z,born:=clock},clock+1,l++[(k,z)],l.length,clock,?_,⟨?_,?_,?_,?_⟩,by simp,⟨{key:=κ k,val:=z,born:=clock},by rw [<-I.size];simp,rfl⟩,?_⟩
   · simp only [Instr.mapEntry,Sem.run_bind,run_underlying ht,Result.andThen,MapKept.run_getObj_map hb,F4 hK hk,h1,hz,Fg hb,Sem.run_pure]
     rfl
   · simp [I.pairs]
   · simp only [lB,BW,DQ,J1]
     rw [H3];refine ⟨I.born,by simp,?_⟩;intro a ha b J ax;simp only [Bm,BT]at ha J;obtain ⟨e,Z,rfl⟩:=ha;have:=I.old e Z
     omega
   · intro e Z
     simp only [lB,B9,BT]at Z;rcases Z with Z|rfl
     · have:=I.old e Z;omega
     · simp
   · rw [BW,H3]
     refine ⟨I.keys,by simp,?_⟩;intro a ha b J ax;simp only [DQ,J1,BT]at J;obtain ⟨p,hp,rfl⟩:=Bm.1 ha;exact h2 p hp (by rw [ax,J])
   · intro p
     rw [B9,BT];constructor
     · rintro (h|rfl)
       · exact .inr ⟨h,h2 p h⟩
       · exact .inl rfl
     · rintro (rfl|⟨h,_⟩)
       · exact .inr rfl
       · exact .inl h
 · obtain ⟨e0,bg,bn,ek⟩:=I.of h2
   have hq:EI k l=some q:=Cy I.keys (DE h2);rw [hq]at hv;subst hv;have X:es[j]?=some e0:=by simpa using bg
   have d9:(Instr.keyThatStays (((es[j]?).map (·.key)).getD (κ k)) (κ k)).run P w= .ok (κ k) w:=by
    rw [X];show(Instr.keyThatStays e0.key (κ k)).run P w=_
    rw [bn];exact hK.stays w k hk
   refine ⟨es,clock,l,j,e0.born,?_,I,h2,⟨e0,bg,V⟩,fun p=>⟨fun h=>?_,fun h=>?_⟩⟩
   · simp only [Instr.mapEntry,Sem.run_bind,run_underlying ht,Result.andThen,MapKept.run_getObj_map hb,F4 hK hk,h1,d9,Fg hb,Sem.run_pure]
     rw [rX X bn,X];rfl
   · by_cases cu:p.1=k
     · refine .inl ?_
       obtain ⟨i,hi⟩:=GW h;obtain rfl:=L8 I.keys hi h2 cu;rw [h2]at hi;exact (S1 hi).symm
     · exact .inr ⟨h,cu⟩
   · rcases h with rfl|⟨h,_⟩
     · exact DE h2
     · exact h
theorem nk{es:Array MapEntry}{j st:Nat}(hn:(es.toList.map (·.born)).Nodup)(h:yP es j st):es.findIdx? (fun e=>(e.born:Int)==(st:Int))=some j:=by
 obtain ⟨e,I,O⟩:=h;have J:=(BE.1 I).1
 rw [show es.findIdx? (fun e=>(e.born:Int)==(st:Int))=es.toList.findIdx? (fun e=>(e.born:Int)==(st:Int)) from by rw [<-List.findIdx?_toArray,Array.toArray_toList],XS];refine ⟨J,?_,fun i hi=>?_⟩
 · have G:es.toList[j]=e:=(BE.1 I).2
   rw [G,O];simp
 · have B:i<es.toList.length:=by omega
   intro G;have U:(es.toList[i]).born=st:=by have K:=beq_iff_eq.1 G;omega
   have K:(es.toList.map (·.born))[i]?=(es.toList.map (·.born))[j]?:=by
    rw [DO,DO,I,B3 B];show some (es.toList[i]).born=some e.born
    rw [U,O]
   have:=(oX (by simpa using B) hn).1 K;omega
theorem Iy{j st:Nat}{v0:Value}(O:Co κ es clock l)(Z:l[j]?=some (k,v0))(hb:yP es j st)(hx:∀a,ev a env m= .map (some r))(hs:∀a,ev a env x=I4 ((st:Nat):Int))(hy:∀a,ev a env y=v)(I:One [(r,.map es clock)] H R):
 OpW P u ⟨d,.entryStore t m x y,ty,pos,af,g⟩ env H (fun v' H1=>v'=undef/\∃U G l',Co κ U G l'/\(∀p,p∈l'↔p=(k,v)\/(p∈l/\p.1≠k))/\H1=[(r,.map U G)]::R) (fun _ _=>False):=fun a w J K Kp ax _=>by
 obtain ⟨W,_⟩:=Ja I J (.map es clock);obtain ⟨e0,bg,bn,cu⟩:=O.of Z;have X:(Instr.entryStore t (.map (some r)) (I4 ((st:Nat):Int)) v).run P w= .ok () (setBlock w r (.map (es.modify j fun e=>{e with val:=v}) clock)):=by
  simp only [Instr.entryStore,Sem.run_bind,Result.andThen,MapKept.run_getObj_map W,asInt,asIntOf,Sem.run_pure,nk O.born hb,Fg W]
 have:(execOp (ev a env) ⟨d,.entryStore t m x y,ty,pos,af,g⟩).run P w= .ok .skip (setBlock w r (.map (es.modify j fun e=>{e with val:=v}) clock)):=by
  show((do Instr.entryStore t (ev a env m) (ev a env x) (ev a env y);pure Next.skip):Sem Next).run P w=_;rw [hx a,hs a,hy a,Sem.run_bind,X];rfl
 rw [this];refine ax _ _ _ ⟨V,_,clock,l.set j (k,v),⟨?_,?_,?_,?_⟩,jF O.keys Z v,V⟩ (Ja I J _).2
 · rw [eV]
   apply MT;intro i;have hj:(es.toList.map (fun e=>(e.key,e.val)))[i]?=(l.map (fun p=>(κ p.1,p.2)))[i]?:=by rw [O.pairs]
   rw [DO,DO]at hj;rw [DO,DO,eS,Sf];by_cases B:j=i
   · subst B
     rw [AM rfl,AM (BE.1 Z).1,bg];simp [bn]
   · simpa [B]using hj
 · have:(es.modify j fun e=>{e with val:=v}).toList.map (·.born)=es.toList.map (·.born):=by
    rw [eV];apply MT;intro i;simp only [DO,eS];by_cases B:j=i;· subst B;cases es.toList[j]?<;>simp
    · simp [B]
   rw [this];exact O.born
 · intro e he
   rw [eV]at he;obtain ⟨i,hi⟩:=GW he;simp only [eS]at hi;cases h9:es.toList[i]?with
   |none=>simp [h9]at hi
   |some e1=>
    have:=O.old e1 (DE h9);by_cases B:j=i
    · subst B
      simp only [h9,HR,Option.map_eq_map,N1,W1]at hi;subst hi;exact this
    · simp [h9,B]at hi
      subst hi;exact this
 · rw [ZF Z v];exact O.keys
end
end Gw
namespace Gw
open Go Go.RowKit
def KT{α:Type}(P:Program)(gf:FuncId)(lb:Array Value)(Hit:Hp)(A:List α->List AA->Prop)(encs:α->Array Value)(Adm Full:List α->Prop):Prop:=
 ∀(l:Nat) (J:List α->List AA->Prop),(∀pre s,J pre s->A pre s)->(∀pre x s,Adm (pre++[x])->J pre s->GD P l (encs x) [s] (fun v H'=>∃s',v= .bool true/\H'=[s']/\J (pre++[x]) s'))->
  ∀s,J [] s->Ba P gf (#[.func (.yield l) #[] #[]]++lb) (Hit++[s]) (fun _ H'=>∃ys s',Full ys/\H'=[s']/\J ys s')
theorem FC.toC{α:Type}{P:Program}{K:FuncId}{O:Array Value}{I:Hp}{A:List AA->Prop}{G:α->Array Value}{xs:List α}(h:FC P K O I A G xs):KT P K O I (fun _=>A) G (fun p=>∃B,xs=p++B) (fun ys=>ys=xs):=fun l J W hy s h0=>
 (h l J W (fun pre x B s hx X=>hy pre x s ⟨B,by rw [hx,Cd];rfl⟩ X) s h0).mono (by
   rintro v H' ⟨Z,U,h2⟩;exact ⟨xs,Z,V,U,h2⟩)
theorem J6{α:Type}{A:List α->List AA->Prop}{Adm Full:List α->Prop}{P:Program}{cx:Cx}{Q:Exit->Act->World->Prop}{env:Env}{H Z H0 R:Hp}{g:Operand}{ps:Array Tmp}{B O:Code}{gf:FuncId}{lb:Array Value}{G:α->Array Value}
 (I:List α->Hp->Prop)(E:α->Env->Hp->Prop)(hr:cx.r=none)(hg:∀a,ev a env g= .func (.func gf) #[] lb)(W:∀(args:Array Value) (w:World),(callFunc gf args).run P w= .ok (.enter gf args) w)
 (X:KT P gf lb Z A G Adm Full)(hA:∀pre H1 c d,I pre H1->A pre ([c,d]++H1.flatten))(bg:∀x,(G x).size=ps.size)(ax:(ps.toList.all fun t=>Nat.blt t cx.N)=true)(hp:Ew (Z++H0) H R)(h0:I [] H0)
 (K:∀(l:Nat) (x:α) (u:World) (H:Hp),At P ⟨cx.N,[],u,some l⟩ B (Exit.then (fun a w=>∃e Hn,E x e Hn/\Is ⟨cx.N,[],u,some l⟩ (e++env) (Hn++H) a w) (fun _ _ _=>False)) ((ps.toList.zip (G x).toList).reverse++env) H)
 (U:∀(l:Nat) (pre:List α) (x:α) (u:World) (e:Env) (Hn H1 R1:Hp) (r0:Loop),Adm (pre++[x])->I pre H1->E x e Hn->At P ⟨cx.N,[],u,some l⟩ O (Ig u I (pre++[x]) ([(l,.loop r0)]::R1)) (e++env) (H1++(Hn++([(l,.loop r0)]::R1))))
 (hk:∀(D:Nat) (ys:List α) (H2:Hp),Full ys->I ys H2->Nx ⟨cx.N,⟨.collected D,#[]⟩::cx.D,cx.u,none⟩ (Q .normal) env ([(D,.deferred (some []))]::(H2++R))):At P cx (.rangeFunc g ps B O) Q env H:=
 Mv (Hk:=[]) (St:=False) (Enc:=yD G) I (fun _ _=>False) (fun x _ _ e Hn=>E x e Hn) hr hg W (fun l J Jx af hX hy s h9=>(X l J af (fun pre x s ha hj=>NV (hy pre x s _ [] ha hj ⟨rfl,rfl⟩) fun v H' ⟨s',h1,h2⟩=>h2.elim (fun h=>⟨s',h.1,h1,h.2⟩) fun h=>(hX _ _ h.2).elim) s h9).mono (by rintro v H' ⟨ys,s',h1,h2,h3⟩;exact ⟨s',h2,.inl ⟨ys,h1,h3⟩⟩)) (fun _ _ h=>h) hA (fun x vs sx he=>by rw [he.1];exact bg x) ax hp h0
  (fun l x vs sx u H he=>by obtain ⟨rfl,rfl⟩:=he;exact K l x u H)
  (fun l pre x u vs sx e Hn H1 R1 r0 hx hI he hE=>by
    obtain ⟨rfl,rfl⟩:=he;exact UA (Px (U l pre x u e Hn H1 R1 r0 hx hI hE)) fun f h h1 h2=>by simp only [CA,Ge,FG,h,h1,h2];omega) (fun D ys H2 hf hI=>hk D ys H2 hf hI) fun _ _ _ h=>h.elim
theorem PV{α:Type}{A:List AA->Prop}{P:Program}{cx:Cx}{Q:Exit->Act->World->Prop}{env:Env}{H Z H0 R:Hp}{g:Operand}{ps:Array Tmp}{B O:Code}{gf:FuncId}{lb:Array Value}{G:α->Array Value}{xs:List α}
 (I:List α->Hp->Prop)(E:α->Env->Hp->Prop)(hr:cx.r=none)(hg:∀a,ev a env g= .func (.func gf) #[] lb)(W:∀(args:Array Value) (w:World),(callFunc gf args).run P w= .ok (.enter gf args) w)
 (X:FC P gf lb Z A G xs)(hA:∀pre H1 c d,I pre H1->A ([c,d]++H1.flatten))(ax:∀x,(G x).size=ps.size)(af:(ps.toList.all fun t=>Nat.blt t cx.N)=true)(hp:Ew (Z++H0) H R)(h0:I [] H0)
 (J:∀(l:Nat) (x:α) (u:World) (H:Hp),At P ⟨cx.N,[],u,some l⟩ B (Exit.then (fun a w=>∃e Hn,E x e Hn/\Is ⟨cx.N,[],u,some l⟩ (e++env) (Hn++H) a w) (fun _ _ _=>False)) ((ps.toList.zip (G x).toList).reverse++env) H)
 (U:∀(l:Nat) (pre:List α) (x:α) (K:List α) (u:World) (e:Env) (Hn H1 R1:Hp) (r0:Loop),xs=pre++x::K->I pre H1->E x e Hn->At P ⟨cx.N,[],u,some l⟩ O (Ig u I (pre++[x]) ([(l,.loop r0)]::R1)) (e++env) (H1++(Hn++([(l,.loop r0)]::R1))))
 (hk:∀(D:Nat) (H2:Hp),I xs H2->Nx ⟨cx.N,⟨.collected D,#[]⟩::cx.D,cx.u,none⟩ (Q .normal) env ([(D,.deferred (some []))]::(H2++R))):At P cx (.rangeFunc g ps B O) Q env H:=
 J6 I E hr hg W X.toC hA ax af hp h0 J (fun l pre x u e Hn H1 R1 r0 ⟨K,h⟩=>U l pre x K u e Hn H1 R1 r0 (by rw [h,Cd];rfl)) fun D ys H2 h hI=>hk D H2 (h▸hI)
theorem iD{α:Type}{A:List AA->Prop}{P:Program}{cx:Cx}{Q:Exit->Act->World->Prop}{env:Env}{H O H0 R:Hp}{g:Operand}{ps:Array Tmp}{assign body:Code}{gf:FuncId}{lb:Array Value}{G:α->Array Value}{xs:List α}{l0:Nat}{r0:Loop}
 (I:List α->Hp->Prop)(E:α->Env->Hp->Prop)(hr:cx.r=some l0)(gF:Has l0 (.loop r0) H)(hg:∀a,ev a env g= .func (.func gf) #[] lb)(ek:∀(args:Array Value) (w:World),(callFunc gf args).run P w= .ok (.enter gf args) w)
 (gy:FC P gf lb O A G xs)(hA:∀pre H1 c,I pre H1->A ([c]++H1.flatten))(pq:∀x,(G x).size=ps.size)(pg:(ps.toList.all fun t=>Nat.blt t cx.N)=true)(hp:Ew (O++H0) H R)(h0:I [] H0)
 (U:∀(l:Nat) (x:α) (u:World) (H:Hp),At P ⟨cx.N,[],u,some l⟩ assign (Exit.then (fun a w=>∃e Hn,E x e Hn/\Is ⟨cx.N,[],u,some l⟩ (e++env) (Hn++H) a w) (fun _ _ _=>False)) ((ps.toList.zip (G x).toList).reverse++env) H)
 (d9:∀(l:Nat) (pre:List α) (x:α) (af:List α) (u:World) (e:Env) (Hn H1 R1:Hp) (r1:Loop),xs=pre++x::af->I pre H1->E x e Hn->At P ⟨cx.N,[],u,some l⟩ body (Ig u I (pre++[x]) ([(l,.loop r1)]::R1)) (e++env) (H1++(Hn++([(l,.loop r1)]::R1))))
 (hk:∀(H2:Hp),I xs H2->Nx cx (Q .normal) env (H2++R)):At P cx (.rangeFunc g ps assign body) Q env H:=by
 intro a w hs;refine wpIn_rangeFunc ?_;intro fn ql;have pz:(Fx cx.r).round=some l0:=hr
 have o8:=hs.sat.get _ gF.mem;rw [pz];obtain ⟨B,J⟩:∃B:LoopState->Option Code->Loop,B=fun st pe=>{state:=st,pending:=pe,fn,tmps:=(CF env a).tmps,params:=ps,assign,body,defers:=r0.defers}:=⟨_,rfl⟩;have l8:Sat cx.u ((O++H0)++R) w:=hs.sat.perm hp.perm
 have j3:Sat cx.u ([(w.heap.size,.loop (B .ready none))]::(O++H0++R)) (w.alloc (.loop (B .ready none))):=l8.alloc (.loop (B .ready none));have gq:Fit a.tmps.size env:=by rw [hs.size];exact hs.fit
 refine ⟨w.heap.size,[],w.alloc (.loop (B .ready none)),⟨.fn (.func gf) lb,#[.func (.yield (w.heap.size)) #[] #[]]⟩,w.alloc (.loop (B .ready none)),gf,
  #[.func (.yield (w.heap.size)) #[] #[]]++lb,w.alloc (.loop (B .ready none)),?_,?_,fun _ _=>trivial,?_,fun h=>by simp [Fx,Fence.wide]at h,?_⟩
 · rw [J];exact run_enterLoop_inner o8 _ _ _ _ _
 · simp only [resolve,FR a env gq,hg a]
   simp [Deferred.ofValue,ev,Act.eval]
 · simp [invoke,ek]
 · refine Xi ?_
   have hJ:=gy (w.heap.size) (fun pre s=>∃H1,I pre H1/\s=[(w.heap.size,.loop (B .ready none))]++H1.flatten) (by rintro pre _ ⟨H1,h1,rfl⟩;exact hA pre H1 _ h1) ?_ _ ⟨H0,h0,rfl⟩
   · have gB:([(w.heap.size,Obj.loop (B .ready none))]::(O++H0++R)).flatten.Perm ((O++[[(w.heap.size,Obj.loop (B .ready none))]++H0.flatten])++R).flatten:=by
      simp only [CA,Ge,Mz,PJ,LN,FG,DB,Cd];exact Rg.symm
     refine Calls.mono (hJ cx.u R _ (j3.perm gB)) fun e w2 he=>?_;rcases he with⟨v,H',rfl,⟨s',rfl,H2,cO,rfl⟩,j5⟩|⟨_,_,_,h,_⟩
     · have Z:Sat cx.u ([(w.heap.size,Obj.loop (B .ready none))]::(H2++R)) w2:=by
        refine j5.perm ?_;simp
       have hl:=Z.get (w.heap.size,Obj.loop (B .ready none)) B0;have X:=run_endLoop (P:=P) hl (by rw [J];simp)
       have p9:(B .ready none).pending=none:=by rw [J]
       have lw:=hk H2 cO a (w2.putObj w.heap.size (.loop {B .ready none with state:= .exhausted}))
        ⟨hs.size,hs.defers,hs.fit,(Z.turn (o':= .loop {B .ready none with state:= .exhausted})).sub ⟨[(w.heap.size,.loop {B .ready none with state:= .exhausted})],by
          simp only [CA];exact Ly⟩⟩
       refine ⟨_,_,X,?_⟩;have key:∀(p:Option Code) (A:Act) (W:World),p=none->Q .normal A W->(match p with|none=>Q .normal A W|some c=>c.wpIn (Fx cx.r) 0 P Q A W):=fun p A W h1 h2=>by subst h1;exact h2
       refine key _ _ _ p9 ?_;exact lw
     · exact h.elim
   · rintro pre x af s qj ⟨H1,hI,rfl⟩ u R1 w1 qb K Kp hK
     have cu:Sat u ([(w.heap.size,Obj.loop (B .ready none))]::(H1++R1)) w1:=by
      refine qb.perm ?_;simp
     have hl:=cu.get (w.heap.size,Obj.loop (B .ready none)) B0;have hy:=run_yield (P:=P) (args:=G x) hl (by rw [J];exact pq x)
     rw [hy];show RoundIn Fence.wide 0 P (w.heap.size) _ _ _ _ w1 _
     rw [J];refine roundIn_of_wpIn (F:=Fence.wide) trivial ?_;have qa:({tmps:=(ps.zip (G x)).foldl (fun tmps x=>match x with|(t,a)=>tmps.setIfInBounds t a) (CF env a).tmps,defers:=[]}:Act)=CF ((ps.toList.zip (G x).toList).reverse++env) {a with defers:=[]}:=by
      rw [Je,FH [] env a];have h1:(ps.zip (G x)).foldl (fun tmps x=>match x with|(t,a)=>tmps.setIfInBounds t a) (CF env a).tmps=(CF (ps.toList.zip (G x).toList).reverse (CF env a)).tmps:=by
       rw [<-Nv,<-oR,Array.toList_zip]
      rw [h1,FH [] _ (CF env a)]
     have gm:Fit cx.N ((ps.toList.zip (G x).toList).reverse++env):=by
      intro q hq;rcases B9.1 hq with hq|hq
      · have:=ee.1 hq
        have h2:=N0.1 pg q.1 (List.of_mem_zip this).1;simpa using h2
      · exact hs.fit q hq
     have ha:=U (w.heap.size) x u ([(w.heap.size,Obj.loop (B .ready none))]::(H1++R1)) {a with defers:=[]} w1 ⟨hs.size,rfl,gm,cu⟩;rw [<-qa]at ha;refine wpIn_mono ha fun e a1 w2 he=>?_;cases e<;>first|exact he|skip
     obtain ⟨e9,Hn,hE,a2,ax,rfl⟩:=he;have bn:Sat u ([(w.heap.size,Obj.loop (B .ready none))]::(H1++(Hn++R1))) w2:=by
      refine ax.sat.perm ?_;simp only [CA,Ge,Mz];refine Rg.trans (List.Perm.cons _ ?_);rw [<-Cd,<-Cd];exact Ly.append_right _
     have o9:=bn.get (w.heap.size,Obj.loop (B .ready none)) B0;refine ⟨_,run_beginRound o9 (by rw [J]),?_⟩;have l9:Sat u (H1++(Hn++([(w.heap.size,Obj.loop {B .ready none with state:= .busy})]::R1))) (w2.putObj (w.heap.size) (.loop {B .ready none with state:= .busy})):=by
      refine (bn.turn (o':= .loop {B .ready none with state:= .busy})).perm ?_;simp only [CA,Ge,Mz];rw [<-Cd,<-Cd];exact Rg.symm
     have hb:=d9 (w.heap.size) pre x af u e9 Hn H1 R1 _ qj hI hE a2 _ ⟨ax.size,ax.defers,ax.fit,l9⟩;refine wpIn_mono hb fun e a3 w3 kv=>?_;cases e<;>first|exact kv.elim|skip
     obtain ⟨H2,cO,q9⟩:=kv;have bg:Sat u ([(w.heap.size,Obj.loop {B .ready none with state:= .busy})]::(H2++R1)) w3:=by
      refine q9.perm ?_;simp only [CA,Ge,Mz];exact Rg
     have p8:=bg.get (w.heap.size,Obj.loop {B .ready none with state:= .busy}) B0;have X:=run_endRound (P:=P) none p8
     refine ⟨_,_,X,?_⟩;refine hK _ _ _ ⟨[(w.heap.size,.loop (B .ready none))]++H2.flatten,V,V,H2,cO,V⟩ ?_;have l5:=bg.turn (o':= .loop (B .ready none))
     have ic:({{B .ready none with state:=LoopState.busy}with state:=if(none:Option Code).isNone=true then LoopState.ready else .done,pending:=none}:Loop)=B .ready none:=by rw [J];rfl
     rw [ic];refine l5.perm ?_;simp
def N7{α:Type}(P:Program)(gf:FuncId)(lb:Array Value)(Hit:Hp)(A:List AA->Prop)(encs:α->Array Value)(xs:List α):Prop:=
 ∀(l:Nat) (J Jx:List α->List AA->Prop),(∀pre s,J pre s->A s)->(∀pre x post s,xs=pre++x::post->J pre s->GD P l (encs x) [s] (fun v H'=>∃s',H'=[s']/\((v= .bool true/\J (pre++[x]) s')\/(v= .bool false/\Jx (pre++[x]) s'))))->
  ∀s,J [] s->Ba P gf (#[.func (.yield l) #[] #[]]++lb) (Hit++[s]) (fun _ H'=>∃s',H'=[s']/\(J xs s'\/∃pre,Jx pre s'))
theorem N7.all{α:Type}{P:Program}{X:FuncId}{Z:Array Value}{G:Hp}{A:List AA->Prop}{B:α->Array Value}{xs:List α}(h:N7 P X Z G A B xs):FC P X Z G A B xs:=fun l J hA hy s h0=>by
 refine (h l J (fun _ _=>False) hA (fun pre x O s hx hj=>?_) s h0).mono ?_
 · intro u R w hs K Kp hK
   refine hy pre x O s hx hj u R w hs K Kp fun v H' w' hq I=>hK v H' w' ?_ I;obtain ⟨W,U,h2,h3⟩:=hq;exact ⟨W,h2,.inl ⟨U,h3⟩⟩
 · rintro v H' ⟨W,U,h2|⟨_,h2⟩⟩
   · exact ⟨W,U,h2⟩
   · exact h2.elim
theorem Xo{α:Type}{A:List AA->Prop}{P:Program}{cx:Cx}{Q:Exit->Act->World->Prop}{env:Env}{H ax H0 R:Hp}{g:Operand}{ps:Array Tmp}{G U:Code}{gf:FuncId}{lb:Array Value}{K:α->Array Value}{xs:List α}
 (I Ix:List α->Hp->Prop)(E:α->Env->Hp->Prop)(hr:cx.r=none)(hg:∀a,ev a env g= .func (.func gf) #[] lb)(Z:∀(args:Array Value) (w:World),(callFunc gf args).run P w= .ok (.enter gf args) w)
 (af:N7 P gf lb ax A K xs)(hA:∀pre H1 c d,I pre H1->A ([c,d]++H1.flatten))(cO:∀x,(K x).size=ps.size)(cu:(ps.toList.all fun t=>Nat.blt t cx.N)=true)(hp:Ew (ax++H0) H R)(h0:I [] H0)
 (O:∀(l:Nat) (x:α) (u:World) (H:Hp),At P ⟨cx.N,[],u,some l⟩ G (Exit.then (fun a w=>∃e Hn,E x e Hn/\Is ⟨cx.N,[],u,some l⟩ (e++env) (Hn++H) a w) (fun _ _ _=>False)) ((ps.toList.zip (K x).toList).reverse++env) H)
 (X:∀(l:Nat) (pre:List α) (x:α) (B:List α) (u:World) (e:Env) (Hn H1 R1:Hp) (r0:Loop),xs=pre++x::B->I pre H1->E x e Hn->At P ⟨cx.N,[],u,some l⟩ U (KS u I Ix (pre++[x]) ([(l,.loop r0)]::R1)) (e++env) (H1++(Hn++([(l,.loop r0)]::R1))))
 (hk:∀(D:Nat) (W:Hp),I xs W->Nx ⟨cx.N,⟨.collected D,#[]⟩::cx.D,cx.u,none⟩ (Q .normal) env ([(D,.deferred (some []))]::(W++R)))
 (bn:∀(D:Nat) (pre:List α) (W:Hp),Ix pre W->Nx ⟨cx.N,⟨.collected D,#[]⟩::cx.D,cx.u,none⟩ (Q .ret) env ([(D,.deferred (some []))]::(W++R))):At P cx (.rangeFunc g ps G U) Q env H:=
 Mv (Hk:=[]) (A:=fun _=>A) (St:=True) (Adm:=fun p=>∃B,xs=p++B) (Full:=fun ys=>ys=xs) (Enc:=yD K) I Ix (fun x _ _ e Hn=>E x e Hn) hr hg Z (fun l J Jx bg _ hy s h9=>(af l J Jx bg (fun pre x B s hx hj=>NV (hy pre x s _ [] ⟨B,by rw [hx,Cd];rfl⟩ hj ⟨rfl,rfl⟩) fun _ _ h=>h) s h9).mono (by rintro v H' ⟨s',h1,h2⟩;exact ⟨s',h1,h2.imp (fun h=>⟨xs,rfl,h⟩) id⟩)) (fun _ _ _=>trivial) hA (fun x vs sx he=>by rw [he.1];exact cO x) cu hp h0
  (fun l x vs sx u H he=>by obtain ⟨rfl,rfl⟩:=he;exact O l x u H)
  (fun l pre x u vs sx e Hn H1 R1 r0 ⟨B,hx⟩ hI he hE=>by
    obtain ⟨rfl,rfl⟩:=he;exact UA (X l pre x B u e Hn H1 R1 r0 (by rw [hx,Cd];rfl) hI hE) fun f h h1 h2=>by simp only [CA,Ge,FG,h,h1,h2];omega) (fun D ys W hf hI=>by rw [hf]at hI;exact hk D W hI) bn
theorem U8{P:Program}{cx:Cx}{G:Code}{Q:Exit->Act->World->Prop}{env:Env}{M s1 s2:List AA}{H R:Hp}(I:One M H R)(J:M.Perm (s1++s2))(k:At P cx G Q env (s1::s2::R)):At P cx G Q env H:=fun a w B=>
 k a w ⟨B.size,B.defers,B.fit,B.sat.perm (by
   have:=I.perm.trans (nd R.flatten J);simpa only [CA,Cd]using this)⟩
def UK{κ:Type} [DecidableEq κ](sz:Nat)(e:TypeId)(lm:List (κ×Value))(n:κ->Nat)(xs:κ->List Value)(M:List AA):Prop:=
 ∃seg:κ->List AA,(∀k,Bc sz e ((EI k lm).getD (.slice none 0 0)) (n k) (xs k) (seg k))/\M.Perm ((lm.map (·.1)).flatMap seg)
theorem aN{κ:Type} [DecidableEq κ](sz:Nat)(e:TypeId):UK sz e ([]:List (κ×Value)) (fun _=>0) (fun _=>[]) []:=⟨fun _=>[],fun _=>Bf _ _,.refl _⟩
theorem QL{κ:Type} [DecidableEq κ]{sz:Nat}{e:TypeId}{lm:List (κ×Value)}{n:κ->Nat}{xs:κ->List Value}{M:List AA}(hk:(lm.map (·.1)).Nodup)(h:UK sz e lm n xs M)(k:κ):
 ∃s M',Bc sz e ((EI k lm).getD (.slice none 0 0)) (n k) (xs k) s/\M.Perm (s++M')/\∀(v':Value) (Z:List AA) (n':Nat) (xs':List Value) (B:List (κ×Value)),(B.map (·.1)).Nodup->(∀p,p∈B↔p=(k,v')\/(p∈lm/\p.1≠k))->Bc sz e v' n' xs' Z->
  UK sz e B (fun x=>if x=k then n' else n x) (fun x=>if x=k then xs' else xs x) (Z++M'):=by
 obtain ⟨G,hr,hM⟩:=h;refine ⟨G k,((lm.map (·.1)).filter fun x=>decide (x≠k)).flatMap G,hr k,hM.trans ?_,?_⟩
 · by_cases U:k∈lm.map (·.1)
   · have J:(lm.map (·.1)).Perm (k::(lm.map (·.1)).filter fun x=>decide (x≠k)):=(RE hk (Hj.2 ⟨by simp,hk.sublist TX⟩)).2 fun a=>by
      by_cases W:a=k
      · subst W;simp only [D4,true_or,iff_true];exact U
      · simp only [D4,FA,W,false_or,Fl,ne_eq,fy,eI]
     have h2:=J.flatMap_right G;rwa [HL]at h2
   · have h0:=hr k
     rw [DW fun p K X=>U (Bm.2 ⟨p,K,X⟩)]at h0;have hs:G k=[]:=by
      rcases h0 with⟨_,⟨_,_,h⟩|⟨g,cap,cur,z,h,_⟩⟩
      · exact h
      · simp at h
     have hf:((lm.map (·.1)).filter fun x=>decide (x≠k))=lm.map (·.1):=kl.2 fun a W=>by
      simp only [Fl];intro h;subst h;exact U W
     rw [hs,hf];exact .refl _
 · intro v' Z n' xs' B O K af
   refine ⟨fun x=>if x=k then Z else G x,fun x=>?_,?_⟩
   · by_cases hx:x=k
     · subst hx
       simp only [HR];rw [Cy O ((K _).2 (.inl rfl))];exact af
     · simp only [AK hx]
       have hg:EI x B=EI x lm:=by
        by_cases U:∃v,(x,v)∈lm
        · obtain ⟨v,hv⟩:=U
          rw [Cy hk hv,Cy O ((K _).2 (.inr ⟨hv,hx⟩))]
        · rw [DW (l:=lm) fun p I X=>U ⟨p.2,by rw [<-X];exact I⟩,DW (l:=B) fun p I X=>by
           rcases (K p).1 I with rfl|⟨J,_⟩
           · exact hx X.symm
           · exact U ⟨p.2,by rw [<-X];exact J⟩]
       rw [hg];exact hr x
   · have J:(B.map (·.1)).Perm (k::(lm.map (·.1)).filter fun x=>decide (x≠k)):=(RE O (Hj.2 ⟨by simp,hk.sublist TX⟩)).2 fun a=>by
      simp only [D4,FA,Bm,Fl];constructor
      · rintro ⟨p,I,rfl⟩
        rcases (K p).1 I with rfl|⟨J,h2⟩
        · exact .inl rfl
        · exact .inr ⟨⟨p,J,rfl⟩,h2⟩
      · rintro (rfl|⟨⟨p,J,rfl⟩,h2⟩)
        · exact ⟨_,(K _).2 (.inl rfl),rfl⟩
        · exact ⟨p,(K p).2 (.inr ⟨J,h2⟩),rfl⟩
     have h2:=J.flatMap_right fun x=>if x=k then Z else G x
     rw [HL,AM rfl]at h2;refine List.Perm.symm (h2.trans ?_);rw [List.flatMap_def,List.flatMap_def,Vc (g:=G) fun a W=>?_];rw [AK (by simpa using(FA.1 W).2)]
theorem UK.row{κ:Type} [DecidableEq κ]{sz:Nat}{e:TypeId}{lm:List (κ×Value)}{n:κ->Nat}{xs:κ->List Value}{M:List AA}(h:UK sz e lm n xs M)(k:κ):∃s,Bc sz e ((EI k lm).getD (.slice none 0 0)) (n k) (xs k) s/\∀c∈s,c∈M:=by
 obtain ⟨B,I,J⟩:=h;refine ⟨B k,I k,fun c hc=>J.mem_iff.2 ?_⟩;by_cases G:k∈lm.map (·.1);· exact S0.2 ⟨k,G,hc⟩
 · have h0:=I k
   rw [DW fun p O K=>G (Bm.2 ⟨p,O,K⟩)]at h0;rcases h0 with⟨_,⟨_,_,h⟩|⟨g,cap,cur,z,h,_⟩⟩
   · rw [h]at hc;cases hc
   · simp at h
def LF(D:Nat):AA:=(D,.deferred (some []))
def vQ(N:Nat)(u:World)(I:Nat->Env->Hp->Prop)(B:Env)(R:Hp)(n:Nat)(a:Act)(w:World):Prop:=∃m e H Ds a0,m<n/\I m e H/\St ⟨N,Ji Ds,u,none⟩ (e++B) (Ds.map LF::(H++R)) a0 w/\a=CF (e++B) a0
theorem uw{P:Program}{N:Nat}{u:World}{Q:Exit->Act->World->Prop}{c:Code}{e0 B:Env}{H H0 R:Hp}(I:Nat->Env->Hp->Prop){n:Nat}(h0:I n e0 H0)(hp:Ew H0 H R)(O:∀(Ds:List Nat) n e H,I n e H->At P ⟨N,Ji Ds,u,none⟩ c (Exit.then (vQ N u I B R n) Q) (e++B) (Ds.map LF::(H++R))):At P ⟨N,[],u,none⟩ (.loop c) Q (e0++B) H:=by
 intro a w U b k cs cu hb hr;have key:∀n Ds e H a w,I n e H->St ⟨N,Ji Ds,u,none⟩ (e++B) (Ds.map LF::(H++R)) a w->
  ∃x Z w',Q x Z w'/\ArrivesIn (Machine.fenced P (Fx none)) P (lone (b.atR (CF (e++B) a) (.code c:: .inLoop c::k)) cs w) b k cs x Z w':=by
  intro n;induction n using Nat.strongRecOn with
  |_ n ih=>
   intro Ds e H a w hI U;obtain ⟨x,X,W,J,G⟩:=O Ds n e H hI a w U b (.inLoop c::k) cs cu hb hr;cases x with
   |normal=>
    obtain ⟨m,e',H',af,a0,bg,ax,cO,rfl⟩:=J;obtain ⟨e₂,a₂,w₂,bn,K⟩:=ih m bg af e' H' a0 W ax cO;exact ⟨e₂,a₂,w₂,bn,.of_steps (StepsIn.trans G (.one (fenced_calm hb hr V) stepR_inLoop)) K⟩
   |exit id=>exact ⟨_,X,W,J,.pass (x:= .inLoop c) rfl (fun _ _=> .inl B0) G⟩
   |goto l=>exact ⟨_,X,W,J,.pass (x:= .inLoop c) rfl (fun _ _=> .inl B0) G⟩
   |ret=>exact ⟨_,X,W,J,.pass (x:= .inLoop c) rfl (fun _ _=> .inl B0) G⟩
   |panic ch=>exact ⟨_,X,W,J,.pass (x:= .inLoop c) rfl (fun _ _=> .inl B0) G⟩
   |outgrown=>exact ⟨_,X,W,J,.pass (x:= .inLoop c) rfl (fun _ _=> .inl B0) G⟩
 obtain ⟨x,Z,w',J,G⟩:=key n [] e0 H0 a w h0 ⟨U.size,U.defers,U.fit,U.sat.perm (by simpa using hp.perm)⟩;exact ⟨x,Z,w',J,.of_steps (.one (fenced_calm hb hr V) stepR_loop) G⟩
theorem eX{N:Nat}{u:World}{Q:Exit->Act->World->Prop}{I:Nat->Env->Hp->Prop}{B e':Env}{R H H1 K H':Hp}{n m D:Nat}{Ds:List Nat}(h:I m e' H')(O:One [(D,.deferred (some []))] H H1)(h2:One (Ds.map LF) H1 K)(W:m<n:=by omega)(X:Sub (H'++R) K:=by repeat(first|exact Sub.refl _|exact Sub.nil _|(apply Sub.cons;(focus (repeat(first|exact One.here _ _|apply One.there))))|refine Sub.drop _ ?_)):
 Nx ⟨N,⟨.collected D,#[]⟩::Ji Ds,u,none⟩ ((Exit.then (vQ N u I B R n) Q) .normal) (e'++B) H:=fun a w J=>by
 have G:Sat u (((D::Ds).map LF)::K) w:=J.sat.perm (by
  refine O.perm.trans ?_;have:=h2.perm
  simp only [CA,DQ,PJ,Mz]at this⊢;exact this.cons _)
 refine ⟨m,e',H',D::Ds,a,W,h,⟨J.size,J.defers,J.fit,G.sub ?_⟩,V⟩;obtain ⟨Z,U⟩:=X.amid;exact ⟨Z,by simp only [CA,Cd];exact RM _ U⟩
theorem rR{P:Program}{N:Nat}{u:World}{fn:Func}{R H H0 H':Hp}{Q:Value->Hp->Prop}{Pn:List PanicEntry->Hp->Prop}{env:Env}{e:Exit}{Ds:List Nat}{v:Value}(he:Fa e=true)(hr:Res P fn env v)(hd:One (Ds.map LF) H H0)(hq:Q v H')(hp:Sub (H'++R) H0:=by repeat(first|exact Sub.refl _|exact Sub.nil _|(apply Sub.cons;(focus (repeat(first|exact One.here _ _|apply One.there))))|refine Sub.drop _ ?_)):
 Nx ⟨N,Ji Ds,u,none⟩ (bodyPostM Fence.wide 0 P fn (GX u R Q Pn) e) env H:=fun a w O=>by
 have X:(CF env a).defers=Ji Ds:=by rw [Fj];exact O.defers
 have J:Sat u (Ds.map LF::(H'++R)) w:=by
  refine (O.sat.perm (by simpa using hd.perm):Sat u (Ds.map LF::H0) w).sub ?_;obtain ⟨Z,hZ⟩:=hp.amid;exact ⟨Z,by simp only [CA,Cd];exact RM _ hZ⟩
 have G:∀(Ds:List Nat) (w:World),Sat u (Ds.map LF::(H'++R)) w->LeavesInM Fence.wide 0 P fn (CF env a).tmps (GX u R Q Pn) (Ji Ds) .returning w:=by
  intro Ds;induction Ds with
  |nil=>intro w U;exact ⟨v,hr a w (by rw [O.size];exact O.fit),.inl ⟨v,H',rfl,hq,U.perm B0⟩⟩
  |cons D Ds ih=>
   intro w U;have K:Sat u ([(D,.deferred (some []))]::(Ds.map LF::(H'++R))) w:=by
    refine U.perm ?_;simp [LF]
   have I:=K.get (D,.deferred (some [])) B0;have W:Sat u (Ds.map LF::(H'++R)) (w.putObj D (.deferred none)):=(K.turn (o':= .deferred none)).sub ⟨[(D,.deferred none)],by simp only [CA];exact Ly⟩
   refine ⟨by simp [Ji],.inl ⟨D,_,V,YK I,?_⟩⟩;exact ih _ W
 have B:=G Ds w J;rw [<-X]at B;cases e<;>first|exact B|simp [Fa]at he
section
variable{P:Program}{u:World}{env:Env}{H:Hp}{d:Option Nat}{ty:TypeId}{pos:String}{af:Array Edge}{g:Option (Nat×Bool)}
theorem WY{t e l c by_ sz:Nat}{x y:Operand}{z:Value}{i:TypeInfo}{k k':IntKind}(hu:P.underlying t=some (.slice e))(hi:P.info? e=some i)(hs:i.size=sz)(O:i.bytes=by_)(U:i.zero=some z)
 (hx:∀a,ev a env x= .int k (l:Int))(hy:∀a,ev a env y= .int k' (c:Int))(ax:l<=c)(hc:c<=9223372036854775807)(hb:by_*c<=281474976710656):
 OpW P u ⟨d,.makeSlice t x y,ty,pos,af,g⟩ env H (fun v' H1=>∃b cur,v'=I6 b l c/\cur.size=c*sz/\H1=[(b,.cells cur e (0,0))]::H) (fun _ _=>False):=fun a w I K Kp hK _=>by
 have w1:IntKind.i64.wrap (l:Int)=(l:Int):=ED _ (by omega);have w2:IntKind.i64.wrap (c:Int)=(c:Int):=ED _ hc
 have J:¬((281474976710656:Int)<(by_:Int)*(c:Int)):=by
  rw [<-lR];omega
 have X:¬((c:Int)<0):=by omega
 have Z:¬((l:Int)<0):=by omega
 have h5:¬((c:Int)<(l:Int)):=by omega
 have B:∃cur:Array Value,cur.size=c*sz/\(Instr.makeSlice t (ev a env x) (ev a env y)).run P w= .ok (.slice (some ⟨w.heap.size,0,none⟩) l c) {w with heap:=w.heap.push (.cells cur e)}:=by
  refine ⟨(Array.range (c*sz)).map ((if c*sz=0 then(#[]:Array Value)else z.cells)[·%(if c*sz=0 then(#[]:Array Value)else z.cells).size]!),by simp,?_⟩;rw [hx a,hy a];unfold Instr.makeSlice;simp only [Sem.run_bind,run_underlying hu,Result.andThen_ok,asInt,asIntOf,Sem.run_pure,typeInfo,run_program,hi,O,w1,w2];simp only [X,Z,h5,J,gt_iff_lt,Nat.reducePow,X1,el,MA,HF,Int.reducePow,Int.cast_ofNat_Int];simp only [Sem.run_bind,run_askRoom,Result.andThen_ok,Go.sizeOf,typeInfo,run_program,hi,Sem.run_pure,hs,W0];by_cases h0:c*sz=0;· simp [h0,newRow]
  · have W:(zeroValue e).run P w= .ok z w:=by simp [zeroValue,typeInfo,hi,U]
    simp only [h0,HF,Sem.run_bind,W,Result.andThen_ok,Sem.run_pure,newRow,run_newObj]
 obtain ⟨cur,G,B⟩:=B;have:(execOp (ev a env) ⟨d,.makeSlice t x y,ty,pos,af,g⟩).run P w= .ok (.value (.slice (some ⟨w.heap.size,0,none⟩) l c)) {w with heap:=w.heap.push (.cells cur e)}:=by
  rw [QT,Sem.run_bind,B];rfl
 rw [this];exact hK _ _ _ ⟨_,cur,V,G,V⟩ (I.alloc _)
theorem kJ{sz:Nat}{e:TypeId}{g c:Nat}{cur:Array Value}(h:c<=maxLen)(B:cur.size=c*sz):Bc sz e (I6 g 0 c) 0 [] [(g,.cells cur e (0,0))]:=
 ⟨by simp,.inr ⟨g,c,cur,(0,0),rfl,rfl,C0 _,h,B,by simp,BB _⟩⟩
end
def EqT(P:Program)(k:Nat)(t:TypeId)(v u:Value)(b:Bool):Prop:=∀(n:Nat) (w:World),(Op.equalIn (n+k) t v u).run P w= .ok b w
section
variable{P:Program}{t e:TypeId}
theorem J3(B:P.underlying e=some (.int .i64))(m k:Int):EqT P 2 e (I4 m) (I4 k) (decide (m=k)):=fun n w=>RU (n+1) w B m k
theorem aT(B:P.underlying e=some .bool)(a b:Bool):EqT P 2 e (.bool a) (.bool b) (decide (a=b)):=fun n w=>by
 show(Op.equalIn ((n+1)+1) e _ _).run P w=_;simp [Op.equalIn,run_underlying B];cases a<;>cases b<;>rfl
theorem aU(J:P.underlying t=some (.array 3 e))(G:P.underlying e=some (.int .i64))(B:∀w:World,(isAgg e).run P w= .ok false w)(I:∀w:World,(Go.sizeOf e).run P w= .ok 1 w)(x y:V3):
 EqT P 2 t (.agg #[I4 x.a,I4 x.b,I4 x.c]) (.agg #[I4 y.a,I4 y.b,I4 y.c]) (decide (x=y)):=fun n w=>RV w n x y J G B I
def XY(d:Nat)(xs ys:Array Value)(L:List Field):Sem Bool:=do
 for f in L do
  if f.name≠ "_" then
   if !(<-Op.equalIn d f.type (<-part f.type xs f.offset) (<-part f.type ys f.offset))then return false
 pure true
inductive FEq(P:Program)(xs ys:Array Value):List Field->List Bool->Prop
 |nil:FEq P xs ys [] []
 |cons {f:Field} {v u:Value} {b:Bool} {fs:List Field} {bs:List Bool} (hn:f.name≠ "_") (hx:∀w:World,(part f.type xs f.offset).run P w= .ok v w) (hy:∀w:World,(part f.type ys f.offset).run P w= .ok u w) (h:EqT P 2 f.type v u b) (k:FEq P xs ys fs bs):FEq P xs ys (f::fs) (b::bs)
theorem gG{xs ys:Array Value}{fs:List Field}{bs:List Bool}(h:FEq P xs ys fs bs)(n:Nat)(w:World):(XY (n+2) xs ys fs).run P w= .ok (bs.all id) w:=by
 induction h with
 |nil=>simp [XY]
 |cons hn hx hy h k ih=>
  unfold XY at*;rw [lO];simp only [hn,ne_eq,fy,HR,Sem.run_bind,hx,hy,h n w,Result.andThen_ok,List.all_cons,id];rename_i b _ _;cases b;· simp
  · simpa using ih
theorem U0{fs:Array Field}{xs ys:Array Value}{bs:List Bool}{b:Bool}(J:P.underlying t=some (.struct fs))(B:P.stoodInHeld t=false)(h:FEq P xs ys fs.toList bs)(I:bs.all id=b):EqT P 3 t (.agg xs) (.agg ys) b:=fun n w=>by
 show(Op.equalIn ((n+2)+1) t _ _).run P w=_;rw [Op.equalIn];simp only [Sem.run_bind,run_underlying J,Result.andThen_ok,run_program,B,MA,HF];rw [<-oT,<-I];have G:=gG h n w
 unfold XY at G;simpa only [Sem.run_bind]using G
theorem DK{xs:Array Value}{j:Nat}{v:Value}(B:∀w:World,(isAgg e).run P w= .ok false w)(h:xs[j]?=some v):∀w:World,(part e xs j).run P w= .ok v w:=fun w=>FU w (B w) _ _ h
theorem Om{xs:Array Value}{j n:Nat}{cs:Array Value}(B:∀w:World,(isAgg e).run P w= .ok true w)(G:∀w:World,(Go.sizeOf e).run P w= .ok n w)(h:xs.extract j (j+n)=cs)(hn:j+n<=xs.size):∀w:World,(part e xs j).run P w= .ok (.agg cs) w:=fun w=>by
 simp [part,B,G,h]
end
section
variable{P:Program}{u:World}{env:Env}{H R:Hp}{d:Option Nat}{ty:TypeId}{pos:String}{af:Array Edge}{g:Option (Nat×Bool)}
theorem qh{t yt:TypeId}{x y:Operand}{p q:Array Value}{b:Bool}(B:P.eqGuardType P.depth t=false)(hx:∀a,ev a env x= .agg p)(hy:∀a,ev a env y= .agg q)(h:EqT P 3 t (.agg p) (.agg q) b):OpP P ⟨d,.binOp .neq t x y yt,ty,pos,af,g⟩ env [] (.bool (!b)):=fun a w _=>by
 simp [Cm,hx a,hy a,go_sem,run_eqGuard_agg w _ t _ _ _ _ B,MI,Op.equal,Op.maxDepth,h 9997 w]
end
end Gw
