/- Walking by chunks: a range over a function; the end of a function that holds one. No function of the program is named. -/
import Derived.Test.YthhakdmlpngcmaaGreatDoorEz
import Derived.Lib.Hide
import Derived.Shelf.GgSortFunc.InsertionK
import Derived.Lib.AppendZerosOnto
import Derived.Lib.Overlaps
import Derived.RecoverIn
import Derived.RangeFuncNested
set_option linter.unusedVariables false
set_option linter.unusedSimpArgs false
namespace Gw
open Go Go.RowKit
def GH(P:Program)(l:Nat)(args:AK)(H:Hp)(Q:A4->Hp->Prop):Prop:=
 ∀(u:AD) (R:Hp) (w:AD),Sat u (H++R) w->∀(K:A4->AD->Prop) (Kp:List PanicEntry->AD->Prop),(∀v H' w',Q v H'->Sat u (H'++R) w'->K v w')->Uw P K Kp ((Instr.yield l args).run P w)
section
variable{P:Program}{u:AD}{env:Env}{H R:Hp}{d:Option Nat}{ty:AM}{pos:String}{af:Array Edge}{g:Option (Nat×Bool)}
theorem Fe{J:Operand}{B:Array Operand}{G:Array AM}{l:Nat}{vs:List A4}{U:Hp}{Q:A4->Hp->Prop}
 (hf:∀a,ev a env J= .func (.yield l) #[] #[])(ha:∀a,B.toList.map (ev a env)=vs)(O:GH P l vs.toArray U Q)(hp:Ex U H R):
 OpW P u ⟨d,.call ⟨.value J,B,G⟩,ty,pos,af,g⟩ env H (fun v H'=>∃H1,Q v H1/\H'=H1++R) (fun _ _=>False):=fun a w hs K W Z _=>by
 have X:B.map (ev a env)=vs.toArray:=by rw [<-ha a];exact JJ _ B
 have:(execOp (ev a env) ⟨d,.call ⟨.value J,B,G⟩,ty,pos,af,g⟩).run P w=(Instr.yield l vs.toArray).run P w:=by
  simp [Dz,resolve,hf a,Deferred.ofValue,invoke,X]
 rw [this];exact O u R w (hs.perm hp.perm) K W fun v H' w' hq I=>Z v _ w' ⟨H',hq,V⟩ I
end
def UJ{α:Type}(P:Program)(gf:FuncId)(lb:AK)(Hit:Hp)(encs:α->AK)(xs:List α):Prop:=
 ∀(l:Nat) (J:List α->List A9->Prop),(∀pre x post s,xs=pre++x::post->J pre s->GH P l (encs x) [s] (fun v H'=>∃s',v= .bool true/\H'=[s']/\J (pre++[x]) s'))->
  ∀s,J [] s->BR P gf (#[.func (.yield l) #[] #[]]++lb) (Hit++[s]) (fun _ H'=>∃s',H'=[s']/\J xs s')
def Ef{α:Type}(P:Program)(gf:FuncId)(lb:AK)(Hit:Hp)(A:List A9->Prop)(encs:α->AK)(xs:List α):Prop:=
 ∀(l:Nat) (J:List α->List A9->Prop),(∀pre s,J pre s->A s)->(∀pre x post s,xs=pre++x::post->J pre s->GH P l (encs x) [s] (fun v H'=>∃s',v= .bool true/\H'=[s']/\J (pre++[x]) s'))->
  ∀s,J [] s->BR P gf (#[.func (.yield l) #[] #[]]++lb) (Hit++[s]) (fun _ H'=>∃s',H'=[s']/\J xs s')
def Is(cx:Cx)(env:Env)(H:Hp)(a:Act)(w:AD):Prop:=∃a0,St cx env H a0 w/\a=C9 env a0
theorem jL{cx:Cx}{env:Env}{H:Hp}{Q:Exit->Act->AD->Prop}:Nx cx ((Exit.then (Is cx env H) Q) .normal) env H:=fun a _ B=>⟨a,B,rfl⟩
def Ic{α:Type}(u:AD)(I:List α->Hp->Prop)(xs:List α)(R:Hp):Exit->Act->AD->Prop
 | .normal,_,w=>∃H,I xs H/\Sat u (H++R) w
 |_,_,_=>False
theorem Eg{α:Type}{cx:Cx}{I:List α->Hp->Prop}{xs:List α}{R:Hp}{env:Env}{H H':Hp}{u:AD}(J:cx.u=u)(h:I xs H')(B:Sub (H'++R) H:=by repeat(first|exact Sub.refl _|exact Sub.nil _|(apply Sub.cons;(focus (repeat(first|exact One.here _ _|apply One.there))))|refine Sub.drop _ ?_)):Nx cx (Ic u I xs R .normal) env H:=fun _ _ G=>⟨H',h,by subst J;exact G.sat.sub B.amid⟩
theorem Je:∀(e1 e2:Env) (a:Act),C9 (e1++e2) a=C9 e1 (C9 e2 a)
 |[],_,_=>rfl
 |(d,v)::e1,e2,a=>by simp only [PJ,C9];rw [Je e1 e2 a]
theorem Nq:∀(l:List (Nat×A4)) (b:Act),(l.foldl (fun(t:AK) (p:Nat×A4)=>t.setIfInBounds p.1 p.2) b.tmps)=(C9 l.reverse b).tmps
 |[],_=>rfl
 |(d,v)::l,b=>by
  simp only [Up,List.reverse_cons];rw [Je];have:=Nq l (b.put (some d) v)
  simpa [C9,Act.put]using this
theorem FI(D:List Deferred):∀(e:Env) (a:Act),C9 e {a with defers:=D}={C9 e a with defers:=D}
 |[],_=>rfl
 |(d,v)::e,a=>by simp only [C9];rw [FI D e a];rfl
theorem Sat.turn{u w:AD}{b:Nat}{o o':Obj}{H:Hp}(h:Sat u ([(b,o)]::H) w):Sat u ([(b,o')]::H) (w.putObj b o'):=by
 have B:b<w.heap.size:=h.lt (p:=(b,o)) B4;refine h.upd (.here _) V rfl V (World.putObj_heap_same B) fun k G=>World.putObj_heap_other G
theorem Bw{a b:List A9}(h:∀f:List A9->Nat,(∀u v,f (u++v)=f u+f v)->f a=f b):a.Perm b:=by
 letI:DecidableEq A9:=fun a b=>Classical.propDecidable (a=b)
 exact List.perm_iff_count.2 fun x=>h (fun l=>l.count x) fun u v=>List.count_append
theorem Sat.parts{u w:AD}{H H':Hp}(G:Sat u H w)(h:∀f:List A9->Nat,(∀u v,f (u++v)=f u+f v)->f []=0->(∀x y,f [x,y]=f [x]+f [y])->f H.flatten=f H'.flatten):Sat u H' w:=
 G.perm (Bw fun f B=>h f B (by have:=B [] [];simp at this;omega) fun x y=>B [x] [y])
theorem UB{P:Program}{cx:Cx}{c:Code}{Q:Exit->Act->AD->Prop}{env:Env}{H H':Hp}(h:At P cx c Q env H)(G:∀f:List A9->Nat,(∀u v,f (u++v)=f u+f v)->f []=0->(∀x y,f [x,y]=f [x]+f [y])->f H'.flatten=f H.flatten):At P cx c Q env H':=fun a w B=>h a w ⟨B.size,B.defers,B.fit,B.sat.parts G⟩
def Ka{α:Type}(u:AD)(I Ix:List α->Hp->Prop)(xs:List α)(R:Hp):Exit->Act->AD->Prop
 | .normal,_,w=>∃H,I xs H/\Sat u (H++R) w
 | .ret,_,w=>∃H,Ix xs H/\Sat u (H++R) w
 |_,_,_=>False
theorem QC{α:Type}{cx:Cx}{I Ix:List α->Hp->Prop}{xs:List α}{R:Hp}{env:Env}{H H':Hp}{u:AD}(J:cx.u=u)(h:I xs H')(B:Sub (H'++R) H:=by repeat(first|exact Sub.refl _|exact Sub.nil _|(apply Sub.cons;(focus (repeat(first|exact One.here _ _|apply One.there))))|refine Sub.drop _ ?_)):Nx cx (Ka u I Ix xs R .normal) env H:=fun _ _ G=>⟨H',h,by subst J;exact G.sat.sub B.amid⟩
theorem Vd{α:Type}{cx:Cx}{I Ix:List α->Hp->Prop}{xs:List α}{R:Hp}{env:Env}{H H':Hp}{u:AD}(J:cx.u=u)(h:Ix xs H')(B:Sub (H'++R) H:=by repeat(first|exact Sub.refl _|exact Sub.nil _|(apply Sub.cons;(focus (repeat(first|exact One.here _ _|apply One.there))))|refine Sub.drop _ ?_)):Nx cx (Ka u I Ix xs R .ret) env H:=fun _ _ G=>⟨H',h,by subst J;exact G.sat.sub B.amid⟩
def WO{α:Type}(P:Program)(gf:FuncId)(lb:AK)(Hit Hk:Hp)(A:List α->List A9->Prop)(Enc:α->AK->List A9->Prop)(Adm Full:List α->Prop)(St:Prop):Prop:=
 ∀(l:Nat) (J Jx:List α->List A9->Prop),(∀pre s,J pre s->A pre s)->(∀pre s,Jx pre s->St)->(∀pre x s vs sx,Adm (pre++[x])->J pre s->Enc x vs sx->GH P l vs [sx,s] (fun v H'=>∃s',H'=[s']/\((v= .bool true/\J (pre++[x]) s')\/(v= .bool false/\Jx (pre++[x]) s'))))->
  ∀s,J [] s->BR P gf (#[.func (.yield l) #[] #[]]++lb) (Hit++(Hk++[s])) (fun _ H'=>∃s',H'=Hk++[s']/\((∃ys,Full ys/\J ys s')\/∃pre,Jx pre s'))
theorem Mv{α:Type}{A:List α->List A9->Prop}{Adm Full:List α->Prop}{P:Program}{cx:Cx}{Q:Exit->Act->AD->Prop}{env:Env}{H ic Hk H0 R:Hp}{g:Operand}{ps:Array Tmp}{assign body:Code}{gf:FuncId}{lb:AK}{Enc:α->AK->List A9->Prop}{St:Prop}
 (I Ix:List α->Hp->Prop)(E:α->AK->List A9->Env->Hp->Prop)(hr:cx.r=none)(hg:∀a,ev a env g= .func (.func gf) #[] lb)(kv:∀(args:AK) (w:AD),(callFunc gf args).run P w= .ok (.enter gf args) w)
 (o8:WO P gf lb ic Hk A Enc Adm Full St)(hX:∀pre H1,Ix pre H1->St)(hA:∀pre H1 c d,I pre H1->A pre ([c,d]++H1.flatten))(qj:∀x vs Z,Enc x vs Z->vs.size=ps.size)(qb:(ps.toList.all fun t=>Nat.blt t cx.N)=true)(hp:Ex (ic++(Hk++H0)) H R)(h0:I [] H0)
 (cO:∀(l:Nat) (x:α) (vs:AK) (Z:List A9) (u:AD) (H:Hp),Enc x vs Z->At P ⟨cx.N,[],u,some l⟩ assign (Exit.then (fun a w=>∃e Hn,E x vs Z e Hn/\Is ⟨cx.N,[],u,some l⟩ (e++env) (Hn++H) a w) (fun _ _ _=>False)) ((ps.toList.zip vs.toList).reverse++env) H)
 (j5:∀(l:Nat) (pre:List α) (x:α) (u:AD) (vs:AK) (Z:List A9) (e:Env) (Hn H1 R1:Hp) (r0:Loop),Adm (pre++[x])->I pre H1->Enc x vs Z->E x vs Z e Hn->At P ⟨cx.N,[],u,some l⟩ body (Ka u I Ix (pre++[x]) ([(l,.loop r0)]::R1)) (e++env) (H1++(Z::(Hn++([(l,.loop r0)]::R1)))))
 (hk:∀(D:Nat) (ys:List α) (O:Hp),Full ys->I ys O->Nx ⟨cx.N,⟨.collected D,#[]⟩::cx.D,cx.u,none⟩ (Q .normal) env ([(D,.deferred (some []))]::(Hk++(O++R))))
 (pz:∀(D:Nat) (pre:List α) (O:Hp),Ix pre O->Nx ⟨cx.N,⟨.collected D,#[]⟩::cx.D,cx.u,none⟩ (Q .ret) env ([(D,.deferred (some []))]::(Hk++(O++R)))):At P cx (.rangeFunc g ps assign body) Q env H:=by
 intro a w hs;refine wpIn_rangeFunc ?_;intro fn qz;have ql:(Fx cx.r).round=none:=hr
 rw [ql];obtain ⟨dn,B⟩:∃dn:LoopState->Option Code->Loop,dn=fun st pe=>{state:=st,pending:=pe,fn,tmps:=(C9 env a).tmps,params:=ps,assign,body,defers:=w.heap.size}:=⟨_,rfl⟩;obtain ⟨G,U⟩:∃G,G=dn .ready none:=⟨_,rfl⟩;obtain ⟨L2,j3⟩:∃L2,L2=dn .done (some .ret):=⟨_,rfl⟩;obtain ⟨n,hn⟩:∃n,n=w.heap.size:=⟨_,rfl⟩;have p8:Sat cx.u ([(n+1,.loop G)]::([(n,.deferred (some []))]::((ic++(Hk++H0))++R))) ((w.alloc (.deferred (some []))).alloc (.loop G)):=by
  have:=((hs.sat.perm hp.perm).alloc (.deferred (some []))).alloc (.loop G);rw [show({w with heap:=w.heap.push (.deferred (some []))}:AD).heap.size=w.heap.size+1 from Array.size_push _,<-hn]at this;exact this
 have l9:Fit a.tmps.size env:=by rw [hs.size];exact hs.fit
 have p9:∀d,C9 env {a with defers:=d::cx.D}={C9 env a with defers:=[d]++(C9 env a).defers}:=fun d=>by
  rw [FI,FO,hs.defers];rfl
 have ek:∀(L:Loop) (e:Exit) (O:Hp) (w2:AD),L.state≠ .busy->(∀(A:Act) (W:AD),Q e A W->(match L.pending with|none=>Q .normal A W|some c=>c.wpIn (Fx cx.r) 0 P Q A W))->
  Sat cx.u ([(n+1,Obj.loop L)]::([(n,.deferred (some []))]::O)) w2->Nx ⟨cx.N,⟨.collected n,#[]⟩::cx.D,cx.u,none⟩ (Q e) env ([(n,.deferred (some []))]::O)->
  ∃v w3,(Instr.endLoop (n+1)).run P w2= .ok v w3/\(match v with|none=>Q .normal {C9 env a with defers:=[⟨.collected n,#[]⟩]++(C9 env a).defers} w3|some c=>c.wpIn (Fx cx.r) 0 P Q {C9 env a with defers:=[⟨.collected n,#[]⟩]++(C9 env a).defers} w3):=by
  intro L e O w2 bn qa gm hN;have hl:=gm.get (n+1,Obj.loop L) B4
  refine ⟨_,_,run_endLoop (P:=P) hl bn,qa _ _ ?_⟩;rw [<-p9];exact hN {a with defers:=⟨.collected n,#[]⟩::cx.D} _ ⟨hs.size,V,hs.fit,(gm.turn (o':= .loop {L with state:= .exhausted})).sub ⟨[(n+1,.loop {L with state:= .exhausted})],by
   simp only [CA];exact LR⟩⟩
 refine ⟨n+1,[⟨.collected n,#[]⟩],(w.alloc (.deferred (some []))).alloc (.loop G),⟨.fn (.func gf) lb,#[.func (.yield (n+1)) #[] #[]]⟩,(w.alloc (.deferred (some []))).alloc (.loop G),gf,
  #[.func (.yield (n+1)) #[] #[]]++lb,(w.alloc (.deferred (some []))).alloc (.loop G),?_,?_,fun _ _=>trivial,?_,fun h=>by simp [Fx,Fence.wide]at h,?_⟩
 · rw [hn,U,B];exact run_enterLoop_outer _ _ _ _ _
 · simp only [resolve,FV a env l9,hg a]
   simp [Deferred.ofValue,ev,Act.eval]
 · simp [invoke,kv]
 · refine Xd ?_
   have hJ:=o8 (n+1) (fun pre s=>∃H1,I pre H1/\s=[(n+1,.loop G),(n,.deferred (some []))]++H1.flatten) (fun pre s=>∃H1,Ix pre H1/\s=[(n+1,.loop L2),(n,.deferred (some []))]++H1.flatten) (by rintro pre _ ⟨H1,J,rfl⟩;exact hA pre H1 _ _ J) (by rintro pre _ ⟨H1,J,rfl⟩;exact hX pre H1 J) ?_ _ ⟨H0,h0,rfl⟩
   · refine Calls.mono (hJ cx.u R _ (p8.parts fun f h J h2=>by simp only [CA,HB,Fi,h,J,h2];omega)) fun e w2 he=>?_
     rcases he with⟨v,H',rfl,⟨s',rfl,⟨ys,pq,O,af,rfl⟩|⟨pre,O,af,rfl⟩⟩,d9⟩|⟨_,_,_,h,_⟩
     · exact ek G .normal _ w2 (by rw [U,B];simp) (fun A W h=>by rw [U,B];exact h) (d9.parts fun f h J h2=>by simp only [CA,HB,Fi,h,J,h2];omega) (hk n ys O pq af)
     · exact ek L2 .ret _ w2 (by rw [j3,B];simp) (fun A W h=>by rw [j3,B];exact wpIn_ret h) (d9.parts fun f h J h2=>by simp only [CA,HB,Fi,h,J,h2];omega) (pz n pre O af)
     · exact h.elim
   · rintro pre x s vs Z qx ⟨H1,hI,rfl⟩ cu u R1 w1 qw K Kp hK
     have gy:Sat u ([(n+1,Obj.loop G)]::([(n,.deferred (some []))]::(H1++(Z::R1)))) w1:=qw.parts fun f h J h2=>by simp only [CA,HB,Fi,h,J,h2];omega
     have hl:=gy.get (n+1,Obj.loop G) B4;have hy:=run_yield (P:=P) (args:=vs) hl (by rw [U,B];exact qj x vs Z cu)
     rw [hy];show RoundIn Fence.wide 0 P (n+1) _ _ _ _ w1 _
     rw [U,B];refine roundIn_of_wpIn (F:=Fence.wide) trivial ?_;have qo:({tmps:=(ps.zip vs).foldl (fun tmps x=>match x with|(t,a)=>tmps.setIfInBounds t a) (C9 env a).tmps,defers:=[]}:Act)=C9 ((ps.toList.zip vs.toList).reverse++env) {a with defers:=[]}:=by
      rw [Je,FI [] env a];have J:(ps.zip vs).foldl (fun tmps x=>match x with|(t,a)=>tmps.setIfInBounds t a) (C9 env a).tmps=(C9 (ps.toList.zip vs.toList).reverse (C9 env a)).tmps:=by
       rw [<-Nq,<-oR,Array.toList_zip]
      rw [J,FI [] _ (C9 env a)]
     have l8:Fit cx.N ((ps.toList.zip vs.toList).reverse++env):=by
      intro q hq;rcases C2.1 hq with hq|hq
      · have:=fR.1 hq
        have h2:=Lq.1 qb q.1 (List.of_mem_zip this).1;simpa using h2
      · exact hs.fit q hq
     have ha:=cO (n+1) x vs Z u ([(n+1,Obj.loop G)]::([(n,.deferred (some []))]::(H1++(Z::R1)))) cu {a with defers:=[]} w1 ⟨hs.size,rfl,l8,gy⟩;rw [<-qo]at ha;refine wpIn_mono ha fun e a1 w2 he=>?_;cases e<;>first|exact he|skip
     obtain ⟨e9,Hn,hE,a2,bn,rfl⟩:=he;have gq:Sat u ([(n+1,Obj.loop G)]::([(n,.deferred (some []))]::(H1++(Z::(Hn++R1))))) w2:=bn.sat.parts fun f h J h2=>by simp only [CA,HB,Fi,h,J,h2];omega
     have q9:=gq.get (n+1,Obj.loop G) B4;refine ⟨_,run_beginRound q9 (by rw [U,B]),?_⟩;have pg:Sat u (H1++(Z::(Hn++([(n+1,Obj.loop {G with state:= .busy})]::([(n,.deferred (some []))]::R1))))) (w2.putObj (n+1) (.loop {G with state:= .busy})):=
      (gq.turn (o':= .loop {G with state:= .busy})).parts fun f h J h2=>by simp only [CA,HB,Fi,h,J,h2];omega
     have hb:=j5 (n+1) pre x u vs Z e9 Hn H1 ([(n,.deferred (some []))]::R1) _ qx hI cu hE a2 _ ⟨bn.size,bn.defers,bn.fit,pg⟩;refine wpIn_mono hb fun e a3 w3 l5=>?_;cases e<;>first|exact l5.elim|skip
     · obtain ⟨O,af,o9⟩:=l5
       have X:Sat u ([(n+1,Obj.loop {G with state:= .busy})]::([(n,.deferred (some []))]::(O++R1))) w3:=o9.parts fun f h J h2=>by simp only [CA,HB,Fi,h,J,h2];omega
       refine ⟨_,_,run_endRound (P:=P) none (X.get (n+1,Obj.loop {G with state:= .busy}) B4),?_⟩;refine hK _ _ _ ⟨[(n+1,.loop G),(n,.deferred (some []))]++O.flatten,V,.inl ⟨V,O,af,V⟩⟩ ?_;have ax:({{G with state:=LoopState.busy}with state:=if(none:Option Code).isNone=true then LoopState.ready else .done,pending:=none}:Loop)=G:=by rw [U,B];rfl
       rw [ax];exact (X.turn (o':= .loop G)).parts fun f h J h2=>by simp only [CA,HB,Fi,h,J,h2];omega
     · obtain ⟨O,af,o9⟩:=l5
       have X:Sat u ([(n+1,Obj.loop {G with state:= .busy})]::([(n,.deferred (some []))]::(O++R1))) w3:=o9.parts fun f h J h2=>by simp only [CA,HB,Fi,h,J,h2];omega
       refine ⟨_,_,run_endRound (P:=P) (some .ret) (X.get (n+1,Obj.loop {G with state:= .busy}) B4),?_⟩;refine hK _ _ _ ⟨[(n+1,.loop L2),(n,.deferred (some []))]++O.flatten,V,.inr ⟨V,O,af,V⟩⟩ ?_;have ax:({{G with state:=LoopState.busy}with state:=if(some Code.ret:Option Code).isNone=true then LoopState.ready else .done,pending:=some .ret}:Loop)=L2:=by rw [U,j3,B];rfl
       rw [ax];exact (X.turn (o':= .loop L2)).parts fun f h J h2=>by simp only [CA,HB,Fi,h,J,h2];omega
def yX{α:Type}(encs:α->AK)(x:α)(vs:AK)(sx:List A9):Prop:=vs=encs x/\sx=[]
theorem NR{P:Program}{l:Nat}{vs:AK}{s:List A9}{Q B:A4->Hp->Prop}(h:GH P l vs [[],s] Q)(W:∀v H',Q v H'->B v H'):GH P l vs [s] B:=fun u R w X K G U=>h u R w (X.parts fun f h I h2=>by simp only [CA,HB,Fi,h,I];omega) K G fun v H' Z J O=>U v H' Z (W v H' J) O
theorem Po{P:Program}{cx:Cx}{c:Code}{env:Env}{H:Hp}{α:Type}{u:AD}{I Ix:List α->Hp->Prop}{xs:List α}{R:Hp}(h:At P cx c (Ic u I xs R) env H):At P cx c (Ka u I Ix xs R) env H:=fun a w G=>wpIn_mono (h a w G) fun e _ _ B=>by cases e<;>first|exact B|exact B.elim
theorem yC{α:Type}{P:Program}{O:FuncId}{U:AK}{G:Hp}{A:List A9->Prop}{B:α->AK}{xs:List α}(h:Ef P O U G A B xs):WO P O U G [] (fun _=>A) (yX B) (fun p=>∃post,xs=p++post) (fun ys=>ys=xs) False:=fun l J Jx W X hy s h0=>
 (h l J W (fun pre x post s hx Z=>NR (hy pre x s _ [] ⟨post,by rw [hx,CT];rfl⟩ Z ⟨rfl,rfl⟩) fun v H' ⟨K,I,h2⟩=>h2.elim (fun h=>⟨K,h.1,I,h.2⟩) fun h=>(X _ _ h.2).elim) s h0).mono (by rintro v H' ⟨K,I,h2⟩;exact ⟨K,I,.inl ⟨xs,rfl,h2⟩⟩)
theorem LP{α:Type}{A:List A9->Prop}{P:Program}{cx:Cx}{Q:Exit->Act->AD->Prop}{env:Env}{H X H0 R:Hp}{g:Operand}{ps:Array Tmp}{B K:Code}{gf:FuncId}{lb:AK}{G:α->AK}{xs:List α}
 (I:List α->Hp->Prop)(asg:α->Env)(hr:cx.r=none)(hg:∀a,ev a env g= .func (.func gf) #[] lb)(U:∀(args:AK) (w:AD),(callFunc gf args).run P w= .ok (.enter gf args) w)
 (W:Ef P gf lb X A G xs)(hA:∀pre H1 c d,I pre H1->A ([c,d]++H1.flatten))(ax:∀x,(G x).size=ps.size)(af:(ps.toList.all fun t=>Nat.blt t cx.N)=true)(hp:Ex (X++H0) H R)(h0:I [] H0)
 (J:∀(l:Nat) (x:α) (u:AD) (H:Hp),At P ⟨cx.N,[],u,some l⟩ B (Exit.then (Is ⟨cx.N,[],u,some l⟩ (asg x++env) H) (fun _ _ _=>False)) ((ps.toList.zip (G x).toList).reverse++env) H)
 (O:∀(l:Nat) (pre:List α) (x:α) (post:List α) (u:AD) (H1 R1:Hp),xs=pre++x::post->I pre H1->At P ⟨cx.N,[],u,some l⟩ K (Ic u I (pre++[x]) R1) (asg x++env) (H1++R1))
 (hk:∀(D:Nat) (H2:Hp),I xs H2->Nx ⟨cx.N,⟨.collected D,#[]⟩::cx.D,cx.u,none⟩ (Q .normal) env ([(D,.deferred (some []))]::(H2++R))):At P cx (.rangeFunc g ps B K) Q env H:=
 Mv (Hk:=[]) (A:=fun _=>A) (St:=False) (Adm:=fun p=>∃post,xs=p++post) (Full:=fun ys=>ys=xs) (Enc:=yX G) I (fun _ _=>False) (fun x _ _ e Hn=>e=asg x/\Hn=[]) hr hg U (yC W) (fun _ _ h=>h) hA (fun x vs sx Z=>by rw [Z.1];exact ax x) af hp h0
  (fun l x vs sx u H Z a w hs=>by
    obtain ⟨rfl,rfl⟩:=Z;exact wpIn_mono (J l x u H a w hs) fun e _ _ h=>by cases e<;>first|exact h|exact ⟨_,[],⟨rfl,rfl⟩,h⟩)
  (fun l pre x u vs sx e Hn H1 R1 r0 ⟨post,hx⟩ hI Z hE=>by
    obtain ⟨rfl,rfl⟩:=Z;obtain ⟨rfl,rfl⟩:=hE;exact UB (Po (O l pre x post u H1 _ (by rw [hx,CT];rfl) hI)) fun f h h1 h2=>by simp only [CA,HB,Fi,h,h1,h2];omega) (fun D ys H2 hf hI=>by rw [hf]at hI;exact hk D H2 hI) fun _ _ _ h=>h.elim
theorem Qw{α:Type}{P:Program}{cx:Cx}{Q:Exit->Act->AD->Prop}{env:Env}{H Z H0 R:Hp}{g:Operand}{ps:Array Tmp}{B O:Code}{gf:FuncId}{lb:AK}{G:α->AK}{xs:List α}
 (I:List α->Hp->Prop)(asg:α->Env)(hr:cx.r=none)(hg:∀a,ev a env g= .func (.func gf) #[] lb)(W:∀(args:AK) (w:AD),(callFunc gf args).run P w= .ok (.enter gf args) w)
 (X:UJ P gf lb Z G xs)(ax:∀x,(G x).size=ps.size)(af:(ps.toList.all fun t=>Nat.blt t cx.N)=true)(hp:Ex (Z++H0) H R)(h0:I [] H0)
 (K:∀(l:Nat) (x:α) (u:AD) (H:Hp),At P ⟨cx.N,[],u,some l⟩ B (Exit.then (Is ⟨cx.N,[],u,some l⟩ (asg x++env) H) (fun _ _ _=>False)) ((ps.toList.zip (G x).toList).reverse++env) H)
 (U:∀(l:Nat) (pre:List α) (x:α) (post:List α) (u:AD) (H1 R1:Hp),xs=pre++x::post->I pre H1->At P ⟨cx.N,[],u,some l⟩ O (Ic u I (pre++[x]) R1) (asg x++env) (H1++R1))
 (hk:∀(D:Nat) (H2:Hp),I xs H2->Nx ⟨cx.N,⟨.collected D,#[]⟩::cx.D,cx.u,none⟩ (Q .normal) env ([(D,.deferred (some []))]::(H2++R))):At P cx (.rangeFunc g ps B O) Q env H:=
 LP (A:=fun _=>True) I asg hr hg W (fun l J _=>X l J) (fun _ _ _ _ _=>trivial) ax af hp h0 K U hk
def Ji(l:List Nat):List Deferred:=l.map fun D=>⟨.collected D,#[]⟩
theorem DU{P:Program}{f:FuncId}{fn:Func}{c:Code}{args:AK}{N:Nat}{H:Hp}{Q:A4->Hp->Prop}{Pn:List PanicEntry->Hp->Prop}(W:P.funcs[f]?=some fn)(U:fn.body=some c)(O:fn.ntmps=N)(X:Nat.ble args.size N=true)
 (h:∀u R,At P ⟨N,[],u,none⟩ c (bodyPostM Fence.wide 0 P fn (GJ u R Q Pn)) (Fa 0 args.toList) (H++R)):Lb P f args H Q Pn:=fun u R w G=>by
 have I:args.size<=N:=db X;refine (callsIn_wide (n:=0)).1 (callsIn_of_wp_marks (F:=Fence.wide) W U trivial ?_);have B:C9 (Fa 0 args.toList) {tmps:=args++Array.replicate (fn.ntmps -args.size) undef,defers:=[]}={tmps:=args++Array.replicate (fn.ntmps -args.size) undef,defers:=[]}:=by
  refine KI _ fun p K=>?_;obtain ⟨_,h2⟩:=FL _ _ _ K;simp only [S5,HQ]at h2;have J:p.1<args.size:=by
   rcases FF p.1 args.size with h|h
   · exact h
   · simp [ID h]at h2
  rw [el J];exact h2
 rw [<-B];refine h u R _ w ⟨by simp [O];omega,V,fun p K=>?_,G⟩;obtain ⟨_,h2⟩:=FL _ _ _ K;simp only [S5,HQ]at h2;rcases FF p.1 args.size with h|h
 · exact mN h I
 · simp [ID h]at h2
section
variable{P:Program}{N:Nat}{u:AD}{fn:Func}{R H H':Hp}{Q:A4->Hp->Prop}{Pn:List PanicEntry->Hp->Prop}{env:Env}{e:Exit}
theorem SB{D:Nat}{w:AD}(h:w.heap[D]?=some (.deferred (some []))):(Instr.takeDeferred D).run P w= .ok [] (w.putObj D (.deferred none)):=by
 simp [Instr.takeDeferred,getObj,setObj,Sem.run,h];rfl
def Res(P:Program)(fn:Func)(env:Env)(v:A4):Prop:=∀(a:Act) (w:AD),Fit a.tmps.size env->(results fn (C9 env a).tmps).run P w= .ok v w
theorem nB(B:fn.results=#[]):Res P fn env (.tuple #[]):=fun a w _=>Od B w _
theorem dU{t:Nat}{v:A4}(G:fn.results=#[.tmp t])(hv:∀a,Fw a env t=v):Res P fn env v:=fun a w B=>by rw [QY G,CY a env B,hv a]
theorem qm{t s:Nat}{v x:A4}(G:fn.results=#[.tmp t,.tmp s])(hv:∀a,Fw a env t=v)(I:∀a,Fw a env s=x):Res P fn env (.tuple #[v,x]):=fun a w B=>by rw [QX G,CY a env B,CY a env B,hv a,I a]
theorem TI{v:A4}(J:FD e=true)(U:Res P fn env v)(O:Q v H')(K:Sub (H'++R) H:=by repeat(first|exact Sub.refl _|exact Sub.nil _|(apply Sub.cons;(focus (repeat(first|exact One.here _ _|apply One.there))))|refine Sub.drop _ ?_)):Nx ⟨N,[],u,none⟩ (bodyPostM Fence.wide 0 P fn (GJ u R Q Pn) e) env H:=fun a w G=>by
 have I:(C9 env a).defers=[]:=by rw [FO];exact G.defers
 have B:LeavesInM Fence.wide 0 P fn (C9 env a).tmps (GJ u R Q Pn) (C9 env a).defers .returning w:=by
  rw [I];exact ⟨v,U a w (by rw [G.size];exact G.fit),.inl ⟨v,H',rfl,O,G.sat.sub K.amid⟩⟩
 cases e<;>first|exact B|simp [FD]at J
theorem Fv{D:Nat}{v:A4}{H0:Hp}(W:FD e=true)(hr:Res P fn env v)(U:One [(D,.deferred (some []))] H H0)(Z:Q v H')(X:Sub (H'++R) H0:=by repeat(first|exact Sub.refl _|exact Sub.nil _|(apply Sub.cons;(focus (repeat(first|exact One.here _ _|apply One.there))))|refine Sub.drop _ ?_)):Nx ⟨N,[⟨.collected D,#[]⟩],u,none⟩ (bodyPostM Fence.wide 0 P fn (GJ u R Q Pn) e) env H:=fun a w K=>by
 have O:(C9 env a).defers=[⟨.collected D,#[]⟩]:=by rw [FO];exact K.defers
 have B:Sat u ([(D,.deferred (some []))]::H0) w:=K.sat.perm (by simpa using U.perm);have J:=B.get (D,.deferred (some [])) (by simp)
 have G:Sat u (H'++R) (w.putObj D (.deferred none)):=((B.turn (o':= .deferred none)).sub ⟨[(D,.deferred none)],by simp only [CA];exact LR⟩).sub X.amid;have I:LeavesInM Fence.wide 0 P fn (C9 env a).tmps (GJ u R Q Pn) (C9 env a).defers .returning w:=by
  rw [O];refine ⟨by simp,.inl ⟨D,_,V,SB J,?_⟩⟩;exact ⟨v,hr a _ (by rw [K.size];exact K.fit),.inl ⟨v,H',rfl,Z,G⟩⟩
 cases e<;>first|exact I|simp [FD]at W
end
def NQ(sz:Nat)(v:A4)(k:Nat)(ys:List A4)(s:List A9):Prop:=
 ys.length=k*sz/\((k=0/\∃b c,v= .slice b 0 c)\/∃g o cap cur T z,v= .slice (some ⟨g,o,none⟩) k cap/\s=[(g,.cells cur T z)]/\Bz cur o ys)
theorem E5{sz:Nat}{e:AM}{v:A4}{k:Nat}{xs:List A4}{s:List A9}(h:Bd sz e v k xs s)(J:0<k):∃g cap cur z,v=I6 g k cap/\s=[(g,.cells cur e z)]/\k<=cap/\Bz cur 0 xs:=by
 obtain ⟨I,⟨_,h0,_⟩|⟨g,cap,cur,z,rfl,rfl,B,_,_,G,_⟩⟩:=h;· omega
 · refine ⟨g,cap,cur,z,rfl,rfl,B,?_⟩
   unfold Bz;rw [Pr,I];exact G
theorem j6{sz:Nat}{e:AM}{v:A4}{k:Nat}{xs:List A4}{s:List A9}(h:Bd sz e v k xs s):NQ sz v k xs s:=by
 refine ⟨h.1,?_⟩;rcases PB k with h0|h0
 · obtain ⟨b,c,rfl⟩:=h.form
   subst h0;exact .inl ⟨V,b,c,V⟩
 · obtain ⟨g,cap,cur,z,rfl,rfl,_,B⟩:=E5 h h0
   exact .inr ⟨g,0,cap,cur,e,z,V,V,B⟩
theorem Nz{cur:AK}{o a n:Nat}{ys:List A4}(h:Bz cur o ys)(G:a+n<=ys.length):Bz cur (o+a) ((ys.drop a).take n):=by
 unfold Bz at*;have B:((ys.drop a).take n).length=n:=by rw [CD,CH];omega
 rw [B,<-cA,<-h,fX,V0];congr 1;have:=congrArg List.length h
 rw [CD]at this;omega
theorem K8{sz:Nat}{e:AM}{b:B8}{n c:Nat}{xs:List A4}{s:List A9}(h:Bd sz e (.slice b n c) n xs s)(k d:Nat)(G:k<=n):NQ sz (.slice b k d) k (xs.take (k*sz)) s:=by
 have I:k*sz<=n*sz:=Tr sz G;refine ⟨by rw [CD,h.1];omega,?_⟩;rcases PB k with h0|h0
 · subst h0;exact .inl ⟨rfl,b,d,rfl⟩
 · obtain ⟨g,cap,cur,z,hv,rfl,_,B⟩:=E5 h A0
   injection hv with hv1 hv2 hv3
   subst hv1;have h2:=Nz B (a:=0) (n:=k*sz) (by rw [h.1];omega)
   rw [Pr]at h2;exact .inr ⟨g,0,d,cur,e,z,V,V,h2⟩
theorem K9{sz:Nat}{e:AM}{b:B8}{n c:Nat}{xs:List A4}{s:List A9}(h:Bd sz e (.slice b n c) n xs s)(k m d:Nat)(G:k+m=n):NQ sz (.slice (Ea b k c sz) m d) m (xs.drop (k*sz)) s:=by
 have J:n*sz=k*sz+m*sz:=by rw [<-G,Kf]
 refine ⟨by rw [CH,h.1];omega,?_⟩;rcases PB m with h0|h0
 · subst h0;exact .inl ⟨rfl,_,d,rfl⟩
 · obtain ⟨g,cap,cur,z,hv,rfl,I,B⟩:=E5 h A0
   injection hv with hv1 hv2 hv3
   subst hv1 hv3;have h2:=Nz B (a:=k*sz) (n:=m*sz) (by rw [h.1];omega)
   rw [Hx (by rw [CH,h.1];omega)]at h2;refine .inr ⟨g,0+k*sz,d,cur,e,z,?_,V,h2⟩;unfold Ea;rw [As A0,N2,Ca]
theorem YC{sz:Nat}{b:B8}{n c:Nat}{xs:List A4}{s:List A9}(h:NQ sz (.slice b n c) n xs s)(k m d:Nat)(I:k+m=n)(hc:n<=c):NQ sz (.slice (Ea b k c sz) m d) m (xs.drop (k*sz)) s:=by
 have J:n*sz=k*sz+m*sz:=by rw [<-I,Kf]
 refine ⟨by rw [CH,h.1];omega,?_⟩;rcases PB m with h0|h0
 · subst h0;exact .inl ⟨rfl,_,d,rfl⟩
 · obtain ⟨G,⟨K,_⟩|⟨g,o,cap,cur,T,z,hv,rfl,B⟩⟩:=h
   · omega
   · injection hv with hv1 hv2 hv3
     subst hv1 hv3;have h2:=Nz B (a:=k*sz) (n:=m*sz) (by rw [G];omega)
     rw [Hx (by rw [CH,G];omega)]at h2;refine .inr ⟨g,o+k*sz,d,cur,T,z,?_,V,h2⟩;unfold Ea;rw [As A0,N2,Ca]
section
variable{P:Program}{u:AD}{env:Env}{H R R2:Hp}{d:Option Nat}{ty:AM}{pos:String}{af:Array Edge}{g:Option (Nat×Bool)}
theorem BV{x y:Operand}{t e:AM}{i:TypeInfo}{z:A4}{by_ sz n k:Nat}{v v2:A4}{xs ys:List A4}{s s2:List A9}
 (ht:P.underlying t=some (.slice e))(hi:P.info? e=some i)(I:i.size=sz)(cO:i.bytes=by_)(ek:i.zero=some z)(dn:z.cells.size=sz)
 (hx:∀a,ev a env x=v)(B:Bd sz e v n xs s)(hy:∀a,ev a env y=v2)(ax:NQ sz v2 k ys s2)(O:One s H R)(bn:One s2 R R2)(h1:∀u∈ys,u.oneCell'=true)
 (cu:n+k<=maxLen)(hb:(n+k)*by_<=140737488355328):
 OpW P u ⟨d,.call ⟨.builtin .append,#[x,y],#[t,t]⟩,ty,pos,af,g⟩ env H (fun v' H1=>∃s',Bd sz e v' (n+k) (xs++ys) s'/\H1=s'::R) (fun _ _=>False):=by
 obtain ⟨hl,⟨rfl,b2,c2,rfl⟩|⟨gb,o,cap,cur,T,zz,rfl,rfl,d9⟩⟩:=ax
 · have Z:ys=[]:=Ln A0
   subst Z;obtain ⟨b,c,rfl⟩:=B.form;have J:n<=c:=by
    obtain ⟨_,⟨hv,h0,_⟩|⟨_,_,_,_,hv,_,h2,_⟩⟩:=B;· omega
    · injection hv with _ _ hv3;omega
   intro a w U K Kp hK _;have W:Sat u (s::R) w:=U.perm (by simpa using O.perm)
   have G:(Builtin.firstCells i.size 0 (.slice b2 0 c2)).run P w= .ok #[] w:=by
    cases b2 with
    |none=>simp [Builtin.firstCells]
    |some ad=>simp [Builtin.firstCells,loadCells,loadCellsFrom]
   have hr:(Builtin.append_ #[t,t] ty #[.slice b n c,.slice b2 0 c2]).run P w= .ok (.slice b n c) w:=by
    rw [I]at G;cases b with
    |none=>simp [Builtin.append_,run_underlying ht,Go.sizeOf,typeInfo,hi,I,Builtin.lenOf,J,G]
    |some ad=>simp [Builtin.append_,run_underlying ht,Go.sizeOf,typeInfo,hi,I,Builtin.lenOf,J,G,storeCells]
   have X:(execOp (ev a env) ⟨d,.call ⟨.builtin .append,#[x,y],#[t,t]⟩,ty,pos,af,g⟩).run P w= .ok (.value (.slice b n c)) w:=by
    simp only [Dz,resolve,invoke,builtin,S0,Dd,JT,hx a,hy a,Sem.run_bind,Sem.run_pure,Result.andThen_ok,hr]
   rw [X];exact hK _ _ _ ⟨s,by rw [D2];exact B,rfl⟩ W
 · rcases PB k with h0|h0
   · subst h0
     have Z:ys=[]:=Ln A0;subst Z;obtain ⟨b,c,rfl⟩:=B.form;have J:n<=c:=by
      obtain ⟨_,⟨hv,h0,_⟩|⟨_,_,_,_,hv,_,h2,_⟩⟩:=B;· omega
      · injection hv with _ _ hv3;omega
     intro a w U K Kp hK _;have W:Sat u (s::R) w:=U.perm (by simpa using O.perm)
     have G:(Builtin.firstCells i.size 0 (.slice (some ⟨gb,o,none⟩) 0 cap)).run P w= .ok #[] w:=by simp [Builtin.firstCells,loadCells,loadCellsFrom]
     have hr:(Builtin.append_ #[t,t] ty #[.slice b n c,.slice (some ⟨gb,o,none⟩) 0 cap]).run P w= .ok (.slice b n c) w:=by
      rw [I]at G;cases b with
      |none=>simp [Builtin.append_,run_underlying ht,Go.sizeOf,typeInfo,hi,I,Builtin.lenOf,J,G]
      |some ad=>simp [Builtin.append_,run_underlying ht,Go.sizeOf,typeInfo,hi,I,Builtin.lenOf,J,G,storeCells]
     have X:(execOp (ev a env) ⟨d,.call ⟨.builtin .append,#[x,y],#[t,t]⟩,ty,pos,af,g⟩).run P w= .ok (.value (.slice b n c)) w:=by
      simp only [Dz,resolve,invoke,builtin,S0,Dd,JT,hx a,hy a,Sem.run_bind,Sem.run_pure,Result.andThen_ok,hr]
     rw [X];exact hK _ _ _ ⟨s,by rw [D2];exact B,rfl⟩ W
   · exact Ee ht hi I cO ek dn hx B hy O bn.has d9 hl h1 h0 cu hb
end
theorem One.memF{s:List A9}{H R:Hp}(h:One s H R):∀p∈s,p∈H.flatten:=fun p B=>by
 have:=h.perm.mem_iff (a:=p);exact this.2 (Ek _ B)
section
variable{P:Program}{u:AD}{env:Env}{H R R2:Hp}{d:Option Nat}{ty:AM}{pos:String}{af:Array Edge}{g:Option (Nat×Bool)}
theorem Qy{x y:Operand}{t e:AM}{i:TypeInfo}{z:A4}{by_ sz n k:Nat}{b:B8}{v2:A4}{xs ys:List A4}{s s2:List A9}
 (ht:P.underlying t=some (.slice e))(hi:P.info? e=some i)(ic:i.size=sz)(d9:i.bytes=by_)(l5:i.zero=some z)(kv:z.cells.size=sz)
 (hx:∀a,ev a env x= .slice b n n)(U:NQ sz (.slice b n n) n xs s)(hy:∀a,ev a env y=v2)(bn:NQ sz v2 k ys s2)(gy:One s H R)(j3:One s2 H R2)(hk:0<k)
 (l8:n+k<=maxLen)(hb:(n+k)*by_<=140737488355328):
 OpW P u ⟨d,.call ⟨.builtin .append,#[x,y],#[t,t]⟩,ty,pos,af,g⟩ env H (fun v' H1=>∃s',Bd sz e v' (n+k) (xs++ys) s'/\H1=s'::H) (fun _ _=>False):=by
 obtain ⟨X,⟨h0,_⟩|⟨g2,o2,cap2,cO,T2,z2,rfl,rfl,ek⟩⟩:=bn;· omega
 intro a w O K Kp hK _;have gq:=Gz (O.get _ (j3.memF (g2,.cells cO T2 z2) B4)) ek
 have gm:ys.length=k*i.size:=by rw [ic];exact X
 have p8:=mL;have G:∀{v':A4} {w':AD},(Builtin.append_ #[t,t] ty #[.slice b n n,.slice (some ⟨g2,o2,none⟩) k cap2]).run P w= .ok v' w'->(execOp (ev a env) ⟨d,.call ⟨.builtin .append,#[x,y],#[t,t]⟩,ty,pos,af,g⟩).run P w= .ok (.value v') w':=fun h=>by
  simp only [Dz,resolve,invoke,builtin,S0,Dd,JT,hx a,hy a,Sem.run_bind,Sem.run_pure,Result.andThen_ok,h]
 have I:∀(m:Nat) (cells:AK) (w1:AD),w1={w with drawn:=m,heap:=w.heap.push (.cells cells e)}->Sat u ([(w.heap.size,.cells cells e (0,0))]::H) w1:=fun m cells w1 h=>by
  subst h;exact (O.drawn m).alloc _
 have B:(xs++ys).length=(n+k)*sz:=by rw [Bm,U.1,X,Kf]
 have split:∀m p:Nat,p<=m->p*sz+(m -p)*sz=m*sz:=fun m p h=>by rw [<-Kf];congr 1;omega
 have Z:∀(ad:Addr),b=some ad->(∀j v,xs[j]?=some v->w.cell? (ad.add j)=some v)->Uw P K Kp ((execOp (ev a env) ⟨d,.call ⟨.builtin .append,#[x,y],#[t,t]⟩,ty,pos,af,g⟩).run P w):=fun ad l9 ax=>by
  subst l9;have hr:=run_append_grow (P:=P) w t ty e i z ht hi l5 ad n n xs (by rw [ic];exact U.1) ax ⟨g2,o2,none⟩ k cap2 ys gm gq A0 A0 (growslice_fits A0 (by rw [d9];exact hb))
  rw [G hr];have W:=grownCap_ge w (n+k) n e
  have J:grownCap w (n+k) n e<=maxLen:=grownCap_le_maxLen w (n+k) n e l8;refine hK _ _ _ ⟨[(w.heap.size,.cells (xs.toArray++ys.toArray++Builtin.zeroCells z.cells (grownCap w (n+k) n e -(n+k))) e (0,0))],⟨B,.inr ⟨w.heap.size,grownCap w (n+k) n e,_,(0,0),V,V,W,J,?_,?_,BC _⟩⟩,V⟩ (I _ _ _ V)
  · simp only [iu,size_zeroCells,kv,HC]
    have h1:=split _ _ W;rw [Bm]at B;rw [B];exact h1
  · simp only [cM]
    exact HX (by simpa using B)
 obtain ⟨hl,⟨h0,b9,c9,o9⟩|⟨g1,o1,o8,cu,T1,z1,hv,rfl,dn⟩⟩:=U
 · subst h0
   have j5:xs=[]:=Ln A0;cases b with
   |some ad=>exact Z ad rfl (fun j v hj=>by rw [j5]at hj;cases hj)
   |none=>
    subst j5;have hr:=run_append_nil (P:=P) w t ty e i z ht hi l5 ⟨g2,o2,none⟩ k cap2 ys gm gq hk A0 (by rw [d9];exact Q1 (by simpa using hb) (by decide:140737488355328<=281474976710656))
    rw [G hr];have W:=grownCap_ge w k 0 e
    have J:grownCap w k 0 e<=maxLen:=grownCap_le_maxLen w k 0 e A0;refine hK _ _ _ ⟨[(w.heap.size,.cells (ys.toArray++Builtin.zeroCells z.cells (grownCap w k 0 e -k)) e (0,0))],⟨B,.inr ⟨w.heap.size,grownCap w k 0 e,_,(0,0),by simp,V,by omega,J,?_,?_,BC _⟩⟩,V⟩ (I _ _ _ V)
    · simp only [iu,size_zeroCells,kv,HC,X]
      exact split _ _ W
    · simp only [cM,Kx,D3]
      exact HX X
 · injection hv with hv1 hv2 hv3
   refine Z ⟨g1,o1,none⟩ hv1 fun j v hj=>?_;have h9:=Gz (O.get _ (gy.memF (g1,.cells cu T1 z1) B4)) dn
   exact h9 j v hj
theorem Om{t e:AM}{x hi B:Operand}{b:B8}{n cap h s:Nat}{I mk:IntKind}(O:P.underlying t=some (.slice e))(K:∀w:AD,(Go.sizeOf e).run P w= .ok s w)(U:∀a,ev a env x= .slice b n cap)(G:∀a,ev a env hi= .int I (h:Int))(J:∀a,ev a env B= .int mk (h:Int))(h2:h<=cap):
 OpP P ⟨d,.slice t x none (some hi) (some B),ty,pos,af,g⟩ env [] (.slice b h h):=fun a w _=>by
 cases b<;>simp [Kg,U a,G a,J a,Instr.sliceAt,Instr.slice,run_underlying O,Instr.sliceBounds,Instr.sliceBound,asIntOf,h2,K,Addr.add]
theorem IR(sz:Nat)(e:AM)(g k:Nat)(xs:List A4)(h:xs.length=k*sz)(B:k<=maxLen):Bd sz e (I6 g k k) k xs [(g,.cells xs.toArray e (0,0))]:=
 ⟨h,.inr ⟨g,k,xs.toArray,(0,0),rfl,rfl,CI _,B,by simp [h],Hx (by simp [h]),BC _⟩⟩
end
end Gw
namespace Gw
open Go Go.RowKit
open Go.ChangeMaps (setBlock)
section
variable{α:Type}{κ:α->A4}{D:α->Prop}{P:Program}
structure Co(κ:α->A4)(es:Array MapEntry)(clock:Nat)(l:List (α×A4)):Prop where
 pairs:es.toList.map (fun e=>(e.key,e.val))=l.map (fun p=>(κ p.1,p.2))
 born:(es.toList.map (·.born)).Nodup
 old:∀e∈es.toList,e.born<clock
 keys:(l.map (·.1)).Nodup
structure G5(P:Program)(kt:AM)(κ:α->A4)(D:α->Prop):Prop where
 check:∀(w:AD) (em:Bool) (a:α),D a->(Instr.checkKey em 10000 kt (κ a)).run P w= .ok () w
 find:∀(w:AD) (k:α),D k->∀es:List MapEntry,(∀e∈es,∃a,D a/\e.key=κ a)->((Instr.findKey kt (κ k) es).run P w= .ok none w/\∀e∈es,e.key≠κ k)\/∃j e,(Instr.findKey kt (κ k) es).run P w= .ok (some (j,e.val)) w/\es[j]?=some e/\e.key=κ k
 stays:∀(w:AD) (a:α),D a->(Instr.keyThatStays (κ a) (κ a)).run P w= .ok (κ a) w
 inj:∀a b,κ a=κ b->a=b
theorem G5.ofLaw{kt:AM}(B:WideMaps.KeyLaw P kt)(key:∀a,D a->∃l,keyOf P kt (κ a)=some l)(inj:∀a b,κ a=κ b->a=b):G5 P kt κ D where
 check:=fun w em a G=>by obtain ⟨l,I⟩:=key a G;exact B.check w em I
 find:=fun w k K es J=>by
  obtain ⟨l,I⟩:=key k K;exact B.find w I es fun e h=>by obtain ⟨a,G,e1⟩:=J e h;rw [e1];exact key a G
 stays:=fun w a G=>by obtain ⟨l,I⟩:=key a G;exact B.stays w I
 inj:=inj
theorem G5.basic [DecidableEq α]{kt:AM}{K:TypeDesc}(Z:P.underlying kt=some K)(U:∀a b,Instr.sameNow K (κ a) (κ b)=some (decide (a=b)))(hc:∀(w:AD) (em:Bool) (a:α),(Instr.checkKey em 10000 kt (κ a)).run P w= .ok () w)
 (W:∀(w:AD) (a:α),(Instr.keyThatStays (κ a) (κ a)).run P w= .ok (κ a) w)(inj:∀a b,κ a=κ b->a=b):G5 P kt κ D where
 check:=fun w em a _=>hc w em a
 find:=fun w k _ es O=>by
  have h:∀(es:List MapEntry) (i:Nat),(∀e∈es,∃a,D a/\e.key=κ a)->(Instr.findNow K (κ k) es i=some none/\∀e∈es,e.key≠κ k)\/∃j e,Instr.findNow K (κ k) es i=some (some (i+j,e.val))/\es[j]?=some e/\e.key=κ k:=by
   intro es;induction es with
   |nil=>intro i _;exact .inl ⟨rfl,by simp⟩
   |cons e es ih=>
    intro i O;obtain ⟨a,_,I⟩:=O e B4;by_cases J:k=a
    · refine .inr ⟨0,e,?_,rfl,by rw [I,J]⟩
      simp only [Instr.findNow,I,U,J,decide_true,Pu]
    · rcases ih (i+1) (fun e h=>O e (E7 _ h))with⟨G,h2⟩|⟨j,e',G,h2,h3⟩
      · refine .inl ⟨?_,fun e' h=>?_⟩
        · simp only [Instr.findNow,I,U,J,al];exact G
        · rcases DB.1 h with rfl|h
          · rw [I];exact fun h=>J (inj _ _ h.symm)
          · exact h2 e' h
      · refine .inr ⟨j+1,e',?_,h2,h3⟩
        simp only [Instr.findNow,I,U,J,al];rw [G,show i+1+j=i+(j+1) by omega]
  have B:∀r,Instr.findNow K (κ k) es 0=some r->(Instr.findKey kt (κ k) es).run P w= .ok r w:=fun r X=>by
   simp only [Instr.findKey,Sem.run_bind,run_underlying Z,Result.andThen,X];rfl
  rcases h es 0 O with⟨G,h2⟩|⟨j,e,G,h2,h3⟩
  · exact .inl ⟨B _ G,h2⟩
  · exact .inr ⟨j,e,B _ (by rw [G,D3]),h2,h3⟩
 stays:=fun w a _=>W w a
 inj:=inj
theorem oW{kt:AM}(B:P.underlying kt=some (.int .i64))(w:AD)(k:Int)(b:Bool)(n:Nat):(Instr.checkKey b (n+1) kt (I4 k)).run P w= .ok () w:=by
 simp only [Instr.checkKey,Sem.run_bind,run_underlying B,Result.andThen];rfl
theorem oV{kt:AM}(B:P.underlying kt=some .string)(w:AD)(k:Bk)(b:Bool)(n:Nat):(Instr.checkKey b (n+1) kt (.string k)).run P w= .ok () w:=by
 simp only [Instr.checkKey,Sem.run_bind,run_underlying B,Result.andThen];rfl
theorem vQ(n:Nat)(k:Int):Instr.sameBits (n+1) (I4 k) (I4 k)=true:=by simp [Instr.sameBits]
theorem vP(n:Nat)(k:Bk):Instr.sameBits (n+1) (.string k) (.string k)=true:=by
 simp only [Instr.sameBits];cases k with|mk k=>show(k==k)=true;simp
theorem YD{v:A4}(h:Instr.sameBits 10000 v v=true)(w:AD):(Instr.keyThatStays v v).run P w= .ok v w:=by
 unfold Instr.keyThatStays;rw [Ax h];rfl
theorem Cf{kt:AM}{D:Int->Prop}(B:P.underlying kt=some (.int .i64)):G5 P kt (fun k:Int=>Value.int .i64 k) D:=
 G5.basic B (fun a b=>by simp only [Instr.sameNow];congr 1) (fun w em a=>oW B w a em 9999) (fun w a=>YD (vQ 9999 a) w) (fun a b h=>by injection h)
theorem Dt{kt:AM}{D:Bk->Prop}(B:P.underlying kt=some .string):G5 P kt (fun k:Bk=>Value.string k) D:=
 G5.basic B (fun a b=>by
  simp only [Instr.sameNow];congr 1;cases a with|mk a=>cases b with|mk b=>
  show(a==b)=_;simp only [ByteArray.mk.injEq];exact Bool.eq_iff_iff.2 B4) (fun w em a=>oV B w a em 9999) (fun w a=>YD (vP 9999 a) w) (fun a b h=>by injection h)
theorem EX(κ:α->A4):Co κ #[] 0 []:=⟨rfl,by simp,by simp,by simp⟩
variable{es:Array MapEntry}{clock:Nat}{l:List (α×A4)}{kt:AM}
theorem Co.size(h:Co κ es clock l):es.size=l.length:=by
 have:=congrArg List.length h.pairs;simpa using this
theorem Co.at_(h:Co κ es clock l){j:Nat}{e:MapEntry}(G:es.toList[j]?=some e):∃p,l[j]?=some p/\e.key=κ p.1/\e.val=p.2:=by
 have B:(es.toList.map (fun e=>(e.key,e.val)))[j]?=some (e.key,e.val):=by rw [DP,G];rfl
 rw [h.pairs,DP]at B;cases hp:l[j]?with
 |none=>rw [hp]at B;cases B
 |some p=>
  rw [hp]at B;injection B with B
  injection B with h2 h3
  exact ⟨p,V,h2.symm,h3.symm⟩
theorem Co.of(h:Co κ es clock l){j:Nat}{p:α×A4}(G:l[j]?=some p):∃e,es.toList[j]?=some e/\e.key=κ p.1/\e.val=p.2:=by
 have B:(l.map (fun p=>(κ p.1,p.2)))[j]?=some (κ p.1,p.2):=by rw [DP,G];rfl
 rw [<-h.pairs,DP]at B;cases he:es.toList[j]?with
 |none=>rw [he]at B;cases B
 |some e=>
  rw [he]at B;injection B with B
  injection B with h2 h3
  exact ⟨e,V,h2,h3⟩
theorem I8(W:G5 P kt κ D)(U:Co κ es clock l)(Z:∀p∈l,D p.1)(w:AD)(k:α)(X:D k):
 ((Instr.findKey kt (κ k) es.toList).run P w= .ok none w/\∀p∈l,p.1≠k)\/∃j v,(Instr.findKey kt (κ k) es.toList).run P w= .ok (some (j,v)) w/\l[j]?=some (k,v):=by
 rcases W.find w k X es.toList (fun e K=>by
  obtain ⟨j,O⟩:=HH K;obtain ⟨p,G,B,_⟩:=U.at_ O;exact ⟨p.1,Z p (DQ G),B⟩)with⟨B,h2⟩|⟨j,e,B,h2,h3⟩
 · refine .inl ⟨B,fun p G K=>?_⟩
   obtain ⟨j,O⟩:=HH G;obtain ⟨e,I,J,_⟩:=U.of O;exact h2 e (DQ I) (by rw [J,K])
 · obtain ⟨p,G,I,J⟩:=U.at_ h2
   refine .inr ⟨j,e.val,B,?_⟩;rw [G,J,<-W.inj p.1 k (by rw [<-I,h3])]
def Dp [DecidableEq α](k:α)(l:List (α×A4)):Option A4:=(l.find? (fun p=>decide (p.1=k))).map (·.2)
theorem Da [DecidableEq α]{k:α}(h:∀p∈l,p.1≠k):Dp k l=none:=by
 unfold Dp;rw [cP.2 (fun p B=>by simpa using h p B)];rfl
theorem D7 [DecidableEq α]{k:α}{v:A4}:∀{l:List (α×A4)},(l.map (·.1)).Nodup->(k,v)∈l->Dp k l=some v
 |p::l,hn,h=>by
  rw [Dd,HK]at hn;unfold Dp;rcases DB.1 h with rfl|h
  · simp
  · rw [List.find?_cons_of_neg (by simp;rintro rfl;exact hn.1 (C6.2 ⟨_,h,rfl⟩))]
    exact D7 hn.2 h
theorem QD [DecidableEq α]{k:α}{v:A4}{l:List (α×A4)}(h:Dp k l=some v):(k,v)∈l:=by
 unfold Dp at h;cases hf:l.find? (fun p=>decide (p.1=k))with
 |none=>rw [hf]at h;cases h
 |some p=>
  rw [hf]at h;injection h with h
  have B:=dp hf;have h2:=cy hf
  simp only [GO]at B;rw [<-B,<-h];exact h2
section
variable{env:Env}{d:Option Nat}{ty:AM}{pos:String}{af:Array Edge}{g:Option (Nat×Bool)}{t et:AM}{r:Nat}{m x y:Operand}{k:α}{v z:A4}
theorem F7(B:G5 P kt κ D)(G:D k)(w:AD)(em:Bool):(Instr.checkKey em 10000 kt (κ k)).run P w= .ok () w:=by
 exact B.check w em k G
theorem rz [DecidableEq α](G:G5 P kt κ D)(O:P.underlying t=some (.map kt et))(hz:∀w:AD,(zeroValue et).run P w= .ok z w)(K:Co κ es clock l)(U:∀p∈l,D p.1)(I:D k)(X:∀a,ev a env m= .map (some r))(Z:∀a,ev a env x=κ k):
 OpP P ⟨d,.lookup t m x true,ty,pos,af,g⟩ env [(r,.map es clock)] (.tuple #[(Dp k l).getD z,.bool (Dp k l).isSome]):=fun a w W=>by
 have J:=W (r,.map es clock) B4;show((do pure (Next.value (<-Instr.lookup t (ev a env m) (ev a env x) true))):Sem Next).run P w=_
 rw [X a,Z a];rcases I8 G K U w k I with⟨B,h2⟩|⟨j,v,B,h2⟩
 · rw [Da h2]
   simp only [Instr.lookup,Sem.run_bind,run_underlying O,Result.andThen,MapKept.run_getObj_map J,F7 G I,Sem.run_pure,B,hz];rfl
 · rw [D7 K.keys (DQ h2)]
   simp only [Instr.lookup,Sem.run_bind,run_underlying O,Result.andThen,MapKept.run_getObj_map J,F7 G I,Sem.run_pure,B];rfl
theorem EU [DecidableEq α]{v0:A4}{b0:Bool}(B:G5 P kt κ D)(K:P.underlying t=some (.map kt et))(hz:∀w:AD,(zeroValue et).run P w= .ok z w)(J:Co κ es clock l)(I:∀p∈l,D p.1)(G:D k)(hv:(Dp k l).getD z=v0/\(Dp k l).isSome=b0)(O:∀a,ev a env m= .map (some r))(U:∀a,ev a env x=κ k):
 OpP P ⟨d,.lookup t m x true,ty,pos,af,g⟩ env [(r,.map es clock)] (.tuple #[v0,.bool b0]):=by
 have:=rz (d:=d) (ty:=ty) (pos:=pos) (af:=af) (g:=g) B K hz J I G O U;rwa [hv.1,hv.2]at this
theorem Q9(J:P.underlying t=some (.map kt et))(G:Co κ es clock l)(K:∀a,ev a env m= .map (some r)):
 OpP P ⟨d,.call ⟨.builtin .len,#[m],#[t]⟩,ty,pos,af,g⟩ env [(r,.map es clock)] (I4 (l.length:Int)):=fun a w I=>by
 have B:=I (r,.map es clock) B4;simp [Dz,resolve,invoke,builtin,K a,Builtin.len_,run_underlying J,MapKept.run_getObj_map B,goInt,G.size]
theorem Fp{w:AD}{c:Nat}(B:w.heap[r]?=some (.map es c))(o':Obj):(setObj r o').run P w= .ok () (setBlock w r o'):=by
 simp [setObj,Sem.run,B,setBlock]
variable{u:AD}{H R:Hp}
theorem DX:OpW P u ⟨d,.makeMap t none,ty,pos,af,g⟩ env H (fun I H1=>∃b,I= .map (some b)/\H1=[(b,.map #[] 0)]::H) (fun _ _=>False):=fun a w G K J B _=>by
 have:(execOp (ev a env) ⟨d,.makeMap t none,ty,pos,af,g⟩).run P w= .ok (.value (.map (some w.heap.size))) {w with heap:=w.heap.push (.map #[] 0)}:=by
  show((do pure (Next.value (<-Instr.makeMap t none))):Sem Next).run P w=_;rfl
 rw [this];exact B _ _ _ ⟨_,V,V⟩ (G.alloc _)
theorem Ja{w:AD}(B:One [(r,.map es clock)] H R)(G:Sat u H w)(o':Obj):w.heap[r]?=some (.map es clock)/\Sat u ([(r,o')]::R) (setBlock w r o'):=by
 have J:Sat u ([(r,.map es clock)]::R) w:=G.perm (by simpa using B.perm);have K:=J.get (r,.map es clock) B4
 have I:r<w.heap.size:=(HU.1 K).1;exact ⟨K,J.upd (Upd.here _) rfl rfl rfl (by simp [setBlock,I]) (fun j O=>by simp only [setBlock,i7];rw [As (fun e=>O e.symm)])⟩
theorem ZJ{i:Nat}{q:A4}(I:l[i]?=some (k,q))(v:A4):((l.set i (k,v)).map (·.1))=l.map (·.1):=by
 apply Mb;intro j;rw [DP,DP,T0];by_cases B:i=j
 · subst B
   have G:=(C4.1 I).1;rw [Ax rfl,Ax G,I];rfl
 · rw [As B]
theorem LQ{i j:Nat}{p q:α×A4}(G:(l.map (·.1)).Nodup)(I:l[i]?=some p)(J:l[j]?=some q)(h:p.1=q.1):i=j:=by
 have B:(l.map (·.1))[i]?=some p.1:=by rw [DP,I];rfl
 have h2:(l.map (·.1))[j]?=some q.1:=by rw [DP,J];rfl
 exact (oT (C4.1 B).1 G).1 (by rw [B,h2,h])
theorem jP{i:Nat}{q:A4}(K:(l.map (·.1)).Nodup)(J:l[i]?=some (k,q))(v:A4)(p:α×A4):p∈l.set i (k,v)↔p=(k,v)\/(p∈l/\p.1≠k):=by
 have I:=(C4.1 J).1;constructor
 · intro h
   obtain ⟨j,B⟩:=HH h;rw [T0]at B;by_cases G:i=j
   · rw [Ax G,Ax A0]at B
     injection B with B;exact .inl B.symm
   · rw [As G]at B
     exact .inr ⟨DQ B,fun e=>G (LQ K J B e.symm)⟩
 · rintro (rfl|⟨h,hne⟩)
   · exact DQ (by rw [T0,Ax rfl,Ax I])
   · obtain ⟨j,B⟩:=HH h
     refine DQ (i:=j) ?_;rw [T0,As];· exact B
     · rintro rfl
       rw [J]at B;injection B with B
       exact hne (by rw [<-B])
theorem FH(hK:G5 P kt κ D)(ht:P.underlying t=some (.map kt et))(J:Co κ es clock l)(hl:∀p∈l,D p.1)(hk:D k)(hx:∀a,ev a env m= .map (some r))(hy:∀a,ev a env x=κ k)(hv:∀a,ev a env y=v)(W:One [(r,.map es clock)] H R):
 OpW P u ⟨d,.mapUpdate t m x y,ty,pos,af,g⟩ env H (fun v' H1=>v'=undef/\∃G B Z,Co κ G B Z/\(∀p,p∈Z↔p=(k,v)\/(p∈l/\p.1≠k))/\H1=[(r,.map G B)]::R) (fun _ _=>False):=fun a w X K Kp cu _=>by
 obtain ⟨hb,_⟩:=Ja W X (.map es clock)
 suffices hrun:∃G B Z,(Instr.mapUpdate t (.map (some r)) (κ k) v).run P w= .ok () (setBlock w r (.map G B))/\Co κ G B Z/\∀p,p∈Z↔p=(k,v)\/(p∈l/\p.1≠k) by
  obtain ⟨G,B,Z,h1,h2,h3⟩:=hrun;have:(execOp (ev a env) ⟨d,.mapUpdate t m x y,ty,pos,af,g⟩).run P w= .ok .skip (setBlock w r (.map G B)):=by
   show((do Instr.mapUpdate t (ev a env m) (ev a env x) (ev a env y);pure Next.skip):Sem Next).run P w=_;rw [hx a,hy a,hv a,Sem.run_bind,h1];rfl
  rw [this];exact cu _ _ _ ⟨V,G,B,Z,h2,h3,V⟩ (Ja W X _).2
 rcases I8 hK J hl w k hk with⟨h1,h2⟩|⟨j,q,h1,h2⟩
 · refine ⟨es.push {key:=κ k,val:=v,born:=clock},clock+1,l++[(k,v)],?_,⟨?_,?_,?_,?_⟩,?_⟩
   · simp only [Instr.mapUpdate,Sem.run_bind,run_underlying ht,Result.andThen,MapKept.run_getObj_map hb,F7 hK hk,h1,Fp hb]
   · simp [J.pairs]
   · simp only [mT,C0,Dd,JT]
     rw [GW];refine ⟨J.born,by simp,?_⟩;intro a ha b O ax;simp only [C6,C5]at ha O;obtain ⟨e,U,rfl⟩:=ha;have:=J.old e U
     omega
   · intro e U
     simp only [mT,C2,C5]at U;rcases U with U|rfl
     · have:=J.old e U;omega
     · simp
   · rw [C0,GW]
     refine ⟨J.keys,by simp,?_⟩;intro a ha b O ax;simp only [Dd,JT,C5]at O;obtain ⟨p,hp,rfl⟩:=C6.1 ha;exact h2 p hp (by rw [ax,O])
   · intro p
     rw [C2,C5];constructor
     · rintro (h|rfl)
       · exact .inr ⟨h,h2 p h⟩
       · exact .inl rfl
     · rintro (rfl|⟨h,_⟩)
       · exact .inr rfl
       · exact .inl h
 · obtain ⟨e0,bn,d9,ek⟩:=J.of h2
   have cO:es[j]?=some e0:=by simpa using bn
   have dn:(Instr.keyThatStays (((es[j]?).map (·.key)).getD (κ k)) (κ k)).run P w= .ok (κ k) w:=by
    rw [cO];show(Instr.keyThatStays e0.key (κ k)).run P w=_
    rw [d9];exact hK.stays w k hk
   refine ⟨es.modify j fun e=>{e with key:=κ k,val:=v},clock,l.set j (k,v),?_,⟨?_,?_,?_,?_⟩,jP J.keys h2 v⟩;· simp only [Instr.mapUpdate,Sem.run_bind,run_underlying ht,Result.andThen,MapKept.run_getObj_map hb,F7 hK hk,h1,dn,Fp hb]
   · rw [ew]
     apply Mb;intro i;have hj:(es.toList.map (fun e=>(e.key,e.val)))[i]?=(l.map (fun p=>(κ p.1,p.2)))[i]?:=by rw [J.pairs]
     rw [DP,DP]at hj;rw [DP,DP,er,T0];by_cases I:j=i
     · subst I
       rw [Ax rfl,Ax (C4.1 h2).1,bn];simp
     · simpa [I]using hj
   · have:(es.modify j fun e=>{e with key:=κ k,val:=v}).toList.map (·.born)=es.toList.map (·.born):=by
      rw [ew];apply Mb;intro i;simp only [DP,er];by_cases I:j=i;· subst I;cases es.toList[j]?<;>simp
      · simp [I]
     rw [this];exact J.born
   · intro e U
     rw [ew]at U;obtain ⟨i,hi⟩:=HH U;simp only [er]at hi;cases h9:es.toList[i]?with
     |none=>simp [h9]at hi
     |some e1=>
      have:=J.old e1 (DQ h9);by_cases I:j=i
      · subst I
        simp only [h9,Hv,Option.map_eq_map,N2,Wk]at hi;subst hi;exact this
      · simp [h9,I]at hi
        subst hi;exact this
   · rw [ZJ h2 v];exact J.keys
theorem K6{t2:AM}(hK:G5 P kt κ D)(ht:P.underlying t=some (.map kt et))(W:Co κ es clock l)(hl:∀p∈l,D p.1)(hk:D k)(hx:∀a,ev a env m= .map (some r))(hy:∀a,ev a env x=κ k)(I:One [(r,.map es clock)] H R):
 OpW P u ⟨d,.call ⟨.builtin .delete,#[m,x],#[t,t2]⟩,ty,pos,af,g⟩ env H (fun v' H1=>v'= .tuple #[]/\∃G B X,Co κ G B X/\(∀p,p∈X↔p∈l/\p.1≠k)/\H1=[(r,.map G B)]::R) (fun _ _=>False):=fun a w J K Kp bn _=>by
 obtain ⟨hb,_⟩:=Ja I J (.map es clock)
 suffices hrun:∃G B X,(Builtin.delete_ #[t,t2] ty #[.map (some r),κ k]).run P w= .ok (.tuple #[]) (setBlock w r (.map G B))/\Co κ G B X/\∀p,p∈X↔p∈l/\p.1≠k by
  obtain ⟨G,B,X,Z,h2,h3⟩:=hrun;have:(execOp (ev a env) ⟨d,.call ⟨.builtin .delete,#[m,x],#[t,t2]⟩,ty,pos,af,g⟩).run P w= .ok (.value (.tuple #[])) (setBlock w r (.map G B)):=by
   simp only [Dz,resolve,invoke,builtin,S0,Dd,JT,hx a,hy a,Sem.run_bind,Sem.run_pure,Result.andThen_ok,Z]
  rw [this];exact bn _ _ _ ⟨V,G,B,X,h2,h3,V⟩ (Ja I J _).2
 rcases I8 hK W hl w k hk with⟨Z,h2⟩|⟨j,q,Z,h2⟩
 · refine ⟨es,clock,l,?_,W,fun p=>⟨fun h=>⟨h,h2 p h⟩,fun h=>h.1⟩⟩
   simp only [Builtin.delete_,dc,aw,ar,Sem.run_bind,run_underlying ht,Result.andThen,MapKept.run_getObj_map hb,F7 hK hk,Z,Fp hb,Sem.run_pure]
 · have U:(es.eraseIdxIfInBounds j).toList=es.toList.eraseIdx j:=by
    unfold Array.eraseIdxIfInBounds;split;· simp
    · rename_i h;rw [List.eraseIdx_of_length_le (by simpa using h)]
   have O:(es.toList.eraseIdx j).Sublist es.toList:=List.eraseIdx_sublist _ _;have ax:∀{α β:Type} (f:α->β) (m:List α) (n:Nat),(m.eraseIdx n).map f=(m.map f).eraseIdx n:=by
    intro α β f m;induction m with
    |nil=>intro n;simp
    |cons x m ih=>intro n;cases n<;>simp [ih]
   refine ⟨es.eraseIdxIfInBounds j,clock,l.eraseIdx j,?_,⟨?_,?_,?_,?_⟩,fun p=>?_⟩;· simp only [Builtin.delete_,dc,aw,ar,Sem.run_bind,run_underlying ht,Result.andThen,MapKept.run_getObj_map hb,F7 hK hk,Z,Fp hb,Sem.run_pure]
   · rw [U,ax,W.pairs,ax]
   · rw [U];exact (O.map _).nodup W.born
   · intro e he
     rw [U]at he;exact W.old e (O.subset he)
   · exact ((List.eraseIdx_sublist l j).map _).nodup W.keys
   · rw [List.mem_eraseIdx_iff_getElem?]
     constructor
     · rintro ⟨i,cu,hi⟩
       exact ⟨DQ hi,fun e=>cu (LQ W.keys hi h2 e)⟩
     · rintro ⟨h,cO⟩
       obtain ⟨i,hi⟩:=HH h;refine ⟨i,?_,hi⟩;rintro rfl;rw [h2]at hi;injection hi with hi
       exact cO (by rw [<-hi])
end
end
end Gw
namespace Gw
open Go Go.RowKit
open Go.ChangeMaps
section
variable{α:Type}{κ:α->A4}{P:Program}{es:Array MapEntry}{clock:Nat}{l:List (α×A4)}
structure Iq(es:Array MapEntry)(js:List Nat)(seen:Array Nat):Prop where
 nodup:js.Nodup
 lt:∀j∈js,j<es.size
 mem:∀(j:Nat) (e:MapEntry),es.toList[j]?=some e->(seen.contains e.born=true↔j∈js)
 last:∀(j:Nat),js.getLast?=some j->∃e,es.toList[j]?=some e/\∃s0:Array Nat,seen=s0.push e.born
theorem KR(es:Array MapEntry):Iq es [] #[]:=⟨by simp,by simp,by simp,by simp⟩
theorem bC{es:Array MapEntry}(J:(es.toList.map (·.born)).Nodup){i j:Nat}{a b:MapEntry}(G:es.toList[i]?=some a)(I:es.toList[j]?=some b)(h:a.born=b.born):i=j:=by
 have B:(es.toList.map (·.born))[i]?=some a.born:=by rw [DP,G];rfl
 have h2:(es.toList.map (·.born))[j]?=some b.born:=by rw [DP,I];rfl
 exact (oT (C4.1 B).1 J).1 (by rw [B,h2,h])
theorem Iq.push(K:Co κ es clock l){js:List Nat}{seen:Array Nat}(h:Iq es js seen){j:Nat}{e:MapEntry}(I:es.toList[j]?=some e)(U:j∉js):Iq es (js++[j]) (seen.push e.born):=by
 refine ⟨?_,?_,?_,?_⟩
 · rw [GW]
   refine ⟨h.nodup,by simp,?_⟩;intro a O b G J;rw [C5]at G;subst G J;exact U O
 · intro i hi
   rcases C2.1 hi with hi|hi
   · exact h.lt i hi
   · rw [C5]at hi
     subst hi;have:=(C4.1 I).1
     simpa using this
 · intro i x B
   rw [C2,C5,<-h.mem i x B,Array.contains_push];simp only [S3,beq_iff_eq];constructor
   · rintro (G|hc)
     · first|exact .inr (bC K.born B I G)|exact .inl G
     · first|exact .inl hc|exact .inr (bC K.born B I hc)
   · rintro (hc|rfl)
     · first|exact .inr hc|exact .inl hc
     · rw [I]at B
       injection B with B
       subst B;first|exact .inl rfl|exact .inr rfl
 · intro i hi
   rw [List.getLast?_append]at hi;simp at hi;subst hi;exact ⟨e,I,seen,V⟩
def DW(l:List (α×A4))(js:List Nat):List (α×A4):=js.filterMap (fun j=>l[j]?)
theorem G9(l:List (α×A4))(js:List Nat){j:Nat}{p:α×A4}(B:l[j]?=some p):DW l (js++[j])=DW l js++[p]:=by
 unfold DW;rw [eo];simp [B]
theorem NG(l:List (α×A4)):DW l (List.range l.length)=l:=by
 have h:∀n,n<=l.length->DW l (List.range n)=l.take n:=by
  intro n;induction n with
  |zero=>intro _;rfl
  |succ n ih=>
   intro G;obtain ⟨p,B⟩:∃p,l[n]?=some p:=⟨_,BT A0⟩;rw [j7,G9 l _ B,ih A0,PF,B];rfl
 rw [h _ (CI _),G3]
theorem Iq.done(K:Co κ es clock l){js:List Nat}{seen:Array Nat}(h:Iq es js seen)(h0:(leftOf es seen).size=0):(DW l js).Perm l:=by
 have O:js.Perm (List.range l.length):=by
  rw [OS h.nodup iz];intro j;rw [Kd,<-K.size];constructor;· exact h.lt j
  · intro J
    have B:j<es.toList.length:=by simpa using J
    have I:es.toList[j]?=some (es.toList[j]):=BT B;rw [<-h.mem j _ I];unfold leftOf at h0;have G:=Array.filter_eq_empty_iff.1 (Array.eq_empty_of_size_eq_zero h0)
    have h2:=G (es.toList[j]) (oA.1 (od B));simpa using h2
 have:=O.filterMap (fun j=>l[j]?);exact this.trans (by rw [show(List.range l.length).filterMap (fun j=>l[j]?)=DW l (List.range l.length) from rfl,NG])
section
variable{env:Env}{d:Option Nat}{ty:AM}{pos:String}{af:Array Edge}{g:Option (Nat×Bool)}{t kt et:AM}{r b:Nat}{x:Operand}{u:AD}{H R:Hp}
theorem Le(O:P.underlying t=some (.map kt et))(U:∀a,ev a env x= .map (some r))(B:(r,.map es clock)∈H.flatten):
 OpW P u ⟨d,.range t x,ty,pos,af,g⟩ env H (fun W H1=>∃b,W=I5 b/\H1=[(b,.mapIter (some r) clock #[] clock)]::H) (fun _ _=>False):=fun a w G K X I _=>by
 have J:=G.get _ B;have:(execOp (ev a env) ⟨d,.range t x,ty,pos,af,g⟩).run P w= .ok (.value (.pointer (some ⟨w.heap.size,0,none⟩))) {w with heap:=w.heap.push (.mapIter (some r) clock #[] clock)}:=by
  show((do pure (Next.value (<-Instr.range t (ev a env x)))):Sem Next).run P w=_;rw [U a];simp only [Instr.range,Sem.run_bind,run_underlying O,Result.andThen,MapKept.run_getObj_map J];rfl
 rw [this];exact I _ _ _ ⟨_,V,V⟩ (G.alloc _)
theorem NS(G:P.underlying t=some (.map kt et))(I:∀a,ev a env x= .map (some r))(B:Has r (.map es clock) H):
 OpW P u ⟨d,.range t x,ty,pos,af,g⟩ env H (fun J H1=>∃b,J=I5 b/\H1=[(b,.mapIter (some r) clock #[] clock)]::H) (fun _ _=>False):=Le G I B.mem
theorem xD{w:AD}{o:Obj}(B:One [(b,o)] H R)(G:Sat u H w)(o':Obj):w.heap[b]?=some o/\Sat u ([(b,o')]::R) (setBlock w b o'):=by
 have J:Sat u ([(b,o)]::R) w:=G.perm (by simpa using B.perm);have K:=J.get (b,o) B4
 have I:b<w.heap.size:=(HU.1 K).1;exact ⟨K,J.upd (Upd.here _) rfl rfl rfl (by simp [setBlock,I]) (fun j O=>by simp only [setBlock,i7];rw [As (fun e=>O e.symm)])⟩
theorem NT(X:Co κ es clock l){js:List Nat}{seen:Array Nat}(hi:Iq es js seen)(hx:∀a,ev a env x=I5 b)(J:One [(b,.mapIter (some r) clock seen clock)] H R)(U:(r,.map es clock)∈R.flatten):
 OpW P u ⟨d,.next x false,ty,pos,af,g⟩ env H (fun v' H1=>((DW l js).Perm l/\v'= .tuple #[.bool false]/\H1=[(b,.mapIter (some r) clock seen clock)]::R)\/
  ∃j p I,l[j]?=some p/\j∉js/\Iq es (js++[j]) I/\v'= .tuple #[.bool true,κ p.1,p.2]/\H1=[(b,.mapIter (some r) clock I clock)]::R) (fun _ _=>False):=fun a w G K Kp hK _=>by
 have Z:Sat u ([(b,.mapIter (some r) clock seen clock)]::R) w:=G.perm (by simpa using J.perm);have hb:=Z.get (b,.mapIter (some r) clock seen clock) (by simp)
 have hr:=Z.get (r,.map es clock) (by simp [U]);have ax:(execOp (ev a env) ⟨d,.next x false,ty,pos,af,g⟩)=((do pure (Next.value (<-Instr.next (I5 b) false ty))):Sem Next):=by
  rw [<-hx a];rfl
 rw [ax];rcases run_next_at (P:=P) w ty b r clock clock seen es clock hb hr X.old (CI _)with⟨hz,B⟩|⟨e,he,w1,hw1,B⟩
 · rw [Sem.run_bind,B]
   exact hK _ _ _ (.inl ⟨hi.done X hz,V,V⟩) Z
 · rw [Sem.run_bind,B]
   have O:e∈es.toList/\seen.contains e.born=false:=by
    unfold leftOf at he;simpa using he
   obtain ⟨j,hj⟩:=HH O.1;obtain ⟨p,hp,hk,hv⟩:=X.at_ hj;have W:j∉js:=fun h=>by
    have:=(hi.mem j e hj).2 h;rw [O.2]at this;cases this
   refine hK _ _ _ (.inr ⟨j,p,_,hp,W,hi.push X hj W,by rw [hk,hv],rfl⟩) ?_;have h2:Sat u H w1:=by
    rcases hw1 with rfl|rfl
    · exact G
    · exact G.drew
   exact (xD J h2 _).2
theorem PX(K:Co κ es clock l){js:List Nat}{seen:Array Nat}(hi:Iq es js seen)(O:∀a,ev a env x=I5 b)(I:One [(b,.mapIter (some r) clock seen clock)] H R)(G:Has r (.map es clock) R):
 OpW P u ⟨d,.next x false,ty,pos,af,g⟩ env H (fun J H1=>((DW l js).Perm l/\J= .tuple #[.bool false]/\H1=[(b,.mapIter (some r) clock seen clock)]::R)\/
  ∃j p B,l[j]?=some p/\j∉js/\Iq es (js++[j]) B/\J= .tuple #[.bool true,κ p.1,p.2]/\H1=[(b,.mapIter (some r) clock B clock)]::R) (fun _ _=>False):=NT K hi O I G.mem
theorem JG(J:Co κ es clock l){js:List Nat}{seen:Array Nat}{j:Nat}{p:α×A4}(hi:Iq es (js++[j]) seen)(W:l[j]?=some p)(Z:∀a,ev a env x=I5 b):
 OpP P ⟨d,.entry x,ty,pos,af,g⟩ env [(b,.mapIter (some r) clock seen clock),(r,.map es clock)] (.tuple #[κ p.1,p.2]):=fun a w K=>by
 have O:=K (b,.mapIter (some r) clock seen clock) B4;have X:=K (r,.map es clock) B4
 obtain ⟨e,I,s0,rfl⟩:=hi.last j B4;obtain ⟨p2,B,U,hv⟩:=J.at_ I;rw [W]at B;injection B with B
 subst B;have G:=run_entry_at (P:=P) w b r clock s0 es clock e O X (DQ I) J.born
 show((do pure (Next.value (<-Instr.entry (ev a env x)))):Sem Next).run P w=_;rw [Z a,Sem.run_bind,G,U,hv];rfl
end
end
end Gw
namespace Gl
open Go
def linUpon(P:Program)(K:A4->AD->Prop):Result Next->Prop
 | .ok (.value u) w=>K u w
 | .ok .skip w=>K undef w
 | .ok (.enter f args) w=>Calls P f args w (fun e w'=>∃u,e= .returned u/\K u w')
 |_=>False
def lookE(a:Act):List (Nat×A4)->Nat->A4
 |[],t=>a.tmps.getD t undef
 |(d,v)::env,t=>if t=d then v else lookE a env t
def evalE(a:Act)(env:List (Nat×A4)):Operand->A4
 | .tmp t=>lookE a env t
 | .const v=>v
 | .global g=>I5 g
 | .func f=> .func (.func f) #[] #[]
def yieldE(ops:Array Oper)(a:Act)(env:List (Nat×A4))(g:Nat)(want:Bool):Bool:=
 match(ops[g]?).bind (·.dst)with
 |some t=>match lookE a env t with
  | .bool b=>b==want
  |_=>false
 |none=>false
def wantedE(ops:Array Oper)(a:Act)(env:List (Nat×A4)):Option (Nat×Bool)->Bool
 |none=>true
 |some (g,want)=>yieldE ops a env g want
def putE(d:Option Nat)(v:A4)(env:List (Nat×A4)):List (Nat×A4):=
 match d with
 |some d=>(d,v)::env
 |none=>env
def putsE:List (Nat×A4)->Act->Act
 |[],a=>a
 |(d,v)::env,a=>(putsE env a).put (some d) v
def ZG(P:Program)(ops:Array Oper)(o:Oper)(a:Act)(env:List (Nat×A4))(v:A4)(R:AD->Prop)(w:AD):Prop:=
 ∀K:A4->AD->Prop,(∀w',R w'->K v w')->if wantedE ops a env o.guard=true then linUpon P K ((execOp (evalE a env) o).run P w)else K undef w
def N9(P:Program)(ops:Array Oper)(S:Nat->AD->Prop)(Q:Act->AD->Prop)(a:Act):Nat->List Oper->List Bool->List (Nat×A4)->Prop
 |k,[],_,env=>∀w,S k w->Q (putsE env a) w
 |k,o::l,true::fs,env=>∃v,(∀w,S k w->ZG P ops o a env v (S (k+1)) w)/\N9 P ops S Q a (k+1) l fs (putE o.dst v env)
 |k,o::l,false::fs,env=>∃v,(∀j w,S j w->ZG P ops o a env v (S j) w)/\N9 P ops S Q a k l fs (putE o.dst v env)
 |_,_::_,[],_=>False
def TP(ops:Array Oper)(fl:List Bool)(N:Nat):Bool:=
 let b:=Region.before ops
 decide (fl.length=ops.size)&&
 (List.range ops.size).all fun j=>match ops[j]?with
   |none=>false
   |some oj=>
    (oj.after.toList.all fun e=>!Region.binds .any e||decide (e.on<j))&&
    ((List.range j).all fun i=>match ops[i]?with
      |none=>false
      |some oi=>
       (!(b.getD j 0).testBit i||oj.after.toList.any (fun e=>Region.binds .any e&&(e.on==i||(decide (i<e.on)&&(b.getD e.on 0).testBit i))))&&
       (oi.apart ops oj||(b.getD j 0).testBit i)&&
       (!(fl.getD i false&&fl.getD j false)||(b.getD j 0).testBit i))&&
    (match oj.op with| .select ..=>false|_=>true)&&
    (match oj.dst with|some d=>decide (d<N)|none=>true)
def KQ(p:Nat->Bool):Nat->List (Oper×A4)->Act->Act
 |_,[],a=>a
 |i,x::l,a=>KQ p (i+1) l (if p i then a.put x.1.dst x.2 else a)
def tv(p:Nat->Bool)(t:Nat):Nat->List (Oper×A4)->Option A4->Option A4
 |_,[],d=>d
 |i,x::l,d=>tv p t (i+1) l (if p i=true/\x.1.dst=some t then some x.2 else d)
theorem EG(a:Act)(d:Option Tmp)(v:A4):(a.put d v).tmps.size=a.tmps.size:=by cases d<;>simp [Act.put]
theorem Jf(a:Act)(d:Option Tmp)(v:A4):(a.put d v).defers=a.defers:=by cases d<;>simp [Act.put]
theorem Iy(a:Act)(d:Option Tmp)(v:A4)(t:Nat)(B:t<a.tmps.size):(a.put d v).tmps[t]?=if d=some t then some v else a.tmps[t]?:=by
 cases d with
 |none=>simp [Act.put]
 |some d=>
  simp only [Act.put,i7];by_cases e:d=t;· subst e;simp [B]
  · simp [e]
theorem J7{a b:Act}(G:a.tmps.size=b.tmps.size)(B:a.defers=b.defers)(h:∀t,t<a.tmps.size->a.tmps[t]?=b.tmps[t]?):a=b:=by
 obtain ⟨x,d⟩:=a;obtain ⟨y,e⟩:=b;simp only at B G h;subst B;congr 1;apply ju G;intro i hi I;have:=h i hi
 simp only [HP hi,HP I,Wk]at this;exact this
theorem D8(p:Nat->Bool):∀(i:Nat) (l:List (Oper×A4)) (a:Act),(KQ p i l a).tmps.size=a.tmps.size
 |_,[],_=>rfl
 |i,x::l,a=>by simp only [KQ];rw [D8 p (i+1) l];split<;>simp [EG]
theorem FJ(p:Nat->Bool):∀(i:Nat) (l:List (Oper×A4)) (a:Act),(KQ p i l a).defers=a.defers
 |_,[],_=>rfl
 |i,x::l,a=>by simp only [KQ];rw [FJ p (i+1) l];split<;>simp [Jf]
theorem EE(p:Nat->Bool)(t:Nat):∀(i:Nat) (l:List (Oper×A4)) (a:Act),t<a.tmps.size->(KQ p i l a).tmps[t]?=tv p t i l a.tmps[t]?
 |_,[],_,_=>rfl
 |i,x::l,a,ht=>by
  simp only [KQ,tv];rw [EE p t (i+1) l _ (by split<;>simpa [EG]using ht)];congr 1;by_cases B:p i=true;· simp only [B,Hv,WD];rw [Iy _ _ _ _ ht]
  · simp [B]
theorem F6(p q:Nat->Bool)(t:Nat):∀(i:Nat) (l:List (Oper×A4)) (d:Option A4),(∀k x,l[k]?=some x->x.1.dst=some t->p (i+k)=q (i+k))->tv p t i l d=tv q t i l d
 |_,[],_,_=>rfl
 |i,x::l,d,h=>by
  simp only [tv];have h0:(if p i=true/\x.1.dst=some t then some x.2 else d)=(if q i=true/\x.1.dst=some t then some x.2 else d):=by
   by_cases e:x.1.dst=some t
   · have:=h 0 x rfl e;simp only [Pu]at this;simp [this]
   · simp [e]
  rw [h0];exact F6 p q t (i+1) l _ fun k y B G=>by
   have:=h (k+1) y (by simpa using B) G;rwa [show i+(k+1)=i+1+k from by omega]at this
theorem iX(p:Nat->Bool)(t:Nat):∀(i k:Nat) (l:List (Oper×A4)) (d:Option A4) (x:Oper×A4),l[k]?=some x->x.1.dst=some t->p (i+k)=true->
 (∀G y,k<G->l[G]?=some y->y.1.dst=some t->p (i+G)=false)->tv p t i l d=some x.2
 |i,0,z::l,d,x,B,hx,hp,h=>by
  simp only [aw,Wk]at B;subst B;simp only [tv];simp only [Pu]at hp;simp only [hp,hx,and_self,Hv];rw [F6 p (fun _=>false) t (i+1) l _ fun k y B I=>by
   have:=h (k+1) y (by omega) (by simpa using B) I;rwa [show i+(k+1)=i+1+k from by omega]at this]
  have:∀(i:Nat) (l:List (Oper×A4)) (d:Option A4),tv (fun _=>false) t i l d=d:=by
   intro i l;induction l generalizing i with
   |nil=>intro d;rfl
   |cons y l ih=>intro d;simp [tv,ih]
  rw [this]
 |i,k+1,z::l,d,x,B,hx,hp,h=>by
  simp only [tv];exact iX p t (i+1) k l _ x (by simpa using B) hx (by rwa [show i+1+k=i+(k+1) from by omega]) fun G y K I J=>by
   have:=h (G+1) y A0 (by simpa using I) J;rwa [show i+(G+1)=i+1+G from by omega]at this
 |i,k,[],d,x,B,_,_,_=>by simp at B
def pre(j:Nat)(l:List (Oper×A4))(a:Act):Act:=(l.take j).foldl (fun a x=>a.put x.1.dst x.2) a
theorem RL(j:Nat):∀(i:Nat) (l:List (Oper×A4)) (a:Act),KQ (fun k=>decide (k<i+j)) i l a=pre j l a:=by
 induction j with
 |zero=>
  intro i l;induction l generalizing i with
  |nil=>intro a;rfl
  |cons x l ih=>
   intro a;simp only [KQ,Pu,Nat.lt_irrefl,al,N0,HT];have:∀(m i:Nat) (l:List (Oper×A4)) (a:Act),i<=m->KQ (fun k=>decide (k<i)) m l a=a:=by
    intro m i l;induction l generalizing m with
    |nil=>intro a _;rfl
    |cons y l ih=>intro a h;simp only [KQ];rw [As Hi];exact ih (m+1) a A0
   rw [this (i+1) i l a A0];rfl
 |succ j ih=>
  intro i l a;cases l with
  |nil=>rfl
  |cons x l=>
   simp only [KQ];rw [Ax B4];have:=ih (i+1) l (a.put x.1.dst x.2)
   rw [show i+1+j=i+(j+1) from by omega]at this;rw [this];rfl
def FB(fs:List Bool):Nat:=(fs.filter id).length
def M9(P:Program)(ops:Array Oper)(o:Oper)(a:Act)(v:A4)(R:AD->Prop)(w:AD):Prop:=
 ∀K:A4->AD->Prop,(∀w',R w'->K v w')->if Region.wanted o (yielded ops a.tmps)then linUpon P K ((execOp a.eval o).run P w)else K undef w
theorem Ko(a:Act):∀env,(putsE env a).tmps.size=a.tmps.size
 |[]=>rfl
 |(d,v)::env=>by simp only [putsE];rw [EG,Ko a env]
theorem Nb(a:Act):∀(env:List (Nat×A4)),(∀x∈env,x.1<a.tmps.size)->∀t,(putsE env a).tmps.getD t undef=lookE a env t
 |[],_,t=>rfl
 |(d,v)::env,h,t=>by
  simp only [putsE,lookE];have B:=Nb a env (fun x K=>h x (E7 _ K)) t
  have G:=h (d,v) (E0 ..);rw [LO]at B⊢;by_cases J:t<a.tmps.size
  · rw [Iy _ _ _ _ (by rw [Ko];exact J)]
    by_cases e:t=d
    · subst e;simp
    · rw [As e,<-B,As (fun I=>e (S2 I).symm)]
  · rw [ID (by rw [EG,Ko];omega)]
    rw [ID (by rw [Ko];omega)]at B;rw [<-B,As (by simp only at G;omega)]
theorem dX(a:Act)(env:List (Nat×A4))(h:∀x∈env,x.1<a.tmps.size):(putsE env a).eval=evalE a env:=by
 funext x;cases x with
 |tmp t=>exact Nb a env h t
 |_=>rfl
theorem bX(ops:Array Oper)(o:Oper)(a:Act)(env:List (Nat×A4))(h:∀x∈env,x.1<a.tmps.size):Region.wanted o (yielded ops (putsE env a).tmps)=wantedE ops a env o.guard:=by
 unfold Region.wanted wantedE;cases hg:o.guard with
 |none=>rfl
 |some gw=>
  obtain ⟨g,B⟩:=gw;simp only [yielded,yieldE];cases ht:(ops[g]?).bind (·.dst)with
  |none=>simp
  |some t=>
   simp only [J1];rw [<-Nb a env h t,LO];cases hv:(putsE env a).tmps[t]?with
   |none=>simp [undef]
   |some v=>cases v<;>simp
theorem Vl{P:Program}{ops:Array Oper}{o:Oper}{a:Act}{env:List (Nat×A4)}{v:A4}{R:AD->Prop}{w:AD}(h:∀x∈env,x.1<a.tmps.size)(G:ZG P ops o a env v R w):M9 P ops o (putsE env a) v R w:=by
 intro K B;have:=G K B
 rw [bX ops o a env h,dX a env h];exact this
theorem RY{P:Program}{ops:Array Oper}{S:Nat->AD->Prop}{Q:Act->AD->Prop}{a:Act}:∀(l:List Oper) (fs:List Bool) (k:Nat) (env:List (Nat×A4)),(∀o∈l,∀d,o.dst=some d->d<a.tmps.size)->(∀x∈env,x.1<a.tmps.size)->N9 P ops S Q a k l fs env->
 ∃x:List (Oper×A4),x.map (·.1)=l/\
  (∀j o v,x[j]?=some (o,v)->(fs.getD j false=true->∀w,S (k+FB (fs.take j)) w->M9 P ops o (pre j x (putsE env a)) v (S (k+FB (fs.take j)+1)) w)/\
    (fs.getD j false=false->∀i w,S i w->M9 P ops o (pre j x (putsE env a)) v (S i) w))/\
  ∀w,S (k+FB (fs.take l.length)) w->Q (pre l.length x (putsE env a)) w
 |[],fs,k,env,_,_,h=>⟨[],rfl,fun j o v G=>by simp at G,by simpa [N9,FB,pre]using h⟩
 |o::l,true::fs,k,env,hd,he,h=>by
  obtain ⟨v,Z,h2⟩:=h;have J:∀x∈putE o.dst v env,x.1<a.tmps.size:=by
   intro x B;unfold putE at B;split at B
   · rename_i d hdd
     rcases DB.1 B with rfl|B
     · exact hd o (E0 ..) d hdd
     · exact he x B
   · exact he x B
  have K:putsE (putE o.dst v env) a=(putsE env a).put o.dst v:=by unfold putE;split<;>(rename_i hdd;rw [hdd];rfl)
  obtain ⟨x,B,U,O⟩:=RY l fs (k+1) _ (fun o' ho=>hd o' (E7 _ ho)) J h2;rw [K]at U O;refine ⟨(o,v)::x,by simp [B],fun j o' v' G=>?_,fun w I=>?_⟩
  · cases j with
    |zero=>
     simp only [aw,Wk,jt]at G;obtain ⟨rfl,rfl⟩:=G;exact ⟨fun _ w I=>Vl he (Z w (by simpa [FB]using I)),fun h=>by simp at h⟩
    |succ j=>
     obtain ⟨W,X⟩:=U j o' v' (by simpa using G);have e:k+FB ((true::fs).take (j+1))=k+1+FB (fs.take j):=by simp [FB];omega
     rw [e];exact ⟨fun h=>W (by simpa using h),fun h=>X (by simpa using h)⟩
  · have e:k+FB ((true::fs).take (o::l).length)=k+1+FB (fs.take l.length):=by simp [FB];omega
    rw [e]at I;exact O w I
 |o::l,false::fs,k,env,hd,he,h=>by
  obtain ⟨v,Z,h2⟩:=h;have J:∀x∈putE o.dst v env,x.1<a.tmps.size:=by
   intro x B;unfold putE at B;split at B
   · rename_i d hdd
     rcases DB.1 B with rfl|B
     · exact hd o (E0 ..) d hdd
     · exact he x B
   · exact he x B
  have K:putsE (putE o.dst v env) a=(putsE env a).put o.dst v:=by unfold putE;split<;>(rename_i hdd;rw [hdd];rfl)
  obtain ⟨x,B,U,O⟩:=RY l fs k _ (fun o' ho=>hd o' (E7 _ ho)) J h2;rw [K]at U O;refine ⟨(o,v)::x,by simp [B],fun j o' v' G=>?_,fun w I=>?_⟩
  · cases j with
    |zero=>
     simp only [aw,Wk,jt]at G;obtain ⟨rfl,rfl⟩:=G;exact ⟨fun h=>by simp at h,fun _ i w I=>Vl he (Z i w I)⟩
    |succ j=>
     obtain ⟨W,X⟩:=U j o' v' (by simpa using G);have e:k+FB ((false::fs).take (j+1))=k+FB (fs.take j):=by simp [FB]
     rw [e];exact ⟨fun h=>W (by simpa using h),fun h=>X (by simpa using h)⟩
  · have e:k+FB ((false::fs).take (o::l).length)=k+FB (fs.take l.length):=by simp [FB]
    rw [e]at I;exact O w I
 |_::_,[],_,_,_,_,h=>(h:False).elim
theorem QL(n j:Nat)(p q:Nat->Bool)(J:j<n)(G:p j=false)(I:q j=true)(h:∀i,i<n->i≠j->p i=q i):(List.range n).countP q=(List.range n).countP p+1:=by
 induction n with
 |zero=>omega
 |succ n ih=>
  rw [j7,mC,mC];by_cases e:j=n
  · subst e
    have:(List.range j).countP q=(List.range j).countP p:=List.countP_congr fun i hi=>by
     have:=Kd.1 hi;rw [h i A0 A0]
    simp [this,G,I]
  · have:=ih A0 fun i hi B=>h i A0 B
    have e2:=h n A0 (dt e);simp only [List.countP_singleton,e2];omega
theorem LJ(n:Nat)(p q:Nat->Bool)(h:∀i,i<n->p i=q i):(List.range n).countP q=(List.range n).countP p:=
 List.countP_congr fun i hi=>by rw [h i (Kd.1 hi)]
theorem Nv(B:List Bool)(n:Nat)(J:n<=B.length):∀j,j<=n->(List.range n).countP (fun i=>decide (i<j)&&B.getD i false)=FB (B.take j)
 |0,_=>by simp [FB]
 |j+1,hj=>by
  have I:=Nv B n J j A0;have O:B.take (j+1)=B.take j++[B[j]]:=by rw [nc A0]
  have G:B.getD j false=B[j]:=by simp [BT (show j<B.length by omega)]
  rw [O];cases hb:B[j]with
  |true=>
   rw [QL n j (fun i=>decide (i<j)&&B.getD i false) _ A0 B4 (by simp only [G,hb];simp) (fun i _ K=>by
    have:decide (i<j)=decide (i<j+1):=by apply decide_eq_decide.2;omega
    simp only [this]),I]
   simp [FB]
  |false=>
   rw [LJ n (fun i=>decide (i<j)&&B.getD i false) _ (fun i _=>by
    by_cases e:i=j
    · subst e;simp only [G,hb];simp
    · have:decide (i<j)=decide (i<j+1):=by apply decide_eq_decide.2;omega
      simp only [this]),I]
   simp [FB]
structure Ik(ops:Array Oper)(fl:List Bool)(N:Nat):Prop where
 len:fl.length=ops.size
 edge:∀j oj e,ops[j]?=some oj->e∈oj.after->Region.binds .any e=true->e.on<j
 anc:∀j oj i,ops[j]?=some oj->i<j->((Region.before ops).getD j 0).testBit i=true->∃e∈oj.after,Region.binds .any e=true/\(e.on=i\/(i<e.on/\((Region.before ops).getD e.on 0).testBit i=true))
 apart:∀i j oi oj,ops[i]?=some oi->ops[j]?=some oj->i<j->oi.apart ops oj=true\/((Region.before ops).getD j 0).testBit i=true
 flags:∀i j oj,ops[j]?=some oj->i<j->fl.getD i false=true->fl.getD j false=true->((Region.before ops).getD j 0).testBit i=true
 sel:∀(j:Nat) (oj:Oper) (cs:Array SelectCase) (b:Bool),ops[j]?=some oj->oj.op≠ .select cs b
 room:∀(j:Nat) (oj:Oper) (d:Nat),ops[j]?=some oj->oj.dst=some d->d<N
theorem fM{ops:Array Oper}{fl:List Bool}{N:Nat}(h:TP ops fl N=true):Ik ops fl N:=by
 simp only [TP,G0,GO,Lq,Kd]at h;obtain ⟨h0,h⟩:=h;have G:∀{j:Nat} {o:Oper},ops[j]?=some o->j<ops.size:=fun B=>(HU.1 B).1
 refine ⟨h0,fun j oj e B U O=>?_,fun j oj i B hi O=>?_,fun i j K oj hi B I=>?_,fun i j oj B I W h2=>?_,fun j oj cs b B hs=>?_,fun j oj d B X=>?_⟩
 · have:=h j (G B)
   simp only [B,G0,Lq]at this;have:=this.1.1.1 e (by simpa using U)
   simpa [O]using this
 · have:=h j (G B)
   simp only [B,G0,Lq,Kd]at this;have:=this.1.1.2 i hi
   obtain ⟨K,J⟩:∃K,ops[i]?=some K:=⟨_,HP (by have:=G B;omega)⟩;simp only [J,G0]at this;have:=this.1.1
   rw [O]at this;simp only [S4,mx,mc,G0,S3,beq_iff_eq,GO]at this;obtain ⟨e,U,O,Z⟩:=this;exact ⟨e,by simpa using U,O,Z⟩
 · have:=h j (G B)
   simp only [B,G0,Lq,Kd]at this;have:=this.1.1.2 i I
   simp only [hi,G0,S3]at this;exact this.1.2
 · have:=h j (G B)
   simp only [B,G0,Lq,Kd]at this;have:=this.1.1.2 i I
   obtain ⟨K,J⟩:∃K,ops[i]?=some K:=⟨_,HP (by have:=G B;omega)⟩;simp only [J,G0]at this;have:=this.2
   rw [W,h2]at this;simpa using this
 · have:=h j (G B)
   simp only [B,G0]at this;rw [hs]at this;simp at this
 · have:=h j (G B)
   simp only [B,G0]at this;rw [X]at this;simpa using this.2
def iO(ops:Array Oper)(L:Array Bool):Prop:=∀j oj,ops[j]?=some oj->L.getD j false=true->∀e∈oj.after,Region.binds .any e=true->L.getD e.on false=true
theorem Fz{ops:Array Oper}{fl:List Bool}{N:Nat}(F:Ik ops fl N){L:Array Bool}(hL:iO ops L):∀(j i:Nat) (oj:Oper),ops[j]?=some oj->i<j->((Region.before ops).getD j 0).testBit i=true->
 (∀e∈oj.after,Region.binds .any e=true->L.getD e.on false=true)->L.getD i false=true:=by
 intro j;induction j using Nat.strongRecOn with
 |ind j ih=>
  intro i oj W hi hb Z;obtain ⟨e,O,B,G⟩:=F.anc j oj i W hi hb;rcases G with rfl|⟨hie,G⟩
  · exact Z e O B
  · have X:=F.edge j oj e W O B
    obtain ⟨J,I⟩:∃J,ops[e.on]?=some J:=⟨_,HP (by have:=(HU.1 W).1;omega)⟩;exact ih e.on X i J I hie G (fun e' U K=>hL e.on J I (Z e O B) e' U K)
theorem LD{ops:Array Oper}{o:Oper}{a b:Act}(h:∀t∈o.looksAt ops,a.tmps[t]?=b.tmps[t]?):∀x∈o.op.operands,a.eval x=b.eval x:=by
 intro x G;cases x with
 |tmp t=>
  have B:t∈o.looksAt ops:=Ek _ (bj.2 ⟨.tmp t,by simpa using G,rfl⟩);have:=h t B
  simp only [Act.eval,LO,this]
 |_=>rfl
theorem Gn{ops:Array Oper}{o:Oper}{a b:Act}(h:∀t∈o.looksAt ops,a.tmps[t]?=b.tmps[t]?):Region.wanted o (yielded ops a.tmps)=Region.wanted o (yielded ops b.tmps):=by
 unfold Region.wanted;cases hg:o.guard with
 |none=>rfl
 |some gw=>
  obtain ⟨g,B⟩:=gw;have G:yielded ops a.tmps g=yielded ops b.tmps g:=by
   unfold yielded;cases ht:(ops[g]?).bind (·.dst)with
   |none=>rfl
   |some t=>
    have:=h t (by simp [Oper.looksAt,hg,ht]);simp [this]
  simp only [G]
theorem ZF{P:Program}{ops:Array Oper}{i:Nat}{o:Oper}{a b:Act}{v:A4}{R:AD->Prop}{w:AD}{Q:Exit->Act->AD->Prop}{K:Act->AD->Prop}
 (hi:ops[i]?=some o)(I:∀cs b,o.op≠ .select cs b)(U:∀t∈o.looksAt ops,a.tmps[t]?=b.tmps[t]?)
 (h:M9 P ops o b v R w)(J:∀G,R G->K (a.put o.dst v) G):wpOp P ops Q i K a w:=by
 have B:=h (fun u G=>u=v/\R G) (fun G O=>⟨rfl,O⟩);unfold wpOp;simp only [hi];rw [Gn U];by_cases O:Region.wanted o (yielded ops b.tmps)=true
 · rw [Ax O]at B⊢
   refine .inl ?_;unfold Oper.wp;rw [execOp_congr o I (LD U)];generalize (execOp b.eval o).run P w=r at*;cases r with
   |ok n G=>
    cases n<;>simp only [Oper.upon,linUpon]at B⊢
    case value u=>rw [B.1];exact J _ B.2
    case skip=>rw [B.1];exact J _ B.2
    case enter f args=>
     refine Calls.mono B fun e af X=>?_;obtain ⟨u,rfl,Z,W⟩:=X;simp only;rw [Z];exact J _ W
   |halt x G=>simp only [linUpon]at B
 · rw [As O]at B⊢
   rw [B.1];exact J _ B.2
section
variable{P:Program}{ops:Array Oper}{fl:List Bool}{N:Nat}{S:Nat->AD->Prop}{Q:Exit->Act->AD->Prop}{x:List (Oper×A4)}{a0:Act}
structure Js(ops:Array Oper)(fl:List Bool)(S:Nat->AD->Prop)(x:List (Oper×A4))(a0:Act)(L:Array Bool)(a:Act)(w:AD):Prop where
 size:L.size=ops.size
 shut:iO ops L
 act:a=KQ (fun i=>L.getD i false) 0 x a0
 stage:S ((List.range ops.size).countP fun i=>L.getD i false&&fl.getD i false) w
theorem tZ(F:Ik ops fl N)(hx:x.map (·.1)=ops.toList)
 (hs:∀j o v,x[j]?=some (o,v)->(fl.getD j false=true->∀w,S (FB (fl.take j)) w->M9 P ops o (pre j x a0) v (S (FB (fl.take j)+1)) w)/\
   (fl.getD j false=false->∀i w,S i w->M9 P ops o (pre j x a0) v (S i) w))
 {L:Array Bool}{a:Act}{w:AD}(H:Js ops fl S x a0 L a w){j:Nat}(hj:j∈Region.ready .any ops L){K:Act->AD->Prop}
 (hK:∀a' w',Js ops fl S x a0 (L.setIfInBounds j true) a' w'->K a' w'):wpOp P ops Q j K a w:=by
 obtain ⟨j3,oj,B,dn⟩:=mem_ready.1 hj;have Z:j<ops.size:=(HU.1 B).1
 have pq:x.length=ops.size:=by have:=congrArg List.length hx;simpa using this
 have j5:∀k,k<ops.size->∃o v,x[k]?=some (o,v)/\ops[k]?=some o:=fun k hk=>by
  obtain ⟨y,W⟩:∃y,x[k]?=some y:=⟨_,BT A0⟩;refine ⟨y.1,y.2,W,?_⟩;have:(x.map (·.1))[k]?=some y.1:=by simp [W]
  rw [hx]at this;simpa using this
 have l8:∀(k:Nat) (y:Oper×A4),x[k]?=some y->ops[k]?=some y.1:=fun k y W=>by
  have:(x.map (·.1))[k]?=some y.1:=by simp [W]
  rw [hx]at this;simpa using this
 obtain ⟨o',v,d9,l5⟩:=j5 j Z;obtain rfl:oj=o':=by rw [B]at l5;exact S2 l5
 have U:L.getD j false=false:=by
  rw [LO]at j3⊢;rw [HP (by rw [H.size];exact Z)]at j3⊢;simpa using j3
 have I:∀i,i<j->((Region.before ops).getD j 0).testBit i=true->L.getD i false=true:=fun i hi hb=>Fz F H.shut j i oj B hi hb dn;have J:∀i oi,ops[i]?=some oi->j<i->((Region.before ops).getD i 0).testBit j=true->L.getD i false=false:=fun i oi ax p9 hb=>by
  cases h:L.getD i false with
  |false=>rfl
  |true=>
   have:=Fz F H.shut i j oi ax p9 hb (fun e he p8=>H.shut i oi ax h e he p8);rw [U]at this;cases this
 have o9:∀(t:Nat),(t∈oj.looksAt ops\/oj.dst=some t)->∀(k:Nat) (y:Oper×A4),x[k]?=some y->y.1.dst=some t->k≠j->L.getD k false=decide (k<j):=by
  intro t O k y W X hk;have ic:=l8 k y W
  rcases FF k j with hlt|hge
  · rw [DG hlt]
    refine I k hlt ((F.apart k j y.1 oj ic B hlt).resolve_left fun gq=>?_);obtain ⟨h1,h2,h3⟩:=Oper.apart_spec gq;rcases O with O|O
    · exact h1 t X O
    · exact h2 t X O
  · have kv:j<k:=by omega
    rw [Cl A0];refine J k y.1 ic kv ((F.apart j k oj y.1 B ic kv).resolve_left fun gq=>?_);obtain ⟨h1,h2,h3⟩:=Oper.apart_spec gq;rcases O with O|O
    · exact h3 t X O
    · exact h2 t O X
 have cu:a.tmps.size=a0.tmps.size:=by rw [H.act,D8]
 have o8:(pre j x a0).tmps.size=a0.tmps.size:=by rw [<-RL j 0 x a0,D8]
 have af:∀t∈oj.looksAt ops,a.tmps[t]?=(pre j x a0).tmps[t]?:=by
  intro t O;by_cases cO:t<a0.tmps.size
  · rw [H.act,<-RL j 0 x a0,EE _ _ _ _ _ cO,EE _ _ _ _ _ cO]
    refine F6 _ _ t 0 x _ fun k y W X=>?_;simp only [D3];by_cases e:k=j;· subst e;rw [U];simp
    · exact o9 t (.inl O) k y W X e
  · rw [ID (by rw [cu];exact fL cO),ID (by rw [o8];exact fL cO)]
 have G:∀i,(L.setIfInBounds j true).getD i false=if i=j then true else L.getD i false:=fun i=>by
  by_cases e:i=j
  · subst e;simp [H.size,Z]
  · rw [getD_set_ne false (dt e),As e]
 have gm:∀w',(∀k,k=((List.range ops.size).countP fun i=>(L.setIfInBounds j true).getD i false&&fl.getD i false)->S k w')->Js ops fl S x a0 (L.setIfInBounds j true) (a.put oj.dst v) w':=by
  intro w' bn;refine ⟨by simp [H.size],fun k ok hk hl e he hb=>?_,?_,bn _ V⟩
  · rw [G]at hl
    rw [G];by_cases e1:k=j
    · subst e1
      rw [B]at hk;obtain rfl:=S2 hk;rw [dn e he hb];simp
    · rw [As e1]at hl
      rw [H.shut k ok hk hl e he hb];simp
  · refine J7 ?_ ?_ fun t O=>?_
    · rw [EG,D8,cu]
    · rw [Jf,FJ,H.act,FJ]
    · rw [EG,cu]at O
      rw [Iy _ _ _ _ (by rw [cu];exact O),EE _ _ _ _ _ O];by_cases X:oj.dst=some t
      · rw [Ax X]
        refine (iX _ t 0 j x _ (oj,v) d9 X (by simp [H.size,Z]) fun k y hk W gy=>?_).symm;simp only [D3];rw [G,As A0,o9 t (.inr X) k y W gy A0];simp;omega
      · rw [As X,H.act,EE _ _ _ _ _ O]
        refine F6 _ _ t 0 x _ fun k y W gy=>?_;simp only [D3];rw [G];by_cases e:k=j
        · subst e
          rw [d9]at W;obtain rfl:=S2 W;exact absurd gy X
        · rw [As e]
 cases hf:fl.getD j false with
 |false=>
  refine ZF B (F.sel j oj · · B) af ((hs j oj v d9).2 hf _ w H.stage) fun w' bn=>hK _ _ (gm w' fun k hk=>?_);rw [hk,LJ ops.size (fun i=>L.getD i false&&fl.getD i false) _ fun i _=>by
   rw [G];by_cases e:i=j;· subst e;simp only [hf];simp
   · rw [As e]]
  exact bn
 |true=>
  have ek:((List.range ops.size).countP fun i=>L.getD i false&&fl.getD i false)=FB (fl.take j):=by
   rw [<-Nv fl ops.size (by rw [F.len];exact CI _) j A0];refine LJ _ _ _ fun i hi=>?_;cases hfi:fl.getD i false with
   |false=>simp
   |true=>
    simp only [Bool.and_true];rcases Nat.lt_trichotomy i j with h|h|h
    · rw [I i h (F.flags i j oj B h hfi hf)];simp [h]
    · subst h;rw [U];simp
    · obtain ⟨oi,ax⟩:∃oi,ops[i]?=some oi:=⟨_,HP hi⟩
      rw [J i oi ax h (F.flags j i oi ax h hf hfi)];simp;omega
  have l9:=H.stage;rw [ek]at l9;refine ZF B (F.sel j oj · · B) af ((hs j oj v d9).1 hf w l9) fun w' bn=>hK _ _ (gm w' fun k hk=>?_);rw [hk,QL ops.size j (fun i=>L.getD i false&&fl.getD i false) _ Z (by simp only [U];rfl) (by simp only [G,hf];simp) (fun i _ pg=>by rw [G,As pg]),ek];exact bn
theorem XJ(F:Ik ops fl N)(hx:x.map (·.1)=ops.toList)
 (hs:∀j o v,x[j]?=some (o,v)->(fl.getD j false=true->∀w,S (FB (fl.take j)) w->M9 P ops o (pre j x a0) v (S (FB (fl.take j)+1)) w)/\
   (fl.getD j false=false->∀i w,S i w->M9 P ops o (pre j x a0) v (S i) w))
 (hq:∀w,S (FB (fl.take ops.size)) w->Q .normal (pre ops.size x a0) w):
 ∀(B:Nat) (L:Array Bool) (a:Act) (w:AD),((List.range ops.size).countP fun i=>!L.getD i false)<=B->Js ops fl S x a0 L a w->wpAny P .any ops Q B L a w:=by
 have U:∀(L:Array Bool) (a:Act) (w:AD),Js ops fl S x a0 L a w->Region.ready .any ops L=[]->Q .normal a w:=by
  intro L a w H W;have O:∀j,j<ops.size->L.getD j false=true:=by
   intro j;induction j using Nat.strongRecOn with
   |ind j ih=>
    intro X;cases hl:L.getD j false with
    |true=>rfl
    |false=>
     obtain ⟨oj,J⟩:∃oj,ops[j]?=some oj:=⟨_,HP X⟩;have:j∈Region.ready .any ops L:=mem_ready.2 ⟨by
      rw [LO,HP (by rw [H.size];exact X)]at hl⊢;simpa using hl,oj,J,fun e he hb=>by
       have:=F.edge j oj e J he hb;exact ih e.on this A0⟩
     rw [W]at this;cases this
  have bn:x.length=ops.size:=by have:=congrArg List.length hx;simpa using this
  have ha:a=pre ops.size x a0:=by
   rw [H.act,<-RL ops.size 0 x a0];have Z:∀(t:Nat) (k:Nat) (y:Oper×A4),x[k]?=some y->y.1.dst=some t->(fun i=>L.getD i false) (0+k)=(fun k=>decide (k<0+ops.size)) (0+k):=fun t k y hy _=>by
    have:k<x.length:=(C4.1 hy).1;simp only [D3];rw [O k A0];simp;omega
   refine J7 (by rw [D8,D8]) (by rw [FJ,FJ]) fun t ht=>?_;rw [D8]at ht;rw [EE _ _ _ _ _ ht,EE _ _ _ _ _ ht];exact F6 _ _ t 0 x _ (Z t)
  rw [ha];refine hq w ?_;have ax:=H.stage
  rw [<-Nv fl ops.size (by rw [F.len];exact CI _) ops.size (CI _)];rw [LJ ops.size (fun i=>L.getD i false&&fl.getD i false) _ fun i hi=>by rw [O i hi];simp [hi]];exact ax
 intro B;induction B with
 |zero=>
  intro L a w hc H;have W:Region.ready .any ops L=[]:=by
   cases W:Region.ready .any ops L with
   |nil=>rfl
   |cons j js=>
    have X:j∈Region.ready .any ops L:=by rw [W];exact E0 ..
    obtain ⟨G,oj,J,_⟩:=mem_ready.1 X;have I:j<ops.size:=(HU.1 J).1
    have K:L.getD j false=false:=by
     rw [LO]at G⊢;rw [HP (by rw [H.size];exact I)]at G⊢;simpa using G
    have:0<(List.range ops.size).countP fun i=>!L.getD i false:=List.countP_pos_iff.2 ⟨j,Kd.2 I,by rw [K];rfl⟩;omega
  exact ⟨W,U L a w H W⟩
 |succ B ih=>
  intro L a w hc H;refine ⟨fun W=>U L a w H W,fun j X=>tZ F hx hs H X fun a' w' H'=>ih _ a' w' ?_ H'⟩;obtain ⟨G,oj,J,_⟩:=mem_ready.1 X;have I:j<ops.size:=(HU.1 J).1
  have K:L.getD j false=false:=by
   rw [LO]at G⊢;rw [HP (by rw [H.size];exact I)]at G⊢;simpa using G
  have:=QL ops.size j (fun i=>!(L.setIfInBounds j true).getD i false) (fun i=>!L.getD i false) I (by simp [H.size,I]) (by rw [K];rfl) (fun i _ af=>by rw [getD_set_ne false (dt af)]);omega
end
theorem wpLin_keep{P:Program}{ops:Array Oper}{S:Nat->AD->Prop}{Q:Act->AD->Prop}{a:Act}{k:Nat}{o:Oper}{l:List Oper}{B:List Bool}{env:List (Nat×A4)}{v:A4}(h:∀j w,S j w->ZG P ops o a env v (S j) w)(h2:N9 P ops S Q a k l B (putE o.dst v env)):N9 P ops S Q a k (o::l) (false::B) env:=⟨v,h,h2⟩
theorem wpLin_move{P:Program}{ops:Array Oper}{S:Nat->AD->Prop}{Q:Act->AD->Prop}{a:Act}{k:Nat}{o:Oper}{l:List Oper}{B:List Bool}{env:List (Nat×A4)}{v:A4}(h:∀w,S k w->ZG P ops o a env v (S (k+1)) w)(h2:N9 P ops S Q a (k+1) l B (putE o.dst v env)):N9 P ops S Q a k (o::l) (true::B) env:=⟨v,h,h2⟩
theorem wpLin_done{P:Program}{ops:Array Oper}{S:Nat->AD->Prop}{Q:Act->AD->Prop}{a:Act}{k:Nat}{env:List (Nat×A4)}{B:List Bool}(h:∀w,S k w->Q (putsE env a) w):N9 P ops S Q a k [] B env:=h
theorem wp_region_lin{P:Program}{id:Nat}{ops:Array Oper}{Q:Exit->Act->AD->Prop}{a:Act}{w:AD}(fl:List Bool)(S:Nat->AD->Prop)(N:Nat)(U:a.tmps.size=N)
 (Z:P.follows .mixedOrders=true)(G:TP ops fl N=true)(W:S 0 w.drew)(h:∀J,J=a->N9 P ops S (fun a w=>Q .normal a w) J 0 ops.toList fl []):(Code.region id ops true).wp P Q a w:=by
 have F:=fM G;obtain ⟨x,I,hs,hq⟩:=RY _ _ _ _ (fun o ho d X=>by
  obtain ⟨j,B⟩:=List.mem_iff_getElem?.1 ho;rw [U];exact F.room j o d (by simpa using B) X) (fun x I=>by cases I) (h a V)
 refine wp_region_any Z (XJ (S:=S) (a0:=a) F I (fun j o v B=>?_) ?_ _ _ _ _ ?_ ?_)
 · have:=hs j o v B
   simpa [putsE]using this
 · simpa [putsE]using hq
 · refine Q1 List.countP_le_length ?_
   simp
 · refine ⟨by simp,fun j oj B K=>?_,?_,?_⟩
   · simp [ia]at K
     split at K<;>simp_all
   · have:=RL 0 0 x a
     refine J7 (by rw [D8]) (by rw [FJ]) fun t O=>?_;rw [EE _ _ _ _ _ O];rw [F6 _ (fun k=>decide (k<0+0)) t 0 x _ fun k y _ _=>by simp [ia];split<;>rfl];rw [<-EE _ _ _ _ _ O,this];rfl
   · have:((List.range ops.size).countP fun i=>(Array.replicate ops.size false).getD i false&&fl.getD i false)=0:=by
      rw [List.countP_eq_zero];intro i _;simp [ia];split<;>simp
     rw [this];exact W
end Gl
namespace Gw
open Go Go.RowKit Go.Sort
theorem aQ{α:Type}(f:α->List A4)(k:Nat)(B:∀x,(f x).length=k):∀(l:List α) (i r:Nat) (a:α),l[i]?=some a->r<k->(l.flatMap f)[i*k+r]?=(f a)[r]?
 |[],i,r,a,h,_=>by simp at h
 |x::l,0,r,a,h,hr=>by
  simp only [aw,Wk]at h;subst h;rw [HW,ff,D3,Wa (by rw [B];exact hr)]
 |x::l,i+1,r,a,h,hr=>by
  simp only [ar]at h;rw [HW,RM (by rw [B,Kf];omega),B,show(i+1)*k+r -k=i*k+r by rw [Kf];omega];exact aQ f k B l i r a h hr
theorem aP{α:Type}(f:α->List A4)(k:Nat)(B:∀x,(f x).length=k):∀(l:List α),(l.flatMap f).length=l.length*k
 |[]=>by simp
 |x::l=>by rw [HW,Bm,aP f k B l,B,E3,Kf];omega
theorem Ns{α:Type} [Inhabited α](f:α->List A4)(k:Nat)(B:∀x,(f x).length=k)(l:List α):(flatK f k l.toArray).toList=l.flatMap f:=by
 apply Mb;intro t;by_cases G:t<l.length*k
 · have K:0<k:=by
    rcases PB k with h|h
    · subst h;simp at G
    · exact h
   have I:t/k<l.length:=o4 (by rwa [my]at G);have h2:t%k<k:=fh _ K
   have e:=aQ f k B l (t/k) (t%k) l[t/k] (BT I) h2;rw [Nat.div_add_mod' t k]at e;rw [e];have J:t%k<(f l[t/k]).length:=by rw [B];exact h2
   unfold flatK;rw [HQ];simp [G,I,J]
 · rw [MT Hi,MT (by rw [aP f k B];omega)]
theorem Td{α:Type} [Inhabited α]{w:AD}{g:Nat}{cur:AK}{e:AM}{z:Nat×Nat}(f:α->List A4)(k:Nat)(O:∀x,(f x).length=k)(l:List α)(K:w.heap[g]?=some (.cells cur e z))(U:l.length*k<=cur.size)(B:Ie z cur.size)(W:cur.toList.take (l.length*k)=l.flatMap f):HoldsK f k w g 0 l.toArray:=by
 intro j G;have I:j<l.length*k:=by simpa using G
 have X:=B j A0;have h0:=Ns f k O l
 have J:(cur.toList.take (l.length*k))[j]?=(flatK f k l.toArray).toList[j]?:=by rw [W,h0]
 rw [lP I,HQ,HQ]at J;refine ⟨?_,?_⟩
 · simp only [World.cell?,K,D3]
   simp only [oE,N0,HT];rw [J,HP G,getElem!_pos _ j G];rfl
 · simp only [World.frozen?,K,D3]
   simp;omega
theorem VN(cur F:AK)(h:F.size<=cur.size):(putCells id 0 F cur).toList.take F.size=F.toList:=by
 apply Mb;intro j;rw [HI];by_cases B:j<F.size
 · rw [Ax B,HQ]
   unfold putCells;rw [nq,HP A0];simp [B]
 · rw [As B,MT Hi]
theorem Mg(cur F:AK):(putCells id 0 F cur).size=cur.size:=by simp [putCells]
theorem Sat.sortedK{α:Type} [Inhabited α]{u w:AD}{g n k:Nat}{cur:AK}{e:AM}{z:Nat×Nat}{R:Hp}(f:α->List A4)(d:Array α)(os:Array Obj)(h:Sat u ([(g,.cells cur e z)]::R) w):Sat u ([(g,.cells (putCells id 0 (flatK f k d) cur) e z)]::R) (Go.Proofs.sortWorldK f k w g 0 n d os):=by
 have I:=h.get (g,.cells cur e z) B4;have G:Sat u ([(g,.cells (putCells id 0 (flatK f k d) cur) e z)]::R) (putRowK f k (Sort.ahead w n) g 0 d):=by
  refine h.upd (.here _) V rfl V ?_ fun k B=>?_;· simp [putRowK,putRow,mapBlock,Sort.ahead,Sf,I,onCells]
  · have:g≠k:=fun e=>B e.symm
    simp [putRowK,putRow,mapBlock,Sort.ahead,Sf,this]
 exact G.below ⟨V,V,V,by simp [Go.Proofs.sortWorldK,grow],fun k B=>heap_grow_old _ _ B⟩
theorem Pe{α:Type} [Inhabited α](f:α->List A4)(k:Nat)(w:AD)(g n b:Nat)(d:Array α)(os:Array Obj)(B:g≠b)(I:b<w.heap.size):(Go.Proofs.sortWorldK f k w g 0 n d os).heap[b]?=w.heap[b]?:=by
 have G:(putRowK f k (Sort.ahead w n) g 0 d).heap[b]?=w.heap[b]?:=by
  simp [putRowK,putRow,mapBlock,Sort.ahead,Sf,B]
 unfold Go.Proofs.sortWorldK;rw [<-G];refine heap_grow_old _ _ ?_;simpa [putRowK,putRow,mapBlock,Sort.ahead]using I
end Gw
namespace Gw
open Go Go.RowKit
section
variable{P:Program}{u:AD}{env:Env}{H R:Hp}{d:Option Nat}{ty:AM}{pos:String}{af:Array Edge}{g:Option (Nat×Bool)}
def w8(t1 t2 k1 k2:Int)(x y:V3):Prop:=t1=t2/\k1=k2/\x=y
instance(t1 t2 k1 k2:Int)(x y:V3):Decidable (w8 t1 t2 k1 k2 x y):=inferInstanceAs(Decidable (_/\_/\_))
section
variable{t yt e ta:AM}{f0 f1 f2:Field}{x y:Operand}{t1 t2 k1 k2:Int}{p q:V3}
end
end
theorem Gx{P:Program}{f:FuncId}{args:AK}{H H1:Hp}{Q I:A4->Hp->Prop}(h:BR P f args H Q)(U:H1.flatten=H.flatten)(W:∀v H',Q v H'->∃B,I v B/\B.flatten.Perm H'.flatten):BR P f args H1 I:=fun u R w X=>
 Calls.mono (h u R w (X.sub ⟨[],by simp [U]⟩)) fun e Z O=>by
  rcases O with⟨v,H',rfl,G,h2⟩|⟨ch,H',rfl,G,h2⟩
  · obtain ⟨B,J,K⟩:=W v H' G
    refine .inl ⟨v,B,V,J,h2.perm ?_⟩;rw [HB,HB];exact K.symm.append_right _
  · exact G.elim
section
variable{P:Program}{ops:Array Oper}{A:List Nat}{F:Nat}{cx:Cx}{Q:Exit->Act->AD->Prop}{n D:Nat}{T:List (Nat×A9)}{env:Env}{H:Hp}
theorem Cc{d:Nat}{I:Op}{ty:AM}{pos:String}{af:Array Edge}{v:A4}{b:Nat}{x:Obj}{D':Nat}(i:Nat)(O:ops[i]?=some ⟨some d,I,ty,pos,af,none⟩)(B:(!bit F i&&!bit D i&&F4 (A.getD i 0) D)=true)(J:D|||(1<<<i)=D')(K:(b,x)∈H.flatten)(G:OpP P ⟨some d,I,ty,pos,af,none⟩ env [(b,x)] v)
 (k:Lin P ops A F cx Q n D' ((i,(b,x))::T) ((d,v)::env) H):Lin P ops A F cx Q (n+1) D T env H:=by
 simp only [G0,Sx]at B;subst J;exact .inl ⟨i,_,v,[(b,x)],O,B.1.2,B.2,by simpa using K,.inl ⟨fun _=>rfl,G⟩,k⟩
theorem Iz{d:Nat}{I:Op}{ty:AM}{pos:String}{af:Array Edge}{g:Nat×Bool}{v:A4}{b:Nat}{x:Obj}{D':Nat}(i:Nat)(O:∀a,wantedE ops a env (some g)=true)(U:ops[i]?=some ⟨some d,I,ty,pos,af,some g⟩)(B:(!bit F i&&!bit D i&&F4 (A.getD i 0) D)=true)(J:D|||(1<<<i)=D')(K:(b,x)∈H.flatten)(G:OpP P ⟨some d,I,ty,pos,af,some g⟩ env [(b,x)] v)
 (k:Lin P ops A F cx Q n D' ((i,(b,x))::T) ((d,v)::env) H):Lin P ops A F cx Q (n+1) D T env H:=by
 simp only [G0,Sx]at B;subst J;exact .inl ⟨i,_,v,[(b,x)],U,B.1.2,B.2,by simpa using K,.inl ⟨O,G⟩,k⟩
theorem Ev{i b:Nat}{x:Obj}(h:(b,x)∈H.flatten)(G:∀p∈T,p.2∈H.flatten):∀p∈((i,(b,x))::T),p.2∈H.flatten:=by
 intro p B;rcases DB.1 B with rfl|B
 · exact h
 · exact G p B
end
theorem L6{cx:Cx}{E:Env->Hp->Prop}{env e:Env}{H Hn:Hp}{Q:Exit->Act->AD->Prop}(B:E e Hn):Nx cx ((Exit.then (fun a w=>∃e Hn,E e Hn/\Is cx (e++env) (Hn++H) a w) Q) .normal) (e++env) (Hn++H):=fun a _ G=>⟨e,Hn,B,a,G,rfl⟩
section
variable{F:Fence}{n:Nat}{P:Program}{Q:Exit->Act->AD->Prop}{a:Act}{w:AD}{b:Frame}{k:List Item}{cs:List Frame}
theorem Gf{c:Code}:step P (lone (b.atR a (.code (.scope c)::k)) cs w)= .next (lone (b.atR a (.code c:: .inScope c::k)) cs w):=
 step_lone_go (by simp [stepG,stepG.exec,Frame.atR])
theorem UM{c:Code}:step P (lone (b.atR a (.inScope c::k)) cs w)= .next (lone (b.atR a k) cs w):=
 step_lone_go (by simp [stepG,stepG.exec,Frame.atR])
theorem bU{c:Code}(h:c.wpIn F n P (Exit.noGoto Q) a w):(Code.scope c).wpIn F n P Q a w:=by
 intro b k cs X K U;have h0:(lone (b.atR a (.code (.scope c)::k)) cs w).fenced P F:=fenced_calm K U rfl
 obtain ⟨e,I,J,G,B⟩:=h b (.inScope c::k) cs X K U;cases e with
 |normal=>exact ⟨.normal,I,J,G,.head h0 Gf (StepsIn.trans B (.one (fenced_calm K U rfl) UM))⟩
 |exit id'=>
  have Z:exitTo id' (.inScope c::k)=exitTo id' k:=by simp [exitTo]
  exact ⟨.exit id',I,J,G,fun k' O=> .head h0 Gf (B.1 k' (by rw [Z];exact O)),
   fun W O=>let⟨k₁,h1,h2⟩:=B.2 W (by rw [Z];exact O);⟨k₁,h1,.head h0 Gf h2⟩⟩
 |goto l=>exact G.elim
 |ret=>exact ⟨_,I,J,G,.of_steps (.one h0 Gf) B⟩
 |panic ch=>exact ⟨_,I,J,G,.of_steps (.one h0 Gf) B⟩
 |outgrown=>exact ⟨_,I,J,G,.of_steps (.one h0 Gf) B⟩
end
section
variable{P:Program}{cx:Cx}{Q:Exit->Act->AD->Prop}{env:Env}{H:Hp}
theorem bH{c:Code}(h:At P cx c (Exit.noGoto Q) env H):At P cx (.scope c) Q env H:=fun a w B=>bU (h a w B)
theorem Kz(h:Nx cx (Q .ret) env H):Nx cx (Exit.noGoto Q .ret) env H:=h
end
def WP{α:Type}(P:Program)(gf:FuncId)(lb:AK)(Hit Hk:Hp)(Enc:α->AK->List A9->Prop)(xs:List α):Prop:=
 ∀(l:Nat) (J:List α->List A9->Prop),(∀pre x post s vs sx,xs=pre++x::post->J pre s->Enc x vs sx->GH P l vs [sx,s] (fun v H'=>∃s',v= .bool true/\H'=[s']/\J (pre++[x]) s'))->
  ∀s,J [] s->BR P gf (#[.func (.yield l) #[] #[]]++lb) (Hit++(Hk++[s])) (fun _ H'=>∃s',H'=Hk++[s']/\J xs s')
theorem Xl{α:Type}{P:Program}{cx:Cx}{Q:Exit->Act->AD->Prop}{env:Env}{H af Hk H0 R:Hp}{g:Operand}{ps:Array Tmp}{B U:Code}{gf:FuncId}{lb:AK}{Enc:α->AK->List A9->Prop}{xs:List α}
 (I:List α->Hp->Prop)(E:α->AK->List A9->Env->Hp->Prop)(hr:cx.r=none)(hg:∀a,ev a env g= .func (.func gf) #[] lb)(X:∀(args:AK) (w:AD),(callFunc gf args).run P w= .ok (.enter gf args) w)
 (Z:WP P gf lb af Hk Enc xs)(bn:∀x vs G,Enc x vs G->vs.size=ps.size)(ax:(ps.toList.all fun t=>Nat.blt t cx.N)=true)(hp:Ex (af++(Hk++H0)) H R)(h0:I [] H0)
 (O:∀(l:Nat) (x:α) (vs:AK) (G:List A9) (u:AD) (H:Hp),Enc x vs G->At P ⟨cx.N,[],u,some l⟩ B (Exit.then (fun a w=>∃e Hn,E x vs G e Hn/\Is ⟨cx.N,[],u,some l⟩ (e++env) (Hn++H) a w) (fun _ _ _=>False)) ((ps.toList.zip vs.toList).reverse++env) H)
 (W:∀(l:Nat) (pre:List α) (x:α) (post:List α) (u:AD) (vs:AK) (G:List A9) (e:Env) (Hn H1 R1:Hp),xs=pre++x::post->I pre H1->Enc x vs G->E x vs G e Hn->At P ⟨cx.N,[],u,some l⟩ U (Ic u I (pre++[x]) R1) (e++env) (H1++(G::(Hn++R1))))
 (hk:∀(D:Nat) (H2:Hp),I xs H2->Nx ⟨cx.N,⟨.collected D,#[]⟩::cx.D,cx.u,none⟩ (Q .normal) env ([(D,.deferred (some []))]::(Hk++(H2++R)))):At P cx (.rangeFunc g ps B U) Q env H:=
 Mv (A:=fun _ _=>True) (St:=False) (Adm:=fun p=>∃post,xs=p++post) (Full:=fun ys=>ys=xs) I (fun _ _=>False) E hr hg X (fun l J Jx _ hX hy s h9=>(Z l J (fun pre x post s vs G hx hj he u R w hs K Kp hK=>hy pre x s vs G ⟨post,by rw [hx,CT];rfl⟩ hj he u R w hs K Kp fun v H' w' ⟨s',h1,h2⟩ h4=>h2.elim (fun h=>hK v H' w' ⟨s',h.1,h1,h.2⟩ h4) fun h=>(hX _ _ h.2).elim) s h9).mono (by rintro v H' ⟨s',h1,h2⟩;exact ⟨s',h1,.inl ⟨xs,rfl,h2⟩⟩)) (fun _ _ h=>h) (fun _ _ _ _ _=>trivial) bn ax hp h0 O
  (fun l pre x u vs G e Hn H1 R1 r0 ⟨post,hx⟩ hI he hE=>Po (W l pre x post u vs G e Hn H1 _ (by rw [hx,CT];rfl) hI he hE)) (fun D ys H2 hf hI=>by rw [hf]at hI;exact hk D H2 hI) fun _ _ _ h=>h.elim
section
variable{P:Program}{env:Env}{d:Option Nat}{ty:AM}{pos:String}{af:Array Edge}{g:Option (Nat×Bool)}
theorem Q7{x y:Operand}{Ts:Array AM}{k:IntKind}{m n:Int}(B:∀a,ev a env x= .int k m)(G:∀a,ev a env y= .int k n):OpP P ⟨d,.call ⟨.builtin .max,#[x,y],Ts⟩,ty,pos,af,g⟩ env [] (.int k (max m n)):=fun a w _=>by
 simp [Dz,resolve,invoke,builtin,B a,G a,Builtin.max_,Builtin.max2];by_cases h:m<n;· simp [h,show max m n=n by omega]
 · simp [h,show max m n=m by omega]
theorem eZ{x y:Operand}{Ts:Array AM}{k:IntKind}{m:Nat}(B:∀a,ev a env x= .int k ((m:Int) -1))(G:∀a,ev a env y= .int k 0):OpP P ⟨d,.call ⟨.builtin .max,#[x,y],Ts⟩,ty,pos,af,g⟩ env [] (.int k ((m -1:Nat):Int)):=by
 have h:=Q7 (P:=P) (d:=d) (ty:=ty) (pos:=pos) (af:=af) (g:=g) (Ts:=Ts) B G;rwa [show max ((m:Int) -1) 0=((m -1:Nat):Int) by omega]at h
end
def FM(M:List A9)(p:B8)(ys:List A4):Prop:=∀(j:Nat) (u:A4),ys[j]?=some u->∃g o c T z,p=some ⟨g,o,none⟩/\(g,Obj.cells c T z)∈M/\c[o+j]?=some u
theorem One.mem9{s:List A9}{H R:Hp}(h:One s H R):∀c∈s,c∈H.flatten:=by
 intro c hc;have:=h.perm.mem_iff (a:=c)
 rw [this];simp [hc]
section
variable{P:Program}{u:AD}{env:Env}{H R R2:Hp}{d:Option Nat}{ty:AM}{pos:String}{af:Array Edge}{g:Option (Nat×Bool)}
theorem HY{x y:Operand}{t e:AM}{i:TypeInfo}{z:A4}{by_ sz n k c:Nat}{v:A4}{p:B8}{xs ys:List A4}{s M:List A9}
 (ht:P.underlying t=some (.slice e))(hi:P.info? e=some i)(G:i.size=sz)(bn:i.bytes=by_)(ek:i.zero=some z)(dn:z.cells.size=sz)
 (hx:∀a,ev a env x=v)(B:Bd sz e v n xs s)(hy:∀a,ev a env y= .slice p k c)(J:FM M p ys)(hl:ys.length=k*sz)(h0:0<sz)(I:One s H R)(Z:One M R R2)(h1:∀u∈ys,u.oneCell'=true)
 (ax:n+k<=maxLen)(hb:(n+k)*by_<=140737488355328):
 OpW P u ⟨d,.call ⟨.builtin .append,#[x,y],#[t,t]⟩,ty,pos,af,g⟩ env H (fun v' H1=>∃s',Bd sz e v' (n+k) (xs++ys) s'/\H1=s'::R) (fun _ _=>False):=by
 rcases PB k with hk|hk
 · subst hk
   have d9:ys=[]:=Ln A0;subst d9;obtain ⟨b,c',rfl⟩:=B.form;have U:n<=c':=by
    obtain ⟨_,⟨hv,h0,_⟩|⟨_,_,_,_,hv,_,h2,_⟩⟩:=B;· omega
    · injection hv with _ _ hv3;omega
   intro a w X K Kp hK _;have cu:Sat u (s::R) w:=X.perm (by simpa using I.perm)
   have O:(Builtin.firstCells i.size 0 (.slice p 0 c)).run P w= .ok #[] w:=by
    cases p with
    |none=>simp [Builtin.firstCells]
    |some ad=>simp [Builtin.firstCells,loadCells,loadCellsFrom]
   have hr:(Builtin.append_ #[t,t] ty #[.slice b n c',.slice p 0 c]).run P w= .ok (.slice b n c') w:=by
    rw [G]at O;cases b with
    |none=>simp [Builtin.append_,run_underlying ht,Go.sizeOf,typeInfo,hi,G,Builtin.lenOf,U,O]
    |some ad=>simp [Builtin.append_,run_underlying ht,Go.sizeOf,typeInfo,hi,G,Builtin.lenOf,U,O,storeCells]
   have cO:(execOp (ev a env) ⟨d,.call ⟨.builtin .append,#[x,y],#[t,t]⟩,ty,pos,af,g⟩).run P w= .ok (.value (.slice b n c')) w:=by
    simp only [Dz,resolve,invoke,builtin,S0,Dd,JT,hx a,hy a,Sem.run_bind,Sem.run_pure,Result.andThen_ok,hr]
   rw [cO];exact hK _ _ _ ⟨s,by rw [D2];exact B,rfl⟩ cu
 · have W:0<ys.length:=by rw [hl];exact Nat.mul_pos hk h0
   obtain ⟨gb,o,_,_,_,rfl,_,_⟩:=J 0 _ (BT W);refine Ut ht hi G bn ek dn hx B hy I (fun w hs j v hj=>?_) hl h1 hk ax hb;obtain ⟨g',o',c1,T1,z1,e,hm,hc⟩:=J j v hj;injection e with e
   injection e with e1 e2
   subst e1 e2;rw [Ca];exact Cr (hs.get _ (Z.mem9 _ hm)) hc
theorem Oc{sz:Nat}{e:AM}{g k cap:Nat}{cur:AK}{z:Nat×Nat}{xs:List A4}(h:Bd sz e (I6 g k cap) k xs [(g,.cells cur e z)])(i:Nat)(v:A4):Bd sz e (I6 g k cap) k (xs.set i v) [(g,.cells (cur.setIfInBounds i v) e z)]:=by
 obtain ⟨hl,⟨h0,_⟩|⟨g',X,Z,z',hv,hs,J,B,G,W,I⟩⟩:=h;· cases h0
 · injection hv with hv1 _ hv3
   injection hv1 with hv1
   injection hv1 with hv1
   subst hv3;simp only [mm,jt,Obj.cells.injEq,ef,WD]at hs;obtain ⟨K,O,U⟩:=hs;subst K O U;refine ⟨by rw [dj];exact hl,.inr ⟨g,cap,_,z,rfl,rfl,J,B,by rw [SU];exact G,?_,by rw [SU];exact I⟩⟩;rw [iS,<-W,List.take_set]
end
theorem GR{c:AK}{i:Nat}{ys:List A4}(h:i+ys.length<=c.size):(EM c i ys).size=c.size:=by
 unfold EM;simp only [HC,Bm,CD,CH,Sh];omega
theorem ET{sz:Nat}{e:AM}{g k cap:Nat}{cur:AK}{z:Nat×Nat}{xs ys:List A4}{i:Nat}(h:Bd sz e (I6 g k cap) k xs [(g,.cells cur e z)])(hi:i+ys.length<=xs.length):
 Bd sz e (I6 g k cap) k (xs.take i++ys++xs.drop (i+ys.length)) [(g,.cells (EM cur i ys) e z)]:=by
 obtain ⟨hl,⟨G,_⟩|⟨g',U,W,z',G,h2,I,J,B,O,K⟩⟩:=h;· injection G with G;cases G
 injection G with h3 _ h4
 injection h3 with h3
 injection h3 with h3
 injection h2 with h2 _
 injection h2 with _ h2
 injection h2 with h5 _ h6
 subst h3 h4 h5 h6;have X:k*sz<=cap*sz:=Tr sz I
 have Z:cur.toList.length=cap*sz:=by rw [Sh,B]
 have e1:cur.toList=xs++cur.toList.drop (k*sz):=by rw [<-O,J0]
 refine ⟨?_,.inr ⟨g,cap,_,z,V,V,I,J,?_,?_,?_⟩⟩;· simp only [Bm,CD,CH];omega
 · rw [GR (by rw [B];omega),B]
 · show(EM cur i ys).toList.take (k*sz)=_
   unfold EM;show(cur.toList.take i++ys++cur.toList.drop (i+ys.length)).take (k*sz)=_
   have t1:cur.toList.take i=xs.take i:=by
    conv=>lhs;rw [e1]
    exact cJ A0
   have t2:cur.toList.drop (i+ys.length)=xs.drop (i+ys.length)++cur.toList.drop (k*sz):=by
    conv=>lhs;rw [e1]
    exact i6 A0
   rw [t1,t2,<-CT];refine HX ?_;simp only [Bm,CD,CH];omega
 · show Ie z (EM cur i ys).size
   rw [GR (by rw [B];omega)];exact K
theorem VJ{sz:Nat}{e:AM}{g k cap:Nat}{xs:List A4}{s:List A9}(h:Bd sz e (I6 g k cap) k xs s)(i:Nat)(hi:i<=k):Bd sz e (I6 g i cap) i (xs.take (i*sz)) s:=by
 obtain ⟨hl,⟨G,_⟩|⟨g',U,B,Z,G,rfl,X,I,J,O,K⟩⟩:=h;· injection G with G;cases G
 injection G with h3 _ h4
 injection h3 with h3
 injection h3 with h3
 subst h3 h4;have W:i*sz<=k*sz:=Tr sz hi
 refine ⟨by rw [CD];omega,.inr ⟨g,cap,B,Z,rfl,rfl,by omega,I,J,?_,K⟩⟩;rw [<-O,V0,N3 W]
theorem Jc{sz:Nat}{e:AM}{g k cap:Nat}{cur:AK}{z:Nat×Nat}{xs:List A4}(h:Bd sz e (I6 g k cap) k xs [(g,.cells cur e z)]):Bz cur 0 xs/\cur.size=cap*sz/\k<=cap/\cap<=maxLen/\Ie z cur.size:=by
 obtain ⟨X,⟨B,_⟩|⟨Z,U,W,z',B,h2,K,G,I,O,J⟩⟩:=h;· injection B with B;cases B
 injection B with h3 _ h4
 injection h2 with h2 _
 injection h2 with _ h2
 injection h2 with h5 _ h6
 subst h4 h5 h6;exact ⟨by unfold Bz;rw [Pr,X];exact O,I,K,G,J⟩
theorem VI{sz:Nat}{e:AM}{g k cap:Nat}{cur:AK}{z:Nat×Nat}{xs:List A4}(h:Bd sz e (I6 g k cap) k xs [(g,.cells cur e z)])(m:Nat)(Z:k<=m)(I:m<=cap):∃ys,ys.length=(m -k)*sz/\Bd sz e (I6 g m cap) m (xs++ys) [(g,.cells cur e z)]:=by
 obtain ⟨G,B,W,J,K⟩:=Jc h;have U:=h.1
 have X:m*sz<=cap*sz:=Tr sz I;have h2:k*sz+(m -k)*sz=m*sz:=by rw [<-Kf];congr 1;omega
 unfold Bz at G;rw [Pr,U]at G;refine ⟨(cur.toList.drop (k*sz)).take ((m -k)*sz),by rw [CD,CH,Sh,B];omega,?_,.inr ⟨g,cap,cur,z,rfl,rfl,I,J,B,?_,K⟩⟩
 · have O:cur.toList.length=cap*sz:=by rw [Sh,B]
   rw [Bm,CD,CH,O,U];omega
 · conv=>rhs;rw [<-G]
   rw [<-h2,List.take_add]
theorem J5{c:AK}{o:Nat}{xs:List A4}(h:Bz c o xs)(i m:Nat)(B:i+m<=xs.length):Bz c (o+i) ((xs.drop i).take m):=by
 unfold Bz at*;rw [CD,CH,N3 A0];conv=>rhs;rw [<-h]
 rw [fX,V0,N3 A0,cA]
theorem RU(z:A4)(m:Nat)(h:∀u∈z.cells.toList,u.oneCell'=true):∀y∈(Builtin.zeroCells z.cells m).toList,y.oneCell'=true:=by
 intro y I;simp only [Builtin.zeroCells,oA,Array.mem_map,Array.mem_range]at I;obtain ⟨j,J,rfl⟩:=I;refine h _ ?_;have G:0<z.cells.size:=by
  rcases PB z.cells.size with h9|h9
  · rw [h9]at J;omega
  · exact h9
 have B:j%z.cells.size<z.cells.size:=fh _ G;rw [getElem!_pos z.cells (j%z.cells.size) B];exact oA.2 (Array.getElem_mem B)
section
variable{P:Program}{u:AD}{env:Env}{H H' R R2:Hp}{d:Option Nat}{ty:AM}{pos:String}{af:Array Edge}{g:Option (Nat×Bool)}
theorem JV{x y:Operand}{dT sT e:AM}{sz b o n cap Z o' n' G:Nat}{c c1:AK}{T T1:AM}{z z1:Nat×Nat}{cs:List A4}
 (hu:P.underlying dT=some (.slice e))(hs:∀w:AD,(Go.sizeOf e).run P w= .ok sz w)(hx:∀a,ev a env x= .slice (some ⟨b,o,none⟩) n cap)(hy:∀a,ev a env y= .slice (some ⟨Z,o',none⟩) n' G)
 (W:Has Z (.cells c1 T1 z1) H)(O:One [(b,.cells c T z)] H R)(bn:Bz c1 o' cs)(hn:cs.length=min n' n*sz)(I:o+cs.length<=c.size)(hz:Ie z c.size)(h1:∀v∈cs,v.oneCell'=true):
 OpW P u ⟨d,.call ⟨.builtin .copy,#[x,y],#[dT,sT]⟩,ty,pos,af,g⟩ env H (fun v H1=>v=I4 ((min n' n:Nat):Int)/\H1=[(b,.cells (EM c o cs) T z)]::R) (fun _ _=>False):=fun a w B K Kp hK _=>by
 have U:Sat u ([(b,.cells c T z)]::R) w:=B.perm (by simpa using O.perm);have hb:=U.get (b,.cells c T z) (by simp)
 have ax:=B.get _ W.mem;have hl:=run_loadCells_list (P:=P) w ⟨Z,o',none⟩ cs (Gz ax bn)
 rw [hn]at hl;have X:=Cj (P:=P) b o T z cs 0 c w hb hz (by simpa using I) h1
 simp only [Pu]at X;have J:Nat.min n' n=min n' n:=rfl
 have:(execOp (ev a env) ⟨d,.call ⟨.builtin .copy,#[x,y],#[dT,sT]⟩,ty,pos,af,g⟩).run P w= .ok (.value (I4 ((min n' n:Nat):Int))) (w.setRow b (EM c o cs)):=by
  simp [Dz,resolve,invoke,builtin,hx a,hy a,Builtin.copy_,run_underlying hu,Builtin.lenOf,Builtin.firstCells,hs,J,hl,X,EM,goInt]
 rw [this];exact hK _ _ _ ⟨V,V⟩ (U.upd (.here _) V rfl V (setRow_heap w b c _ T z hb) fun k hk=>setRow_other w b k _ hk)
theorem LX{x y:Operand}{t ti e T:AM}{i:TypeInfo}{z:A4}{by_ sz k m cap gb:Nat}{cur:AK}{zz:Nat×Nat}{xs:List A4}
 (ht:P.underlying t=some (.slice e))(d9:P.underlying ti=some (.int .i64))(hi:P.info? e=some i)(cO:i.size=sz)(O:i.bytes=by_)(dn:i.zero=some z)(Z:z.cells.size=sz)
 (hx:∀a,ev a env x=I6 gb k cap)(hy:∀a,ev a env y=I4 (m:Int))(W:Has gb (.cells cur T zz) H)(cu:Bz cur 0 xs)(J:xs.length=k*sz)(h0:0<m)(gy:0<sz)(hg:cap<k+m)(ax:k+m<=maxLen)(hb:(k+m)*by_<=140737488355328):
 OpW P u ⟨d,.call ⟨.builtin .append,#[x,y],#[t,ti]⟩,ty,pos,af,g⟩ env H (fun v' H1=>∃s',Bd sz e v' (k+m) (xs++(Builtin.zeroCells z.cells m).toList) s'/\H1=s'::H) (fun _ _=>False):=fun a w I K Kp hK _=>by
 have gq:=mL;have hl:=run_loadCells_list (P:=P) w.drew ⟨gb,0,none⟩ xs (Gz (I.drew.get _ W.mem) cu)
 rw [J]at hl;have X:(Builtin.firstCells i.size k (I6 gb k cap)).run P w.drew= .ok xs.toArray w.drew:=by
  rw [cO];simp [Builtin.firstCells,hl]
 have gm:m*by_<=(k+m)*by_:=Tr _ A0;have hr:=Lib.run_append_grow_zeros (P:=P) w t ti ty e i z .i64 .i64 ht d9 hi dn (some ⟨gb,0,none⟩) k cap xs X m h0 A0 hg A0 (by rw [O];omega) (growslice_fits A0 (by rw [O];exact hb))
 have B:∀{v':A4} {w':AD},(Builtin.append_ #[t,ti] ty #[I6 gb k cap,I4 (m:Int)]).run P w= .ok v' w'->(execOp (ev a env) ⟨d,.call ⟨.builtin .append,#[x,y],#[t,ti]⟩,ty,pos,af,g⟩).run P w= .ok (.value v') w':=fun h=>by
  simp only [Dz,resolve,invoke,builtin,S0,Dd,JT,hx a,hy a,Sem.run_bind,Sem.run_pure,Result.andThen_ok,h]
 rw [B hr];have bn:=grownCap_ge w (k+m) cap e
 have U:grownCap w (k+m) cap e<=maxLen:=grownCap_le_maxLen w (k+m) cap e ax;have G:(xs++(Builtin.zeroCells z.cells m).toList).length=(k+m)*sz:=by
  have ek:(Builtin.zeroCells z.cells m).toList.length=m*sz:=by rw [Sh,size_zeroCells,Z]
  rw [Bm,ek,J,Kf]
 refine hK _ _ _ ⟨[(w.heap.size,.cells (xs.toArray++Builtin.zeroCells z.cells m++Builtin.zeroCells z.cells (grownCap w (k+m) cap e -(k+m))) e (0,0))],⟨G,.inr ⟨w.heap.size,grownCap w (k+m) cap e,_,(0,0),V,V,bn,U,?_,?_,BC _⟩⟩,V⟩ (I.drew.alloc _)
 · simp only [iu,size_zeroCells,Z,HC,J]
   rw [<-Kf,<-Kf];congr 1;omega
 · simp only [cM]
   exact HX G
theorem OB{x:Operand}{t e:AM}{i:TypeInfo}{z:A4}{sz gb k cap m c:Nat}{cur:AK}{T:AM}{zz:Nat×Nat}
 (ht:P.underlying t=some (.slice e))(hi:P.info? e=some i)(bn:i.zero=some z)(ax:z.cells.size=sz)(cO:∀u∈z.cells.toList,u.oneCell'=true)
 (hx:∀a,ev a env x= .slice (Ea (some ⟨gb,0,none⟩) k cap sz) m c)(hm:k+m<=cap)(W:cur.size=cap*sz)(X:Ie zz cur.size)(J:One [(gb,.cells cur T zz)] H R):
 OpW P u ⟨d,.call ⟨.builtin .clear,#[x],#[t]⟩,ty,pos,af,g⟩ env H (fun _ H1=>H1=[(gb,.cells (EM cur (k*sz) (Builtin.zeroCells z.cells m).toList) T zz)]::R) (fun _ _=>False):=fun a w O K Kp hK _=>by
 have G:Sat u ([(gb,.cells cur T zz)]::R) w:=O.perm (by simpa using J.perm);have B:∀{v':A4} {w':AD},(Builtin.clear_ #[t] ty #[.slice (Ea (some ⟨gb,0,none⟩) k cap sz) m c]).run P w= .ok v' w'->(execOp (ev a env) ⟨d,.call ⟨.builtin .clear,#[x],#[t]⟩,ty,pos,af,g⟩).run P w= .ok (.value v') w':=fun h=>by
  simp only [Dz,resolve,invoke,builtin,S0,Dd,JT,hx a,Sem.run_bind,Sem.run_pure,Result.andThen_ok,h]
 rcases PB m with h0|h0
 · subst h0
   have hr:(Builtin.clear_ #[t] ty #[.slice (Ea (some ⟨gb,0,none⟩) k cap sz) 0 c]).run P w= .ok (.tuple #[]) w:=by
    have:∃q,Ea (some ⟨gb,0,none⟩) k cap sz=some q:=by unfold Ea;split<;>exact ⟨_,rfl⟩
    obtain ⟨q,Z⟩:=this;rw [Z];simp [Builtin.clear_,run_underlying ht]
   rw [B hr];refine hK _ _ _ V ?_;have:(Builtin.zeroCells z.cells 0).toList=[]:=Ln (by rw [Sh,size_zeroCells];simp)
   rw [this,sH];exact G
 · have Z:Ea (some ⟨gb,0,none⟩) k cap sz=some ⟨gb,k*sz,none⟩:=by
    unfold Ea;rw [As A0,N2,Ca,D3]
   have hg:=G.get (gb,.cells cur T zz) B4;have cu:(Builtin.zeroCells z.cells m).toList.length=m*sz:=by rw [Sh,size_zeroCells,ax]
   have I:∀y∈(Builtin.zeroCells z.cells m).toList,y.oneCell'=true:=RU z m cO;have d9:k*sz+m*sz<=cap*sz:=by rw [<-Kf];exact Tr _ hm
   have U:=Cj (P:=P) gb (k*sz) T zz (Builtin.zeroCells z.cells m).toList 0 cur w hg X (by rw [cu,W];omega) I;have hr:(Builtin.clear_ #[t] ty #[.slice (Ea (some ⟨gb,0,none⟩) k cap sz) m c]).run P w= .ok (.tuple #[]) (w.setRow gb (EM cur (k*sz) (Builtin.zeroCells z.cells m).toList)):=by
    rw [Z];obtain ⟨m',rfl⟩:∃m',m=m'+1:=⟨m -1,by omega⟩;simp [Builtin.clear_,run_underlying ht,UN hi bn,EM]at U⊢;simp [U]
   rw [B hr];exact hK _ _ _ V (G.upd (.here _) V rfl V (setRow_heap w gb cur _ T zz hg) fun k hk=>setRow_other w gb k _ hk)
theorem Bp{t e:AM}{x lo:Operand}{b o n cap l sz:Nat}{O:IntKind}(J:P.underlying t=some (.slice e))(I:∀w:AD,(Go.sizeOf e).run P w= .ok sz w)(K:∀a,ev a env x= .slice (some ⟨b,o,none⟩) n cap)(G:∀a,ev a env lo= .int O (l:Int))(B:l<=n)(h2:l<cap):
 OpP P ⟨d,.slice t x (some lo) none none,ty,pos,af,g⟩ env [] (.slice (some ⟨b,o+l*sz,none⟩) (n -l) (cap -l)):=by
 have h:=C8 (d:=d) (ty:=ty) (pos:=pos) (af:=af) (g:=g) J I K G B;have e1:Ea (some ⟨b,o,none⟩) l cap sz=some ⟨b,o+l*sz,none⟩:=by
  unfold Ea;rw [As A0,N2,Ca]
 rwa [e1]at h
theorem YT{t ty b j s1 s2:Nat}{fn:Func}{v x y:A4}(J:fn.results=#[.cell t ty,.tmp s1,.tmp s2]){w:AD}{tmps:AK}(B:tmps.getD t undef= .pointer (some ⟨b,j,none⟩))(I:(loadVar ty ⟨b,j,none⟩).run P w= .ok v w)(G:tmps.getD s1 undef=x)(hz:tmps.getD s2 undef=y):(results fn tmps).run P w= .ok (.tuple #[v,x,y]) w:=by
 rw [LO]at B G hz;simp [results,J,B,G,hz,asAddr,I]
theorem Hz{e:Exit}{N:Nat}{r:Option Nat}{fn:Func}{Q:A4->Hp->Prop}{Pn:List PanicEntry->Hp->Prop}{H':Hp}{t ty b j s1 s2:Nat}{v x y:A4}{o:Obj}(I:FD e=true)(U:fn.results=#[.cell t ty,.tmp s1,.tmp s2])(hv:∀a,Fw a env t= .pointer (some ⟨b,j,none⟩))(G:Has b o H)(J:∀w:AD,w.heap[b]?=some o->(loadVar ty ⟨b,j,none⟩).run P w= .ok v w)(W:∀a,Fw a env s1=x)(X:∀a,Fw a env s2=y)(O:Q (.tuple #[v,x,y]) H')(K:Sub (H'++R) H:=by repeat(first|exact Sub.refl _|exact Sub.nil _|(apply Sub.cons;(focus (repeat(first|exact One.here _ _|apply One.there))))|refine Sub.drop _ ?_)):Nx ⟨N,[],u,r⟩ (bodyPost P fn (GJ u R Q Pn) e) env H:=
 M4 I (fun a w B=>YT U (by rw [CY a env (by rw [B.size];exact B.fit),hv a]) (J w (B.sat.get _ G.mem)) (by rw [CY a env (by rw [B.size];exact B.fit),W a]) (by rw [CY a env (by rw [B.size];exact B.fit),X a])) O K
theorem X0{t s q k:Nat}{fn:Func}(B:fn.results=#[.tmp t,.tmp s,.tmp q,.tmp k])(w:AD)(tmps:AK):(results fn tmps).run P w= .ok (.tuple #[tmps.getD t undef,tmps.getD s undef,tmps.getD q undef,tmps.getD k undef]) w:=by simp [results,B]
theorem jM{e:Exit}{N:Nat}{r:Option Nat}{fn:Func}{Q:A4->Hp->Prop}{Pn:List PanicEntry->Hp->Prop}{H':Hp}{t s q k:Nat}{v x y z:A4}(G:FD e=true)(K:fn.results=#[.tmp t,.tmp s,.tmp q,.tmp k])(hv:∀a,Fw a env t=v)(O:∀a,Fw a env s=x)(U:∀a,Fw a env q=y)(hz:∀a,Fw a env k=z)(J:Q (.tuple #[v,x,y,z]) H')(I:Sub (H'++R) H:=by repeat(first|exact Sub.refl _|exact Sub.nil _|(apply Sub.cons;(focus (repeat(first|exact One.here _ _|apply One.there))))|refine Sub.drop _ ?_)):Nx ⟨N,[],u,r⟩ (bodyPost P fn (GJ u R Q Pn) e) env H:=
 M4 G (fun a w B=>by rw [X0 K,CY a env (by rw [B.size];exact B.fit),CY a env (by rw [B.size];exact B.fit),CY a env (by rw [B.size];exact B.fit),CY a env (by rw [B.size];exact B.fit),hv a,O a,U a,hz a]) J I
theorem TA{f:FuncId}{fn:Func}{ax:Array Operand}{ats:Array AM}{tS tR e:AM}{size a b oa ob la ca lb cb:Nat}{xa xb:AK}{Ta Tb:AM}{zb:Nat×Nat}
 (hf:P.funcs[f]?=some fn)(hname:(fn.name== "runtime.NumGoroutine")=false)(hb:fn.body.isNone=true)(hn:Extern.findNext fn=none)(he:Extern.find fn=some (Extern.SlicesOverlaps.overlaps #[tS,tS] #[tR]))
 (ht:P.underlying tS=some (.slice e))(hz:∀w:AD,(Go.sizeOf e).run P w= .ok size w)(ha:∀c,ax.toList.map (ev c env)=[.slice (some ⟨a,oa,none⟩) la ca,.slice (some ⟨b,ob,none⟩) lb cb])(hne:a≠b)(hk:xb.size≠0):
 OpP P ⟨d,.call ⟨.value (.func f),ax,ats⟩,ty,pos,af,g⟩ env [(a,.cells xa Ta (0,0)),(b,.cells xb Tb zb)] (.bool false):=fun c w hs=>by
 have g1:=hs (a,.cells xa Ta (0,0)) (by simp);have g2:=hs (b,.cells xb Tb zb) (by simp)
 have h1:ax.map (ev c env)=#[.slice (some ⟨a,oa,none⟩) la ca,.slice (some ⟨b,ob,none⟩) lb cb]:=by
  have:=JJ (ev c env) ax;rw [this,ha c]
 have h2:=run_callFunc_extern hf hname hb hn he #[.slice (some ⟨a,oa,none⟩) la ca,.slice (some ⟨b,ob,none⟩) lb cb] w;rw [Lib.run_overlaps_apart w tS tR e ht size hz ⟨a,oa,none⟩ ⟨b,ob,none⟩ la ca lb cb hne Ta Tb xa.size xb.size (by simp [World.shape?,g1]) (by simp [World.shape?,g2]) hk (by simp [World.frozen?,g1]) (by simp [World.frozen?,g1])]at h2;have h3:ev c env (.func f)= .func (.func f) #[] #[]:=rfl
 simp [Dz,resolve,h3,Deferred.ofValue,invoke,h1,h2,Result.andThen]
end
section
variable{α:Type}{κ:α->A4}{D:α->Prop}{P:Program}{es:Array MapEntry}{clock r:Nat}{l:List (α×A4)}{kt et:AM}
variable{u:AD}{env:Env}{H R:Hp}{d:Option Nat}{ty:AM}{pos:String}{af:Array Edge}{g:Option (Nat×Bool)}{t:AM}{m x y:Operand}{k:α}{v:A4}
theorem EF(W:G5 P kt κ D)(ht:P.underlying t=some (.map kt et))(hm:Co κ es clock l)(Z:∀p∈l,D p.1)(X:D k)(hx:∀a,ev a env m= .map (some r))(hy:∀a,ev a env x=κ k)(hv:∀a,ev a env y=v)(I:One [(r,.map es clock)] H R):
 OpW P u ⟨d,.insert t m x y,ty,pos,af,g⟩ env H (fun v' H1=>v'=undef/\∃G B O,Co κ G B O/\(∀p,p∈O↔p=(k,v)\/(p∈l/\p.1≠k))/\H1=[(r,.map G B)]::R) (fun _ _=>False):=fun a w hs K U J hp=>
 FH (d:=d) (ty:=ty) (pos:=pos) (af:=af) (g:=g) W ht hm Z X hx hy hv I a w hs K U J hp
theorem De [DecidableEq α]{et:AM}{z v0:A4}(G:G5 P kt κ D)(O:P.underlying t=some (.map kt et))(hz:∀w:AD,(zeroValue et).run P w= .ok z w)(K:Co κ es clock l)(U:∀p∈l,D p.1)(I:D k)(hv:(Dp k l).getD z=v0)(X:∀a,ev a env m= .map (some r))(Z:∀a,ev a env x=κ k):
 OpP P ⟨d,.lookup t m x false,ty,pos,af,g⟩ env [(r,.map es clock)] v0:=fun a w W=>by
 have J:=W (r,.map es clock) B4;show((do pure (Next.value (<-Instr.lookup t (ev a env m) (ev a env x) false))):Sem Next).run P w=_
 rw [X a,Z a,<-hv];rcases I8 G K U w k I with⟨B,h2⟩|⟨j,v,B,h2⟩
 · rw [Da h2]
   simp only [Instr.lookup,Sem.run_bind,run_underlying O,Result.andThen,MapKept.run_getObj_map J,F7 G I,Sem.run_pure,B,hz];rfl
 · rw [D7 K.keys (DQ h2)]
   simp only [Instr.lookup,Sem.run_bind,run_underlying O,Result.andThen,MapKept.run_getObj_map J,F7 G I,Sem.run_pure,B];rfl
theorem Nf{d:Nat}{x y:Operand}{t yt e:AM}{p:B8}(B:P.underlying t=some (.pointer e))(G:∀a,ev a env x= .pointer p)(I:∀a,ev a env y= .pointer none):OpP P ⟨some d,.binOp .eql t x y yt,ty,pos,af,g⟩ env [] (.bool p.isNone):=by
 cases p with
 |none=>exact IG B G I
 |some a=>exact Bh B G I
theorem Fu{d:Nat}{x y:Operand}{t yt e:AM}{p:B8}(B:P.underlying t=some (.pointer e))(G:∀a,ev a env x= .pointer p)(I:∀a,ev a env y= .pointer none):OpP P ⟨some d,.binOp .neq t x y yt,ty,pos,af,g⟩ env [] (.bool p.isSome):=by
 cases p with
 |none=>exact NI B G I
 |some a=>exact NH B G I
theorem EI{c cs:AK}(h:cs.size=c.size):EM c 0 cs.toList=cs:=by
 rw [Yy c cs.toList (by simpa using h)]
theorem BN{c:AK}{n:Nat}(h:c.size=n):c.extract 0 (0+n)=c:=by
 subst h;simp
end
section
variable{P:Program}{u:AD}{env:Env}{H R:Hp}{d:Option Nat}{ty:AM}{pos:String}{af:Array Edge}{g:Option (Nat×Bool)}
theorem OC{x y:Operand}{t su e:AM}{i:TypeInfo}{z:A4}{by_:Nat}{v:A4}{xs:List A4}{s:List A9}{l:List UInt8}
 (ht:P.underlying t=some (.slice e))(ax:P.underlying su=some .string)(hi:P.info? e=some i)(gq:i.size=1)(bn:i.bytes=by_)(ic:i.zero=some z)(kv:z.oneCell'=true)
 (hx:∀a,ev a env x=v)(d9:Row e v xs s)(hy:∀a,ev a env y= .string (str l))(cu:One s H R)
 (hm:0<l.length)(U:xs.length+l.length<=maxLen)(hb:(xs.length+l.length)*by_<=140737488355328):
 OpW P u ⟨d,.call ⟨.builtin .append,#[x,y],#[t,su]⟩,ty,pos,af,g⟩ env H (fun v' H1=>∃s',Row e v' (xs++l.map u8v) s'/\H1=s'::R) (fun _ _=>False):=fun a w dn K Kp hK _=>by
 have Z:Sat u (s::R) w:=dn.perm (by simpa using cu.perm);have j5:Sat u R w:=Z.sub ⟨s,by simp only [CA];exact LR⟩
 have gy:z.cells=#[z]:=by cases z<;>first|rfl|simp [Value.oneCell']at kv
 have l5:=mL;have G:(str l).size=l.length:=by simp [str,ByteArray.size]
 have ek:Lib.strCells (str l)=l.map u8v:=by simp only [Lib.strCells,str];rfl
 have hl:(l.map u8v).length=l.length:=B6 ..;have B:∀{v':A4} {w':AD},(Builtin.append_ #[t,su] ty #[v,.string (str l)]).run P w= .ok v' w'->(execOp (ev a env) ⟨d,.call ⟨.builtin .append,#[x,y],#[t,su]⟩,ty,pos,af,g⟩).run P w= .ok (.value v') w':=fun h=>by
  simp only [Dz,resolve,invoke,builtin,S0,Dd,JT,hx a,hy a,Sem.run_bind,Sem.run_pure,Result.andThen_ok,h]
 have I:∀(n cap:Nat) (cells:AK) (w1:AD),w1={w with drawn:=n,heap:=w.heap.push (.cells cells e)}->Sat u ([(w.heap.size,.cells cells e (0,0))]::R) w1:=fun n cap cells w1 h=>by
  subst h;exact (j5.drawn n).alloc _
 rcases d9 with⟨rfl,rfl,rfl⟩|⟨gb,cap,cur,zz,rfl,rfl,hle,hcm,hcs,htk,hfr⟩
 · have hr:=run_append_nil_string (P:=P) w t su ty e i z ht ax hi ic (str l) (by omega) (by rw [G];simp only [KK,D3]at U;omega) (by rw [bn,G];simp only [KK,D3]at hb;omega)
   rw [B hr,G];have W:=grownCap_ge w l.length 0 e
   have J:grownCap w l.length 0 e<=maxLen:=grownCap_le_maxLen w l.length 0 e (by simpa using U);refine hK _ _ _ ⟨[(w.heap.size,.cells ((str l).data.map (fun b=>Value.int .u8 b.toNat)++Builtin.zeroCells z.cells (grownCap w l.length 0 e -l.length)) e (0,0))],.inr ⟨w.heap.size,grownCap w l.length 0 e,_,(0,0),?_,rfl,?_,J,?_,?_,BC _⟩,rfl⟩ (I _ 0 _ _ rfl);· simp
   · simpa using W
   · simp [size_zeroCells,gy,str];omega
   · have:((str l).data.map (fun b=>Value.int .u8 b.toNat)).toList=l.map u8v:=by rw [Array.toList_map];rfl
     simp only [Kx,cM,this];exact HX rfl
 · have hg:=Z.get (gb,.cells cur e zz) (by simp)
   by_cases O:xs.length+l.length<=cap
   · have hf:=Lib.run_firstCells_string (P:=P) w 1 (str l)
     rw [G,ek]at hf;have gm:=Cj (P:=P) gb xs.length e zz (l.map u8v) 0 cur w hg hfr (by rw [hl,hcs];omega) (oZ l)
     simp only [Pu]at gm;have hr:(Builtin.append_ #[t,su] ty #[I6 gb xs.length cap,.string (str l)]).run P w= .ok (I6 gb (xs.length+l.length) cap) (w.setRow gb (EM cur xs.length (l.map u8v))):=by
      simp [Builtin.append_,run_underlying ht,run_underlying ax,Go.sizeOf,typeInfo,hi,gq,Builtin.lenOf,G,O,hf,Ca,gm,EM]
     rw [B hr];have cO:(EM cur xs.length (l.map u8v)).size=cap:=by
      unfold EM;simp;omega
     refine hK _ _ _ ⟨[(gb,.cells (EM cur xs.length (l.map u8v)) e zz)],.inr ⟨gb,cap,_,zz,by simp,rfl,by simpa using O,hcm,cO,?_,by rw [cO,<-hcs];exact hfr⟩,rfl⟩
      (Z.upd (.here _) rfl rfl rfl (setRow_heap w gb cur _ e zz hg) fun k hk=>setRow_other w gb k _ hk)
     unfold EM;rw [htk];simp only [CT];rw [<-CT];exact HX B4
   · have X:∀j v,xs[j]?=some v->w.cell? ((⟨gb,0,none⟩:Addr).add j)=some v:=fun j v hj=>by
      rw [Ca];refine Cr hg ?_;have j3:j<xs.length:=(C4.1 hj).1
      have:(cur.toList.take xs.length)[j]?=some v:=by rw [htk];exact hj
      rw [HI,Ax j3]at this;simpa using this
     have hr:=Lib.run_append_grow_string (P:=P) w t su ty e i z ht ax hi ic ⟨gb,0,none⟩ xs.length cap xs (by rw [gq];omega) X (str l) A0 A0 (growslice_fits A0 (by rw [bn,G];exact hb));rw [B hr,G,ek];have W:=grownCap_ge w (xs.length+l.length) cap e
     have J:grownCap w (xs.length+l.length) cap e<=maxLen:=grownCap_le_maxLen w (xs.length+l.length) cap e U;refine hK _ _ _ ⟨[(w.heap.size,.cells (xs.toArray++(l.map u8v).toArray++Builtin.zeroCells z.cells (grownCap w (xs.length+l.length) cap e -(xs.length+l.length))) e (0,0))],.inr ⟨w.heap.size,grownCap w (xs.length+l.length) cap e,_,(0,0),?_,V,?_,J,?_,?_,BC _⟩,V⟩ (I _ 0 _ _ V);· simp
     · simpa using W
     · simp [size_zeroCells,gy];omega
     · simp only [cM]
       exact HX B4
theorem Yu{s t q e:AM}{x:Operand}{j:TypeInfo}{b:Nat}{c:AK}{z:Nat×Nat}(O:P.underlying s=some (.pointer q))(I:P.underlying t=some .unsafePointer)(K:P.info? q=some j)(J:j.size≠0)(hc:0<c.size)(U:∀a,ev a env x=I5 b):
 OpP P ⟨d,.convert s t x,ty,pos,af,g⟩ env [(b,.cells c e z)] (I5 b):=fun a w h=>by
 have G:=h (b,.cells c e z) B4;have B:w.shape? b=some (e,c.size):=by simp [World.shape?,G]
 have:=Lib.run_to_unsafe (P:=P) (w:=w) ⟨b,0,none⟩ O I K J B hc;simp [K4,U a,this]
theorem UZ{s t q e:AM}{x:Operand}{j:TypeInfo}{b:Nat}{c:AK}{z:Nat×Nat}(O:P.underlying s=some .unsafePointer)(I:P.underlying t=some (.pointer q))(K:P.info? q=some j)(J:liesAt P P.depth e (c.size/P.cellsOf e) 0 q 1=true)(U:∀a,ev a env x=I5 b):
 OpP P ⟨d,.convert s t x,ty,pos,af,g⟩ env [(b,.cells c e z)] (I5 b):=fun a w h=>by
 have G:=h (b,.cells c e z) B4;have B:w.shape? b=some (e,c.size):=by simp [World.shape?,G]
 have:=Lib.run_from_unsafe (P:=P) (w:=w) ⟨b,0,none⟩ O I K B J;simp [K4,U a,this]
theorem TB{t q:AM}{x y:Operand}{yt:AM}{j:TypeInfo}{p:Addr}(G:P.underlying t=some (.pointer q))(B:P.info? q=some j)(I:∀a,ev a env x= .pointer (some p))(J:∀a,ev a env y= .pointer (some p)):
 OpP P ⟨d,.binOp .neq t x y yt,ty,pos,af,g⟩ env [] (.bool false):=fun a w _=>by
 have:=Lib.run_neq_ptr_same (P:=P) w p G B;simp [Cw,I a,J a,eqGuard,this]
theorem sD{f:FuncId}{fn:Func}{e:AK→Sem A4}{ax:Array Operand}{ats:Array AM}{vs:List A4}{v:A4}(hf:P.funcs[f]?=some fn)(hname:(fn.name== "runtime.NumGoroutine")=false)(hb:fn.body.isNone=true)(hn:Extern.findNext fn=none)(he:Extern.find fn=some e)
 (ha:∀a,ax.toList.map (ev a env)=vs)(hr:∀w:AD,(e vs.toArray).run P w= .ok v w):
 OpP P ⟨d,.call ⟨.value (.func f),ax,ats⟩,ty,pos,af,g⟩ env [] v:=fun a w _=>by
 have h1:ax.map (ev a env)=vs.toArray:=by rw [<-ha a];exact JJ _ ax
 have h2:=run_callFunc_extern hf hname hb hn he vs.toArray w;rw [hr w]at h2;have h3:ev a env (.func f)= .func (.func f) #[] #[]:=rfl
 simp [Dz,resolve,h3,Deferred.ofValue,invoke,h1,h2,Result.andThen]
theorem Y1{t:AM}{x:Operand}{p:Addr}{n c:Nat}(I:∀a,ev a env x= .slice (some p) n c)(hc:c≠0):
 OpW P u ⟨d,.call ⟨.builtin .unsafeSliceData,#[x],#[t]⟩,ty,pos,af,g⟩ env H (fun v H1=>v= .pointer (some p)/\H1=H) (fun _ _=>False):=fun a w B K J G _=>by
 have h:=Lib.run_unsafeSliceData_row (P:=P) (w:=w) #[t] ty p n c hc;have:(execOp (ev a env) ⟨d,.call ⟨.builtin .unsafeSliceData,#[x],#[t]⟩,ty,pos,af,g⟩).run P w= .ok (.value (.pointer (some p))) w:=by
  simp only [Dz,resolve,invoke,builtin,S0,Dd,JT,I a,Sem.run_bind,Sem.run_pure,Result.andThen_ok,h]
 rw [this];exact G _ _ _ ⟨V,V⟩ B
theorem Rc{t it e:AM}{x y:Operand}{b:Nat}{c:AK}{z:Nat×Nat}{l:List UInt8}(ht:P.underlying t=some (.pointer e))(W:P.cellsOf e=1)(hx:∀a,ev a env x=I5 b)(hy:∀a,ev a env y=I4 (l.length:Int))(h0:l≠[])(U:l.length<=9223372036854775807)
 (J:One [(b,.cells c e z)] H R)(hc:c.toList.take l.length=l.map u8v):
 OpW P u ⟨d,.call ⟨.builtin .unsafeString,#[x,y],#[t,it]⟩,ty,pos,af,g⟩ env H (fun v H1=>v= .string (str l)/\H1=R) (fun _ _=>False):=fun a w O K Kp hK _=>by
 have G:Sat u ([(b,.cells c e z)]::R) w:=O.perm (by simpa using J.perm);have B:Sat u R w:=G.sub ⟨[(b,.cells c e z)],by simp only [CA];exact LR⟩
 have hb:=G.get (b,.cells c e z) (by simp);have cu:w.shape? b=some (e,c.size):=by simp [World.shape?,hb]
 have ax:l.length<=c.size:=by
  have h1:(c.toList.take l.length).length=l.length:=by rw [hc,B6]
  rw [CD]at h1;have h2:=oc l.length c.toList.length
  rw [h1]at h2;exact Q1 h2 (Nat.le_of_eq (show c.toList.length=c.size from Sh))
 have X:Bz c 0 (l.map u8v):=by unfold Bz;rw [Pr,B6];exact hc
 have h:=Lib.run_unsafeString_row (P:=P) w t it ty e ht W b c.size cu l h0 ax U (fun j x hx=>Gz hb X j (.int .u8 x.toNat) (by rw [DP,hx];rfl));have:(execOp (ev a env) ⟨d,.call ⟨.builtin .unsafeString,#[x,y],#[t,it]⟩,ty,pos,af,g⟩).run P w= .ok (.value (.string (str l))) (w.freeze ⟨b,0,none⟩ l.length):=by
  simp only [Dz,resolve,invoke,builtin,S0,Dd,JT,hx a,hy a,Sem.run_bind,Sem.run_pure,Result.andThen_ok,h];rfl
 rw [this];refine hK _ _ _ ⟨V,V⟩ ?_;have Z:l.length≠0:=by simpa using h0
 have I:=G.nodup;simp only [CA,MY,Dd,HK]at I;unfold World.freeze;rw [As Z];refine ⟨B.os,B.tape,B.output,B.nodup,fun p hp=>?_⟩;have bn:p.1≠b:=fun h=>I.1 (C6.2 ⟨p,hp,h⟩)
 show(w.heap.modify b _)[p.1]?=some p.2;rw [Sf,As (fun h=>bn h.symm)];exact B.get p hp
end
section
variable{P:Program}{ops:Array Oper}{l:List Oper}{cx:Cx}{Q:Exit->Act->AD->Prop}{env:Env}{H:Hp}
theorem lu{I:Operand}{fv:Fn}{caps:AK}{ty:AM}{pos:String}{af:Array Edge}(O:cx.r=none)(K:∀a,ev a env I= .func fv #[] caps)
 (k:Ops P ops l ⟨cx.N,⟨.fn fv caps,#[]⟩::cx.D,cx.u,cx.r⟩ Q env H):Ops P ops (⟨none,.defer ⟨.value I,#[],#[]⟩,ty,pos,af,none⟩::l) cx Q env H:=fun a w G=>by
 have B:Fit a.tmps.size env:=by rw [G.size];exact G.fit
 simp only [wpL];rw [G6 ops _ a env B,show wantedE ops a env (⟨none,.defer ⟨.value I,#[],#[]⟩,ty,pos,af,none⟩:Oper).guard=true from rfl,Ax rfl];refine ⟨fun _ _=>trivial,?_⟩;have J:(Fx cx.r).round=none:=O
 rw [J,Oper.semAt_none,FV a env B];have:(execOp (ev a env) ⟨none,.defer ⟨.value I,#[],#[]⟩,ty,pos,af,none⟩).run P w= .ok (.defer ⟨.fn fv caps,#[]⟩) w:=by
  simp [execOp,resolve,K a,Deferred.ofValue]
 rw [this,Oper.uponIn_defer];have h:=k {a with defers:=⟨.fn fv caps,#[]⟩::cx.D} w ⟨G.size,rfl,G.fit,G.sat⟩
 have e:C9 env {a with defers:=⟨.fn fv caps,#[]⟩::cx.D}={C9 env a with defers:=⟨.fn fv caps,#[]⟩::(C9 env a).defers}:=by
  rw [FI,FO,G.defers]
 rw [e]at h;exact h
end
def PT(P:Program)(f:FuncId)(args:AK)(m m':FrameMode)(H:Hp)(Q:Hp->Prop):Prop:=
 ∀(u:AD) (R:Hp) (w:AD),Sat u (H++R) w->CallsDIn Fence.wide 0 P f args m w fun e m2 w'=>∃v H',e= .returned v/\m2=m'/\Q H'/\Sat u (H'++R) w'
theorem Qs{P:Program}{f:FuncId}{args:AK}{m:FrameMode}{w:AD}{G R2:Ending->FrameMode->AD->Prop}(h:CallsDIn Fence.wide 0 P f args m w G)(K:∀e I B,G e I B->R2 e I B):CallsDIn Fence.wide 0 P f args m w R2:=
 ⟨h.1,fun c cs hc O=>by
   obtain ⟨e,U,B,fr,J,h2⟩:=h.2 c cs hc O;exact ⟨e,U,B,fr,K _ _ _ J,h2⟩⟩
theorem fP{P:Program}{fn:Func}{tmps:AK}{f:FuncId}{caps:AK}{m m':FrameMode}{w u:AD}{Hd Rr R:Hp}{Qd:Hp->Prop}{Q:A4->Hp->Prop}{Pn:List PanicEntry->Hp->Prop}
 (X:m≠ .run)(J:settle m'= .returning)(hc:∀(args:AK) (w:AD),(callFunc f args).run P w= .ok (.enter f args) w)(W:PT P f caps m m' Hd Qd)(hs:Sat u (Hd++Rr) w)
 (G:∀H1 B,Qd H1->Sat u (H1++Rr) B->∃v H',(results fn tmps).run P B= .ok v B/\Q v H'/\Sat u (H'++R) B):
 LeavesInM Fence.wide 0 P fn tmps (GJ u R Q Pn) [⟨.fn (.func f) caps,#[]⟩] m w:=by
 refine ⟨X,.inr ⟨fun h=>by simp [Fence.wide]at h,.func f,caps,f,caps,V,?_,fun _ _=>trivial,?_⟩⟩;· simp [invoke,hc]
 · refine Qs (W u Rr w hs) ?_
   rintro e m2 B ⟨v,H1,rfl,rfl,Z,I⟩;obtain ⟨K,H',O,h2,U⟩:=G H1 B Z I;show LeavesInM Fence.wide 0 P fn tmps (GJ u R Q Pn) [] (settle m2) B
   rw [J];exact ⟨K,O,.inl ⟨K,H',V,h2,U⟩⟩
section
variable{P:Program}{N:Nat}{u:AD}{fn:Func}{R H Hd Rr:Hp}{Q:A4->Hp->Prop}{Pn:List PanicEntry->Hp->Prop}{env:Env}{e:Exit}{f:FuncId}{caps:AK}{Qd:Hp->Prop}{m':FrameMode}
end
def pI(P:Program)(ops:Array Oper)(l:List Nat)(cx:Cx)(cs:List Frame)(Q:Exit->Act->List Frame->AD->Prop)(env:Env)(H:Hp):Prop:=∀a w,St cx env H a w->wpOpsSIn Fence.wide 0 P ops Q l (C9 env a) cs w
section
variable{P:Program}{ops:Array Oper}{l:List Nat}{i:Nat}{cx:Cx}{cs:List Frame}{Q:Exit->Act->List Frame->AD->Prop}{env:Env}{H:Hp}
theorem QA{d:Nat}{I:Op}{ty:AM}{pos:String}{af:Array Edge}{v:A4}(K:ops[i]?=some ⟨some d,I,ty,pos,af,none⟩)(h:OpP P ⟨some d,I,ty,pos,af,none⟩ env [] v)(J:Nat.blt d cx.N=true)
 (k:pI P ops l cx cs Q ((d,v)::env) H):pI P ops (i::l) cx cs Q env H:=fun a w G=>by
 have B:Fit a.tmps.size env:=by rw [G.size];exact G.fit
 simp only [wpOpsSIn,K];refine ⟨fun _ _=>trivial,?_⟩;rw [G6 ops _ a env B,show wantedE ops a env (⟨some d,I,ty,pos,af,none⟩:Oper).guard=true from rfl,Ax rfl,FV a env B,h a w B4];exact k a w ⟨G.size,G.defers,G.fit.cons J v,G.sat⟩
theorem eu{d:Nat}{ty:AM}{pos:String}{af:Array Edge}(J:ops[i]?=some ⟨some d,.call ⟨.builtin .recover,#[],#[]⟩,ty,pos,af,none⟩)(K:recoverD cs=none)(I:Nat.blt d cx.N=true)
 (k:pI P ops l cx cs Q ((d,.nilIface)::env) H):pI P ops (i::l) cx cs Q env H:=fun a w G=>by
 have B:Fit a.tmps.size env:=by rw [G.size];exact G.fit
 simp only [wpOpsSIn,J];refine ⟨fun _ _=>trivial,?_⟩;rw [G6 ops _ a env B,show wantedE ops a env (⟨some d,.call ⟨.builtin .recover,#[],#[]⟩,ty,pos,af,none⟩:Oper).guard=true from rfl,Ax rfl,FV a env B];have:(execOp (ev a env) ⟨some d,.call ⟨.builtin .recover,#[],#[]⟩,ty,pos,af,none⟩).run P w= .ok .recover w:=by
  simp [Dz,resolve,invoke,builtin]
 rw [this];simp only [K];exact k a w ⟨G.size,G.defers,G.fit.cons I _,G.sat⟩
end
theorem YF{P:Program}{f:FuncId}{fn:Func}{id:Nat}{ops:Array Oper}{y:Code}{args:AK}{N:Nat}{m m':FrameMode}{H:Hp}{Qd:Hp->Prop}{env1:Env}(hf:P.funcs[f]?=some fn)(hb:fn.body=some (.seq (.region id ops false) y))(hN:fn.ntmps=N)(hs:Nat.ble args.size N=true)(ax:fn.results=#[])
 (K:∀(u:AD) (R:Hp) (c:Frame) (cs:List Frame) (Q:Exit->Act->List Frame->AD->Prop),c.mode=m->(∀a w,St ⟨N,[],u,none⟩ env1 (H++R) a w->Q .normal (C9 env1 a) ({c with mode:=m'}::cs) w)->pI P ops (List.range ops.size) ⟨N,[],u,none⟩ (c::cs) Q (Fa 0 args.toList) (H++R))
 (h:∀u R,At P ⟨N,[],u,none⟩ y (bodyPost P fn (GJ u R (fun _ H'=>Qd H') (fun _ _=>False))) env1 (H++R)):PT P f args m m' H Qd:=fun u R w O=>by
 have X:args.size<=N:=db hs;have J:C9 (Fa 0 args.toList) {tmps:=args++Array.replicate (fn.ntmps -args.size) undef,defers:=[]}={tmps:=args++Array.replicate (fn.ntmps -args.size) undef,defers:=[]}:=by
  refine KI _ fun p hp=>?_;obtain ⟨_,h2⟩:=FL _ _ _ hp;simp only [S5,HQ]at h2;have Z:p.1<args.size:=by
   rcases FF p.1 args.size with h|h
   · exact h
   · simp [ID h]at h2
  rw [el Z];exact h2
 refine callsDIn_of_wpSIn (F:=Fence.wide) hf hb trivial fun c₀ cs hm=>?_;rw [<-J];refine wpSIn_seq (wpSIn_region ?_);refine K u R c₀ cs _ hm (fun a w1 af=>?_) _ w ⟨by simp [hN];omega,V,fun p hp=>?_,O⟩
 · refine wpSIn_of_wpIn rfl (wpIn_mono (h u R a w1 af) ?_)
   intro e a2 w2 B;cases e with
   |normal=>
    obtain ⟨U,v,hr,I⟩:=B;rcases I with⟨v',H',G,h2,W⟩|⟨_,_,_,h4,_⟩
    · exact ⟨U,m',rfl,v,hr,v',H',G,rfl,h2,W⟩
    · exact h4.elim
   |ret=>
    obtain ⟨U,v,hr,I⟩:=B;rcases I with⟨v',H',G,h2,W⟩|⟨_,_,_,h4,_⟩
    · exact ⟨U,m',rfl,v,hr,v',H',G,rfl,h2,W⟩
    · exact h4.elim
   |panic ch=>
    obtain ⟨U,I⟩:=B;rcases I with⟨_,_,G,_⟩|⟨_,_,_,h4,_⟩
    · cases G
    · exact h4.elim
   |outgrown=>
    rcases B with⟨_,_,G,_⟩|⟨_,_,_,h4,_⟩
    · cases G
    · exact h4.elim
   |exit i=>exact B.elim
   |goto i=>exact B.elim
 · obtain ⟨_,h2⟩:=FL _ _ _ hp
   simp only [S5,HQ]at h2;rcases FF p.1 args.size with h|h
   · exact mN h X
   · simp [ID h]at h2
section
variable{P:Program}{ops:Array Oper}{l:List Oper}{cx:Cx}{Q:Exit->Act->AD->Prop}{env:Env}{H:Hp}
theorem ed{f:FuncId}{x:Operand}{v:A4}{G:Array AM}{ty:AM}{pos:String}{af:Array Edge}(O:cx.r=none)(U:∀a,ev a env x=v)
 (k:Ops P ops l ⟨cx.N,⟨.fn (.func f) #[],#[v]⟩::cx.D,cx.u,cx.r⟩ Q env H):Ops P ops (⟨none,.defer ⟨.value (.func f),#[x],G⟩,ty,pos,af,none⟩::l) cx Q env H:=fun a w I=>by
 have B:Fit a.tmps.size env:=by rw [I.size];exact I.fit
 simp only [wpL];rw [G6 ops _ a env B,show wantedE ops a env (⟨none,.defer ⟨.value (.func f),#[x],G⟩,ty,pos,af,none⟩:Oper).guard=true from rfl,Ax rfl];refine ⟨fun _ _=>trivial,?_⟩;have J:(Fx cx.r).round=none:=O
 rw [J,Oper.semAt_none,FV a env B];have K:ev a env (.func f)= .func (.func f) #[] #[]:=rfl
 have:(execOp (ev a env) ⟨none,.defer ⟨.value (.func f),#[x],G⟩,ty,pos,af,none⟩).run P w= .ok (.defer ⟨.fn (.func f) #[],#[v]⟩) w:=by
  simp [execOp,resolve,K,U a,Deferred.ofValue]
 rw [this,Oper.uponIn_defer];have h:=k {a with defers:=⟨.fn (.func f) #[],#[v]⟩::cx.D} w ⟨I.size,rfl,I.fit,I.sat⟩
 have e:C9 env {a with defers:=⟨.fn (.func f) #[],#[v]⟩::cx.D}={C9 env a with defers:=⟨.fn (.func f) #[],#[v]⟩::(C9 env a).defers}:=by
  rw [FI,FO,I.defers]
 rw [e]at h;exact h
end
theorem fO{P:Program}{fn:Func}{tmps:AK}{fa f:FuncId}{va caps:AK}{ma m':FrameMode}{w u:AD}{Hd Rr R:Hp}{Qd:Hp->Prop}{Q:A4->Hp->Prop}{Pn:List PanicEntry->Hp->Prop}
 (U:settle ma= .returning)(J:∀(args:AK) (w:AD),(callFunc fa args).run P w= .ok (.enter fa args) w)(K:PT P fa va .returning ma [] (fun H'=>H'=[]))
 (O:settle m'= .returning)(hc:∀(args:AK) (w:AD),(callFunc f args).run P w= .ok (.enter f args) w)(W:PT P f caps .returning m' Hd Qd)(X:Sat u (Hd++Rr) w)
 (G:∀H1 B,Qd H1->Sat u (H1++Rr) B->∃v H',(results fn tmps).run P B= .ok v B/\Q v H'/\Sat u (H'++R) B):
 LeavesInM Fence.wide 0 P fn tmps (GJ u R Q Pn) [⟨.fn (.func fa) #[],va⟩,⟨.fn (.func f) caps,#[]⟩] .returning w:=by
 refine ⟨by simp,.inr ⟨fun h=>by simp [Fence.wide]at h,.func fa,#[],fa,va,V,?_,fun _ _=>trivial,?_⟩⟩;· simp [invoke,J]
 · refine Qs (K u (Hd++Rr) w X) ?_
   rintro e Z B ⟨v,H1,rfl,rfl,rfl,I⟩;show LeavesInM Fence.wide 0 P fn tmps (GJ u R Q Pn) [⟨.fn (.func f) caps,#[]⟩] (settle Z) B
   rw [U];exact fP B4 O hc W I G
section
variable{P:Program}{N:Nat}{u:AD}{fn:Func}{R H Hd Rr:Hp}{Q:A4->Hp->Prop}{Pn:List PanicEntry->Hp->Prop}{env:Env}{e:Exit}{fa f:FuncId}{va caps:AK}{Qd:Hp->Prop}{ma m':FrameMode}
theorem si(he:FD e=true)(W:settle ma= .returning)(K:∀(args:AK) (w:AD),(callFunc fa args).run P w= .ok (.enter fa args) w)(O:PT P fa va .returning ma [] (fun H'=>H'=[]))
 (U:settle m'= .returning)(hc:∀(args:AK) (w:AD),(callFunc f args).run P w= .ok (.enter f args) w)(hd:PT P f caps .returning m' Hd Qd)(hp:Ex Hd H Rr)
 (I:∀H1,Qd H1->∃v H',(∀(a:Act) (w:AD),Fit a.tmps.size env->Sat u (H1++Rr) w->(results fn (C9 env a).tmps).run P w= .ok v w)/\Q v H'/\wJ (H'++R) (H1++Rr)):
 Nx ⟨N,[⟨.fn (.func fa) #[],va⟩,⟨.fn (.func f) caps,#[]⟩],u,none⟩ (bodyPostM Fence.wide 0 P fn (GJ u R Q Pn) e) env H:=fun a w J=>by
 have X:(C9 env a).defers=[⟨.fn (.func fa) #[],va⟩,⟨.fn (.func f) caps,#[]⟩]:=by rw [FO];exact J.defers
 have G:LeavesInM Fence.wide 0 P fn (C9 env a).tmps (GJ u R Q Pn) (C9 env a).defers .returning w:=by
  rw [X];refine fO W K O U hc hd (J.sat.perm hp.perm) fun H1 w' hq B=>?_;obtain ⟨v,H',h2,Z,h4⟩:=I H1 hq;exact ⟨v,H',h2 a w' (by rw [J.size];exact J.fit) B,Z,B.sub h4⟩
 cases e<;>first|exact G|simp [FD]at he
end
theorem ah{P:Program}{f:FuncId}{fn:Func}{y:Code}{args:AK}{N:Nat}{m:FrameMode}{H:Hp}{Qd:Hp->Prop}(hf:P.funcs[f]?=some fn)(hb:fn.body=some y)(hN:fn.ntmps=N)(hs:Nat.ble args.size N=true)
 (h:∀u R,At P ⟨N,[],u,none⟩ y (bodyPost P fn (GJ u R (fun _ H'=>Qd H') (fun _ _=>False))) (Fa 0 args.toList) (H++R)):PT P f args m m H Qd:=fun u R w O=>by
 have Z:args.size<=N:=db hs;have K:C9 (Fa 0 args.toList) {tmps:=args++Array.replicate (fn.ntmps -args.size) undef,defers:=[]}={tmps:=args++Array.replicate (fn.ntmps -args.size) undef,defers:=[]}:=by
  refine KI _ fun p hp=>?_;obtain ⟨_,h2⟩:=FL _ _ _ hp;simp only [S5,HQ]at h2;have af:p.1<args.size:=by
   rcases FF p.1 args.size with h|h
   · exact h
   · simp [ID h]at h2
  rw [el af];exact h2
 refine callsDIn_of_wpSIn (F:=Fence.wide) hf hb trivial fun W cs hm=>?_;have J:({W with mode:=m}:Frame)=W:=by cases W;simp only at hm;subst hm;rfl
 rw [<-K];refine wpSIn_of_wpIn V (wpIn_mono (h u R _ w ⟨by simp [hN];omega,V,fun p hp=>?_,O⟩) ?_)
 · obtain ⟨_,h2⟩:=FL _ _ _ hp
   simp only [S5,HQ]at h2;rcases FF p.1 args.size with h|h
   · exact mN h Z
   · simp [ID h]at h2
 · intro e a2 w2 B
   cases e with
   |normal=>
    obtain ⟨U,v,hr,I⟩:=B;rcases I with⟨v',H',G,h2,X⟩|⟨_,_,_,h4,_⟩
    · exact ⟨U,m,by rw [J],v,hr,v',H',G,rfl,h2,X⟩
    · exact h4.elim
   |ret=>
    obtain ⟨U,v,hr,I⟩:=B;rcases I with⟨v',H',G,h2,X⟩|⟨_,_,_,h4,_⟩
    · exact ⟨U,m,by rw [J],v,hr,v',H',G,rfl,h2,X⟩
    · exact h4.elim
   |panic ch=>
    obtain ⟨U,I⟩:=B;rcases I with⟨_,_,G,_⟩|⟨_,_,_,h4,_⟩
    · cases G
    · exact h4.elim
   |outgrown=>
    rcases B with⟨_,_,G,_⟩|⟨_,_,_,h4,_⟩
    · cases G
    · exact h4.elim
   |exit i=>exact B.elim
   |goto i=>exact B.elim
section
variable{P:Program}{u:AD}{env:Env}{H R:Hp}{d:Option Nat}{ty:AM}{pos:String}{af:Array Edge}{g:Option (Nat×Bool)}
theorem uy{t e:AM}{f0 f1 f2 f3:Field}(w:AD)(n:Nat)(x0 x1 x2 x3 y0 y1 y2 y3:Int)(hu:P.underlying t=some (.struct #[f0,f1,f2,f3]))(hst:P.stoodInHeld t=false)
 (h0:f0.name≠ "_"∧f0.type=e∧f0.offset=0)(h1:f1.name≠ "_"∧f1.type=e∧f1.offset=1)(h2:f2.name≠ "_"∧f2.type=e∧f2.offset=2)(h3:f3.name≠ "_"∧f3.type=e∧f3.offset=3)
 (he:P.underlying e=some (.int .i64))(ha:∀w:AD,(isAgg e).run P w= .ok false w):
 (Op.equalIn (n+2) t (.agg #[I4 x0,I4 x1,I4 x2,I4 x3]) (.agg #[I4 y0,I4 y1,I4 y2,I4 y3])).run P w= .ok (decide (x0=y0/\x1=y1/\x2=y2/\x3=y3)) w:=by
 obtain ⟨n0,e0,o0⟩:=h0;obtain ⟨n1,e1,o1⟩:=h1;obtain ⟨n2,e2,o2⟩:=h2;obtain ⟨n3,e3,o3⟩:=h3;have ei:∀(m k:Int) (w:AD),(Op.equalIn (n+1) e (I4 m) (I4 k)).run P w= .ok (decide (m=k)) w:=fun m k w=>jf n w he m k
 have p0:∀(v0 v1 v2 v3:A4) (w:AD),(part e #[v0,v1,v2,v3] 0).run P w= .ok v0 w:=fun _ _ _ _ w=>Hu w (ha w) _ _ rfl;have p1:∀(v0 v1 v2 v3:A4) (w:AD),(part e #[v0,v1,v2,v3] 1).run P w= .ok v1 w:=fun _ _ _ _ w=>Hu w (ha w) _ _ rfl
 have p2:∀(v0 v1 v2 v3:A4) (w:AD),(part e #[v0,v1,v2,v3] 2).run P w= .ok v2 w:=fun _ _ _ _ w=>Hu w (ha w) _ _ rfl;have p3:∀(v0 v1 v2 v3:A4) (w:AD),(part e #[v0,v1,v2,v3] 3).run P w= .ok v3 w:=fun _ _ _ _ w=>Hu w (ha w) _ _ rfl
 rw [show n+2=(n+1)+1 from rfl,Op.equalIn];generalize n+1=m at*;simp only [Sem.run_bind,run_underlying hu,Result.andThen_ok,run_program,hst,N0,HT];rw [<-Array.forIn_toList];simp only [List.forIn_cons,List.forIn_nil,n0,n1,n2,n3,e0,e1,e2,e3,o0,o1,o2,o3,ne_eq,not_false_eq_true,Hv];simp only [Sem.run_bind,p0,p1,p2,p3,ei,Result.andThen_ok];by_cases c0:x0=y0
 · by_cases c1:x1=y1
   · by_cases c2:x2=y2
     · by_cases c3:x3=y3<;>simp [c0,c1,c2,c3,p0,p1,p2,p3,ei,n1,n2,n3]
     · simp [c0,c1,c2,p0,p1,p2,p3,ei,n1,n2,n3]
   · simp [c0,c1,p0,p1,p2,p3,ei,n1,n2,n3]
 · simp [c0,p0,p1,p2,p3,ei,n1,n2,n3]
theorem Yx{t yt e:AM}{f0 f1 f2 f3:Field}{x y:Operand}{x0 x1 x2 x3 y0 y1 y2 y3:Int}(hg:P.eqGuardType P.depth t=false)(hu:P.underlying t=some (.struct #[f0,f1,f2,f3]))(hst:P.stoodInHeld t=false)
 (h0:f0.name≠ "_"∧f0.type=e∧f0.offset=0)(h1:f1.name≠ "_"∧f1.type=e∧f1.offset=1)(h2:f2.name≠ "_"∧f2.type=e∧f2.offset=2)(h3:f3.name≠ "_"∧f3.type=e∧f3.offset=3)
 (he:P.underlying e=some (.int .i64))(ha:∀w:AD,(isAgg e).run P w= .ok false w)
 (hx:∀a,ev a env x= .agg #[I4 x0,I4 x1,I4 x2,I4 x3])(hy:∀a,ev a env y= .agg #[I4 y0,I4 y1,I4 y2,I4 y3]):OpP P ⟨d,.binOp .eql t x y yt,ty,pos,af,g⟩ env [] (.bool (decide (x0=y0/\x1=y1/\x2=y2/\x3=y3))):=fun a w _=>by
 simp [Cw,hx a,hy a,go_sem,run_eqGuard_agg w _ t _ _ _ _ hg,Qu,Op.equal,Op.maxDepth,uy w 9998 x0 x1 x2 x3 y0 y1 y2 y3 hu hst h0 h1 h2 h3 he ha]
end
def IL(b:Nat)(o:Obj)(s:List A9):List A9:=s.map fun p=>if p.1=b then(b,o)else p
theorem kI(b:Nat)(o:Obj)(s:List A9):(IL b o s).map (·.1)=s.map (·.1):=by
 unfold IL;rw [K0];apply Wc;intro p _;show(if p.1=b then(b,o)else p).1=p.1
 split;· rename_i h;exact h.symm
 · rfl
theorem pu{b:Nat}{o:Obj}{s:List A9}{p:A9}(h:p∈IL b o s):p=(b,o)\/(p.1≠b/\p∈s):=by
 obtain ⟨q,B,e⟩:=C6.1 h;split at e;· exact .inl e.symm
 · rename_i hn;subst e;exact .inr ⟨hn,B⟩
theorem YK{u w G:AD}{H R:Hp}{s:List A9}{b:Nat}{o o':Obj}(B:Sat u H w)(X:One s H R)(hm:(b,o)∈s)(e1:G.os=w.os)(e2:G.tape=w.tape)(W:G.output=w.output)
 (Z:G.heap[b]?=some o')(U:∀k,k≠b->G.heap[k]?=w.heap[k]?):Sat u (IL b o' s::R) G:=by
 have O:=X.perm;have J:((s++R.flatten).map (·.1)).Nodup:=(O.map _).nodup_iff.1 B.nodup
 refine ⟨e1.trans B.os,e2.trans B.tape,W.trans B.output,?_,fun p I=>?_⟩;· rw [CA,C0,kI,<-C0];exact J
 · rw [CA]at I
   rcases C2.1 I with h|h
   · rcases pu h with rfl|⟨h2,h3⟩
     · exact Z
     · rw [U _ h2];exact B.get p (O.mem_iff.2 (Ek _ h3))
   · have K:p.1≠b:=fun e=>by
      rw [C0,GW]at J;exact J.2.2 b (C6.2 ⟨_,hm,V⟩) p.1 (DS h) e.symm
     rw [U _ K];exact B.get p (O.mem_iff.2 (G2 _ h))
theorem H5{P:Program}{cx:Cx}{c:Code}{Q:Exit->Act->AD->Prop}{env:Env}{H R:Hp}{s:List A9}(G:One s H R)(k:(s.map (·.1)).Nodup->At P cx c Q env H):At P cx c Q env H:=fun a w B=>k (by
 have:=B.sat.nodup;rw [(G.perm.map (·.1)).nodup_iff,C0]at this;exact (GW.1 this).1) a w B
theorem tU{P:Program}{cx:Cx}{c:Code}{Q:Exit->Act->AD->Prop}{env:Env}{H R R2:Hp}{s:List A9}{b:Nat}{y:Obj}(G:One [(b,y)] H R)(h2:One s R R2)(k:b∉s.map (·.1)->At P cx c Q env H):At P cx c Q env H:=fun a w B=>k (fun I=>by
 have:=B.sat.nodup;rw [((G.perm.trans (RT _ h2.perm)).map (·.1)).nodup_iff,C0,C0]at this;exact (GW.1 this).2.2 b B4 b (Ek _ I) V) a w B
theorem Dy{s:List A9}{H R:Hp}(h:One s H R){b:Nat}{x:Obj}(B:(b,x)∈s):(b,x)∈H.flatten:=h.perm.mem_iff.2 (Ek _ B)
theorem IX{s:List A9}{H R:Hp}(h:One s H R){p:A9}(B:p∈s):∀c∈[p],c∈H.flatten:=fun c hc=>by
 rw [C5.1 hc];exact h.perm.mem_iff.2 (Ek _ B)
section
variable{P:Program}{u:AD}{env:Env}{H R:Hp}{d:Option Nat}{ty:AM}{pos:String}{af:Array Edge}{g:Option (Nat×Bool)}
theorem Fh{t:AM}{x y:Operand}{b i:Nat}{c:AK}{T:AM}{z:Nat×Nat}{v:A4}{s X:List A9}(hs:∀w:AD,(Go.sizeOf t).run P w= .ok 1 w)(hx:∀a,ev a env x= .pointer (some ⟨b,i,none⟩))(hy:∀a,ev a env y=v)(J:v.oneCell'=true)
 (W:One s H R)(U:(b,.cells c T z)∈s)(hc:IL b (.cells (c.setIfInBounds i v) T z) s=X)(hi:i<c.size)(hz:Ie z c.size):
 OpW P u ⟨d,.store t x y,ty,pos,af,g⟩ env H (fun v' H1=>v'=undef/\H1=X::R) (fun _ _=>False):=fun a w G K Kp Z _=>by
 have O:=G.get _ (W.perm.mem_iff.2 (Ek _ U));have B:v.cells=#[v]:=by cases v<;>first|rfl|simp [Value.oneCell']at J
 have I:=Ju (P:=P) O hi hz J;have:(execOp (ev a env) ⟨d,.store t x y,ty,pos,af,g⟩).run P w= .ok .skip (w.setCell ⟨b,i,none⟩ v):=by
  simp [RG,hx a,hy a,Instr.storeAt,Instr.sureAddr,storeVar,hs,B,storeCells,Addr.add_zero',I]
 rw [this];exact Z _ _ _ ⟨V,V⟩ (hc▸YK G W U V rfl V (PD v O) fun k hk=>La v hk)
theorem OA{t:AM}{x y:Operand}{b i n:Nat}{c cs:AK}{T:AM}{z:Nat×Nat}{s U:List A9}(hs:∀w:AD,(Go.sizeOf t).run P w= .ok n w)(hx:∀a,ev a env x= .pointer (some ⟨b,i,none⟩))(hy:∀a,ev a env y= .agg cs)(W:∀v∈cs.toList,v.oneCell'=true)
 (O:One s H R)(J:(b,.cells c T z)∈s)(hc:IL b (.cells (EM c i cs.toList) T z) s=U)(hn:cs.size=n)(hi:i+n<=c.size)(hz:Ie z c.size):
 OpW P u ⟨d,.store t x y,ty,pos,af,g⟩ env H (fun v' H1=>v'=undef/\H1=U::R) (fun _ _=>False):=fun a w B K Kp X _=>by
 have I:=B.get _ (O.perm.mem_iff.2 (Ek _ J));have G:=Cj (P:=P) b i T z cs.toList 0 c w I hz (by simp;omega) W
 simp only [Pu]at G;have:(execOp (ev a env) ⟨d,.store t x y,ty,pos,af,g⟩).run P w= .ok .skip (w.setRow b (EM c i cs.toList)):=by
  simp [RG,hx a,hy a,Instr.storeAt,Instr.sureAddr,storeVar,hs,Value.cells,hn,G,EM]
 rw [this];exact X _ _ _ ⟨rfl,rfl⟩ (hc▸YK B O J rfl rfl rfl (by rw [setRow_heap w b c _ T z I]) fun k Z=>setRow_other w b k _ Z)
end
end Gw
namespace Gw
open Go Go.RowKit
open Go.ChangeMaps (setBlock)
section
variable{α:Type}{P:Program}{κ:α->A4}{D:α->Prop}{u:AD}{env:Env}{H R:Hp}{d:Option Nat}{ty:AM}{pos:String}{af:Array Edge}{g:Option (Nat×Bool)}{t kt et:AM}{m x y:Operand}{r:Nat}{es:Array MapEntry}{clock:Nat}{l:List (α×A4)}{k:α}{z v:A4}
def yn(es:Array MapEntry)(j st:Nat):Prop:=∃e,es.toList[j]?=some e/\e.born=st
theorem tJ{es:Array MapEntry}{j:Nat}{e0:MapEntry}{kv:A4}(h:es[j]?=some e0)(G:e0.key=kv):(es.modify j fun e=>{e with key:=kv})=es:=by
 obtain ⟨J,B⟩:=HU.1 h;apply ju B4;intro i I h2;rw [Array.getElem_modify];split
 · rename_i e;subst e
   rw [B];subst G;rfl
 · rfl
theorem Ki [DecidableEq α]{v0:A4}(hK:G5 P kt κ D)(ht:P.underlying t=some (.map kt et))(hz:∀w:AD,(zeroValue et).run P w= .ok z w)(I:Co κ es clock l)(hl:∀p∈l,D p.1)(hk:D k)(hv:(Dp k l).getD z=v0)(hx:∀a,ev a env m= .map (some r))(hy:∀a,ev a env x=κ k)(U:One [(r,.map es clock)] H R):
 OpW P u ⟨d,.mapEntry t m x,ty,pos,af,g⟩ env H (fun v' H1=>∃G B O j st,v'= .tuple #[v0,I4 ((st:Nat):Int)]/\Co κ G B O/\O[j]?=some (k,v0)/\yn G j st/\(∀p,p∈O↔p=(k,v0)\/(p∈l/\p.1≠k))/\H1=[(r,.map G B)]::R) (fun _ _=>False):=fun a w W K Kp d9 _=>by
 obtain ⟨hb,_⟩:=Ja U W (.map es clock)
 suffices hrun:∃G B O j st,(Instr.mapEntry t (.map (some r)) (κ k)).run P w= .ok (.tuple #[v0,I4 ((st:Nat):Int)]) (setBlock w r (.map G B))/\Co κ G B O/\O[j]?=some (k,v0)/\yn G j st/\∀p,p∈O↔p=(k,v0)\/(p∈l/\p.1≠k) by
  obtain ⟨G,B,O,j,st,h1,h2,h3,h4,h5⟩:=hrun;have:(execOp (ev a env) ⟨d,.mapEntry t m x,ty,pos,af,g⟩).run P w= .ok (.value (.tuple #[v0,I4 ((st:Nat):Int)])) (setBlock w r (.map G B)):=by
   show((do pure (Next.value (<-Instr.mapEntry t (ev a env m) (ev a env x))):Sem Next)).run P w=_;rw [hx a,hy a,Sem.run_bind,h1];rfl
  rw [this];exact d9 _ _ _ ⟨G,B,O,j,st,V,h2,h3,h4,h5,V⟩ (Ja U W _).2
 rcases I8 hK I hl w k hk with⟨h1,h2⟩|⟨j,q,h1,h2⟩
 · rw [Da h2]at hv
   subst hv;refine ⟨es.push {key:=κ k,val:=z,born:=clock},clock+1,l++[(k,z)],l.length,clock,?_,⟨?_,?_,?_,?_⟩,by simp,⟨{key:=κ k,val:=z,born:=clock},by rw [<-I.size];simp,rfl⟩,?_⟩
   · simp only [Instr.mapEntry,Sem.run_bind,run_underlying ht,Result.andThen,MapKept.run_getObj_map hb,F7 hK hk,h1,hz,Fp hb,Sem.run_pure]
     rfl
   · simp [I.pairs]
   · simp only [mT,C0,Dd,JT]
     rw [GW];refine ⟨I.born,by simp,?_⟩;intro a ha b J ax;simp only [C6,C5]at ha J;obtain ⟨e,Z,rfl⟩:=ha;have:=I.old e Z
     omega
   · intro e Z
     simp only [mT,C2,C5]at Z;rcases Z with Z|rfl
     · have:=I.old e Z;omega
     · simp
   · rw [C0,GW]
     refine ⟨I.keys,by simp,?_⟩;intro a ha b J ax;simp only [Dd,JT,C5]at J;obtain ⟨p,hp,rfl⟩:=C6.1 ha;exact h2 p hp (by rw [ax,J])
   · intro p
     rw [C2,C5];constructor
     · rintro (h|rfl)
       · exact .inr ⟨h,h2 p h⟩
       · exact .inl rfl
     · rintro (rfl|⟨h,_⟩)
       · exact .inr rfl
       · exact .inl h
 · obtain ⟨e0,bn,cu,ek⟩:=I.of h2
   have hq:Dp k l=some q:=D7 I.keys (DQ h2);rw [hq]at hv;subst hv;have X:es[j]?=some e0:=by simpa using bn
   have dn:(Instr.keyThatStays (((es[j]?).map (·.key)).getD (κ k)) (κ k)).run P w= .ok (κ k) w:=by
    rw [X];show(Instr.keyThatStays e0.key (κ k)).run P w=_
    rw [cu];exact hK.stays w k hk
   refine ⟨es,clock,l,j,e0.born,?_,I,h2,⟨e0,bn,V⟩,fun p=>⟨fun h=>?_,fun h=>?_⟩⟩
   · simp only [Instr.mapEntry,Sem.run_bind,run_underlying ht,Result.andThen,MapKept.run_getObj_map hb,F7 hK hk,h1,dn,Fp hb,Sem.run_pure]
     rw [tJ X cu,X];rfl
   · by_cases cO:p.1=k
     · refine .inl ?_
       obtain ⟨i,hi⟩:=HH h;obtain rfl:=LQ I.keys hi h2 cO;rw [h2]at hi;exact (S2 hi).symm
     · exact .inr ⟨h,cO⟩
   · rcases h with rfl|⟨h,_⟩
     · exact DQ h2
     · exact h
theorem ol{es:Array MapEntry}{j st:Nat}(W:(es.toList.map (·.born)).Nodup)(h:yn es j st):es.findIdx? (fun e=>(e.born:Int)==(st:Int))=some j:=by
 obtain ⟨e,I,O⟩:=h;have J:=(C4.1 I).1
 rw [show es.findIdx? (fun e=>(e.born:Int)==(st:Int))=es.toList.findIdx? (fun e=>(e.born:Int)==(st:Int)) from by rw [<-List.findIdx?_toArray,Array.toArray_toList],an];refine ⟨J,?_,fun i hi=>?_⟩
 · have G:es.toList[j]=e:=(C4.1 I).2
   rw [G,O];simp
 · have B:i<es.toList.length:=by omega
   intro G;have U:(es.toList[i]).born=st:=by have K:=beq_iff_eq.1 G;omega
   have K:(es.toList.map (·.born))[i]?=(es.toList.map (·.born))[j]?:=by
    rw [DP,DP,I,BT B];show some (es.toList[i]).born=some e.born
    rw [U,O]
   have:=(oT (by simpa using B) W).1 K;omega
theorem Iu{j st:Nat}{v0:A4}(O:Co κ es clock l)(Z:l[j]?=some (k,v0))(hb:yn es j st)(hx:∀a,ev a env m= .map (some r))(hs:∀a,ev a env x=I4 ((st:Nat):Int))(hy:∀a,ev a env y=v)(I:One [(r,.map es clock)] H R):
 OpW P u ⟨d,.entryStore t m x y,ty,pos,af,g⟩ env H (fun v' H1=>v'=undef/\∃U G l',Co κ U G l'/\(∀p,p∈l'↔p=(k,v)\/(p∈l/\p.1≠k))/\H1=[(r,.map U G)]::R) (fun _ _=>False):=fun a w J K Kp ax _=>by
 obtain ⟨W,_⟩:=Ja I J (.map es clock);obtain ⟨e0,bn,cu,cO⟩:=O.of Z;have X:(Instr.entryStore t (.map (some r)) (I4 ((st:Nat):Int)) v).run P w= .ok () (setBlock w r (.map (es.modify j fun e=>{e with val:=v}) clock)):=by
  simp only [Instr.entryStore,Sem.run_bind,Result.andThen,MapKept.run_getObj_map W,asInt,asIntOf,Sem.run_pure,ol O.born hb,Fp W]
 have:(execOp (ev a env) ⟨d,.entryStore t m x y,ty,pos,af,g⟩).run P w= .ok .skip (setBlock w r (.map (es.modify j fun e=>{e with val:=v}) clock)):=by
  show((do Instr.entryStore t (ev a env m) (ev a env x) (ev a env y);pure Next.skip):Sem Next).run P w=_;rw [hx a,hs a,hy a,Sem.run_bind,X];rfl
 rw [this];refine ax _ _ _ ⟨V,_,clock,l.set j (k,v),⟨?_,?_,?_,?_⟩,jP O.keys Z v,V⟩ (Ja I J _).2
 · rw [ew]
   apply Mb;intro i;have hj:(es.toList.map (fun e=>(e.key,e.val)))[i]?=(l.map (fun p=>(κ p.1,p.2)))[i]?:=by rw [O.pairs]
   rw [DP,DP]at hj;rw [DP,DP,er,T0];by_cases B:j=i
   · subst B
     rw [Ax rfl,Ax (C4.1 Z).1,bn];simp [cu]
   · simpa [B]using hj
 · have:(es.modify j fun e=>{e with val:=v}).toList.map (·.born)=es.toList.map (·.born):=by
    rw [ew];apply Mb;intro i;simp only [DP,er];by_cases B:j=i;· subst B;cases es.toList[j]?<;>simp
    · simp [B]
   rw [this];exact O.born
 · intro e he
   rw [ew]at he;obtain ⟨i,hi⟩:=HH he;simp only [er]at hi;cases h9:es.toList[i]?with
   |none=>simp [h9]at hi
   |some e1=>
    have:=O.old e1 (DQ h9);by_cases B:j=i
    · subst B
      simp only [h9,Hv,Option.map_eq_map,N2,Wk]at hi;subst hi;exact this
    · simp [h9,B]at hi
      subst hi;exact this
 · rw [ZJ Z v];exact O.keys
end
end Gw
namespace Gw
open Go Go.RowKit
def Kc{α:Type}(P:Program)(gf:FuncId)(lb:AK)(Hit:Hp)(A:List α->List A9->Prop)(encs:α->AK)(Adm Full:List α->Prop):Prop:=
 ∀(l:Nat) (J:List α->List A9->Prop),(∀pre s,J pre s->A pre s)->(∀pre x s,Adm (pre++[x])->J pre s->GH P l (encs x) [s] (fun v H'=>∃s',v= .bool true/\H'=[s']/\J (pre++[x]) s'))->
  ∀s,J [] s->BR P gf (#[.func (.yield l) #[] #[]]++lb) (Hit++[s]) (fun _ H'=>∃ys s',Full ys/\H'=[s']/\J ys s')
theorem Ef.toC{α:Type}{P:Program}{I:FuncId}{K:AK}{G:Hp}{A:List A9->Prop}{B:α->AK}{xs:List α}(h:Ef P I K G A B xs):Kc P I K G (fun _=>A) B (fun p=>∃post,xs=p++post) (fun ys=>ys=xs):=fun l J U Z s h0=>
 (h l J U (fun pre x post s X W=>Z pre x s ⟨post,by rw [X,CT];rfl⟩ W) s h0).mono (by
   rintro v H' ⟨s',O,h2⟩;exact ⟨xs,s',V,O,h2⟩)
theorem J6{α:Type}{A:List α->List A9->Prop}{Adm Full:List α->Prop}{P:Program}{cx:Cx}{Q:Exit->Act->AD->Prop}{env:Env}{H Z H0 R:Hp}{g:Operand}{ps:Array Tmp}{B O:Code}{gf:FuncId}{lb:AK}{G:α->AK}
 (I:List α->Hp->Prop)(E:α->Env->Hp->Prop)(hr:cx.r=none)(hg:∀a,ev a env g= .func (.func gf) #[] lb)(W:∀(args:AK) (w:AD),(callFunc gf args).run P w= .ok (.enter gf args) w)
 (X:Kc P gf lb Z A G Adm Full)(hA:∀pre H1 c d,I pre H1->A pre ([c,d]++H1.flatten))(bn:∀x,(G x).size=ps.size)(ax:(ps.toList.all fun t=>Nat.blt t cx.N)=true)(hp:Ex (Z++H0) H R)(h0:I [] H0)
 (K:∀(l:Nat) (x:α) (u:AD) (H:Hp),At P ⟨cx.N,[],u,some l⟩ B (Exit.then (fun a w=>∃e Hn,E x e Hn/\Is ⟨cx.N,[],u,some l⟩ (e++env) (Hn++H) a w) (fun _ _ _=>False)) ((ps.toList.zip (G x).toList).reverse++env) H)
 (U:∀(l:Nat) (pre:List α) (x:α) (u:AD) (e:Env) (Hn H1 R1:Hp) (r0:Loop),Adm (pre++[x])->I pre H1->E x e Hn->At P ⟨cx.N,[],u,some l⟩ O (Ic u I (pre++[x]) ([(l,.loop r0)]::R1)) (e++env) (H1++(Hn++([(l,.loop r0)]::R1))))
 (hk:∀(D:Nat) (ys:List α) (H2:Hp),Full ys->I ys H2->Nx ⟨cx.N,⟨.collected D,#[]⟩::cx.D,cx.u,none⟩ (Q .normal) env ([(D,.deferred (some []))]::(H2++R))):At P cx (.rangeFunc g ps B O) Q env H:=
 Mv (Hk:=[]) (St:=False) (Enc:=yX G) I (fun _ _=>False) (fun x _ _ e Hn=>E x e Hn) hr hg W (fun l J Jx af hX hy s h9=>(X l J af (fun pre x s ha hj=>NR (hy pre x s _ [] ha hj ⟨rfl,rfl⟩) fun v H' ⟨s',h1,h2⟩=>h2.elim (fun h=>⟨s',h.1,h1,h.2⟩) fun h=>(hX _ _ h.2).elim) s h9).mono (by rintro v H' ⟨ys,s',h1,h2,h3⟩;exact ⟨s',h2,.inl ⟨ys,h1,h3⟩⟩)) (fun _ _ h=>h) hA (fun x vs sx he=>by rw [he.1];exact bn x) ax hp h0
  (fun l x vs sx u H he=>by obtain ⟨rfl,rfl⟩:=he;exact K l x u H)
  (fun l pre x u vs sx e Hn H1 R1 r0 hx hI he hE=>by
    obtain ⟨rfl,rfl⟩:=he;exact UB (Po (U l pre x u e Hn H1 R1 r0 hx hI hE)) fun f h h1 h2=>by simp only [CA,HB,Fi,h,h1,h2];omega) (fun D ys H2 hf hI=>hk D ys H2 hf hI) fun _ _ _ h=>h.elim
theorem PR{α:Type}{A:List A9->Prop}{P:Program}{cx:Cx}{Q:Exit->Act->AD->Prop}{env:Env}{H X H0 R:Hp}{g:Operand}{ps:Array Tmp}{B K:Code}{gf:FuncId}{lb:AK}{G:α->AK}{xs:List α}
 (I:List α->Hp->Prop)(E:α->Env->Hp->Prop)(hr:cx.r=none)(hg:∀a,ev a env g= .func (.func gf) #[] lb)(U:∀(args:AK) (w:AD),(callFunc gf args).run P w= .ok (.enter gf args) w)
 (W:Ef P gf lb X A G xs)(hA:∀pre H1 c d,I pre H1->A ([c,d]++H1.flatten))(ax:∀x,(G x).size=ps.size)(af:(ps.toList.all fun t=>Nat.blt t cx.N)=true)(hp:Ex (X++H0) H R)(h0:I [] H0)
 (J:∀(l:Nat) (x:α) (u:AD) (H:Hp),At P ⟨cx.N,[],u,some l⟩ B (Exit.then (fun a w=>∃e Hn,E x e Hn/\Is ⟨cx.N,[],u,some l⟩ (e++env) (Hn++H) a w) (fun _ _ _=>False)) ((ps.toList.zip (G x).toList).reverse++env) H)
 (O:∀(l:Nat) (pre:List α) (x:α) (post:List α) (u:AD) (e:Env) (Hn H1 R1:Hp) (r0:Loop),xs=pre++x::post->I pre H1->E x e Hn->At P ⟨cx.N,[],u,some l⟩ K (Ic u I (pre++[x]) ([(l,.loop r0)]::R1)) (e++env) (H1++(Hn++([(l,.loop r0)]::R1))))
 (hk:∀(D:Nat) (Z:Hp),I xs Z->Nx ⟨cx.N,⟨.collected D,#[]⟩::cx.D,cx.u,none⟩ (Q .normal) env ([(D,.deferred (some []))]::(Z++R))):At P cx (.rangeFunc g ps B K) Q env H:=
 J6 I E hr hg U W.toC hA ax af hp h0 J (fun l pre x u e Hn H1 R1 r0 ⟨post,h⟩=>O l pre x post u e Hn H1 R1 r0 (by rw [h,CT];rfl)) fun D ys Z h hI=>hk D Z (h▸hI)
theorem iK{α:Type}{A:List A9->Prop}{P:Program}{cx:Cx}{Q:Exit->Act->AD->Prop}{env:Env}{H O H0 R:Hp}{g:Operand}{ps:Array Tmp}{assign body:Code}{gf:FuncId}{lb:AK}{G:α->AK}{xs:List α}{l0:Nat}{r0:Loop}
 (I:List α->Hp->Prop)(E:α->Env->Hp->Prop)(hr:cx.r=some l0)(ic:Has l0 (.loop r0) H)(hg:∀a,ev a env g= .func (.func gf) #[] lb)(dn:∀(args:AK) (w:AD),(callFunc gf args).run P w= .ok (.enter gf args) w)
 (gq:Ef P gf lb O A G xs)(hA:∀pre H1 c,I pre H1->A ([c]++H1.flatten))(q9:∀x,(G x).size=ps.size)(pz:(ps.toList.all fun t=>Nat.blt t cx.N)=true)(hp:Ex (O++H0) H R)(h0:I [] H0)
 (U:∀(l:Nat) (x:α) (u:AD) (H:Hp),At P ⟨cx.N,[],u,some l⟩ assign (Exit.then (fun a w=>∃e Hn,E x e Hn/\Is ⟨cx.N,[],u,some l⟩ (e++env) (Hn++H) a w) (fun _ _ _=>False)) ((ps.toList.zip (G x).toList).reverse++env) H)
 (d9:∀(l:Nat) (pre:List α) (x:α) (post:List α) (u:AD) (e:Env) (Hn H1 R1:Hp) (r1:Loop),xs=pre++x::post->I pre H1->E x e Hn->At P ⟨cx.N,[],u,some l⟩ body (Ic u I (pre++[x]) ([(l,.loop r1)]::R1)) (e++env) (H1++(Hn++([(l,.loop r1)]::R1))))
 (hk:∀(H2:Hp),I xs H2->Nx cx (Q .normal) env (H2++R)):At P cx (.rangeFunc g ps assign body) Q env H:=by
 intro a w hs;refine wpIn_rangeFunc ?_;intro fn qw;have qa:(Fx cx.r).round=some l0:=hr
 have p8:=hs.sat.get _ ic.mem;rw [qa];obtain ⟨B,J⟩:∃B:LoopState->Option Code->Loop,B=fun st pe=>{state:=st,pending:=pe,fn,tmps:=(C9 env a).tmps,params:=ps,assign,body,defers:=r0.defers}:=⟨_,rfl⟩;have l9:Sat cx.u ((O++H0)++R) w:=hs.sat.perm hp.perm
 have j5:Sat cx.u ([(w.heap.size,.loop (B .ready none))]::(O++H0++R)) (w.alloc (.loop (B .ready none))):=l9.alloc (.loop (B .ready none));have gm:Fit a.tmps.size env:=by rw [hs.size];exact hs.fit
 refine ⟨w.heap.size,[],w.alloc (.loop (B .ready none)),⟨.fn (.func gf) lb,#[.func (.yield (w.heap.size)) #[] #[]]⟩,w.alloc (.loop (B .ready none)),gf,
  #[.func (.yield (w.heap.size)) #[] #[]]++lb,w.alloc (.loop (B .ready none)),?_,?_,fun _ _=>trivial,?_,fun h=>by simp [Fx,Fence.wide]at h,?_⟩
 · rw [J];exact run_enterLoop_inner p8 _ _ _ _ _
 · simp only [resolve,FV a env gm,hg a]
   simp [Deferred.ofValue,ev,Act.eval]
 · simp [invoke,dn]
 · refine Xd ?_
   have hJ:=gq (w.heap.size) (fun pre s=>∃H1,I pre H1/\s=[(w.heap.size,.loop (B .ready none))]++H1.flatten) (by rintro pre _ ⟨H1,h1,rfl⟩;exact hA pre H1 _ h1) ?_ _ ⟨H0,h0,rfl⟩
   · have gy:([(w.heap.size,Obj.loop (B .ready none))]::(O++H0++R)).flatten.Perm ((O++[[(w.heap.size,Obj.loop (B .ready none))]++H0.flatten])++R).flatten:=by
      simp only [CA,HB,MY,PJ,Kx,Fi,D2,CT];exact N1.symm
     refine Calls.mono (hJ cx.u R _ (j5.perm gy)) fun e w2 he=>?_;rcases he with⟨v,H',rfl,⟨s',rfl,H2,cO,rfl⟩,kv⟩|⟨_,_,_,h,_⟩
     · have Z:Sat cx.u ([(w.heap.size,Obj.loop (B .ready none))]::(H2++R)) w2:=by
        refine kv.perm ?_;simp
       have hl:=Z.get (w.heap.size,Obj.loop (B .ready none)) B4;have X:=run_endLoop (P:=P) hl (by rw [J];simp)
       have pq:(B .ready none).pending=none:=by rw [J]
       have o9:=hk H2 cO a (w2.putObj w.heap.size (.loop {B .ready none with state:= .exhausted}))
        ⟨hs.size,hs.defers,hs.fit,(Z.turn (o':= .loop {B .ready none with state:= .exhausted})).sub ⟨[(w.heap.size,.loop {B .ready none with state:= .exhausted})],by
          simp only [CA];exact LR⟩⟩
       refine ⟨_,_,X,?_⟩;have key:∀(p:Option Code) (A:Act) (W:AD),p=none->Q .normal A W->(match p with|none=>Q .normal A W|some c=>c.wpIn (Fx cx.r) 0 P Q A W):=fun p A W h1 h2=>by subst h1;exact h2
       refine key _ _ _ pq ?_;exact o9
     · exact h.elim
   · rintro pre x post s qo ⟨H1,hI,rfl⟩ u R1 w1 ql K Kp hK
     have cu:Sat u ([(w.heap.size,Obj.loop (B .ready none))]::(H1++R1)) w1:=by
      refine ql.perm ?_;simp
     have hl:=cu.get (w.heap.size,Obj.loop (B .ready none)) B4;have hy:=run_yield (P:=P) (args:=G x) hl (by rw [J];exact q9 x)
     rw [hy];show RoundIn Fence.wide 0 P (w.heap.size) _ _ _ _ w1 _
     rw [J];refine roundIn_of_wpIn (F:=Fence.wide) trivial ?_;have qj:({tmps:=(ps.zip (G x)).foldl (fun tmps x=>match x with|(t,a)=>tmps.setIfInBounds t a) (C9 env a).tmps,defers:=[]}:Act)=C9 ((ps.toList.zip (G x).toList).reverse++env) {a with defers:=[]}:=by
      rw [Je,FI [] env a];have h1:(ps.zip (G x)).foldl (fun tmps x=>match x with|(t,a)=>tmps.setIfInBounds t a) (C9 env a).tmps=(C9 (ps.toList.zip (G x).toList).reverse (C9 env a)).tmps:=by
       rw [<-Nq,<-oR,Array.toList_zip]
      rw [h1,FI [] _ (C9 env a)]
     have ek:Fit cx.N ((ps.toList.zip (G x).toList).reverse++env):=by
      intro q hq;rcases C2.1 hq with hq|hq
      · have:=fR.1 hq
        have h2:=Lq.1 pz q.1 (List.of_mem_zip this).1;simpa using h2
      · exact hs.fit q hq
     have ha:=U (w.heap.size) x u ([(w.heap.size,Obj.loop (B .ready none))]::(H1++R1)) {a with defers:=[]} w1 ⟨hs.size,rfl,ek,cu⟩;rw [<-qj]at ha;refine wpIn_mono ha fun e a1 w2 he=>?_;cases e<;>first|exact he|skip
     obtain ⟨e9,Hn,hE,a2,af,rfl⟩:=he;have bn:Sat u ([(w.heap.size,Obj.loop (B .ready none))]::(H1++(Hn++R1))) w2:=by
      refine af.sat.perm ?_;simp only [CA,HB,MY];refine N1.trans (List.Perm.cons _ ?_);rw [<-CT,<-CT];exact LR.append_right _
     have p9:=bn.get (w.heap.size,Obj.loop (B .ready none)) B4;refine ⟨_,run_beginRound p9 (by rw [J]),?_⟩;have o8:Sat u (H1++(Hn++([(w.heap.size,Obj.loop {B .ready none with state:= .busy})]::R1))) (w2.putObj (w.heap.size) (.loop {B .ready none with state:= .busy})):=by
      refine (bn.turn (o':= .loop {B .ready none with state:= .busy})).perm ?_;simp only [CA,HB,MY];rw [<-CT,<-CT];exact N1.symm
     have hb:=d9 (w.heap.size) pre x post u e9 Hn H1 R1 _ qo hI hE a2 _ ⟨af.size,af.defers,af.fit,o8⟩;refine wpIn_mono hb fun e a3 w3 l5=>?_;cases e<;>first|exact l5.elim|skip
     obtain ⟨H2,cO,qb⟩:=l5;have ax:Sat u ([(w.heap.size,Obj.loop {B .ready none with state:= .busy})]::(H2++R1)) w3:=by
      refine qb.perm ?_;simp only [CA,HB,MY];exact N1
     have pg:=ax.get (w.heap.size,Obj.loop {B .ready none with state:= .busy}) B4;have X:=run_endRound (P:=P) none pg
     refine ⟨_,_,X,?_⟩;refine hK _ _ _ ⟨[(w.heap.size,.loop (B .ready none))]++H2.flatten,V,V,H2,cO,V⟩ ?_;have l8:=ax.turn (o':= .loop (B .ready none))
     have j3:({{B .ready none with state:=LoopState.busy}with state:=if(none:Option Code).isNone=true then LoopState.ready else .done,pending:=none}:Loop)=B .ready none:=by rw [J];rfl
     rw [j3];refine l8.perm ?_;simp
def Kb{α:Type}(P:Program)(gf:FuncId)(lb:AK)(Hit:Hp)(A:List A9->Prop)(encs:α->AK)(xs:List α):Prop:=
 ∀(l:Nat) (J Jx:List α->List A9->Prop),(∀pre s,J pre s->A s)->(∀pre x post s,xs=pre++x::post->J pre s->GH P l (encs x) [s] (fun v H'=>∃s',H'=[s']/\((v= .bool true/\J (pre++[x]) s')\/(v= .bool false/\Jx (pre++[x]) s'))))->
  ∀s,J [] s->BR P gf (#[.func (.yield l) #[] #[]]++lb) (Hit++[s]) (fun _ H'=>∃s',H'=[s']/\(J xs s'\/∃pre,Jx pre s'))
theorem Kb.all{α:Type}{P:Program}{W:FuncId}{X:AK}{G:Hp}{A:List A9->Prop}{B:α->AK}{xs:List α}(h:Kb P W X G A B xs):Ef P W X G A B xs:=fun l J hA hy s h0=>by
 refine (h l J (fun _ _=>False) hA (fun pre x post s hx hj=>?_) s h0).mono ?_
 · intro u R w hs K Z hK
   refine hy pre x post s hx hj u R w hs K Z fun v H' w' hq I=>hK v H' w' ?_ I;obtain ⟨U,O,h2,h3⟩:=hq;exact ⟨U,h2,.inl ⟨O,h3⟩⟩
 · rintro v H' ⟨U,O,h2|⟨_,h2⟩⟩
   · exact ⟨U,O,h2⟩
   · exact h2.elim
theorem PQ{α:Type}{A:List A9->Prop}{P:Program}{cx:Cx}{Q:Exit->Act->AD->Prop}{env:Env}{H af H0 R:Hp}{g:Operand}{ps:Array Tmp}{B O:Code}{gf:FuncId}{lb:AK}{G:α->AK}{xs:List α}
 (I Ix:List α->Hp->Prop)(E:α->Env->Hp->Prop)(hr:cx.r=none)(hg:∀a,ev a env g= .func (.func gf) #[] lb)(X:∀(args:AK) (w:AD),(callFunc gf args).run P w= .ok (.enter gf args) w)
 (Z:Kb P gf lb af A G xs)(hA:∀pre H1 c d,I pre H1->A ([c,d]++H1.flatten))(cO:∀x,(G x).size=ps.size)(cu:(ps.toList.all fun t=>Nat.blt t cx.N)=true)(hp:Ex (af++H0) H R)(h0:I [] H0)
 (K:∀(l:Nat) (x:α) (u:AD) (H:Hp),At P ⟨cx.N,[],u,some l⟩ B (Exit.then (fun a w=>∃e Hn,E x e Hn/\Is ⟨cx.N,[],u,some l⟩ (e++env) (Hn++H) a w) (fun _ _ _=>False)) ((ps.toList.zip (G x).toList).reverse++env) H)
 (W:∀(l:Nat) (pre:List α) (x:α) (post:List α) (u:AD) (e:Env) (Hn H1 R1:Hp) (r0:Loop),xs=pre++x::post->I pre H1->E x e Hn->At P ⟨cx.N,[],u,some l⟩ O (Ka u I Ix (pre++[x]) ([(l,.loop r0)]::R1)) (e++env) (H1++(Hn++([(l,.loop r0)]::R1))))
 (hk:∀(D:Nat) (U:Hp),I xs U->Nx ⟨cx.N,⟨.collected D,#[]⟩::cx.D,cx.u,none⟩ (Q .normal) env ([(D,.deferred (some []))]::(U++R)))
 (bn:∀(D:Nat) (pre:List α) (U:Hp),Ix pre U->Nx ⟨cx.N,⟨.collected D,#[]⟩::cx.D,cx.u,none⟩ (Q .ret) env ([(D,.deferred (some []))]::(U++R))):At P cx (.rangeFunc g ps B O) Q env H:=
 Mv (Hk:=[]) (A:=fun _=>A) (St:=True) (Adm:=fun p=>∃post,xs=p++post) (Full:=fun ys=>ys=xs) (Enc:=yX G) I Ix (fun x _ _ e Hn=>E x e Hn) hr hg X (fun l J Jx ax _ hy s h9=>(Z l J Jx ax (fun pre x post s hx hj=>NR (hy pre x s _ [] ⟨post,by rw [hx,CT];rfl⟩ hj ⟨rfl,rfl⟩) fun _ _ h=>h) s h9).mono (by rintro v H' ⟨s',h1,h2⟩;exact ⟨s',h1,h2.imp (fun h=>⟨xs,rfl,h⟩) id⟩)) (fun _ _ _=>trivial) hA (fun x vs sx he=>by rw [he.1];exact cO x) cu hp h0
  (fun l x vs sx u H he=>by obtain ⟨rfl,rfl⟩:=he;exact K l x u H)
  (fun l pre x u vs sx e Hn H1 R1 r0 ⟨post,hx⟩ hI he hE=>by
    obtain ⟨rfl,rfl⟩:=he;exact UB (W l pre x post u e Hn H1 R1 r0 (by rw [hx,CT];rfl) hI hE) fun f h h1 h2=>by simp only [CA,HB,Fi,h,h1,h2];omega) (fun D ys U hf hI=>by rw [hf]at hI;exact hk D U hI) bn
theorem UA{P:Program}{cx:Cx}{G:Code}{Q:Exit->Act->AD->Prop}{env:Env}{M s1 s2:List A9}{H R:Hp}(I:One M H R)(J:M.Perm (s1++s2))(k:At P cx G Q env (s1::s2::R)):At P cx G Q env H:=fun a w B=>
 k a w ⟨B.size,B.defers,B.fit,B.sat.perm (by
   have:=I.perm.trans (nm R.flatten J);simpa only [CA,CT]using this)⟩
def UK{κ:Type} [DecidableEq κ](sz:Nat)(e:AM)(lm:List (κ×A4))(n:κ->Nat)(xs:κ->List A4)(M:List A9):Prop:=
 ∃seg:κ->List A9,(∀k,Bd sz e ((Dp k lm).getD (.slice none 0 0)) (n k) (xs k) (seg k))/\M.Perm ((lm.map (·.1)).flatMap seg)
theorem aU{κ:Type} [DecidableEq κ](sz:Nat)(e:AM):UK sz e ([]:List (κ×A4)) (fun _=>0) (fun _=>[]) []:=⟨fun _=>[],fun _=>Bj _ _,.refl _⟩
theorem QJ{κ:Type} [DecidableEq κ]{sz:Nat}{e:AM}{lm:List (κ×A4)}{n:κ->Nat}{xs:κ->List A4}{M:List A9}(hk:(lm.map (·.1)).Nodup)(h:UK sz e lm n xs M)(k:κ):
 ∃s M',Bd sz e ((Dp k lm).getD (.slice none 0 0)) (n k) (xs k) s/\M.Perm (s++M')/\∀(v':A4) (Z:List A9) (n':Nat) (xs':List A4) (B:List (κ×A4)),(B.map (·.1)).Nodup->(∀p,p∈B↔p=(k,v')\/(p∈lm/\p.1≠k))->Bd sz e v' n' xs' Z->
  UK sz e B (fun x=>if x=k then n' else n x) (fun x=>if x=k then xs' else xs x) (Z++M'):=by
 obtain ⟨G,hr,hM⟩:=h;refine ⟨G k,((lm.map (·.1)).filter fun x=>decide (x≠k)).flatMap G,hr k,hM.trans ?_,?_⟩
 · by_cases U:k∈lm.map (·.1)
   · have J:(lm.map (·.1)).Perm (k::(lm.map (·.1)).filter fun x=>decide (x≠k)):=(OS hk (HK.2 ⟨by simp,hk.sublist Sp⟩)).2 fun a=>by
      by_cases W:a=k
      · subst W;simp only [DB,true_or,iff_true];exact U
      · simp only [DB,Fc,W,false_or,GO,ne_eq,not_false_eq_true,ef]
     have h2:=J.flatMap_right G;rwa [HW]at h2
   · have h0:=hr k
     rw [Da fun p K X=>U (C6.2 ⟨p,K,X⟩)]at h0;have hs:G k=[]:=by
      rcases h0 with⟨_,⟨_,_,h⟩|⟨g,cap,cur,z,h,_⟩⟩
      · exact h
      · simp at h
     have hf:((lm.map (·.1)).filter fun x=>decide (x≠k))=lm.map (·.1):=cN.2 fun a W=>by
      simp only [GO];intro h;subst h;exact U W
     rw [hs,hf];exact .refl _
 · intro v' Z n' xs' B O K af
   refine ⟨fun x=>if x=k then Z else G x,fun x=>?_,?_⟩
   · by_cases hx:x=k
     · subst hx
       simp only [Hv];rw [D7 O ((K _).2 (.inl rfl))];exact af
     · simp only [As hx]
       have hg:Dp x B=Dp x lm:=by
        by_cases U:∃v,(x,v)∈lm
        · obtain ⟨v,hv⟩:=U
          rw [D7 hk hv,D7 O ((K _).2 (.inr ⟨hv,hx⟩))]
        · rw [Da (l:=lm) fun p I X=>U ⟨p.2,by rw [<-X];exact I⟩,Da (l:=B) fun p I X=>by
           rcases (K p).1 I with rfl|⟨J,_⟩
           · exact hx X.symm
           · exact U ⟨p.2,by rw [<-X];exact J⟩]
       rw [hg];exact hr x
   · have J:(B.map (·.1)).Perm (k::(lm.map (·.1)).filter fun x=>decide (x≠k)):=(OS O (HK.2 ⟨by simp,hk.sublist Sp⟩)).2 fun a=>by
      simp only [DB,Fc,C6,GO];constructor
      · rintro ⟨p,I,rfl⟩
        rcases (K p).1 I with rfl|⟨J,h2⟩
        · exact .inl rfl
        · exact .inr ⟨⟨p,J,rfl⟩,h2⟩
      · rintro (rfl|⟨⟨p,J,rfl⟩,h2⟩)
        · exact ⟨_,(K _).2 (.inl rfl),rfl⟩
        · exact ⟨p,(K p).2 (.inr ⟨J,h2⟩),rfl⟩
     have h2:=J.flatMap_right fun x=>if x=k then Z else G x
     rw [HW,Ax rfl]at h2;refine List.Perm.symm (h2.trans ?_);rw [List.flatMap_def,List.flatMap_def,Wc (g:=G) fun a W=>?_];rw [As (by simpa using(Fc.1 W).2)]
theorem UK.row{κ:Type} [DecidableEq κ]{sz:Nat}{e:AM}{lm:List (κ×A4)}{n:κ->Nat}{xs:κ->List A4}{M:List A9}(h:UK sz e lm n xs M)(k:κ):∃s,Bd sz e ((Dp k lm).getD (.slice none 0 0)) (n k) (xs k) s/\∀c∈s,c∈M:=by
 obtain ⟨B,I,J⟩:=h;refine ⟨B k,I k,fun c hc=>J.mem_iff.2 ?_⟩;by_cases G:k∈lm.map (·.1);· exact S1.2 ⟨k,G,hc⟩
 · have h0:=I k
   rw [Da fun p O K=>G (C6.2 ⟨p,O,K⟩)]at h0;rcases h0 with⟨_,⟨_,_,h⟩|⟨g,cap,cur,z,h,_⟩⟩
   · rw [h]at hc;cases hc
   · simp at h
def LY(D:Nat):A9:=(D,.deferred (some []))
def wK(N:Nat)(u:AD)(I:Nat->Env->Hp->Prop)(B:Env)(R:Hp)(n:Nat)(a:Act)(w:AD):Prop:=∃m e H Ds a0,m<n/\I m e H/\St ⟨N,Ji Ds,u,none⟩ (e++B) (Ds.map LY::(H++R)) a0 w/\a=C9 (e++B) a0
theorem vV{P:Program}{N:Nat}{u:AD}{Q:Exit->Act->AD->Prop}{c:Code}{e0 B:Env}{H H0 R:Hp}(I:Nat->Env->Hp->Prop){n:Nat}(h0:I n e0 H0)(hp:Ex H0 H R)(O:∀(Ds:List Nat) n e H,I n e H->At P ⟨N,Ji Ds,u,none⟩ c (Exit.then (wK N u I B R n) Q) (e++B) (Ds.map LY::(H++R))):At P ⟨N,[],u,none⟩ (.loop c) Q (e0++B) H:=by
 intro a w U b k cs cO hb hr;have key:∀n Ds e H a w,I n e H->St ⟨N,Ji Ds,u,none⟩ (e++B) (Ds.map LY::(H++R)) a w->
  ∃x Z w',Q x Z w'/\ArrivesIn (Machine.fenced P (Fx none)) P (lone (b.atR (C9 (e++B) a) (.code c:: .inLoop c::k)) cs w) b k cs x Z w':=by
  intro n;induction n using Nat.strongRecOn with
  |_ n ih=>
   intro Ds e H a w hI U;obtain ⟨x,X,W,J,G⟩:=O Ds n e H hI a w U b (.inLoop c::k) cs cO hb hr;cases x with
   |normal=>
    obtain ⟨m,e',H',af,a0,bn,ax,d9,rfl⟩:=J;obtain ⟨e₂,a₂,w₂,cu,K⟩:=ih m bn af e' H' a0 W ax d9;exact ⟨e₂,a₂,w₂,cu,.of_steps (StepsIn.trans G (.one (fenced_calm hb hr V) stepR_inLoop)) K⟩
   |exit id=>exact ⟨_,X,W,J,.pass (x:= .inLoop c) rfl (fun _ _=> .inl B4) G⟩
   |goto l=>exact ⟨_,X,W,J,.pass (x:= .inLoop c) rfl (fun _ _=> .inl B4) G⟩
   |ret=>exact ⟨_,X,W,J,.pass (x:= .inLoop c) rfl (fun _ _=> .inl B4) G⟩
   |panic ch=>exact ⟨_,X,W,J,.pass (x:= .inLoop c) rfl (fun _ _=> .inl B4) G⟩
   |outgrown=>exact ⟨_,X,W,J,.pass (x:= .inLoop c) rfl (fun _ _=> .inl B4) G⟩
 obtain ⟨x,Z,w',J,G⟩:=key n [] e0 H0 a w h0 ⟨U.size,U.defers,U.fit,U.sat.perm (by simpa using hp.perm)⟩;exact ⟨x,Z,w',J,.of_steps (.one (fenced_calm hb hr V) stepR_loop) G⟩
theorem fB{N:Nat}{u:AD}{Q:Exit->Act->AD->Prop}{I:Nat->Env->Hp->Prop}{B e':Env}{R H H1 K H':Hp}{n m D:Nat}{Ds:List Nat}(h:I m e' H')(O:One [(D,.deferred (some []))] H H1)(h2:One (Ds.map LY) H1 K)(W:m<n:=by omega)(X:Sub (H'++R) K:=by repeat(first|exact Sub.refl _|exact Sub.nil _|(apply Sub.cons;(focus (repeat(first|exact One.here _ _|apply One.there))))|refine Sub.drop _ ?_)):
 Nx ⟨N,⟨.collected D,#[]⟩::Ji Ds,u,none⟩ ((Exit.then (wK N u I B R n) Q) .normal) (e'++B) H:=fun a w J=>by
 have G:Sat u (((D::Ds).map LY)::K) w:=J.sat.perm (by
  refine O.perm.trans ?_;have:=h2.perm
  simp only [CA,Dd,PJ,MY]at this⊢;exact this.cons _)
 refine ⟨m,e',H',D::Ds,a,W,h,⟨J.size,J.defers,J.fit,G.sub ?_⟩,V⟩;obtain ⟨Z,U⟩:=X.amid;exact ⟨Z,by simp only [CA,CT];exact RT _ U⟩
theorem sZ{P:Program}{N:Nat}{u:AD}{fn:Func}{R H H0 H':Hp}{Q:A4->Hp->Prop}{Pn:List PanicEntry->Hp->Prop}{env:Env}{e:Exit}{Ds:List Nat}{v:A4}(he:FD e=true)(hr:Res P fn env v)(hd:One (Ds.map LY) H H0)(hq:Q v H')(hp:Sub (H'++R) H0:=by repeat(first|exact Sub.refl _|exact Sub.nil _|(apply Sub.cons;(focus (repeat(first|exact One.here _ _|apply One.there))))|refine Sub.drop _ ?_)):
 Nx ⟨N,Ji Ds,u,none⟩ (bodyPostM Fence.wide 0 P fn (GJ u R Q Pn) e) env H:=fun a w O=>by
 have X:(C9 env a).defers=Ji Ds:=by rw [FO];exact O.defers
 have J:Sat u (Ds.map LY::(H'++R)) w:=by
  refine (O.sat.perm (by simpa using hd.perm):Sat u (Ds.map LY::H0) w).sub ?_;obtain ⟨Z,hZ⟩:=hp.amid;exact ⟨Z,by simp only [CA,CT];exact RT _ hZ⟩
 have G:∀(Ds:List Nat) (w:AD),Sat u (Ds.map LY::(H'++R)) w->LeavesInM Fence.wide 0 P fn (C9 env a).tmps (GJ u R Q Pn) (Ji Ds) .returning w:=by
  intro Ds;induction Ds with
  |nil=>intro w U;exact ⟨v,hr a w (by rw [O.size];exact O.fit),.inl ⟨v,H',rfl,hq,U.perm B4⟩⟩
  |cons D Ds ih=>
   intro w U;have K:Sat u ([(D,.deferred (some []))]::(Ds.map LY::(H'++R))) w:=by
    refine U.perm ?_;simp [LY]
   have I:=K.get (D,.deferred (some [])) B4;have W:Sat u (Ds.map LY::(H'++R)) (w.putObj D (.deferred none)):=(K.turn (o':= .deferred none)).sub ⟨[(D,.deferred none)],by simp only [CA];exact LR⟩
   refine ⟨by simp [Ji],.inl ⟨D,_,V,SB I,?_⟩⟩;exact ih _ W
 have B:=G Ds w J;rw [<-X]at B;cases e<;>first|exact B|simp [FD]at he
section
variable{P:Program}{u:AD}{env:Env}{H:Hp}{d:Option Nat}{ty:AM}{pos:String}{af:Array Edge}{g:Option (Nat×Bool)}
theorem WX{t e l c by_ sz:Nat}{x y:Operand}{z:A4}{i:TypeInfo}{k k':IntKind}(hu:P.underlying t=some (.slice e))(hi:P.info? e=some i)(hs:i.size=sz)(O:i.bytes=by_)(U:i.zero=some z)
 (hx:∀a,ev a env x= .int k (l:Int))(hy:∀a,ev a env y= .int k' (c:Int))(ax:l<=c)(hc:c<=9223372036854775807)(hb:by_*c<=281474976710656):
 OpW P u ⟨d,.makeSlice t x y,ty,pos,af,g⟩ env H (fun v' H1=>∃b cur,v'=I6 b l c/\cur.size=c*sz/\H1=[(b,.cells cur e (0,0))]::H) (fun _ _=>False):=fun a w I K Kp hK _=>by
 have w1:IntKind.i64.wrap (l:Int)=(l:Int):=EC _ (by omega);have w2:IntKind.i64.wrap (c:Int)=(c:Int):=EC _ hc
 have J:¬((281474976710656:Int)<(by_:Int)*(c:Int)):=by
  rw [<-ml];omega
 have X:¬((c:Int)<0):=by omega
 have Z:¬((l:Int)<0):=by omega
 have h5:¬((c:Int)<(l:Int)):=by omega
 have B:∃cur:AK,cur.size=c*sz/\(Instr.makeSlice t (ev a env x) (ev a env y)).run P w= .ok (.slice (some ⟨w.heap.size,0,none⟩) l c) {w with heap:=w.heap.push (.cells cur e)}:=by
  refine ⟨(Array.range (c*sz)).map ((if c*sz=0 then(#[]:AK)else z.cells)[·%(if c*sz=0 then(#[]:AK)else z.cells).size]!),by simp,?_⟩;rw [hx a,hy a];unfold Instr.makeSlice;simp only [Sem.run_bind,run_underlying hu,Result.andThen_ok,asInt,asIntOf,Sem.run_pure,typeInfo,run_program,hi,O,w1,w2];simp only [X,Z,h5,J,gt_iff_lt,Nat.reducePow,al,fc,N0,HT,Int.reducePow,Int.cast_ofNat_Int];simp only [Sem.run_bind,run_askRoom,Result.andThen_ok,Go.sizeOf,typeInfo,run_program,hi,Sem.run_pure,hs,UP];by_cases h0:c*sz=0;· simp [h0,newRow]
  · have W:(zeroValue e).run P w= .ok z w:=by simp [zeroValue,typeInfo,hi,U]
    simp only [h0,HT,Sem.run_bind,W,Result.andThen_ok,Sem.run_pure,newRow,run_newObj]
 obtain ⟨cur,G,B⟩:=B;have:(execOp (ev a env) ⟨d,.makeSlice t x y,ty,pos,af,g⟩).run P w= .ok (.value (.slice (some ⟨w.heap.size,0,none⟩) l c)) {w with heap:=w.heap.push (.cells cur e)}:=by
  rw [QR,Sem.run_bind,B];rfl
 rw [this];exact hK _ _ _ ⟨_,cur,V,G,V⟩ (I.alloc _)
theorem kg{sz:Nat}{e:AM}{g c:Nat}{cur:AK}(h:c<=maxLen)(B:cur.size=c*sz):Bd sz e (I6 g 0 c) 0 [] [(g,.cells cur e (0,0))]:=
 ⟨by simp,.inr ⟨g,c,cur,(0,0),rfl,rfl,C7 _,h,B,by simp,BC _⟩⟩
end
theorem OX{P:Program}(w:AD){J te:AM}{j:TypeInfo}{a b:Addr}{K O:AK}{ta tb:AM}(X:P.underlying J=some (.pointer te))(I:P.info? te=some j)(G:j.size≠0)
 (B:a≠b)(U:w.heap[a.block]?=some (.cells K ta (0,0)))(W:w.heap[b.block]?=some (.cells O tb (0,0))):
 (binOp .neq J (.pointer (some a)) (.pointer (some b))).run P w= .ok (.bool true) w:=by
 have h:∀d:Nat,(Op.equalIn (d+1) J (.pointer (some a)) (.pointer (some b))).run P w= .ok false w:=fun d=>by
  simp [Op.equalIn,run_underlying X,Go.sizeOf,typeInfo,I,G,run_sameAddr_other w B U W]
 simp only [binOp];simp [Op.equal,Op.maxDepth,h 9999]
section
variable{P:Program}{env:Env}{d:Option Nat}{ty:AM}{pos:String}{af:Array Edge}{g:Option (Nat×Bool)}
theorem eY{x y:Operand}{t te:AM}{yt:AM}{j:TypeInfo}{a b:Nat}{J K:AK}{ta tb:AM}(O:P.underlying t=some (.pointer te))(B:P.info? te=some j)(I:j.size≠0)(U:∀c,ev c env x=I5 a)(W:∀c,ev c env y=I5 b):
 OpP P ⟨d,.binOp .neq t x y yt,ty,pos,af,g⟩ env [(a,.cells J ta (0,0)),(b,.cells K tb (0,0))] (.bool (decide (a≠b))):=fun c w h=>by
 by_cases e:a=b
 · subst e
   have G:=Lib.run_neq_ptr_same (P:=P) w ⟨a,0,none⟩ O B;simp [Cw,U c,W c,eqGuard,G]
 · have X:=h (a,.cells J ta (0,0)) B4
   have h2:=h (b,.cells K tb (0,0)) B4;have G:=OX (P:=P) w (a:=⟨a,0,none⟩) (b:=⟨b,0,none⟩) O B I (by intro e';injection e' with e';exact e e') X h2
   simp [Cw,U c,W c,eqGuard,G,e]
end
theorem Ve{P:Program}{N:Nat}{u:AD}{fn:Func}{R H H0 H':Hp}{Q:A4->Hp->Prop}{Pn:List PanicEntry->Hp->Prop}{env:Env}{e:Exit}{D t ty b i:Nat}{v:A4}{o:Obj}(X:FD e=true)(hr:fn.results=#[.cell t ty])(hv:∀a,Fw a env t= .pointer (some ⟨b,i,none⟩))(W:One [(D,.deferred (some []))] H H0)(U:Has b o H0)(Z:∀w:AD,w.heap[b]?=some o->(loadVar ty ⟨b,i,none⟩).run P w= .ok v w)(hq:Q v H')(hp:Sub (H'++R) H0:=by repeat(first|exact Sub.refl _|exact Sub.nil _|(apply Sub.cons;(focus (repeat(first|exact One.here _ _|apply One.there))))|refine Sub.drop _ ?_)):Nx ⟨N,[⟨.collected D,#[]⟩],u,none⟩ (bodyPostM Fence.wide 0 P fn (GJ u R Q Pn) e) env H:=fun a w K=>by
 have O:(C9 env a).defers=[⟨.collected D,#[]⟩]:=by rw [FO];exact K.defers
 have G:Sat u ([(D,.deferred (some []))]::H0) w:=K.sat.perm (by simpa using W.perm);have J:=G.get (D,.deferred (some [])) (by simp)
 have B:Sat u H0 (w.putObj D (.deferred none)):=(G.turn (o':= .deferred none)).sub ⟨[(D,.deferred none)],by simp only [CA];exact LR⟩;have I:LeavesInM Fence.wide 0 P fn (C9 env a).tmps (GJ u R Q Pn) (C9 env a).defers .returning w:=by
  rw [O];refine ⟨by simp,.inl ⟨D,_,V,SB J,?_⟩⟩;exact ⟨v,Oe hr (by rw [CY a env (by rw [K.size];exact K.fit),hv a]) (Z _ (B.get _ U.mem)),.inl ⟨v,H',rfl,hq,B.sub hp.amid⟩⟩
 cases e<;>first|exact I|simp [FD]at X
end Gw
