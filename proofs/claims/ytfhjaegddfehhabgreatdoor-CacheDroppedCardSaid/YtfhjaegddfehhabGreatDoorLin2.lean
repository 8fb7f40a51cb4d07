/- Walking by chunks: a range over a function; the end of a function that holds one. No function of the program is named. -/
import Derived.Test.YtfhjaegddfehhabGreatDoorEz
import Derived.Lib.Hide
set_option linter.unusedVariables false
set_option linter.unusedSimpArgs false
namespace Gw
open Go Go.RowKit
def GD(P:Program)(l:Nat)(args:AH)(H:Hp)(Q:A3->Hp->Prop):Prop:=
 ∀(u:AD) (R:Hp) (w:AD),Sat u (H++R) w->∀(K:A3->AD->Prop) (Kp:List PanicEntry->AD->Prop),(∀v H' w',Q v H'->Sat u (H'++R) w'->K v w')->VI P K Kp ((Instr.yield l args).run P w)
section
variable{P:Program}{u:AD}{env:Env}{H R:Hp}{d:Option Nat}{ty:AK}{pos:String}{af:Array Edge}{g:Option (Nat×Bool)}
theorem Ga{J:Operand}{B:Array Operand}{G:Array AK}{l:Nat}{vs:List A3}{U:Hp}{Q:A3->Hp->Prop}
 (hf:∀a,ev a env J= .func (.yield l) #[] #[])(ha:∀a,B.toList.map (ev a env)=vs)(O:GD P l vs.toArray U Q)(hp:Ev U H R):
 OpW P u ⟨d,.call ⟨.value J,B,G⟩,ty,pos,af,g⟩ env H (fun v H'=>∃H1,Q v H1/\H'=H1++R) (fun _ _=>False):=fun a w hs K W Z _=>by
 have X:B.map (ev a env)=vs.toArray:=by rw [<-ha a];exact JN _ B
 have:(execOp (ev a env) ⟨d,.call ⟨.value J,B,G⟩,ty,pos,af,g⟩).run P w=(Instr.yield l vs.toArray).run P w:=by
  simp [E5,resolve,hf a,Deferred.ofValue,invoke,X]
 rw [this];exact O u R w (hs.perm hp.perm) K W fun v H' w' hq I=>Z v _ w' ⟨H',hq,V⟩ I
end
def Uc{α:Type}(P:Program)(gf:FuncId)(lb:AH)(Hit:Hp)(encs:α->AH)(xs:List α):Prop:=
 ∀(l:Nat) (J:List α->List A9->Prop),(∀pre x post s,xs=pre++x::post->J pre s->GD P l (encs x) [s] (fun v H'=>∃s',v= .bool true/\H'=[s']/\J (pre++[x]) s'))->
  ∀s,J [] s->BZ P gf (#[.func (.yield l) #[] #[]]++lb) (Hit++[s]) (fun _ H'=>∃s',H'=[s']/\J xs s')
def FD{α:Type}(P:Program)(gf:FuncId)(lb:AH)(Hit:Hp)(A:List A9->Prop)(encs:α->AH)(xs:List α):Prop:=
 ∀(l:Nat) (J:List α->List A9->Prop),(∀pre s,J pre s->A s)->(∀pre x post s,xs=pre++x::post->J pre s->GD P l (encs x) [s] (fun v H'=>∃s',v= .bool true/\H'=[s']/\J (pre++[x]) s'))->
  ∀s,J [] s->BZ P gf (#[.func (.yield l) #[] #[]]++lb) (Hit++[s]) (fun _ H'=>∃s',H'=[s']/\J xs s')
def Is(cx:Cx)(env:Env)(H:Hp)(a:Act)(w:AD):Prop:=∃a0,St cx env H a0 w/\a=puts env a0
theorem tJ{cx:Cx}{env:Env}{H:Hp}{Q:Exit->Act->AD->Prop}:Nx cx ((Exit.then (Is cx env H) Q) .normal) env H:=fun a _ B=>⟨a,B,rfl⟩
def Ij{α:Type}(u:AD)(I:List α->Hp->Prop)(xs:List α)(R:Hp):Exit->Act->AD->Prop
 | .normal,_,w=>∃H,I xs H/\Sat u (H++R) w
 |_,_,_=>False
theorem F7{α:Type}{cx:Cx}{I:List α->Hp->Prop}{xs:List α}{R:Hp}{env:Env}{H H':Hp}{u:AD}(J:cx.u=u)(h:I xs H')(B:Sub (H'++R) H:=by repeat(first|exact Sub.refl _|exact Sub.nil _|(apply Sub.cons;(focus (repeat(first|exact One.here _ _|apply One.there))))|refine Sub.drop _ ?_)):Nx cx (Ij u I xs R .normal) env H:=fun _ _ G=>⟨H',h,by subst J;exact G.sat.sub B.amid⟩
theorem Jh:∀(e1 e2:Env) (a:Act),puts (e1++e2) a=puts e1 (puts e2 a)
 |[],_,_=>rfl
 |(d,v)::e1,e2,a=>by simp only [RM,puts];rw [Jh e1 e2 a]
theorem O6:∀(l:List (Nat×A3)) (b:Act),(l.foldl (fun(t:AH) (p:Nat×A3)=>t.setIfInBounds p.1 p.2) b.tmps)=(puts l.reverse b).tmps
 |[],_=>rfl
 |(d,v)::l,b=>by
  simp only [V1,List.reverse_cons];rw [Jh];have:=O6 l (b.put (some d) v)
  simpa [puts,Act.put]using this
theorem FI(D:List Deferred):∀(e:Env) (a:Act),puts e {a with defers:=D}={puts e a with defers:=D}
 |[],_=>rfl
 |(d,v)::e,a=>by simp only [puts];rw [FI D e a];rfl
theorem Sat.turn{u w:AD}{b:Nat}{o o':Obj}{H:Hp}(h:Sat u ([(b,o)]::H) w):Sat u ([(b,o')]::H) (w.putObj b o'):=by
 have B:b<w.heap.size:=h.lt (p:=(b,o)) B4;refine h.upd (.here _) V rfl V (World.putObj_heap_same B) fun k G=>World.putObj_heap_other G
theorem Bo{a b:List A9}(h:∀f:List A9->Nat,(∀u v,f (u++v)=f u+f v)->f a=f b):a.Perm b:=by
 letI:DecidableEq A9:=fun a b=>Classical.propDecidable (a=b)
 exact List.perm_iff_count.2 fun x=>h (fun l=>l.count x) fun u v=>List.count_append
theorem Sat.parts{u w:AD}{H H':Hp}(G:Sat u H w)(h:∀f:List A9->Nat,(∀u v,f (u++v)=f u+f v)->f []=0->(∀x y,f [x,y]=f [x]+f [y])->f H.flatten=f H'.flatten):Sat u H' w:=
 G.perm (Bo fun f B=>h f B (by have:=B [] [];simp at this;omega) fun x y=>B [x] [y])
theorem UT{P:Program}{cx:Cx}{c:Code}{Q:Exit->Act->AD->Prop}{env:Env}{H H':Hp}(h:At P cx c Q env H)(G:∀f:List A9->Nat,(∀u v,f (u++v)=f u+f v)->f []=0->(∀x y,f [x,y]=f [x]+f [y])->f H'.flatten=f H.flatten):At P cx c Q env H':=fun a w B=>h a w ⟨B.size,B.defers,B.fit,B.sat.parts G⟩
def Ke{α:Type}(u:AD)(I Ix:List α->Hp->Prop)(xs:List α)(R:Hp):Exit->Act->AD->Prop
 | .normal,_,w=>∃H,I xs H/\Sat u (H++R) w
 | .ret,_,w=>∃H,Ix xs H/\Sat u (H++R) w
 |_,_,_=>False
theorem Vw{α:Type}{cx:Cx}{I Ix:List α->Hp->Prop}{xs:List α}{R:Hp}{env:Env}{H H':Hp}{u:AD}(J:cx.u=u)(h:I xs H')(B:Sub (H'++R) H:=by repeat(first|exact Sub.refl _|exact Sub.nil _|(apply Sub.cons;(focus (repeat(first|exact One.here _ _|apply One.there))))|refine Sub.drop _ ?_)):Nx cx (Ke u I Ix xs R .normal) env H:=fun _ _ G=>⟨H',h,by subst J;exact G.sat.sub B.amid⟩
theorem mY{α:Type}{cx:Cx}{I Ix:List α->Hp->Prop}{xs:List α}{R:Hp}{env:Env}{H H':Hp}{u:AD}(J:cx.u=u)(h:Ix xs H')(B:Sub (H'++R) H:=by repeat(first|exact Sub.refl _|exact Sub.nil _|(apply Sub.cons;(focus (repeat(first|exact One.here _ _|apply One.there))))|refine Sub.drop _ ?_)):Nx cx (Ke u I Ix xs R .ret) env H:=fun _ _ G=>⟨H',h,by subst J;exact G.sat.sub B.amid⟩
def Wq{α:Type}(P:Program)(gf:FuncId)(lb:AH)(Hit Hk:Hp)(A:List α->List A9->Prop)(Enc:α->AH->List A9->Prop)(Adm Full:List α->Prop)(St:Prop):Prop:=
 ∀(l:Nat) (J Jx:List α->List A9->Prop),(∀pre s,J pre s->A pre s)->(∀pre s,Jx pre s->St)->(∀pre x s vs sx,Adm (pre++[x])->J pre s->Enc x vs sx->GD P l vs [sx,s] (fun v H'=>∃s',H'=[s']/\((v= .bool true/\J (pre++[x]) s')\/(v= .bool false/\Jx (pre++[x]) s'))))->
  ∀s,J [] s->BZ P gf (#[.func (.yield l) #[] #[]]++lb) (Hit++(Hk++[s])) (fun _ H'=>∃s',H'=Hk++[s']/\((∃ys,Full ys/\J ys s')\/∃pre,Jx pre s'))
theorem NG{α:Type}{A:List α->List A9->Prop}{Adm Full:List α->Prop}{P:Program}{cx:Cx}{Q:Exit->Act->AD->Prop}{env:Env}{H j3 Hk H0 R:Hp}{g:Operand}{ps:Array Tmp}{assign body:Code}{gf:FuncId}{lb:AH}{Enc:α->AH->List A9->Prop}{St:Prop}
 (I Ix:List α->Hp->Prop)(E:α->AH->List A9->Env->Hp->Prop)(hr:cx.r=none)(hg:∀a,ev a env g= .func (.func gf) #[] lb)(l5:∀(args:AH) (w:AD),(callFunc gf args).run P w= .ok (.enter gf args) w)
 (o9:Wq P gf lb j3 Hk A Enc Adm Full St)(hX:∀pre H1,Ix pre H1->St)(hA:∀pre H1 c d,I pre H1->A pre ([c,d]++H1.flatten))(ql:∀x vs Z,Enc x vs Z->vs.size=ps.size)(qj:(ps.toList.all fun t=>Nat.blt t cx.N)=true)(hp:Ev (j3++(Hk++H0)) H R)(h0:I [] H0)
 (cO:∀(l:Nat) (x:α) (vs:AH) (Z:List A9) (u:AD) (H:Hp),Enc x vs Z->At P ⟨cx.N,[],u,some l⟩ assign (Exit.then (fun a w=>∃e Hn,E x vs Z e Hn/\Is ⟨cx.N,[],u,some l⟩ (e++env) (Hn++H) a w) (fun _ _ _=>False)) ((ps.toList.zip vs.toList).reverse++env) H)
 (kv:∀(l:Nat) (pre:List α) (x:α) (u:AD) (vs:AH) (Z:List A9) (e:Env) (Hn H1 R1:Hp) (r0:Loop),Adm (pre++[x])->I pre H1->Enc x vs Z->E x vs Z e Hn->At P ⟨cx.N,[],u,some l⟩ body (Ke u I Ix (pre++[x]) ([(l,.loop r0)]::R1)) (e++env) (H1++(Z::(Hn++([(l,.loop r0)]::R1)))))
 (hk:∀(D:Nat) (ys:List α) (O:Hp),Full ys->I ys O->Nx ⟨cx.N,⟨.collected D,#[]⟩::cx.D,cx.u,none⟩ (Q .normal) env ([(D,.deferred (some []))]::(Hk++(O++R))))
 (q9:∀(D:Nat) (pre:List α) (O:Hp),Ix pre O->Nx ⟨cx.N,⟨.collected D,#[]⟩::cx.D,cx.u,none⟩ (Q .ret) env ([(D,.deferred (some []))]::(Hk++(O++R)))):At P cx (.rangeFunc g ps assign body) Q env H:=by
 intro a w hs;refine wpIn_rangeFunc ?_;intro fn r9;have qo:(Fx cx.r).round=none:=hr
 rw [qo];obtain ⟨ek,B⟩:∃ek:LoopState->Option Code->Loop,ek=fun st pe=>{state:=st,pending:=pe,fn,tmps:=(puts env a).tmps,params:=ps,assign,body,defers:=w.heap.size}:=⟨_,rfl⟩;obtain ⟨G,U⟩:∃G,G=ek .ready none:=⟨_,rfl⟩;obtain ⟨L2,j5⟩:∃L2,L2=ek .done (some .ret):=⟨_,rfl⟩;obtain ⟨n,hn⟩:∃n,n=w.heap.size:=⟨_,rfl⟩;have p9:Sat cx.u ([(n+1,.loop G)]::([(n,.deferred (some []))]::((j3++(Hk++H0))++R))) ((w.alloc (.deferred (some []))).alloc (.loop G)):=by
  have:=((hs.sat.perm hp.perm).alloc (.deferred (some []))).alloc (.loop G);rw [show({w with heap:=w.heap.push (.deferred (some []))}:AD).heap.size=w.heap.size+1 from Array.size_push _,<-hn]at this;exact this
 have o8:Fit a.tmps.size env:=by rw [hs.size];exact hs.fit
 have pg:∀d,puts env {a with defers:=d::cx.D}={puts env a with defers:=[d]++(puts env a).defers}:=fun d=>by
  rw [FI,Fp,hs.defers];rfl
 have gm:∀(L:Loop) (e:Exit) (O:Hp) (w2:AD),L.state≠ .busy->(∀(A:Act) (W:AD),Q e A W->(match L.pending with|none=>Q .normal A W|some c=>c.wpIn (Fx cx.r) 0 P Q A W))->
  Sat cx.u ([(n+1,Obj.loop L)]::([(n,.deferred (some []))]::O)) w2->Nx ⟨cx.N,⟨.collected n,#[]⟩::cx.D,cx.u,none⟩ (Q e) env ([(n,.deferred (some []))]::O)->
  ∃v w3,(Instr.endLoop (n+1)).run P w2= .ok v w3/\(match v with|none=>Q .normal {puts env a with defers:=[⟨.collected n,#[]⟩]++(puts env a).defers} w3|some c=>c.wpIn (Fx cx.r) 0 P Q {puts env a with defers:=[⟨.collected n,#[]⟩]++(puts env a).defers} w3):=by
  intro L e O w2 bn qb gq hN;have hl:=gq.get (n+1,Obj.loop L) B4
  refine ⟨_,_,run_endLoop (P:=P) hl bn,qb _ _ ?_⟩;rw [<-pg];exact hN {a with defers:=⟨.collected n,#[]⟩::cx.D} _ ⟨hs.size,V,hs.fit,(gq.turn (o':= .loop {L with state:= .exhausted})).sub ⟨[(n+1,.loop {L with state:= .exhausted})],by
   simp only [CA];exact Ly⟩⟩
 refine ⟨n+1,[⟨.collected n,#[]⟩],(w.alloc (.deferred (some []))).alloc (.loop G),⟨.fn (.func gf) lb,#[.func (.yield (n+1)) #[] #[]]⟩,(w.alloc (.deferred (some []))).alloc (.loop G),gf,
  #[.func (.yield (n+1)) #[] #[]]++lb,(w.alloc (.deferred (some []))).alloc (.loop G),?_,?_,fun _ _=>trivial,?_,fun h=>by simp [Fx,Fence.wide]at h,?_⟩
 · rw [hn,U,B];exact run_enterLoop_outer _ _ _ _ _
 · simp only [resolve,FX a env o8,hg a]
   simp [Deferred.ofValue,ev,Act.eval]
 · simp [invoke,l5]
 · refine Y5 ?_
   have hJ:=o9 (n+1) (fun pre s=>∃H1,I pre H1/\s=[(n+1,.loop G),(n,.deferred (some []))]++H1.flatten) (fun pre s=>∃H1,Ix pre H1/\s=[(n+1,.loop L2),(n,.deferred (some []))]++H1.flatten) (by rintro pre _ ⟨H1,J,rfl⟩;exact hA pre H1 _ _ J) (by rintro pre _ ⟨H1,J,rfl⟩;exact hX pre H1 J) ?_ _ ⟨H0,h0,rfl⟩
   · refine Calls.mono (hJ cx.u R _ (p9.parts fun f h J h2=>by simp only [CA,HC,Fi,h,J,h2];omega)) fun e w2 he=>?_
     rcases he with⟨v,H',rfl,⟨s',rfl,⟨ys,pz,O,af,rfl⟩|⟨pre,O,af,rfl⟩⟩,d9⟩|⟨_,_,_,h,_⟩
     · exact gm G .normal _ w2 (by rw [U,B];simp) (fun A W h=>by rw [U,B];exact h) (d9.parts fun f h J h2=>by simp only [CA,HC,Fi,h,J,h2];omega) (hk n ys O pz af)
     · exact gm L2 .ret _ w2 (by rw [j5,B];simp) (fun A W h=>by rw [j5,B];exact wpIn_ret h) (d9.parts fun f h J h2=>by simp only [CA,HC,Fi,h,J,h2];omega) (q9 n pre O af)
     · exact h.elim
   · rintro pre x s vs Z qz ⟨H1,hI,rfl⟩ cu u R1 w1 qx K Kp hK
     have ic:Sat u ([(n+1,Obj.loop G)]::([(n,.deferred (some []))]::(H1++(Z::R1)))) w1:=qx.parts fun f h J h2=>by simp only [CA,HC,Fi,h,J,h2];omega
     have hl:=ic.get (n+1,Obj.loop G) B4;have hy:=run_yield (P:=P) (args:=vs) hl (by rw [U,B];exact ql x vs Z cu)
     rw [hy];show RoundIn Fence.wide 0 P (n+1) _ _ _ _ w1 _
     rw [U,B];refine roundIn_of_wpIn (F:=Fence.wide) trivial ?_;have qw:({tmps:=(ps.zip vs).foldl (fun tmps x=>match x with|(t,a)=>tmps.setIfInBounds t a) (puts env a).tmps,defers:=[]}:Act)=puts ((ps.toList.zip vs.toList).reverse++env) {a with defers:=[]}:=by
      rw [Jh,FI [] env a];have J:(ps.zip vs).foldl (fun tmps x=>match x with|(t,a)=>tmps.setIfInBounds t a) (puts env a).tmps=(puts (ps.toList.zip vs.toList).reverse (puts env a)).tmps:=by
       rw [<-O6,<-pL,Array.toList_zip]
      rw [J,FI [] _ (puts env a)]
     have l9:Fit cx.N ((ps.toList.zip vs.toList).reverse++env):=by
      intro q hq;rcases Bm.1 hq with hq|hq
      · have:=cW.1 hq
        have h2:=NO.1 qj q.1 (List.of_mem_zip this).1;simpa using h2
      · exact hs.fit q hq
     have ha:=cO (n+1) x vs Z u ([(n+1,Obj.loop G)]::([(n,.deferred (some []))]::(H1++(Z::R1)))) cu {a with defers:=[]} w1 ⟨hs.size,rfl,l9,ic⟩;rw [<-qw]at ha;refine wpIn_mono ha fun e a1 w2 he=>?_;cases e<;>first|exact he|skip
     obtain ⟨e9,Hn,hE,a2,bn,rfl⟩:=he;have gy:Sat u ([(n+1,Obj.loop G)]::([(n,.deferred (some []))]::(H1++(Z::(Hn++R1))))) w2:=bn.sat.parts fun f h J h2=>by simp only [CA,HC,Fi,h,J,h2];omega
     have qa:=gy.get (n+1,Obj.loop G) B4;refine ⟨_,run_beginRound qa (by rw [U,B]),?_⟩;have pq:Sat u (H1++(Z::(Hn++([(n+1,Obj.loop {G with state:= .busy})]::([(n,.deferred (some []))]::R1))))) (w2.putObj (n+1) (.loop {G with state:= .busy})):=
      (gy.turn (o':= .loop {G with state:= .busy})).parts fun f h J h2=>by simp only [CA,HC,Fi,h,J,h2];omega
     have hb:=kv (n+1) pre x u vs Z e9 Hn H1 ([(n,.deferred (some []))]::R1) _ qz hI cu hE a2 _ ⟨bn.size,bn.defers,bn.fit,pq⟩;refine wpIn_mono hb fun e a3 w3 l8=>?_;cases e<;>first|exact l8.elim|skip
     · obtain ⟨O,af,p8⟩:=l8
       have X:Sat u ([(n+1,Obj.loop {G with state:= .busy})]::([(n,.deferred (some []))]::(O++R1))) w3:=p8.parts fun f h J h2=>by simp only [CA,HC,Fi,h,J,h2];omega
       refine ⟨_,_,run_endRound (P:=P) none (X.get (n+1,Obj.loop {G with state:= .busy}) B4),?_⟩;refine hK _ _ _ ⟨[(n+1,.loop G),(n,.deferred (some []))]++O.flatten,V,.inl ⟨V,O,af,V⟩⟩ ?_;have ax:({{G with state:=LoopState.busy}with state:=if(none:Option Code).isNone=true then LoopState.ready else .done,pending:=none}:Loop)=G:=by rw [U,B];rfl
       rw [ax];exact (X.turn (o':= .loop G)).parts fun f h J h2=>by simp only [CA,HC,Fi,h,J,h2];omega
     · obtain ⟨O,af,p8⟩:=l8
       have X:Sat u ([(n+1,Obj.loop {G with state:= .busy})]::([(n,.deferred (some []))]::(O++R1))) w3:=p8.parts fun f h J h2=>by simp only [CA,HC,Fi,h,J,h2];omega
       refine ⟨_,_,run_endRound (P:=P) (some .ret) (X.get (n+1,Obj.loop {G with state:= .busy}) B4),?_⟩;refine hK _ _ _ ⟨[(n+1,.loop L2),(n,.deferred (some []))]++O.flatten,V,.inr ⟨V,O,af,V⟩⟩ ?_;have ax:({{G with state:=LoopState.busy}with state:=if(some Code.ret:Option Code).isNone=true then LoopState.ready else .done,pending:=some .ret}:Loop)=L2:=by rw [U,j5,B];rfl
       rw [ax];exact (X.turn (o':= .loop L2)).parts fun f h J h2=>by simp only [CA,HC,Fi,h,J,h2];omega
def zB{α:Type}(encs:α->AH)(x:α)(vs:AH)(sx:List A9):Prop:=vs=encs x/\sx=[]
theorem Ni{P:Program}{l:Nat}{vs:AH}{s:List A9}{Q B:A3->Hp->Prop}(h:GD P l vs [[],s] Q)(W:∀v H',Q v H'->B v H'):GD P l vs [s] B:=fun u R w X K G U=>h u R w (X.parts fun f h I h2=>by simp only [CA,HC,Fi,h,I];omega) K G fun v H' Z J O=>U v H' Z (W v H' J) O
theorem QF{P:Program}{cx:Cx}{c:Code}{env:Env}{H:Hp}{α:Type}{u:AD}{I Ix:List α->Hp->Prop}{xs:List α}{R:Hp}(h:At P cx c (Ij u I xs R) env H):At P cx c (Ke u I Ix xs R) env H:=fun a w G=>wpIn_mono (h a w G) fun e _ _ B=>by cases e<;>first|exact B|exact B.elim
theorem yT{α:Type}{P:Program}{W:FuncId}{X:AH}{I:Hp}{A:List A9->Prop}{G:α->AH}{xs:List α}(h:FD P W X I A G xs):Wq P W X I [] (fun _=>A) (zB G) (fun p=>∃B,xs=p++B) (fun ys=>ys=xs) False:=fun l J Jx Z hX hy s h0=>
 (h l J Z (fun pre x B s hx hj=>Ni (hy pre x s _ [] ⟨B,by rw [hx,D3];rfl⟩ hj ⟨rfl,rfl⟩) fun v H' ⟨U,O,h2⟩=>h2.elim (fun h=>⟨U,h.1,O,h.2⟩) fun h=>(hX _ _ h.2).elim) s h0).mono (by rintro v H' ⟨U,O,h2⟩;exact ⟨U,O,.inl ⟨xs,rfl,h2⟩⟩)
theorem Pq{α:Type}{A:List A9->Prop}{P:Program}{cx:Cx}{Q:Exit->Act->AD->Prop}{env:Env}{H af H0 R:Hp}{g:Operand}{ps:Array Tmp}{G U:Code}{gf:FuncId}{lb:AH}{J:α->AH}{xs:List α}
 (I:List α->Hp->Prop)(asg:α->Env)(hr:cx.r=none)(hg:∀a,ev a env g= .func (.func gf) #[] lb)(X:∀(args:AH) (w:AD),(callFunc gf args).run P w= .ok (.enter gf args) w)
 (Z:FD P gf lb af A J xs)(hA:∀pre H1 c d,I pre H1->A ([c,d]++H1.flatten))(bn:∀x,(J x).size=ps.size)(ax:(ps.toList.all fun t=>Nat.blt t cx.N)=true)(hp:Ev (af++H0) H R)(h0:I [] H0)
 (O:∀(l:Nat) (x:α) (u:AD) (H:Hp),At P ⟨cx.N,[],u,some l⟩ G (Exit.then (Is ⟨cx.N,[],u,some l⟩ (asg x++env) H) (fun _ _ _=>False)) ((ps.toList.zip (J x).toList).reverse++env) H)
 (W:∀(l:Nat) (pre:List α) (x:α) (B:List α) (u:AD) (H1 R1:Hp),xs=pre++x::B->I pre H1->At P ⟨cx.N,[],u,some l⟩ U (Ij u I (pre++[x]) R1) (asg x++env) (H1++R1))
 (hk:∀(D:Nat) (H2:Hp),I xs H2->Nx ⟨cx.N,⟨.collected D,#[]⟩::cx.D,cx.u,none⟩ (Q .normal) env ([(D,.deferred (some []))]::(H2++R))):At P cx (.rangeFunc g ps G U) Q env H:=
 NG (Hk:=[]) (A:=fun _=>A) (St:=False) (Adm:=fun p=>∃B,xs=p++B) (Full:=fun ys=>ys=xs) (Enc:=zB J) I (fun _ _=>False) (fun x _ _ e Hn=>e=asg x/\Hn=[]) hr hg X (yT Z) (fun _ _ h=>h) hA (fun x vs sx he=>by rw [he.1];exact bn x) ax hp h0
  (fun l x vs sx u H he a w hs=>by
    obtain ⟨rfl,rfl⟩:=he;exact wpIn_mono (O l x u H a w hs) fun e _ _ h=>by cases e<;>first|exact h|exact ⟨_,[],⟨rfl,rfl⟩,h⟩)
  (fun l pre x u vs sx e Hn H1 R1 r0 ⟨B,hx⟩ hI he hE=>by
    obtain ⟨rfl,rfl⟩:=he;obtain ⟨rfl,rfl⟩:=hE;exact UT (QF (W l pre x B u H1 _ (by rw [hx,D3];rfl) hI)) fun f h h1 h2=>by simp only [CA,HC,Fi,h,h1,h2];omega) (fun D ys H2 hf hI=>by rw [hf]at hI;exact hk D H2 hI) fun _ _ _ h=>h.elim
theorem RN{α:Type}{P:Program}{cx:Cx}{Q:Exit->Act->AD->Prop}{env:Env}{H af H0 R:Hp}{g:Operand}{ps:Array Tmp}{B U:Code}{gf:FuncId}{lb:AH}{G:α->AH}{xs:List α}
 (I:List α->Hp->Prop)(asg:α->Env)(hr:cx.r=none)(hg:∀a,ev a env g= .func (.func gf) #[] lb)(X:∀(args:AH) (w:AD),(callFunc gf args).run P w= .ok (.enter gf args) w)
 (Z:Uc P gf lb af G xs)(bn:∀x,(G x).size=ps.size)(ax:(ps.toList.all fun t=>Nat.blt t cx.N)=true)(hp:Ev (af++H0) H R)(h0:I [] H0)
 (O:∀(l:Nat) (x:α) (u:AD) (H:Hp),At P ⟨cx.N,[],u,some l⟩ B (Exit.then (Is ⟨cx.N,[],u,some l⟩ (asg x++env) H) (fun _ _ _=>False)) ((ps.toList.zip (G x).toList).reverse++env) H)
 (W:∀(l:Nat) (pre:List α) (x:α) (post:List α) (u:AD) (H1 R1:Hp),xs=pre++x::post->I pre H1->At P ⟨cx.N,[],u,some l⟩ U (Ij u I (pre++[x]) R1) (asg x++env) (H1++R1))
 (hk:∀(D:Nat) (H2:Hp),I xs H2->Nx ⟨cx.N,⟨.collected D,#[]⟩::cx.D,cx.u,none⟩ (Q .normal) env ([(D,.deferred (some []))]::(H2++R))):At P cx (.rangeFunc g ps B U) Q env H:=
 Pq (A:=fun _=>True) I asg hr hg X (fun l J _=>Z l J) (fun _ _ _ _ _=>trivial) bn ax hp h0 O W hk
def Jl(l:List Nat):List Deferred:=l.map fun D=>⟨.collected D,#[]⟩
theorem DT{P:Program}{f:FuncId}{fn:Func}{c:Code}{args:AH}{N:Nat}{H:Hp}{Q:A3->Hp->Prop}{Pn:List PanicEntry->Hp->Prop}(X:P.funcs[f]?=some fn)(W:fn.body=some c)(U:fn.ntmps=N)(Z:Nat.ble args.size N=true)
 (h:∀u R,At P ⟨N,[],u,none⟩ c (bodyPostM Fence.wide 0 P fn (GY u R Q Pn)) (Fa 0 args.toList) (H++R)):Lb P f args H Q Pn:=fun u R w G=>by
 have I:args.size<=N:=eC Z;refine (callsIn_wide (n:=0)).1 (callsIn_of_wp_marks (F:=Fence.wide) X W trivial ?_);have B:puts (Fa 0 args.toList) {tmps:=args++Array.replicate (fn.ntmps -args.size) undef,defers:=[]}={tmps:=args++Array.replicate (fn.ntmps -args.size) undef,defers:=[]}:=by
  refine KM _ fun p O=>?_;obtain ⟨_,h2⟩:=FO _ _ _ O;simp only [SU,HR]at h2;have J:p.1<args.size:=by
   rcases E4 p.1 args.size with h|h
   · exact h
   · simp [IF h]at h2
  rw [fR J];exact h2
 rw [<-B];refine h u R _ w ⟨by simp [U];omega,V,fun p O=>?_,G⟩;obtain ⟨_,h2⟩:=FO _ _ _ O;simp only [SU,HR]at h2;rcases E4 p.1 args.size with h|h
 · exact mm h I
 · simp [IF h]at h2
section
variable{P:Program}{N:Nat}{u:AD}{fn:Func}{R H H':Hp}{Q:A3->Hp->Prop}{Pn:List PanicEntry->Hp->Prop}{env:Env}{e:Exit}
theorem Ym{D:Nat}{w:AD}(h:w.heap[D]?=some (.deferred (some []))):(Instr.takeDeferred D).run P w= .ok [] (w.putObj D (.deferred none)):=by
 simp [Instr.takeDeferred,getObj,setObj,Sem.run,h];rfl
def Res(P:Program)(fn:Func)(env:Env)(v:A3):Prop:=∀(a:Act) (w:AD),Fit a.tmps.size env->(results fn (puts env a).tmps).run P w= .ok v w
theorem o4(B:fn.results=#[]):Res P fn env (.tuple #[]):=fun a w _=>Ox B w _
theorem eZ{t:Nat}{v:A3}(G:fn.results=#[.tmp t])(hv:∀a,G8 a env t=v):Res P fn env v:=fun a w B=>by rw [Qv G,CX a env B,hv a]
theorem rG{t s:Nat}{v x:A3}(G:fn.results=#[.tmp t,.tmp s])(hv:∀a,G8 a env t=v)(hx:∀a,G8 a env s=x):Res P fn env (.tuple #[v,x]):=fun a w B=>by rw [Qu G,CX a env B,CX a env B,hv a,hx a]
theorem PM{v:A3}(J:Fb e=true)(W:Res P fn env v)(U:Q v H')(O:Sub (H'++R) H:=by repeat(first|exact Sub.refl _|exact Sub.nil _|(apply Sub.cons;(focus (repeat(first|exact One.here _ _|apply One.there))))|refine Sub.drop _ ?_)):Nx ⟨N,[],u,none⟩ (bodyPostM Fence.wide 0 P fn (GY u R Q Pn) e) env H:=fun a w G=>by
 have I:(puts env a).defers=[]:=by rw [Fp];exact G.defers
 have B:LeavesInM Fence.wide 0 P fn (puts env a).tmps (GY u R Q Pn) (puts env a).defers .returning w:=by
  rw [I];exact ⟨v,W a w (by rw [G.size];exact G.fit),.inl ⟨v,H',rfl,U,G.sat.sub O.amid⟩⟩
 cases e<;>first|exact B|simp [Fb]at J
theorem GR{D:Nat}{v:A3}{H0:Hp}(X:Fb e=true)(hr:Res P fn env v)(W:One [(D,.deferred (some []))] H H0)(hq:Q v H')(Z:Sub (H'++R) H0:=by repeat(first|exact Sub.refl _|exact Sub.nil _|(apply Sub.cons;(focus (repeat(first|exact One.here _ _|apply One.there))))|refine Sub.drop _ ?_)):Nx ⟨N,[⟨.collected D,#[]⟩],u,none⟩ (bodyPostM Fence.wide 0 P fn (GY u R Q Pn) e) env H:=fun a w O=>by
 have U:(puts env a).defers=[⟨.collected D,#[]⟩]:=by rw [Fp];exact O.defers
 have B:Sat u ([(D,.deferred (some []))]::H0) w:=O.sat.perm (by simpa using W.perm);have J:=B.get (D,.deferred (some [])) (by simp)
 have G:Sat u (H'++R) (w.putObj D (.deferred none)):=((B.turn (o':= .deferred none)).sub ⟨[(D,.deferred none)],by simp only [CA];exact Ly⟩).sub Z.amid;have I:LeavesInM Fence.wide 0 P fn (puts env a).tmps (GY u R Q Pn) (puts env a).defers .returning w:=by
  rw [U];refine ⟨by simp,.inl ⟨D,_,V,Ym J,?_⟩⟩;exact ⟨v,hr a _ (by rw [O.size];exact O.fit),.inl ⟨v,H',rfl,hq,G⟩⟩
 cases e<;>first|exact I|simp [Fb]at X
end
def Nh(sz:Nat)(v:A3)(k:Nat)(ys:List A3)(s:List A9):Prop:=
 ys.length=k*sz/\((k=0/\∃b c,v= .slice b 0 c)\/∃g o cap cur T z,v= .slice (some ⟨g,o,none⟩) k cap/\s=[(g,.cells cur T z)]/\C9 cur o ys)
theorem E9{sz:Nat}{e:AK}{v:A3}{k:Nat}{xs:List A3}{s:List A9}(h:Bd sz e v k xs s)(J:0<k):∃g cap cur z,v=I6 g k cap/\s=[(g,.cells cur e z)]/\k<=cap/\C9 cur 0 xs:=by
 obtain ⟨I,⟨_,h0,_⟩|⟨g,cap,cur,z,rfl,rfl,B,_,_,G,_⟩⟩:=h;· omega
 · refine ⟨g,cap,cur,z,rfl,rfl,B,?_⟩
   unfold C9;rw [RW,I];exact G
theorem jW{sz:Nat}{e:AK}{v:A3}{k:Nat}{xs:List A3}{s:List A9}(h:Bd sz e v k xs s):Nh sz v k xs s:=by
 refine ⟨h.1,?_⟩;rcases RC k with h0|h0
 · obtain ⟨b,c,rfl⟩:=h.form
   subst h0;exact .inl ⟨V,b,c,V⟩
 · obtain ⟨g,cap,cur,z,rfl,rfl,_,B⟩:=E9 h h0
   exact .inr ⟨g,0,cap,cur,e,z,V,V,B⟩
theorem OH{cur:AH}{o a n:Nat}{ys:List A3}(h:C9 cur o ys)(hn:a+n<=ys.length):C9 cur (o+a) ((ys.drop a).take n):=by
 unfold C9 at*;have B:((ys.drop a).take n).length=n:=by rw [CC,CD];omega
 rw [B,<-bj,<-h,fj,V2];congr 1;have:=congrArg List.length h
 rw [CC]at this;omega
theorem KE{sz:Nat}{e:AK}{b:B6}{n c:Nat}{xs:List A3}{s:List A9}(h:Bd sz e (.slice b n c) n xs s)(k d:Nat)(G:k<=n):Nh sz (.slice b k d) k (xs.take (k*sz)) s:=by
 have I:k*sz<=n*sz:=US sz G;refine ⟨by rw [CC,h.1];omega,?_⟩;rcases RC k with h0|h0
 · subst h0;exact .inl ⟨rfl,b,d,rfl⟩
 · obtain ⟨g,cap,cur,z,hv,rfl,_,B⟩:=E9 h A1
   injection hv with hv1 hv2 hv3
   subst hv1;have h2:=OH B (a:=0) (n:=k*sz) (by rw [h.1];omega)
   rw [RW]at h2;exact .inr ⟨g,0,d,cur,e,z,V,V,h2⟩
theorem KF{sz:Nat}{e:AK}{b:B6}{n c:Nat}{xs:List A3}{s:List A9}(h:Bd sz e (.slice b n c) n xs s)(k m d:Nat)(G:k+m=n):Nh sz (.slice (EY b k c sz) m d) m (xs.drop (k*sz)) s:=by
 have J:n*sz=k*sz+m*sz:=by rw [<-G,LO]
 refine ⟨by rw [CD,h.1];omega,?_⟩;rcases RC m with h0|h0
 · subst h0;exact .inl ⟨rfl,_,d,rfl⟩
 · obtain ⟨g,cap,cur,z,hv,rfl,I,B⟩:=E9 h A1
   injection hv with hv1 hv2 hv3
   subst hv1 hv3;have h2:=OH B (a:=k*sz) (n:=m*sz) (by rw [h.1];omega)
   rw [J0 (by rw [CD,h.1];omega)]at h2;refine .inr ⟨g,0+k*sz,d,cur,e,z,?_,V,h2⟩;unfold EY;rw [An A1,NX,CW]
theorem YW{sz:Nat}{b:B6}{n c:Nat}{xs:List A3}{s:List A9}(h:Nh sz (.slice b n c) n xs s)(k m d:Nat)(I:k+m=n)(hc:n<=c):Nh sz (.slice (EY b k c sz) m d) m (xs.drop (k*sz)) s:=by
 have J:n*sz=k*sz+m*sz:=by rw [<-I,LO]
 refine ⟨by rw [CD,h.1];omega,?_⟩;rcases RC m with h0|h0
 · subst h0;exact .inl ⟨rfl,_,d,rfl⟩
 · obtain ⟨G,⟨O,_⟩|⟨g,o,cap,cur,T,z,hv,rfl,B⟩⟩:=h
   · omega
   · injection hv with hv1 hv2 hv3
     subst hv1 hv3;have h2:=OH B (a:=k*sz) (n:=m*sz) (by rw [G];omega)
     rw [J0 (by rw [CD,G];omega)]at h2;refine .inr ⟨g,o+k*sz,d,cur,T,z,?_,V,h2⟩;unfold EY;rw [An A1,NX,CW]
section
variable{P:Program}{u:AD}{env:Env}{H R R2:Hp}{d:Option Nat}{ty:AK}{pos:String}{af:Array Edge}{g:Option (Nat×Bool)}
theorem BR{x y:Operand}{t e:AK}{i:TypeInfo}{z:A3}{by_ sz n k:Nat}{v v2:A3}{xs ys:List A3}{s s2:List A9}
 (ht:P.underlying t=some (.slice e))(hi:P.info? e=some i)(I:i.size=sz)(cO:i.bytes=by_)(gm:i.zero=some z)(ek:z.cells.size=sz)
 (hx:∀a,ev a env x=v)(B:Bd sz e v n xs s)(hy:∀a,ev a env y=v2)(ax:Nh sz v2 k ys s2)(O:One s H R)(bn:One s2 R R2)(h1:∀u∈ys,u.oneCell'=true)
 (cu:n+k<=maxLen)(hb:(n+k)*by_<=140737488355328):
 OpW P u ⟨d,.call ⟨.builtin .append,#[x,y],#[t,t]⟩,ty,pos,af,g⟩ env H (fun v' H1=>∃s',Bd sz e v' (n+k) (xs++ys) s'/\H1=s'::R) (fun _ _=>False):=by
 obtain ⟨hl,⟨rfl,b2,c2,rfl⟩|⟨gb,o,cap,cur,T,zz,rfl,rfl,d9⟩⟩:=ax
 · have Z:ys=[]:=MT A1
   subst Z;obtain ⟨b,c,rfl⟩:=B.form;have J:n<=c:=by
    obtain ⟨_,⟨hv,h0,_⟩|⟨_,_,_,_,hv,_,h2,_⟩⟩:=B;· omega
    · injection hv with _ _ hv3;omega
   intro a w U K Kp hK _;have W:Sat u (s::R) w:=U.perm (by simpa using O.perm)
   have G:(Builtin.firstCells i.size 0 (.slice b2 0 c2)).run P w= .ok #[] w:=by
    cases b2 with
    |none=>simp [Builtin.firstCells]
    |some ad=>simp [Builtin.firstCells,loadCells,loadCellsFrom]
   have hr:(Builtin.append_ #[t,t] ty #[.slice b n c,.slice b2 0 c2]).run P w= .ok (.slice b n c) w:=by
    rw [I]at G;cases b with
    |none=>simp [Builtin.append_,run_underlying ht,Go.sizeOf,typeInfo,hi,I,Builtin.lenOf,J,G]
    |some ad=>simp [Builtin.append_,run_underlying ht,Go.sizeOf,typeInfo,hi,I,Builtin.lenOf,J,G,storeCells]
   have X:(execOp (ev a env) ⟨d,.call ⟨.builtin .append,#[x,y],#[t,t]⟩,ty,pos,af,g⟩).run P w= .ok (.value (.slice b n c)) w:=by
    simp only [E5,resolve,invoke,builtin,SD,Ek,Kf,hx a,hy a,Sem.run_bind,Sem.run_pure,Result.andThen_ok,hr]
   rw [X];exact hK _ _ _ ⟨s,by rw [DG];exact B,rfl⟩ W
 · rcases RC k with h0|h0
   · subst h0
     have Z:ys=[]:=MT A1;subst Z;obtain ⟨b,c,rfl⟩:=B.form;have J:n<=c:=by
      obtain ⟨_,⟨hv,h0,_⟩|⟨_,_,_,_,hv,_,h2,_⟩⟩:=B;· omega
      · injection hv with _ _ hv3;omega
     intro a w U K Kp hK _;have W:Sat u (s::R) w:=U.perm (by simpa using O.perm)
     have G:(Builtin.firstCells i.size 0 (.slice (some ⟨gb,o,none⟩) 0 cap)).run P w= .ok #[] w:=by simp [Builtin.firstCells,loadCells,loadCellsFrom]
     have hr:(Builtin.append_ #[t,t] ty #[.slice b n c,.slice (some ⟨gb,o,none⟩) 0 cap]).run P w= .ok (.slice b n c) w:=by
      rw [I]at G;cases b with
      |none=>simp [Builtin.append_,run_underlying ht,Go.sizeOf,typeInfo,hi,I,Builtin.lenOf,J,G]
      |some ad=>simp [Builtin.append_,run_underlying ht,Go.sizeOf,typeInfo,hi,I,Builtin.lenOf,J,G,storeCells]
     have X:(execOp (ev a env) ⟨d,.call ⟨.builtin .append,#[x,y],#[t,t]⟩,ty,pos,af,g⟩).run P w= .ok (.value (.slice b n c)) w:=by
      simp only [E5,resolve,invoke,builtin,SD,Ek,Kf,hx a,hy a,Sem.run_bind,Sem.run_pure,Result.andThen_ok,hr]
     rw [X];exact hK _ _ _ ⟨s,by rw [DG];exact B,rfl⟩ W
   · exact E8 ht hi I cO gm ek hx B hy O bn.has d9 hl h1 h0 cu hb
end
theorem One.memF{s:List A9}{H R:Hp}(h:One s H R):∀p∈s,p∈H.flatten:=fun p B=>by
 have:=h.perm.mem_iff (a:=p);exact this.2 (E7 _ B)
section
variable{P:Program}{u:AD}{env:Env}{H R R2:Hp}{d:Option Nat}{ty:AK}{pos:String}{af:Array Edge}{g:Option (Nat×Bool)}
theorem RQ{x y:Operand}{t e:AK}{i:TypeInfo}{z:A3}{by_ sz n k:Nat}{b:B6}{v2:A3}{xs ys:List A3}{s s2:List A9}
 (ht:P.underlying t=some (.slice e))(hi:P.info? e=some i)(j3:i.size=sz)(d9:i.bytes=by_)(l8:i.zero=some z)(l5:z.cells.size=sz)
 (hx:∀a,ev a env x= .slice b n n)(U:Nh sz (.slice b n n) n xs s)(hy:∀a,ev a env y=v2)(bn:Nh sz v2 k ys s2)(ic:One s H R)(j5:One s2 H R2)(hk:0<k)
 (l9:n+k<=maxLen)(hb:(n+k)*by_<=140737488355328):
 OpW P u ⟨d,.call ⟨.builtin .append,#[x,y],#[t,t]⟩,ty,pos,af,g⟩ env H (fun v' H1=>∃s',Bd sz e v' (n+k) (xs++ys) s'/\H1=s'::H) (fun _ _=>False):=by
 obtain ⟨X,⟨h0,_⟩|⟨g2,o2,cap2,cO,T2,z2,rfl,rfl,gm⟩⟩:=bn;· omega
 intro a w O K Kp hK _;have gy:=H9 (O.get _ (j5.memF (g2,.cells cO T2 z2) B4)) gm
 have gq:ys.length=k*i.size:=by rw [j3];exact X
 have p9:=mL;have G:∀{v':A3} {w':AD},(Builtin.append_ #[t,t] ty #[.slice b n n,.slice (some ⟨g2,o2,none⟩) k cap2]).run P w= .ok v' w'->(execOp (ev a env) ⟨d,.call ⟨.builtin .append,#[x,y],#[t,t]⟩,ty,pos,af,g⟩).run P w= .ok (.value v') w':=fun h=>by
  simp only [E5,resolve,invoke,builtin,SD,Ek,Kf,hx a,hy a,Sem.run_bind,Sem.run_pure,Result.andThen_ok,h]
 have I:∀(m:Nat) (cells:AH) (w1:AD),w1={w with drawn:=m,heap:=w.heap.push (.cells cells e)}->Sat u ([(w.heap.size,.cells cells e (0,0))]::H) w1:=fun m cells w1 h=>by
  subst h;exact (O.drawn m).alloc _
 have B:(xs++ys).length=(n+k)*sz:=by rw [BW,U.1,X,LO]
 have split:∀m p:Nat,p<=m->p*sz+(m -p)*sz=m*sz:=fun m p h=>by rw [<-LO];congr 1;omega
 have Z:∀(ad:Addr),b=some ad->(∀j v,xs[j]?=some v->w.cell? (ad.add j)=some v)->VI P K Kp ((execOp (ev a env) ⟨d,.call ⟨.builtin .append,#[x,y],#[t,t]⟩,ty,pos,af,g⟩).run P w):=fun ad o8 ax=>by
  subst o8;have hr:=run_append_grow (P:=P) w t ty e i z ht hi l8 ad n n xs (by rw [j3];exact U.1) ax ⟨g2,o2,none⟩ k cap2 ys gq gy A1 A1 (growslice_fits A1 (by rw [d9];exact hb))
  rw [G hr];have W:=grownCap_ge w (n+k) n e
  have J:grownCap w (n+k) n e<=maxLen:=grownCap_le_maxLen w (n+k) n e l9;refine hK _ _ _ ⟨[(w.heap.size,.cells (xs.toArray++ys.toArray++Builtin.zeroCells z.cells (grownCap w (n+k) n e -(n+k))) e (0,0))],⟨B,.inr ⟨w.heap.size,grownCap w (n+k) n e,_,(0,0),V,V,W,J,?_,?_,BC _⟩⟩,V⟩ (I _ _ _ V)
  · simp only [jt,size_zeroCells,l5,HD]
    have h1:=split _ _ W;rw [BW]at B;rw [B];exact h1
  · simp only [cS]
    exact Hb (by simpa using B)
 obtain ⟨hl,⟨h0,b9,c9,p8⟩|⟨g1,o1,o9,cu,T1,z1,hv,rfl,ek⟩⟩:=U
 · subst h0
   have kv:xs=[]:=MT A1;cases b with
   |some ad=>exact Z ad rfl (fun j v hj=>by rw [kv]at hj;cases hj)
   |none=>
    subst kv;have hr:=run_append_nil (P:=P) w t ty e i z ht hi l8 ⟨g2,o2,none⟩ k cap2 ys gq gy hk A1 (by rw [d9];exact My (by simpa using hb) (by decide:140737488355328<=281474976710656))
    rw [G hr];have W:=grownCap_ge w k 0 e
    have J:grownCap w k 0 e<=maxLen:=grownCap_le_maxLen w k 0 e A1;refine hK _ _ _ ⟨[(w.heap.size,.cells (ys.toArray++Builtin.zeroCells z.cells (grownCap w k 0 e -k)) e (0,0))],⟨B,.inr ⟨w.heap.size,grownCap w k 0 e,_,(0,0),by simp,V,by omega,J,?_,?_,BC _⟩⟩,V⟩ (I _ _ _ V)
    · simp only [jt,size_zeroCells,l5,HD,X]
      exact split _ _ W
    · simp only [cS,Ln,DM]
      exact Hb X
 · injection hv with hv1 hv2 hv3
   refine Z ⟨g1,o1,none⟩ hv1 fun j v hj=>?_;have h9:=H9 (O.get _ (ic.memF (g1,.cells cu T1 z1) B4)) ek
   exact h9 j v hj
theorem PE{t e:AK}{x hi B:Operand}{b:B6}{n cap h s:Nat}{I mk:IntKind}(U:P.underlying t=some (.slice e))(O:∀w:AD,(Go.sizeOf e).run P w= .ok s w)(hx:∀a,ev a env x= .slice b n cap)(G:∀a,ev a env hi= .int I (h:Int))(J:∀a,ev a env B= .int mk (h:Int))(h2:h<=cap):
 OpP P ⟨d,.slice t x none (some hi) (some B),ty,pos,af,g⟩ env [] (.slice b h h):=fun a w _=>by
 cases b<;>simp [Ki,hx a,G a,J a,Instr.sliceAt,Instr.slice,run_underlying U,Instr.sliceBounds,Instr.sliceBound,asIntOf,h2,O,Addr.add]
theorem IZ(sz:Nat)(e:AK)(g k:Nat)(xs:List A3)(h:xs.length=k*sz)(B:k<=maxLen):Bd sz e (I6 g k k) k xs [(g,.cells xs.toArray e (0,0))]:=
 ⟨h,.inr ⟨g,k,xs.toArray,(0,0),rfl,rfl,D2 _,B,by simp [h],J0 (by simp [h]),BC _⟩⟩
end
end Gw
namespace Gw
open Go Go.RowKit
open Go.ChangeMaps (setBlock)
section
variable{α:Type}{κ:α->A3}{D:α->Prop}{P:Program}
structure Cm(κ:α->A3)(es:Array MapEntry)(clock:Nat)(l:List (α×A3)):Prop where
 pairs:es.toList.map (fun e=>(e.key,e.val))=l.map (fun p=>(κ p.1,p.2))
 born:(es.toList.map (·.born)).Nodup
 old:∀e∈es.toList,e.born<clock
 keys:(l.map (·.1)).Nodup
structure Fv(P:Program)(kt:AK)(κ:α->A3)(D:α->Prop):Prop where
 check:∀(w:AD) (em:Bool) (a:α),D a->(Instr.checkKey em 10000 kt (κ a)).run P w= .ok () w
 find:∀(w:AD) (k:α),D k->∀es:List MapEntry,(∀e∈es,∃a,D a/\e.key=κ a)->((Instr.findKey kt (κ k) es).run P w= .ok none w/\∀e∈es,e.key≠κ k)\/∃j e,(Instr.findKey kt (κ k) es).run P w= .ok (some (j,e.val)) w/\es[j]?=some e/\e.key=κ k
 stays:∀(w:AD) (a:α),D a->(Instr.keyThatStays (κ a) (κ a)).run P w= .ok (κ a) w
 inj:∀a b,κ a=κ b->a=b
theorem Fv.ofLaw{kt:AK}(law:WideMaps.KeyLaw P kt)(key:∀a,D a->∃l,keyOf P kt (κ a)=some l)(inj:∀a b,κ a=κ b->a=b):Fv P kt κ D where
 check:=fun w em a B=>by obtain ⟨l,G⟩:=key a B;exact law.check w em G
 find:=fun w k J es I=>by
  obtain ⟨l,G⟩:=key k J;exact law.find w G es fun e h=>by obtain ⟨a,B,e1⟩:=I e h;rw [e1];exact key a B
 stays:=fun w a B=>by obtain ⟨l,G⟩:=key a B;exact law.stays w G
 inj:=inj
theorem Fv.basic [DecidableEq α]{kt:AK}{O:TypeDesc}(hu:P.underlying kt=some O)(W:∀a b,Instr.sameNow O (κ a) (κ b)=some (decide (a=b)))(hc:∀(w:AD) (em:Bool) (a:α),(Instr.checkKey em 10000 kt (κ a)).run P w= .ok () w)
 (X:∀(w:AD) (a:α),(Instr.keyThatStays (κ a) (κ a)).run P w= .ok (κ a) w)(inj:∀a b,κ a=κ b->a=b):Fv P kt κ D where
 check:=fun w em a _=>hc w em a
 find:=fun w k _ es U=>by
  have h:∀(es:List MapEntry) (i:Nat),(∀e∈es,∃a,D a/\e.key=κ a)->(Instr.findNow O (κ k) es i=some none/\∀e∈es,e.key≠κ k)\/∃j e,Instr.findNow O (κ k) es i=some (some (i+j,e.val))/\es[j]?=some e/\e.key=κ k:=by
   intro es;induction es with
   |nil=>intro i _;exact .inl ⟨rfl,by simp⟩
   |cons e es ih=>
    intro i U;obtain ⟨a,_,I⟩:=U e B4;by_cases J:k=a
    · refine .inr ⟨0,e,?_,rfl,by rw [I,J]⟩
      simp only [Instr.findNow,I,W,J,decide_true,Rg]
    · rcases ih (i+1) (fun e h=>U e (FA _ h))with⟨G,h2⟩|⟨j,e',G,h2,h3⟩
      · refine .inl ⟨?_,fun e' h=>?_⟩
        · simp only [Instr.findNow,I,W,J,aE];exact G
        · rcases DB.1 h with rfl|h
          · rw [I];exact fun h=>J (inj _ _ h.symm)
          · exact h2 e' h
      · refine .inr ⟨j+1,e',?_,h2,h3⟩
        simp only [Instr.findNow,I,W,J,aE];rw [G,show i+1+j=i+(j+1) by omega]
  have B:∀r,Instr.findNow O (κ k) es 0=some r->(Instr.findKey kt (κ k) es).run P w= .ok r w:=fun r Z=>by
   simp only [Instr.findKey,Sem.run_bind,run_underlying hu,Result.andThen,Z];rfl
  rcases h es 0 U with⟨G,h2⟩|⟨j,e,G,h2,h3⟩
  · exact .inl ⟨B _ G,h2⟩
  · exact .inr ⟨j,e,B _ (by rw [G,DM]),h2,h3⟩
 stays:=fun w a _=>X w a
 inj:=inj
theorem pE{kt:AK}(B:P.underlying kt=some (.int .i64))(w:AD)(k:Int)(b:Bool)(n:Nat):(Instr.checkKey b (n+1) kt (I4 k)).run P w= .ok () w:=by
 simp only [Instr.checkKey,Sem.run_bind,run_underlying B,Result.andThen];rfl
theorem oz{kt:AK}(B:P.underlying kt=some .string)(w:AD)(k:Bk)(b:Bool)(n:Nat):(Instr.checkKey b (n+1) kt (.string k)).run P w= .ok () w:=by
 simp only [Instr.checkKey,Sem.run_bind,run_underlying B,Result.andThen];rfl
theorem vv(n:Nat)(k:Int):Instr.sameBits (n+1) (I4 k) (I4 k)=true:=by simp [Instr.sameBits]
theorem vk(n:Nat)(k:Bk):Instr.sameBits (n+1) (.string k) (.string k)=true:=by
 simp only [Instr.sameBits];cases k with|mk k=>show(k==k)=true;simp
theorem YX{v:A3}(h:Instr.sameBits 10000 v v=true)(w:AD):(Instr.keyThatStays v v).run P w= .ok v w:=by
 unfold Instr.keyThatStays;rw [Ax h];rfl
theorem CY{kt:AK}{D:Int->Prop}(B:P.underlying kt=some (.int .i64)):Fv P kt (fun k:Int=>Value.int .i64 k) D:=
 Fv.basic B (fun a b=>by simp only [Instr.sameNow];congr 1) (fun w em a=>pE B w a em 9999) (fun w a=>YX (vv 9999 a) w) (fun a b h=>by injection h)
theorem Dl{kt:AK}{D:Bk->Prop}(B:P.underlying kt=some .string):Fv P kt (fun k:Bk=>Value.string k) D:=
 Fv.basic B (fun a b=>by
  simp only [Instr.sameNow];congr 1;cases a with|mk a=>cases b with|mk b=>
  show(a==b)=_;simp only [ByteArray.mk.injEq];exact nF.2 B4) (fun w em a=>oz B w a em 9999) (fun w a=>YX (vk 9999 a) w) (fun a b h=>by injection h)
theorem EW(κ:α->A3):Cm κ #[] 0 []:=⟨rfl,by simp,by simp,by simp⟩
variable{es:Array MapEntry}{clock:Nat}{l:List (α×A3)}{kt:AK}
theorem Cm.size(h:Cm κ es clock l):es.size=l.length:=by
 have:=congrArg List.length h.pairs;simpa using this
theorem Cm.at_(h:Cm κ es clock l){j:Nat}{e:MapEntry}(G:es.toList[j]?=some e):∃p,l[j]?=some p/\e.key=κ p.1/\e.val=p.2:=by
 have B:(es.toList.map (fun e=>(e.key,e.val)))[j]?=some (e.key,e.val):=by rw [E0,G];rfl
 rw [h.pairs,E0]at B;cases hp:l[j]?with
 |none=>rw [hp]at B;cases B
 |some p=>
  rw [hp]at B;injection B with B
  injection B with h2 h3
  exact ⟨p,V,h2.symm,h3.symm⟩
theorem Cm.of(h:Cm κ es clock l){j:Nat}{p:α×A3}(G:l[j]?=some p):∃e,es.toList[j]?=some e/\e.key=κ p.1/\e.val=p.2:=by
 have B:(l.map (fun p=>(κ p.1,p.2)))[j]?=some (κ p.1,p.2):=by rw [E0,G];rfl
 rw [<-h.pairs,E0]at B;cases he:es.toList[j]?with
 |none=>rw [he]at B;cases B
 |some e=>
  rw [he]at B;injection B with B
  injection B with h2 h3
  exact ⟨e,V,h2,h3⟩
theorem IB(X:Fv P kt κ D)(W:Cm κ es clock l)(hl:∀p∈l,D p.1)(w:AD)(k:α)(Z:D k):
 ((Instr.findKey kt (κ k) es.toList).run P w= .ok none w/\∀p∈l,p.1≠k)\/∃j v,(Instr.findKey kt (κ k) es.toList).run P w= .ok (some (j,v)) w/\l[j]?=some (k,v):=by
 rcases X.find w k Z es.toList (fun e O=>by
  obtain ⟨j,U⟩:=HE O;obtain ⟨p,G,B,_⟩:=W.at_ U;exact ⟨p.1,hl p (Dg G),B⟩)with⟨B,h2⟩|⟨j,e,B,h2,h3⟩
 · refine .inl ⟨B,fun p G O=>?_⟩
   obtain ⟨j,U⟩:=HE G;obtain ⟨e,I,J,_⟩:=W.of U;exact h2 e (Dg I) (by rw [J,O])
 · obtain ⟨p,G,I,J⟩:=W.at_ h2
   refine .inr ⟨j,e.val,B,?_⟩;rw [G,J,<-X.inj p.1 k (by rw [<-I,h3])]
def EK [DecidableEq α](k:α)(l:List (α×A3)):Option A3:=(l.find? (fun p=>decide (p.1=k))).map (·.2)
theorem Da [DecidableEq α]{k:α}(h:∀p∈l,p.1≠k):EK k l=none:=by
 unfold EK;rw [mu.2 (fun p B=>by simpa using h p B)];rfl
theorem Cy [DecidableEq α]{k:α}{v:A3}:∀{l:List (α×A3)},(l.map (·.1)).Nodup->(k,v)∈l->EK k l=some v
 |p::l,hn,h=>by
  rw [Ek,Hc]at hn;unfold EK;rcases DB.1 h with rfl|h
  · simp
  · rw [List.find?_cons_of_neg (by simp;rintro rfl;exact hn.1 (C3.2 ⟨_,h,rfl⟩))]
    exact Cy hn.2 h
theorem Vz [DecidableEq α]{k:α}{v:A3}{l:List (α×A3)}(h:EK k l=some v):(k,v)∈l:=by
 unfold EK at h;cases hf:l.find? (fun p=>decide (p.1=k))with
 |none=>rw [hf]at h;cases h
 |some p=>
  rw [hf]at h;injection h with h
  have B:=nb hf;have h2:=lr hf
  simp only [G3]at B;rw [<-B,<-h];exact h2
section
variable{env:Env}{d:Option Nat}{ty:AK}{pos:String}{af:Array Edge}{g:Option (Nat×Bool)}{t et:AK}{r:Nat}{m x y:Operand}{k:α}{v z:A3}
theorem F3(B:Fv P kt κ D)(G:D k)(w:AD)(em:Bool):(Instr.checkKey em 10000 kt (κ k)).run P w= .ok () w:=by
 exact B.check w em k G
theorem sK [DecidableEq α](G:Fv P kt κ D)(U:P.underlying t=some (.map kt et))(hz:∀w:AD,(zeroValue et).run P w= .ok z w)(O:Cm κ es clock l)(W:∀p∈l,D p.1)(I:D k)(hx:∀a,ev a env m= .map (some r))(hy:∀a,ev a env x=κ k):
 OpP P ⟨d,.lookup t m x true,ty,pos,af,g⟩ env [(r,.map es clock)] (.tuple #[(EK k l).getD z,.bool (EK k l).isSome]):=fun a w X=>by
 have J:=X (r,.map es clock) B4;show((do pure (Next.value (<-Instr.lookup t (ev a env m) (ev a env x) true))):Sem Next).run P w=_
 rw [hx a,hy a];rcases IB G O W w k I with⟨B,h2⟩|⟨j,v,B,h2⟩
 · rw [Da h2]
   simp only [Instr.lookup,Sem.run_bind,run_underlying U,Result.andThen,MapKept.run_getObj_map J,F3 G I,Sem.run_pure,B,hz];rfl
 · rw [Cy O.keys (Dg h2)]
   simp only [Instr.lookup,Sem.run_bind,run_underlying U,Result.andThen,MapKept.run_getObj_map J,F3 G I,Sem.run_pure,B];rfl
theorem EC [DecidableEq α]{v0:A3}{b0:Bool}(B:Fv P kt κ D)(O:P.underlying t=some (.map kt et))(hz:∀w:AD,(zeroValue et).run P w= .ok z w)(J:Cm κ es clock l)(I:∀p∈l,D p.1)(G:D k)(hv:(EK k l).getD z=v0/\(EK k l).isSome=b0)(hx:∀a,ev a env m= .map (some r))(hy:∀a,ev a env x=κ k):
 OpP P ⟨d,.lookup t m x true,ty,pos,af,g⟩ env [(r,.map es clock)] (.tuple #[v0,.bool b0]):=by
 have:=sK (d:=d) (ty:=ty) (pos:=pos) (af:=af) (g:=g) B O hz J I G hx hy;rwa [hv.1,hv.2]at this
theorem QU(J:P.underlying t=some (.map kt et))(G:Cm κ es clock l)(hx:∀a,ev a env m= .map (some r)):
 OpP P ⟨d,.call ⟨.builtin .len,#[m],#[t]⟩,ty,pos,af,g⟩ env [(r,.map es clock)] (I4 (l.length:Int)):=fun a w I=>by
 have B:=I (r,.map es clock) B4;simp [E5,resolve,invoke,builtin,hx a,Builtin.len_,run_underlying J,MapKept.run_getObj_map B,goInt,G.size]
theorem Fh{w:AD}{c:Nat}(B:w.heap[r]?=some (.map es c))(o':Obj):(setObj r o').run P w= .ok () (setBlock w r o'):=by
 simp [setObj,Sem.run,B,setBlock]
variable{u:AD}{H R:Hp}
theorem DX:OpW P u ⟨d,.makeMap t none,ty,pos,af,g⟩ env H (fun I H1=>∃b,I= .map (some b)/\H1=[(b,.map #[] 0)]::H) (fun _ _=>False):=fun a w G K J B _=>by
 have:(execOp (ev a env) ⟨d,.makeMap t none,ty,pos,af,g⟩).run P w= .ok (.value (.map (some w.heap.size))) {w with heap:=w.heap.push (.map #[] 0)}:=by
  show((do pure (Next.value (<-Instr.makeMap t none))):Sem Next).run P w=_;rfl
 rw [this];exact B _ _ _ ⟨_,V,V⟩ (G.alloc _)
theorem Jd{w:AD}(B:One [(r,.map es clock)] H R)(G:Sat u H w)(o':Obj):w.heap[r]?=some (.map es clock)/\Sat u ([(r,o')]::R) (setBlock w r o'):=by
 have J:Sat u ([(r,.map es clock)]::R) w:=G.perm (by simpa using B.perm);have O:=J.get (r,.map es clock) B4
 have I:r<w.heap.size:=(HU.1 O).1;exact ⟨O,J.upd (Upd.here _) rfl rfl rfl (by simp [setBlock,I]) (fun j U=>by simp only [setBlock,iv];rw [An (fun e=>U e.symm)])⟩
theorem aG{i:Nat}{q:A3}(I:l[i]?=some (k,q))(v:A3):((l.set i (k,v)).map (·.1))=l.map (·.1):=by
 apply Mu;intro j;rw [E0,E0,Th];by_cases B:i=j
 · subst B
   have G:=(C4.1 I).1;rw [Ax rfl,Ax G,I];rfl
 · rw [An B]
theorem LU{i j:Nat}{p q:α×A3}(hn:(l.map (·.1)).Nodup)(G:l[i]?=some p)(I:l[j]?=some q)(h:p.1=q.1):i=j:=by
 have B:(l.map (·.1))[i]?=some p.1:=by rw [E0,G];rfl
 have h2:(l.map (·.1))[j]?=some q.1:=by rw [E0,I];rfl
 exact (pS (C4.1 B).1 hn).1 (by rw [B,h2,h])
theorem jo{i:Nat}{q:A3}(hn:(l.map (·.1)).Nodup)(J:l[i]?=some (k,q))(v:A3)(p:α×A3):p∈l.set i (k,v)↔p=(k,v)\/(p∈l/\p.1≠k):=by
 have I:=(C4.1 J).1;constructor
 · intro h
   obtain ⟨j,B⟩:=HE h;rw [Th]at B;by_cases G:i=j
   · rw [Ax G,Ax A1]at B
     injection B with B;exact .inl B.symm
   · rw [An G]at B
     exact .inr ⟨Dg B,fun e=>G (LU hn J B e.symm)⟩
 · rintro (rfl|⟨h,hne⟩)
   · exact Dg (by rw [Th,Ax rfl,Ax I])
   · obtain ⟨j,B⟩:=HE h
     refine Dg (i:=j) ?_;rw [Th,An];· exact B
     · rintro rfl
       rw [J]at B;injection B with B
       exact hne (by rw [<-B])
theorem FH(hK:Fv P kt κ D)(ht:P.underlying t=some (.map kt et))(J:Cm κ es clock l)(hl:∀p∈l,D p.1)(hk:D k)(hx:∀a,ev a env m= .map (some r))(hy:∀a,ev a env x=κ k)(hv:∀a,ev a env y=v)(W:One [(r,.map es clock)] H R):
 OpW P u ⟨d,.mapUpdate t m x y,ty,pos,af,g⟩ env H (fun v' H1=>v'=undef/\∃G B Z,Cm κ G B Z/\(∀p,p∈Z↔p=(k,v)\/(p∈l/\p.1≠k))/\H1=[(r,.map G B)]::R) (fun _ _=>False):=fun a w X K Kp cu _=>by
 obtain ⟨hb,_⟩:=Jd W X (.map es clock)
 suffices hrun:∃G B Z,(Instr.mapUpdate t (.map (some r)) (κ k) v).run P w= .ok () (setBlock w r (.map G B))/\Cm κ G B Z/\∀p,p∈Z↔p=(k,v)\/(p∈l/\p.1≠k) by
  obtain ⟨G,B,Z,h1,h2,h3⟩:=hrun;have:(execOp (ev a env) ⟨d,.mapUpdate t m x y,ty,pos,af,g⟩).run P w= .ok .skip (setBlock w r (.map G B)):=by
   show((do Instr.mapUpdate t (ev a env m) (ev a env x) (ev a env y);pure Next.skip):Sem Next).run P w=_;rw [hx a,hy a,hv a,Sem.run_bind,h1];rfl
  rw [this];exact cu _ _ _ ⟨V,G,B,Z,h2,h3,V⟩ (Jd W X _).2
 rcases IB hK J hl w k hk with⟨h1,h2⟩|⟨j,q,h1,h2⟩
 · refine ⟨es.push {key:=κ k,val:=v,born:=clock},clock+1,l++[(k,v)],?_,⟨?_,?_,?_,?_⟩,?_⟩
   · simp only [Instr.mapUpdate,Sem.run_bind,run_underlying ht,Result.andThen,MapKept.run_getObj_map hb,F3 hK hk,h1,Fh hb]
   · simp [J.pairs]
   · simp only [mx,C2,Ek,Kf]
     rw [HA];refine ⟨J.born,by simp,?_⟩;intro a ha b O ax;simp only [C3,C1]at ha O;obtain ⟨e,U,rfl⟩:=ha;have:=J.old e U
     omega
   · intro e U
     simp only [mx,Bm,C1]at U;rcases U with U|rfl
     · have:=J.old e U;omega
     · simp
   · rw [C2,HA]
     refine ⟨J.keys,by simp,?_⟩;intro a ha b O ax;simp only [Ek,Kf,C1]at O;obtain ⟨p,hp,rfl⟩:=C3.1 ha;exact h2 p hp (by rw [ax,O])
   · intro p
     rw [Bm,C1];constructor
     · rintro (h|rfl)
       · exact .inr ⟨h,h2 p h⟩
       · exact .inl rfl
     · rintro (rfl|⟨h,_⟩)
       · exact .inr rfl
       · exact .inl h
 · obtain ⟨e0,bn,d9,gm⟩:=J.of h2
   have cO:es[j]?=some e0:=by simpa using bn
   have ek:(Instr.keyThatStays (((es[j]?).map (·.key)).getD (κ k)) (κ k)).run P w= .ok (κ k) w:=by
    rw [cO];show(Instr.keyThatStays e0.key (κ k)).run P w=_
    rw [d9];exact hK.stays w k hk
   refine ⟨es.modify j fun e=>{e with key:=κ k,val:=v},clock,l.set j (k,v),?_,⟨?_,?_,?_,?_⟩,jo J.keys h2 v⟩;· simp only [Instr.mapUpdate,Sem.run_bind,run_underlying ht,Result.andThen,MapKept.run_getObj_map hb,F3 hK hk,h1,ek,Fh hb]
   · rw [fc]
     apply Mu;intro i;have hj:(es.toList.map (fun e=>(e.key,e.val)))[i]?=(l.map (fun p=>(κ p.1,p.2)))[i]?:=by rw [J.pairs]
     rw [E0,E0]at hj;rw [E0,E0,fY,Th];by_cases I:j=i
     · subst I
       rw [Ax rfl,Ax (C4.1 h2).1,bn];simp
     · simpa [I]using hj
   · have:(es.modify j fun e=>{e with key:=κ k,val:=v}).toList.map (·.born)=es.toList.map (·.born):=by
      rw [fc];apply Mu;intro i;simp only [E0,fY];by_cases I:j=i;· subst I;cases es.toList[j]?<;>simp
      · simp [I]
     rw [this];exact J.born
   · intro e U
     rw [fc]at U;obtain ⟨i,hi⟩:=HE U;simp only [fY]at hi;cases h9:es.toList[i]?with
     |none=>simp [h9]at hi
     |some e1=>
      have:=J.old e1 (Dg h9);by_cases I:j=i
      · subst I
        simp only [h9,Hj,Option.map_eq_map,NX,WD]at hi;subst hi;exact this
      · simp [h9,I]at hi
        subst hi;exact this
   · rw [aG h2 v];exact J.keys
theorem Lh{t2:AK}(hK:Fv P kt κ D)(ht:P.underlying t=some (.map kt et))(W:Cm κ es clock l)(hl:∀p∈l,D p.1)(hk:D k)(hx:∀a,ev a env m= .map (some r))(hy:∀a,ev a env x=κ k)(I:One [(r,.map es clock)] H R):
 OpW P u ⟨d,.call ⟨.builtin .delete,#[m,x],#[t,t2]⟩,ty,pos,af,g⟩ env H (fun v' H1=>v'= .tuple #[]/\∃G B X,Cm κ G B X/\(∀p,p∈X↔p∈l/\p.1≠k)/\H1=[(r,.map G B)]::R) (fun _ _=>False):=fun a w J K Kp bn _=>by
 obtain ⟨hb,_⟩:=Jd I J (.map es clock)
 suffices hrun:∃G B X,(Builtin.delete_ #[t,t2] ty #[.map (some r),κ k]).run P w= .ok (.tuple #[]) (setBlock w r (.map G B))/\Cm κ G B X/\∀p,p∈X↔p∈l/\p.1≠k by
  obtain ⟨G,B,X,Z,h2,h3⟩:=hrun;have:(execOp (ev a env) ⟨d,.call ⟨.builtin .delete,#[m,x],#[t,t2]⟩,ty,pos,af,g⟩).run P w= .ok (.value (.tuple #[])) (setBlock w r (.map G B)):=by
   simp only [E5,resolve,invoke,builtin,SD,Ek,Kf,hx a,hy a,Sem.run_bind,Sem.run_pure,Result.andThen_ok,Z]
  rw [this];exact bn _ _ _ ⟨V,G,B,X,h2,h3,V⟩ (Jd I J _).2
 rcases IB hK W hl w k hk with⟨Z,h2⟩|⟨j,q,Z,h2⟩
 · refine ⟨es,clock,l,?_,W,fun p=>⟨fun h=>⟨h,h2 p h⟩,fun h=>h.1⟩⟩
   simp only [Builtin.delete_,j8,ao,cQ,Sem.run_bind,run_underlying ht,Result.andThen,MapKept.run_getObj_map hb,F3 hK hk,Z,Fh hb,Sem.run_pure]
 · have U:(es.eraseIdxIfInBounds j).toList=es.toList.eraseIdx j:=by
    unfold Array.eraseIdxIfInBounds;split;· simp
    · rename_i h;rw [List.eraseIdx_of_length_le (by simpa using h)]
   have O:(es.toList.eraseIdx j).Sublist es.toList:=List.eraseIdx_sublist _ _;have ax:∀{α β:Type} (f:α->β) (m:List α) (n:Nat),(m.eraseIdx n).map f=(m.map f).eraseIdx n:=by
    intro α β f m;induction m with
    |nil=>intro n;simp
    |cons x m ih=>intro n;cases n<;>simp [ih]
   refine ⟨es.eraseIdxIfInBounds j,clock,l.eraseIdx j,?_,⟨?_,?_,?_,?_⟩,fun p=>?_⟩;· simp only [Builtin.delete_,j8,ao,cQ,Sem.run_bind,run_underlying ht,Result.andThen,MapKept.run_getObj_map hb,F3 hK hk,Z,Fh hb,Sem.run_pure]
   · rw [U,ax,W.pairs,ax]
   · rw [U];exact (O.map _).nodup W.born
   · intro e he
     rw [U]at he;exact W.old e (O.subset he)
   · exact ((List.eraseIdx_sublist l j).map _).nodup W.keys
   · rw [List.mem_eraseIdx_iff_getElem?]
     constructor
     · rintro ⟨i,cu,hi⟩
       exact ⟨Dg hi,fun e=>cu (LU W.keys hi h2 e)⟩
     · rintro ⟨h,cO⟩
       obtain ⟨i,hi⟩:=HE h;refine ⟨i,?_,hi⟩;rintro rfl;rw [h2]at hi;injection hi with hi
       exact cO (by rw [<-hi])
end
end
end Gw
namespace Gw
open Go Go.RowKit
open Go.ChangeMaps
section
variable{α:Type}{κ:α->A3}{P:Program}{es:Array MapEntry}{clock:Nat}{l:List (α×A3)}
structure J2(es:Array MapEntry)(js:List Nat)(seen:Array Nat):Prop where
 nodup:js.Nodup
 lt:∀j∈js,j<es.size
 mem:∀(j:Nat) (e:MapEntry),es.toList[j]?=some e->(seen.contains e.born=true↔j∈js)
 last:∀(j:Nat),js.getLast?=some j->∃e,es.toList[j]?=some e/\∃s0:Array Nat,seen=s0.push e.born
theorem KV(es:Array MapEntry):J2 es [] #[]:=⟨by simp,by simp,by simp,by simp⟩
theorem cB{es:Array MapEntry}(hn:(es.toList.map (·.born)).Nodup){i j:Nat}{a b:MapEntry}(G:es.toList[i]?=some a)(I:es.toList[j]?=some b)(h:a.born=b.born):i=j:=by
 have B:(es.toList.map (·.born))[i]?=some a.born:=by rw [E0,G];rfl
 have h2:(es.toList.map (·.born))[j]?=some b.born:=by rw [E0,I];rfl
 exact (pS (C4.1 B).1 hn).1 (by rw [B,h2,h])
theorem J2.push(J:Cm κ es clock l){js:List Nat}{seen:Array Nat}(h:J2 es js seen){j:Nat}{e:MapEntry}(G:es.toList[j]?=some e)(U:j∉js):J2 es (js++[j]) (seen.push e.born):=by
 refine ⟨?_,?_,?_,?_⟩
 · rw [HA]
   refine ⟨h.nodup,by simp,?_⟩;intro a O b B I;rw [C1]at B;subst B I;exact U O
 · intro i hi
   rcases Bm.1 hi with hi|hi
   · exact h.lt i hi
   · rw [C1]at hi
     subst hi;have:=(C4.1 G).1
     simpa using this
 · intro i x hx
   rw [Bm,C1,<-h.mem i x hx,Array.contains_push];simp only [SP,beq_iff_eq];constructor
   · rintro (B|hc)
     · first|exact .inr (cB J.born hx G B)|exact .inl B
     · first|exact .inl hc|exact .inr (cB J.born hx G hc)
   · rintro (hc|rfl)
     · first|exact .inr hc|exact .inl hc
     · rw [G]at hx
       injection hx with hx
       subst hx;first|exact .inl rfl|exact .inr rfl
 · intro i hi
   rw [List.getLast?_append]at hi;simp at hi;subst hi;exact ⟨e,G,seen,V⟩
def DV(l:List (α×A3))(js:List Nat):List (α×A3):=js.filterMap (fun j=>l[j]?)
theorem G5(l:List (α×A3))(js:List Nat){j:Nat}{p:α×A3}(B:l[j]?=some p):DV l (js++[j])=DV l js++[p]:=by
 unfold DV;rw [fW];simp [B]
theorem NV(l:List (α×A3)):DV l (List.range l.length)=l:=by
 have h:∀n,n<=l.length->DV l (List.range n)=l.take n:=by
  intro n;induction n with
  |zero=>intro _;rfl
  |succ n ih=>
   intro hn;obtain ⟨p,B⟩:∃p,l[n]?=some p:=⟨_,B7 A1⟩;rw [kB,G5 l _ B,ih A1,RK,B];rfl
 rw [h _ (D2 _),GS]
theorem J2.done(O:Cm κ es clock l){js:List Nat}{seen:Array Nat}(h:J2 es js seen)(h0:(leftOf es seen).size=0):(DV l js).Perm l:=by
 have U:js.Perm (List.range l.length):=by
  rw [S7 h.nodup jz];intro j;rw [LL,<-O.size];constructor;· exact h.lt j
  · intro J
    have B:j<es.toList.length:=by simpa using J
    have I:es.toList[j]?=some (es.toList[j]):=B7 B;rw [<-h.mem j _ I];unfold leftOf at h0;have G:=Array.filter_eq_empty_iff.1 (Array.eq_empty_of_size_eq_zero h0)
    have h2:=G (es.toList[j]) (pB.1 (ph B));simpa using h2
 have:=U.filterMap (fun j=>l[j]?);exact this.trans (by rw [show(List.range l.length).filterMap (fun j=>l[j]?)=DV l (List.range l.length) from rfl,NV])
section
variable{env:Env}{d:Option Nat}{ty:AK}{pos:String}{af:Array Edge}{g:Option (Nat×Bool)}{t kt et:AK}{r b:Nat}{x:Operand}{u:AD}{H R:Hp}
theorem Lg(O:P.underlying t=some (.map kt et))(hx:∀a,ev a env x= .map (some r))(B:(r,.map es clock)∈H.flatten):
 OpW P u ⟨d,.range t x,ty,pos,af,g⟩ env H (fun U H1=>∃b,U=I5 b/\H1=[(b,.mapIter (some r) clock #[] clock)]::H) (fun _ _=>False):=fun a w G K W I _=>by
 have J:=G.get _ B;have:(execOp (ev a env) ⟨d,.range t x,ty,pos,af,g⟩).run P w= .ok (.value (.pointer (some ⟨w.heap.size,0,none⟩))) {w with heap:=w.heap.push (.mapIter (some r) clock #[] clock)}:=by
  show((do pure (Next.value (<-Instr.range t (ev a env x)))):Sem Next).run P w=_;rw [hx a];simp only [Instr.range,Sem.run_bind,run_underlying O,Result.andThen,MapKept.run_getObj_map J];rfl
 rw [this];exact I _ _ _ ⟨_,V,V⟩ (G.alloc _)
theorem Nj(G:P.underlying t=some (.map kt et))(hx:∀a,ev a env x= .map (some r))(B:Has r (.map es clock) H):
 OpW P u ⟨d,.range t x,ty,pos,af,g⟩ env H (fun I H1=>∃b,I=I5 b/\H1=[(b,.mapIter (some r) clock #[] clock)]::H) (fun _ _=>False):=Lg G hx B.mem
theorem xS{w:AD}{o:Obj}(B:One [(b,o)] H R)(G:Sat u H w)(o':Obj):w.heap[b]?=some o/\Sat u ([(b,o')]::R) (setBlock w b o'):=by
 have J:Sat u ([(b,o)]::R) w:=G.perm (by simpa using B.perm);have O:=J.get (b,o) B4
 have I:b<w.heap.size:=(HU.1 O).1;exact ⟨O,J.upd (Upd.here _) rfl rfl rfl (by simp [setBlock,I]) (fun j U=>by simp only [setBlock,iv];rw [An (fun e=>U e.symm)])⟩
theorem Nk(X:Cm κ es clock l){js:List Nat}{seen:Array Nat}(hi:J2 es js seen)(hx:∀a,ev a env x=I5 b)(J:One [(b,.mapIter (some r) clock seen clock)] H R)(U:(r,.map es clock)∈R.flatten):
 OpW P u ⟨d,.next x false,ty,pos,af,g⟩ env H (fun v' H1=>((DV l js).Perm l/\v'= .tuple #[.bool false]/\H1=[(b,.mapIter (some r) clock seen clock)]::R)\/
  ∃j p I,l[j]?=some p/\j∉js/\J2 es (js++[j]) I/\v'= .tuple #[.bool true,κ p.1,p.2]/\H1=[(b,.mapIter (some r) clock I clock)]::R) (fun _ _=>False):=fun a w G K Kp hK _=>by
 have Z:Sat u ([(b,.mapIter (some r) clock seen clock)]::R) w:=G.perm (by simpa using J.perm);have hb:=Z.get (b,.mapIter (some r) clock seen clock) (by simp)
 have hr:=Z.get (r,.map es clock) (by simp [U]);have ax:(execOp (ev a env) ⟨d,.next x false,ty,pos,af,g⟩)=((do pure (Next.value (<-Instr.next (I5 b) false ty))):Sem Next):=by
  rw [<-hx a];rfl
 rw [ax];rcases run_next_at (P:=P) w ty b r clock clock seen es clock hb hr X.old (D2 _)with⟨hz,B⟩|⟨e,he,w1,hw1,B⟩
 · rw [Sem.run_bind,B]
   exact hK _ _ _ (.inl ⟨hi.done X hz,V,V⟩) Z
 · rw [Sem.run_bind,B]
   have O:e∈es.toList/\seen.contains e.born=false:=by
    unfold leftOf at he;simpa using he
   obtain ⟨j,hj⟩:=HE O.1;obtain ⟨p,hp,hk,hv⟩:=X.at_ hj;have W:j∉js:=fun h=>by
    have:=(hi.mem j e hj).2 h;rw [O.2]at this;cases this
   refine hK _ _ _ (.inr ⟨j,p,_,hp,W,hi.push X hj W,by rw [hk,hv],rfl⟩) ?_;have h2:Sat u H w1:=by
    rcases hw1 with rfl|rfl
    · exact G
    · exact G.drew
   exact (xS J h2 _).2
theorem Pz(O:Cm κ es clock l){js:List Nat}{seen:Array Nat}(hi:J2 es js seen)(hx:∀a,ev a env x=I5 b)(I:One [(b,.mapIter (some r) clock seen clock)] H R)(G:Has r (.map es clock) R):
 OpW P u ⟨d,.next x false,ty,pos,af,g⟩ env H (fun J H1=>((DV l js).Perm l/\J= .tuple #[.bool false]/\H1=[(b,.mapIter (some r) clock seen clock)]::R)\/
  ∃j p B,l[j]?=some p/\j∉js/\J2 es (js++[j]) B/\J= .tuple #[.bool true,κ p.1,p.2]/\H1=[(b,.mapIter (some r) clock B clock)]::R) (fun _ _=>False):=Nk O hi hx I G.mem
theorem JK(J:Cm κ es clock l){js:List Nat}{seen:Array Nat}{j:Nat}{p:α×A3}(hi:J2 es (js++[j]) seen)(X:l[j]?=some p)(hx:∀a,ev a env x=I5 b):
 OpP P ⟨d,.entry x,ty,pos,af,g⟩ env [(b,.mapIter (some r) clock seen clock),(r,.map es clock)] (.tuple #[κ p.1,p.2]):=fun a w O=>by
 have U:=O (b,.mapIter (some r) clock seen clock) B4;have Z:=O (r,.map es clock) B4
 obtain ⟨e,I,s0,rfl⟩:=hi.last j B4;obtain ⟨p2,B,W,hv⟩:=J.at_ I;rw [X]at B;injection B with B
 subst B;have G:=run_entry_at (P:=P) w b r clock s0 es clock e U Z (Dg I) J.born
 show((do pure (Next.value (<-Instr.entry (ev a env x)))):Sem Next).run P w=_;rw [hx a,Sem.run_bind,G,W,hv];rfl
end
end
end Gw
namespace Gl
open Go
def linUpon(P:Program)(K:A3->AD->Prop):Result Next->Prop
 | .ok (.value u) w=>K u w
 | .ok .skip w=>K undef w
 | .ok (.enter f args) w=>Calls P f args w (fun e w'=>∃u,e= .returned u/\K u w')
 |_=>False
def lookE(a:Act):List (Nat×A3)->Nat->A3
 |[],t=>a.tmps.getD t undef
 |(d,v)::env,t=>if t=d then v else lookE a env t
def evalE(a:Act)(env:List (Nat×A3)):Operand->A3
 | .tmp t=>lookE a env t
 | .const v=>v
 | .global g=>I5 g
 | .func f=> .func (.func f) #[] #[]
def yieldE(ops:Array Oper)(a:Act)(env:List (Nat×A3))(g:Nat)(want:Bool):Bool:=
 match(ops[g]?).bind (·.dst)with
 |some t=>match lookE a env t with
  | .bool b=>b==want
  |_=>false
 |none=>false
def wantedE(ops:Array Oper)(a:Act)(env:List (Nat×A3)):Option (Nat×Bool)->Bool
 |none=>true
 |some (g,want)=>yieldE ops a env g want
def putE(d:Option Nat)(v:A3)(env:List (Nat×A3)):List (Nat×A3):=
 match d with
 |some d=>(d,v)::env
 |none=>env
def putsE:List (Nat×A3)->Act->Act
 |[],a=>a
 |(d,v)::env,a=>(putsE env a).put (some d) v
def aC(P:Program)(ops:Array Oper)(o:Oper)(a:Act)(env:List (Nat×A3))(v:A3)(R:AD->Prop)(w:AD):Prop:=
 ∀K:A3->AD->Prop,(∀w',R w'->K v w')->if wantedE ops a env o.guard=true then linUpon P K ((execOp (evalE a env) o).run P w)else K undef w
def NM(P:Program)(ops:Array Oper)(S:Nat->AD->Prop)(Q:Act->AD->Prop)(a:Act):Nat->List Oper->List Bool->List (Nat×A3)->Prop
 |k,[],_,env=>∀w,S k w->Q (putsE env a) w
 |k,o::l,true::fs,env=>∃v,(∀w,S k w->aC P ops o a env v (S (k+1)) w)/\NM P ops S Q a (k+1) l fs (putE o.dst v env)
 |k,o::l,false::fs,env=>∃v,(∀j w,S j w->aC P ops o a env v (S j) w)/\NM P ops S Q a k l fs (putE o.dst v env)
 |_,_::_,[],_=>False
def Tn(ops:Array Oper)(fl:List Bool)(N:Nat):Bool:=
 let b:=Region.before ops
 decide (fl.length=ops.size)&&
 (List.range ops.size).all fun j=>match ops[j]?with
   |none=>false
   |some oj=>
    (oj.after.toList.all fun e=>!Region.binds .any e||decide (e.on<j))&&
    ((List.range j).all fun i=>match ops[i]?with
      |none=>false
      |some oi=>
       (!(b.getD j 0).testBit i||oj.after.toList.any (fun e=>Region.binds .any e&&(e.on==i||(decide (i<e.on)&&(b.getD e.on 0).testBit i))))&&
       (oi.apart ops oj||(b.getD j 0).testBit i)&&
       (!(fl.getD i false&&fl.getD j false)||(b.getD j 0).testBit i))&&
    (match oj.op with| .select ..=>false|_=>true)&&
    (match oj.dst with|some d=>decide (d<N)|none=>true)
def KU(p:Nat->Bool):Nat->List (Oper×A3)->Act->Act
 |_,[],a=>a
 |i,x::l,a=>KU p (i+1) l (if p i then a.put x.1.dst x.2 else a)
def tv(p:Nat->Bool)(t:Nat):Nat->List (Oper×A3)->Option A3->Option A3
 |_,[],d=>d
 |i,x::l,d=>tv p t (i+1) l (if p i=true/\x.1.dst=some t then some x.2 else d)
theorem EJ(a:Act)(d:Option Tmp)(v:A3):(a.put d v).tmps.size=a.tmps.size:=by cases d<;>simp [Act.put]
theorem Ji(a:Act)(d:Option Tmp)(v:A3):(a.put d v).defers=a.defers:=by cases d<;>simp [Act.put]
theorem J6(a:Act)(d:Option Tmp)(v:A3)(t:Nat)(B:t<a.tmps.size):(a.put d v).tmps[t]?=if d=some t then some v else a.tmps[t]?:=by
 cases d with
 |none=>simp [Act.put]
 |some d=>
  simp only [Act.put,iv];by_cases e:d=t;· subst e;simp [B]
  · simp [e]
theorem JC{a b:Act}(G:a.tmps.size=b.tmps.size)(B:a.defers=b.defers)(h:∀t,t<a.tmps.size->a.tmps[t]?=b.tmps[t]?):a=b:=by
 obtain ⟨x,d⟩:=a;obtain ⟨y,e⟩:=b;simp only at B G h;subst B;congr 1;apply kh G;intro i hi I;have:=h i hi
 simp only [HQ hi,HQ I,WD]at this;exact this
theorem D5(p:Nat->Bool):∀(i:Nat) (l:List (Oper×A3)) (a:Act),(KU p i l a).tmps.size=a.tmps.size
 |_,[],_=>rfl
 |i,x::l,a=>by simp only [KU];rw [D5 p (i+1) l];split<;>simp [EJ]
theorem FK(p:Nat->Bool):∀(i:Nat) (l:List (Oper×A3)) (a:Act),(KU p i l a).defers=a.defers
 |_,[],_=>rfl
 |i,x::l,a=>by simp only [KU];rw [FK p (i+1) l];split<;>simp [Ji]
theorem EH(p:Nat->Bool)(t:Nat):∀(i:Nat) (l:List (Oper×A3)) (a:Act),t<a.tmps.size->(KU p i l a).tmps[t]?=tv p t i l a.tmps[t]?
 |_,[],_,_=>rfl
 |i,x::l,a,ht=>by
  simp only [KU,tv];rw [EH p t (i+1) l _ (by split<;>simpa [EJ]using ht)];congr 1;by_cases B:p i=true;· simp only [B,Hj,W6];rw [J6 _ _ _ _ ht]
  · simp [B]
theorem Ez(p q:Nat->Bool)(t:Nat):∀(i:Nat) (l:List (Oper×A3)) (d:Option A3),(∀k x,l[k]?=some x->x.1.dst=some t->p (i+k)=q (i+k))->tv p t i l d=tv q t i l d
 |_,[],_,_=>rfl
 |i,x::l,d,h=>by
  simp only [tv];have h0:(if p i=true/\x.1.dst=some t then some x.2 else d)=(if q i=true/\x.1.dst=some t then some x.2 else d):=by
   by_cases e:x.1.dst=some t
   · have:=h 0 x rfl e;simp only [Rg]at this;simp [this]
   · simp [e]
  rw [h0];exact Ez p q t (i+1) l _ fun k y B hy=>by
   have:=h (k+1) y (by simpa using B) hy;rwa [show i+(k+1)=i+1+k from by omega]at this
theorem jO(p:Nat->Bool)(t:Nat):∀(i k:Nat) (l:List (Oper×A3)) (d:Option A3) (x:Oper×A3),l[k]?=some x->x.1.dst=some t->p (i+k)=true->
 (∀G y,k<G->l[G]?=some y->y.1.dst=some t->p (i+G)=false)->tv p t i l d=some x.2
 |i,0,z::l,d,x,B,hx,hp,h=>by
  simp only [ao,WD]at B;subst B;simp only [tv];simp only [Rg]at hp;simp only [hp,hx,and_self,Hj];rw [Ez p (fun _=>false) t (i+1) l _ fun k y B hy=>by
   have:=h (k+1) y (by omega) (by simpa using B) hy;rwa [show i+(k+1)=i+1+k from by omega]at this]
  have:∀(i:Nat) (l:List (Oper×A3)) (d:Option A3),tv (fun _=>false) t i l d=d:=by
   intro i l;induction l generalizing i with
   |nil=>intro d;rfl
   |cons y l ih=>intro d;simp [tv,ih]
  rw [this]
 |i,k+1,z::l,d,x,B,hx,hp,h=>by
  simp only [tv];exact jO p t (i+1) k l _ x (by simpa using B) hx (by rwa [show i+1+k=i+(k+1) from by omega]) fun G y J hy I=>by
   have:=h (G+1) y A1 (by simpa using hy) I;rwa [show i+(G+1)=i+1+G from by omega]at this
 |i,k,[],d,x,B,_,_,_=>by simp at B
def pre(j:Nat)(l:List (Oper×A3))(a:Act):Act:=(l.take j).foldl (fun a x=>a.put x.1.dst x.2) a
theorem Rn(j:Nat):∀(i:Nat) (l:List (Oper×A3)) (a:Act),KU (fun k=>decide (k<i+j)) i l a=pre j l a:=by
 induction j with
 |zero=>
  intro i l;induction l generalizing i with
  |nil=>intro a;rfl
  |cons x l ih=>
   intro a;simp only [KU,Rg,Nat.lt_irrefl,aE,Mn,HO];have:∀(m i:Nat) (l:List (Oper×A3)) (a:Act),i<=m->KU (fun k=>decide (k<i)) m l a=a:=by
    intro m i l;induction l generalizing m with
    |nil=>intro a _;rfl
    |cons y l ih=>intro a h;simp only [KU];rw [An I2];exact ih (m+1) a A1
   rw [this (i+1) i l a A1];rfl
 |succ j ih=>
  intro i l a;cases l with
  |nil=>rfl
  |cons x l=>
   simp only [KU];rw [Ax B4];have:=ih (i+1) l (a.put x.1.dst x.2)
   rw [show i+1+j=i+(j+1) from by omega]at this;rw [this];rfl
def F9(fs:List Bool):Nat:=(fs.filter id).length
def MQ(P:Program)(ops:Array Oper)(o:Oper)(a:Act)(v:A3)(R:AD->Prop)(w:AD):Prop:=
 ∀K:A3->AD->Prop,(∀w',R w'->K v w')->if Region.wanted o (yielded ops a.tmps)then linUpon P K ((execOp a.eval o).run P w)else K undef w
theorem Kr(a:Act):∀env,(putsE env a).tmps.size=a.tmps.size
 |[]=>rfl
 |(d,v)::env=>by simp only [putsE];rw [EJ,Kr a env]
theorem Nt(a:Act):∀(env:List (Nat×A3)),(∀x∈env,x.1<a.tmps.size)->∀t,(putsE env a).tmps.getD t undef=lookE a env t
 |[],_,t=>rfl
 |(d,v)::env,h,t=>by
  simp only [putsE,lookE];have B:=Nt a env (fun x hx=>h x (FA _ hx)) t
  have G:=h (d,v) (EV ..);rw [Lw]at B⊢;by_cases J:t<a.tmps.size
  · rw [J6 _ _ _ _ (by rw [Kr];exact J)]
    by_cases e:t=d
    · subst e;simp
    · rw [An e,<-B,An (fun I=>e (SO I).symm)]
  · rw [IF (by rw [EJ,Kr];omega)]
    rw [IF (by rw [Kr];omega)]at B;rw [<-B,An (by simp only at G;omega)]
theorem eu(a:Act)(env:List (Nat×A3))(h:∀x∈env,x.1<a.tmps.size):(putsE env a).eval=evalE a env:=by
 funext x;cases x with
 |tmp t=>exact Nt a env h t
 |_=>rfl
theorem dP(ops:Array Oper)(o:Oper)(a:Act)(env:List (Nat×A3))(h:∀x∈env,x.1<a.tmps.size):Region.wanted o (yielded ops (putsE env a).tmps)=wantedE ops a env o.guard:=by
 unfold Region.wanted wantedE;cases hg:o.guard with
 |none=>rfl
 |some gw=>
  obtain ⟨g,B⟩:=gw;simp only [yielded,yieldE];cases ht:(ops[g]?).bind (·.dst)with
  |none=>simp
  |some t=>
   simp only [KK];rw [<-Nt a env h t,Lw];cases hv:(putsE env a).tmps[t]?with
   |none=>simp [undef]
   |some v=>cases v<;>simp
theorem WF{P:Program}{ops:Array Oper}{o:Oper}{a:Act}{env:List (Nat×A3)}{v:A3}{R:AD->Prop}{w:AD}(h:∀x∈env,x.1<a.tmps.size)(G:aC P ops o a env v R w):MQ P ops o (putsE env a) v R w:=by
 intro K B;have:=G K B
 rw [dP ops o a env h,eu a env h];exact this
theorem Rw{P:Program}{ops:Array Oper}{S:Nat->AD->Prop}{Q:Act->AD->Prop}{a:Act}:∀(l:List Oper) (fs:List Bool) (k:Nat) (env:List (Nat×A3)),(∀o∈l,∀d,o.dst=some d->d<a.tmps.size)->(∀x∈env,x.1<a.tmps.size)->NM P ops S Q a k l fs env->
 ∃x:List (Oper×A3),x.map (·.1)=l/\
  (∀j o v,x[j]?=some (o,v)->(fs.getD j false=true->∀w,S (k+F9 (fs.take j)) w->MQ P ops o (pre j x (putsE env a)) v (S (k+F9 (fs.take j)+1)) w)/\
    (fs.getD j false=false->∀i w,S i w->MQ P ops o (pre j x (putsE env a)) v (S i) w))/\
  ∀w,S (k+F9 (fs.take l.length)) w->Q (pre l.length x (putsE env a)) w
 |[],fs,k,env,_,_,h=>⟨[],rfl,fun j o v B=>by simp at B,by simpa [NM,F9,pre]using h⟩
 |o::l,true::fs,k,env,hd,he,h=>by
  obtain ⟨v,Z,h2⟩:=h;have I:∀x∈putE o.dst v env,x.1<a.tmps.size:=by
   intro x hx;unfold putE at hx;split at hx
   · rename_i d hdd
     rcases DB.1 hx with rfl|hx
     · exact hd o (EV ..) d hdd
     · exact he x hx
   · exact he x hx
  have J:putsE (putE o.dst v env) a=(putsE env a).put o.dst v:=by unfold putE;split<;>(rename_i hdd;rw [hdd];rfl)
  obtain ⟨x,hx,U,O⟩:=Rw l fs (k+1) _ (fun o' ho=>hd o' (FA _ ho)) I h2;rw [J]at U O;refine ⟨(o,v)::x,by simp [hx],fun j o' v' B=>?_,fun w G=>?_⟩
  · cases j with
    |zero=>
     simp only [ao,WD,kf]at B;obtain ⟨rfl,rfl⟩:=B;exact ⟨fun _ w G=>WF he (Z w (by simpa [F9]using G)),fun h=>by simp at h⟩
    |succ j=>
     obtain ⟨W,X⟩:=U j o' v' (by simpa using B);have e:k+F9 ((true::fs).take (j+1))=k+1+F9 (fs.take j):=by simp [F9];omega
     rw [e];exact ⟨fun h=>W (by simpa using h),fun h=>X (by simpa using h)⟩
  · have e:k+F9 ((true::fs).take (o::l).length)=k+1+F9 (fs.take l.length):=by simp [F9];omega
    rw [e]at G;exact O w G
 |o::l,false::fs,k,env,hd,he,h=>by
  obtain ⟨v,Z,h2⟩:=h;have I:∀x∈putE o.dst v env,x.1<a.tmps.size:=by
   intro x hx;unfold putE at hx;split at hx
   · rename_i d hdd
     rcases DB.1 hx with rfl|hx
     · exact hd o (EV ..) d hdd
     · exact he x hx
   · exact he x hx
  have J:putsE (putE o.dst v env) a=(putsE env a).put o.dst v:=by unfold putE;split<;>(rename_i hdd;rw [hdd];rfl)
  obtain ⟨x,hx,U,O⟩:=Rw l fs k _ (fun o' ho=>hd o' (FA _ ho)) I h2;rw [J]at U O;refine ⟨(o,v)::x,by simp [hx],fun j o' v' B=>?_,fun w G=>?_⟩
  · cases j with
    |zero=>
     simp only [ao,WD,kf]at B;obtain ⟨rfl,rfl⟩:=B;exact ⟨fun h=>by simp at h,fun _ i w G=>WF he (Z i w G)⟩
    |succ j=>
     obtain ⟨W,X⟩:=U j o' v' (by simpa using B);have e:k+F9 ((false::fs).take (j+1))=k+F9 (fs.take j):=by simp [F9]
     rw [e];exact ⟨fun h=>W (by simpa using h),fun h=>X (by simpa using h)⟩
  · have e:k+F9 ((false::fs).take (o::l).length)=k+F9 (fs.take l.length):=by simp [F9]
    rw [e]at G;exact O w G
 |_::_,[],_,_,_,_,h=>(h:False).elim
theorem Qi(n j:Nat)(p q:Nat->Bool)(I:j<n)(B:p j=false)(G:q j=true)(h:∀i,i<n->i≠j->p i=q i):(List.range n).countP q=(List.range n).countP p+1:=by
 induction n with
 |zero=>omega
 |succ n ih=>
  rw [kB,ml,ml];by_cases e:j=n
  · subst e
    have:(List.range j).countP q=(List.range j).countP p:=List.countP_congr fun i hi=>by
     have:=LL.1 hi;rw [h i A1 A1]
    simp [this,B,G]
  · have:=ih A1 fun i hi hn=>h i A1 hn
    have e2:=h n A1 (eM e);simp only [List.countP_singleton,e2];omega
theorem LM(n:Nat)(p q:Nat->Bool)(h:∀i,i<n->p i=q i):(List.range n).countP q=(List.range n).countP p:=
 List.countP_congr fun i hi=>by rw [h i (LL.1 hi)]
theorem OC(fs:List Bool)(n:Nat)(hn:n<=fs.length):∀j,j<=n->(List.range n).countP (fun i=>decide (i<j)&&fs.getD i false)=F9 (fs.take j)
 |0,_=>by simp [F9]
 |j+1,hj=>by
  have G:=OC fs n hn j A1;have J:fs.take (j+1)=fs.take j++[fs[j]]:=by rw [oR A1]
  have B:fs.getD j false=fs[j]:=by simp [B7 (show j<fs.length by omega)]
  rw [J];cases hb:fs[j]with
  |true=>
   rw [Qi n j (fun i=>decide (i<j)&&fs.getD i false) _ A1 B4 (by simp only [B,hb];simp) (fun i _ I=>by
    have:decide (i<j)=decide (i<j+1):=by apply decide_eq_decide.2;omega
    simp only [this]),G]
   simp [F9]
  |false=>
   rw [LM n (fun i=>decide (i<j)&&fs.getD i false) _ (fun i _=>by
    by_cases e:i=j
    · subst e;simp only [B,hb];simp
    · have:decide (i<j)=decide (i<j+1):=by apply decide_eq_decide.2;omega
      simp only [this]),G]
   simp [F9]
structure Iu(ops:Array Oper)(fl:List Bool)(N:Nat):Prop where
 len:fl.length=ops.size
 edge:∀j oj e,ops[j]?=some oj->e∈oj.after->Region.binds .any e=true->e.on<j
 anc:∀j oj i,ops[j]?=some oj->i<j->((Region.before ops).getD j 0).testBit i=true->∃e∈oj.after,Region.binds .any e=true/\(e.on=i\/(i<e.on/\((Region.before ops).getD e.on 0).testBit i=true))
 apart:∀i j oi oj,ops[i]?=some oi->ops[j]?=some oj->i<j->oi.apart ops oj=true\/((Region.before ops).getD j 0).testBit i=true
 flags:∀i j oj,ops[j]?=some oj->i<j->fl.getD i false=true->fl.getD j false=true->((Region.before ops).getD j 0).testBit i=true
 sel:∀(j:Nat) (oj:Oper) (cs:Array SelectCase) (b:Bool),ops[j]?=some oj->oj.op≠ .select cs b
 room:∀(j:Nat) (oj:Oper) (d:Nat),ops[j]?=some oj->oj.dst=some d->d<N
theorem gN{ops:Array Oper}{fl:List Bool}{N:Nat}(h:Tn ops fl N=true):Iu ops fl N:=by
 simp only [Tn,Ft,G3,NO,LL]at h;obtain ⟨h0,h⟩:=h;have G:∀{j:Nat} {o:Oper},ops[j]?=some o->j<ops.size:=fun B=>(HU.1 B).1
 refine ⟨h0,fun j oj e B W U=>?_,fun j oj i B hi U=>?_,fun i j O oj hi B I=>?_,fun i j oj B I X h2=>?_,fun j oj cs b B hs=>?_,fun j oj d B Z=>?_⟩
 · have:=h j (G B)
   simp only [B,Ft,NO]at this;have:=this.1.1.1 e (by simpa using W)
   simpa [U]using this
 · have:=h j (G B)
   simp only [B,Ft,NO,LL]at this;have:=this.1.1.2 i hi
   obtain ⟨O,J⟩:∃O,ops[i]?=some O:=⟨_,HQ (by have:=G B;omega)⟩;simp only [J,Ft]at this;have:=this.1.1
   rw [U]at this;simp only [SR,nh,n4,Ft,SP,beq_iff_eq,G3]at this;obtain ⟨e,W,U,ho⟩:=this;exact ⟨e,by simpa using W,U,ho⟩
 · have:=h j (G B)
   simp only [B,Ft,NO,LL]at this;have:=this.1.1.2 i I
   simp only [hi,Ft,SP]at this;exact this.1.2
 · have:=h j (G B)
   simp only [B,Ft,NO,LL]at this;have:=this.1.1.2 i I
   obtain ⟨O,J⟩:∃O,ops[i]?=some O:=⟨_,HQ (by have:=G B;omega)⟩;simp only [J,Ft]at this;have:=this.2
   rw [X,h2]at this;simpa using this
 · have:=h j (G B)
   simp only [B,Ft]at this;rw [hs]at this;simp at this
 · have:=h j (G B)
   simp only [B,Ft]at this;rw [Z]at this;simpa using this.2
def jG(ops:Array Oper)(L:Array Bool):Prop:=∀j oj,ops[j]?=some oj->L.getD j false=true->∀e∈oj.after,Region.binds .any e=true->L.getD e.on false=true
theorem Fu{ops:Array Oper}{fl:List Bool}{N:Nat}(F:Iu ops fl N){L:Array Bool}(hL:jG ops L):∀(j i:Nat) (oj:Oper),ops[j]?=some oj->i<j->((Region.before ops).getD j 0).testBit i=true->
 (∀e∈oj.after,Region.binds .any e=true->L.getD e.on false=true)->L.getD i false=true:=by
 intro j;induction j using Nat.strongRecOn with
 |ind j ih=>
  intro i oj X hi hb hw;obtain ⟨e,U,B,G⟩:=F.anc j oj i X hi hb;rcases G with rfl|⟨hie,G⟩
  · exact hw e U B
  · have Z:=F.edge j oj e X U B
    obtain ⟨J,I⟩:∃J,ops[e.on]?=some J:=⟨_,HQ (by have:=(HU.1 X).1;omega)⟩;exact ih e.on Z i J I hie G (fun e' W O=>hL e.on J I (hw e U B) e' W O)
theorem LH{ops:Array Oper}{o:Oper}{a b:Act}(h:∀t∈o.looksAt ops,a.tmps[t]?=b.tmps[t]?):∀x∈o.op.operands,a.eval x=b.eval x:=by
 intro x hx;cases x with
 |tmp t=>
  have B:t∈o.looksAt ops:=E7 _ (ar.2 ⟨.tmp t,by simpa using hx,rfl⟩);have:=h t B
  simp only [Act.eval,Lw,this]
 |_=>rfl
theorem Gq{ops:Array Oper}{o:Oper}{a b:Act}(h:∀t∈o.looksAt ops,a.tmps[t]?=b.tmps[t]?):Region.wanted o (yielded ops a.tmps)=Region.wanted o (yielded ops b.tmps):=by
 unfold Region.wanted;cases hg:o.guard with
 |none=>rfl
 |some gw=>
  obtain ⟨g,B⟩:=gw;have hy:yielded ops a.tmps g=yielded ops b.tmps g:=by
   unfold yielded;cases ht:(ops[g]?).bind (·.dst)with
   |none=>rfl
   |some t=>
    have:=h t (by simp [Oper.looksAt,hg,ht]);simp [this]
  simp only [hy]
theorem aB{P:Program}{ops:Array Oper}{i:Nat}{o:Oper}{a b:Act}{v:A3}{R:AD->Prop}{w:AD}{Q:Exit->Act->AD->Prop}{K:Act->AD->Prop}
 (hi:ops[i]?=some o)(I:∀cs b,o.op≠ .select cs b)(U:∀t∈o.looksAt ops,a.tmps[t]?=b.tmps[t]?)
 (h:MQ P ops o b v R w)(J:∀G,R G->K (a.put o.dst v) G):wpOp P ops Q i K a w:=by
 have B:=h (fun u G=>u=v/\R G) (fun G O=>⟨rfl,O⟩);unfold wpOp;simp only [hi];rw [Gq U];by_cases O:Region.wanted o (yielded ops b.tmps)=true
 · rw [Ax O]at B⊢
   refine .inl ?_;unfold Oper.wp;rw [execOp_congr o I (LH U)];generalize (execOp b.eval o).run P w=r at*;cases r with
   |ok n G=>
    cases n<;>simp only [Oper.upon,linUpon]at B⊢
    case value u=>rw [B.1];exact J _ B.2
    case skip=>rw [B.1];exact J _ B.2
    case enter f args=>
     refine Calls.mono B fun e af X=>?_;obtain ⟨u,rfl,Z,W⟩:=X;simp only;rw [Z];exact J _ W
   |halt x G=>simp only [linUpon]at B
 · rw [An O]at B⊢
   rw [B.1];exact J _ B.2
section
variable{P:Program}{ops:Array Oper}{fl:List Bool}{N:Nat}{S:Nat->AD->Prop}{Q:Exit->Act->AD->Prop}{x:List (Oper×A3)}{a0:Act}
structure Ju(ops:Array Oper)(fl:List Bool)(S:Nat->AD->Prop)(x:List (Oper×A3))(a0:Act)(L:Array Bool)(a:Act)(w:AD):Prop where
 size:L.size=ops.size
 shut:jG ops L
 act:a=KU (fun i=>L.getD i false) 0 x a0
 stage:S ((List.range ops.size).countP fun i=>L.getD i false&&fl.getD i false) w
theorem uC(F:Iu ops fl N)(hx:x.map (·.1)=ops.toList)
 (hs:∀j o v,x[j]?=some (o,v)->(fl.getD j false=true->∀w,S (F9 (fl.take j)) w->MQ P ops o (pre j x a0) v (S (F9 (fl.take j)+1)) w)/\
   (fl.getD j false=false->∀i w,S i w->MQ P ops o (pre j x a0) v (S i) w))
 {L:Array Bool}{a:Act}{w:AD}(H:Ju ops fl S x a0 L a w){j:Nat}(hj:j∈Region.ready .any ops L){K:Act->AD->Prop}
 (hK:∀a' w',Ju ops fl S x a0 (L.setIfInBounds j true) a' w'->K a' w'):wpOp P ops Q j K a w:=by
 obtain ⟨j3,oj,B,d9⟩:=mem_ready.1 hj;have X:j<ops.size:=(HU.1 B).1
 have pq:x.length=ops.size:=by have:=congrArg List.length hx;simpa using this
 have j5:∀k,k<ops.size->∃o v,x[k]?=some (o,v)/\ops[k]?=some o:=fun k hk=>by
  obtain ⟨y,hy⟩:∃y,x[k]?=some y:=⟨_,B7 A1⟩;refine ⟨y.1,y.2,hy,?_⟩;have:(x.map (·.1))[k]?=some y.1:=by simp [hy]
  rw [hx]at this;simpa using this
 have l8:∀(k:Nat) (y:Oper×A3),x[k]?=some y->ops[k]?=some y.1:=fun k y hy=>by
  have:(x.map (·.1))[k]?=some y.1:=by simp [hy]
  rw [hx]at this;simpa using this
 obtain ⟨o',v,cO,l5⟩:=j5 j X;obtain rfl:oj=o':=by rw [B]at l5;exact SO l5
 have U:L.getD j false=false:=by
  rw [Lw]at j3⊢;rw [HQ (by rw [H.size];exact X)]at j3⊢;simpa using j3
 have I:∀i,i<j->((Region.before ops).getD j 0).testBit i=true->L.getD i false=true:=fun i hi hb=>Fu F H.shut j i oj B hi hb d9;have J:∀i oi,ops[i]?=some oi->j<i->((Region.before ops).getD i 0).testBit j=true->L.getD i false=false:=fun i oi af p9 hb=>by
  cases h:L.getD i false with
  |false=>rfl
  |true=>
   have:=Fu F H.shut i j oi af p9 hb (fun e he p8=>H.shut i oi af h e he p8);rw [U]at this;cases this
 have o9:∀(t:Nat),(t∈oj.looksAt ops\/oj.dst=some t)->∀(k:Nat) (y:Oper×A3),x[k]?=some y->y.1.dst=some t->k≠j->L.getD k false=decide (k<j):=by
  intro t O k y hy W hk;have ic:=l8 k y hy
  rcases E4 k j with hlt|hge
  · rw [DE hlt]
    refine I k hlt ((F.apart k j y.1 oj ic B hlt).resolve_left fun gq=>?_);obtain ⟨h1,h2,h3⟩:=Oper.apart_spec gq;rcases O with O|O
    · exact h1 t W O
    · exact h2 t W O
  · have kv:j<k:=by omega
    rw [Cd A1];refine J k y.1 ic kv ((F.apart j k oj y.1 B ic kv).resolve_left fun gq=>?_);obtain ⟨h1,h2,h3⟩:=Oper.apart_spec gq;rcases O with O|O
    · exact h3 t W O
    · exact h2 t O W
 have bn:a.tmps.size=a0.tmps.size:=by rw [H.act,D5]
 have o8:(pre j x a0).tmps.size=a0.tmps.size:=by rw [<-Rn j 0 x a0,D5]
 have Z:∀t∈oj.looksAt ops,a.tmps[t]?=(pre j x a0).tmps[t]?:=by
  intro t O;by_cases cu:t<a0.tmps.size
  · rw [H.act,<-Rn j 0 x a0,EH _ _ _ _ _ cu,EH _ _ _ _ _ cu]
    refine Ez _ _ t 0 x _ fun k y hy W=>?_;simp only [DM];by_cases e:k=j;· subst e;rw [U];simp
    · exact o9 t (.inl O) k y hy W e
  · rw [IF (by rw [bn];exact ff cu),IF (by rw [o8];exact ff cu)]
 have G:∀i,(L.setIfInBounds j true).getD i false=if i=j then true else L.getD i false:=fun i=>by
  by_cases e:i=j
  · subst e;simp [H.size,X]
  · rw [getD_set_ne false (eM e),An e]
 have gm:∀w',(∀k,k=((List.range ops.size).countP fun i=>(L.setIfInBounds j true).getD i false&&fl.getD i false)->S k w')->Ju ops fl S x a0 (L.setIfInBounds j true) (a.put oj.dst v) w':=by
  intro w' ax;refine ⟨by simp [H.size],fun k ok hk hl e he hb=>?_,?_,ax _ V⟩
  · rw [G]at hl
    rw [G];by_cases e1:k=j
    · subst e1
      rw [B]at hk;obtain rfl:=SO hk;rw [d9 e he hb];simp
    · rw [An e1]at hl
      rw [H.shut k ok hk hl e he hb];simp
  · refine JC ?_ ?_ fun t O=>?_
    · rw [EJ,D5,bn]
    · rw [Ji,FK,H.act,FK]
    · rw [EJ,bn]at O
      rw [J6 _ _ _ _ (by rw [bn];exact O),EH _ _ _ _ _ O];by_cases W:oj.dst=some t
      · rw [Ax W]
        refine (jO _ t 0 j x _ (oj,v) cO W (by simp [H.size,X]) fun k y hk hy gy=>?_).symm;simp only [DM];rw [G,An A1,o9 t (.inr W) k y hy gy A1];simp;omega
      · rw [An W,H.act,EH _ _ _ _ _ O]
        refine Ez _ _ t 0 x _ fun k y hy gy=>?_;simp only [DM];rw [G];by_cases e:k=j
        · subst e
          rw [cO]at hy;obtain rfl:=SO hy;exact absurd gy W
        · rw [An e]
 cases hf:fl.getD j false with
 |false=>
  refine aB B (F.sel j oj · · B) Z ((hs j oj v cO).2 hf _ w H.stage) fun w' ax=>hK _ _ (gm w' fun k hk=>?_);rw [hk,LM ops.size (fun i=>L.getD i false&&fl.getD i false) _ fun i _=>by
   rw [G];by_cases e:i=j;· subst e;simp only [hf];simp
   · rw [An e]]
  exact ax
 |true=>
  have ek:((List.range ops.size).countP fun i=>L.getD i false&&fl.getD i false)=F9 (fl.take j):=by
   rw [<-OC fl ops.size (by rw [F.len];exact D2 _) j A1];refine LM _ _ _ fun i hi=>?_;cases hfi:fl.getD i false with
   |false=>simp
   |true=>
    simp only [ke];rcases Nat.lt_trichotomy i j with h|h|h
    · rw [I i h (F.flags i j oj B h hfi hf)];simp [h]
    · subst h;rw [U];simp
    · obtain ⟨oi,af⟩:∃oi,ops[i]?=some oi:=⟨_,HQ hi⟩
      rw [J i oi af h (F.flags j i oi af h hf hfi)];simp;omega
  have l9:=H.stage;rw [ek]at l9;refine aB B (F.sel j oj · · B) Z ((hs j oj v cO).1 hf w l9) fun w' ax=>hK _ _ (gm w' fun k hk=>?_);rw [hk,Qi ops.size j (fun i=>L.getD i false&&fl.getD i false) _ X (by simp only [U];rfl) (by simp only [G,hf];simp) (fun i _ pg=>by rw [G,An pg]),ek];exact ax
theorem Xf(F:Iu ops fl N)(hx:x.map (·.1)=ops.toList)
 (hs:∀j o v,x[j]?=some (o,v)->(fl.getD j false=true->∀w,S (F9 (fl.take j)) w->MQ P ops o (pre j x a0) v (S (F9 (fl.take j)+1)) w)/\
   (fl.getD j false=false->∀i w,S i w->MQ P ops o (pre j x a0) v (S i) w))
 (hq:∀w,S (F9 (fl.take ops.size)) w->Q .normal (pre ops.size x a0) w):
 ∀(B:Nat) (L:Array Bool) (a:Act) (w:AD),((List.range ops.size).countP fun i=>!L.getD i false)<=B->Ju ops fl S x a0 L a w->wpAny P .any ops Q B L a w:=by
 have W:∀(L:Array Bool) (a:Act) (w:AD),Ju ops fl S x a0 L a w->Region.ready .any ops L=[]->Q .normal a w:=by
  intro L a w H X;have U:∀j,j<ops.size->L.getD j false=true:=by
   intro j;induction j using Nat.strongRecOn with
   |ind j ih=>
    intro Z;cases hl:L.getD j false with
    |true=>rfl
    |false=>
     obtain ⟨oj,J⟩:∃oj,ops[j]?=some oj:=⟨_,HQ Z⟩;have:j∈Region.ready .any ops L:=mem_ready.2 ⟨by
      rw [Lw,HQ (by rw [H.size];exact Z)]at hl⊢;simpa using hl,oj,J,fun e he hb=>by
       have:=F.edge j oj e J he hb;exact ih e.on this A1⟩
     rw [X]at this;cases this
  have cu:x.length=ops.size:=by have:=congrArg List.length hx;simpa using this
  have ha:a=pre ops.size x a0:=by
   rw [H.act,<-Rn ops.size 0 x a0];have af:∀(t:Nat) (k:Nat) (y:Oper×A3),x[k]?=some y->y.1.dst=some t->(fun i=>L.getD i false) (0+k)=(fun k=>decide (k<0+ops.size)) (0+k):=fun t k y hy _=>by
    have:k<x.length:=(C4.1 hy).1;simp only [DM];rw [U k A1];simp;omega
   refine JC (by rw [D5,D5]) (by rw [FK,FK]) fun t ht=>?_;rw [D5]at ht;rw [EH _ _ _ _ _ ht,EH _ _ _ _ _ ht];exact Ez _ _ t 0 x _ (af t)
  rw [ha];refine hq w ?_;have bn:=H.stage
  rw [<-OC fl ops.size (by rw [F.len];exact D2 _) ops.size (D2 _)];rw [LM ops.size (fun i=>L.getD i false&&fl.getD i false) _ fun i hi=>by rw [U i hi];simp [hi]];exact bn
 intro B;induction B with
 |zero=>
  intro L a w hc H;have X:Region.ready .any ops L=[]:=by
   cases X:Region.ready .any ops L with
   |nil=>rfl
   |cons j js=>
    have Z:j∈Region.ready .any ops L:=by rw [X];exact EV ..
    obtain ⟨G,oj,J,_⟩:=mem_ready.1 Z;have I:j<ops.size:=(HU.1 J).1
    have O:L.getD j false=false:=by
     rw [Lw]at G⊢;rw [HQ (by rw [H.size];exact I)]at G⊢;simpa using G
    have:0<(List.range ops.size).countP fun i=>!L.getD i false:=List.countP_pos_iff.2 ⟨j,LL.2 I,by rw [O];rfl⟩;omega
  exact ⟨X,W L a w H X⟩
 |succ B ih=>
  intro L a w hc H;refine ⟨fun X=>W L a w H X,fun j Z=>uC F hx hs H Z fun a' w' H'=>ih _ a' w' ?_ H'⟩;obtain ⟨G,oj,J,_⟩:=mem_ready.1 Z;have I:j<ops.size:=(HU.1 J).1
  have O:L.getD j false=false:=by
   rw [Lw]at G⊢;rw [HQ (by rw [H.size];exact I)]at G⊢;simpa using G
  have:=Qi ops.size j (fun i=>!(L.setIfInBounds j true).getD i false) (fun i=>!L.getD i false) I (by simp [H.size,I]) (by rw [O];rfl) (fun i _ ax=>by rw [getD_set_ne false (eM ax)]);omega
end
theorem wpLin_keep{P:Program}{ops:Array Oper}{S:Nat->AD->Prop}{Q:Act->AD->Prop}{a:Act}{k:Nat}{o:Oper}{l:List Oper}{fs:List Bool}{env:List (Nat×A3)}{v:A3}(h:∀j w,S j w->aC P ops o a env v (S j) w)(h2:NM P ops S Q a k l fs (putE o.dst v env)):NM P ops S Q a k (o::l) (false::fs) env:=⟨v,h,h2⟩
theorem wpLin_move{P:Program}{ops:Array Oper}{S:Nat->AD->Prop}{Q:Act->AD->Prop}{a:Act}{k:Nat}{o:Oper}{l:List Oper}{fs:List Bool}{env:List (Nat×A3)}{v:A3}(h:∀w,S k w->aC P ops o a env v (S (k+1)) w)(h2:NM P ops S Q a (k+1) l fs (putE o.dst v env)):NM P ops S Q a k (o::l) (true::fs) env:=⟨v,h,h2⟩
theorem wpLin_done{P:Program}{ops:Array Oper}{S:Nat->AD->Prop}{Q:Act->AD->Prop}{a:Act}{k:Nat}{env:List (Nat×A3)}{fs:List Bool}(h:∀w,S k w->Q (putsE env a) w):NM P ops S Q a k [] fs env:=h
theorem wp_region_lin{P:Program}{id:Nat}{ops:Array Oper}{Q:Exit->Act->AD->Prop}{a:Act}{w:AD}(fl:List Bool)(S:Nat->AD->Prop)(N:Nat)(U:a.tmps.size=N)
 (Z:P.follows .mixedOrders=true)(G:Tn ops fl N=true)(W:S 0 w.drew)(h:∀I,I=a->NM P ops S (fun a w=>Q .normal a w) I 0 ops.toList fl []):(Code.region id ops true).wp P Q a w:=by
 have F:=gN G;obtain ⟨x,hx,hs,hq⟩:=Rw _ _ _ _ (fun o ho d X=>by
  obtain ⟨j,B⟩:=List.mem_iff_getElem?.1 ho;rw [U];exact F.room j o d (by simpa using B) X) (fun x hx=>by cases hx) (h a V)
 refine wp_region_any Z (Xf (S:=S) (a0:=a) F hx (fun j o v B=>?_) ?_ _ _ _ _ ?_ ?_)
 · have:=hs j o v B
   simpa [putsE]using this
 · simpa [putsE]using hq
 · refine My List.countP_le_length ?_
   simp
 · refine ⟨by simp,fun j oj B J=>?_,?_,?_⟩
   · simp [j0]at J
     split at J<;>simp_all
   · have:=Rn 0 0 x a
     refine JC (by rw [D5]) (by rw [FK]) fun t O=>?_;rw [EH _ _ _ _ _ O];rw [Ez _ (fun k=>decide (k<0+0)) t 0 x _ fun k y _ _=>by simp [j0];split<;>rfl];rw [<-EH _ _ _ _ _ O,this];rfl
   · have:((List.range ops.size).countP fun i=>(Array.replicate ops.size false).getD i false&&fl.getD i false)=0:=by
      rw [List.countP_eq_zero];intro i _;simp [j0];split<;>simp
     rw [this];exact W
end Gl
