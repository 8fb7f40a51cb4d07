/- Walking by chunks: a range over a function; the end of a function that holds one. No function of the program is named. -/
import Derived.Test.YtlkdhannldcfbabGreatDoorEz
import Derived.Lib.Hide
import Derived.Shelf.GgSortFunc.InsertionK
set_option linter.unusedVariables false
set_option linter.unusedSimpArgs false
namespace Gw
open Go Go.RowKit
def GR(P:Program)(l:Nat)(args:AN)(H:Hp)(Q:A2->Hp->Prop):Prop:=
 ∀(u:A5) (R:Hp) (w:A5),Sat u (H++R) w->∀(K:A2->A5->Prop) (Kp:List PanicEntry->A5->Prop),(∀v H' w',Q v H'->Sat u (H'++R) w'->K v w')->Vv P K Kp ((Instr.yield l args).run P w)
section
variable{P:Program}{u:A5}{env:Env}{H R:Hp}{d:Option Nat}{ty:AM}{pos:String}{af:Array Edge}{g:Option (Nat×Bool)}
theorem GH{J:Operand}{B:Array Operand}{G:Array AM}{l:Nat}{vs:List A2}{U:Hp}{Q:A2->Hp->Prop}
 (hf:∀a,ev a env J= .func (.yield l) #[] #[])(ha:∀a,B.toList.map (ev a env)=vs)(O:GR P l vs.toArray U Q)(hp:F3 U H R):
 OpW P u ⟨d,.call ⟨.value J,B,G⟩,ty,pos,af,g⟩ env H (fun v H'=>∃H1,Q v H1/\H'=H1++R) (fun _ _=>False):=fun a w hs K W Z _=>by
 have X:B.map (ev a env)=vs.toArray:=by rw [<-ha a];exact JX _ B
 have:(execOp (ev a env) ⟨d,.call ⟨.value J,B,G⟩,ty,pos,af,g⟩).run P w=(Instr.yield l vs.toArray).run P w:=by
  simp [Dv,resolve,hf a,Deferred.ofValue,invoke,X]
 rw [this];exact O u R w (hs.perm hp.perm) K W fun v H' w' hq I=>Z v _ w' ⟨H',hq,V⟩ I
end
def VD{α:Type}(P:Program)(gf:FuncId)(lb:AN)(Hit:Hp)(encs:α->AN)(xs:List α):Prop:=
 ∀(l:Nat) (J:List α->List A8->Prop),(∀pre x post s,xs=pre++x::post->J pre s->GR P l (encs x) [s] (fun v H'=>∃s',v= .bool true/\H'=[s']/\J (pre++[x]) s'))->
  ∀s,J [] s->BS P gf (#[.func (.yield l) #[] #[]]++lb) (Hit++[s]) (fun _ H'=>∃s',H'=[s']/\J xs s')
def Eg{α:Type}(P:Program)(gf:FuncId)(lb:AN)(Hit:Hp)(A:List A8->Prop)(encs:α->AN)(xs:List α):Prop:=
 ∀(l:Nat) (J:List α->List A8->Prop),(∀pre s,J pre s->A s)->(∀pre x post s,xs=pre++x::post->J pre s->GR P l (encs x) [s] (fun v H'=>∃s',v= .bool true/\H'=[s']/\J (pre++[x]) s'))->
  ∀s,J [] s->BS P gf (#[.func (.yield l) #[] #[]]++lb) (Hit++[s]) (fun _ H'=>∃s',H'=[s']/\J xs s')
def Is(cx:Cx)(env:Env)(H:Hp)(a:Act)(w:A5):Prop:=∃a0,St cx env H a0 w/\a=CB env a0
theorem wE{cx:Cx}{env:Env}{H:Hp}{Q:Exit->Act->A5->Prop}:Nx cx ((Exit.then (Is cx env H) Q) .normal) env H:=fun a _ B=>⟨a,B,rfl⟩
def Hu{α:Type}(u:A5)(I:List α->Hp->Prop)(xs:List α)(R:Hp):Exit->Act->A5->Prop
 | .normal,_,w=>∃H,I xs H/\Sat u (H++R) w
 |_,_,_=>False
theorem FZ{α:Type}{cx:Cx}{I:List α->Hp->Prop}{xs:List α}{R:Hp}{env:Env}{H H':Hp}{u:A5}(J:cx.u=u)(h:I xs H')(B:Sub (H'++R) H:=by repeat(first|exact Sub.refl _|exact Sub.nil _|(apply Sub.cons;(focus (repeat(first|exact One.here _ _|apply One.there))))|refine Sub.drop _ ?_)):Nx cx (Hu u I xs R .normal) env H:=fun _ _ G=>⟨H',h,by subst J;exact G.sat.sub B.amid⟩
theorem Jt:∀(e1 e2:Env) (a:Act),CB (e1++e2) a=CB e1 (CB e2 a)
 |[],_,_=>rfl
 |(d,v)::e1,e2,a=>by simp only [SO,CB];rw [Jt e1 e2 a]
theorem Ob:∀(l:List (Nat×A2)) (b:Act),(l.foldl (fun(t:AN) (p:Nat×A2)=>t.setIfInBounds p.1 p.2) b.tmps)=(CB l.reverse b).tmps
 |[],_=>rfl
 |(d,v)::l,b=>by
  simp only [XS,List.reverse_cons];rw [Jt];have:=Ob l (b.put (some d) v)
  simpa [CB,Act.put]using this
theorem FL(D:List Deferred):∀(e:Env) (a:Act),CB e {a with defers:=D}={CB e a with defers:=D}
 |[],_=>rfl
 |(d,v)::e,a=>by simp only [CB];rw [FL D e a];rfl
theorem Sat.turn{u w:A5}{b:Nat}{o o':Obj}{H:Hp}(h:Sat u ([(b,o)]::H) w):Sat u ([(b,o')]::H) (w.putObj b o'):=by
 have B:b<w.heap.size:=h.lt (p:=(b,o)) B7;refine h.upd (.here _) V rfl V (World.putObj_heap_same B) fun k G=>World.putObj_heap_other G
theorem CR{a b:List A8}(h:∀f:List A8->Nat,(∀u v,f (u++v)=f u+f v)->f a=f b):a.Perm b:=by
 letI:DecidableEq A8:=fun a b=>Classical.propDecidable (a=b)
 exact List.perm_iff_count.2 fun x=>h (fun l=>l.count x) fun u v=>List.count_append
theorem Sat.parts{u w:A5}{H H':Hp}(G:Sat u H w)(h:∀f:List A8->Nat,(∀u v,f (u++v)=f u+f v)->f []=0->(∀x y,f [x,y]=f [x]+f [y])->f H.flatten=f H'.flatten):Sat u H' w:=
 G.perm (CR fun f B=>h f B (by have:=B [] [];simp at this;omega) fun x y=>B [x] [y])
theorem QE{P:Program}{cx:Cx}{c:Code}{Q:Exit->Act->A5->Prop}{env:Env}{H H':Hp}(h:At P cx c Q env H)(G:∀f:List A8->Nat,(∀u v,f (u++v)=f u+f v)->f []=0->(∀x y,f [x,y]=f [x]+f [y])->f H'.flatten=f H.flatten):At P cx c Q env H':=fun a w B=>h a w ⟨B.size,B.defers,B.fit,B.sat.parts G⟩
def Kv{α:Type}(u:A5)(I Ix:List α->Hp->Prop)(xs:List α)(R:Hp):Exit->Act->A5->Prop
 | .normal,_,w=>∃H,I xs H/\Sat u (H++R) w
 | .ret,_,w=>∃H,Ix xs H/\Sat u (H++R) w
 |_,_,_=>False
theorem Wy{α:Type}{cx:Cx}{I Ix:List α->Hp->Prop}{xs:List α}{R:Hp}{env:Env}{H H':Hp}{u:A5}(J:cx.u=u)(h:I xs H')(B:Sub (H'++R) H:=by repeat(first|exact Sub.refl _|exact Sub.nil _|(apply Sub.cons;(focus (repeat(first|exact One.here _ _|apply One.there))))|refine Sub.drop _ ?_)):Nx cx (Kv u I Ix xs R .normal) env H:=fun _ _ G=>⟨H',h,by subst J;exact G.sat.sub B.amid⟩
theorem oq{α:Type}{cx:Cx}{I Ix:List α->Hp->Prop}{xs:List α}{R:Hp}{env:Env}{H H':Hp}{u:A5}(J:cx.u=u)(h:Ix xs H')(B:Sub (H'++R) H:=by repeat(first|exact Sub.refl _|exact Sub.nil _|(apply Sub.cons;(focus (repeat(first|exact One.here _ _|apply One.there))))|refine Sub.drop _ ?_)):Nx cx (Kv u I Ix xs R .ret) env H:=fun _ _ G=>⟨H',h,by subst J;exact G.sat.sub B.amid⟩
def XY{α:Type}(P:Program)(gf:FuncId)(lb:AN)(Hit Hk:Hp)(A:List α->List A8->Prop)(Enc:α->AN->List A8->Prop)(Adm Full:List α->Prop)(St:Prop):Prop:=
 ∀(l:Nat) (J Jx:List α->List A8->Prop),(∀pre s,J pre s->A pre s)->(∀pre s,Jx pre s->St)->(∀pre x s vs sx,Adm (pre++[x])->J pre s->Enc x vs sx->GR P l vs [sx,s] (fun v H'=>∃s',H'=[s']/\((v= .bool true/\J (pre++[x]) s')\/(v= .bool false/\Jx (pre++[x]) s'))))->
  ∀s,J [] s->BS P gf (#[.func (.yield l) #[] #[]]++lb) (Hit++(Hk++[s])) (fun _ H'=>∃s',H'=Hk++[s']/\((∃ys,Full ys/\J ys s')\/∃pre,Jx pre s'))
theorem Ku{α:Type}{A:List α->List A8->Prop}{Adm Full:List α->Prop}{P:Program}{cx:Cx}{Q:Exit->Act->A5->Prop}{env:Env}{H ic Hk H0 R:Hp}{g:Operand}{ps:Array Tmp}{assign body:Code}{gf:FuncId}{lb:AN}{Enc:α->AN->List A8->Prop}{St:Prop}
 (I Ix:List α->Hp->Prop)(E:α->AN->List A8->Env->Hp->Prop)(hr:cx.r=none)(hg:∀a,ev a env g= .func (.func gf) #[] lb)(kv:∀(args:AN) (w:A5),(callFunc gf args).run P w= .ok (.enter gf args) w)
 (o8:XY P gf lb ic Hk A Enc Adm Full St)(hX:∀pre H1,Ix pre H1->St)(hA:∀pre H1 c d,I pre H1->A pre ([c,d]++H1.flatten))(qh:∀x vs Z,Enc x vs Z->vs.size=ps.size)(qb:(ps.toList.all fun t=>Nat.blt t cx.N)=true)(hp:F3 (ic++(Hk++H0)) H R)(h0:I [] H0)
 (cO:∀(l:Nat) (x:α) (vs:AN) (Z:List A8) (u:A5) (H:Hp),Enc x vs Z->At P ⟨cx.N,[],u,some l⟩ assign (Exit.then (fun a w=>∃e Hn,E x vs Z e Hn/\Is ⟨cx.N,[],u,some l⟩ (e++env) (Hn++H) a w) (fun _ _ _=>False)) ((ps.toList.zip vs.toList).reverse++env) H)
 (j5:∀(l:Nat) (pre:List α) (x:α) (u:A5) (vs:AN) (Z:List A8) (e:Env) (Hn H1 R1:Hp) (r0:Loop),Adm (pre++[x])->I pre H1->Enc x vs Z->E x vs Z e Hn->At P ⟨cx.N,[],u,some l⟩ body (Kv u I Ix (pre++[x]) ([(l,.loop r0)]::R1)) (e++env) (H1++(Z::(Hn++([(l,.loop r0)]::R1)))))
 (hk:∀(D:Nat) (ys:List α) (O:Hp),Full ys->I ys O->Nx ⟨cx.N,⟨.collected D,#[]⟩::cx.D,cx.u,none⟩ (Q .normal) env ([(D,.deferred (some []))]::(Hk++(O++R))))
 (pz:∀(D:Nat) (pre:List α) (O:Hp),Ix pre O->Nx ⟨cx.N,⟨.collected D,#[]⟩::cx.D,cx.u,none⟩ (Q .ret) env ([(D,.deferred (some []))]::(Hk++(O++R)))):At P cx (.rangeFunc g ps assign body) Q env H:=by
 intro a w hs;refine wpIn_rangeFunc ?_;intro fn qx;have qj:(Fx cx.r).round=none:=hr
 rw [qj];obtain ⟨ek,B⟩:∃ek:LoopState->Option Code->Loop,ek=fun st pe=>{state:=st,pending:=pe,fn,tmps:=(CB env a).tmps,params:=ps,assign,body,defers:=w.heap.size}:=⟨_,rfl⟩;obtain ⟨G,U⟩:∃G,G=ek .ready none:=⟨_,rfl⟩;obtain ⟨L2,j3⟩:∃L2,L2=ek .done (some .ret):=⟨_,rfl⟩;obtain ⟨n,hn⟩:∃n,n=w.heap.size:=⟨_,rfl⟩;have p8:Sat cx.u ([(n+1,.loop G)]::([(n,.deferred (some []))]::((ic++(Hk++H0))++R))) ((w.alloc (.deferred (some []))).alloc (.loop G)):=by
  have:=((hs.sat.perm hp.perm).alloc (.deferred (some []))).alloc (.loop G);rw [show({w with heap:=w.heap.push (.deferred (some []))}:A5).heap.size=w.heap.size+1 from Array.size_push _,<-hn]at this;exact this
 have l9:Fit a.tmps.size env:=by rw [hs.size];exact hs.fit
 have p9:∀d,CB env {a with defers:=d::cx.D}={CB env a with defers:=[d]++(CB env a).defers}:=fun d=>by
  rw [FL,Fy,hs.defers];rfl
 have gm:∀(L:Loop) (e:Exit) (O:Hp) (w2:A5),L.state≠ .busy->(∀(A:Act) (W:A5),Q e A W->(match L.pending with|none=>Q .normal A W|some c=>c.wpIn (Fx cx.r) 0 P Q A W))->
  Sat cx.u ([(n+1,Obj.loop L)]::([(n,.deferred (some []))]::O)) w2->Nx ⟨cx.N,⟨.collected n,#[]⟩::cx.D,cx.u,none⟩ (Q e) env ([(n,.deferred (some []))]::O)->
  ∃v w3,(Instr.endLoop (n+1)).run P w2= .ok v w3/\(match v with|none=>Q .normal {CB env a with defers:=[⟨.collected n,#[]⟩]++(CB env a).defers} w3|some c=>c.wpIn (Fx cx.r) 0 P Q {CB env a with defers:=[⟨.collected n,#[]⟩]++(CB env a).defers} w3):=by
  intro L e O w2 bn qa gq hN;have hl:=gq.get (n+1,Obj.loop L) B7
  refine ⟨_,_,run_endLoop (P:=P) hl bn,qa _ _ ?_⟩;rw [<-p9];exact hN {a with defers:=⟨.collected n,#[]⟩::cx.D} _ ⟨hs.size,V,hs.fit,(gq.turn (o':= .loop {L with state:= .exhausted})).sub ⟨[(n+1,.loop {L with state:= .exhausted})],by
   simp only [D2];exact OS⟩⟩
 refine ⟨n+1,[⟨.collected n,#[]⟩],(w.alloc (.deferred (some []))).alloc (.loop G),⟨.fn (.func gf) lb,#[.func (.yield (n+1)) #[] #[]]⟩,(w.alloc (.deferred (some []))).alloc (.loop G),gf,
  #[.func (.yield (n+1)) #[] #[]]++lb,(w.alloc (.deferred (some []))).alloc (.loop G),?_,?_,fun _ _=>trivial,?_,fun h=>by simp [Fx,Fence.wide]at h,?_⟩
 · rw [hn,U,B];exact run_enterLoop_outer _ _ _ _ _
 · simp only [resolve,Ff a env l9,hg a]
   simp [Deferred.ofValue,ev,Act.eval]
 · simp [invoke,kv]
 · refine Ym ?_
   have hJ:=o8 (n+1) (fun pre s=>∃H1,I pre H1/\s=[(n+1,.loop G),(n,.deferred (some []))]++H1.flatten) (fun pre s=>∃H1,Ix pre H1/\s=[(n+1,.loop L2),(n,.deferred (some []))]++H1.flatten) (by rintro pre _ ⟨H1,J,rfl⟩;exact hA pre H1 _ _ J) (by rintro pre _ ⟨H1,J,rfl⟩;exact hX pre H1 J) ?_ _ ⟨H0,h0,rfl⟩
   · refine Calls.mono (hJ cx.u R _ (p8.parts fun f h J h2=>by simp only [D2,HW,H4,h,J,h2];omega)) fun e w2 he=>?_
     rcases he with⟨v,H',rfl,⟨s',rfl,⟨ys,pq,O,af,rfl⟩|⟨pre,O,af,rfl⟩⟩,d9⟩|⟨_,_,_,h,_⟩
     · exact gm G .normal _ w2 (by rw [U,B];simp) (fun A W h=>by rw [U,B];exact h) (d9.parts fun f h J h2=>by simp only [D2,HW,H4,h,J,h2];omega) (hk n ys O pq af)
     · exact gm L2 .ret _ w2 (by rw [j3,B];simp) (fun A W h=>by rw [j3,B];exact wpIn_ret h) (d9.parts fun f h J h2=>by simp only [D2,HW,H4,h,J,h2];omega) (pz n pre O af)
     · exact h.elim
   · rintro pre x s vs Z qw ⟨H1,hI,rfl⟩ cu u R1 w1 qo K Kp hK
     have gQ:Sat u ([(n+1,Obj.loop G)]::([(n,.deferred (some []))]::(H1++(Z::R1)))) w1:=qo.parts fun f h J h2=>by simp only [D2,HW,H4,h,J,h2];omega
     have hl:=gQ.get (n+1,Obj.loop G) B7;have hy:=run_yield (P:=P) (args:=vs) hl (by rw [U,B];exact qh x vs Z cu)
     rw [hy];show RoundIn Fence.wide 0 P (n+1) _ _ _ _ w1 _
     rw [U,B];refine roundIn_of_wpIn (F:=Fence.wide) trivial ?_;have ql:({tmps:=(ps.zip vs).foldl (fun tmps x=>match x with|(t,a)=>tmps.setIfInBounds t a) (CB env a).tmps,defers:=[]}:Act)=CB ((ps.toList.zip vs.toList).reverse++env) {a with defers:=[]}:=by
      rw [Jt,FL [] env a];have J:(ps.zip vs).foldl (fun tmps x=>match x with|(t,a)=>tmps.setIfInBounds t a) (CB env a).tmps=(CB (ps.toList.zip vs.toList).reverse (CB env a)).tmps:=by
       rw [<-Ob,<-sn,Array.toList_zip]
      rw [J,FL [] _ (CB env a)]
     have l8:Fit cx.N ((ps.toList.zip vs.toList).reverse++env):=by
      intro q hq;rcases CD.1 hq with hq|hq
      · have:=gx.1 hq
        have h2:=Pr.1 qb q.1 (List.of_mem_zip this).1;simpa using h2
      · exact hs.fit q hq
     have ha:=cO (n+1) x vs Z u ([(n+1,Obj.loop G)]::([(n,.deferred (some []))]::(H1++(Z::R1)))) cu {a with defers:=[]} w1 ⟨hs.size,rfl,l8,gQ⟩;rw [<-ql]at ha;refine wpIn_mono ha fun e a1 w2 he=>?_;cases e<;>first|exact he|skip
     obtain ⟨e9,Hn,hE,a2,bn,rfl⟩:=he;have gy:Sat u ([(n+1,Obj.loop G)]::([(n,.deferred (some []))]::(H1++(Z::(Hn++R1))))) w2:=bn.sat.parts fun f h J h2=>by simp only [D2,HW,H4,h,J,h2];omega
     have q9:=gy.get (n+1,Obj.loop G) B7;refine ⟨_,run_beginRound q9 (by rw [U,B]),?_⟩;have pg:Sat u (H1++(Z::(Hn++([(n+1,Obj.loop {G with state:= .busy})]::([(n,.deferred (some []))]::R1))))) (w2.putObj (n+1) (.loop {G with state:= .busy})):=
      (gy.turn (o':= .loop {G with state:= .busy})).parts fun f h J h2=>by simp only [D2,HW,H4,h,J,h2];omega
     have hb:=j5 (n+1) pre x u vs Z e9 Hn H1 ([(n,.deferred (some []))]::R1) _ qw hI cu hE a2 _ ⟨bn.size,bn.defers,bn.fit,pg⟩;refine wpIn_mono hb fun e a3 w3 l5=>?_;cases e<;>first|exact l5.elim|skip
     · obtain ⟨O,af,o9⟩:=l5
       have X:Sat u ([(n+1,Obj.loop {G with state:= .busy})]::([(n,.deferred (some []))]::(O++R1))) w3:=o9.parts fun f h J h2=>by simp only [D2,HW,H4,h,J,h2];omega
       refine ⟨_,_,run_endRound (P:=P) none (X.get (n+1,Obj.loop {G with state:= .busy}) B7),?_⟩;refine hK _ _ _ ⟨[(n+1,.loop G),(n,.deferred (some []))]++O.flatten,V,.inl ⟨V,O,af,V⟩⟩ ?_;have ax:({{G with state:=LoopState.busy}with state:=if(none:Option Code).isNone=true then LoopState.ready else .done,pending:=none}:Loop)=G:=by rw [U,B];rfl
       rw [ax];exact (X.turn (o':= .loop G)).parts fun f h J h2=>by simp only [D2,HW,H4,h,J,h2];omega
     · obtain ⟨O,af,o9⟩:=l5
       have X:Sat u ([(n+1,Obj.loop {G with state:= .busy})]::([(n,.deferred (some []))]::(O++R1))) w3:=o9.parts fun f h J h2=>by simp only [D2,HW,H4,h,J,h2];omega
       refine ⟨_,_,run_endRound (P:=P) (some .ret) (X.get (n+1,Obj.loop {G with state:= .busy}) B7),?_⟩;refine hK _ _ _ ⟨[(n+1,.loop L2),(n,.deferred (some []))]++O.flatten,V,.inr ⟨V,O,af,V⟩⟩ ?_;have ax:({{G with state:=LoopState.busy}with state:=if(some Code.ret:Option Code).isNone=true then LoopState.ready else .done,pending:=some .ret}:Loop)=L2:=by rw [U,j3,B];rfl
       rw [ax];exact (X.turn (o':= .loop L2)).parts fun f h J h2=>by simp only [D2,HW,H4,h,J,h2];omega
def yY{α:Type}(encs:α->AN)(x:α)(vs:AN)(sx:List A8):Prop:=vs=encs x/\sx=[]
theorem OA{P:Program}{l:Nat}{vs:AN}{s:List A8}{Q B:A2->Hp->Prop}(h:GR P l vs [[],s] Q)(W:∀v H',Q v H'->B v H'):GR P l vs [s] B:=fun u R w X K G U=>h u R w (X.parts fun f h I h2=>by simp only [D2,HW,H4,h,I];omega) K G fun v H' Z J O=>U v H' Z (W v H' J) O
theorem NK{P:Program}{cx:Cx}{c:Code}{env:Env}{H:Hp}{α:Type}{u:A5}{I Ix:List α->Hp->Prop}{xs:List α}{R:Hp}(h:At P cx c (Hu u I xs R) env H):At P cx c (Kv u I Ix xs R) env H:=fun a w G=>wpIn_mono (h a w G) fun e _ _ B=>by cases e<;>first|exact B|exact B.elim
theorem mD{α:Type}{P:Program}{U:FuncId}{W:AN}{I:Hp}{A:List A8->Prop}{G:α->AN}{xs:List α}(h:Eg P U W I A G xs):XY P U W I [] (fun _=>A) (yY G) (fun p=>∃B,xs=p++B) (fun ys=>ys=xs) False:=fun l J Jx X Z hy s h0=>
 (h l J X (fun pre x B s hx hj=>OA (hy pre x s _ [] ⟨B,by rw [hx,DH];rfl⟩ hj ⟨rfl,rfl⟩) fun v H' ⟨O,K,h2⟩=>h2.elim (fun h=>⟨O,h.1,K,h.2⟩) fun h=>(Z _ _ h.2).elim) s h0).mono (by rintro v H' ⟨O,K,h2⟩;exact ⟨O,K,.inl ⟨xs,rfl,h2⟩⟩)
theorem QD{α:Type}{A:List A8->Prop}{P:Program}{cx:Cx}{Q:Exit->Act->A5->Prop}{env:Env}{H Z H0 R:Hp}{g:Operand}{ps:Array Tmp}{G O:Code}{gf:FuncId}{lb:AN}{J:α->AN}{xs:List α}
 (I:List α->Hp->Prop)(asg:α->Env)(hr:cx.r=none)(hg:∀a,ev a env g= .func (.func gf) #[] lb)(W:∀(args:AN) (w:A5),(callFunc gf args).run P w= .ok (.enter gf args) w)
 (X:Eg P gf lb Z A J xs)(hA:∀pre H1 c d,I pre H1->A ([c,d]++H1.flatten))(ax:∀x,(J x).size=ps.size)(af:(ps.toList.all fun t=>Nat.blt t cx.N)=true)(hp:F3 (Z++H0) H R)(h0:I [] H0)
 (K:∀(l:Nat) (x:α) (u:A5) (H:Hp),At P ⟨cx.N,[],u,some l⟩ G (Exit.then (Is ⟨cx.N,[],u,some l⟩ (asg x++env) H) (fun _ _ _=>False)) ((ps.toList.zip (J x).toList).reverse++env) H)
 (U:∀(l:Nat) (pre:List α) (x:α) (B:List α) (u:A5) (H1 R1:Hp),xs=pre++x::B->I pre H1->At P ⟨cx.N,[],u,some l⟩ O (Hu u I (pre++[x]) R1) (asg x++env) (H1++R1))
 (hk:∀(D:Nat) (H2:Hp),I xs H2->Nx ⟨cx.N,⟨.collected D,#[]⟩::cx.D,cx.u,none⟩ (Q .normal) env ([(D,.deferred (some []))]::(H2++R))):At P cx (.rangeFunc g ps G O) Q env H:=
 Ku (Hk:=[]) (A:=fun _=>A) (St:=False) (Adm:=fun p=>∃B,xs=p++B) (Full:=fun ys=>ys=xs) (Enc:=yY J) I (fun _ _=>False) (fun x _ _ e Hn=>e=asg x/\Hn=[]) hr hg W (mD X) (fun _ _ h=>h) hA (fun x vs sx he=>by rw [he.1];exact ax x) af hp h0
  (fun l x vs sx u H he a w hs=>by
    obtain ⟨rfl,rfl⟩:=he;exact wpIn_mono (K l x u H a w hs) fun e _ _ h=>by cases e<;>first|exact h|exact ⟨_,[],⟨rfl,rfl⟩,h⟩)
  (fun l pre x u vs sx e Hn H1 R1 r0 ⟨B,hx⟩ hI he hE=>by
    obtain ⟨rfl,rfl⟩:=he;obtain ⟨rfl,rfl⟩:=hE;exact QE (NK (U l pre x B u H1 _ (by rw [hx,DH];rfl) hI)) fun f h h1 h2=>by simp only [D2,HW,H4,h,h1,h2];omega) (fun D ys H2 hf hI=>by rw [hf]at hI;exact hk D H2 hI) fun _ _ _ h=>h.elim
theorem Rq{α:Type}{P:Program}{cx:Cx}{Q:Exit->Act->A5->Prop}{env:Env}{H Z H0 R:Hp}{g:Operand}{ps:Array Tmp}{B O:Code}{gf:FuncId}{lb:AN}{G:α->AN}{xs:List α}
 (I:List α->Hp->Prop)(asg:α->Env)(hr:cx.r=none)(hg:∀a,ev a env g= .func (.func gf) #[] lb)(W:∀(args:AN) (w:A5),(callFunc gf args).run P w= .ok (.enter gf args) w)
 (X:VD P gf lb Z G xs)(ax:∀x,(G x).size=ps.size)(af:(ps.toList.all fun t=>Nat.blt t cx.N)=true)(hp:F3 (Z++H0) H R)(h0:I [] H0)
 (K:∀(l:Nat) (x:α) (u:A5) (H:Hp),At P ⟨cx.N,[],u,some l⟩ B (Exit.then (Is ⟨cx.N,[],u,some l⟩ (asg x++env) H) (fun _ _ _=>False)) ((ps.toList.zip (G x).toList).reverse++env) H)
 (U:∀(l:Nat) (pre:List α) (x:α) (post:List α) (u:A5) (H1 R1:Hp),xs=pre++x::post->I pre H1->At P ⟨cx.N,[],u,some l⟩ O (Hu u I (pre++[x]) R1) (asg x++env) (H1++R1))
 (hk:∀(D:Nat) (H2:Hp),I xs H2->Nx ⟨cx.N,⟨.collected D,#[]⟩::cx.D,cx.u,none⟩ (Q .normal) env ([(D,.deferred (some []))]::(H2++R))):At P cx (.rangeFunc g ps B O) Q env H:=
 QD (A:=fun _=>True) I asg hr hg W (fun l J _=>X l J) (fun _ _ _ _ _=>trivial) ax af hp h0 K U hk
def K3(l:List Nat):List Deferred:=l.map fun D=>⟨.collected D,#[]⟩
theorem DF{P:Program}{f:FuncId}{fn:Func}{c:Code}{args:AN}{N:Nat}{H:Hp}{Q:A2->Hp->Prop}{Pn:List PanicEntry->Hp->Prop}(W:P.funcs[f]?=some fn)(U:fn.body=some c)(O:fn.ntmps=N)(X:Nat.ble args.size N=true)
 (h:∀u R,At P ⟨N,[],u,none⟩ c (bodyPostM Fence.wide 0 P fn (Gf u R Q Pn)) (Fj 0 args.toList) (H++R)):Ls P f args H Q Pn:=fun u R w G=>by
 have I:args.size<=N:=eV X;refine (callsIn_wide (n:=0)).1 (callsIn_of_wp_marks (F:=Fence.wide) W U trivial ?_);have B:CB (Fj 0 args.toList) {tmps:=args++Array.replicate (fn.ntmps -args.size) undef,defers:=[]}={tmps:=args++Array.replicate (fn.ntmps -args.size) undef,defers:=[]}:=by
  refine KX _ fun p K=>?_;obtain ⟨_,h2⟩:=FU _ _ _ K;simp only [Sf,Hx]at h2;have J:p.1<args.size:=by
   rcases Fi p.1 args.size with h|h
   · exact h
   · simp [LN h]at h2
  rw [fp J];exact h2
 rw [<-B];refine h u R _ w ⟨by simp [O];omega,V,fun p K=>?_,G⟩;obtain ⟨_,h2⟩:=FU _ _ _ K;simp only [Sf,Hx]at h2;rcases Fi p.1 args.size with h|h
 · exact nf h I
 · simp [LN h]at h2
section
variable{P:Program}{N:Nat}{u:A5}{fn:Func}{R H H':Hp}{Q:A2->Hp->Prop}{Pn:List PanicEntry->Hp->Prop}{env:Env}{e:Exit}
theorem aB{D:Nat}{w:A5}(h:w.heap[D]?=some (.deferred (some []))):(Instr.takeDeferred D).run P w= .ok [] (w.putObj D (.deferred none)):=by
 simp [Instr.takeDeferred,getObj,setObj,Sem.run,h];rfl
def Res(P:Program)(fn:Func)(env:Env)(v:A2):Prop:=∀(a:Act) (w:A5),Fit a.tmps.size env->(results fn (CB env a).tmps).run P w= .ok v w
theorem uJ(B:fn.results=#[]):Res P fn env (.tuple #[]):=fun a w _=>Pe B w _
theorem TZ{t:Nat}{v:A2}(G:fn.results=#[.tmp t])(hv:∀a,GN a env t=v):Res P fn env v:=fun a w B=>by rw [RU G,Ce a env B,hv a]
theorem ul{t s:Nat}{v x:A2}(G:fn.results=#[.tmp t,.tmp s])(hv:∀a,GN a env t=v)(hx:∀a,GN a env s=x):Res P fn env (.tuple #[v,x]):=fun a w B=>by rw [RS G,Ce a env B,Ce a env B,hv a,hx a]
theorem Ke{v:A2}(J:Fp e=true)(U:Res P fn env v)(O:Q v H')(K:Sub (H'++R) H:=by repeat(first|exact Sub.refl _|exact Sub.nil _|(apply Sub.cons;(focus (repeat(first|exact One.here _ _|apply One.there))))|refine Sub.drop _ ?_)):Nx ⟨N,[],u,none⟩ (bodyPostM Fence.wide 0 P fn (Gf u R Q Pn) e) env H:=fun a w G=>by
 have I:(CB env a).defers=[]:=by rw [Fy];exact G.defers
 have B:LeavesInM Fence.wide 0 P fn (CB env a).tmps (Gf u R Q Pn) (CB env a).defers .returning w:=by
  rw [I];exact ⟨v,U a w (by rw [G.size];exact G.fit),.inl ⟨v,H',rfl,O,G.sat.sub K.amid⟩⟩
 cases e<;>first|exact B|simp [Fp]at J
theorem G7{D:Nat}{v:A2}{H0:Hp}(W:Fp e=true)(hr:Res P fn env v)(U:One [(D,.deferred (some []))] H H0)(Z:Q v H')(X:Sub (H'++R) H0:=by repeat(first|exact Sub.refl _|exact Sub.nil _|(apply Sub.cons;(focus (repeat(first|exact One.here _ _|apply One.there))))|refine Sub.drop _ ?_)):Nx ⟨N,[⟨.collected D,#[]⟩],u,none⟩ (bodyPostM Fence.wide 0 P fn (Gf u R Q Pn) e) env H:=fun a w K=>by
 have O:(CB env a).defers=[⟨.collected D,#[]⟩]:=by rw [Fy];exact K.defers
 have B:Sat u ([(D,.deferred (some []))]::H0) w:=K.sat.perm (by simpa using U.perm);have J:=B.get (D,.deferred (some [])) (by simp)
 have G:Sat u (H'++R) (w.putObj D (.deferred none)):=((B.turn (o':= .deferred none)).sub ⟨[(D,.deferred none)],by simp only [D2];exact OS⟩).sub X.amid;have I:LeavesInM Fence.wide 0 P fn (CB env a).tmps (Gf u R Q Pn) (CB env a).defers .returning w:=by
  rw [O];refine ⟨by simp,.inl ⟨D,_,V,aB J,?_⟩⟩;exact ⟨v,hr a _ (by rw [K.size];exact K.fit),.inl ⟨v,H',rfl,Z,G⟩⟩
 cases e<;>first|exact I|simp [Fp]at W
end
def Lr(sz:Nat)(v:A2)(k:Nat)(ys:List A2)(s:List A8):Prop:=
 ys.length=k*sz/\((k=0/\∃b c,v= .slice b 0 c)\/∃g o cap cur T z,v= .slice (some ⟨g,o,none⟩) k cap/\s=[(g,.cells cur T z)]/\Bq cur o ys)
theorem E9{sz:Nat}{e:AM}{v:A2}{k:Nat}{xs:List A2}{s:List A8}(h:BU sz e v k xs s)(J:0<k):∃g cap cur z,v=I6 g k cap/\s=[(g,.cells cur e z)]/\k<=cap/\Bq cur 0 xs:=by
 obtain ⟨I,⟨_,h0,_⟩|⟨g,cap,cur,z,rfl,rfl,B,_,_,G,_⟩⟩:=h;· omega
 · refine ⟨g,cap,cur,z,rfl,rfl,B,?_⟩
   unfold Bq;rw [SU,I];exact G
theorem lI{sz:Nat}{e:AM}{v:A2}{k:Nat}{xs:List A2}{s:List A8}(h:BU sz e v k xs s):Lr sz v k xs s:=by
 refine ⟨h.1,?_⟩;rcases Rg k with h0|h0
 · obtain ⟨b,c,rfl⟩:=h.form
   subst h0;exact .inl ⟨V,b,c,V⟩
 · obtain ⟨g,cap,cur,z,rfl,rfl,_,B⟩:=E9 h h0
   exact .inr ⟨g,0,cap,cur,e,z,V,V,B⟩
theorem Oo{cur:AN}{o a n:Nat}{ys:List A2}(h:Bq cur o ys)(hn:a+n<=ys.length):Bq cur (o+a) ((ys.drop a).take n):=by
 unfold Bq at*;have B:((ys.drop a).take n).length=n:=by rw [Cd,Cp];omega
 rw [B,<-cG,<-h,ia,Xs];congr 1;have:=congrArg List.length h
 rw [Cd]at this;omega
theorem KQ{sz:Nat}{e:AM}{b:BE}{n c:Nat}{xs:List A2}{s:List A8}(h:BU sz e (.slice b n c) n xs s)(k d:Nat)(G:k<=n):Lr sz (.slice b k d) k (xs.take (k*sz)) s:=by
 have I:k*sz<=n*sz:=Wk sz G;refine ⟨by rw [Cd,h.1];omega,?_⟩;rcases Rg k with h0|h0
 · subst h0;exact .inl ⟨rfl,b,d,rfl⟩
 · obtain ⟨g,cap,cur,z,hv,rfl,_,B⟩:=E9 h A0
   injection hv with hv1 hv2 hv3
   subst hv1;have h2:=Oo B (a:=0) (n:=k*sz) (by rw [h.1];omega)
   rw [SU]at h2;exact .inr ⟨g,0,d,cur,e,z,V,V,h2⟩
theorem KR{sz:Nat}{e:AM}{b:BE}{n c:Nat}{xs:List A2}{s:List A8}(h:BU sz e (.slice b n c) n xs s)(k m d:Nat)(G:k+m=n):Lr sz (.slice (Ej b k c sz) m d) m (xs.drop (k*sz)) s:=by
 have J:n*sz=k*sz+m*sz:=by rw [<-G,Mp]
 refine ⟨by rw [Cp,h.1];omega,?_⟩;rcases Rg m with h0|h0
 · subst h0;exact .inl ⟨rfl,_,d,rfl⟩
 · obtain ⟨g,cap,cur,z,hv,rfl,I,B⟩:=E9 h A0
   injection hv with hv1 hv2 hv3
   subst hv1 hv3;have h2:=Oo B (a:=k*sz) (n:=m*sz) (by rw [h.1];omega)
   rw [Kx (by rw [Cp,h.1];omega)]at h2;refine .inr ⟨g,0+k*sz,d,cur,e,z,?_,V,h2⟩;unfold Ej;rw [As A0,PB,Cb]
theorem ZQ{sz:Nat}{b:BE}{n c:Nat}{xs:List A2}{s:List A8}(h:Lr sz (.slice b n c) n xs s)(k m d:Nat)(I:k+m=n)(hc:n<=c):Lr sz (.slice (Ej b k c sz) m d) m (xs.drop (k*sz)) s:=by
 have J:n*sz=k*sz+m*sz:=by rw [<-I,Mp]
 refine ⟨by rw [Cp,h.1];omega,?_⟩;rcases Rg m with h0|h0
 · subst h0;exact .inl ⟨rfl,_,d,rfl⟩
 · obtain ⟨G,⟨K,_⟩|⟨g,o,cap,cur,T,z,hv,rfl,B⟩⟩:=h
   · omega
   · injection hv with hv1 hv2 hv3
     subst hv1 hv3;have h2:=Oo B (a:=k*sz) (n:=m*sz) (by rw [G];omega)
     rw [Kx (by rw [Cp,G];omega)]at h2;refine .inr ⟨g,o+k*sz,d,cur,T,z,?_,V,h2⟩;unfold Ej;rw [As A0,PB,Cb]
section
variable{P:Program}{u:A5}{env:Env}{H R R2:Hp}{d:Option Nat}{ty:AM}{pos:String}{af:Array Edge}{g:Option (Nat×Bool)}
theorem BP{x y:Operand}{t e:AM}{i:TypeInfo}{z:A2}{by_ sz n k:Nat}{v v2:A2}{xs ys:List A2}{s s2:List A8}
 (ht:P.underlying t=some (.slice e))(hi:P.info? e=some i)(I:i.size=sz)(cO:i.bytes=by_)(gm:i.zero=some z)(ek:z.cells.size=sz)
 (hx:∀a,ev a env x=v)(B:BU sz e v n xs s)(hy:∀a,ev a env y=v2)(ax:Lr sz v2 k ys s2)(O:One s H R)(bn:One s2 R R2)(h1:∀u∈ys,u.oneCell'=true)
 (cu:n+k<=maxLen)(hb:(n+k)*by_<=140737488355328):
 OpW P u ⟨d,.call ⟨.builtin .append,#[x,y],#[t,t]⟩,ty,pos,af,g⟩ env H (fun v' H1=>∃s',BU sz e v' (n+k) (xs++ys) s'/\H1=s'::R) (fun _ _=>False):=by
 obtain ⟨hl,⟨rfl,b2,c2,rfl⟩|⟨gb,o,cap,cur,T,zz,rfl,rfl,d9⟩⟩:=ax
 · have Z:ys=[]:=NX A0
   subst Z;obtain ⟨b,c,rfl⟩:=B.form;have J:n<=c:=by
    obtain ⟨_,⟨hv,h0,_⟩|⟨_,_,_,_,hv,_,h2,_⟩⟩:=B;· omega
    · injection hv with _ _ hv3;omega
   intro a w U K Kp hK _;have W:Sat u (s::R) w:=U.perm (by simpa using O.perm)
   have G:(Builtin.firstCells i.size 0 (.slice b2 0 c2)).run P w= .ok #[] w:=by
    cases b2 with
    |none=>simp [Builtin.firstCells]
    |some ad=>simp [Builtin.firstCells,loadCells,loadCellsFrom]
   have hr:(Builtin.append_ #[t,t] ty #[.slice b n c,.slice b2 0 c2]).run P w= .ok (.slice b n c) w:=by
    rw [I]at G;cases b with
    |none=>simp [Builtin.append_,run_underlying ht,Go.sizeOf,typeInfo,hi,I,Builtin.lenOf,J,G]
    |some ad=>simp [Builtin.append_,run_underlying ht,Go.sizeOf,typeInfo,hi,I,Builtin.lenOf,J,G,storeCells]
   have X:(execOp (ev a env) ⟨d,.call ⟨.builtin .append,#[x,y],#[t,t]⟩,ty,pos,af,g⟩).run P w= .ok (.value (.slice b n c)) w:=by
    simp only [Dv,resolve,invoke,builtin,SM,Fc,Lk,hx a,hy a,Sem.run_bind,Sem.run_pure,Result.andThen_ok,hr]
   rw [X];exact hK _ _ _ ⟨s,by rw [E7];exact B,rfl⟩ W
 · rcases Rg k with h0|h0
   · subst h0
     have Z:ys=[]:=NX A0;subst Z;obtain ⟨b,c,rfl⟩:=B.form;have J:n<=c:=by
      obtain ⟨_,⟨hv,h0,_⟩|⟨_,_,_,_,hv,_,h2,_⟩⟩:=B;· omega
      · injection hv with _ _ hv3;omega
     intro a w U K Kp hK _;have W:Sat u (s::R) w:=U.perm (by simpa using O.perm)
     have G:(Builtin.firstCells i.size 0 (.slice (some ⟨gb,o,none⟩) 0 cap)).run P w= .ok #[] w:=by simp [Builtin.firstCells,loadCells,loadCellsFrom]
     have hr:(Builtin.append_ #[t,t] ty #[.slice b n c,.slice (some ⟨gb,o,none⟩) 0 cap]).run P w= .ok (.slice b n c) w:=by
      rw [I]at G;cases b with
      |none=>simp [Builtin.append_,run_underlying ht,Go.sizeOf,typeInfo,hi,I,Builtin.lenOf,J,G]
      |some ad=>simp [Builtin.append_,run_underlying ht,Go.sizeOf,typeInfo,hi,I,Builtin.lenOf,J,G,storeCells]
     have X:(execOp (ev a env) ⟨d,.call ⟨.builtin .append,#[x,y],#[t,t]⟩,ty,pos,af,g⟩).run P w= .ok (.value (.slice b n c)) w:=by
      simp only [Dv,resolve,invoke,builtin,SM,Fc,Lk,hx a,hy a,Sem.run_bind,Sem.run_pure,Result.andThen_ok,hr]
     rw [X];exact hK _ _ _ ⟨s,by rw [E7];exact B,rfl⟩ W
   · exact Ed ht hi I cO gm ek hx B hy O bn.has d9 hl h1 h0 cu hb
end
theorem One.memF{s:List A8}{H R:Hp}(h:One s H R):∀p∈s,p∈H.flatten:=fun p B=>by
 have:=h.perm.mem_iff (a:=p);exact this.2 (G1 _ B)
section
variable{P:Program}{u:A5}{env:Env}{H R R2:Hp}{d:Option Nat}{ty:AM}{pos:String}{af:Array Edge}{g:Option (Nat×Bool)}
theorem Li{x y:Operand}{t e:AM}{i:TypeInfo}{z:A2}{by_ sz n k:Nat}{b:BE}{v2:A2}{xs ys:List A2}{s s2:List A8}
 (ht:P.underlying t=some (.slice e))(hi:P.info? e=some i)(ic:i.size=sz)(d9:i.bytes=by_)(l5:i.zero=some z)(kv:z.cells.size=sz)
 (hx:∀a,ev a env x= .slice b n n)(U:Lr sz (.slice b n n) n xs s)(hy:∀a,ev a env y=v2)(bn:Lr sz v2 k ys s2)(gQ:One s H R)(j3:One s2 H R2)(hk:0<k)
 (l8:n+k<=maxLen)(hb:(n+k)*by_<=140737488355328):
 OpW P u ⟨d,.call ⟨.builtin .append,#[x,y],#[t,t]⟩,ty,pos,af,g⟩ env H (fun v' H1=>∃s',BU sz e v' (n+k) (xs++ys) s'/\H1=s'::H) (fun _ _=>False):=by
 obtain ⟨X,⟨h0,_⟩|⟨g2,o2,cap2,cO,T2,z2,rfl,rfl,gm⟩⟩:=bn;· omega
 intro a w O K Kp hK _;have gy:=Hr (O.get _ (j3.memF (g2,.cells cO T2 z2) B7)) gm
 have gq:ys.length=k*i.size:=by rw [ic];exact X
 have p8:=mL;have G:∀{v':A2} {w':A5},(Builtin.append_ #[t,t] ty #[.slice b n n,.slice (some ⟨g2,o2,none⟩) k cap2]).run P w= .ok v' w'->(execOp (ev a env) ⟨d,.call ⟨.builtin .append,#[x,y],#[t,t]⟩,ty,pos,af,g⟩).run P w= .ok (.value v') w':=fun h=>by
  simp only [Dv,resolve,invoke,builtin,SM,Fc,Lk,hx a,hy a,Sem.run_bind,Sem.run_pure,Result.andThen_ok,h]
 have I:∀(m:Nat) (cells:AN) (w1:A5),w1={w with drawn:=m,heap:=w.heap.push (.cells cells e)}->Sat u ([(w.heap.size,.cells cells e (0,0))]::H) w1:=fun m cells w1 h=>by
  subst h;exact (O.drawn m).alloc _
 have B:(xs++ys).length=(n+k)*sz:=by rw [C0,U.1,X,Mp]
 have split:∀m p:Nat,p<=m->p*sz+(m -p)*sz=m*sz:=fun m p h=>by rw [<-Mp];congr 1;omega
 have Z:∀(ad:Addr),b=some ad->(∀j v,xs[j]?=some v->w.cell? (ad.add j)=some v)->Vv P K Kp ((execOp (ev a env) ⟨d,.call ⟨.builtin .append,#[x,y],#[t,t]⟩,ty,pos,af,g⟩).run P w):=fun ad l9 ax=>by
  subst l9;have hr:=run_append_grow (P:=P) w t ty e i z ht hi l5 ad n n xs (by rw [ic];exact U.1) ax ⟨g2,o2,none⟩ k cap2 ys gq gy A0 A0 (growslice_fits A0 (by rw [d9];exact hb))
  rw [G hr];have W:=grownCap_ge w (n+k) n e
  have J:grownCap w (n+k) n e<=maxLen:=grownCap_le_maxLen w (n+k) n e l8;refine hK _ _ _ ⟨[(w.heap.size,.cells (xs.toArray++ys.toArray++Builtin.zeroCells z.cells (grownCap w (n+k) n e -(n+k))) e (0,0))],⟨B,.inr ⟨w.heap.size,grownCap w (n+k) n e,_,(0,0),V,V,W,J,?_,?_,BB _⟩⟩,V⟩ (I _ _ _ V)
  · simp only [kx,size_zeroCells,kv,Hs]
    have h1:=split _ _ W;rw [C0]at B;rw [B];exact h1
  · simp only [dq]
    exact J1 (by simpa using B)
 obtain ⟨hl,⟨h0,b9,c9,o9⟩|⟨g1,o1,o8,cu,T1,z1,hv,rfl,ek⟩⟩:=U
 · subst h0
   have j5:xs=[]:=NX A0;cases b with
   |some ad=>exact Z ad rfl (fun j v hj=>by rw [j5]at hj;cases hj)
   |none=>
    subst j5;have hr:=run_append_nil (P:=P) w t ty e i z ht hi l5 ⟨g2,o2,none⟩ k cap2 ys gq gy hk A0 (by rw [d9];exact SZ (by simpa using hb) (by decide:140737488355328<=281474976710656))
    rw [G hr];have W:=grownCap_ge w k 0 e
    have J:grownCap w k 0 e<=maxLen:=grownCap_le_maxLen w k 0 e A0;refine hK _ _ _ ⟨[(w.heap.size,.cells (ys.toArray++Builtin.zeroCells z.cells (grownCap w k 0 e -k)) e (0,0))],⟨B,.inr ⟨w.heap.size,grownCap w k 0 e,_,(0,0),by simp,V,by omega,J,?_,?_,BB _⟩⟩,V⟩ (I _ _ _ V)
    · simp only [kx,size_zeroCells,kv,Hs,X]
      exact split _ _ W
    · simp only [dq,N4,Dd]
      exact J1 X
 · injection hv with hv1 hv2 hv3
   refine Z ⟨g1,o1,none⟩ hv1 fun j v hj=>?_;have h9:=Hr (O.get _ (gQ.memF (g1,.cells cu T1 z1) B7)) ek
   exact h9 j v hj
theorem Pi{t e:AM}{x hi B:Operand}{b:BE}{n cap h s:Nat}{I mk:IntKind}(O:P.underlying t=some (.slice e))(K:∀w:A5,(Go.sizeOf e).run P w= .ok s w)(hx:∀a,ev a env x= .slice b n cap)(G:∀a,ev a env hi= .int I (h:Int))(J:∀a,ev a env B= .int mk (h:Int))(h2:h<=cap):
 OpP P ⟨d,.slice t x none (some hi) (some B),ty,pos,af,g⟩ env [] (.slice b h h):=fun a w _=>by
 cases b<;>simp [JA,hx a,G a,J a,Instr.sliceAt,Instr.slice,run_underlying O,Instr.sliceBounds,Instr.sliceBound,asIntOf,h2,K,Addr.add]
theorem H6(sz:Nat)(e:AM)(g k:Nat)(xs:List A2)(h:xs.length=k*sz)(B:k<=maxLen):BU sz e (I6 g k k) k xs [(g,.cells xs.toArray e (0,0))]:=
 ⟨h,.inr ⟨g,k,xs.toArray,(0,0),rfl,rfl,D0 _,B,by simp [h],Kx (by simp [h]),BB _⟩⟩
end
end Gw
namespace Gw
open Go Go.RowKit
open Go.ChangeMaps (setBlock)
section
variable{α:Type}{κ:α->A2}{D:α->Prop}{P:Program}
structure Co(κ:α->A2)(es:Array MapEntry)(clock:Nat)(l:List (α×A2)):Prop where
 pairs:es.toList.map (fun e=>(e.key,e.val))=l.map (fun p=>(κ p.1,p.2))
 born:(es.toList.map (·.born)).Nodup
 old:∀e∈es.toList,e.born<clock
 keys:(l.map (·.1)).Nodup
structure GD(P:Program)(kt:AM)(κ:α->A2)(D:α->Prop):Prop where
 check:∀(w:A5) (em:Bool) (a:α),D a->(Instr.checkKey em 10000 kt (κ a)).run P w= .ok () w
 find:∀(w:A5) (k:α),D k->∀es:List MapEntry,(∀e∈es,∃a,D a/\e.key=κ a)->((Instr.findKey kt (κ k) es).run P w= .ok none w/\∀e∈es,e.key≠κ k)\/∃j e,(Instr.findKey kt (κ k) es).run P w= .ok (some (j,e.val)) w/\es[j]?=some e/\e.key=κ k
 stays:∀(w:A5) (a:α),D a->(Instr.keyThatStays (κ a) (κ a)).run P w= .ok (κ a) w
 inj:∀a b,κ a=κ b->a=b
theorem GD.ofLaw{kt:AM}(law:WideMaps.KeyLaw P kt)(key:∀a,D a->∃l,keyOf P kt (κ a)=some l)(inj:∀a b,κ a=κ b->a=b):GD P kt κ D where
 check:=fun w em a B=>by obtain ⟨l,G⟩:=key a B;exact law.check w em G
 find:=fun w k J es I=>by
  obtain ⟨l,G⟩:=key k J;exact law.find w G es fun e h=>by obtain ⟨a,B,e1⟩:=I e h;rw [e1];exact key a B
 stays:=fun w a B=>by obtain ⟨l,G⟩:=key a B;exact law.stays w G
 inj:=inj
theorem GD.basic [DecidableEq α]{kt:AM}{K:TypeDesc}(Z:P.underlying kt=some K)(U:∀a b,Instr.sameNow K (κ a) (κ b)=some (decide (a=b)))(hc:∀(w:A5) (em:Bool) (a:α),(Instr.checkKey em 10000 kt (κ a)).run P w= .ok () w)
 (W:∀(w:A5) (a:α),(Instr.keyThatStays (κ a) (κ a)).run P w= .ok (κ a) w)(inj:∀a b,κ a=κ b->a=b):GD P kt κ D where
 check:=fun w em a _=>hc w em a
 find:=fun w k _ es O=>by
  have h:∀(es:List MapEntry) (i:Nat),(∀e∈es,∃a,D a/\e.key=κ a)->(Instr.findNow K (κ k) es i=some none/\∀e∈es,e.key≠κ k)\/∃j e,Instr.findNow K (κ k) es i=some (some (i+j,e.val))/\es[j]?=some e/\e.key=κ k:=by
   intro es;induction es with
   |nil=>intro i _;exact .inl ⟨rfl,by simp⟩
   |cons e es ih=>
    intro i O;obtain ⟨a,_,I⟩:=O e B7;by_cases J:k=a
    · refine .inr ⟨0,e,?_,rfl,by rw [I,J]⟩
      simp only [Instr.findNow,I,U,J,decide_true,Pu]
    · rcases ih (i+1) (fun e h=>O e (GB _ h))with⟨G,h2⟩|⟨j,e',G,h2,h3⟩
      · refine .inl ⟨?_,fun e' h=>?_⟩
        · simp only [Instr.findNow,I,U,J,eL];exact G
        · rcases DS.1 h with rfl|h
          · rw [I];exact fun h=>J (inj _ _ h.symm)
          · exact h2 e' h
      · refine .inr ⟨j+1,e',?_,h2,h3⟩
        simp only [Instr.findNow,I,U,J,eL];rw [G,show i+1+j=i+(j+1) by omega]
  have B:∀r,Instr.findNow K (κ k) es 0=some r->(Instr.findKey kt (κ k) es).run P w= .ok r w:=fun r X=>by
   simp only [Instr.findKey,Sem.run_bind,run_underlying Z,Result.andThen,X];rfl
  rcases h es 0 O with⟨G,h2⟩|⟨j,e,G,h2,h3⟩
  · exact .inl ⟨B _ G,h2⟩
  · exact .inr ⟨j,e,B _ (by rw [G,Dd]),h2,h3⟩
 stays:=fun w a _=>W w a
 inj:=inj
theorem sG{kt:AM}(B:P.underlying kt=some (.int .i64))(w:A5)(k:Int)(b:Bool)(n:Nat):(Instr.checkKey b (n+1) kt (I4 k)).run P w= .ok () w:=by
 simp only [Instr.checkKey,Sem.run_bind,run_underlying B,Result.andThen];rfl
theorem sF{kt:AM}(B:P.underlying kt=some .string)(w:A5)(k:CA)(b:Bool)(n:Nat):(Instr.checkKey b (n+1) kt (.string k)).run P w= .ok () w:=by
 simp only [Instr.checkKey,Sem.run_bind,run_underlying B,Result.andThen];rfl
theorem AC4(n:Nat)(k:Int):Instr.sameBits (n+1) (I4 k) (I4 k)=true:=by simp [Instr.sameBits]
theorem AC3(n:Nat)(k:CA):Instr.sameBits (n+1) (.string k) (.string k)=true:=by
 simp only [Instr.sameBits];cases k with|mk k=>show(k==k)=true;simp
theorem ZR{v:A2}(h:Instr.sameBits 10000 v v=true)(w:A5):(Instr.keyThatStays v v).run P w= .ok v w:=by
 unfold Instr.keyThatStays;rw [Ax h];rfl
theorem Cf{kt:AM}{D:Int->Prop}(B:P.underlying kt=some (.int .i64)):GD P kt (fun k:Int=>Value.int .i64 k) D:=
 GD.basic B (fun a b=>by simp only [Instr.sameNow];congr 1) (fun w em a=>sG B w a em 9999) (fun w a=>ZR (AC4 9999 a) w) (fun a b h=>by injection h)
theorem EI{kt:AM}{D:CA->Prop}(B:P.underlying kt=some .string):GD P kt (fun k:CA=>Value.string k) D:=
 GD.basic B (fun a b=>by
  simp only [Instr.sameNow];congr 1;cases a with|mk a=>cases b with|mk b=>
  show(a==b)=_;simp only [ByteArray.mk.injEq];exact nv.2 B7) (fun w em a=>sF B w a em 9999) (fun w a=>ZR (AC3 9999 a) w) (fun a b h=>by injection h)
theorem EU(κ:α->A2):Co κ #[] 0 []:=⟨rfl,by simp,by simp,by simp⟩
variable{es:Array MapEntry}{clock:Nat}{l:List (α×A2)}{kt:AM}
theorem Co.size(h:Co κ es clock l):es.size=l.length:=by
 have:=congrArg List.length h.pairs;simpa using this
theorem Co.at_(h:Co κ es clock l){j:Nat}{e:MapEntry}(G:es.toList[j]?=some e):∃p,l[j]?=some p/\e.key=κ p.1/\e.val=p.2:=by
 have B:(es.toList.map (fun e=>(e.key,e.val)))[j]?=some (e.key,e.val):=by rw [E6,G];rfl
 rw [h.pairs,E6]at B;cases hp:l[j]?with
 |none=>rw [hp]at B;cases B
 |some p=>
  rw [hp]at B;injection B with B
  injection B with h2 h3
  exact ⟨p,V,h2.symm,h3.symm⟩
theorem Co.of(h:Co κ es clock l){j:Nat}{p:α×A2}(G:l[j]?=some p):∃e,es.toList[j]?=some e/\e.key=κ p.1/\e.val=p.2:=by
 have B:(l.map (fun p=>(κ p.1,p.2)))[j]?=some (κ p.1,p.2):=by rw [E6,G];rfl
 rw [<-h.pairs,E6]at B;cases he:es.toList[j]?with
 |none=>rw [he]at B;cases B
 |some e=>
  rw [he]at B;injection B with B
  injection B with h2 h3
  exact ⟨e,V,h2,h3⟩
theorem IL(W:GD P kt κ D)(U:Co κ es clock l)(Z:∀p∈l,D p.1)(w:A5)(k:α)(X:D k):
 ((Instr.findKey kt (κ k) es.toList).run P w= .ok none w/\∀p∈l,p.1≠k)\/∃j v,(Instr.findKey kt (κ k) es.toList).run P w= .ok (some (j,v)) w/\l[j]?=some (k,v):=by
 rcases W.find w k X es.toList (fun e K=>by
  obtain ⟨j,O⟩:=HU K;obtain ⟨p,G,B,_⟩:=U.at_ O;exact ⟨p.1,Z p (Ek G),B⟩)with⟨B,h2⟩|⟨j,e,B,h2,h3⟩
 · refine .inl ⟨B,fun p G K=>?_⟩
   obtain ⟨j,O⟩:=HU G;obtain ⟨e,I,J,_⟩:=U.of O;exact h2 e (Ek I) (by rw [J,K])
 · obtain ⟨p,G,I,J⟩:=U.at_ h2
   refine .inr ⟨j,e.val,B,?_⟩;rw [G,J,<-W.inj p.1 k (by rw [<-I,h3])]
def EM [DecidableEq α](k:α)(l:List (α×A2)):Option A2:=(l.find? (fun p=>decide (p.1=k))).map (·.2)
theorem DY [DecidableEq α]{k:α}(h:∀p∈l,p.1≠k):EM k l=none:=by
 unfold EM;rw [nh.2 (fun p B=>by simpa using h p B)];rfl
theorem D8 [DecidableEq α]{k:α}{v:A2}:∀{l:List (α×A2)},(l.map (·.1)).Nodup->(k,v)∈l->EM k l=some v
 |p::l,hn,h=>by
  rw [Fc,LI]at hn;unfold EM;rcases DS.1 h with rfl|h
  · simp
  · rw [List.find?_cons_of_neg (by simp;rintro rfl;exact hn.1 (CI.2 ⟨_,h,rfl⟩))]
    exact D8 hn.2 h
theorem X0 [DecidableEq α]{k:α}{v:A2}{l:List (α×A2)}(h:EM k l=some v):(k,v)∈l:=by
 unfold EM at h;cases hf:l.find? (fun p=>decide (p.1=k))with
 |none=>rw [hf]at h;cases h
 |some p=>
  rw [hf]at h;injection h with h
  have B:=nw hf;have h2:=my hf
  simp only [HA]at B;rw [<-B,<-h];exact h2
section
variable{env:Env}{d:Option Nat}{ty:AM}{pos:String}{af:Array Edge}{g:Option (Nat×Bool)}{t et:AM}{r:Nat}{m x y:Operand}{k:α}{v z:A2}
theorem FB(B:GD P kt κ D)(G:D k)(w:A5)(em:Bool):(Instr.checkKey em 10000 kt (κ k)).run P w= .ok () w:=by
 exact B.check w em k G
theorem A50 [DecidableEq α](G:GD P kt κ D)(O:P.underlying t=some (.map kt et))(hz:∀w:A5,(zeroValue et).run P w= .ok z w)(K:Co κ es clock l)(U:∀p∈l,D p.1)(I:D k)(hx:∀a,ev a env m= .map (some r))(hy:∀a,ev a env x=κ k):
 OpP P ⟨d,.lookup t m x true,ty,pos,af,g⟩ env [(r,.map es clock)] (.tuple #[(EM k l).getD z,.bool (EM k l).isSome]):=fun a w W=>by
 have J:=W (r,.map es clock) B7;show((do pure (Next.value (<-Instr.lookup t (ev a env m) (ev a env x) true))):Sem Next).run P w=_
 rw [hx a,hy a];rcases IL G K U w k I with⟨B,h2⟩|⟨j,v,B,h2⟩
 · rw [DY h2]
   simp only [Instr.lookup,Sem.run_bind,run_underlying O,Result.andThen,MapKept.run_getObj_map J,FB G I,Sem.run_pure,B,hz];rfl
 · rw [D8 K.keys (Ek h2)]
   simp only [Instr.lookup,Sem.run_bind,run_underlying O,Result.andThen,MapKept.run_getObj_map J,FB G I,Sem.run_pure,B];rfl
theorem EO [DecidableEq α]{v0:A2}{b0:Bool}(B:GD P kt κ D)(K:P.underlying t=some (.map kt et))(hz:∀w:A5,(zeroValue et).run P w= .ok z w)(J:Co κ es clock l)(I:∀p∈l,D p.1)(G:D k)(hv:(EM k l).getD z=v0/\(EM k l).isSome=b0)(hx:∀a,ev a env m= .map (some r))(hy:∀a,ev a env x=κ k):
 OpP P ⟨d,.lookup t m x true,ty,pos,af,g⟩ env [(r,.map es clock)] (.tuple #[v0,.bool b0]):=by
 have:=A50 (d:=d) (ty:=ty) (pos:=pos) (af:=af) (g:=g) B K hz J I G hx hy;rwa [hv.1,hv.2]at this
theorem Qt(J:P.underlying t=some (.map kt et))(G:Co κ es clock l)(hx:∀a,ev a env m= .map (some r)):
 OpP P ⟨d,.call ⟨.builtin .len,#[m],#[t]⟩,ty,pos,af,g⟩ env [(r,.map es clock)] (I4 (l.length:Int)):=fun a w I=>by
 have B:=I (r,.map es clock) B7;simp [Dv,resolve,invoke,builtin,hx a,Builtin.len_,run_underlying J,MapKept.run_getObj_map B,goInt,G.size]
theorem Fv{w:A5}{c:Nat}(B:w.heap[r]?=some (.map es c))(o':Obj):(setObj r o').run P w= .ok () (setBlock w r o'):=by
 simp [setObj,Sem.run,B,setBlock]
variable{u:A5}{H R:Hp}
theorem DV:OpW P u ⟨d,.makeMap t none,ty,pos,af,g⟩ env H (fun I H1=>∃b,I= .map (some b)/\H1=[(b,.map #[] 0)]::H) (fun _ _=>False):=fun a w G K J B _=>by
 have:(execOp (ev a env) ⟨d,.makeMap t none,ty,pos,af,g⟩).run P w= .ok (.value (.map (some w.heap.size))) {w with heap:=w.heap.push (.map #[] 0)}:=by
  show((do pure (Next.value (<-Instr.makeMap t none))):Sem Next).run P w=_;rfl
 rw [this];exact B _ _ _ ⟨_,V,V⟩ (G.alloc _)
theorem Jq{w:A5}(B:One [(r,.map es clock)] H R)(G:Sat u H w)(o':Obj):w.heap[r]?=some (.map es clock)/\Sat u ([(r,o')]::R) (setBlock w r o'):=by
 have J:Sat u ([(r,.map es clock)]::R) w:=G.perm (by simpa using B.perm);have K:=J.get (r,.map es clock) B7
 have I:r<w.heap.size:=(Iv.1 K).1;exact ⟨K,J.upd (Upd.here _) rfl rfl rfl (by simp [setBlock,I]) (fun j O=>by simp only [setBlock,kh];rw [As (fun e=>O e.symm)])⟩
theorem bN{i:Nat}{q:A2}(I:l[i]?=some (k,q))(v:A2):((l.set i (k,v)).map (·.1))=l.map (·.1):=by
 apply P2;intro j;rw [E6,E6,W4];by_cases B:i=j
 · subst B
   have G:=(C7.1 I).1;rw [Ax rfl,Ax G,I];rfl
 · rw [As B]
theorem Lf{i j:Nat}{p q:α×A2}(hn:(l.map (·.1)).Nodup)(G:l[i]?=some p)(I:l[j]?=some q)(h:p.1=q.1):i=j:=by
 have B:(l.map (·.1))[i]?=some p.1:=by rw [E6,G];rfl
 have h2:(l.map (·.1))[j]?=some q.1:=by rw [E6,I];rfl
 exact (tB (C7.1 B).1 hn).1 (by rw [B,h2,h])
theorem lY{i:Nat}{q:A2}(hn:(l.map (·.1)).Nodup)(J:l[i]?=some (k,q))(v:A2)(p:α×A2):p∈l.set i (k,v)↔p=(k,v)\/(p∈l/\p.1≠k):=by
 have I:=(C7.1 J).1;constructor
 · intro h
   obtain ⟨j,B⟩:=HU h;rw [W4]at B;by_cases G:i=j
   · rw [Ax G,Ax A0]at B
     injection B with B;exact .inl B.symm
   · rw [As G]at B
     exact .inr ⟨Ek B,fun e=>G (Lf hn J B e.symm)⟩
 · rintro (rfl|⟨h,hne⟩)
   · exact Ek (by rw [W4,Ax rfl,Ax I])
   · obtain ⟨j,B⟩:=HU h
     refine Ek (i:=j) ?_;rw [W4,As];· exact B
     · rintro rfl
       rw [J]at B;injection B with B
       exact hne (by rw [<-B])
theorem FK(hK:GD P kt κ D)(ht:P.underlying t=some (.map kt et))(J:Co κ es clock l)(hl:∀p∈l,D p.1)(hk:D k)(hx:∀a,ev a env m= .map (some r))(hy:∀a,ev a env x=κ k)(hv:∀a,ev a env y=v)(W:One [(r,.map es clock)] H R):
 OpW P u ⟨d,.mapUpdate t m x y,ty,pos,af,g⟩ env H (fun v' H1=>v'=undef/\∃G B Z,Co κ G B Z/\(∀p,p∈Z↔p=(k,v)\/(p∈l/\p.1≠k))/\H1=[(r,.map G B)]::R) (fun _ _=>False):=fun a w X K Kp cu _=>by
 obtain ⟨hb,_⟩:=Jq W X (.map es clock)
 suffices hrun:∃G B Z,(Instr.mapUpdate t (.map (some r)) (κ k) v).run P w= .ok () (setBlock w r (.map G B))/\Co κ G B Z/\∀p,p∈Z↔p=(k,v)\/(p∈l/\p.1≠k) by
  obtain ⟨G,B,Z,h1,h2,h3⟩:=hrun;have:(execOp (ev a env) ⟨d,.mapUpdate t m x y,ty,pos,af,g⟩).run P w= .ok .skip (setBlock w r (.map G B)):=by
   show((do Instr.mapUpdate t (ev a env m) (ev a env x) (ev a env y);pure Next.skip):Sem Next).run P w=_;rw [hx a,hy a,hv a,Sem.run_bind,h1];rfl
  rw [this];exact cu _ _ _ ⟨V,G,B,Z,h2,h3,V⟩ (Jq W X _).2
 rcases IL hK J hl w k hk with⟨h1,h2⟩|⟨j,q,h1,h2⟩
 · refine ⟨es.push {key:=κ k,val:=v,born:=clock},clock+1,l++[(k,v)],?_,⟨?_,?_,?_,?_⟩,?_⟩
   · simp only [Instr.mapUpdate,Sem.run_bind,run_underlying ht,Result.andThen,MapKept.run_getObj_map hb,FB hK hk,h1,Fv hb]
   · simp [J.pairs]
   · simp only [nm,CN,Fc,Lk]
     rw [HX];refine ⟨J.born,by simp,?_⟩;intro a ha b O ax;simp only [CI,CH]at ha O;obtain ⟨e,U,rfl⟩:=ha;have:=J.old e U
     omega
   · intro e U
     simp only [nm,CD,CH]at U;rcases U with U|rfl
     · have:=J.old e U;omega
     · simp
   · rw [CN,HX]
     refine ⟨J.keys,by simp,?_⟩;intro a ha b O ax;simp only [Fc,Lk,CH]at O;obtain ⟨p,hp,rfl⟩:=CI.1 ha;exact h2 p hp (by rw [ax,O])
   · intro p
     rw [CD,CH];constructor
     · rintro (h|rfl)
       · exact .inr ⟨h,h2 p h⟩
       · exact .inl rfl
     · rintro (rfl|⟨h,_⟩)
       · exact .inr rfl
       · exact .inl h
 · obtain ⟨e0,bn,d9,gm⟩:=J.of h2
   have cO:es[j]?=some e0:=by simpa using bn
   have ek:(Instr.keyThatStays (((es[j]?).map (·.key)).getD (κ k)) (κ k)).run P w= .ok (κ k) w:=by
    rw [cO];show(Instr.keyThatStays e0.key (κ k)).run P w=_
    rw [d9];exact hK.stays w k hk
   refine ⟨es.modify j fun e=>{e with key:=κ k,val:=v},clock,l.set j (k,v),?_,⟨?_,?_,?_,?_⟩,lY J.keys h2 v⟩;· simp only [Instr.mapUpdate,Sem.run_bind,run_underlying ht,Result.andThen,MapKept.run_getObj_map hb,FB hK hk,h1,ek,Fv hb]
   · rw [gE]
     apply P2;intro i;have hj:(es.toList.map (fun e=>(e.key,e.val)))[i]?=(l.map (fun p=>(κ p.1,p.2)))[i]?:=by rw [J.pairs]
     rw [E6,E6]at hj;rw [E6,E6,gC,W4];by_cases I:j=i
     · subst I
       rw [Ax rfl,Ax (C7.1 h2).1,bn];simp
     · simpa [I]using hj
   · have:(es.modify j fun e=>{e with key:=κ k,val:=v}).toList.map (·.born)=es.toList.map (·.born):=by
      rw [gE];apply P2;intro i;simp only [E6,gC];by_cases I:j=i;· subst I;cases es.toList[j]?<;>simp
      · simp [I]
     rw [this];exact J.born
   · intro e U
     rw [gE]at U;obtain ⟨i,hi⟩:=HU U;simp only [gC]at hi;cases h9:es.toList[i]?with
     |none=>simp [h9]at hi
     |some e1=>
      have:=J.old e1 (Ek h9);by_cases I:j=i
      · subst I
        simp only [h9,KK,Option.map_eq_map,PB,cE]at hi;subst hi;exact this
      · simp [h9,I]at hi
        subst hi;exact this
   · rw [bN h2 v];exact J.keys
theorem M4{t2:AM}(hK:GD P kt κ D)(ht:P.underlying t=some (.map kt et))(W:Co κ es clock l)(hl:∀p∈l,D p.1)(hk:D k)(hx:∀a,ev a env m= .map (some r))(hy:∀a,ev a env x=κ k)(I:One [(r,.map es clock)] H R):
 OpW P u ⟨d,.call ⟨.builtin .delete,#[m,x],#[t,t2]⟩,ty,pos,af,g⟩ env H (fun v' H1=>v'= .tuple #[]/\∃G B X,Co κ G B X/\(∀p,p∈X↔p∈l/\p.1≠k)/\H1=[(r,.map G B)]::R) (fun _ _=>False):=fun a w J K Kp bn _=>by
 obtain ⟨hb,_⟩:=Jq I J (.map es clock)
 suffices hrun:∃G B X,(Builtin.delete_ #[t,t2] ty #[.map (some r),κ k]).run P w= .ok (.tuple #[]) (setBlock w r (.map G B))/\Co κ G B X/\∀p,p∈X↔p∈l/\p.1≠k by
  obtain ⟨G,B,X,Z,h2,h3⟩:=hrun;have:(execOp (ev a env) ⟨d,.call ⟨.builtin .delete,#[m,x],#[t,t2]⟩,ty,pos,af,g⟩).run P w= .ok (.value (.tuple #[])) (setBlock w r (.map G B)):=by
   simp only [Dv,resolve,invoke,builtin,SM,Fc,Lk,hx a,hy a,Sem.run_bind,Sem.run_pure,Result.andThen_ok,Z]
  rw [this];exact bn _ _ _ ⟨V,G,B,X,h2,h3,V⟩ (Jq I J _).2
 rcases IL hK W hl w k hk with⟨Z,h2⟩|⟨j,q,Z,h2⟩
 · refine ⟨es,clock,l,?_,W,fun p=>⟨fun h=>⟨h,h2 p h⟩,fun h=>h.1⟩⟩
   simp only [Builtin.delete_,fy,cU,dp,Sem.run_bind,run_underlying ht,Result.andThen,MapKept.run_getObj_map hb,FB hK hk,Z,Fv hb,Sem.run_pure]
 · have U:(es.eraseIdxIfInBounds j).toList=es.toList.eraseIdx j:=by
    unfold Array.eraseIdxIfInBounds;split;· simp
    · rename_i h;rw [List.eraseIdx_of_length_le (by simpa using h)]
   have O:(es.toList.eraseIdx j).Sublist es.toList:=List.eraseIdx_sublist _ _;have ax:∀{α β:Type} (f:α->β) (m:List α) (n:Nat),(m.eraseIdx n).map f=(m.map f).eraseIdx n:=by
    intro α β f m;induction m with
    |nil=>intro n;simp
    |cons x m ih=>intro n;cases n<;>simp [ih]
   refine ⟨es.eraseIdxIfInBounds j,clock,l.eraseIdx j,?_,⟨?_,?_,?_,?_⟩,fun p=>?_⟩;· simp only [Builtin.delete_,fy,cU,dp,Sem.run_bind,run_underlying ht,Result.andThen,MapKept.run_getObj_map hb,FB hK hk,Z,Fv hb,Sem.run_pure]
   · rw [U,ax,W.pairs,ax]
   · rw [U];exact (O.map _).nodup W.born
   · intro e he
     rw [U]at he;exact W.old e (O.subset he)
   · exact ((List.eraseIdx_sublist l j).map _).nodup W.keys
   · rw [List.mem_eraseIdx_iff_getElem?]
     constructor
     · rintro ⟨i,cu,hi⟩
       exact ⟨Ek hi,fun e=>cu (Lf W.keys hi h2 e)⟩
     · rintro ⟨h,cO⟩
       obtain ⟨i,hi⟩:=HU h;refine ⟨i,?_,hi⟩;rintro rfl;rw [h2]at hi;injection hi with hi
       exact cO (by rw [<-hi])
end
end
end Gw
namespace Gw
open Go Go.RowKit
open Go.ChangeMaps
section
variable{α:Type}{κ:α->A2}{P:Program}{es:Array MapEntry}{clock:Nat}{l:List (α×A2)}
structure J9(es:Array MapEntry)(js:List Nat)(seen:Array Nat):Prop where
 nodup:js.Nodup
 lt:∀j∈js,j<es.size
 mem:∀(j:Nat) (e:MapEntry),es.toList[j]?=some e->(seen.contains e.born=true↔j∈js)
 last:∀(j:Nat),js.getLast?=some j->∃e,es.toList[j]?=some e/\∃s0:Array Nat,seen=s0.push e.born
theorem Kj(es:Array MapEntry):J9 es [] #[]:=⟨by simp,by simp,by simp,by simp⟩
theorem eU{es:Array MapEntry}(hn:(es.toList.map (·.born)).Nodup){i j:Nat}{a b:MapEntry}(G:es.toList[i]?=some a)(I:es.toList[j]?=some b)(h:a.born=b.born):i=j:=by
 have B:(es.toList.map (·.born))[i]?=some a.born:=by rw [E6,G];rfl
 have h2:(es.toList.map (·.born))[j]?=some b.born:=by rw [E6,I];rfl
 exact (tB (C7.1 B).1 hn).1 (by rw [B,h2,h])
theorem J9.push(J:Co κ es clock l){js:List Nat}{seen:Array Nat}(h:J9 es js seen){j:Nat}{e:MapEntry}(G:es.toList[j]?=some e)(O:j∉js):J9 es (js++[j]) (seen.push e.born):=by
 refine ⟨?_,?_,?_,?_⟩
 · rw [HX]
   refine ⟨h.nodup,by simp,?_⟩;intro a K b B I;rw [CH]at B;subst B I;exact O K
 · intro i hi
   rcases CD.1 hi with hi|hi
   · exact h.lt i hi
   · rw [CH]at hi
     subst hi;have:=(C7.1 G).1
     simpa using this
 · intro i x hx
   rw [CD,CH,<-h.mem i x hx,Array.contains_push];simp only [UP,beq_iff_eq];constructor
   · rintro (B|hc)
     · first|exact .inr (eU J.born hx G B)|exact .inl B
     · first|exact .inl hc|exact .inr (eU J.born hx G hc)
   · rintro (hc|rfl)
     · first|exact .inr hc|exact .inl hc
     · rw [G]at hx
       injection hx with hx
       subst hx;first|exact .inl rfl|exact .inr rfl
 · intro i hi
   rw [List.getLast?_append]at hi;simp at hi;subst hi;exact ⟨e,G,seen,V⟩
def DU(l:List (α×A2))(js:List Nat):List (α×A2):=js.filterMap (fun j=>l[j]?)
theorem GK(l:List (α×A2))(js:List Nat){j:Nat}{p:α×A2}(B:l[j]?=some p):DU l (js++[j])=DU l js++[p]:=by
 unfold DU;rw [fz];simp [B]
theorem Ny(l:List (α×A2)):DU l (List.range l.length)=l:=by
 have h:∀n,n<=l.length->DU l (List.range n)=l.take n:=by
  intro n;induction n with
  |zero=>intro _;rfl
  |succ n ih=>
   intro hn;obtain ⟨p,B⟩:∃p,l[n]?=some p:=⟨_,BT A0⟩;rw [i7,GK l _ B,ih A0,S1,B];rfl
 rw [h _ (D0 _),HE]
theorem J9.done(K:Co κ es clock l){js:List Nat}{seen:Array Nat}(h:J9 es js seen)(h0:(leftOf es seen).size=0):(DU l js).Perm l:=by
 have O:js.Perm (List.range l.length):=by
  rw [T7 h.nodup lA];intro j;rw [Mb,<-K.size];constructor;· exact h.lt j
  · intro J
    have B:j<es.toList.length:=by simpa using J
    have I:es.toList[j]?=some (es.toList[j]):=BT B;rw [<-h.mem j _ I];unfold leftOf at h0;have G:=Array.filter_eq_empty_iff.1 (Array.eq_empty_of_size_eq_zero h0)
    have h2:=G (es.toList[j]) (sC.1 (tI B));simpa using h2
 have:=O.filterMap (fun j=>l[j]?);exact this.trans (by rw [show(List.range l.length).filterMap (fun j=>l[j]?)=DU l (List.range l.length) from rfl,Ny])
section
variable{env:Env}{d:Option Nat}{ty:AM}{pos:String}{af:Array Edge}{g:Option (Nat×Bool)}{t kt et:AM}{r b:Nat}{x:Operand}{u:A5}{H R:Hp}
theorem M3(O:P.underlying t=some (.map kt et))(hx:∀a,ev a env x= .map (some r))(B:(r,.map es clock)∈H.flatten):
 OpW P u ⟨d,.range t x,ty,pos,af,g⟩ env H (fun U H1=>∃b,U=I5 b/\H1=[(b,.mapIter (some r) clock #[] clock)]::H) (fun _ _=>False):=fun a w G K W I _=>by
 have J:=G.get _ B;have:(execOp (ev a env) ⟨d,.range t x,ty,pos,af,g⟩).run P w= .ok (.value (.pointer (some ⟨w.heap.size,0,none⟩))) {w with heap:=w.heap.push (.mapIter (some r) clock #[] clock)}:=by
  show((do pure (Next.value (<-Instr.range t (ev a env x)))):Sem Next).run P w=_;rw [hx a];simp only [Instr.range,Sem.run_bind,run_underlying O,Result.andThen,MapKept.run_getObj_map J];rfl
 rw [this];exact I _ _ _ ⟨_,V,V⟩ (G.alloc _)
theorem OC(G:P.underlying t=some (.map kt et))(hx:∀a,ev a env x= .map (some r))(B:Has r (.map es clock) H):
 OpW P u ⟨d,.range t x,ty,pos,af,g⟩ env H (fun I H1=>∃b,I=I5 b/\H1=[(b,.mapIter (some r) clock #[] clock)]::H) (fun _ _=>False):=M3 G hx B.mem
theorem uy{w:A5}{o:Obj}(B:One [(b,o)] H R)(G:Sat u H w)(o':Obj):w.heap[b]?=some o/\Sat u ([(b,o')]::R) (setBlock w b o'):=by
 have J:Sat u ([(b,o)]::R) w:=G.perm (by simpa using B.perm);have K:=J.get (b,o) B7
 have I:b<w.heap.size:=(Iv.1 K).1;exact ⟨K,J.upd (Upd.here _) rfl rfl rfl (by simp [setBlock,I]) (fun j O=>by simp only [setBlock,kh];rw [As (fun e=>O e.symm)])⟩
theorem OD(X:Co κ es clock l){js:List Nat}{seen:Array Nat}(hi:J9 es js seen)(hx:∀a,ev a env x=I5 b)(J:One [(b,.mapIter (some r) clock seen clock)] H R)(U:(r,.map es clock)∈R.flatten):
 OpW P u ⟨d,.next x false,ty,pos,af,g⟩ env H (fun v' H1=>((DU l js).Perm l/\v'= .tuple #[.bool false]/\H1=[(b,.mapIter (some r) clock seen clock)]::R)\/
  ∃j p I,l[j]?=some p/\j∉js/\J9 es (js++[j]) I/\v'= .tuple #[.bool true,κ p.1,p.2]/\H1=[(b,.mapIter (some r) clock I clock)]::R) (fun _ _=>False):=fun a w G K Kp hK _=>by
 have Z:Sat u ([(b,.mapIter (some r) clock seen clock)]::R) w:=G.perm (by simpa using J.perm);have hb:=Z.get (b,.mapIter (some r) clock seen clock) (by simp)
 have hr:=Z.get (r,.map es clock) (by simp [U]);have ax:(execOp (ev a env) ⟨d,.next x false,ty,pos,af,g⟩)=((do pure (Next.value (<-Instr.next (I5 b) false ty))):Sem Next):=by
  rw [<-hx a];rfl
 rw [ax];rcases run_next_at (P:=P) w ty b r clock clock seen es clock hb hr X.old (D0 _)with⟨hz,B⟩|⟨e,he,w1,hw1,B⟩
 · rw [Sem.run_bind,B]
   exact hK _ _ _ (.inl ⟨hi.done X hz,V,V⟩) Z
 · rw [Sem.run_bind,B]
   have O:e∈es.toList/\seen.contains e.born=false:=by
    unfold leftOf at he;simpa using he
   obtain ⟨j,hj⟩:=HU O.1;obtain ⟨p,hp,hk,hv⟩:=X.at_ hj;have W:j∉js:=fun h=>by
    have:=(hi.mem j e hj).2 h;rw [O.2]at this;cases this
   refine hK _ _ _ (.inr ⟨j,p,_,hp,W,hi.push X hj W,by rw [hk,hv],rfl⟩) ?_;have h2:Sat u H w1:=by
    rcases hw1 with rfl|rfl
    · exact G
    · exact G.drew
   exact (uy J h2 _).2
theorem QO(K:Co κ es clock l){js:List Nat}{seen:Array Nat}(hi:J9 es js seen)(hx:∀a,ev a env x=I5 b)(I:One [(b,.mapIter (some r) clock seen clock)] H R)(G:Has r (.map es clock) R):
 OpW P u ⟨d,.next x false,ty,pos,af,g⟩ env H (fun J H1=>((DU l js).Perm l/\J= .tuple #[.bool false]/\H1=[(b,.mapIter (some r) clock seen clock)]::R)\/
  ∃j p B,l[j]?=some p/\j∉js/\J9 es (js++[j]) B/\J= .tuple #[.bool true,κ p.1,p.2]/\H1=[(b,.mapIter (some r) clock B clock)]::R) (fun _ _=>False):=OD K hi hx I G.mem
theorem JV(J:Co κ es clock l){js:List Nat}{seen:Array Nat}{j:Nat}{p:α×A2}(hi:J9 es (js++[j]) seen)(W:l[j]?=some p)(hx:∀a,ev a env x=I5 b):
 OpP P ⟨d,.entry x,ty,pos,af,g⟩ env [(b,.mapIter (some r) clock seen clock),(r,.map es clock)] (.tuple #[κ p.1,p.2]):=fun a w K=>by
 have O:=K (b,.mapIter (some r) clock seen clock) B7;have X:=K (r,.map es clock) B7
 obtain ⟨e,I,s0,rfl⟩:=hi.last j B7;obtain ⟨Z,B,U,hv⟩:=J.at_ I;rw [W]at B;injection B with B
 subst B;have G:=run_entry_at (P:=P) w b r clock s0 es clock e O X (Ek I) J.born
 show((do pure (Next.value (<-Instr.entry (ev a env x)))):Sem Next).run P w=_;rw [hx a,Sem.run_bind,G,U,hv];rfl
end
end
end Gw
namespace Gl
open Go
def linUpon(P:Program)(K:A2->A5->Prop):Result Next->Prop
 | .ok (.value u) w=>K u w
 | .ok .skip w=>K undef w
 | .ok (.enter f args) w=>Calls P f args w (fun e w'=>∃u,e= .returned u/\K u w')
 |_=>False
def lookE(a:Act):List (Nat×A2)->Nat->A2
 |[],t=>a.tmps.getD t undef
 |(d,v)::env,t=>if t=d then v else lookE a env t
def evalE(a:Act)(env:List (Nat×A2)):Operand->A2
 | .tmp t=>lookE a env t
 | .const v=>v
 | .global g=>I5 g
 | .func f=> .func (.func f) #[] #[]
def yieldE(ops:Array Oper)(a:Act)(env:List (Nat×A2))(g:Nat)(want:Bool):Bool:=
 match(ops[g]?).bind (·.dst)with
 |some t=>match lookE a env t with
  | .bool b=>b==want
  |_=>false
 |none=>false
def wantedE(ops:Array Oper)(a:Act)(env:List (Nat×A2)):Option (Nat×Bool)->Bool
 |none=>true
 |some (g,want)=>yieldE ops a env g want
def putE(d:Option Nat)(v:A2)(env:List (Nat×A2)):List (Nat×A2):=
 match d with
 |some d=>(d,v)::env
 |none=>env
def putsE:List (Nat×A2)->Act->Act
 |[],a=>a
 |(d,v)::env,a=>(putsE env a).put (some d) v
def bL(P:Program)(ops:Array Oper)(o:Oper)(a:Act)(env:List (Nat×A2))(v:A2)(R:A5->Prop)(w:A5):Prop:=
 ∀K:A2->A5->Prop,(∀w',R w'->K v w')->if wantedE ops a env o.guard=true then linUpon P K ((execOp (evalE a env) o).run P w)else K undef w
def Nr(P:Program)(ops:Array Oper)(S:Nat->A5->Prop)(Q:Act->A5->Prop)(a:Act):Nat->List Oper->List Bool->List (Nat×A2)->Prop
 |k,[],_,env=>∀w,S k w->Q (putsE env a) w
 |k,o::l,true::fs,env=>∃v,(∀w,S k w->bL P ops o a env v (S (k+1)) w)/\Nr P ops S Q a (k+1) l fs (putE o.dst v env)
 |k,o::l,false::fs,env=>∃v,(∀j w,S j w->bL P ops o a env v (S j) w)/\Nr P ops S Q a k l fs (putE o.dst v env)
 |_,_::_,[],_=>False
def UN(ops:Array Oper)(fl:List Bool)(N:Nat):Bool:=
 let b:=Region.before ops
 decide (fl.length=ops.size)&&
 (List.range ops.size).all fun j=>match ops[j]?with
   |none=>false
   |some oj=>
    (oj.after.toList.all fun e=>!Region.binds .any e||decide (e.on<j))&&
    ((List.range j).all fun i=>match ops[i]?with
      |none=>false
      |some oi=>
       (!(b.getD j 0).testBit i||oj.after.toList.any (fun e=>Region.binds .any e&&(e.on==i||(decide (i<e.on)&&(b.getD e.on 0).testBit i))))&&
       (oi.apart ops oj||(b.getD j 0).testBit i)&&
       (!(fl.getD i false&&fl.getD j false)||(b.getD j 0).testBit i))&&
    (match oj.op with| .select ..=>false|_=>true)&&
    (match oj.dst with|some d=>decide (d<N)|none=>true)
def Kh(p:Nat->Bool):Nat->List (Oper×A2)->Act->Act
 |_,[],a=>a
 |i,x::l,a=>Kh p (i+1) l (if p i then a.put x.1.dst x.2 else a)
def tv(p:Nat->Bool)(t:Nat):Nat->List (Oper×A2)->Option A2->Option A2
 |_,[],d=>d
 |i,x::l,d=>tv p t (i+1) l (if p i=true/\x.1.dst=some t then some x.2 else d)
theorem EK(a:Act)(d:Option Tmp)(v:A2):(a.put d v).tmps.size=a.tmps.size:=by cases d<;>simp [Act.put]
theorem Ju(a:Act)(d:Option Tmp)(v:A2):(a.put d v).defers=a.defers:=by cases d<;>simp [Act.put]
theorem JE(a:Act)(d:Option Tmp)(v:A2)(t:Nat)(B:t<a.tmps.size):(a.put d v).tmps[t]?=if d=some t then some v else a.tmps[t]?:=by
 cases d with
 |none=>simp [Act.put]
 |some d=>
  simp only [Act.put,kh];by_cases e:d=t;· subst e;simp [B]
  · simp [e]
theorem JJ{a b:Act}(G:a.tmps.size=b.tmps.size)(B:a.defers=b.defers)(h:∀t,t<a.tmps.size->a.tmps[t]?=b.tmps[t]?):a=b:=by
 obtain ⟨x,d⟩:=a;obtain ⟨y,e⟩:=b;simp only at B G h;subst B;congr 1;apply lr G;intro i hi I;have:=h i hi
 simp only [IF hi,IF I,cE]at this;exact this
theorem D9(p:Nat->Bool):∀(i:Nat) (l:List (Oper×A2)) (a:Act),(Kh p i l a).tmps.size=a.tmps.size
 |_,[],_=>rfl
 |i,x::l,a=>by simp only [Kh];rw [D9 p (i+1) l];split<;>simp [EK]
theorem FO(p:Nat->Bool):∀(i:Nat) (l:List (Oper×A2)) (a:Act),(Kh p i l a).defers=a.defers
 |_,[],_=>rfl
 |i,x::l,a=>by simp only [Kh];rw [FO p (i+1) l];split<;>simp [Ju]
theorem EG(p:Nat->Bool)(t:Nat):∀(i:Nat) (l:List (Oper×A2)) (a:Act),t<a.tmps.size->(Kh p i l a).tmps[t]?=tv p t i l a.tmps[t]?
 |_,[],_,_=>rfl
 |i,x::l,a,ht=>by
  simp only [Kh,tv];rw [EG p t (i+1) l _ (by split<;>simpa [EK]using ht)];congr 1;by_cases B:p i=true;· simp only [B,KK,db];rw [JE _ _ _ _ ht]
  · simp [B]
theorem F9(p q:Nat->Bool)(t:Nat):∀(i:Nat) (l:List (Oper×A2)) (d:Option A2),(∀k x,l[k]?=some x->x.1.dst=some t->p (i+k)=q (i+k))->tv p t i l d=tv q t i l d
 |_,[],_,_=>rfl
 |i,x::l,d,h=>by
  simp only [tv];have h0:(if p i=true/\x.1.dst=some t then some x.2 else d)=(if q i=true/\x.1.dst=some t then some x.2 else d):=by
   by_cases e:x.1.dst=some t
   · have:=h 0 x rfl e;simp only [Pu]at this;simp [this]
   · simp [e]
  rw [h0];exact F9 p q t (i+1) l _ fun k y B hy=>by
   have:=h (k+1) y (by simpa using B) hy;rwa [show i+(k+1)=i+1+k from by omega]at this
theorem lC(p:Nat->Bool)(t:Nat):∀(i k:Nat) (l:List (Oper×A2)) (d:Option A2) (x:Oper×A2),l[k]?=some x->x.1.dst=some t->p (i+k)=true->
 (∀G y,k<G->l[G]?=some y->y.1.dst=some t->p (i+G)=false)->tv p t i l d=some x.2
 |i,0,z::l,d,x,B,hx,hp,h=>by
  simp only [cU,cE]at B;subst B;simp only [tv];simp only [Pu]at hp;simp only [hp,hx,and_self,KK];rw [F9 p (fun _=>false) t (i+1) l _ fun k y B hy=>by
   have:=h (k+1) y (by omega) (by simpa using B) hy;rwa [show i+(k+1)=i+1+k from by omega]at this]
  have:∀(i:Nat) (l:List (Oper×A2)) (d:Option A2),tv (fun _=>false) t i l d=d:=by
   intro i l;induction l generalizing i with
   |nil=>intro d;rfl
   |cons y l ih=>intro d;simp [tv,ih]
  rw [this]
 |i,k+1,z::l,d,x,B,hx,hp,h=>by
  simp only [tv];exact lC p t (i+1) k l _ x (by simpa using B) hx (by rwa [show i+1+k=i+(k+1) from by omega]) fun G y J hy I=>by
   have:=h (G+1) y A0 (by simpa using hy) I;rwa [show i+(G+1)=i+1+G from by omega]at this
 |i,k,[],d,x,B,_,_,_=>by simp at B
def pre(j:Nat)(l:List (Oper×A2))(a:Act):Act:=(l.take j).foldl (fun a x=>a.put x.1.dst x.2) a
theorem SQ(j:Nat):∀(i:Nat) (l:List (Oper×A2)) (a:Act),Kh (fun k=>decide (k<i+j)) i l a=pre j l a:=by
 induction j with
 |zero=>
  intro i l;induction l generalizing i with
  |nil=>intro a;rfl
  |cons x l ih=>
   intro a;simp only [Kh,Pu,Nat.lt_irrefl,eL,P0,I0];have:∀(m i:Nat) (l:List (Oper×A2)) (a:Act),i<=m->Kh (fun k=>decide (k<i)) m l a=a:=by
    intro m i l;induction l generalizing m with
    |nil=>intro a _;rfl
    |cons y l ih=>intro a h;simp only [Kh];rw [As Kd];exact ih (m+1) a A0
   rw [this (i+1) i l a A0];rfl
 |succ j ih=>
  intro i l a;cases l with
  |nil=>rfl
  |cons x l=>
   simp only [Kh];rw [Ax B7];have:=ih (i+1) l (a.put x.1.dst x.2)
   rw [show i+1+j=i+(j+1) from by omega]at this;rw [this];rfl
def FH(fs:List Bool):Nat:=(fs.filter id).length
def Ml(P:Program)(ops:Array Oper)(o:Oper)(a:Act)(v:A2)(R:A5->Prop)(w:A5):Prop:=
 ∀K:A2->A5->Prop,(∀w',R w'->K v w')->if Region.wanted o (yielded ops a.tmps)then linUpon P K ((execOp a.eval o).run P w)else K undef w
theorem LF(a:Act):∀env,(putsE env a).tmps.size=a.tmps.size
 |[]=>rfl
 |(d,v)::env=>by simp only [putsE];rw [EK,LF a env]
theorem OL(a:Act):∀(env:List (Nat×A2)),(∀x∈env,x.1<a.tmps.size)->∀t,(putsE env a).tmps.getD t undef=lookE a env t
 |[],_,t=>rfl
 |(d,v)::env,h,t=>by
  simp only [putsE,lookE];have B:=OL a env (fun x hx=>h x (GB _ hx)) t
  have G:=h (d,v) (Fo ..);rw [Nd]at B⊢;by_cases J:t<a.tmps.size
  · rw [JE _ _ _ _ (by rw [LF];exact J)]
    by_cases e:t=d
    · subst e;simp
    · rw [As e,<-B,As (fun I=>e (SP I).symm)]
  · rw [LN (by rw [EK,LF];omega)]
    rw [LN (by rw [LF];omega)]at B;rw [<-B,As (by simp only at G;omega)]
theorem gu(a:Act)(env:List (Nat×A2))(h:∀x∈env,x.1<a.tmps.size):(putsE env a).eval=evalE a env:=by
 funext x;cases x with
 |tmp t=>exact OL a env h t
 |_=>rfl
theorem fK(ops:Array Oper)(o:Oper)(a:Act)(env:List (Nat×A2))(h:∀x∈env,x.1<a.tmps.size):Region.wanted o (yielded ops (putsE env a).tmps)=wantedE ops a env o.guard:=by
 unfold Region.wanted wantedE;cases hg:o.guard with
 |none=>rfl
 |some gw=>
  obtain ⟨g,B⟩:=gw;simp only [yielded,yieldE];cases ht:(ops[g]?).bind (·.dst)with
  |none=>simp
  |some t=>
   simp only [LR];rw [<-OL a env h t,Nd];cases hv:(putsE env a).tmps[t]?with
   |none=>simp [undef]
   |some v=>cases v<;>simp
theorem X7{P:Program}{ops:Array Oper}{o:Oper}{a:Act}{env:List (Nat×A2)}{v:A2}{R:A5->Prop}{w:A5}(h:∀x∈env,x.1<a.tmps.size)(G:bL P ops o a env v R w):Ml P ops o (putsE env a) v R w:=by
 intro K B;have:=G K B
 rw [fK ops o a env h,gu a env h];exact this
theorem Si{P:Program}{ops:Array Oper}{S:Nat->A5->Prop}{Q:Act->A5->Prop}{a:Act}:∀(l:List Oper) (fs:List Bool) (k:Nat) (env:List (Nat×A2)),(∀o∈l,∀d,o.dst=some d->d<a.tmps.size)->(∀x∈env,x.1<a.tmps.size)->Nr P ops S Q a k l fs env->
 ∃x:List (Oper×A2),x.map (·.1)=l/\
  (∀j o v,x[j]?=some (o,v)->(fs.getD j false=true->∀w,S (k+FH (fs.take j)) w->Ml P ops o (pre j x (putsE env a)) v (S (k+FH (fs.take j)+1)) w)/\
    (fs.getD j false=false->∀i w,S i w->Ml P ops o (pre j x (putsE env a)) v (S i) w))/\
  ∀w,S (k+FH (fs.take l.length)) w->Q (pre l.length x (putsE env a)) w
 |[],fs,k,env,_,_,h=>⟨[],rfl,fun j o v B=>by simp at B,by simpa [Nr,FH,pre]using h⟩
 |o::l,true::fs,k,env,hd,he,h=>by
  obtain ⟨v,X,h2⟩:=h;have I:∀x∈putE o.dst v env,x.1<a.tmps.size:=by
   intro x hx;unfold putE at hx;split at hx
   · rename_i d hdd
     rcases DS.1 hx with rfl|hx
     · exact hd o (Fo ..) d hdd
     · exact he x hx
   · exact he x hx
  have J:putsE (putE o.dst v env) a=(putsE env a).put o.dst v:=by unfold putE;split<;>(rename_i hdd;rw [hdd];rfl)
  obtain ⟨x,hx,O,K⟩:=Si l fs (k+1) _ (fun o' Z=>hd o' (GB _ Z)) I h2;rw [J]at O K;refine ⟨(o,v)::x,by simp [hx],fun j o' v' B=>?_,fun w G=>?_⟩
  · cases j with
    |zero=>
     simp only [cU,cE,lj]at B;obtain ⟨rfl,rfl⟩:=B;exact ⟨fun _ w G=>X7 he (X w (by simpa [FH]using G)),fun h=>by simp at h⟩
    |succ j=>
     obtain ⟨U,W⟩:=O j o' v' (by simpa using B);have e:k+FH ((true::fs).take (j+1))=k+1+FH (fs.take j):=by simp [FH];omega
     rw [e];exact ⟨fun h=>U (by simpa using h),fun h=>W (by simpa using h)⟩
  · have e:k+FH ((true::fs).take (o::l).length)=k+1+FH (fs.take l.length):=by simp [FH];omega
    rw [e]at G;exact K w G
 |o::l,false::fs,k,env,hd,he,h=>by
  obtain ⟨v,X,h2⟩:=h;have I:∀x∈putE o.dst v env,x.1<a.tmps.size:=by
   intro x hx;unfold putE at hx;split at hx
   · rename_i d hdd
     rcases DS.1 hx with rfl|hx
     · exact hd o (Fo ..) d hdd
     · exact he x hx
   · exact he x hx
  have J:putsE (putE o.dst v env) a=(putsE env a).put o.dst v:=by unfold putE;split<;>(rename_i hdd;rw [hdd];rfl)
  obtain ⟨x,hx,O,K⟩:=Si l fs k _ (fun o' Z=>hd o' (GB _ Z)) I h2;rw [J]at O K;refine ⟨(o,v)::x,by simp [hx],fun j o' v' B=>?_,fun w G=>?_⟩
  · cases j with
    |zero=>
     simp only [cU,cE,lj]at B;obtain ⟨rfl,rfl⟩:=B;exact ⟨fun h=>by simp at h,fun _ i w G=>X7 he (X i w G)⟩
    |succ j=>
     obtain ⟨U,W⟩:=O j o' v' (by simpa using B);have e:k+FH ((false::fs).take (j+1))=k+FH (fs.take j):=by simp [FH]
     rw [e];exact ⟨fun h=>U (by simpa using h),fun h=>W (by simpa using h)⟩
  · have e:k+FH ((false::fs).take (o::l).length)=k+FH (fs.take l.length):=by simp [FH]
    rw [e]at G;exact K w G
 |_::_,[],_,_,_,_,h=>(h:False).elim
theorem R7(n j:Nat)(p q:Nat->Bool)(I:j<n)(B:p j=false)(G:q j=true)(h:∀i,i<n->i≠j->p i=q i):(List.range n).countP q=(List.range n).countP p+1:=by
 induction n with
 |zero=>omega
 |succ n ih=>
  rw [i7,nd,nd];by_cases e:j=n
  · subst e
    have:(List.range j).countP q=(List.range j).countP p:=List.countP_congr fun i hi=>by
     have:=Mb.1 hi;rw [h i A0 A0]
    simp [this,B,G]
  · have:=ih A0 fun i hi hn=>h i A0 hn
    have e2:=h n A0 (en e);simp only [List.countP_singleton,e2];omega
theorem La(n:Nat)(p q:Nat->Bool)(h:∀i,i<n->p i=q i):(List.range n).countP q=(List.range n).countP p:=
 List.countP_congr fun i hi=>by rw [h i (Mb.1 hi)]
theorem Oj(fs:List Bool)(n:Nat)(hn:n<=fs.length):∀j,j<=n->(List.range n).countP (fun i=>decide (i<j)&&fs.getD i false)=FH (fs.take j)
 |0,_=>by simp [FH]
 |j+1,hj=>by
  have G:=Oj fs n hn j A0;have J:fs.take (j+1)=fs.take j++[fs[j]]:=by rw [rK A0]
  have B:fs.getD j false=fs[j]:=by simp [BT (show j<fs.length by omega)]
  rw [J];cases hb:fs[j]with
  |true=>
   rw [R7 n j (fun i=>decide (i<j)&&fs.getD i false) _ A0 B7 (by simp only [B,hb];simp) (fun i _ I=>by
    have:decide (i<j)=decide (i<j+1):=by apply decide_eq_decide.2;omega
    simp only [this]),G]
   simp [FH]
  |false=>
   rw [La n (fun i=>decide (i<j)&&fs.getD i false) _ (fun i _=>by
    by_cases e:i=j
    · subst e;simp only [B,hb];simp
    · have:decide (i<j)=decide (i<j+1):=by apply decide_eq_decide.2;omega
      simp only [this]),G]
   simp [FH]
structure J4(ops:Array Oper)(fl:List Bool)(N:Nat):Prop where
 len:fl.length=ops.size
 edge:∀j oj e,ops[j]?=some oj->e∈oj.after->Region.binds .any e=true->e.on<j
 anc:∀j oj i,ops[j]?=some oj->i<j->((Region.before ops).getD j 0).testBit i=true->∃e∈oj.after,Region.binds .any e=true/\(e.on=i\/(i<e.on/\((Region.before ops).getD e.on 0).testBit i=true))
 apart:∀i j oi oj,ops[i]?=some oi->ops[j]?=some oj->i<j->oi.apart ops oj=true\/((Region.before ops).getD j 0).testBit i=true
 flags:∀i j oj,ops[j]?=some oj->i<j->fl.getD i false=true->fl.getD j false=true->((Region.before ops).getD j 0).testBit i=true
 sel:∀(j:Nat) (oj:Oper) (cs:Array SelectCase) (b:Bool),ops[j]?=some oj->oj.op≠ .select cs b
 room:∀(j:Nat) (oj:Oper) (d:Nat),ops[j]?=some oj->oj.dst=some d->d<N
theorem jI{ops:Array Oper}{fl:List Bool}{N:Nat}(h:UN ops fl N=true):J4 ops fl N:=by
 simp only [UN,Ge,HA,Pr,Mb]at h;obtain ⟨h0,h⟩:=h;have G:∀{j:Nat} {o:Oper},ops[j]?=some o->j<ops.size:=fun B=>(Iv.1 B).1
 refine ⟨h0,fun j oj e B U O=>?_,fun j oj i B hi O=>?_,fun i j K oj hi B I=>?_,fun i j oj B I W h2=>?_,fun j oj cs b B hs=>?_,fun j oj d B X=>?_⟩
 · have:=h j (G B)
   simp only [B,Ge,Pr]at this;have:=this.1.1.1 e (by simpa using U)
   simpa [O]using this
 · have:=h j (G B)
   simp only [B,Ge,Pr,Mb]at this;have:=this.1.1.2 i hi
   obtain ⟨K,J⟩:∃K,ops[i]?=some K:=⟨_,IF (by have:=G B;omega)⟩;simp only [J,Ge]at this;have:=this.1.1
   rw [O]at this;simp only [US,oS,lE,Ge,UP,beq_iff_eq,HA]at this;obtain ⟨e,U,O,Z⟩:=this;exact ⟨e,by simpa using U,O,Z⟩
 · have:=h j (G B)
   simp only [B,Ge,Pr,Mb]at this;have:=this.1.1.2 i I
   simp only [hi,Ge,UP]at this;exact this.1.2
 · have:=h j (G B)
   simp only [B,Ge,Pr,Mb]at this;have:=this.1.1.2 i I
   obtain ⟨K,J⟩:∃K,ops[i]?=some K:=⟨_,IF (by have:=G B;omega)⟩;simp only [J,Ge]at this;have:=this.2
   rw [W,h2]at this;simpa using this
 · have:=h j (G B)
   simp only [B,Ge]at this;rw [hs]at this;simp at this
 · have:=h j (G B)
   simp only [B,Ge]at this;rw [X]at this;simpa using this.2
def kW(ops:Array Oper)(L:Array Bool):Prop:=∀j oj,ops[j]?=some oj->L.getD j false=true->∀e∈oj.after,Region.binds .any e=true->L.getD e.on false=true
theorem GA{ops:Array Oper}{fl:List Bool}{N:Nat}(F:J4 ops fl N){L:Array Bool}(hL:kW ops L):∀(j i:Nat) (oj:Oper),ops[j]?=some oj->i<j->((Region.before ops).getD j 0).testBit i=true->
 (∀e∈oj.after,Region.binds .any e=true->L.getD e.on false=true)->L.getD i false=true:=by
 intro j;induction j using Nat.strongRecOn with
 |ind j ih=>
  intro i oj W hi hb Z;obtain ⟨e,O,B,G⟩:=F.anc j oj i W hi hb;rcases G with rfl|⟨hie,G⟩
  · exact Z e O B
  · have X:=F.edge j oj e W O B
    obtain ⟨J,I⟩:∃J,ops[e.on]?=some J:=⟨_,IF (by have:=(Iv.1 W).1;omega)⟩;exact ih e.on X i J I hie G (fun e' U K=>hL e.on J I (Z e O B) e' U K)
theorem LX{ops:Array Oper}{o:Oper}{a b:Act}(h:∀t∈o.looksAt ops,a.tmps[t]?=b.tmps[t]?):∀x∈o.op.operands,a.eval x=b.eval x:=by
 intro x hx;cases x with
 |tmp t=>
  have B:t∈o.looksAt ops:=G1 _ (cV.2 ⟨.tmp t,by simpa using hx,rfl⟩);have:=h t B
  simp only [Act.eval,Nd,this]
 |_=>rfl
theorem Gz{ops:Array Oper}{o:Oper}{a b:Act}(h:∀t∈o.looksAt ops,a.tmps[t]?=b.tmps[t]?):Region.wanted o (yielded ops a.tmps)=Region.wanted o (yielded ops b.tmps):=by
 unfold Region.wanted;cases hg:o.guard with
 |none=>rfl
 |some gw=>
  obtain ⟨g,B⟩:=gw;have hy:yielded ops a.tmps g=yielded ops b.tmps g:=by
   unfold yielded;cases ht:(ops[g]?).bind (·.dst)with
   |none=>rfl
   |some t=>
    have:=h t (by simp [Oper.looksAt,hg,ht]);simp [this]
  simp only [hy]
theorem bK{P:Program}{ops:Array Oper}{i:Nat}{o:Oper}{a b:Act}{v:A2}{R:A5->Prop}{w:A5}{Q:Exit->Act->A5->Prop}{K:Act->A5->Prop}
 (hi:ops[i]?=some o)(I:∀cs b,o.op≠ .select cs b)(U:∀t∈o.looksAt ops,a.tmps[t]?=b.tmps[t]?)
 (h:Ml P ops o b v R w)(J:∀G,R G->K (a.put o.dst v) G):wpOp P ops Q i K a w:=by
 have B:=h (fun u G=>u=v/\R G) (fun G O=>⟨rfl,O⟩);unfold wpOp;simp only [hi];rw [Gz U];by_cases O:Region.wanted o (yielded ops b.tmps)=true
 · rw [Ax O]at B⊢
   refine .inl ?_;unfold Oper.wp;rw [execOp_congr o I (LX U)];generalize (execOp b.eval o).run P w=r at*;cases r with
   |ok n G=>
    cases n<;>simp only [Oper.upon,linUpon]at B⊢
    case value u=>rw [B.1];exact J _ B.2
    case skip=>rw [B.1];exact J _ B.2
    case enter f args=>
     refine Calls.mono B fun e af X=>?_;obtain ⟨u,rfl,Z,W⟩:=X;simp only;rw [Z];exact J _ W
   |halt x G=>simp only [linUpon]at B
 · rw [As O]at B⊢
   rw [B.1];exact J _ B.2
section
variable{P:Program}{ops:Array Oper}{fl:List Bool}{N:Nat}{S:Nat->A5->Prop}{Q:Exit->Act->A5->Prop}{x:List (Oper×A2)}{a0:Act}
structure KF(ops:Array Oper)(fl:List Bool)(S:Nat->A5->Prop)(x:List (Oper×A2))(a0:Act)(L:Array Bool)(a:Act)(w:A5):Prop where
 size:L.size=ops.size
 shut:kW ops L
 act:a=Kh (fun i=>L.getD i false) 0 x a0
 stage:S ((List.range ops.size).countP fun i=>L.getD i false&&fl.getD i false) w
theorem A69(F:J4 ops fl N)(hx:x.map (·.1)=ops.toList)
 (hs:∀j o v,x[j]?=some (o,v)->(fl.getD j false=true->∀w,S (FH (fl.take j)) w->Ml P ops o (pre j x a0) v (S (FH (fl.take j)+1)) w)/\
   (fl.getD j false=false->∀i w,S i w->Ml P ops o (pre j x a0) v (S i) w))
 {L:Array Bool}{a:Act}{w:A5}(H:KF ops fl S x a0 L a w){j:Nat}(hj:j∈Region.ready .any ops L){K:Act->A5->Prop}
 (hK:∀a' w',KF ops fl S x a0 (L.setIfInBounds j true) a' w'->K a' w'):wpOp P ops Q j K a w:=by
 obtain ⟨ic,oj,B,d9⟩:=mem_ready.1 hj;have X:j<ops.size:=(Iv.1 B).1
 have pg:x.length=ops.size:=by have:=congrArg List.length hx;simpa using this
 have j3:∀k,k<ops.size->∃o v,x[k]?=some (o,v)/\ops[k]?=some o:=fun k hk=>by
  obtain ⟨y,hy⟩:∃y,x[k]?=some y:=⟨_,BT A0⟩;refine ⟨y.1,y.2,hy,?_⟩;have:(x.map (·.1))[k]?=some y.1:=by simp [hy]
  rw [hx]at this;simpa using this
 have l5:∀(k:Nat) (y:Oper×A2),x[k]?=some y->ops[k]?=some y.1:=fun k y hy=>by
  have:(x.map (·.1))[k]?=some y.1:=by simp [hy]
  rw [hx]at this;simpa using this
 obtain ⟨o',v,cO,kv⟩:=j3 j X;obtain rfl:oj=o':=by rw [B]at kv;exact SP kv
 have U:L.getD j false=false:=by
  rw [Nd]at ic⊢;rw [IF (by rw [H.size];exact X)]at ic⊢;simpa using ic
 have I:∀i,i<j->((Region.before ops).getD j 0).testBit i=true->L.getD i false=true:=fun i hi hb=>GA F H.shut j i oj B hi hb d9;have J:∀i oi,ops[i]?=some oi->j<i->((Region.before ops).getD i 0).testBit j=true->L.getD i false=false:=fun i oi af p8 hb=>by
  cases h:L.getD i false with
  |false=>rfl
  |true=>
   have:=GA F H.shut i j oi af p8 hb (fun e he o9=>H.shut i oi af h e he o9);rw [U]at this;cases this
 have o8:∀(t:Nat),(t∈oj.looksAt ops\/oj.dst=some t)->∀(k:Nat) (y:Oper×A2),x[k]?=some y->y.1.dst=some t->k≠j->L.getD k false=decide (k<j):=by
  intro t O k y hy W hk;have gQ:=l5 k y hy
  rcases Fi k j with hlt|hge
  · rw [DE hlt]
    refine I k hlt ((F.apart k j y.1 oj gQ B hlt).resolve_left fun gq=>?_);obtain ⟨h1,h2,h3⟩:=Oper.apart_spec gq;rcases O with O|O
    · exact h1 t W O
    · exact h2 t W O
  · have j5:j<k:=by omega
    rw [DQ A0];refine J k y.1 gQ j5 ((F.apart j k oj y.1 B gQ j5).resolve_left fun gq=>?_);obtain ⟨h1,h2,h3⟩:=Oper.apart_spec gq;rcases O with O|O
    · exact h3 t W O
    · exact h2 t O W
 have bn:a.tmps.size=a0.tmps.size:=by rw [H.act,D9]
 have l9:(pre j x a0).tmps.size=a0.tmps.size:=by rw [<-SQ j 0 x a0,D9]
 have Z:∀t∈oj.looksAt ops,a.tmps[t]?=(pre j x a0).tmps[t]?:=by
  intro t O;by_cases cu:t<a0.tmps.size
  · rw [H.act,<-SQ j 0 x a0,EG _ _ _ _ _ cu,EG _ _ _ _ _ cu]
    refine F9 _ _ t 0 x _ fun k y hy W=>?_;simp only [Dd];by_cases e:k=j;· subst e;rw [U];simp
    · exact o8 t (.inl O) k y hy W e
  · rw [LN (by rw [bn];exact gi cu),LN (by rw [l9];exact gi cu)]
 have G:∀i,(L.setIfInBounds j true).getD i false=if i=j then true else L.getD i false:=fun i=>by
  by_cases e:i=j
  · subst e;simp [H.size,X]
  · rw [getD_set_ne false (en e),As e]
 have gm:∀w',(∀k,k=((List.range ops.size).countP fun i=>(L.setIfInBounds j true).getD i false&&fl.getD i false)->S k w')->KF ops fl S x a0 (L.setIfInBounds j true) (a.put oj.dst v) w':=by
  intro w' ax;refine ⟨by simp [H.size],fun k ok hk hl e he hb=>?_,?_,ax _ V⟩
  · rw [G]at hl
    rw [G];by_cases e1:k=j
    · subst e1
      rw [B]at hk;obtain rfl:=SP hk;rw [d9 e he hb];simp
    · rw [As e1]at hl
      rw [H.shut k ok hk hl e he hb];simp
  · refine JJ ?_ ?_ fun t O=>?_
    · rw [EK,D9,bn]
    · rw [Ju,FO,H.act,FO]
    · rw [EK,bn]at O
      rw [JE _ _ _ _ (by rw [bn];exact O),EG _ _ _ _ _ O];by_cases W:oj.dst=some t
      · rw [Ax W]
        refine (lC _ t 0 j x _ (oj,v) cO W (by simp [H.size,X]) fun k y hk hy gy=>?_).symm;simp only [Dd];rw [G,As A0,o8 t (.inr W) k y hy gy A0];simp;omega
      · rw [As W,H.act,EG _ _ _ _ _ O]
        refine F9 _ _ t 0 x _ fun k y hy gy=>?_;simp only [Dd];rw [G];by_cases e:k=j
        · subst e
          rw [cO]at hy;obtain rfl:=SP hy;exact absurd gy W
        · rw [As e]
 cases hf:fl.getD j false with
 |false=>
  refine bK B (F.sel j oj · · B) Z ((hs j oj v cO).2 hf _ w H.stage) fun w' ax=>hK _ _ (gm w' fun k hk=>?_);rw [hk,La ops.size (fun i=>L.getD i false&&fl.getD i false) _ fun i _=>by
   rw [G];by_cases e:i=j;· subst e;simp only [hf];simp
   · rw [As e]]
  exact ax
 |true=>
  have ek:((List.range ops.size).countP fun i=>L.getD i false&&fl.getD i false)=FH (fl.take j):=by
   rw [<-Oj fl ops.size (by rw [F.len];exact D0 _) j A0];refine La _ _ _ fun i hi=>?_;cases hfi:fl.getD i false with
   |false=>simp
   |true=>
    simp only [ij];rcases Nat.lt_trichotomy i j with h|h|h
    · rw [I i h (F.flags i j oj B h hfi hf)];simp [h]
    · subst h;rw [U];simp
    · obtain ⟨oi,af⟩:∃oi,ops[i]?=some oi:=⟨_,IF hi⟩
      rw [J i oi af h (F.flags j i oi af h hf hfi)];simp;omega
  have l8:=H.stage;rw [ek]at l8;refine bK B (F.sel j oj · · B) Z ((hs j oj v cO).1 hf w l8) fun w' ax=>hK _ _ (gm w' fun k hk=>?_);rw [hk,R7 ops.size j (fun i=>L.getD i false&&fl.getD i false) _ X (by simp only [U];rfl) (by simp only [G,hf];simp) (fun i _ p9=>by rw [G,As p9]),ek];exact ax
theorem YM(F:J4 ops fl N)(hx:x.map (·.1)=ops.toList)
 (hs:∀j o v,x[j]?=some (o,v)->(fl.getD j false=true->∀w,S (FH (fl.take j)) w->Ml P ops o (pre j x a0) v (S (FH (fl.take j)+1)) w)/\
   (fl.getD j false=false->∀i w,S i w->Ml P ops o (pre j x a0) v (S i) w))
 (hq:∀w,S (FH (fl.take ops.size)) w->Q .normal (pre ops.size x a0) w):
 ∀(B:Nat) (L:Array Bool) (a:Act) (w:A5),((List.range ops.size).countP fun i=>!L.getD i false)<=B->KF ops fl S x a0 L a w->wpAny P .any ops Q B L a w:=by
 have U:∀(L:Array Bool) (a:Act) (w:A5),KF ops fl S x a0 L a w->Region.ready .any ops L=[]->Q .normal a w:=by
  intro L a w H W;have O:∀j,j<ops.size->L.getD j false=true:=by
   intro j;induction j using Nat.strongRecOn with
   |ind j ih=>
    intro X;cases hl:L.getD j false with
    |true=>rfl
    |false=>
     obtain ⟨oj,J⟩:∃oj,ops[j]?=some oj:=⟨_,IF X⟩;have:j∈Region.ready .any ops L:=mem_ready.2 ⟨by
      rw [Nd,IF (by rw [H.size];exact X)]at hl⊢;simpa using hl,oj,J,fun e he hb=>by
       have:=F.edge j oj e J he hb;exact ih e.on this A0⟩
     rw [W]at this;cases this
  have bn:x.length=ops.size:=by have:=congrArg List.length hx;simpa using this
  have ha:a=pre ops.size x a0:=by
   rw [H.act,<-SQ ops.size 0 x a0];have Z:∀(t:Nat) (k:Nat) (y:Oper×A2),x[k]?=some y->y.1.dst=some t->(fun i=>L.getD i false) (0+k)=(fun k=>decide (k<0+ops.size)) (0+k):=fun t k y hy _=>by
    have:k<x.length:=(C7.1 hy).1;simp only [Dd];rw [O k A0];simp;omega
   refine JJ (by rw [D9,D9]) (by rw [FO,FO]) fun t ht=>?_;rw [D9]at ht;rw [EG _ _ _ _ _ ht,EG _ _ _ _ _ ht];exact F9 _ _ t 0 x _ (Z t)
  rw [ha];refine hq w ?_;have ax:=H.stage
  rw [<-Oj fl ops.size (by rw [F.len];exact D0 _) ops.size (D0 _)];rw [La ops.size (fun i=>L.getD i false&&fl.getD i false) _ fun i hi=>by rw [O i hi];simp [hi]];exact ax
 intro B;induction B with
 |zero=>
  intro L a w hc H;have W:Region.ready .any ops L=[]:=by
   cases W:Region.ready .any ops L with
   |nil=>rfl
   |cons j js=>
    have X:j∈Region.ready .any ops L:=by rw [W];exact Fo ..
    obtain ⟨G,oj,J,_⟩:=mem_ready.1 X;have I:j<ops.size:=(Iv.1 J).1
    have K:L.getD j false=false:=by
     rw [Nd]at G⊢;rw [IF (by rw [H.size];exact I)]at G⊢;simpa using G
    have:0<(List.range ops.size).countP fun i=>!L.getD i false:=List.countP_pos_iff.2 ⟨j,Mb.2 I,by rw [K];rfl⟩;omega
  exact ⟨W,U L a w H W⟩
 |succ B ih=>
  intro L a w hc H;refine ⟨fun W=>U L a w H W,fun j X=>A69 F hx hs H X fun a' w' H'=>ih _ a' w' ?_ H'⟩;obtain ⟨G,oj,J,_⟩:=mem_ready.1 X;have I:j<ops.size:=(Iv.1 J).1
  have K:L.getD j false=false:=by
   rw [Nd]at G⊢;rw [IF (by rw [H.size];exact I)]at G⊢;simpa using G
  have:=R7 ops.size j (fun i=>!(L.setIfInBounds j true).getD i false) (fun i=>!L.getD i false) I (by simp [H.size,I]) (by rw [K];rfl) (fun i _ af=>by rw [getD_set_ne false (en af)]);omega
end
theorem wpLin_keep{P:Program}{ops:Array Oper}{S:Nat->A5->Prop}{Q:Act->A5->Prop}{a:Act}{k:Nat}{o:Oper}{l:List Oper}{fs:List Bool}{env:List (Nat×A2)}{v:A2}(h:∀j w,S j w->bL P ops o a env v (S j) w)(h2:Nr P ops S Q a k l fs (putE o.dst v env)):Nr P ops S Q a k (o::l) (false::fs) env:=⟨v,h,h2⟩
theorem wpLin_move{P:Program}{ops:Array Oper}{S:Nat->A5->Prop}{Q:Act->A5->Prop}{a:Act}{k:Nat}{o:Oper}{l:List Oper}{fs:List Bool}{env:List (Nat×A2)}{v:A2}(h:∀w,S k w->bL P ops o a env v (S (k+1)) w)(h2:Nr P ops S Q a (k+1) l fs (putE o.dst v env)):Nr P ops S Q a k (o::l) (true::fs) env:=⟨v,h,h2⟩
theorem wpLin_done{P:Program}{ops:Array Oper}{S:Nat->A5->Prop}{Q:Act->A5->Prop}{a:Act}{k:Nat}{env:List (Nat×A2)}{fs:List Bool}(h:∀w,S k w->Q (putsE env a) w):Nr P ops S Q a k [] fs env:=h
theorem wp_region_lin{P:Program}{id:Nat}{ops:Array Oper}{Q:Exit->Act->A5->Prop}{a:Act}{w:A5}(fl:List Bool)(S:Nat->A5->Prop)(N:Nat)(O:a.tmps.size=N)
 (X:P.follows .mixedOrders=true)(G:UN ops fl N=true)(U:S 0 w.drew)(h:∀I,I=a->Nr P ops S (fun a w=>Q .normal a w) I 0 ops.toList fl []):(Code.region id ops true).wp P Q a w:=by
 have F:=jI G;obtain ⟨x,hx,hs,hq⟩:=Si _ _ _ _ (fun o Z d W=>by
  obtain ⟨j,B⟩:=List.mem_iff_getElem?.1 Z;rw [O];exact F.room j o d (by simpa using B) W) (fun x hx=>by cases hx) (h a V)
 refine wp_region_any X (YM (S:=S) (a0:=a) F hx (fun j o v B=>?_) ?_ _ _ _ _ ?_ ?_)
 · have:=hs j o v B
   simpa [putsE]using this
 · simpa [putsE]using hq
 · refine SZ List.countP_le_length ?_
   simp
 · refine ⟨by simp,fun j oj B J=>?_,?_,?_⟩
   · simp [kj]at J
     split at J<;>simp_all
   · have:=SQ 0 0 x a
     refine JJ (by rw [D9]) (by rw [FO]) fun t K=>?_;rw [EG _ _ _ _ _ K];rw [F9 _ (fun k=>decide (k<0+0)) t 0 x _ fun k y _ _=>by simp [kj];split<;>rfl];rw [<-EG _ _ _ _ _ K,this];rfl
   · have:((List.range ops.size).countP fun i=>(Array.replicate ops.size false).getD i false&&fl.getD i false)=0:=by
      rw [List.countP_eq_zero];intro i _;simp [kj];split<;>simp
     rw [this];exact U
end Gl
namespace Gw
open Go Go.RowKit Go.Sort
theorem dN{α:Type}(f:α->List A2)(k:Nat)(B:∀x,(f x).length=k):∀(l:List α) (i r:Nat) (a:α),l[i]?=some a->r<k->(l.flatMap f)[i*k+r]?=(f a)[r]?
 |[],i,r,a,h,_=>by simp at h
 |x::l,0,r,a,h,hr=>by
  simp only [cU,cE]at h;subst h;rw [Hv,dt,Dd,dj (by rw [B];exact hr)]
 |x::l,i+1,r,a,h,hr=>by
  simp only [dp]at h;rw [Hv,TO (by rw [B,Mp];omega),B,show(i+1)*k+r -k=i*k+r by rw [Mp];omega];exact dN f k B l i r a h hr
theorem dM{α:Type}(f:α->List A2)(k:Nat)(B:∀x,(f x).length=k):∀(l:List α),(l.flatMap f).length=l.length*k
 |[]=>by simp
 |x::l=>by rw [Hv,C0,dM f k B l,B,F2,Mp];omega
theorem Od{α:Type} [Inhabited α](f:α->List A2)(k:Nat)(B:∀x,(f x).length=k)(l:List α):(flatK f k l.toArray).toList=l.flatMap f:=by
 apply P2;intro t;by_cases G:t<l.length*k
 · have K:0<k:=by
    rcases Rg k with h|h
    · subst h;simp at G
    · exact h
   have I:t/k<l.length:=sE (by rwa [oX]at G);have h2:t%k<k:=ir _ K
   have e:=dN f k B l (t/k) (t%k) l[t/k] (BT I) h2;rw [Nat.div_add_mod' t k]at e;rw [e];have J:t%k<(f l[t/k]).length:=by rw [B];exact h2
   unfold flatK;rw [Hx];simp [G,I,J]
 · rw [Of Kd,Of (by rw [dM f k B];omega)]
theorem Ua{α:Type} [Inhabited α]{w:A5}{g:Nat}{cur:AN}{e:AM}{z:Nat×Nat}(f:α->List A2)(k:Nat)(O:∀x,(f x).length=k)(l:List α)(K:w.heap[g]?=some (.cells cur e z))(U:l.length*k<=cur.size)(B:Iq z cur.size)(W:cur.toList.take (l.length*k)=l.flatMap f):HoldsK f k w g 0 l.toArray:=by
 intro j G;have I:j<l.length*k:=by simpa using G
 have X:=B j A0;have h0:=Od f k O l
 have J:(cur.toList.take (l.length*k))[j]?=(flatK f k l.toArray).toList[j]?:=by rw [W,h0]
 rw [n4 I,Hx,Hx]at J;refine ⟨?_,?_⟩
 · simp only [World.cell?,K,Dd]
   simp only [sY,P0,I0];rw [J,IF G,getElem!_pos _ j G];rfl
 · simp only [World.frozen?,K,Dd]
   simp;omega
theorem WV(cur F:AN)(h:F.size<=cur.size):(putCells id 0 F cur).toList.take F.size=F.toList:=by
 apply P2;intro j;rw [HR];by_cases B:j<F.size
 · rw [Ax B,Hx]
   unfold putCells;rw [rr,IF A0];simp [B]
 · rw [As B,Of Kd]
theorem NM(cur F:AN):(putCells id 0 F cur).size=cur.size:=by simp [putCells]
theorem Sat.sortedK{α:Type} [Inhabited α]{u w:A5}{g n k:Nat}{cur:AN}{e:AM}{z:Nat×Nat}{R:Hp}(f:α->List A2)(d:Array α)(os:Array Obj)(h:Sat u ([(g,.cells cur e z)]::R) w):Sat u ([(g,.cells (putCells id 0 (flatK f k d) cur) e z)]::R) (Go.Proofs.sortWorldK f k w g 0 n d os):=by
 have I:=h.get (g,.cells cur e z) B7;have G:Sat u ([(g,.cells (putCells id 0 (flatK f k d) cur) e z)]::R) (putRowK f k (Sort.ahead w n) g 0 d):=by
  refine h.upd (.here _) V rfl V ?_ fun k B=>?_;· simp [putRowK,putRow,mapBlock,Sort.ahead,W0,I,onCells]
  · have:g≠k:=fun e=>B e.symm
    simp [putRowK,putRow,mapBlock,Sort.ahead,W0,this]
 exact G.below ⟨V,V,V,by simp [Go.Proofs.sortWorldK,grow],fun k B=>heap_grow_old _ _ B⟩
theorem QW{α:Type} [Inhabited α](f:α->List A2)(k:Nat)(w:A5)(g n b:Nat)(d:Array α)(os:Array Obj)(B:g≠b)(I:b<w.heap.size):(Go.Proofs.sortWorldK f k w g 0 n d os).heap[b]?=w.heap[b]?:=by
 have G:(putRowK f k (Sort.ahead w n) g 0 d).heap[b]?=w.heap[b]?:=by
  simp [putRowK,putRow,mapBlock,Sort.ahead,W0,B]
 unfold Go.Proofs.sortWorldK;rw [<-G];refine heap_grow_old _ _ ?_;simpa [putRowK,putRow,mapBlock,Sort.ahead]using I
end Gw
namespace Gw
open Go Go.RowKit
section
variable{P:Program}{u:A5}{env:Env}{H R:Hp}{d:Option Nat}{ty:AM}{pos:String}{af:Array Edge}{g:Option (Nat×Bool)}
def V9(t1 t2 k1 k2:Int)(x y:V3):Prop:=t1=t2/\k1=k2/\x=y
instance(t1 t2 k1 k2:Int)(x y:V3):Decidable (V9 t1 t2 k1 k2 x y):=inferInstanceAs(Decidable (_/\_/\_))
theorem y6{t e ta:AM}{f0 f1 f2:Field}(w:A5)(n:Nat)(t1 t2 k1 k2:Int)(x y:V3)(hu:P.underlying t=some (.struct #[f0,f1,f2]))(hst:P.stoodInHeld t=false)
 (h0:f0.name≠ "_"∧f0.type=e∧f0.offset=0)(h1:f1.name≠ "_"∧f1.type=e∧f1.offset=1)(h2:f2.name≠ "_"∧f2.type=ta∧f2.offset=2)
 (he:P.underlying e=some (.int .i64))(hta:P.underlying ta=some (.array 3 e))(ha:∀w:A5,(isAgg e).run P w= .ok false w)(hs:∀w:A5,(Go.sizeOf e).run P w= .ok 1 w)
 (haa:∀w:A5,(isAgg ta).run P w= .ok true w)(hsa:∀w:A5,(Go.sizeOf ta).run P w= .ok 3 w):
 (Op.equalIn (n+3) t (.agg #[I4 t1,I4 k1,I4 x.a,I4 x.b,I4 x.c]) (.agg #[I4 t2,I4 k2,I4 y.a,I4 y.b,I4 y.c])).run P w= .ok (decide (V9 t1 t2 k1 k2 x y)) w:=by
 obtain ⟨n0,e0,o0⟩:=h0;obtain ⟨n1,e1,o1⟩:=h1;obtain ⟨n2,e2,o2⟩:=h2;have ei:∀(m k:Int) (w:A5),(Op.equalIn (n+2) e (I4 m) (I4 k)).run P w= .ok (decide (m=k)) w:=fun m k w=>Q7 (n+1) w he m k
 have ea:∀(w:A5),(Op.equalIn (n+2) ta (.agg #[I4 x.a,I4 x.b,I4 x.c]) (.agg #[I4 y.a,I4 y.b,I4 y.c])).run P w= .ok (decide (x=y)) w:=fun w=>SX w n x y hta he ha hs;have p0:∀(v0 v1 v2 v3 v4:A2) (w:A5),(part e #[v0,v1,v2,v3,v4] 0).run P w= .ok v0 w:=fun _ _ _ _ _ w=>FC w (ha w) _ _ rfl
 have p1:∀(v0 v1 v2 v3 v4:A2) (w:A5),(part e #[v0,v1,v2,v3,v4] 1).run P w= .ok v1 w:=fun _ _ _ _ _ w=>FC w (ha w) _ _ rfl;have p2:∀(v0 v1 v2 v3 v4:A2) (w:A5),(part ta #[v0,v1,v2,v3,v4] 2).run P w= .ok (.agg #[v2,v3,v4]) w:=fun _ _ _ _ _ w=>by simp [part,haa,hsa]
 rw [show n+3=(n+2)+1 from rfl,Op.equalIn];generalize n+2=m at*;simp only [Sem.run_bind,run_underlying hu,Result.andThen_ok,run_program,hst,P0,I0];rw [<-sy];simp only [lP,oB,n0,n1,n2,e0,e1,e2,o0,o1,o2,ne_eq,me,KK];simp only [Sem.run_bind,p0,p1,p2,ei,ea,Result.andThen_ok];have hd:decide (V9 t1 t2 k1 k2 x y)=(decide (t1=t2)&&(decide (k1=k2)&&decide (x=y))):=by
  by_cases h:V9 t1 t2 k1 k2 x y
  · rw [DE h,DE h.1,DE h.2.1,DE h.2.2];rfl
  · rw [DQ h]
    by_cases c1:t1=t2<;>by_cases c2:k1=k2<;>by_cases c3:x=y<;>simp [c1,c2,c3]
    exact h ⟨c1,c2,c3⟩
 rw [hd];generalize decide (x=y)=b3 at*;by_cases c1:t1=t2<;>by_cases c2:k1=k2<;>cases b3<;>simp [c1,c2,p0,p1,p2,ei,ea,n1,n2]
section
variable{t yt e ta:AM}{f0 f1 f2:Field}{x y:Operand}{t1 t2 k1 k2:Int}{p q:V3}
theorem oW(hg:P.eqGuardType P.depth t=false)(hu:P.underlying t=some (.struct #[f0,f1,f2]))(hst:P.stoodInHeld t=false)
 (h0:f0.name≠ "_"∧f0.type=e∧f0.offset=0)(h1:f1.name≠ "_"∧f1.type=e∧f1.offset=1)(h2:f2.name≠ "_"∧f2.type=ta∧f2.offset=2)
 (he:P.underlying e=some (.int .i64))(hta:P.underlying ta=some (.array 3 e))(ha:∀w:A5,(isAgg e).run P w= .ok false w)(hs:∀w:A5,(Go.sizeOf e).run P w= .ok 1 w)
 (haa:∀w:A5,(isAgg ta).run P w= .ok true w)(hsa:∀w:A5,(Go.sizeOf ta).run P w= .ok 3 w)
 (hx:∀a,ev a env x= .agg #[I4 t1,I4 k1,I4 p.a,I4 p.b,I4 p.c])(hy:∀a,ev a env y= .agg #[I4 t2,I4 k2,I4 q.a,I4 q.b,I4 q.c]):OpP P ⟨d,.binOp .neq t x y yt,ty,pos,af,g⟩ env [] (.bool (decide (¬V9 t1 t2 k1 k2 p q))):=fun a w _=>by
 simp [Ch,hx a,hy a,go_sem,run_eqGuard_agg w _ t _ _ _ _ hg,N8,Op.equal,Op.maxDepth,y6 w 9997 t1 t2 k1 k2 p q hu hst h0 h1 h2 he hta ha hs haa hsa]
end
theorem wb{t e:AM}(w:A5)(n:Nat)(x0 x1 x2 x3 x4 x5 y0 y1 y2 y3 y4 y5:Int)(hu:P.underlying t=some (.array 6 e))(he:P.underlying e=some (.int .i64))(ha:∀w:A5,(isAgg e).run P w= .ok false w)(hs:∀w:A5,(Go.sizeOf e).run P w= .ok 1 w):
 (Op.equalIn (n+2) t (.agg #[I4 x0,I4 x1,I4 x2,I4 x3,I4 x4,I4 x5]) (.agg #[I4 y0,I4 y1,I4 y2,I4 y3,I4 y4,I4 y5])).run P w= .ok (decide (x0=y0/\x1=y1/\x2=y2/\x3=y3/\x4=y4/\x5=y5)) w:=by
 have B:∀(m k:Int) (w:A5),(Op.equalIn (n+1) e (I4 m) (I4 k)).run P w= .ok (decide (m=k)) w:=fun m k w=>Q7 n w he m k;have W:∀(vs:AN) (j:Nat) (v:A2) (w:A5),vs[j]?=some v->(part e vs j).run P w= .ok v w:=fun vs j v w h=>FC w (ha w) _ _ h
 have G:∀(v0 v1 v2 v3 v4 v5:A2) (w:A5),(part e #[v0,v1,v2,v3,v4,v5] 0).run P w= .ok v0 w:=fun _ _ _ _ _ _ w=>W _ _ _ w rfl;have I:∀(v0 v1 v2 v3 v4 v5:A2) (w:A5),(part e #[v0,v1,v2,v3,v4,v5] 1).run P w= .ok v1 w:=fun _ _ _ _ _ _ w=>W _ _ _ w rfl
 have J:∀(v0 v1 v2 v3 v4 v5:A2) (w:A5),(part e #[v0,v1,v2,v3,v4,v5] 2).run P w= .ok v2 w:=fun _ _ _ _ _ _ w=>W _ _ _ w rfl;have K:∀(v0 v1 v2 v3 v4 v5:A2) (w:A5),(part e #[v0,v1,v2,v3,v4,v5] 3).run P w= .ok v3 w:=fun _ _ _ _ _ _ w=>W _ _ _ w rfl
 have O:∀(v0 v1 v2 v3 v4 v5:A2) (w:A5),(part e #[v0,v1,v2,v3,v4,v5] 4).run P w= .ok v4 w:=fun _ _ _ _ _ _ w=>W _ _ _ w rfl;have U:∀(v0 v1 v2 v3 v4 v5:A2) (w:A5),(part e #[v0,v1,v2,v3,v4,v5] 5).run P w= .ok v5 w:=fun _ _ _ _ _ _ w=>W _ _ _ w rfl
 rw [show n+2=(n+1)+1 from rfl,Op.equalIn];generalize n+1=m at*;simp only [Sem.run_bind,run_underlying hu,Result.andThen_ok,hs];simp only [ug,Std.Legacy.Range.size,Sf,S8,Nat.div_one,nq,List.range'_zero,lP,oB];simp only [Sem.run_bind,G,I,J,K,O,U,B,Result.andThen_ok,Dd,O2,oc,dt];by_cases h0:x0=y0
 · by_cases X:x1=y1
   · by_cases h2:x2=y2
     · by_cases Z:x3=y3
       · by_cases h4:x4=y4
         · by_cases h5:x5=y5<;>simp [h0,X,h2,Z,h4,h5,G,I,J,K,O,U,B]
         · simp [h0,X,h2,Z,h4,G,I,J,K,O,U,B]
       · simp [h0,X,h2,Z,G,I,J,K,O,U,B]
     · simp [h0,X,h2,G,I,J,K,O,U,B]
   · simp [h0,X,G,I,J,K,O,U,B]
 · simp [h0,G,I,J,K,O,U,B]
theorem ik{t yt e:AM}{x y:Operand}{B G I J K O y0 U W X Z y5:Int}(hg:P.eqGuardType P.depth t=false)(hu:P.underlying t=some (.array 6 e))(he:P.underlying e=some (.int .i64))(ha:∀w:A5,(isAgg e).run P w= .ok false w)(hs:∀w:A5,(Go.sizeOf e).run P w= .ok 1 w)
 (hx:∀a,ev a env x= .agg #[I4 B,I4 G,I4 I,I4 J,I4 K,I4 O])(hy:∀a,ev a env y= .agg #[I4 y0,I4 U,I4 W,I4 X,I4 Z,I4 y5]):OpP P ⟨d,.binOp .eql t x y yt,ty,pos,af,g⟩ env [] (.bool (decide (B=y0/\G=U/\I=W/\J=X/\K=Z/\O=y5))):=fun a w _=>by
 simp [Ch,hx a,hy a,go_sem,run_eqGuard_agg w _ t _ _ _ _ hg,KA,Op.equal,Op.maxDepth,wb w 9998 B G I J K O y0 U W X Z y5 hu he ha hs]
end
theorem Gj{P:Program}{f:FuncId}{args:AN}{H H1:Hp}{Q I:A2->Hp->Prop}(h:BS P f args H Q)(U:H1.flatten=H.flatten)(W:∀v H',Q v H'->∃B,I v B/\B.flatten.Perm H'.flatten):BS P f args H1 I:=fun u R w X=>
 Calls.mono (h u R w (X.sub ⟨[],by simp [U]⟩)) fun e Z O=>by
  rcases O with⟨v,H',rfl,G,h2⟩|⟨ch,H',rfl,G,h2⟩
  · obtain ⟨B,J,K⟩:=W v H' G
    refine .inl ⟨v,B,V,J,h2.perm ?_⟩;rw [HW,HW];exact K.symm.append_right _
  · exact G.elim
section
variable{P:Program}{ops:Array Oper}{A:List Nat}{F:Nat}{cx:Cx}{Q:Exit->Act->A5->Prop}{n D:Nat}{T:List (Nat×A8)}{env:Env}{H:Hp}
theorem Cn{d:Nat}{I:Op}{ty:AM}{pos:String}{af:Array Edge}{v:A2}{b:Nat}{x:Obj}{D':Nat}(i:Nat)(O:ops[i]?=some ⟨some d,I,ty,pos,af,none⟩)(B:(!bit F i&&!bit D i&&F7 (A.getD i 0) D)=true)(J:D|||(1<<<i)=D')(K:(b,x)∈H.flatten)(G:OpP P ⟨some d,I,ty,pos,af,none⟩ env [(b,x)] v)
 (k:Lin P ops A F cx Q n D' ((i,(b,x))::T) ((d,v)::env) H):Lin P ops A F cx Q (n+1) D T env H:=by
 simp only [Ge,W3]at B;subst J;exact .inl ⟨i,_,v,[(b,x)],O,B.1.2,B.2,by simpa using K,.inl ⟨fun _=>rfl,G⟩,k⟩
theorem SN{d:Nat}{I:Op}{ty:AM}{pos:String}{af:Array Edge}{g:Nat×Bool}{v:A2}{b:Nat}{x:Obj}{D':Nat}(i:Nat)(O:∀a,wantedE ops a env (some g)=true)(U:ops[i]?=some ⟨some d,I,ty,pos,af,some g⟩)(B:(!bit F i&&!bit D i&&F7 (A.getD i 0) D)=true)(J:D|||(1<<<i)=D')(K:(b,x)∈H.flatten)(G:OpP P ⟨some d,I,ty,pos,af,some g⟩ env [(b,x)] v)
 (k:Lin P ops A F cx Q n D' ((i,(b,x))::T) ((d,v)::env) H):Lin P ops A F cx Q (n+1) D T env H:=by
 simp only [Ge,W3]at B;subst J;exact .inl ⟨i,_,v,[(b,x)],U,B.1.2,B.2,by simpa using K,.inl ⟨O,G⟩,k⟩
theorem FP{i b:Nat}{x:Obj}(h:(b,x)∈H.flatten)(G:∀p∈T,p.2∈H.flatten):∀p∈((i,(b,x))::T),p.2∈H.flatten:=by
 intro p B;rcases DS.1 B with rfl|B
 · exact h
 · exact G p B
end
theorem rU{P:Program}{f:FuncId}{args:AN}{H H':Hp}{Q:A2->Hp->Prop}(B:H'.flatten=H.flatten)(h:BS P f args H Q):BS P f args H' Q:=fun u R w G=>h u R w (G.sub ⟨[],by simp [B]⟩)
theorem rR{P:Program}{f:FuncId}{args:AN}{M:List A8}{Q:A2->Hp->Prop}(h:(∀g B G,(g,B)∈M->(g,G)∈M->B=G)->BS P f args [M] Q):BS P f args [M] Q:=fun u R w I=>h (fun g B G J h2=>by
 have a:=I.get (g,B) (by simp [J]);have b:=I.get (g,G) (by simp [h2])
 rw [a]at b;exact SP b) u R w I
theorem lH{b o n cap:Nat}{cur:AN}{T:AM}{z:Nat×Nat}{ys:List A2}(hn:ys.length=n)(B:0<n)(h:Bq cur o ys):ub (.slice (some ⟨b,o,none⟩) n cap) ys [(b,.cells cur T z)]:=by
 subst hn;exact .inr ⟨B,b,o,cap,cur,T,z,V,V,h⟩
theorem Uw{α:Type}(f:α->List A2)(sz:Nat)(B:∀a,(f a).length=sz)(cur:AN):∀(l:List α) (off:Nat),(∀(i:Nat) (a:α),l[i]?=some a->off+i*sz+sz<=cur.size/\(cur.extract (off+i*sz) (off+i*sz+sz)).toList=f a)->Bq cur off (l.flatMap f)
 |[],off,_=>by simp [Bq]
 |a::l,off,h=>by
  obtain ⟨G,h2⟩:=h 0 a rfl;have I:=Uw f sz B cur l (off+sz) (fun i x hx=>by
   have:=h (i+1) x hx;rw [Nat.succ_mul]at this;rw [show off+sz+i*sz=off+(i*sz+sz) by omega];exact this)
  rw [dt,Pu]at G h2;unfold Bq at*;rw [Hv,C0,B];rw [sL,rN,show off+sz -off=sz by omega]at h2;rw [List.take_add,h2,cG,I]
theorem Yu{α:Type}{A:List A8->Prop}{P:Program}{cx:Cx}{Q:Exit->Act->A5->Prop}{env:Env}{H Z H0 R:Hp}{g:Operand}{ps:Array Tmp}{G O:Code}{gf:FuncId}{lb:AN}{J:α->AN}{xs:List α}
 (I:List α->Hp->Prop)(E:α->Env->Hp->Prop)(hr:cx.r=none)(hg:∀a,ev a env g= .func (.func gf) #[] lb)(W:∀(args:AN) (w:A5),(callFunc gf args).run P w= .ok (.enter gf args) w)
 (X:Eg P gf lb Z A J xs)(hA:∀pre H1 c d,I pre H1->A ([c,d]++H1.flatten))(ax:∀x,(J x).size=ps.size)(af:(ps.toList.all fun t=>Nat.blt t cx.N)=true)(hp:F3 (Z++H0) H R)(h0:I [] H0)
 (K:∀(l:Nat) (x:α) (u:A5) (H:Hp),At P ⟨cx.N,[],u,some l⟩ G (Exit.then (fun a w=>∃e Hn,E x e Hn/\Is ⟨cx.N,[],u,some l⟩ (e++env) (Hn++H) a w) (fun _ _ _=>False)) ((ps.toList.zip (J x).toList).reverse++env) H)
 (U:∀(l:Nat) (pre:List α) (x:α) (B:List α) (u:A5) (e:Env) (Hn H1 R1:Hp),xs=pre++x::B->I pre H1->E x e Hn->At P ⟨cx.N,[],u,some l⟩ O (Hu u I (pre++[x]) R1) (e++env) (H1++(Hn++R1)))
 (hk:∀(D:Nat) (H2:Hp),I xs H2->Nx ⟨cx.N,⟨.collected D,#[]⟩::cx.D,cx.u,none⟩ (Q .normal) env ([(D,.deferred (some []))]::(H2++R))):At P cx (.rangeFunc g ps G O) Q env H:=
 Ku (Hk:=[]) (A:=fun _=>A) (St:=False) (Adm:=fun p=>∃B,xs=p++B) (Full:=fun ys=>ys=xs) (Enc:=yY J) I (fun _ _=>False) (fun x _ _ e Hn=>E x e Hn) hr hg W (mD X) (fun _ _ h=>h) hA (fun x vs sx he=>by rw [he.1];exact ax x) af hp h0
  (fun l x vs sx u H he=>by obtain ⟨rfl,rfl⟩:=he;exact K l x u H)
  (fun l pre x u vs sx e Hn H1 R1 r0 ⟨B,hx⟩ hI he hE=>by
    obtain ⟨rfl,rfl⟩:=he;exact QE (NK (U l pre x B u e Hn H1 _ (by rw [hx,DH];rfl) hI hE)) fun f h h1 h2=>by simp only [D2,HW,H4,h,h1,h2];omega) (fun D ys H2 hf hI=>by rw [hf]at hI;exact hk D H2 hI) fun _ _ _ h=>h.elim
theorem LP{cx:Cx}{E:Env->Hp->Prop}{env e:Env}{H Hn:Hp}{Q:Exit->Act->A5->Prop}(B:E e Hn):Nx cx ((Exit.then (fun a w=>∃e Hn,E e Hn/\Is cx (e++env) (Hn++H) a w) Q) .normal) (e++env) (Hn++H):=fun a _ G=>⟨e,Hn,B,a,G,rfl⟩
section
variable{F:Fence}{n:Nat}{P:Program}{Q:Exit->Act->A5->Prop}{a:Act}{w:A5}{b:Frame}{k:List Item}{cs:List Frame}
theorem Gs{c:Code}:step P (lone (b.atR a (.code (.scope c)::k)) cs w)= .next (lone (b.atR a (.code c:: .inScope c::k)) cs w):=
 step_lone_go (by simp [stepG,stepG.exec,Frame.atR])
theorem VG{c:Code}:step P (lone (b.atR a (.inScope c::k)) cs w)= .next (lone (b.atR a k) cs w):=
 step_lone_go (by simp [stepG,stepG.exec,Frame.atR])
theorem fH{c:Code}(h:c.wpIn F n P (Exit.noGoto Q) a w):(Code.scope c).wpIn F n P Q a w:=by
 intro b k cs X K U;have h0:(lone (b.atR a (.code (.scope c)::k)) cs w).fenced P F:=fenced_calm K U rfl
 obtain ⟨e,I,J,G,B⟩:=h b (.inScope c::k) cs X K U;cases e with
 |normal=>exact ⟨.normal,I,J,G,.head h0 Gs (StepsIn.trans B (.one (fenced_calm K U rfl) VG))⟩
 |exit id'=>
  have hx:exitTo id' (.inScope c::k)=exitTo id' k:=by simp [exitTo]
  exact ⟨.exit id',I,J,G,fun Z O=> .head h0 Gs (B.1 Z (by rw [hx];exact O)),
   fun W O=>let⟨k₁,h1,h2⟩:=B.2 W (by rw [hx];exact O);⟨k₁,h1,.head h0 Gs h2⟩⟩
 |goto l=>exact G.elim
 |ret=>exact ⟨_,I,J,G,.of_steps (.one h0 Gs) B⟩
 |panic ch=>exact ⟨_,I,J,G,.of_steps (.one h0 Gs) B⟩
 |outgrown=>exact ⟨_,I,J,G,.of_steps (.one h0 Gs) B⟩
end
section
variable{P:Program}{cx:Cx}{Q:Exit->Act->A5->Prop}{env:Env}{H:Hp}
theorem QB{c:Code}(h:At P cx c (Exit.noGoto Q) env H):At P cx (.scope c) Q env H:=fun a w B=>fH (h a w B)
theorem H9(h:Nx cx (Q .ret) env H):Nx cx (Exit.noGoto Q .ret) env H:=h
end
def XZ{α:Type}(P:Program)(gf:FuncId)(lb:AN)(Hit Hk:Hp)(Enc:α->AN->List A8->Prop)(xs:List α):Prop:=
 ∀(l:Nat) (J:List α->List A8->Prop),(∀pre x post s vs sx,xs=pre++x::post->J pre s->Enc x vs sx->GR P l vs [sx,s] (fun v H'=>∃s',v= .bool true/\H'=[s']/\J (pre++[x]) s'))->
  ∀s,J [] s->BS P gf (#[.func (.yield l) #[] #[]]++lb) (Hit++(Hk++[s])) (fun _ H'=>∃s',H'=Hk++[s']/\J xs s')
theorem Yv{α:Type}{P:Program}{cx:Cx}{Q:Exit->Act->A5->Prop}{env:Env}{H ax Hk H0 R:Hp}{g:Operand}{ps:Array Tmp}{G W:Code}{gf:FuncId}{lb:AN}{Enc:α->AN->List A8->Prop}{xs:List α}
 (I:List α->Hp->Prop)(E:α->AN->List A8->Env->Hp->Prop)(hr:cx.r=none)(hg:∀a,ev a env g= .func (.func gf) #[] lb)(Z:∀(args:AN) (w:A5),(callFunc gf args).run P w= .ok (.enter gf args) w)
 (af:XZ P gf lb ax Hk Enc xs)(cu:∀x vs O,Enc x vs O->vs.size=ps.size)(bn:(ps.toList.all fun t=>Nat.blt t cx.N)=true)(hp:F3 (ax++(Hk++H0)) H R)(h0:I [] H0)
 (U:∀(l:Nat) (x:α) (vs:AN) (O:List A8) (u:A5) (H:Hp),Enc x vs O->At P ⟨cx.N,[],u,some l⟩ G (Exit.then (fun a w=>∃e Hn,E x vs O e Hn/\Is ⟨cx.N,[],u,some l⟩ (e++env) (Hn++H) a w) (fun _ _ _=>False)) ((ps.toList.zip vs.toList).reverse++env) H)
 (X:∀(l:Nat) (pre:List α) (x:α) (B:List α) (u:A5) (vs:AN) (O:List A8) (e:Env) (Hn H1 R1:Hp),xs=pre++x::B->I pre H1->Enc x vs O->E x vs O e Hn->At P ⟨cx.N,[],u,some l⟩ W (Hu u I (pre++[x]) R1) (e++env) (H1++(O::(Hn++R1))))
 (hk:∀(D:Nat) (H2:Hp),I xs H2->Nx ⟨cx.N,⟨.collected D,#[]⟩::cx.D,cx.u,none⟩ (Q .normal) env ([(D,.deferred (some []))]::(Hk++(H2++R)))):At P cx (.rangeFunc g ps G W) Q env H:=
 Ku (A:=fun _ _=>True) (St:=False) (Adm:=fun p=>∃B,xs=p++B) (Full:=fun ys=>ys=xs) I (fun _ _=>False) E hr hg Z (fun l J Jx _ hX hy s h9=>(af l J (fun pre x B s vs O hx hj he u R w hs K Kp hK=>hy pre x s vs O ⟨B,by rw [hx,DH];rfl⟩ hj he u R w hs K Kp fun v H' w' ⟨s',h1,h2⟩ h4=>h2.elim (fun h=>hK v H' w' ⟨s',h.1,h1,h.2⟩ h4) fun h=>(hX _ _ h.2).elim) s h9).mono (by rintro v H' ⟨s',h1,h2⟩;exact ⟨s',h1,.inl ⟨xs,rfl,h2⟩⟩)) (fun _ _ h=>h) (fun _ _ _ _ _=>trivial) cu bn hp h0 U
  (fun l pre x u vs O e Hn H1 R1 r0 ⟨B,hx⟩ hI he hE=>NK (X l pre x B u vs O e Hn H1 _ (by rw [hx,DH];rfl) hI he hE)) (fun D ys H2 hf hI=>by rw [hf]at hI;exact hk D H2 hI) fun _ _ _ h=>h.elim
section
variable{P:Program}{env:Env}{d:Option Nat}{ty:AM}{pos:String}{af:Array Edge}{g:Option (Nat×Bool)}
theorem Qs{x y:Operand}{Ts:Array AM}{k:IntKind}{m n:Int}(hx:∀a,ev a env x= .int k m)(hy:∀a,ev a env y= .int k n):OpP P ⟨d,.call ⟨.builtin .max,#[x,y],Ts⟩,ty,pos,af,g⟩ env [] (.int k (max m n)):=fun a w _=>by
 simp [Dv,resolve,invoke,builtin,hx a,hy a,Builtin.max_,Builtin.max2];by_cases h:m<n;· simp [h,show max m n=n by omega]
 · simp [h,show max m n=m by omega]
theorem iZ{x y:Operand}{Ts:Array AM}{k:IntKind}{m:Nat}(hx:∀a,ev a env x= .int k ((m:Int) -1))(hy:∀a,ev a env y= .int k 0):OpP P ⟨d,.call ⟨.builtin .max,#[x,y],Ts⟩,ty,pos,af,g⟩ env [] (.int k ((m -1:Nat):Int)):=by
 have h:=Qs (P:=P) (d:=d) (ty:=ty) (pos:=pos) (af:=af) (g:=g) (Ts:=Ts) hx hy;rwa [show max ((m:Int) -1) 0=((m -1:Nat):Int) by omega]at h
end
def FX(M:List A8)(p:BE)(ys:List A2):Prop:=∀(j:Nat) (u:A2),ys[j]?=some u->∃g o c T z,p=some ⟨g,o,none⟩/\(g,Obj.cells c T z)∈M/\c[o+j]?=some u
theorem One.mem9{s:List A8}{H R:Hp}(h:One s H R):∀c∈s,c∈H.flatten:=by
 intro c hc;have:=h.perm.mem_iff (a:=c)
 rw [this];simp [hc]
section
variable{P:Program}{u:A5}{env:Env}{H R R2:Hp}{d:Option Nat}{ty:AM}{pos:String}{af:Array Edge}{g:Option (Nat×Bool)}
theorem IA{x y:Operand}{t e:AM}{i:TypeInfo}{z:A2}{by_ sz n k c:Nat}{v:A2}{p:BE}{xs ys:List A2}{s M:List A8}
 (ht:P.underlying t=some (.slice e))(hi:P.info? e=some i)(G:i.size=sz)(bn:i.bytes=by_)(gm:i.zero=some z)(ek:z.cells.size=sz)
 (hx:∀a,ev a env x=v)(B:BU sz e v n xs s)(hy:∀a,ev a env y= .slice p k c)(J:FX M p ys)(hl:ys.length=k*sz)(h0:0<sz)(I:One s H R)(Z:One M R R2)(h1:∀u∈ys,u.oneCell'=true)
 (ax:n+k<=maxLen)(hb:(n+k)*by_<=140737488355328):
 OpW P u ⟨d,.call ⟨.builtin .append,#[x,y],#[t,t]⟩,ty,pos,af,g⟩ env H (fun v' H1=>∃s',BU sz e v' (n+k) (xs++ys) s'/\H1=s'::R) (fun _ _=>False):=by
 rcases Rg k with hk|hk
 · subst hk
   have d9:ys=[]:=NX A0;subst d9;obtain ⟨b,c',rfl⟩:=B.form;have U:n<=c':=by
    obtain ⟨_,⟨hv,h0,_⟩|⟨_,_,_,_,hv,_,h2,_⟩⟩:=B;· omega
    · injection hv with _ _ hv3;omega
   intro a w X K Kp hK _;have cu:Sat u (s::R) w:=X.perm (by simpa using I.perm)
   have O:(Builtin.firstCells i.size 0 (.slice p 0 c)).run P w= .ok #[] w:=by
    cases p with
    |none=>simp [Builtin.firstCells]
    |some ad=>simp [Builtin.firstCells,loadCells,loadCellsFrom]
   have hr:(Builtin.append_ #[t,t] ty #[.slice b n c',.slice p 0 c]).run P w= .ok (.slice b n c') w:=by
    rw [G]at O;cases b with
    |none=>simp [Builtin.append_,run_underlying ht,Go.sizeOf,typeInfo,hi,G,Builtin.lenOf,U,O]
    |some ad=>simp [Builtin.append_,run_underlying ht,Go.sizeOf,typeInfo,hi,G,Builtin.lenOf,U,O,storeCells]
   have cO:(execOp (ev a env) ⟨d,.call ⟨.builtin .append,#[x,y],#[t,t]⟩,ty,pos,af,g⟩).run P w= .ok (.value (.slice b n c')) w:=by
    simp only [Dv,resolve,invoke,builtin,SM,Fc,Lk,hx a,hy a,Sem.run_bind,Sem.run_pure,Result.andThen_ok,hr]
   rw [cO];exact hK _ _ _ ⟨s,by rw [E7];exact B,rfl⟩ cu
 · have W:0<ys.length:=by rw [hl];exact Nat.mul_pos hk h0
   obtain ⟨gb,o,_,_,_,rfl,_,_⟩:=J 0 _ (BT W);refine Vr ht hi G bn gm ek hx B hy I (fun w hs j v hj=>?_) hl h1 hk ax hb;obtain ⟨g',o',c1,T1,z1,e,hm,hc⟩:=J j v hj;injection e with e
   injection e with e1 e2
   subst e1 e2;rw [Cb];exact Cq (hs.get _ (Z.mem9 _ hm)) hc
theorem Pd{sz:Nat}{e:AM}{g k cap:Nat}{cur:AN}{z:Nat×Nat}{xs:List A2}(h:BU sz e (I6 g k cap) k xs [(g,.cells cur e z)])(i:Nat)(v:A2):BU sz e (I6 g k cap) k (xs.set i v) [(g,.cells (cur.setIfInBounds i v) e z)]:=by
 obtain ⟨hl,⟨h0,_⟩|⟨g',X,Z,z',hv,hs,J,B,G,W,I⟩⟩:=h;· cases h0
 · injection hv with hv1 _ hv3
   injection hv1 with hv1
   injection hv1 with hv1
   subst hv3;simp only [o4,lj,Obj.cells.injEq,ka,db]at hs;obtain ⟨K,O,U⟩:=hs;subst K O U;refine ⟨by rw [ee];exact hl,.inr ⟨g,cap,_,z,rfl,rfl,J,B,by rw [V2];exact G,?_,by rw [V2];exact I⟩⟩;rw [ki,<-W,List.take_set]
end
end Gw
