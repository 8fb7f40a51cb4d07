/- Walking by chunks: a range over a function; the end of a function that holds one. No function of the program is named. -/
import Derived.Test.YtljkoipiekbijaaGreatDoorEz
import Derived.Lib.Hide
import Derived.Shelf.GgSortFunc.InsertionK
import Derived.Lib.AppendZerosOnto
import Derived.Lib.Overlaps
import Derived.RecoverIn
set_option linter.unusedVariables false
set_option linter.unusedSimpArgs false
namespace Gw
open Go Go.RowKit
def Io(P:Program)(l:Nat)(args:As)(H:Hp)(Q:A3->Hp->Prop):Prop:=
 ∀(u:AD) (R:Hp) (w:AD),Sat u (H++R) w->∀(K:A3->AD->Prop) (Kp:List PanicEntry->AD->Prop),(∀v H' w',Q v H'->Sat u (H'++R) w'->K v w')->Ul P K Kp ((Instr.yield l args).run P w)
section
variable{P:Program}{u:AD}{env:Env}{H R:Hp}{d:Option Nat}{ty:An}{pos:String}{af:Array Edge}{g:Option (Nat×Bool)}
theorem OZ{J:Operand}{E:Array Operand}{G:Array An}{l:Nat}{vs:List A3}{O:Hp}{Q:A3->Hp->Prop}
 (hf:∀a,ev a env J= .func (.yield l) #[] #[])(Z:∀a,E.toList.map (ev a env)=vs)(M:Io P l vs.toArray O Q)(hp:FX O H R):
 OpW P u ⟨d,.call ⟨.value J,E,G⟩,ty,pos,af,g⟩ env H (fun v H'=>∃H1,Q v H1/\H'=H1++R) (fun _ _=>False):=fun a w hs K U X _=>by
 have W:E.map (ev a env)=vs.toArray:=by rw [<-Z a];exact LC _ E
 have:(execOp (ev a env) ⟨d,.call ⟨.value J,E,G⟩,ty,pos,af,g⟩).run P w=(Instr.yield l vs.toArray).run P w:=by
  simp [EU,resolve,hf a,Deferred.ofValue,invoke,W]
 rw [this];exact M u R w (hs.perm hp.perm) K U fun v H' w' hq I=>X v _ w' ⟨H',hq,V⟩ I
end
def U9{α:Type}(P:Program)(gf:FuncId)(lb:As)(Hit:Hp)(encs:α->As)(xs:List α):Prop:=
 ∀(l:Nat) (J:List α->List AR->Prop),(∀pre x post s,xs=pre++x::post->J pre s->Io P l (encs x) [s] (fun v H'=>∃s',v= .bool true/\H'=[s']/\J (pre++[x]) s'))->
  ∀s,J [] s->CJ P gf (#[.func (.yield l) #[] #[]]++lb) (Hit++[s]) (fun _ H'=>∃s',H'=[s']/\J xs s')
def LU{α:Type}(P:Program)(gf:FuncId)(lb:As)(Hit:Hp)(A:List AR->Prop)(encs:α->As)(xs:List α):Prop:=
 ∀(l:Nat) (J:List α->List AR->Prop),(∀pre s,J pre s->A s)->(∀pre x post s,xs=pre++x::post->J pre s->Io P l (encs x) [s] (fun v H'=>∃s',v= .bool true/\H'=[s']/\J (pre++[x]) s'))->
  ∀s,J [] s->CJ P gf (#[.func (.yield l) #[] #[]]++lb) (Hit++[s]) (fun _ H'=>∃s',H'=[s']/\J xs s')
def Is(cx:Cx)(env:Env)(H:Hp)(a:Act)(w:AD):Prop:=∃a0,St cx env H a0 w/\a=Ck env a0
theorem q8{cx:Cx}{env:Env}{H:Hp}{Q:Exit->Act->AD->Prop}:Nx cx ((Exit.then (Is cx env H) Q) .normal) env H:=fun a _ E=>⟨a,E,rfl⟩
def LP{α:Type}(u:AD)(I:List α->Hp->Prop)(xs:List α)(R:Hp):Exit->Act->AD->Prop
 | .normal,_,w=>∃H,I xs H/\Sat u (H++R) w
 |_,_,_=>False
theorem Mh{α:Type}{cx:Cx}{I:List α->Hp->Prop}{xs:List α}{R:Hp}{env:Env}{H H':Hp}{u:AD}(J:cx.u=u)(h:I xs H')(E:Sub (H'++R) H:=by repeat(first|exact Sub.refl _|exact Sub.nil _|(apply Sub.cons;(focus (repeat(first|exact One.here _ _|apply One.there))))|refine Sub.drop _ ?_)):Nx cx (LP u I xs R .normal) env H:=fun _ _ G=>⟨H',h,by subst J;exact G.sat.sub E.amid⟩
theorem MV:∀(e1 e2:Env) (a:Act),Ck (e1++e2) a=Ck e1 (Ck e2 a)
 |[],_,_=>rfl
 |(d,v)::e1,e2,a=>by simp only [cX,Ck];rw [MV e1 e2 a]
theorem Tc:∀(l:List (Nat×A3)) (b:Act),(l.foldl (fun(t:As) (p:Nat×A3)=>t.setIfInBounds p.1 p.2) b.tmps)=(Ck l.reverse b).tmps
 |[],_=>rfl
 |(d,v)::l,b=>by
  simp only [ZS,List.reverse_cons];rw [MV];have:=Tc l (b.put (some d) v)
  simpa [Ck,Act.put]using this
theorem I8(D:List Deferred):∀(e:Env) (a:Act),Ck e {a with defers:=D}={Ck e a with defers:=D}
 |[],_=>rfl
 |(d,v)::e,a=>by simp only [Ck];rw [I8 D e a];rfl
theorem Sat.turn{u w:AD}{b:Nat}{o o':Obj}{H:Hp}(h:Sat u ([(b,o)]::H) w):Sat u ([(b,o')]::H) (w.putObj b o'):=by
 have E:b<w.heap.size:=h.lt (p:=(b,o)) C4;refine h.upd (.here _) V rfl V (World.putObj_heap_same E) fun k G=>World.putObj_heap_other G
theorem dL{a b:List AR}(h:∀f:List AR->Nat,(∀u v,f (u++v)=f u+f v)->f a=f b):a.Perm b:=by
 letI:DecidableEq AR:=fun a b=>Classical.propDecidable (a=b)
 exact List.perm_iff_count.2 fun x=>h (fun l=>l.count x) fun u v=>List.count_append
theorem Sat.parts{u w:AD}{H H':Hp}(G:Sat u H w)(h:∀f:List AR->Nat,(∀u v,f (u++v)=f u+f v)->f []=0->(∀x y,f [x,y]=f [x]+f [y])->f H.flatten=f H'.flatten):Sat u H' w:=
 G.perm (dL fun f E=>h f E (by have:=E [] [];simp at this;omega) fun x y=>E [x] [y])
theorem ae{P:Program}{cx:Cx}{c:Code}{Q:Exit->Act->AD->Prop}{env:Env}{H H':Hp}(h:At P cx c Q env H)(G:∀f:List AR->Nat,(∀u v,f (u++v)=f u+f v)->f []=0->(∀x y,f [x,y]=f [x]+f [y])->f H'.flatten=f H.flatten):At P cx c Q env H':=fun a w E=>h a w ⟨E.size,E.defers,E.fit,E.sat.parts G⟩
def WK{α:Type}(u:AD)(I Ix:List α->Hp->Prop)(xs:List α)(R:Hp):Exit->Act->AD->Prop
 | .normal,_,w=>∃H,I xs H/\Sat u (H++R) w
 | .ret,_,w=>∃H,Ix xs H/\Sat u (H++R) w
 |_,_,_=>False
def WL{α:Type}(P:Program)(gf:FuncId)(lb:As)(Hit Hk:Hp)(A:List α->List AR->Prop)(Enc:α->As->List AR->Prop)(Adm Full:List α->Prop)(St:Prop):Prop:=
 ∀(l:Nat) (J Jx:List α->List AR->Prop),(∀pre s,J pre s->A pre s)->(∀pre s,Jx pre s->St)->(∀pre x s vs sx,Adm (pre++[x])->J pre s->Enc x vs sx->Io P l vs [sx,s] (fun v H'=>∃s',H'=[s']/\((v= .bool true/\J (pre++[x]) s')\/(v= .bool false/\Jx (pre++[x]) s'))))->
  ∀s,J [] s->CJ P gf (#[.func (.yield l) #[] #[]]++lb) (Hit++(Hk++[s])) (fun _ H'=>∃s',H'=Hk++[s']/\((∃ys,Full ys/\J ys s')\/∃pre,Jx pre s'))
theorem Qb{α:Type}{A:List α->List AR->Prop}{Adm Full:List α->Prop}{P:Program}{cx:Cx}{Q:Exit->Act->AD->Prop}{env:Env}{H kv Hk H0 R:Hp}{g:Operand}{ps:Array Tmp}{assign body:Code}{gf:FuncId}{lb:As}{Enc:α->As->List AR->Prop}{St:Prop}
 (I Ix:List α->Hp->Prop)(E:α->As->List AR->Env->Hp->Prop)(hr:cx.r=none)(hg:∀a,ev a env g= .func (.func gf) #[] lb)(l9:∀(args:As) (w:AD),(callFunc gf args).run P w= .ok (.enter gf args) w)
 (o9:WL P gf lb kv Hk A Enc Adm Full St)(hX:∀pre H1,Ix pre H1->St)(hA:∀pre H1 c d,I pre H1->A pre ([c,d]++H1.flatten))(qo:∀x vs Z,Enc x vs Z->vs.size=ps.size)(qb:(ps.toList.all fun t=>Nat.blt t cx.N)=true)(hp:FX (kv++(Hk++H0)) H R)(h0:I [] H0)
 (cu:∀(l:Nat) (x:α) (vs:As) (Z:List AR) (u:AD) (H:Hp),Enc x vs Z->At P ⟨cx.N,[],u,some l⟩ assign (Exit.then (fun a w=>∃e Hn,E x vs Z e Hn/\Is ⟨cx.N,[],u,some l⟩ (e++env) (Hn++H) a w) (fun _ _ _=>False)) ((ps.toList.zip vs.toList).reverse++env) H)
 (l8:∀(l:Nat) (pre:List α) (x:α) (u:AD) (vs:As) (Z:List AR) (e:Env) (Hn H1 R1:Hp) (r0:Loop),Adm (pre++[x])->I pre H1->Enc x vs Z->E x vs Z e Hn->At P ⟨cx.N,[],u,some l⟩ body (WK u I Ix (pre++[x]) ([(l,.loop r0)]::R1)) (e++env) (H1++(Z::(Hn++([(l,.loop r0)]::R1)))))
 (hk:∀(D:Nat) (ys:List α) (O:Hp),Full ys->I ys O->Nx ⟨cx.N,⟨.collected D,#[]⟩::cx.D,cx.u,none⟩ (Q .normal) env ([(D,.deferred (some []))]::(Hk++(O++R))))
 (pz:∀(D:Nat) (pre:List α) (O:Hp),Ix pre O->Nx ⟨cx.N,⟨.collected D,#[]⟩::cx.D,cx.u,none⟩ (Q .ret) env ([(D,.deferred (some []))]::(Hk++(O++R)))):At P cx (.rangeFunc g ps assign body) Q env H:=by
 intro a w hs;refine wpIn_rangeFunc ?_;intro fn r9;have qw:(Fx cx.r).round=none:=hr
 rw [qw];obtain ⟨d9,G⟩:∃d9:LoopState->Option Code->Loop,d9=fun st pe=>{state:=st,pending:=pe,fn,tmps:=(Ck env a).tmps,params:=ps,assign,body,defers:=w.heap.size}:=⟨_,rfl⟩;obtain ⟨J,U⟩:∃J,J=d9 .ready none:=⟨_,rfl⟩;obtain ⟨L2,kz⟩:∃L2,L2=d9 .done (some .ret):=⟨_,rfl⟩;obtain ⟨n,hn⟩:∃n,n=w.heap.size:=⟨_,rfl⟩;have p8:Sat cx.u ([(n+1,.loop J)]::([(n,.deferred (some []))]::((kv++(Hk++H0))++R))) ((w.alloc (.deferred (some []))).alloc (.loop J)):=by
  have:=((hs.sat.perm hp.perm).alloc (.deferred (some []))).alloc (.loop J);rw [show({w with heap:=w.heap.push (.deferred (some []))}:AD).heap.size=w.heap.size+1 from Array.size_push _,<-hn]at this;exact this
 have o8:Fit a.tmps.size env:=by rw [hs.size];exact hs.fit
 have p9:∀d,Ck env {a with defers:=d::cx.D}={Ck env a with defers:=[d]++(Ck env a).defers}:=fun d=>by
  rw [I8,Fu,hs.defers];rfl
 have ek:∀(L:Loop) (e:Exit) (O:Hp) (w2:AD),L.state≠ .busy->(∀(A:Act) (W:AD),Q e A W->(match L.pending with|none=>Q .normal A W|some c=>c.wpIn (Fx cx.r) 0 P Q A W))->
  Sat cx.u ([(n+1,Obj.loop L)]::([(n,.deferred (some []))]::O)) w2->Nx ⟨cx.N,⟨.collected n,#[]⟩::cx.D,cx.u,none⟩ (Q e) env ([(n,.deferred (some []))]::O)->
  ∃v w3,(Instr.endLoop (n+1)).run P w2= .ok v w3/\(match v with|none=>Q .normal {Ck env a with defers:=[⟨.collected n,#[]⟩]++(Ck env a).defers} w3|some c=>c.wpIn (Fx cx.r) 0 P Q {Ck env a with defers:=[⟨.collected n,#[]⟩]++(Ck env a).defers} w3):=by
  intro L e O w2 bf qa gm hN;have hl:=gm.get (n+1,Obj.loop L) C4
  refine ⟨_,_,run_endLoop (P:=P) hl bf,qa _ _ ?_⟩;rw [<-p9];exact hN {a with defers:=⟨.collected n,#[]⟩::cx.D} _ ⟨hs.size,V,hs.fit,(gm.turn (o':= .loop {L with state:= .exhausted})).sub ⟨[(n+1,.loop {L with state:= .exhausted})],by
   simp only [HW];exact S4⟩⟩
 refine ⟨n+1,[⟨.collected n,#[]⟩],(w.alloc (.deferred (some []))).alloc (.loop J),⟨.fn (.func gf) lb,#[.func (.yield (n+1)) #[] #[]]⟩,(w.alloc (.deferred (some []))).alloc (.loop J),gf,
  #[.func (.yield (n+1)) #[] #[]]++lb,(w.alloc (.deferred (some []))).alloc (.loop J),?_,?_,fun _ _=>trivial,?_,fun h=>by simp [Fx,Fence.wide]at h,?_⟩
 · rw [hn,U,G];exact run_enterLoop_outer _ _ _ _ _
 · simp only [resolve,FQ a env o8,hg a]
   simp [Deferred.ofValue,ev,Act.eval]
 · simp [invoke,l9]
 · refine jA ?_
   have hJ:=o9 (n+1) (fun pre s=>∃H1,I pre H1/\s=[(n+1,.loop J),(n,.deferred (some []))]++H1.flatten) (fun pre s=>∃H1,Ix pre H1/\s=[(n+1,.loop L2),(n,.deferred (some []))]++H1.flatten) (by rintro pre _ ⟨H1,M,rfl⟩;exact hA pre H1 _ _ M) (by rintro pre _ ⟨H1,M,rfl⟩;exact hX pre H1 M) ?_ _ ⟨H0,h0,rfl⟩
   · refine Calls.mono (hJ cx.u R _ (p8.parts fun f h M h2=>by simp only [HW,Kx,N4,h,M,h2];omega)) fun e w2 he=>?_
     rcases he with⟨v,H',rfl,⟨s',rfl,⟨ys,pq,O,af,rfl⟩|⟨pre,O,af,rfl⟩⟩,cO⟩|⟨_,_,_,h,_⟩
     · exact ek J .normal _ w2 (by rw [U,G];simp) (fun A W h=>by rw [U,G];exact h) (cO.parts fun f h M h2=>by simp only [HW,Kx,N4,h,M,h2];omega) (hk n ys O pq af)
     · exact ek L2 .ret _ w2 (by rw [kz,G];simp) (fun A W h=>by rw [kz,G];exact wpIn_ret h) (cO.parts fun f h M h2=>by simp only [HW,Kx,N4,h,M,h2];omega) (pz n pre O af)
     · exact h.elim
   · rintro pre x s vs Z qz ⟨H1,hI,rfl⟩ bn u R1 w1 qy K Kp hK
     have gy:Sat u ([(n+1,Obj.loop J)]::([(n,.deferred (some []))]::(H1++(Z::R1)))) w1:=qy.parts fun f h M h2=>by simp only [HW,Kx,N4,h,M,h2];omega
     have hl:=gy.get (n+1,Obj.loop J) C4;have hy:=run_yield (P:=P) (args:=vs) hl (by rw [U,G];exact qo x vs Z bn)
     rw [hy];show RoundIn Fence.wide 0 P (n+1) _ _ _ _ w1 _
     rw [U,G];refine roundIn_of_wpIn (F:=Fence.wide) trivial ?_;have qx:({tmps:=(ps.zip vs).foldl (fun tmps x=>match x with|(t,a)=>tmps.setIfInBounds t a) (Ck env a).tmps,defers:=[]}:Act)=Ck ((ps.toList.zip vs.toList).reverse++env) {a with defers:=[]}:=by
      rw [MV,I8 [] env a];have M:(ps.zip vs).foldl (fun tmps x=>match x with|(t,a)=>tmps.setIfInBounds t a) (Ck env a).tmps=(Ck (ps.toList.zip vs.toList).reverse (Ck env a)).tmps:=by
       rw [<-Tc,<-Array.foldl_toList,Array.toList_zip]
      rw [M,I8 [] _ (Ck env a)]
     have mR:Fit cx.N ((ps.toList.zip vs.toList).reverse++env):=by
      intro q hq;rcases GS.1 hq with hq|hq
      · have:=jx.1 hq
        have h2:=PF.1 qb q.1 (List.of_mem_zip this).1;simpa using h2
      · exact hs.fit q hq
     have ha:=cu (n+1) x vs Z u ([(n+1,Obj.loop J)]::([(n,.deferred (some []))]::(H1++(Z::R1)))) bn {a with defers:=[]} w1 ⟨hs.size,rfl,mR,gy⟩;rw [<-qx]at ha;refine wpIn_mono ha fun e a1 w2 he=>?_;cases e<;>first|exact he|skip
     obtain ⟨e9,Hn,hE,a2,bf,rfl⟩:=he;have gq:Sat u ([(n+1,Obj.loop J)]::([(n,.deferred (some []))]::(H1++(Z::(Hn++R1))))) w2:=bf.sat.parts fun f h M h2=>by simp only [HW,Kx,N4,h,M,h2];omega
     have q9:=gq.get (n+1,Obj.loop J) C4;refine ⟨_,run_beginRound q9 (by rw [U,G]),?_⟩;have pg:Sat u (H1++(Z::(Hn++([(n+1,Obj.loop {J with state:= .busy})]::([(n,.deferred (some []))]::R1))))) (w2.putObj (n+1) (.loop {J with state:= .busy})):=
      (gq.turn (o':= .loop {J with state:= .busy})).parts fun f h M h2=>by simp only [HW,Kx,N4,h,M,h2];omega
     have hb:=l8 (n+1) pre x u vs Z e9 Hn H1 ([(n,.deferred (some []))]::R1) _ qz hI bn hE a2 _ ⟨bf.size,bf.defers,bf.fit,pg⟩;refine wpIn_mono hb fun e a3 w3 lv=>?_;cases e<;>first|exact lv.elim|skip
     · obtain ⟨O,af,oq⟩:=lv
       have X:Sat u ([(n+1,Obj.loop {J with state:= .busy})]::([(n,.deferred (some []))]::(O++R1))) w3:=oq.parts fun f h M h2=>by simp only [HW,Kx,N4,h,M,h2];omega
       refine ⟨_,_,run_endRound (P:=P) none (X.get (n+1,Obj.loop {J with state:= .busy}) C4),?_⟩;refine hK _ _ _ ⟨[(n+1,.loop J),(n,.deferred (some []))]++O.flatten,V,.inl ⟨V,O,af,V⟩⟩ ?_;have ax:({{J with state:=LoopState.busy}with state:=if(none:Option Code).isNone=true then LoopState.ready else .done,pending:=none}:Loop)=J:=by rw [U,G];rfl
       rw [ax];exact (X.turn (o':= .loop J)).parts fun f h M h2=>by simp only [HW,Kx,N4,h,M,h2];omega
     · obtain ⟨O,af,oq⟩:=lv
       have X:Sat u ([(n+1,Obj.loop {J with state:= .busy})]::([(n,.deferred (some []))]::(O++R1))) w3:=oq.parts fun f h M h2=>by simp only [HW,Kx,N4,h,M,h2];omega
       refine ⟨_,_,run_endRound (P:=P) (some .ret) (X.get (n+1,Obj.loop {J with state:= .busy}) C4),?_⟩;refine hK _ _ _ ⟨[(n+1,.loop L2),(n,.deferred (some []))]++O.flatten,V,.inr ⟨V,O,af,V⟩⟩ ?_;have ax:({{J with state:=LoopState.busy}with state:=if(some Code.ret:Option Code).isNone=true then LoopState.ready else .done,pending:=some .ret}:Loop)=L2:=by rw [U,kz,G];rfl
       rw [ax];exact (X.turn (o':= .loop L2)).parts fun f h M h2=>by simp only [HW,Kx,N4,h,M,h2];omega
def z8{α:Type}(encs:α->As)(x:α)(vs:As)(sx:List AR):Prop:=vs=encs x/\sx=[]
theorem ai{P:Program}{l:Nat}{vs:As}{s:List AR}{Q E:A3->Hp->Prop}(h:Io P l vs [[],s] Q)(U:∀v H',Q v H'->E v H'):Io P l vs [s] E:=fun u R w W K G O=>h u R w (W.parts fun f h I h2=>by simp only [HW,Kx,N4,h,I];omega) K G fun v H' X J M=>O v H' X (U v H' J) M
theorem Q7{P:Program}{cx:Cx}{c:Code}{env:Env}{H:Hp}{α:Type}{u:AD}{I G:List α->Hp->Prop}{xs:List α}{R:Hp}(h:At P cx c (LP u I xs R) env H):At P cx c (WK u I G xs R) env H:=fun a w J=>wpIn_mono (h a w J) fun e _ _ E=>by cases e<;>first|exact E|exact E.elim
theorem iX{α:Type}{P:Program}{O:FuncId}{U:As}{I:Hp}{A:List AR->Prop}{G:α->As}{xs:List α}(h:LU P O U I A G xs):WL P O U I [] (fun _=>A) (z8 G) (fun p=>∃E,xs=p++E) (fun ys=>ys=xs) False:=fun l J Jx W X hy s h0=>
 (h l J W (fun pre x E s hx Z=>ai (hy pre x s _ [] ⟨E,by rw [hx,G0];rfl⟩ Z ⟨rfl,rfl⟩) fun v H' ⟨M,K,h2⟩=>h2.elim (fun h=>⟨M,h.1,K,h.2⟩) fun h=>(X _ _ h.2).elim) s h0).mono (by rintro v H' ⟨M,K,h2⟩;exact ⟨M,K,.inl ⟨xs,rfl,h2⟩⟩)
theorem Pi{α:Type}{A:List AR->Prop}{P:Program}{cx:Cx}{Q:Exit->Act->AD->Prop}{env:Env}{H X H0 R:Hp}{g:Operand}{ps:Array Tmp}{G M:Code}{gf:FuncId}{lb:As}{J:α->As}{xs:List α}
 (I:List α->Hp->Prop)(asg:α->Env)(hr:cx.r=none)(hg:∀a,ev a env g= .func (.func gf) #[] lb)(U:∀(args:As) (w:AD),(callFunc gf args).run P w= .ok (.enter gf args) w)
 (W:LU P gf lb X A J xs)(hA:∀pre H1 c d,I pre H1->A ([c,d]++H1.flatten))(ax:∀x,(J x).size=ps.size)(af:(ps.toList.all fun t=>Nat.blt t cx.N)=true)(hp:FX (X++H0) H R)(h0:I [] H0)
 (K:∀(l:Nat) (x:α) (u:AD) (H:Hp),At P ⟨cx.N,[],u,some l⟩ G (Exit.then (Is ⟨cx.N,[],u,some l⟩ (asg x++env) H) (fun _ _ _=>False)) ((ps.toList.zip (J x).toList).reverse++env) H)
 (O:∀(l:Nat) (pre:List α) (x:α) (E:List α) (u:AD) (H1 R1:Hp),xs=pre++x::E->I pre H1->At P ⟨cx.N,[],u,some l⟩ M (LP u I (pre++[x]) R1) (asg x++env) (H1++R1))
 (hk:∀(D:Nat) (H2:Hp),I xs H2->Nx ⟨cx.N,⟨.collected D,#[]⟩::cx.D,cx.u,none⟩ (Q .normal) env ([(D,.deferred (some []))]::(H2++R))):At P cx (.rangeFunc g ps G M) Q env H:=
 Qb (Hk:=[]) (A:=fun _=>A) (St:=False) (Adm:=fun p=>∃E,xs=p++E) (Full:=fun ys=>ys=xs) (Enc:=z8 J) I (fun _ _=>False) (fun x _ _ e Hn=>e=asg x/\Hn=[]) hr hg U (iX W) (fun _ _ h=>h) hA (fun x vs sx Z=>by rw [Z.1];exact ax x) af hp h0
  (fun l x vs sx u H Z a w hs=>by
    obtain ⟨rfl,rfl⟩:=Z;exact wpIn_mono (K l x u H a w hs) fun e _ _ h=>by cases e<;>first|exact h|exact ⟨_,[],⟨rfl,rfl⟩,h⟩)
  (fun l pre x u vs sx e Hn H1 R1 r0 ⟨E,hx⟩ hI Z hE=>by
    obtain ⟨rfl,rfl⟩:=Z;obtain ⟨rfl,rfl⟩:=hE;exact ae (Q7 (O l pre x E u H1 _ (by rw [hx,G0];rfl) hI)) fun f h h1 h2=>by simp only [HW,Kx,N4,h,h1,h2];omega) (fun D ys H2 hf hI=>by rw [hf]at hI;exact hk D H2 hI) fun _ _ _ h=>h.elim
theorem RF{α:Type}{P:Program}{cx:Cx}{Q:Exit->Act->AD->Prop}{env:Env}{H X H0 R:Hp}{g:Operand}{ps:Array Tmp}{E M:Code}{Z:FuncId}{lb:As}{G:α->As}{xs:List α}
 (I:List α->Hp->Prop)(asg:α->Env)(hr:cx.r=none)(hg:∀a,ev a env g= .func (.func Z) #[] lb)(U:∀(args:As) (w:AD),(callFunc Z args).run P w= .ok (.enter Z args) w)
 (W:U9 P Z lb X G xs)(ax:∀x,(G x).size=ps.size)(af:(ps.toList.all fun t=>Nat.blt t cx.N)=true)(hp:FX (X++H0) H R)(h0:I [] H0)
 (K:∀(l:Nat) (x:α) (u:AD) (H:Hp),At P ⟨cx.N,[],u,some l⟩ E (Exit.then (Is ⟨cx.N,[],u,some l⟩ (asg x++env) H) (fun _ _ _=>False)) ((ps.toList.zip (G x).toList).reverse++env) H)
 (O:∀(l:Nat) (pre:List α) (x:α) (post:List α) (u:AD) (H1 R1:Hp),xs=pre++x::post->I pre H1->At P ⟨cx.N,[],u,some l⟩ M (LP u I (pre++[x]) R1) (asg x++env) (H1++R1))
 (hk:∀(D:Nat) (H2:Hp),I xs H2->Nx ⟨cx.N,⟨.collected D,#[]⟩::cx.D,cx.u,none⟩ (Q .normal) env ([(D,.deferred (some []))]::(H2++R))):At P cx (.rangeFunc g ps E M) Q env H:=
 Pi (A:=fun _=>True) I asg hr hg U (fun l J _=>W l J) (fun _ _ _ _ _=>trivial) ax af hp h0 K O hk
theorem GM{P:Program}{f:FuncId}{fn:Func}{c:Code}{args:As}{N:Nat}{H:Hp}{Q:A3->Hp->Prop}{Pn:List PanicEntry->Hp->Prop}(U:P.funcs[f]?=some fn)(O:fn.body=some c)(M:fn.ntmps=N)(W:Nat.ble args.size N=true)
 (h:∀u R,At P ⟨N,[],u,none⟩ c (bodyPostM Fence.wide 0 P fn (Fp u R Q Pn)) (GD 0 args.toList) (H++R)):KG P f args H Q Pn:=fun u R w G=>by
 have I:args.size<=N:=c7 W;refine (callsIn_wide (n:=0)).1 (callsIn_of_wp_marks (F:=Fence.wide) U O trivial ?_);have E:Ck (GD 0 args.toList) {tmps:=args++Array.replicate (fn.ntmps -args.size) undef,defers:=[]}={tmps:=args++Array.replicate (fn.ntmps -args.size) undef,defers:=[]}:=by
  refine Ky _ fun p K=>?_;obtain ⟨_,h2⟩:=Fj _ _ _ K;simp only [SM,Kf]at h2;have J:p.1<args.size:=by
   rcases FA p.1 args.size with h|h
   · exact h
   · simp [Lk h]at h2
  rw [eI J];exact h2
 rw [<-E];refine h u R _ w ⟨by simp [M];omega,V,fun p K=>?_,G⟩;obtain ⟨_,h2⟩:=Fj _ _ _ K;simp only [SM,Kf]at h2;rcases FA p.1 args.size with h|h
 · exact j1 h I
 · simp [Lk h]at h2
section
variable{P:Program}{N:Nat}{u:AD}{fn:Func}{R H H':Hp}{Q:A3->Hp->Prop}{Pn:List PanicEntry->Hp->Prop}{env:Env}{e:Exit}
theorem nk{D:Nat}{w:AD}(h:w.heap[D]?=some (.deferred (some []))):(Instr.takeDeferred D).run P w= .ok [] (w.putObj D (.deferred none)):=by
 simp [Instr.takeDeferred,getObj,setObj,Sem.run,h];rfl
def Res(P:Program)(fn:Func)(env:Env)(v:A3):Prop:=∀(a:Act) (w:AD),Fit a.tmps.size env->(results fn (Ck env a).tmps).run P w= .ok v w
theorem YA{t:Nat}{v:A3}(G:fn.results=#[.tmp t])(hv:∀a,FC a env t=v):Res P fn env v:=fun a w E=>by rw [Qo G,Br a env E,hv a]
theorem r4{t s:Nat}{v x:A3}(G:fn.results=#[.tmp t,.tmp s])(hv:∀a,FC a env t=v)(hx:∀a,FC a env s=x):Res P fn env (.tuple #[v,x]):=fun a w E=>by rw [Qn G,Br a env E,Br a env E,hv a,hx a]
theorem TM{v:A3}(J:GH e=true)(O:Res P fn env v)(M:Q v H')(K:Sub (H'++R) H:=by repeat(first|exact Sub.refl _|exact Sub.nil _|(apply Sub.cons;(focus (repeat(first|exact One.here _ _|apply One.there))))|refine Sub.drop _ ?_)):Nx ⟨N,[],u,none⟩ (bodyPostM Fence.wide 0 P fn (Fp u R Q Pn) e) env H:=fun a w G=>by
 have I:(Ck env a).defers=[]:=by rw [Fu];exact G.defers
 have E:LeavesInM Fence.wide 0 P fn (Ck env a).tmps (Fp u R Q Pn) (Ck env a).defers .returning w:=by
  rw [I];exact ⟨v,O a w (by rw [G.size];exact G.fit),.inl ⟨v,H',rfl,M,G.sat.sub K.amid⟩⟩
 cases e<;>first|exact E|simp [GH]at J
theorem LA{D:Nat}{v:A3}{H0:Hp}(U:GH e=true)(Z:Res P fn env v)(O:One [(D,.deferred (some []))] H H0)(X:Q v H')(W:Sub (H'++R) H0:=by repeat(first|exact Sub.refl _|exact Sub.nil _|(apply Sub.cons;(focus (repeat(first|exact One.here _ _|apply One.there))))|refine Sub.drop _ ?_)):Nx ⟨N,[⟨.collected D,#[]⟩],u,none⟩ (bodyPostM Fence.wide 0 P fn (Fp u R Q Pn) e) env H:=fun a w K=>by
 have M:(Ck env a).defers=[⟨.collected D,#[]⟩]:=by rw [Fu];exact K.defers
 have E:Sat u ([(D,.deferred (some []))]::H0) w:=K.sat.perm (by simpa using O.perm);have J:=E.get (D,.deferred (some [])) (by simp)
 have G:Sat u (H'++R) (w.putObj D (.deferred none)):=((E.turn (o':= .deferred none)).sub ⟨[(D,.deferred none)],by simp only [HW];exact S4⟩).sub W.amid;have I:LeavesInM Fence.wide 0 P fn (Ck env a).tmps (Fp u R Q Pn) (Ck env a).defers .returning w:=by
  rw [M];refine ⟨by simp,.inl ⟨D,_,V,nk J,?_⟩⟩;exact ⟨v,Z a _ (by rw [K.size];exact K.fit),.inl ⟨v,H',rfl,X,G⟩⟩
 cases e<;>first|exact I|simp [GH]at U
end
def MB(sz:Nat)(v:A3)(k:Nat)(ys:List A3)(s:List AR):Prop:=
 ys.length=k*sz/\((k=0/\∃b c,v= .slice b 0 c)\/∃g o cap cur T z,v= .slice (some ⟨g,o,none⟩) k cap/\s=[(g,.cells cur T z)]/\CY cur o ys)
theorem EG{sz:Nat}{e:An}{v:A3}{k:Nat}{xs:List A3}{s:List AR}(h:BS sz e v k xs s)(J:0<k):∃g cap cur z,v=I6 g k cap/\s=[(g,.cells cur e z)]/\k<=cap/\CY cur 0 xs:=by
 obtain ⟨I,⟨_,h0,_⟩|⟨g,cap,cur,z,rfl,rfl,E,_,_,G,_⟩⟩:=h;· omega
 · refine ⟨g,cap,cur,z,rfl,rfl,E,?_⟩
   unfold CY;rw [RR,I];exact G
theorem JW{sz:Nat}{e:An}{v:A3}{k:Nat}{xs:List A3}{s:List AR}(h:BS sz e v k xs s):MB sz v k xs s:=by
 refine ⟨h.1,?_⟩;rcases P2 k with h0|h0
 · obtain ⟨b,c,rfl⟩:=h.form
   subst h0;exact .inl ⟨V,b,c,V⟩
 · obtain ⟨g,cap,cur,z,rfl,rfl,_,E⟩:=EG h h0
   exact .inr ⟨g,0,cap,cur,e,z,V,V,E⟩
theorem OV{cur:As}{o a n:Nat}{ys:List A3}(h:CY cur o ys)(hn:a+n<=ys.length):CY cur (o+a) ((ys.drop a).take n):=by
 unfold CY at*;have E:((ys.drop a).take n).length=n:=by rw [CI,D4];omega
 rw [E,<-eh,<-h,kc,Wc];congr 1;have:=congrArg List.length h
 rw [CI]at this;omega
theorem Gd{sz:Nat}{e:An}{b:C1}{n c:Nat}{xs:List A3}{s:List AR}(h:BS sz e (.slice b n c) n xs s)(k d:Nat)(G:k<=n):MB sz (.slice b k d) k (xs.take (k*sz)) s:=by
 have I:k*sz<=n*sz:=T7 sz G;refine ⟨by rw [CI,h.1];omega,?_⟩;rcases P2 k with h0|h0
 · subst h0;exact .inl ⟨rfl,b,d,rfl⟩
 · obtain ⟨g,cap,cur,z,hv,rfl,_,E⟩:=EG h A0
   injection hv with hv1 hv2 hv3
   subst hv1;have h2:=OV E (a:=0) (n:=k*sz) (by rw [h.1];omega)
   rw [RR]at h2;exact .inr ⟨g,0,d,cur,e,z,V,V,h2⟩
theorem Ib{sz:Nat}{e:An}{b:C1}{n c:Nat}{xs:List A3}{s:List AR}(h:BS sz e (.slice b n c) n xs s)(k m d:Nat)(G:k+m=n):MB sz (.slice (EJ b k c sz) m d) m (xs.drop (k*sz)) s:=by
 have J:n*sz=k*sz+m*sz:=by rw [<-G,Lq]
 refine ⟨by rw [D4,h.1];omega,?_⟩;rcases P2 m with h0|h0
 · subst h0;exact .inl ⟨rfl,_,d,rfl⟩
 · obtain ⟨g,cap,cur,z,hv,rfl,I,E⟩:=EG h A0
   injection hv with hv1 hv2 hv3
   subst hv1 hv3;have h2:=OV E (a:=k*sz) (n:=m*sz) (by rw [h.1];omega)
   rw [Hx (by rw [D4,h.1];omega)]at h2;refine .inr ⟨g,0+k*sz,d,cur,e,z,?_,V,h2⟩;unfold EJ;rw [Ax A0,N5,Cq]
theorem Oe{sz:Nat}{b:C1}{n c:Nat}{xs:List A3}{s:List AR}(h:MB sz (.slice b n c) n xs s)(k m d:Nat)(I:k+m=n)(hc:n<=c):MB sz (.slice (EJ b k c sz) m d) m (xs.drop (k*sz)) s:=by
 have J:n*sz=k*sz+m*sz:=by rw [<-I,Lq]
 refine ⟨by rw [D4,h.1];omega,?_⟩;rcases P2 m with h0|h0
 · subst h0;exact .inl ⟨rfl,_,d,rfl⟩
 · obtain ⟨G,⟨K,_⟩|⟨g,o,cap,cur,T,z,hv,rfl,E⟩⟩:=h
   · omega
   · injection hv with hv1 hv2 hv3
     subst hv1 hv3;have h2:=OV E (a:=k*sz) (n:=m*sz) (by rw [G];omega)
     rw [Hx (by rw [D4,G];omega)]at h2;refine .inr ⟨g,o+k*sz,d,cur,T,z,?_,V,h2⟩;unfold EJ;rw [Ax A0,N5,Cq]
section
variable{P:Program}{u:AD}{env:Env}{H R R2:Hp}{d:Option Nat}{ty:An}{pos:String}{af:Array Edge}{g:Option (Nat×Bool)}
theorem BL{x y:Operand}{t e:An}{i:TypeInfo}{z:A3}{by_ sz n k:Nat}{v v2:A3}{xs ys:List A3}{s s2:List AR}
 (ht:P.underlying t=some (.slice e))(hi:P.info? e=some i)(I:i.size=sz)(bn:i.bytes=by_)(d9:i.zero=some z)(cO:z.cells.size=sz)
 (hx:∀a,ev a env x=v)(E:BS sz e v n xs s)(hy:∀a,ev a env y=v2)(Z:MB sz v2 k ys s2)(M:One s H R)(ax:One s2 R R2)(h1:∀u∈ys,u.oneCell'=true)
 (bf:n+k<=maxLen)(hb:(n+k)*by_<=140737488355328):
 OpW P u ⟨d,.call ⟨.builtin .append,#[x,y],#[t,t]⟩,ty,pos,af,g⟩ env H (fun v' H1=>∃s',BS sz e v' (n+k) (xs++ys) s'/\H1=s'::R) (fun _ _=>False):=by
 obtain ⟨hl,⟨rfl,b2,c2,rfl⟩|⟨gb,o,cap,cur,T,zz,rfl,rfl,cu⟩⟩:=Z
 · have X:ys=[]:=N3 A0
   subst X;obtain ⟨b,c,rfl⟩:=E.form;have J:n<=c:=by
    obtain ⟨_,⟨hv,h0,_⟩|⟨_,_,_,_,hv,_,h2,_⟩⟩:=E;· omega
    · injection hv with _ _ hv3;omega
   intro a w O K Kp hK _;have U:Sat u (s::R) w:=O.perm (by simpa using M.perm)
   have G:(Builtin.firstCells i.size 0 (.slice b2 0 c2)).run P w= .ok #[] w:=by
    cases b2 with
    |none=>simp [Builtin.firstCells]
    |some ad=>simp [Builtin.firstCells,loadCells,loadCellsFrom]
   have hr:(Builtin.append_ #[t,t] ty #[.slice b n c,.slice b2 0 c2]).run P w= .ok (.slice b n c) w:=by
    rw [I]at G;cases b with
    |none=>simp [Builtin.append_,run_underlying ht,Go.sizeOf,typeInfo,hi,I,Builtin.lenOf,J,G]
    |some ad=>simp [Builtin.append_,run_underlying ht,Go.sizeOf,typeInfo,hi,I,Builtin.lenOf,J,G,storeCells]
   have W:(execOp (ev a env) ⟨d,.call ⟨.builtin .append,#[x,y],#[t,t]⟩,ty,pos,af,g⟩).run P w= .ok (.value (.slice b n c)) w:=by
    simp only [EU,resolve,invoke,builtin,Tl,L3,NO,hx a,hy a,Sem.run_bind,Sem.run_pure,Result.andThen_ok,hr]
   rw [W];exact hK _ _ _ ⟨s,by rw [HT];exact E,rfl⟩ U
 · rcases P2 k with h0|h0
   · subst h0
     have X:ys=[]:=N3 A0;subst X;obtain ⟨b,c,rfl⟩:=E.form;have J:n<=c:=by
      obtain ⟨_,⟨hv,h0,_⟩|⟨_,_,_,_,hv,_,h2,_⟩⟩:=E;· omega
      · injection hv with _ _ hv3;omega
     intro a w O K Kp hK _;have U:Sat u (s::R) w:=O.perm (by simpa using M.perm)
     have G:(Builtin.firstCells i.size 0 (.slice (some ⟨gb,o,none⟩) 0 cap)).run P w= .ok #[] w:=by simp [Builtin.firstCells,loadCells,loadCellsFrom]
     have hr:(Builtin.append_ #[t,t] ty #[.slice b n c,.slice (some ⟨gb,o,none⟩) 0 cap]).run P w= .ok (.slice b n c) w:=by
      rw [I]at G;cases b with
      |none=>simp [Builtin.append_,run_underlying ht,Go.sizeOf,typeInfo,hi,I,Builtin.lenOf,J,G]
      |some ad=>simp [Builtin.append_,run_underlying ht,Go.sizeOf,typeInfo,hi,I,Builtin.lenOf,J,G,storeCells]
     have W:(execOp (ev a env) ⟨d,.call ⟨.builtin .append,#[x,y],#[t,t]⟩,ty,pos,af,g⟩).run P w= .ok (.value (.slice b n c)) w:=by
      simp only [EU,resolve,invoke,builtin,Tl,L3,NO,hx a,hy a,Sem.run_bind,Sem.run_pure,Result.andThen_ok,hr]
     rw [W];exact hK _ _ _ ⟨s,by rw [HT];exact E,rfl⟩ U
   · exact Dw ht hi I bn d9 cO hx E hy M ax.has cu hl h1 h0 bf hb
end
theorem One.memF{s:List AR}{H R:Hp}(h:One s H R):∀p∈s,p∈H.flatten:=fun p E=>by
 have:=h.perm.mem_iff (a:=p);exact this.2 (HE _ E)
section
variable{P:Program}{u:AD}{env:Env}{H R R2:Hp}{d:Option Nat}{ty:An}{pos:String}{af:Array Edge}{g:Option (Nat×Bool)}
theorem JK{x y:Operand}{t e:An}{i:TypeInfo}{z:A3}{by_ sz n k:Nat}{b:C1}{v2:A3}{xs ys:List A3}{s s2:List AR}
 (ht:P.underlying t=some (.slice e))(hi:P.info? e=some i)(kv:i.size=sz)(cO:i.bytes=by_)(lv:i.zero=some z)(l9:z.cells.size=sz)
 (hx:∀a,ev a env x= .slice b n n)(U:MB sz (.slice b n n) n xs s)(hy:∀a,ev a env y=v2)(bf:MB sz v2 k ys s2)(gy:One s H R)(kz:One s2 H R2)(hk:0<k)
 (mR:n+k<=maxLen)(hb:(n+k)*by_<=140737488355328):
 OpW P u ⟨d,.call ⟨.builtin .append,#[x,y],#[t,t]⟩,ty,pos,af,g⟩ env H (fun v' H1=>∃s',BS sz e v' (n+k) (xs++ys) s'/\H1=s'::H) (fun _ _=>False):=by
 obtain ⟨X,⟨h0,_⟩|⟨g2,o2,I,cu,T2,z2,rfl,rfl,ek⟩⟩:=bf;· omega
 intro a w O K Kp hK _;have gq:=JI (O.get _ (kz.memF (g2,.cells cu T2 z2) C4)) ek
 have gm:ys.length=k*i.size:=by rw [kv];exact X
 have p8:=mL;have G:∀{v':A3} {w':AD},(Builtin.append_ #[t,t] ty #[.slice b n n,.slice (some ⟨g2,o2,none⟩) k I]).run P w= .ok v' w'->(execOp (ev a env) ⟨d,.call ⟨.builtin .append,#[x,y],#[t,t]⟩,ty,pos,af,g⟩).run P w= .ok (.value v') w':=fun h=>by
  simp only [EU,resolve,invoke,builtin,Tl,L3,NO,hx a,hy a,Sem.run_bind,Sem.run_pure,Result.andThen_ok,h]
 have J:∀(m:Nat) (cells:As) (w1:AD),w1={w with drawn:=m,heap:=w.heap.push (.cells cells e)}->Sat u ([(w.heap.size,.cells cells e (0,0))]::H) w1:=fun m cells w1 h=>by
  subst h;exact (O.drawn m).alloc _
 have E:(xs++ys).length=(n+k)*sz:=by rw [C7,U.1,X,Lq]
 have split:∀m p:Nat,p<=m->p*sz+(m -p)*sz=m*sz:=fun m p h=>by rw [<-Lq];congr 1;omega
 have Z:∀(ad:Addr),b=some ad->(∀j v,xs[j]?=some v->w.cell? (ad.add j)=some v)->Ul P K Kp ((execOp (ev a env) ⟨d,.call ⟨.builtin .append,#[x,y],#[t,t]⟩,ty,pos,af,g⟩).run P w):=fun ad o8 ax=>by
  subst o8;have hr:=run_append_grow (P:=P) w t ty e i z ht hi lv ad n n xs (by rw [kv];exact U.1) ax ⟨g2,o2,none⟩ k I ys gm gq A0 A0 (growslice_fits A0 (by rw [cO];exact hb))
  rw [G hr];have W:=grownCap_ge w (n+k) n e
  have M:grownCap w (n+k) n e<=maxLen:=grownCap_le_maxLen w (n+k) n e mR;refine hK _ _ _ ⟨[(w.heap.size,.cells (xs.toArray++ys.toArray++Builtin.zeroCells z.cells (grownCap w (n+k) n e -(n+k))) e (0,0))],⟨E,.inr ⟨w.heap.size,grownCap w (n+k) n e,_,(0,0),V,V,W,M,?_,?_,Aw _⟩⟩,V⟩ (J _ _ _ V)
  · simp only [fp,size_zeroCells,l9,K0]
    have h1:=split _ _ W;rw [C7]at E;rw [E];exact h1
  · simp only [eM]
    exact L7 (by simpa using E)
 obtain ⟨hl,⟨h0,b9,c9,oq⟩|⟨g1,o1,o9,bn,T1,z1,hv,rfl,d9⟩⟩:=U
 · subst h0
   have l8:xs=[]:=N3 A0;cases b with
   |some ad=>exact Z ad rfl (fun j v hj=>by rw [l8]at hj;cases hj)
   |none=>
    subst l8;have hr:=run_append_nil (P:=P) w t ty e i z ht hi lv ⟨g2,o2,none⟩ k I ys gm gq hk A0 (by rw [cO];exact To (by simpa using hb) (by decide:140737488355328<=281474976710656))
    rw [G hr];have W:=grownCap_ge w k 0 e
    have M:grownCap w k 0 e<=maxLen:=grownCap_le_maxLen w k 0 e A0;refine hK _ _ _ ⟨[(w.heap.size,.cells (ys.toArray++Builtin.zeroCells z.cells (grownCap w k 0 e -k)) e (0,0))],⟨E,.inr ⟨w.heap.size,grownCap w k 0 e,_,(0,0),by simp,V,by omega,M,?_,?_,Aw _⟩⟩,V⟩ (J _ _ _ V)
    · simp only [fp,size_zeroCells,l9,K0,X]
      exact split _ _ W
    · simp only [eM,ON,Dd]
      exact L7 X
 · injection hv with hv1 hv2 hv3
   refine Z ⟨g1,o1,none⟩ hv1 fun j v hj=>?_;have h9:=JI (O.get _ (gy.memF (g1,.cells bn T1 z1) C4)) d9
   exact h9 j v hj
theorem Ey{t e:An}{x hi E:Operand}{b:C1}{n cap h s:Nat}{I mk:IntKind}(M:P.underlying t=some (.slice e))(K:∀w:AD,(Go.sizeOf e).run P w= .ok s w)(hx:∀a,ev a env x= .slice b n cap)(G:∀a,ev a env hi= .int I (h:Int))(J:∀a,ev a env E= .int mk (h:Int))(h2:h<=cap):
 OpP P ⟨d,.slice t x none (some hi) (some E),ty,pos,af,g⟩ env [] (.slice b h h):=fun a w _=>by
 cases b<;>simp [Iq,hx a,G a,J a,Instr.sliceAt,Instr.slice,run_underlying M,Instr.sliceBounds,Instr.sliceBound,asIntOf,h2,K,Addr.add]
theorem En(sz:Nat)(e:An)(g k:Nat)(xs:List A3)(h:xs.length=k*sz)(E:k<=maxLen):BS sz e (I6 g k k) k xs [(g,.cells xs.toArray e (0,0))]:=
 ⟨h,.inr ⟨g,k,xs.toArray,(0,0),rfl,rfl,B4 _,E,by simp [h],Hx (by simp [h]),Aw _⟩⟩
end
end Gw
namespace Gw
open Go Go.RowKit
open Go.ChangeMaps (setBlock)
section
variable{α:Type}{κ:α->A3}{D:α->Prop}{P:Program}
structure FY(κ:α->A3)(es:Array MapEntry)(clock:Nat)(l:List (α×A3)):Prop where
 pairs:es.toList.map (fun e=>(e.key,e.val))=l.map (fun p=>(κ p.1,p.2))
 born:(es.toList.map (·.born)).Nodup
 old:∀e∈es.toList,e.born<clock
 keys:(l.map (·.1)).Nodup
structure JJ(P:Program)(kt:An)(κ:α->A3)(D:α->Prop):Prop where
 check:∀(w:AD) (em:Bool) (a:α),D a->(Instr.checkKey em 10000 kt (κ a)).run P w= .ok () w
 find:∀(w:AD) (k:α),D k->∀es:List MapEntry,(∀e∈es,∃a,D a/\e.key=κ a)->((Instr.findKey kt (κ k) es).run P w= .ok none w/\∀e∈es,e.key≠κ k)\/∃j e,(Instr.findKey kt (κ k) es).run P w= .ok (some (j,e.val)) w/\es[j]?=some e/\e.key=κ k
 stays:∀(w:AD) (a:α),D a->(Instr.keyThatStays (κ a) (κ a)).run P w= .ok (κ a) w
 inj:∀a b,κ a=κ b->a=b
theorem JJ.ofLaw{kt:An}(E:WideMaps.KeyLaw P kt)(key:∀a,D a->∃l,keyOf P kt (κ a)=some l)(inj:∀a b,κ a=κ b->a=b):JJ P kt κ D where
 check:=fun w em a G=>by obtain ⟨l,I⟩:=key a G;exact E.check w em I
 find:=fun w k M es K=>by
  obtain ⟨l,I⟩:=key k M;exact E.find w I es fun e h=>by obtain ⟨a,G,J⟩:=K e h;rw [J];exact key a G
 stays:=fun w a G=>by obtain ⟨l,I⟩:=key a G;exact E.stays w I
 inj:=inj
theorem JJ.basic [DecidableEq α]{kt:An}{K:TypeDesc}(X:P.underlying kt=some K)(O:∀a b,Instr.sameNow K (κ a) (κ b)=some (decide (a=b)))(hc:∀(w:AD) (em:Bool) (a:α),(Instr.checkKey em 10000 kt (κ a)).run P w= .ok () w)
 (U:∀(w:AD) (a:α),(Instr.keyThatStays (κ a) (κ a)).run P w= .ok (κ a) w)(inj:∀a b,κ a=κ b->a=b):JJ P kt κ D where
 check:=fun w em a _=>hc w em a
 find:=fun w k _ es M=>by
  have h:∀(es:List MapEntry) (i:Nat),(∀e∈es,∃a,D a/\e.key=κ a)->(Instr.findNow K (κ k) es i=some none/\∀e∈es,e.key≠κ k)\/∃j e,Instr.findNow K (κ k) es i=some (some (i+j,e.val))/\es[j]?=some e/\e.key=κ k:=by
   intro es;induction es with
   |nil=>intro i _;exact .inl ⟨rfl,by simp⟩
   |cons e es ih=>
    intro i M;obtain ⟨a,_,I⟩:=M e C4;by_cases J:k=a
    · refine .inr ⟨0,e,?_,rfl,by rw [I,J]⟩
      simp only [Instr.findNow,I,O,J,decide_true,RT]
    · rcases ih (i+1) (fun e h=>M e (Mu _ h))with⟨G,h2⟩|⟨j,e',G,h2,h3⟩
      · refine .inl ⟨?_,fun e' h=>?_⟩
        · simp only [Instr.findNow,I,O,J,eC];exact G
        · rcases H4.1 h with rfl|h
          · rw [I];exact fun h=>J (inj _ _ h.symm)
          · exact h2 e' h
      · refine .inr ⟨j+1,e',?_,h2,h3⟩
        simp only [Instr.findNow,I,O,J,eC];rw [G,show i+1+j=i+(j+1) by omega]
  have E:∀r,Instr.findNow K (κ k) es 0=some r->(Instr.findKey kt (κ k) es).run P w= .ok r w:=fun r W=>by
   simp only [Instr.findKey,Sem.run_bind,run_underlying X,Result.andThen,W];rfl
  rcases h es 0 M with⟨G,h2⟩|⟨j,e,G,h2,h3⟩
  · exact .inl ⟨E _ G,h2⟩
  · exact .inr ⟨j,e,E _ (by rw [G,Dd]),h2,h3⟩
 stays:=fun w a _=>U w a
 inj:=inj
theorem mM{kt:An}(E:P.underlying kt=some (.int .i64))(w:AD)(k:Int)(b:Bool)(n:Nat):(Instr.checkKey b (n+1) kt (I4 k)).run P w= .ok () w:=by
 simp only [Instr.checkKey,Sem.run_bind,run_underlying E,Result.andThen];rfl
theorem sQ(n:Nat)(k:Int):Instr.sameBits (n+1) (I4 k) (I4 k)=true:=by simp [Instr.sameBits]
theorem nT{v:A3}(h:Instr.sameBits 10000 v v=true)(w:AD):(Instr.keyThatStays v v).run P w= .ok v w:=by
 unfold Instr.keyThatStays;rw [B2 h];rfl
theorem qg{kt:An}{D:Int->Prop}(E:P.underlying kt=some (.int .i64)):JJ P kt (fun k:Int=>Value.int .i64 k) D:=
 JJ.basic E (fun a b=>by simp only [Instr.sameNow];congr 1) (fun w em a=>mM E w a em 9999) (fun w a=>nT (sQ 9999 a) w) (fun a b h=>by injection h)
theorem TP(κ:α->A3):FY κ #[] 0 []:=⟨rfl,by simp,by simp,by simp⟩
variable{es:Array MapEntry}{clock:Nat}{l:List (α×A3)}{kt:An}
theorem FY.size(h:FY κ es clock l):es.size=l.length:=by
 have:=congrArg List.length h.pairs;simpa using this
theorem FY.at_(h:FY κ es clock l){j:Nat}{e:MapEntry}(G:es.toList[j]?=some e):∃p,l[j]?=some p/\e.key=κ p.1/\e.val=p.2:=by
 have E:(es.toList.map (fun e=>(e.key,e.val)))[j]?=some (e.key,e.val):=by rw [HL,G];rfl
 rw [h.pairs,HL]at E;cases hp:l[j]?with
 |none=>rw [hp]at E;cases E
 |some p=>
  rw [hp]at E;injection E with E
  injection E with h2 h3
  exact ⟨p,V,h2.symm,h3.symm⟩
theorem FY.of(h:FY κ es clock l){j:Nat}{p:α×A3}(G:l[j]?=some p):∃e,es.toList[j]?=some e/\e.key=κ p.1/\e.val=p.2:=by
 have E:(l.map (fun p=>(κ p.1,p.2)))[j]?=some (κ p.1,p.2):=by rw [HL,G];rfl
 rw [<-h.pairs,HL]at E;cases he:es.toList[j]?with
 |none=>rw [he]at E;cases E
 |some e=>
  rw [he]at E;injection E with E
  injection E with h2 h3
  exact ⟨e,V,h2,h3⟩
theorem Lp(U:JJ P kt κ D)(O:FY κ es clock l)(X:∀p∈l,D p.1)(w:AD)(k:α)(W:D k):
 ((Instr.findKey kt (κ k) es.toList).run P w= .ok none w/\∀p∈l,p.1≠k)\/∃j v,(Instr.findKey kt (κ k) es.toList).run P w= .ok (some (j,v)) w/\l[j]?=some (k,v):=by
 rcases U.find w k W es.toList (fun e K=>by
  obtain ⟨j,M⟩:=JT K;obtain ⟨p,G,E,_⟩:=O.at_ M;exact ⟨p.1,X p (Fm G),E⟩)with⟨E,h2⟩|⟨j,e,E,h2,h3⟩
 · refine .inl ⟨E,fun p G K=>?_⟩
   obtain ⟨j,M⟩:=JT G;obtain ⟨e,I,J,_⟩:=O.of M;exact h2 e (Fm I) (by rw [J,K])
 · obtain ⟨p,G,I,J⟩:=O.at_ h2
   refine .inr ⟨j,e.val,E,?_⟩;rw [G,J,<-U.inj p.1 k (by rw [<-I,h3])]
def Je [DecidableEq α](k:α)(l:List (α×A3)):Option A3:=(l.find? (fun p=>decide (p.1=k))).map (·.2)
theorem QS [DecidableEq α]{k:α}(h:∀p∈l,p.1≠k):Je k l=none:=by
 unfold Je;rw [eS.2 (fun p E=>by simpa using h p E)];rfl
theorem JD [DecidableEq α]{k:α}{v:A3}:∀{l:List (α×A3)},(l.map (·.1)).Nodup->(k,v)∈l->Je k l=some v
 |p::l,hn,h=>by
  rw [L3,cf]at hn;unfold Je;rcases H4.1 h with rfl|h
  · simp
  · rw [List.find?_cons_of_neg (by simp;rintro rfl;exact hn.1 (HX.2 ⟨_,h,rfl⟩))]
    exact JD hn.2 h
theorem Vj [DecidableEq α]{k:α}{v:A3}{l:List (α×A3)}(h:Je k l=some v):(k,v)∈l:=by
 unfold Je at h;cases hf:l.find? (fun p=>decide (p.1=k))with
 |none=>rw [hf]at h;cases h
 |some p=>
  rw [hf]at h;injection h with h
  have E:=kO hf;have h2:=iS hf
  simp only [LL]at E;rw [<-E,<-h];exact h2
section
variable{env:Env}{d:Option Nat}{ty:An}{pos:String}{af:Array Edge}{g:Option (Nat×Bool)}{t et:An}{r:Nat}{m x y:Operand}{k:α}{v z:A3}
theorem Hz(E:JJ P kt κ D)(G:D k)(w:AD)(em:Bool):(Instr.checkKey em 10000 kt (κ k)).run P w= .ok () w:=by
 exact E.check w em k G
theorem pE [DecidableEq α](G:JJ P kt κ D)(M:P.underlying t=some (.map kt et))(hz:∀w:AD,(zeroValue et).run P w= .ok z w)(K:FY κ es clock l)(O:∀p∈l,D p.1)(I:D k)(hx:∀a,ev a env m= .map (some r))(hy:∀a,ev a env x=κ k):
 OpP P ⟨d,.lookup t m x true,ty,pos,af,g⟩ env [(r,.map es clock)] (.tuple #[(Je k l).getD z,.bool (Je k l).isSome]):=fun a w U=>by
 have J:=U (r,.map es clock) C4;show((do pure (Next.value (<-Instr.lookup t (ev a env m) (ev a env x) true))):Sem Next).run P w=_
 rw [hx a,hy a];rcases Lp G K O w k I with⟨E,h2⟩|⟨j,v,E,h2⟩
 · rw [QS h2]
   simp only [Instr.lookup,Sem.run_bind,run_underlying M,Result.andThen,MapKept.run_getObj_map J,Hz G I,Sem.run_pure,E,hz];rfl
 · rw [JD K.keys (Fm h2)]
   simp only [Instr.lookup,Sem.run_bind,run_underlying M,Result.andThen,MapKept.run_getObj_map J,Hz G I,Sem.run_pure,E];rfl
theorem QO [DecidableEq α]{G:A3}{E:Bool}(I:JJ P kt κ D)(O:P.underlying t=some (.map kt et))(hz:∀w:AD,(zeroValue et).run P w= .ok z w)(M:FY κ es clock l)(K:∀p∈l,D p.1)(J:D k)(hv:(Je k l).getD z=G/\(Je k l).isSome=E)(hx:∀a,ev a env m= .map (some r))(hy:∀a,ev a env x=κ k):
 OpP P ⟨d,.lookup t m x true,ty,pos,af,g⟩ env [(r,.map es clock)] (.tuple #[G,.bool E]):=by
 have:=pE (d:=d) (ty:=ty) (pos:=pos) (af:=af) (g:=g) I O hz M K J hx hy;rwa [hv.1,hv.2]at this
theorem kR(J:P.underlying t=some (.map kt et))(G:FY κ es clock l)(hx:∀a,ev a env m= .map (some r)):
 OpP P ⟨d,.call ⟨.builtin .len,#[m],#[t]⟩,ty,pos,af,g⟩ env [(r,.map es clock)] (I4 (l.length:Int)):=fun a w I=>by
 have E:=I (r,.map es clock) C4;simp [EU,resolve,invoke,builtin,hx a,Builtin.len_,run_underlying J,MapKept.run_getObj_map E,goInt,G.size]
theorem KN{w:AD}{c:Nat}(E:w.heap[r]?=some (.map es c))(o':Obj):(setObj r o').run P w= .ok () (setBlock w r o'):=by
 simp [setObj,Sem.run,E,setBlock]
variable{u:AD}{H R:Hp}
theorem Po:OpW P u ⟨d,.makeMap t none,ty,pos,af,g⟩ env H (fun I H1=>∃b,I= .map (some b)/\H1=[(b,.map #[] 0)]::H) (fun _ _=>False):=fun a w G K J E _=>by
 have:(execOp (ev a env) ⟨d,.makeMap t none,ty,pos,af,g⟩).run P w= .ok (.value (.map (some w.heap.size))) {w with heap:=w.heap.push (.map #[] 0)}:=by
  show((do pure (Next.value (<-Instr.makeMap t none))):Sem Next).run P w=_;rfl
 rw [this];exact E _ _ _ ⟨_,V,V⟩ (G.alloc _)
theorem RS{w:AD}(E:One [(r,.map es clock)] H R)(G:Sat u H w)(o':Obj):w.heap[r]?=some (.map es clock)/\Sat u ([(r,o')]::R) (setBlock w r o'):=by
 have J:Sat u ([(r,.map es clock)]::R) w:=G.perm (by simpa using E.perm);have K:=J.get (r,.map es clock) C4
 have I:r<w.heap.size:=(LO.1 K).1;exact ⟨K,J.upd (Upd.here _) rfl rfl rfl (by simp [setBlock,I]) (fun j M=>by simp only [setBlock,i7];rw [Ax (fun e=>M e.symm)])⟩
theorem qW{i:Nat}{q:A3}(I:l[i]?=some (k,q))(v:A3):((l.set i (k,v)).map (·.1))=l.map (·.1):=by
 apply S8;intro j;rw [HL,HL,eW];by_cases E:i=j
 · subst E
   have G:=(D3.1 I).1;rw [B2 rfl,B2 G,I];rfl
 · rw [Ax E]
theorem jF{i j:Nat}{p q:α×A3}(hn:(l.map (·.1)).Nodup)(G:l[i]?=some p)(I:l[j]?=some q)(h:p.1=q.1):i=j:=by
 have E:(l.map (·.1))[i]?=some p.1:=by rw [HL,G];rfl
 have h2:(l.map (·.1))[j]?=some q.1:=by rw [HL,I];rfl
 exact (List.getElem?_inj (D3.1 E).1 hn).1 (by rw [E,h2,h])
theorem vF{i:Nat}{q:A3}(hn:(l.map (·.1)).Nodup)(J:l[i]?=some (k,q))(v:A3)(p:α×A3):p∈l.set i (k,v)↔p=(k,v)\/(p∈l/\p.1≠k):=by
 have I:=(D3.1 J).1;constructor
 · intro h
   obtain ⟨j,E⟩:=JT h;rw [eW]at E;by_cases G:i=j
   · rw [B2 G,B2 A0]at E
     injection E with E;exact .inl E.symm
   · rw [Ax G]at E
     exact .inr ⟨Fm E,fun e=>G (jF hn J E e.symm)⟩
 · rintro (rfl|⟨h,hne⟩)
   · exact Fm (by rw [eW,B2 rfl,B2 I])
   · obtain ⟨j,E⟩:=JT h
     refine Fm (i:=j) ?_;rw [eW,Ax];· exact E
     · rintro rfl
       rw [J]at E;injection E with E
       exact hne (by rw [<-E])
theorem MH(hK:JJ P kt κ D)(ht:P.underlying t=some (.map kt et))(J:FY κ es clock l)(hl:∀p∈l,D p.1)(hk:D k)(hx:∀a,ev a env m= .map (some r))(hy:∀a,ev a env x=κ k)(hv:∀a,ev a env y=v)(U:One [(r,.map es clock)] H R):
 OpW P u ⟨d,.mapUpdate t m x y,ty,pos,af,g⟩ env H (fun v' H1=>v'=undef/\∃G E X,FY κ G E X/\(∀p,p∈X↔p=(k,v)\/(p∈l/\p.1≠k))/\H1=[(r,.map G E)]::R) (fun _ _=>False):=fun a w W K Kp bn _=>by
 obtain ⟨hb,_⟩:=RS U W (.map es clock)
 suffices hrun:∃G E X,(Instr.mapUpdate t (.map (some r)) (κ k) v).run P w= .ok () (setBlock w r (.map G E))/\FY κ G E X/\∀p,p∈X↔p=(k,v)\/(p∈l/\p.1≠k) by
  obtain ⟨G,E,X,Z,h2,h3⟩:=hrun;have:(execOp (ev a env) ⟨d,.mapUpdate t m x y,ty,pos,af,g⟩).run P w= .ok .skip (setBlock w r (.map G E)):=by
   show((do Instr.mapUpdate t (ev a env m) (ev a env x) (ev a env y);pure Next.skip):Sem Next).run P w=_;rw [hx a,hy a,hv a,Sem.run_bind,Z];rfl
  rw [this];exact bn _ _ _ ⟨V,G,E,X,h2,h3,V⟩ (RS U W _).2
 rcases Lp hK J hl w k hk with⟨Z,h2⟩|⟨j,q,Z,h2⟩
 · refine ⟨es.push {key:=κ k,val:=v,born:=clock},clock+1,l++[(k,v)],?_,⟨?_,?_,?_,?_⟩,?_⟩
   · simp only [Instr.mapUpdate,Sem.run_bind,run_underlying ht,Result.andThen,MapKept.run_getObj_map hb,Hz hK hk,Z,KN hb]
   · simp [J.pairs]
   · simp only [Array.toList_push,HD,L3,NO]
     rw [S6];refine ⟨J.born,by simp,?_⟩;intro a ha b M ax;simp only [HX,HA]at ha M;obtain ⟨e,O,rfl⟩:=ha;have:=J.old e O
     omega
   · intro e O
     simp only [Array.toList_push,GS,HA]at O;rcases O with O|rfl
     · have:=J.old e O;omega
     · simp
   · rw [HD,S6]
     refine ⟨J.keys,by simp,?_⟩;intro a ha b M ax;simp only [L3,NO,HA]at M;obtain ⟨p,hp,rfl⟩:=HX.1 ha;exact h2 p hp (by rw [ax,M])
   · intro p
     rw [GS,HA];constructor
     · rintro (h|rfl)
       · exact .inr ⟨h,h2 p h⟩
       · exact .inl rfl
     · rintro (rfl|⟨h,_⟩)
       · exact .inr rfl
       · exact .inl h
 · obtain ⟨e0,bf,cO,ek⟩:=J.of h2
   have cu:es[j]?=some e0:=by simpa using bf
   have d9:(Instr.keyThatStays (((es[j]?).map (·.key)).getD (κ k)) (κ k)).run P w= .ok (κ k) w:=by
    rw [cu];show(Instr.keyThatStays e0.key (κ k)).run P w=_
    rw [cO];exact hK.stays w k hk
   refine ⟨es.modify j fun e=>{e with key:=κ k,val:=v},clock,l.set j (k,v),?_,⟨?_,?_,?_,?_⟩,vF J.keys h2 v⟩;· simp only [Instr.mapUpdate,Sem.run_bind,run_underlying ht,Result.andThen,MapKept.run_getObj_map hb,Hz hK hk,Z,d9,KN hb]
   · rw [mA]
     apply S8;intro i;have hj:(es.toList.map (fun e=>(e.key,e.val)))[i]?=(l.map (fun p=>(κ p.1,p.2)))[i]?:=by rw [J.pairs]
     rw [HL,HL]at hj;rw [HL,HL,lx,eW];by_cases I:j=i
     · subst I
       rw [B2 rfl,B2 (D3.1 h2).1,bf];simp
     · simpa [I]using hj
   · have:(es.modify j fun e=>{e with key:=κ k,val:=v}).toList.map (·.born)=es.toList.map (·.born):=by
      rw [mA];apply S8;intro i;simp only [HL,lx];by_cases I:j=i;· subst I;cases es.toList[j]?<;>simp
      · simp [I]
     rw [this];exact J.born
   · intro e O
     rw [mA]at O;obtain ⟨i,hi⟩:=JT O;simp only [lx]at hi;cases h9:es.toList[i]?with
     |none=>simp [h9]at hi
     |some e1=>
      have:=J.old e1 (Fm h9);by_cases I:j=i
      · subst I
        simp only [h9,Mp,Option.map_eq_map,N5,ZD]at hi;subst hi;exact this
      · simp [h9,I]at hi
        subst hi;exact this
   · rw [qW h2 v];exact J.keys
theorem mi{t2:An}(hK:JJ P kt κ D)(ht:P.underlying t=some (.map kt et))(U:FY κ es clock l)(hl:∀p∈l,D p.1)(hk:D k)(hx:∀a,ev a env m= .map (some r))(hy:∀a,ev a env x=κ k)(I:One [(r,.map es clock)] H R):
 OpW P u ⟨d,.call ⟨.builtin .delete,#[m,x],#[t,t2]⟩,ty,pos,af,g⟩ env H (fun v' H1=>v'= .tuple #[]/\∃G E W,FY κ G E W/\(∀p,p∈W↔p∈l/\p.1≠k)/\H1=[(r,.map G E)]::R) (fun _ _=>False):=fun a w J K Kp ax _=>by
 obtain ⟨hb,_⟩:=RS I J (.map es clock)
 suffices hrun:∃G E W,(Builtin.delete_ #[t,t2] ty #[.map (some r),κ k]).run P w= .ok (.tuple #[]) (setBlock w r (.map G E))/\FY κ G E W/\∀p,p∈W↔p∈l/\p.1≠k by
  obtain ⟨G,E,W,X,h2,h3⟩:=hrun;have:(execOp (ev a env) ⟨d,.call ⟨.builtin .delete,#[m,x],#[t,t2]⟩,ty,pos,af,g⟩).run P w= .ok (.value (.tuple #[])) (setBlock w r (.map G E)):=by
   simp only [EU,resolve,invoke,builtin,Tl,L3,NO,hx a,hy a,Sem.run_bind,Sem.run_pure,Result.andThen_ok,X]
  rw [this];exact ax _ _ _ ⟨V,G,E,W,h2,h3,V⟩ (RS I J _).2
 rcases Lp hK U hl w k hk with⟨X,h2⟩|⟨j,q,X,h2⟩
 · refine ⟨es,clock,l,?_,U,fun p=>⟨fun h=>⟨h,h2 p h⟩,fun h=>h.1⟩⟩
   simp only [Builtin.delete_,eK,Z3,bj,Sem.run_bind,run_underlying ht,Result.andThen,MapKept.run_getObj_map hb,Hz hK hk,X,KN hb,Sem.run_pure]
 · have O:(es.eraseIdxIfInBounds j).toList=es.toList.eraseIdx j:=by
    unfold Array.eraseIdxIfInBounds;split;· simp
    · rename_i h;rw [List.eraseIdx_of_length_le (by simpa using h)]
   have M:(es.toList.eraseIdx j).Sublist es.toList:=List.eraseIdx_sublist _ _;have Z:∀{α β:Type} (f:α->β) (m:List α) (n:Nat),(m.eraseIdx n).map f=(m.map f).eraseIdx n:=by
    intro α β f m;induction m with
    |nil=>intro n;simp
    |cons x m ih=>intro n;cases n<;>simp [ih]
   refine ⟨es.eraseIdxIfInBounds j,clock,l.eraseIdx j,?_,⟨?_,?_,?_,?_⟩,fun p=>?_⟩;· simp only [Builtin.delete_,eK,Z3,bj,Sem.run_bind,run_underlying ht,Result.andThen,MapKept.run_getObj_map hb,Hz hK hk,X,KN hb,Sem.run_pure]
   · rw [O,Z,U.pairs,Z]
   · rw [O];exact (M.map _).nodup U.born
   · intro e he
     rw [O]at he;exact U.old e (M.subset he)
   · exact ((List.eraseIdx_sublist l j).map _).nodup U.keys
   · rw [List.mem_eraseIdx_iff_getElem?]
     constructor
     · rintro ⟨i,bf,hi⟩
       exact ⟨Fm hi,fun e=>bf (jF U.keys hi h2 e)⟩
     · rintro ⟨h,bn⟩
       obtain ⟨i,hi⟩:=JT h;refine ⟨i,?_,hi⟩;rintro rfl;rw [h2]at hi;injection hi with hi
       exact bn (by rw [<-hi])
end
end
end Gw
namespace Gw
open Go Go.RowKit
open Go.ChangeMaps
section
variable{α:Type}{κ:α->A3}{P:Program}{es:Array MapEntry}{clock:Nat}{l:List (α×A3)}
structure ME(es:Array MapEntry)(js:List Nat)(seen:Array Nat):Prop where
 nodup:js.Nodup
 lt:∀j∈js,j<es.size
 mem:∀(j:Nat) (e:MapEntry),es.toList[j]?=some e->(seen.contains e.born=true↔j∈js)
 last:∀(j:Nat),js.getLast?=some j->∃e,es.toList[j]?=some e/\∃s0:Array Nat,seen=s0.push e.born
theorem lI(es:Array MapEntry):ME es [] #[]:=⟨by simp,by simp,by simp,by simp⟩
theorem aX{es:Array MapEntry}(hn:(es.toList.map (·.born)).Nodup){i j:Nat}{a b:MapEntry}(G:es.toList[i]?=some a)(I:es.toList[j]?=some b)(h:a.born=b.born):i=j:=by
 have E:(es.toList.map (·.born))[i]?=some a.born:=by rw [HL,G];rfl
 have h2:(es.toList.map (·.born))[j]?=some b.born:=by rw [HL,I];rfl
 exact (List.getElem?_inj (D3.1 E).1 hn).1 (by rw [E,h2,h])
theorem ME.push(J:FY κ es clock l){js:List Nat}{seen:Array Nat}(h:ME es js seen){j:Nat}{e:MapEntry}(G:es.toList[j]?=some e)(M:j∉js):ME es (js++[j]) (seen.push e.born):=by
 refine ⟨?_,?_,?_,?_⟩
 · rw [S6]
   refine ⟨h.nodup,by simp,?_⟩;intro a K b E I;rw [HA]at E;subst E I;exact M K
 · intro i hi
   rcases GS.1 hi with hi|hi
   · exact h.lt i hi
   · rw [HA]at hi
     subst hi;have:=(D3.1 G).1
     simpa using this
 · intro i x hx
   rw [GS,HA,<-h.mem i x hx,Array.contains_push];simp only [Wa,beq_iff_eq];constructor
   · rintro (E|hc)
     · first|exact .inr (aX J.born hx G E)|exact .inl E
     · first|exact .inl hc|exact .inr (aX J.born hx G hc)
   · rintro (hc|rfl)
     · first|exact .inr hc|exact .inl hc
     · rw [G]at hx
       injection hx with hx
       subst hx;first|exact .inl rfl|exact .inr rfl
 · intro i hi
   rw [List.getLast?_append]at hi;simp at hi;subst hi;exact ⟨e,G,seen,V⟩
def IM(l:List (α×A3))(js:List Nat):List (α×A3):=js.filterMap (fun j=>l[j]?)
theorem PG(l:List (α×A3))(js:List Nat){j:Nat}{p:α×A3}(E:l[j]?=some p):IM l (js++[j])=IM l js++[p]:=by
 unfold IM;rw [fm];simp [E]
theorem UH(l:List (α×A3)):IM l (List.range l.length)=l:=by
 have h:∀n,n<=l.length->IM l (List.range n)=l.take n:=by
  intro n;induction n with
  |zero=>intro _;rfl
  |succ n ih=>
   intro hn;obtain ⟨p,E⟩:∃p,l[n]?=some p:=⟨_,Bk A0⟩;rw [gA,PG l _ E,ih A0,OK,E];rfl
 rw [h _ (B4 _),HJ]
theorem ME.done(K:FY κ es clock l){js:List Nat}{seen:Array Nat}(h:ME es js seen)(h0:(leftOf es seen).size=0):(IM l js).Perm l:=by
 have M:js.Perm (List.range l.length):=by
  rw [fc h.nodup mT];intro j;rw [N6,<-K.size];constructor;· exact h.lt j
  · intro J
    have E:j<es.toList.length:=by simpa using J
    have I:es.toList[j]?=some (es.toList[j]):=Bk E;rw [<-h.mem j _ I];unfold leftOf at h0;have G:=Array.filter_eq_empty_iff.1 (Array.eq_empty_of_size_eq_zero h0)
    have h2:=G (es.toList[j]) (ly.1 (mj E));simpa using h2
 have:=M.filterMap (fun j=>l[j]?);exact this.trans (by rw [show(List.range l.length).filterMap (fun j=>l[j]?)=IM l (List.range l.length) from rfl,UH])
section
variable{env:Env}{d:Option Nat}{ty:An}{pos:String}{af:Array Edge}{g:Option (Nat×Bool)}{t kt et:An}{r b:Nat}{x:Operand}{u:AD}{H R:Hp}
theorem Xn(M:P.underlying t=some (.map kt et))(hx:∀a,ev a env x= .map (some r))(E:(r,.map es clock)∈H.flatten):
 OpW P u ⟨d,.range t x,ty,pos,af,g⟩ env H (fun O H1=>∃b,O=I5 b/\H1=[(b,.mapIter (some r) clock #[] clock)]::H) (fun _ _=>False):=fun a w G K U I _=>by
 have J:=G.get _ E;have:(execOp (ev a env) ⟨d,.range t x,ty,pos,af,g⟩).run P w= .ok (.value (.pointer (some ⟨w.heap.size,0,none⟩))) {w with heap:=w.heap.push (.mapIter (some r) clock #[] clock)}:=by
  show((do pure (Next.value (<-Instr.range t (ev a env x)))):Sem Next).run P w=_;rw [hx a];simp only [Instr.range,Sem.run_bind,run_underlying M,Result.andThen,MapKept.run_getObj_map J];rfl
 rw [this];exact I _ _ _ ⟨_,V,V⟩ (G.alloc _)
theorem bA(G:P.underlying t=some (.map kt et))(hx:∀a,ev a env x= .map (some r))(E:Has r (.map es clock) H):
 OpW P u ⟨d,.range t x,ty,pos,af,g⟩ env H (fun I H1=>∃b,I=I5 b/\H1=[(b,.mapIter (some r) clock #[] clock)]::H) (fun _ _=>False):=Xn G hx E.mem
theorem uS{w:AD}{o:Obj}(E:One [(b,o)] H R)(G:Sat u H w)(o':Obj):w.heap[b]?=some o/\Sat u ([(b,o')]::R) (setBlock w b o'):=by
 have J:Sat u ([(b,o)]::R) w:=G.perm (by simpa using E.perm);have K:=J.get (b,o) C4
 have I:b<w.heap.size:=(LO.1 K).1;exact ⟨K,J.upd (Upd.here _) rfl rfl rfl (by simp [setBlock,I]) (fun j M=>by simp only [setBlock,i7];rw [Ax (fun e=>M e.symm)])⟩
theorem bB(W:FY κ es clock l){js:List Nat}{seen:Array Nat}(hi:ME es js seen)(hx:∀a,ev a env x=I5 b)(J:One [(b,.mapIter (some r) clock seen clock)] H R)(O:(r,.map es clock)∈R.flatten):
 OpW P u ⟨d,.next x false,ty,pos,af,g⟩ env H (fun v' H1=>((IM l js).Perm l/\v'= .tuple #[.bool false]/\H1=[(b,.mapIter (some r) clock seen clock)]::R)\/
  ∃j p I,l[j]?=some p/\j∉js/\ME es (js++[j]) I/\v'= .tuple #[.bool true,κ p.1,p.2]/\H1=[(b,.mapIter (some r) clock I clock)]::R) (fun _ _=>False):=fun a w G K Kp hK _=>by
 have X:Sat u ([(b,.mapIter (some r) clock seen clock)]::R) w:=G.perm (by simpa using J.perm);have hb:=X.get (b,.mapIter (some r) clock seen clock) (by simp)
 have hr:=X.get (r,.map es clock) (by simp [O]);have ax:(execOp (ev a env) ⟨d,.next x false,ty,pos,af,g⟩)=((do pure (Next.value (<-Instr.next (I5 b) false ty))):Sem Next):=by
  rw [<-hx a];rfl
 rw [ax];rcases run_next_at (P:=P) w ty b r clock clock seen es clock hb hr W.old (B4 _)with⟨hz,E⟩|⟨e,he,w1,hw1,E⟩
 · rw [Sem.run_bind,E]
   exact hK _ _ _ (.inl ⟨hi.done W hz,V,V⟩) X
 · rw [Sem.run_bind,E]
   have M:e∈es.toList/\seen.contains e.born=false:=by
    unfold leftOf at he;simpa using he
   obtain ⟨j,Z⟩:=JT M.1;obtain ⟨p,hp,hk,hv⟩:=W.at_ Z;have U:j∉js:=fun h=>by
    have:=(hi.mem j e Z).2 h;rw [M.2]at this;cases this
   refine hK _ _ _ (.inr ⟨j,p,_,hp,U,hi.push W Z U,by rw [hk,hv],rfl⟩) ?_;have h2:Sat u H w1:=by
    rcases hw1 with rfl|rfl
    · exact G
    · exact G.drew
   exact (uS J h2 _).2
theorem jK(K:FY κ es clock l){js:List Nat}{seen:Array Nat}(hi:ME es js seen)(hx:∀a,ev a env x=I5 b)(I:One [(b,.mapIter (some r) clock seen clock)] H R)(G:Has r (.map es clock) R):
 OpW P u ⟨d,.next x false,ty,pos,af,g⟩ env H (fun J H1=>((IM l js).Perm l/\J= .tuple #[.bool false]/\H1=[(b,.mapIter (some r) clock seen clock)]::R)\/
  ∃j p E,l[j]?=some p/\j∉js/\ME es (js++[j]) E/\J= .tuple #[.bool true,κ p.1,p.2]/\H1=[(b,.mapIter (some r) clock E clock)]::R) (fun _ _=>False):=bB K hi hx I G.mem
theorem df(J:FY κ es clock l){js:List Nat}{seen:Array Nat}{j:Nat}{p:α×A3}(hi:ME es (js++[j]) seen)(U:l[j]?=some p)(hx:∀a,ev a env x=I5 b):
 OpP P ⟨d,.entry x,ty,pos,af,g⟩ env [(b,.mapIter (some r) clock seen clock),(r,.map es clock)] (.tuple #[κ p.1,p.2]):=fun a w K=>by
 have M:=K (b,.mapIter (some r) clock seen clock) C4;have W:=K (r,.map es clock) C4
 obtain ⟨e,I,s0,rfl⟩:=hi.last j C4;obtain ⟨X,E,O,hv⟩:=J.at_ I;rw [U]at E;injection E with E
 subst E;have G:=run_entry_at (P:=P) w b r clock s0 es clock e M W (Fm I) J.born
 show((do pure (Next.value (<-Instr.entry (ev a env x)))):Sem Next).run P w=_;rw [hx a,Sem.run_bind,G,O,hv];rfl
end
end
end Gw
namespace Gl
open Go
def linUpon(P:Program)(K:A3->AD->Prop):Result Next->Prop
 | .ok (.value u) w=>K u w
 | .ok .skip w=>K undef w
 | .ok (.enter f args) w=>Calls P f args w (fun e w'=>∃u,e= .returned u/\K u w')
 |_=>False
def lookE(a:Act):List (Nat×A3)->Nat->A3
 |[],t=>a.tmps.getD t undef
 |(d,v)::env,t=>if t=d then v else lookE a env t
def evalE(a:Act)(env:List (Nat×A3)):Operand->A3
 | .tmp t=>lookE a env t
 | .const v=>v
 | .global g=>I5 g
 | .func f=> .func (.func f) #[] #[]
def yieldE(ops:Array Oper)(a:Act)(env:List (Nat×A3))(g:Nat)(want:Bool):Bool:=
 match(ops[g]?).bind (·.dst)with
 |some t=>match lookE a env t with
  | .bool b=>b==want
  |_=>false
 |none=>false
def wantedE(ops:Array Oper)(a:Act)(env:List (Nat×A3)):Option (Nat×Bool)->Bool
 |none=>true
 |some (g,want)=>yieldE ops a env g want
def putE(d:Option Nat)(v:A3)(env:List (Nat×A3)):List (Nat×A3):=
 match d with
 |some d=>(d,v)::env
 |none=>env
def putsE:List (Nat×A3)->Act->Act
 |[],a=>a
 |(d,v)::env,a=>(putsE env a).put (some d) v
def Z9(P:Program)(ops:Array Oper)(o:Oper)(a:Act)(env:List (Nat×A3))(v:A3)(R:AD->Prop)(w:AD):Prop:=
 ∀K:A3->AD->Prop,(∀w',R w'->K v w')->if wantedE ops a env o.guard=true then linUpon P K ((execOp (evalE a env) o).run P w)else K undef w
def NV(P:Program)(ops:Array Oper)(S:Nat->AD->Prop)(Q:Act->AD->Prop)(a:Act):Nat->List Oper->List Bool->List (Nat×A3)->Prop
 |k,[],_,env=>∀w,S k w->Q (putsE env a) w
 |k,o::l,true::fs,env=>∃v,(∀w,S k w->Z9 P ops o a env v (S (k+1)) w)/\NV P ops S Q a (k+1) l fs (putE o.dst v env)
 |k,o::l,false::fs,env=>∃v,(∀j w,S j w->Z9 P ops o a env v (S j) w)/\NV P ops S Q a k l fs (putE o.dst v env)
 |_,_::_,[],_=>False
def TS(ops:Array Oper)(fl:List Bool)(N:Nat):Bool:=
 let b:=Region.before ops
 decide (fl.length=ops.size)&&
 (List.range ops.size).all fun j=>match ops[j]?with
   |none=>false
   |some oj=>
    (oj.after.toList.all fun e=>!Region.binds .any e||decide (e.on<j))&&
    ((List.range j).all fun i=>match ops[i]?with
      |none=>false
      |some oi=>
       (!(b.getD j 0).testBit i||oj.after.toList.any (fun e=>Region.binds .any e&&(e.on==i||(decide (i<e.on)&&(b.getD e.on 0).testBit i))))&&
       (oi.apart ops oj||(b.getD j 0).testBit i)&&
       (!(fl.getD i false&&fl.getD j false)||(b.getD j 0).testBit i))&&
    (match oj.op with| .select ..=>false|_=>true)&&
    (match oj.dst with|some d=>decide (d<N)|none=>true)
def LD(p:Nat->Bool):Nat->List (Oper×A3)->Act->Act
 |_,[],a=>a
 |i,x::l,a=>LD p (i+1) l (if p i then a.put x.1.dst x.2 else a)
def tv(p:Nat->Bool)(t:Nat):Nat->List (Oper×A3)->Option A3->Option A3
 |_,[],d=>d
 |i,x::l,d=>tv p t (i+1) l (if p i=true/\x.1.dst=some t then some x.2 else d)
theorem EP(a:Act)(d:Option Tmp)(v:A3):(a.put d v).tmps.size=a.tmps.size:=by cases d<;>simp [Act.put]
theorem KT(a:Act)(d:Option Tmp)(v:A3):(a.put d v).defers=a.defers:=by cases d<;>simp [Act.put]
theorem Jb(a:Act)(d:Option Tmp)(v:A3)(t:Nat)(E:t<a.tmps.size):(a.put d v).tmps[t]?=if d=some t then some v else a.tmps[t]?:=by
 cases d with
 |none=>simp [Act.put]
 |some d=>
  simp only [Act.put,i7];by_cases e:d=t;· subst e;simp [E]
  · simp [e]
theorem Jh{a b:Act}(G:a.tmps.size=b.tmps.size)(E:a.defers=b.defers)(h:∀t,t<a.tmps.size->a.tmps[t]?=b.tmps[t]?):a=b:=by
 obtain ⟨x,d⟩:=a;obtain ⟨y,e⟩:=b;simp only at E G h;subst E;congr 1;apply Array.ext G;intro i hi I;have:=h i hi
 simp only [KK hi,KK I,ZD]at this;exact this
theorem DX(p:Nat->Bool):∀(i:Nat) (l:List (Oper×A3)) (a:Act),(LD p i l a).tmps.size=a.tmps.size
 |_,[],_=>rfl
 |i,x::l,a=>by simp only [LD];rw [DX p (i+1) l];split<;>simp [EP]
theorem Fh(p:Nat->Bool):∀(i:Nat) (l:List (Oper×A3)) (a:Act),(LD p i l a).defers=a.defers
 |_,[],_=>rfl
 |i,x::l,a=>by simp only [LD];rw [Fh p (i+1) l];split<;>simp [KT]
theorem EN(p:Nat->Bool)(t:Nat):∀(i:Nat) (l:List (Oper×A3)) (a:Act),t<a.tmps.size->(LD p i l a).tmps[t]?=tv p t i l a.tmps[t]?
 |_,[],_,_=>rfl
 |i,x::l,a,ht=>by
  simp only [LD,tv];rw [EN p t (i+1) l _ (by split<;>simpa [EP]using ht)];congr 1;by_cases E:p i=true;· simp only [E,Mp,fX];rw [Jb _ _ _ _ ht]
  · simp [E]
theorem FO(p q:Nat->Bool)(t:Nat):∀(i:Nat) (l:List (Oper×A3)) (d:Option A3),(∀k x,l[k]?=some x->x.1.dst=some t->p (i+k)=q (i+k))->tv p t i l d=tv q t i l d
 |_,[],_,_=>rfl
 |i,x::l,d,h=>by
  simp only [tv];have h0:(if p i=true/\x.1.dst=some t then some x.2 else d)=(if q i=true/\x.1.dst=some t then some x.2 else d):=by
   by_cases e:x.1.dst=some t
   · have:=h 0 x rfl e;simp only [RT]at this;simp [this]
   · simp [e]
  rw [h0];exact FO p q t (i+1) l _ fun k y E hy=>by
   have:=h (k+1) y (by simpa using E) hy;rwa [show i+(k+1)=i+1+k from by omega]at this
theorem gN(p:Nat->Bool)(t:Nat):∀(i k:Nat) (l:List (Oper×A3)) (d:Option A3) (x:Oper×A3),l[k]?=some x->x.1.dst=some t->p (i+k)=true->
 (∀G y,k<G->l[G]?=some y->y.1.dst=some t->p (i+G)=false)->tv p t i l d=some x.2
 |i,0,z::l,d,x,E,hx,hp,h=>by
  simp only [Z3,ZD]at E;subst E;simp only [tv];simp only [RT]at hp;simp only [hp,hx,and_self,Mp];rw [FO p (fun _=>false) t (i+1) l _ fun k y E hy=>by
   have:=h (k+1) y (by omega) (by simpa using E) hy;rwa [show i+(k+1)=i+1+k from by omega]at this]
  have:∀(i:Nat) (l:List (Oper×A3)) (d:Option A3),tv (fun _=>false) t i l d=d:=by
   intro i l;induction l generalizing i with
   |nil=>intro d;rfl
   |cons y l ih=>intro d;simp [tv,ih]
  rw [this]
 |i,k+1,z::l,d,x,E,hx,hp,h=>by
  simp only [tv];exact gN p t (i+1) k l _ x (by simpa using E) hx (by rwa [show i+1+k=i+(k+1) from by omega]) fun G y J hy I=>by
   have:=h (G+1) y A0 (by simpa using hy) I;rwa [show i+(G+1)=i+1+G from by omega]at this
 |i,k,[],d,x,E,_,_,_=>by simp at E
def pre(j:Nat)(l:List (Oper×A3))(a:Act):Act:=(l.take j).foldl (fun a x=>a.put x.1.dst x.2) a
theorem RX(j:Nat):∀(i:Nat) (l:List (Oper×A3)) (a:Act),LD (fun k=>decide (k<i+j)) i l a=pre j l a:=by
 induction j with
 |zero=>
  intro i l;induction l generalizing i with
  |nil=>intro a;rfl
  |cons x l ih=>
   intro a;simp only [LD,RT,Nat.lt_irrefl,eC,PC,LN];have:∀(m i:Nat) (l:List (Oper×A3)) (a:Act),i<=m->LD (fun k=>decide (k<i)) m l a=a:=by
    intro m i l;induction l generalizing m with
    |nil=>intro a _;rfl
    |cons y l ih=>intro a h;simp only [LD];rw [Ax Of];exact ih (m+1) a A0
   rw [this (i+1) i l a A0];rfl
 |succ j ih=>
  intro i l a;cases l with
  |nil=>rfl
  |cons x l=>
   simp only [LD];rw [B2 C4];have:=ih (i+1) l (a.put x.1.dst x.2)
   rw [show i+1+j=i+(j+1) from by omega]at this;rw [this];rfl
def FU(fs:List Bool):Nat:=(fs.filter id).length
def Ml(P:Program)(ops:Array Oper)(o:Oper)(a:Act)(v:A3)(R:AD->Prop)(w:AD):Prop:=
 ∀K:A3->AD->Prop,(∀w',R w'->K v w')->if Region.wanted o (yielded ops a.tmps)then linUpon P K ((execOp a.eval o).run P w)else K undef w
theorem Le(a:Act):∀env,(putsE env a).tmps.size=a.tmps.size
 |[]=>rfl
 |(d,v)::env=>by simp only [putsE];rw [EP,Le a env]
theorem O5(a:Act):∀(env:List (Nat×A3)),(∀x∈env,x.1<a.tmps.size)->∀t,(putsE env a).tmps.getD t undef=lookE a env t
 |[],_,t=>rfl
 |(d,v)::env,h,t=>by
  simp only [putsE,lookE];have E:=O5 a env (fun x hx=>h x (Mu _ hx)) t
  have G:=h (d,v) (P0 ..);rw [Lw]at E⊢;by_cases J:t<a.tmps.size
  · rw [Jb _ _ _ _ (by rw [Le];exact J)]
    by_cases e:t=d
    · subst e;simp
    · rw [Ax e,<-E,Ax (fun I=>e (SD I).symm)]
  · rw [Lk (by rw [EP,Le];omega)]
    rw [Lk (by rw [Le];omega)]at E;rw [<-E,Ax (by simp only at G;omega)]
theorem dE(a:Act)(env:List (Nat×A3))(h:∀x∈env,x.1<a.tmps.size):(putsE env a).eval=evalE a env:=by
 funext x;cases x with
 |tmp t=>exact O5 a env h t
 |_=>rfl
theorem az(ops:Array Oper)(o:Oper)(a:Act)(env:List (Nat×A3))(h:∀x∈env,x.1<a.tmps.size):Region.wanted o (yielded ops (putsE env a).tmps)=wantedE ops a env o.guard:=by
 unfold Region.wanted wantedE;cases hg:o.guard with
 |none=>rfl
 |some gw=>
  obtain ⟨g,E⟩:=gw;simp only [yielded,yieldE];cases ht:(ops[g]?).bind (·.dst)with
  |none=>simp
  |some t=>
   simp only [I0];rw [<-O5 a env h t,Lw];cases hv:(putsE env a).tmps[t]?with
   |none=>simp [undef]
   |some v=>cases v<;>simp
theorem Vm{P:Program}{ops:Array Oper}{o:Oper}{a:Act}{env:List (Nat×A3)}{v:A3}{R:AD->Prop}{w:AD}(h:∀x∈env,x.1<a.tmps.size)(G:Z9 P ops o a env v R w):Ml P ops o (putsE env a) v R w:=by
 intro K E;have:=G K E
 rw [az ops o a env h,dE a env h];exact this
theorem Rh{P:Program}{ops:Array Oper}{S:Nat->AD->Prop}{Q:Act->AD->Prop}{a:Act}:∀(l:List Oper) (fs:List Bool) (k:Nat) (env:List (Nat×A3)),(∀o∈l,∀d,o.dst=some d->d<a.tmps.size)->(∀x∈env,x.1<a.tmps.size)->NV P ops S Q a k l fs env->
 ∃x:List (Oper×A3),x.map (·.1)=l/\
  (∀j o v,x[j]?=some (o,v)->(fs.getD j false=true->∀w,S (k+FU (fs.take j)) w->Ml P ops o (pre j x (putsE env a)) v (S (k+FU (fs.take j)+1)) w)/\
    (fs.getD j false=false->∀i w,S i w->Ml P ops o (pre j x (putsE env a)) v (S i) w))/\
  ∀w,S (k+FU (fs.take l.length)) w->Q (pre l.length x (putsE env a)) w
 |[],fs,k,env,_,_,h=>⟨[],rfl,fun j o v E=>by simp at E,by simpa [NV,FU,pre]using h⟩
 |o::l,true::fs,k,env,hd,he,h=>by
  obtain ⟨v,W,h2⟩:=h;have I:∀x∈putE o.dst v env,x.1<a.tmps.size:=by
   intro x hx;unfold putE at hx;split at hx
   · rename_i d hdd
     rcases H4.1 hx with rfl|hx
     · exact hd o (P0 ..) d hdd
     · exact he x hx
   · exact he x hx
  have J:putsE (putE o.dst v env) a=(putsE env a).put o.dst v:=by unfold putE;split<;>(rename_i hdd;rw [hdd];rfl)
  obtain ⟨x,hx,M,K⟩:=Rh l fs (k+1) _ (fun o' X=>hd o' (Mu _ X)) I h2;rw [J]at M K;refine ⟨(o,v)::x,by simp [hx],fun j o' Z E=>?_,fun w G=>?_⟩
  · cases j with
    |zero=>
     simp only [Z3,ZD,kh]at E;obtain ⟨rfl,rfl⟩:=E;exact ⟨fun _ w G=>Vm he (W w (by simpa [FU]using G)),fun h=>by simp at h⟩
    |succ j=>
     obtain ⟨O,U⟩:=M j o' Z (by simpa using E);have e:k+FU ((true::fs).take (j+1))=k+1+FU (fs.take j):=by simp [FU];omega
     rw [e];exact ⟨fun h=>O (by simpa using h),fun h=>U (by simpa using h)⟩
  · have e:k+FU ((true::fs).take (o::l).length)=k+1+FU (fs.take l.length):=by simp [FU];omega
    rw [e]at G;exact K w G
 |o::l,false::fs,k,env,hd,he,h=>by
  obtain ⟨v,W,h2⟩:=h;have I:∀x∈putE o.dst v env,x.1<a.tmps.size:=by
   intro x hx;unfold putE at hx;split at hx
   · rename_i d hdd
     rcases H4.1 hx with rfl|hx
     · exact hd o (P0 ..) d hdd
     · exact he x hx
   · exact he x hx
  have J:putsE (putE o.dst v env) a=(putsE env a).put o.dst v:=by unfold putE;split<;>(rename_i hdd;rw [hdd];rfl)
  obtain ⟨x,hx,M,K⟩:=Rh l fs k _ (fun o' X=>hd o' (Mu _ X)) I h2;rw [J]at M K;refine ⟨(o,v)::x,by simp [hx],fun j o' Z E=>?_,fun w G=>?_⟩
  · cases j with
    |zero=>
     simp only [Z3,ZD,kh]at E;obtain ⟨rfl,rfl⟩:=E;exact ⟨fun h=>by simp at h,fun _ i w G=>Vm he (W i w G)⟩
    |succ j=>
     obtain ⟨O,U⟩:=M j o' Z (by simpa using E);have e:k+FU ((false::fs).take (j+1))=k+FU (fs.take j):=by simp [FU]
     rw [e];exact ⟨fun h=>O (by simpa using h),fun h=>U (by simpa using h)⟩
  · have e:k+FU ((false::fs).take (o::l).length)=k+FU (fs.take l.length):=by simp [FU]
    rw [e]at G;exact K w G
 |_::_,[],_,_,_,_,h=>(h:False).elim
theorem QZ(n j:Nat)(p q:Nat->Bool)(J:j<n)(G:p j=false)(I:q j=true)(h:∀i,i<n->i≠j->p i=q i):(List.range n).countP q=(List.range n).countP p+1:=by
 induction n with
 |zero=>omega
 |succ n ih=>
  rw [gA,j0,j0];by_cases e:j=n
  · subst e
    have:(List.range j).countP q=(List.range j).countP p:=List.countP_congr fun i hi=>by
     have:=N6.1 hi;rw [h i A0 A0]
    simp [this,G,I]
  · have:=ih A0 fun i hi hn=>h i A0 hn
    have E:=h n A0 (Ne.symm e);simp only [List.countP_singleton,E];omega
theorem Lv(n:Nat)(p q:Nat->Bool)(h:∀i,i<n->p i=q i):(List.range n).countP q=(List.range n).countP p:=
 List.countP_congr fun i hi=>by rw [h i (N6.1 hi)]
theorem OT(fs:List Bool)(n:Nat)(hn:n<=fs.length):∀j,j<=n->(List.range n).countP (fun i=>decide (i<j)&&fs.getD i false)=FU (fs.take j)
 |0,_=>by simp [FU]
 |j+1,hj=>by
  have G:=OT fs n hn j A0;have J:fs.take (j+1)=fs.take j++[fs[j]]:=by rw [l4 A0]
  have E:fs.getD j false=fs[j]:=by simp [Bk (show j<fs.length by omega)]
  rw [J];cases hb:fs[j]with
  |true=>
   rw [QZ n j (fun i=>decide (i<j)&&fs.getD i false) _ A0 C4 (by simp only [E,hb];simp) (fun i _ I=>by
    have:decide (i<j)=decide (i<j+1):=by apply decide_eq_decide.2;omega
    simp only [this]),G]
   simp [FU]
  |false=>
   rw [Lv n (fun i=>decide (i<j)&&fs.getD i false) _ (fun i _=>by
    by_cases e:i=j
    · subst e;simp only [E,hb];simp
    · have:decide (i<j)=decide (i<j+1):=by apply decide_eq_decide.2;omega
      simp only [this]),G]
   simp [FU]
structure JR(ops:Array Oper)(fl:List Bool)(N:Nat):Prop where
 len:fl.length=ops.size
 edge:∀j oj e,ops[j]?=some oj->e∈oj.after->Region.binds .any e=true->e.on<j
 anc:∀j oj i,ops[j]?=some oj->i<j->((Region.before ops).getD j 0).testBit i=true->∃e∈oj.after,Region.binds .any e=true/\(e.on=i\/(i<e.on/\((Region.before ops).getD e.on 0).testBit i=true))
 apart:∀i j oi oj,ops[i]?=some oi->ops[j]?=some oj->i<j->oi.apart ops oj=true\/((Region.before ops).getD j 0).testBit i=true
 flags:∀i j oj,ops[j]?=some oj->i<j->fl.getD i false=true->fl.getD j false=true->((Region.before ops).getD j 0).testBit i=true
 sel:∀(j:Nat) (oj:Oper) (cs:Array SelectCase) (b:Bool),ops[j]?=some oj->oj.op≠ .select cs b
 room:∀(j:Nat) (oj:Oper) (d:Nat),ops[j]?=some oj->oj.dst=some d->d<N
theorem eD{ops:Array Oper}{fl:List Bool}{N:Nat}(h:TS ops fl N=true):JR ops fl N:=by
 simp only [TS,HB,LL,PF,N6]at h;obtain ⟨h0,h⟩:=h;have G:∀{j:Nat} {o:Oper},ops[j]?=some o->j<ops.size:=fun E=>(LO.1 E).1
 refine ⟨h0,fun j oj e E O M=>?_,fun j oj i E hi M=>?_,fun i j K oj hi E I=>?_,fun i j oj E I U h2=>?_,fun j oj cs b E Z=>?_,fun j oj d E W=>?_⟩
 · have:=h j (G E)
   simp only [E,HB,PF]at this;have:=this.1.1.1 e (by simpa using O)
   simpa [M]using this
 · have:=h j (G E)
   simp only [E,HB,PF,N6]at this;have:=this.1.1.2 i hi
   obtain ⟨K,J⟩:∃K,ops[i]?=some K:=⟨_,KK (by have:=G E;omega)⟩;simp only [J,HB]at this;have:=this.1.1
   rw [M]at this;simp only [S2,ke,me,HB,Wa,beq_iff_eq,LL]at this;obtain ⟨e,O,M,X⟩:=this;exact ⟨e,by simpa using O,M,X⟩
 · have:=h j (G E)
   simp only [E,HB,PF,N6]at this;have:=this.1.1.2 i I
   simp only [hi,HB,Wa]at this;exact this.1.2
 · have:=h j (G E)
   simp only [E,HB,PF,N6]at this;have:=this.1.1.2 i I
   obtain ⟨K,J⟩:∃K,ops[i]?=some K:=⟨_,KK (by have:=G E;omega)⟩;simp only [J,HB]at this;have:=this.2
   rw [U,h2]at this;simpa using this
 · have:=h j (G E)
   simp only [E,HB]at this;rw [Z]at this;simp at this
 · have:=h j (G E)
   simp only [E,HB]at this;rw [W]at this;simpa using this.2
def fu(ops:Array Oper)(L:Array Bool):Prop:=∀j oj,ops[j]?=some oj->L.getD j false=true->∀e∈oj.after,Region.binds .any e=true->L.getD e.on false=true
theorem Gb{ops:Array Oper}{fl:List Bool}{N:Nat}(F:JR ops fl N){L:Array Bool}(Z:fu ops L):∀(j i:Nat) (oj:Oper),ops[j]?=some oj->i<j->((Region.before ops).getD j 0).testBit i=true->
 (∀e∈oj.after,Region.binds .any e=true->L.getD e.on false=true)->L.getD i false=true:=by
 intro j;induction j using Nat.strongRecOn with
 |ind j ih=>
  intro i oj U hi hb X;obtain ⟨e,M,E,G⟩:=F.anc j oj i U hi hb;rcases G with rfl|⟨hie,G⟩
  · exact X e M E
  · have W:=F.edge j oj e U M E
    obtain ⟨J,I⟩:∃J,ops[e.on]?=some J:=⟨_,KK (by have:=(LO.1 U).1;omega)⟩;exact ih e.on W i J I hie G (fun e' O K=>Z e.on J I (X e M E) e' O K)
theorem Ls{ops:Array Oper}{o:Oper}{a b:Act}(h:∀t∈o.looksAt ops,a.tmps[t]?=b.tmps[t]?):∀x∈o.op.operands,a.eval x=b.eval x:=by
 intro x hx;cases x with
 |tmp t=>
  have E:t∈o.looksAt ops:=HE _ (cW.2 ⟨.tmp t,by simpa using hx,rfl⟩);have:=h t E
  simp only [Act.eval,Lw,this]
 |_=>rfl
theorem IE{ops:Array Oper}{o:Oper}{a b:Act}(h:∀t∈o.looksAt ops,a.tmps[t]?=b.tmps[t]?):Region.wanted o (yielded ops a.tmps)=Region.wanted o (yielded ops b.tmps):=by
 unfold Region.wanted;cases hg:o.guard with
 |none=>rfl
 |some gw=>
  obtain ⟨g,E⟩:=gw;have hy:yielded ops a.tmps g=yielded ops b.tmps g:=by
   unfold yielded;cases ht:(ops[g]?).bind (·.dst)with
   |none=>rfl
   |some t=>
    have:=h t (by simp [Oper.looksAt,hg,ht]);simp [this]
  simp only [hy]
theorem Z8{P:Program}{ops:Array Oper}{i:Nat}{o:Oper}{a b:Act}{v:A3}{R:AD->Prop}{w:AD}{Q:Exit->Act->AD->Prop}{K:Act->AD->Prop}
 (hi:ops[i]?=some o)(I:∀cs b,o.op≠ .select cs b)(O:∀t∈o.looksAt ops,a.tmps[t]?=b.tmps[t]?)
 (h:Ml P ops o b v R w)(J:∀G,R G->K (a.put o.dst v) G):wpOp P ops Q i K a w:=by
 have E:=h (fun u G=>u=v/\R G) (fun G M=>⟨rfl,M⟩);unfold wpOp;simp only [hi];rw [IE O];by_cases M:Region.wanted o (yielded ops b.tmps)=true
 · rw [B2 M]at E⊢
   refine .inl ?_;unfold Oper.wp;rw [execOp_congr o I (Ls O)];generalize (execOp b.eval o).run P w=r at*;cases r with
   |ok n G=>
    cases n<;>simp only [Oper.upon,linUpon]at E⊢
    case value u=>rw [E.1];exact J _ E.2
    case skip=>rw [E.1];exact J _ E.2
    case enter f args=>
     refine Calls.mono E fun e Z W=>?_;obtain ⟨u,rfl,X,U⟩:=W;simp only;rw [X];exact J _ U
   |halt x G=>simp only [linUpon]at E
 · rw [Ax M]at E⊢
   rw [E.1];exact J _ E.2
section
variable{P:Program}{ops:Array Oper}{fl:List Bool}{N:Nat}{S:Nat->AD->Prop}{Q:Exit->Act->AD->Prop}{x:List (Oper×A3)}{a0:Act}
structure Kg(ops:Array Oper)(fl:List Bool)(S:Nat->AD->Prop)(x:List (Oper×A3))(a0:Act)(L:Array Bool)(a:Act)(w:AD):Prop where
 size:L.size=ops.size
 shut:fu ops L
 act:a=LD (fun i=>L.getD i false) 0 x a0
 stage:S ((List.range ops.size).countP fun i=>L.getD i false&&fl.getD i false) w
theorem qM(F:JR ops fl N)(hx:x.map (·.1)=ops.toList)
 (hs:∀j o v,x[j]?=some (o,v)->(fl.getD j false=true->∀w,S (FU (fl.take j)) w->Ml P ops o (pre j x a0) v (S (FU (fl.take j)+1)) w)/\
   (fl.getD j false=false->∀i w,S i w->Ml P ops o (pre j x a0) v (S i) w))
 {L:Array Bool}{a:Act}{w:AD}(H:Kg ops fl S x a0 L a w){j:Nat}(hj:j∈Region.ready .any ops L){K:Act->AD->Prop}
 (hK:∀a' w',Kg ops fl S x a0 (L.setIfInBounds j true) a' w'->K a' w'):wpOp P ops Q j K a w:=by
 obtain ⟨gy,oj,E,cu⟩:=mem_ready.1 hj;have W:j<ops.size:=(LO.1 E).1
 have p9:x.length=ops.size:=by have:=congrArg List.length hx;simpa using this
 have kv:∀k,k<ops.size->∃o v,x[k]?=some (o,v)/\ops[k]?=some o:=fun k hk=>by
  obtain ⟨y,hy⟩:∃y,x[k]?=some y:=⟨_,Bk A0⟩;refine ⟨y.1,y.2,hy,?_⟩;have:(x.map (·.1))[k]?=some y.1:=by simp [hy]
  rw [hx]at this;simpa using this
 have l9:∀(k:Nat) (y:Oper×A3),x[k]?=some y->ops[k]?=some y.1:=fun k y hy=>by
  have:(x.map (·.1))[k]?=some y.1:=by simp [hy]
  rw [hx]at this;simpa using this
 obtain ⟨o',v,bn,l8⟩:=kv j W;obtain rfl:oj=o':=by rw [E]at l8;exact SD l8
 have O:L.getD j false=false:=by
  rw [Lw]at gy⊢;rw [KK (by rw [H.size];exact W)]at gy⊢;simpa using gy
 have I:∀i,i<j->((Region.before ops).getD j 0).testBit i=true->L.getD i false=true:=fun i hi hb=>Gb F H.shut j i oj E hi hb cu;have J:∀i oi,ops[i]?=some oi->j<i->((Region.before ops).getD i 0).testBit j=true->L.getD i false=false:=fun i oi Z oq hb=>by
  cases h:L.getD i false with
  |false=>rfl
  |true=>
   have:=Gb F H.shut i j oi Z oq hb (fun e he o9=>H.shut i oi Z h e he o9);rw [O]at this;cases this
 have o8:∀(t:Nat),(t∈oj.looksAt ops\/oj.dst=some t)->∀(k:Nat) (y:Oper×A3),x[k]?=some y->y.1.dst=some t->k≠j->L.getD k false=decide (k<j):=by
  intro t M k y hy U hk;have gq:=l9 k y hy
  rcases FA k j with hlt|hge
  · rw [Cp hlt]
    refine I k hlt ((F.apart k j y.1 oj gq E hlt).resolve_left fun ek=>?_);obtain ⟨h1,h2,h3⟩:=Oper.apart_spec ek;rcases M with M|M
    · exact h1 t U M
    · exact h2 t U M
  · have kz:j<k:=by omega
    rw [CC A0];refine J k y.1 gq kz ((F.apart j k oj y.1 E gq kz).resolve_left fun ek=>?_);obtain ⟨h1,h2,h3⟩:=Oper.apart_spec ek;rcases M with M|M
    · exact h3 t U M
    · exact h2 t M U
 have ax:a.tmps.size=a0.tmps.size:=by rw [H.act,DX]
 have mR:(pre j x a0).tmps.size=a0.tmps.size:=by rw [<-RX j 0 x a0,DX]
 have X:∀t∈oj.looksAt ops,a.tmps[t]?=(pre j x a0).tmps[t]?:=by
  intro t M;by_cases bf:t<a0.tmps.size
  · rw [H.act,<-RX j 0 x a0,EN _ _ _ _ _ bf,EN _ _ _ _ _ bf]
    refine FO _ _ t 0 x _ fun k y hy U=>?_;simp only [Dd];by_cases e:k=j;· subst e;rw [O];simp
    · exact o8 t (.inl M) k y hy U e
  · rw [Lk (by rw [ax];exact ee bf),Lk (by rw [mR];exact ee bf)]
 have G:∀i,(L.setIfInBounds j true).getD i false=if i=j then true else L.getD i false:=fun i=>by
  by_cases e:i=j
  · subst e;simp [H.size,W]
  · rw [getD_set_ne false (Ne.symm e),Ax e]
 have d9:∀w',(∀k,k=((List.range ops.size).countP fun i=>(L.setIfInBounds j true).getD i false&&fl.getD i false)->S k w')->Kg ops fl S x a0 (L.setIfInBounds j true) (a.put oj.dst v) w':=by
  intro w' af;refine ⟨by simp [H.size],fun k ok hk hl e he hb=>?_,?_,af _ V⟩
  · rw [G]at hl
    rw [G];by_cases e1:k=j
    · subst e1
      rw [E]at hk;obtain rfl:=SD hk;rw [cu e he hb];simp
    · rw [Ax e1]at hl
      rw [H.shut k ok hk hl e he hb];simp
  · refine Jh ?_ ?_ fun t M=>?_
    · rw [EP,DX,ax]
    · rw [KT,Fh,H.act,Fh]
    · rw [EP,ax]at M
      rw [Jb _ _ _ _ (by rw [ax];exact M),EN _ _ _ _ _ M];by_cases U:oj.dst=some t
      · rw [B2 U]
        refine (gN _ t 0 j x _ (oj,v) bn U (by simp [H.size,W]) fun k y hk hy gm=>?_).symm;simp only [Dd];rw [G,Ax A0,o8 t (.inr U) k y hy gm A0];simp;omega
      · rw [Ax U,H.act,EN _ _ _ _ _ M]
        refine FO _ _ t 0 x _ fun k y hy gm=>?_;simp only [Dd];rw [G];by_cases e:k=j
        · subst e
          rw [bn]at hy;obtain rfl:=SD hy;exact absurd gm U
        · rw [Ax e]
 cases hf:fl.getD j false with
 |false=>
  refine Z8 E (F.sel j oj · · E) X ((hs j oj v bn).2 hf _ w H.stage) fun w' af=>hK _ _ (d9 w' fun k hk=>?_);rw [hk,Lv ops.size (fun i=>L.getD i false&&fl.getD i false) _ fun i _=>by
   rw [G];by_cases e:i=j;· subst e;simp only [hf];simp
   · rw [Ax e]]
  exact af
 |true=>
  have cO:((List.range ops.size).countP fun i=>L.getD i false&&fl.getD i false)=FU (fl.take j):=by
   rw [<-OT fl ops.size (by rw [F.len];exact B4 _) j A0];refine Lv _ _ _ fun i hi=>?_;cases hfi:fl.getD i false with
   |false=>simp
   |true=>
    simp only [el];rcases Nat.lt_trichotomy i j with h|h|h
    · rw [I i h (F.flags i j oj E h hfi hf)];simp [h]
    · subst h;rw [O];simp
    · obtain ⟨oi,Z⟩:∃oi,ops[i]?=some oi:=⟨_,KK hi⟩
      rw [J i oi Z h (F.flags j i oi Z h hf hfi)];simp;omega
  have lv:=H.stage;rw [cO]at lv;refine Z8 E (F.sel j oj · · E) X ((hs j oj v bn).1 hf w lv) fun w' af=>hK _ _ (d9 w' fun k hk=>?_);rw [hk,QZ ops.size j (fun i=>L.getD i false&&fl.getD i false) _ W (by simp only [O];rfl) (by simp only [G,hf];simp) (fun i _ p8=>by rw [G,Ax p8]),cO];exact af
theorem XC(F:JR ops fl N)(hx:x.map (·.1)=ops.toList)
 (hs:∀j o v,x[j]?=some (o,v)->(fl.getD j false=true->∀w,S (FU (fl.take j)) w->Ml P ops o (pre j x a0) v (S (FU (fl.take j)+1)) w)/\
   (fl.getD j false=false->∀i w,S i w->Ml P ops o (pre j x a0) v (S i) w))
 (hq:∀w,S (FU (fl.take ops.size)) w->Q .normal (pre ops.size x a0) w):
 ∀(E:Nat) (L:Array Bool) (a:Act) (w:AD),((List.range ops.size).countP fun i=>!L.getD i false)<=E->Kg ops fl S x a0 L a w->wpAny P .any ops Q E L a w:=by
 have O:∀(L:Array Bool) (a:Act) (w:AD),Kg ops fl S x a0 L a w->Region.ready .any ops L=[]->Q .normal a w:=by
  intro L a w H U;have M:∀j,j<ops.size->L.getD j false=true:=by
   intro j;induction j using Nat.strongRecOn with
   |ind j ih=>
    intro W;cases hl:L.getD j false with
    |true=>rfl
    |false=>
     obtain ⟨oj,J⟩:∃oj,ops[j]?=some oj:=⟨_,KK W⟩;have:j∈Region.ready .any ops L:=mem_ready.2 ⟨by
      rw [Lw,KK (by rw [H.size];exact W)]at hl⊢;simpa using hl,oj,J,fun e he hb=>by
       have:=F.edge j oj e J he hb;exact ih e.on this A0⟩
     rw [U]at this;cases this
  have ax:x.length=ops.size:=by have:=congrArg List.length hx;simpa using this
  have ha:a=pre ops.size x a0:=by
   rw [H.act,<-RX ops.size 0 x a0];have X:∀(t:Nat) (k:Nat) (y:Oper×A3),x[k]?=some y->y.1.dst=some t->(fun i=>L.getD i false) (0+k)=(fun k=>decide (k<0+ops.size)) (0+k):=fun t k y hy _=>by
    have:k<x.length:=(D3.1 hy).1;simp only [Dd];rw [M k A0];simp;omega
   refine Jh (by rw [DX,DX]) (by rw [Fh,Fh]) fun t ht=>?_;rw [DX]at ht;rw [EN _ _ _ _ _ ht,EN _ _ _ _ _ ht];exact FO _ _ t 0 x _ (X t)
  rw [ha];refine hq w ?_;have af:=H.stage
  rw [<-OT fl ops.size (by rw [F.len];exact B4 _) ops.size (B4 _)];rw [Lv ops.size (fun i=>L.getD i false&&fl.getD i false) _ fun i hi=>by rw [M i hi];simp [hi]];exact af
 intro E;induction E with
 |zero=>
  intro L a w hc H;have U:Region.ready .any ops L=[]:=by
   cases U:Region.ready .any ops L with
   |nil=>rfl
   |cons j js=>
    have W:j∈Region.ready .any ops L:=by rw [U];exact P0 ..
    obtain ⟨G,oj,J,_⟩:=mem_ready.1 W;have I:j<ops.size:=(LO.1 J).1
    have K:L.getD j false=false:=by
     rw [Lw]at G⊢;rw [KK (by rw [H.size];exact I)]at G⊢;simpa using G
    have:0<(List.range ops.size).countP fun i=>!L.getD i false:=List.countP_pos_iff.2 ⟨j,N6.2 I,by rw [K];rfl⟩;omega
  exact ⟨U,O L a w H U⟩
 |succ E ih=>
  intro L a w hc H;refine ⟨fun U=>O L a w H U,fun j W=>qM F hx hs H W fun a' w' H'=>ih _ a' w' ?_ H'⟩;obtain ⟨G,oj,J,_⟩:=mem_ready.1 W;have I:j<ops.size:=(LO.1 J).1
  have K:L.getD j false=false:=by
   rw [Lw]at G⊢;rw [KK (by rw [H.size];exact I)]at G⊢;simpa using G
  have:=QZ ops.size j (fun i=>!(L.setIfInBounds j true).getD i false) (fun i=>!L.getD i false) I (by simp [H.size,I]) (by rw [K];rfl) (fun i _ Z=>by rw [getD_set_ne false (Ne.symm Z)]);omega
end
theorem wpLin_keep{P:Program}{ops:Array Oper}{S:Nat->AD->Prop}{Q:Act->AD->Prop}{a:Act}{k:Nat}{o:Oper}{l:List Oper}{fs:List Bool}{env:List (Nat×A3)}{v:A3}(h:∀j w,S j w->Z9 P ops o a env v (S j) w)(h2:NV P ops S Q a k l fs (putE o.dst v env)):NV P ops S Q a k (o::l) (false::fs) env:=⟨v,h,h2⟩
theorem wpLin_move{P:Program}{ops:Array Oper}{S:Nat->AD->Prop}{Q:Act->AD->Prop}{a:Act}{k:Nat}{o:Oper}{l:List Oper}{fs:List Bool}{env:List (Nat×A3)}{v:A3}(h:∀w,S k w->Z9 P ops o a env v (S (k+1)) w)(h2:NV P ops S Q a (k+1) l fs (putE o.dst v env)):NV P ops S Q a k (o::l) (true::fs) env:=⟨v,h,h2⟩
theorem wpLin_done{P:Program}{ops:Array Oper}{S:Nat->AD->Prop}{Q:Act->AD->Prop}{a:Act}{k:Nat}{env:List (Nat×A3)}{fs:List Bool}(h:∀w,S k w->Q (putsE env a) w):NV P ops S Q a k [] fs env:=h
theorem wp_region_lin{P:Program}{id:Nat}{ops:Array Oper}{Q:Exit->Act->AD->Prop}{a:Act}{w:AD}(fl:List Bool)(S:Nat->AD->Prop)(N:Nat)(M:a.tmps.size=N)
 (W:P.follows .mixedOrders=true)(G:TS ops fl N=true)(O:S 0 w.drew)(h:∀I,I=a->NV P ops S (fun a w=>Q .normal a w) I 0 ops.toList fl []):(Code.region id ops true).wp P Q a w:=by
 have F:=eD G;obtain ⟨x,hx,hs,Z⟩:=Rh _ _ _ _ (fun o X d U=>by
  obtain ⟨j,E⟩:=List.mem_iff_getElem?.1 X;rw [M];exact F.room j o d (by simpa using E) U) (fun x hx=>by cases hx) (h a V)
 refine wp_region_any W (XC (S:=S) (a0:=a) F hx (fun j o v E=>?_) ?_ _ _ _ _ ?_ ?_)
 · have:=hs j o v E
   simpa [putsE]using this
 · simpa [putsE]using Z
 · refine To List.countP_le_length ?_
   simp
 · refine ⟨by simp,fun j oj E J=>?_,?_,?_⟩
   · simp [fg]at J
     split at J<;>simp_all
   · have:=RX 0 0 x a
     refine Jh (by rw [DX]) (by rw [Fh]) fun t K=>?_;rw [EN _ _ _ _ _ K];rw [FO _ (fun k=>decide (k<0+0)) t 0 x _ fun k y _ _=>by simp [fg];split<;>rfl];rw [<-EN _ _ _ _ _ K,this];rfl
   · have:((List.range ops.size).countP fun i=>(Array.replicate ops.size false).getD i false&&fl.getD i false)=0:=by
      rw [List.countP_eq_zero];intro i _;simp [fg];split<;>simp
     rw [this];exact O
end Gl
namespace Gw
open Go Go.RowKit Go.Sort
theorem aA{α:Type}(f:α->List A3)(k:Nat)(E:∀x,(f x).length=k):∀(l:List α) (i r:Nat) (a:α),l[i]?=some a->r<k->(l.flatMap f)[i*k+r]?=(f a)[r]?
 |[],i,r,a,h,_=>by simp at h
 |x::l,0,r,a,h,hr=>by
  simp only [Z3,ZD]at h;subst h;rw [L0,Wf,Dd,ff (by rw [E];exact hr)]
 |x::l,i+1,r,a,h,hr=>by
  simp only [bj]at h;rw [L0,Ss (by rw [E,Lq];omega),E,show(i+1)*k+r -k=i*k+r by rw [Lq];omega];exact aA f k E l i r a h hr
theorem ZZ{α:Type}(f:α->List A3)(k:Nat)(E:∀x,(f x).length=k):∀(l:List α),(l.flatMap f).length=l.length*k
 |[]=>by simp
 |x::l=>by rw [L0,C7,ZZ f k E l,E,GB,Lq];omega
theorem Tj{α:Type} [Inhabited α](f:α->List A3)(k:Nat)(E:∀x,(f x).length=k)(l:List α):(flatK f k l.toArray).toList=l.flatMap f:=by
 apply S8;intro t;by_cases G:t<l.length*k
 · have K:0<k:=by
    rcases P2 k with h|h
    · subst h;simp at G
    · exact h
   have I:t/k<l.length:=lr (by rwa [kk]at G);have h2:t%k<k:=gS _ K
   have e:=aA f k E l (t/k) (t%k) l[t/k] (Bk I) h2;rw [Nat.div_add_mod' t k]at e;rw [e];have J:t%k<(f l[t/k]).length:=by rw [E];exact h2
   unfold flatK;rw [Kf];simp [G,I,J]
 · rw [RC Of,RC (by rw [ZZ f k E];omega)]
theorem eX{α:Type} [Inhabited α]{w:AD}{g:Nat}{cur:As}{e:An}{z:Nat×Nat}(f:α->List A3)(k:Nat)(M:∀x,(f x).length=k)(l:List α)(K:w.heap[g]?=some (.cells cur e z))(O:l.length*k<=cur.size)(E:M6 z cur.size)(U:cur.toList.take (l.length*k)=l.flatMap f):HoldsK f k w g 0 l.toArray:=by
 intro j G;have I:j<l.length*k:=by simpa using G
 have W:=E j A0;have h0:=Tj f k M l
 have J:(cur.toList.take (l.length*k))[j]?=(flatK f k l.toArray).toList[j]?:=by rw [U,h0]
 rw [oE I,Kf,Kf]at J;refine ⟨?_,?_⟩
 · simp only [World.cell?,K,Dd]
   simp only [Option.isSome_none,PC,LN];rw [J,KK G,getElem!_pos _ j G];rfl
 · simp only [World.frozen?,K,Dd]
   simp;omega
theorem kH(cur F:As)(h:F.size<=cur.size):(putCells id 0 F cur).toList.take F.size=F.toList:=by
 apply S8;intro j;rw [I3];by_cases E:j<F.size
 · rw [B2 E,Kf]
   unfold putCells;rw [Array.getElem?_mapIdx,KK A0];simp [E]
 · rw [Ax E,RC Of]
theorem VL(cur F:As):(putCells id 0 F cur).size=cur.size:=by simp [putCells]
theorem Sat.sortedK{α:Type} [Inhabited α]{u w:AD}{g n k:Nat}{cur:As}{e:An}{z:Nat×Nat}{R:Hp}(f:α->List A3)(d:Array α)(os:Array Obj)(h:Sat u ([(g,.cells cur e z)]::R) w):Sat u ([(g,.cells (putCells id 0 (flatK f k d) cur) e z)]::R) (Go.Proofs.sortWorldK f k w g 0 n d os):=by
 have I:=h.get (g,.cells cur e z) C4;have G:Sat u ([(g,.cells (putCells id 0 (flatK f k d) cur) e z)]::R) (putRowK f k (Sort.ahead w n) g 0 d):=by
  refine h.upd (.here _) V rfl V ?_ fun k E=>?_;· simp [putRowK,putRow,mapBlock,Sort.ahead,T5,I,onCells]
  · have:g≠k:=fun e=>E e.symm
    simp [putRowK,putRow,mapBlock,Sort.ahead,T5,this]
 exact G.below ⟨V,V,V,by simp [Go.Proofs.sortWorldK,grow],fun k E=>heap_grow_old _ _ E⟩
theorem Py{α:Type} [Inhabited α](f:α->List A3)(k:Nat)(w:AD)(g n b:Nat)(d:Array α)(os:Array Obj)(E:g≠b)(I:b<w.heap.size):(Go.Proofs.sortWorldK f k w g 0 n d os).heap[b]?=w.heap[b]?:=by
 have G:(putRowK f k (Sort.ahead w n) g 0 d).heap[b]?=w.heap[b]?:=by
  simp [putRowK,putRow,mapBlock,Sort.ahead,T5,E]
 unfold Go.Proofs.sortWorldK;rw [<-G];refine heap_grow_old _ _ ?_;simpa [putRowK,putRow,mapBlock,Sort.ahead]using I
end Gw
namespace Gw
open Go Go.RowKit
section
variable{P:Program}{u:AD}{env:Env}{H R:Hp}{d:Option Nat}{ty:An}{pos:String}{af:Array Edge}{g:Option (Nat×Bool)}
def U7(t1 t2 k1 k2:Int)(x y:V3):Prop:=t1=t2/\k1=k2/\x=y
instance(t1 t2 k1 k2:Int)(x y:V3):Decidable (U7 t1 t2 k1 k2 x y):=inferInstanceAs(Decidable (_/\_/\_))
theorem yl{t e ta:An}{f0 f1 f2:Field}(w:AD)(n:Nat)(t1 t2 k1 k2:Int)(x y:V3)(hu:P.underlying t=some (.struct #[f0,f1,f2]))(hst:P.stoodInHeld t=false)
 (h0:f0.name≠ "_"∧f0.type=e∧f0.offset=0)(h1:f1.name≠ "_"∧f1.type=e∧f1.offset=1)(h2:f2.name≠ "_"∧f2.type=ta∧f2.offset=2)
 (he:P.underlying e=some (.int .i64))(hta:P.underlying ta=some (.array 3 e))(ha:∀w:AD,(isAgg e).run P w= .ok false w)(hs:∀w:AD,(Go.sizeOf e).run P w= .ok 1 w)
 (haa:∀w:AD,(isAgg ta).run P w= .ok true w)(hsa:∀w:AD,(Go.sizeOf ta).run P w= .ok 3 w):
 (Op.equalIn (n+3) t (.agg #[I4 t1,I4 k1,I4 x.a,I4 x.b,I4 x.c]) (.agg #[I4 t2,I4 k2,I4 y.a,I4 y.b,I4 y.c])).run P w= .ok (decide (U7 t1 t2 k1 k2 x y)) w:=by
 obtain ⟨n0,e0,o0⟩:=h0;obtain ⟨n1,e1,o1⟩:=h1;obtain ⟨n2,e2,o2⟩:=h2;have ei:∀(m k:Int) (w:AD),(Op.equalIn (n+2) e (I4 m) (I4 k)).run P w= .ok (decide (m=k)) w:=fun m k w=>PY (n+1) w he m k
 have ea:∀(w:AD),(Op.equalIn (n+2) ta (.agg #[I4 x.a,I4 x.b,I4 x.c]) (.agg #[I4 y.a,I4 y.b,I4 y.c])).run P w= .ok (decide (x=y)) w:=fun w=>Ra w n x y hta he ha hs;have p0:∀(v0 v1 v2 v3 v4:A3) (w:AD),(part e #[v0,v1,v2,v3,v4] 0).run P w= .ok v0 w:=fun _ _ _ _ _ w=>FR w (ha w) _ _ rfl
 have p1:∀(v0 v1 v2 v3 v4:A3) (w:AD),(part e #[v0,v1,v2,v3,v4] 1).run P w= .ok v1 w:=fun _ _ _ _ _ w=>FR w (ha w) _ _ rfl;have p2:∀(v0 v1 v2 v3 v4:A3) (w:AD),(part ta #[v0,v1,v2,v3,v4] 2).run P w= .ok (.agg #[v2,v3,v4]) w:=fun _ _ _ _ _ w=>by simp [part,haa,hsa]
 rw [show n+3=(n+2)+1 from rfl,Op.equalIn];generalize n+2=m at*;simp only [Sem.run_bind,run_underlying hu,Result.andThen_ok,run_program,hst,PC,LN];rw [<-mB];simp only [fz,ka,n0,n1,n2,e0,e1,e2,o0,o1,o2,ne_eq,not_false_eq_true,Mp];simp only [Sem.run_bind,p0,p1,p2,ei,ea,Result.andThen_ok];have hd:decide (U7 t1 t2 k1 k2 x y)=(decide (t1=t2)&&(decide (k1=k2)&&decide (x=y))):=by
  by_cases h:U7 t1 t2 k1 k2 x y
  · rw [Cp h,Cp h.1,Cp h.2.1,Cp h.2.2];rfl
  · rw [CC h]
    by_cases c1:t1=t2<;>by_cases c2:k1=k2<;>by_cases c3:x=y<;>simp [c1,c2,c3]
    exact h ⟨c1,c2,c3⟩
 rw [hd];generalize decide (x=y)=b3 at*;by_cases c1:t1=t2<;>by_cases c2:k1=k2<;>cases b3<;>simp [c1,c2,p0,p1,p2,ei,ea,n1,n2]
section
variable{t yt e ta:An}{f0 f1 f2:Field}{x y:Operand}{t1 t2 k1 k2:Int}{p q:V3}
theorem QL(hg:P.eqGuardType P.depth t=false)(hu:P.underlying t=some (.struct #[f0,f1,f2]))(hst:P.stoodInHeld t=false)
 (h0:f0.name≠ "_"∧f0.type=e∧f0.offset=0)(h1:f1.name≠ "_"∧f1.type=e∧f1.offset=1)(h2:f2.name≠ "_"∧f2.type=ta∧f2.offset=2)
 (he:P.underlying e=some (.int .i64))(hta:P.underlying ta=some (.array 3 e))(ha:∀w:AD,(isAgg e).run P w= .ok false w)(hs:∀w:AD,(Go.sizeOf e).run P w= .ok 1 w)
 (haa:∀w:AD,(isAgg ta).run P w= .ok true w)(hsa:∀w:AD,(Go.sizeOf ta).run P w= .ok 3 w)
 (hx:∀a,ev a env x= .agg #[I4 t1,I4 k1,I4 p.a,I4 p.b,I4 p.c])(hy:∀a,ev a env y= .agg #[I4 t2,I4 k2,I4 q.a,I4 q.b,I4 q.c]):OpP P ⟨d,.binOp .neq t x y yt,ty,pos,af,g⟩ env [] (.bool (decide (¬U7 t1 t2 k1 k2 p q))):=fun a w _=>by
 simp [D6,hx a,hy a,go_sem,run_eqGuard_agg w _ t _ _ _ _ hg,N8,Op.equal,Op.maxDepth,yl w 9997 t1 t2 k1 k2 p q hu hst h0 h1 h2 he hta ha hs haa hsa]
end
theorem wF{t e:An}(w:AD)(n:Nat)(Z x1 x2 x3 x4 x5 y0 y1 y2 y3 y4 y5:Int)(hu:P.underlying t=some (.array 6 e))(he:P.underlying e=some (.int .i64))(ha:∀w:AD,(isAgg e).run P w= .ok false w)(hs:∀w:AD,(Go.sizeOf e).run P w= .ok 1 w):
 (Op.equalIn (n+2) t (.agg #[I4 Z,I4 x1,I4 x2,I4 x3,I4 x4,I4 x5]) (.agg #[I4 y0,I4 y1,I4 y2,I4 y3,I4 y4,I4 y5])).run P w= .ok (decide (Z=y0/\x1=y1/\x2=y2/\x3=y3/\x4=y4/\x5=y5)) w:=by
 have E:∀(m k:Int) (w:AD),(Op.equalIn (n+1) e (I4 m) (I4 k)).run P w= .ok (decide (m=k)) w:=fun m k w=>PY n w he m k;have U:∀(vs:As) (j:Nat) (v:A3) (w:AD),vs[j]?=some v->(part e vs j).run P w= .ok v w:=fun vs j v w h=>FR w (ha w) _ _ h
 have G:∀(v0 v1 v2 v3 v4 v5:A3) (w:AD),(part e #[v0,v1,v2,v3,v4,v5] 0).run P w= .ok v0 w:=fun _ _ _ _ _ _ w=>U _ _ _ w rfl;have I:∀(v0 v1 v2 v3 v4 v5:A3) (w:AD),(part e #[v0,v1,v2,v3,v4,v5] 1).run P w= .ok v1 w:=fun _ _ _ _ _ _ w=>U _ _ _ w rfl
 have J:∀(v0 v1 v2 v3 v4 v5:A3) (w:AD),(part e #[v0,v1,v2,v3,v4,v5] 2).run P w= .ok v2 w:=fun _ _ _ _ _ _ w=>U _ _ _ w rfl;have K:∀(v0 v1 v2 v3 v4 v5:A3) (w:AD),(part e #[v0,v1,v2,v3,v4,v5] 3).run P w= .ok v3 w:=fun _ _ _ _ _ _ w=>U _ _ _ w rfl
 have M:∀(v0 v1 v2 v3 v4 v5:A3) (w:AD),(part e #[v0,v1,v2,v3,v4,v5] 4).run P w= .ok v4 w:=fun _ _ _ _ _ _ w=>U _ _ _ w rfl;have O:∀(v0 v1 v2 v3 v4 v5:A3) (w:AD),(part e #[v0,v1,v2,v3,v4,v5] 5).run P w= .ok v5 w:=fun _ _ _ _ _ _ w=>U _ _ _ w rfl
 rw [show n+2=(n+1)+1 from rfl,Op.equalIn];generalize n+1=m at*;simp only [Sem.run_bind,run_underlying hu,Result.andThen_ok,hs];simp only [nv,Std.Legacy.Range.size,SM,S5,Nat.div_one,jj,List.range'_zero,fz,ka];simp only [Sem.run_bind,G,I,J,K,M,O,E,Result.andThen_ok,Dd,MA,en,Wf];by_cases h0:Z=y0
 · by_cases W:x1=y1
   · by_cases h2:x2=y2
     · by_cases X:x3=y3
       · by_cases h4:x4=y4
         · by_cases h5:x5=y5<;>simp [h0,W,h2,X,h4,h5,G,I,J,K,M,O,E]
         · simp [h0,W,h2,X,h4,G,I,J,K,M,O,E]
       · simp [h0,W,h2,X,G,I,J,K,M,O,E]
     · simp [h0,W,h2,G,I,J,K,M,O,E]
   · simp [h0,W,G,I,J,K,M,O,E]
 · simp [h0,G,I,J,K,M,O,E]
theorem dZ{t yt e:An}{x y:Operand}{E G I J K M O U W X Z y5:Int}(hg:P.eqGuardType P.depth t=false)(hu:P.underlying t=some (.array 6 e))(he:P.underlying e=some (.int .i64))(ha:∀w:AD,(isAgg e).run P w= .ok false w)(hs:∀w:AD,(Go.sizeOf e).run P w= .ok 1 w)
 (hx:∀a,ev a env x= .agg #[I4 E,I4 G,I4 I,I4 J,I4 K,I4 M])(hy:∀a,ev a env y= .agg #[I4 O,I4 U,I4 W,I4 X,I4 Z,I4 y5]):OpP P ⟨d,.binOp .eql t x y yt,ty,pos,af,g⟩ env [] (.bool (decide (E=O/\G=U/\I=W/\J=X/\K=Z/\M=y5))):=fun a w _=>by
 simp [D6,hx a,hy a,go_sem,run_eqGuard_agg w _ t _ _ _ _ hg,Ke,Op.equal,Op.maxDepth,wF w 9998 E G I J K M O U W X Z y5 hu he ha hs]
end
theorem E8{P:Program}{f:FuncId}{args:As}{H H1:Hp}{Q I:A3->Hp->Prop}(h:CJ P f args H Q)(O:H1.flatten=H.flatten)(U:∀v H',Q v H'->∃E,I v E/\E.flatten.Perm H'.flatten):CJ P f args H1 I:=fun u R w W=>
 Calls.mono (h u R w (W.sub ⟨[],by simp [O]⟩)) fun e X M=>by
  rcases M with⟨v,H',rfl,G,h2⟩|⟨ch,H',rfl,G,h2⟩
  · obtain ⟨E,J,K⟩:=U v H' G
    refine .inl ⟨v,E,V,J,h2.perm ?_⟩;rw [Kx,Kx];exact K.symm.append_right _
  · exact G.elim
section
variable{P:Program}{ops:Array Oper}{A:List Nat}{F:Nat}{cx:Cx}{Q:Exit->Act->AD->Prop}{n D:Nat}{T:List (Nat×AR)}{env:Env}{H:Hp}
theorem CX{d:Nat}{I:Op}{ty:An}{pos:String}{af:Array Edge}{v:A3}{b:Nat}{x:Obj}{D':Nat}(i:Nat)(M:ops[i]?=some ⟨some d,I,ty,pos,af,none⟩)(E:(!bit F i&&!bit D i&&FL (A.getD i 0) D)=true)(J:D|||(1<<<i)=D')(K:(b,x)∈H.flatten)(G:OpP P ⟨some d,I,ty,pos,af,none⟩ env [(b,x)] v)
 (k:Lin P ops A F cx Q n D' ((i,(b,x))::T) ((d,v)::env) H):Lin P ops A F cx Q (n+1) D T env H:=by
 simp only [HB,S7]at E;subst J;exact .inl ⟨i,_,v,[(b,x)],M,E.1.2,E.2,by simpa using K,.inl ⟨fun _=>rfl,G⟩,k⟩
theorem PR{d:Nat}{I:Op}{ty:An}{pos:String}{af:Array Edge}{g:Nat×Bool}{v:A3}{b:Nat}{x:Obj}{D':Nat}(i:Nat)(M:∀a,wantedE ops a env (some g)=true)(O:ops[i]?=some ⟨some d,I,ty,pos,af,some g⟩)(E:(!bit F i&&!bit D i&&FL (A.getD i 0) D)=true)(J:D|||(1<<<i)=D')(K:(b,x)∈H.flatten)(G:OpP P ⟨some d,I,ty,pos,af,some g⟩ env [(b,x)] v)
 (k:Lin P ops A F cx Q n D' ((i,(b,x))::T) ((d,v)::env) H):Lin P ops A F cx Q (n+1) D T env H:=by
 simp only [HB,S7]at E;subst J;exact .inl ⟨i,_,v,[(b,x)],O,E.1.2,E.2,by simpa using K,.inl ⟨M,G⟩,k⟩
theorem Ii{i b:Nat}{x:Obj}(h:(b,x)∈H.flatten)(G:∀p∈T,p.2∈H.flatten):∀p∈((i,(b,x))::T),p.2∈H.flatten:=by
 intro p E;rcases H4.1 E with rfl|E
 · exact h
 · exact G p E
end
theorem gV{b o n cap:Nat}{cur:As}{T:An}{z:Nat×Nat}{ys:List A3}(hn:ys.length=n)(E:0<n)(h:CY cur o ys):nj (.slice (some ⟨b,o,none⟩) n cap) ys [(b,.cells cur T z)]:=by
 subst hn;exact .inr ⟨E,b,o,cap,cur,T,z,V,V,h⟩
theorem XZ{α:Type}{A:List AR->Prop}{P:Program}{cx:Cx}{Q:Exit->Act->AD->Prop}{env:Env}{H Z H0 R:Hp}{g:Operand}{ps:Array Tmp}{J O:Code}{gf:FuncId}{lb:As}{K:α->As}{xs:List α}
 (I:List α->Hp->Prop)(E:α->Env->Hp->Prop)(hr:cx.r=none)(hg:∀a,ev a env g= .func (.func gf) #[] lb)(W:∀(args:As) (w:AD),(callFunc gf args).run P w= .ok (.enter gf args) w)
 (X:LU P gf lb Z A K xs)(hA:∀pre H1 c d,I pre H1->A ([c,d]++H1.flatten))(ax:∀x,(K x).size=ps.size)(af:(ps.toList.all fun t=>Nat.blt t cx.N)=true)(hp:FX (Z++H0) H R)(h0:I [] H0)
 (M:∀(l:Nat) (x:α) (u:AD) (H:Hp),At P ⟨cx.N,[],u,some l⟩ J (Exit.then (fun a w=>∃e Hn,E x e Hn/\Is ⟨cx.N,[],u,some l⟩ (e++env) (Hn++H) a w) (fun _ _ _=>False)) ((ps.toList.zip (K x).toList).reverse++env) H)
 (U:∀(l:Nat) (pre:List α) (x:α) (G:List α) (u:AD) (e:Env) (Hn H1 R1:Hp),xs=pre++x::G->I pre H1->E x e Hn->At P ⟨cx.N,[],u,some l⟩ O (LP u I (pre++[x]) R1) (e++env) (H1++(Hn++R1)))
 (hk:∀(D:Nat) (H2:Hp),I xs H2->Nx ⟨cx.N,⟨.collected D,#[]⟩::cx.D,cx.u,none⟩ (Q .normal) env ([(D,.deferred (some []))]::(H2++R))):At P cx (.rangeFunc g ps J O) Q env H:=
 Qb (Hk:=[]) (A:=fun _=>A) (St:=False) (Adm:=fun p=>∃G,xs=p++G) (Full:=fun ys=>ys=xs) (Enc:=z8 K) I (fun _ _=>False) (fun x _ _ e Hn=>E x e Hn) hr hg W (iX X) (fun _ _ h=>h) hA (fun x vs sx he=>by rw [he.1];exact ax x) af hp h0
  (fun l x vs sx u H he=>by obtain ⟨rfl,rfl⟩:=he;exact M l x u H)
  (fun l pre x u vs sx e Hn H1 R1 r0 ⟨G,hx⟩ hI he hE=>by
    obtain ⟨rfl,rfl⟩:=he;exact ae (Q7 (U l pre x G u e Hn H1 _ (by rw [hx,G0];rfl) hI hE)) fun f h h1 h2=>by simp only [HW,Kx,N4,h,h1,h2];omega) (fun D ys H2 hf hI=>by rw [hf]at hI;exact hk D H2 hI) fun _ _ _ h=>h.elim
theorem pu{cx:Cx}{E:Env->Hp->Prop}{env e:Env}{H Hn:Hp}{Q:Exit->Act->AD->Prop}(G:E e Hn):Nx cx ((Exit.then (fun a w=>∃e Hn,E e Hn/\Is cx (e++env) (Hn++H) a w) Q) .normal) (e++env) (Hn++H):=fun a _ I=>⟨e,Hn,G,a,I,rfl⟩
section
variable{F:Fence}{n:Nat}{P:Program}{Q:Exit->Act->AD->Prop}{a:Act}{w:AD}{b:Frame}{k:List Item}{cs:List Frame}
theorem Hy{c:Code}:step P (lone (b.atR a (.code (.scope c)::k)) cs w)= .next (lone (b.atR a (.code c:: .inScope c::k)) cs w):=
 step_lone_go (by simp [stepG,stepG.exec,Frame.atR])
theorem UC{c:Code}:step P (lone (b.atR a (.inScope c::k)) cs w)= .next (lone (b.atR a k) cs w):=
 step_lone_go (by simp [stepG,stepG.exec,Frame.atR])
theorem au{c:Code}(h:c.wpIn F n P (Exit.noGoto Q) a w):(Code.scope c).wpIn F n P Q a w:=by
 intro b k cs W K O;have h0:(lone (b.atR a (.code (.scope c)::k)) cs w).fenced P F:=fenced_calm K O rfl
 obtain ⟨e,I,J,G,E⟩:=h b (.inScope c::k) cs W K O;cases e with
 |normal=>exact ⟨.normal,I,J,G,.head h0 Hy (StepsIn.trans E (.one (fenced_calm K O rfl) UC))⟩
 |exit id'=>
  have hx:exitTo id' (.inScope c::k)=exitTo id' k:=by simp [exitTo]
  exact ⟨.exit id',I,J,G,fun X M=> .head h0 Hy (E.1 X (by rw [hx];exact M)),
   fun U M=>let⟨k₁,h1,h2⟩:=E.2 U (by rw [hx];exact M);⟨k₁,h1,.head h0 Hy h2⟩⟩
 |goto l=>exact G.elim
 |ret=>exact ⟨_,I,J,G,.of_steps (.one h0 Hy) E⟩
 |panic ch=>exact ⟨_,I,J,G,.of_steps (.one h0 Hy) E⟩
 |outgrown=>exact ⟨_,I,J,G,.of_steps (.one h0 Hy) E⟩
end
section
variable{P:Program}{cx:Cx}{Q:Exit->Act->AD->Prop}{env:Env}{H:Hp}
theorem aa{c:Code}(h:At P cx c (Exit.noGoto Q) env H):At P cx (.scope c) Q env H:=fun a w E=>au (h a w E)
theorem Lj(h:Nx cx (Q .ret) env H):Nx cx (Exit.noGoto Q .ret) env H:=h
end
def WM{α:Type}(P:Program)(gf:FuncId)(lb:As)(Hit Hk:Hp)(Enc:α->As->List AR->Prop)(xs:List α):Prop:=
 ∀(l:Nat) (J:List α->List AR->Prop),(∀pre x post s vs sx,xs=pre++x::post->J pre s->Enc x vs sx->Io P l vs [sx,s] (fun v H'=>∃s',v= .bool true/\H'=[s']/\J (pre++[x]) s'))->
  ∀s,J [] s->CJ P gf (#[.func (.yield l) #[] #[]]++lb) (Hit++(Hk++[s])) (fun _ H'=>∃s',H'=Hk++[s']/\J xs s')
theorem Xa{α:Type}{P:Program}{cx:Cx}{Q:Exit->Act->AD->Prop}{env:Env}{H ax Hk H0 R:Hp}{g:Operand}{ps:Array Tmp}{M W:Code}{gf:FuncId}{lb:As}{Enc:α->As->List AR->Prop}{xs:List α}
 (I:List α->Hp->Prop)(E:α->As->List AR->Env->Hp->Prop)(hr:cx.r=none)(hg:∀a,ev a env g= .func (.func gf) #[] lb)(Z:∀(args:As) (w:AD),(callFunc gf args).run P w= .ok (.enter gf args) w)
 (af:WM P gf lb ax Hk Enc xs)(bn:∀x vs O,Enc x vs O->vs.size=ps.size)(bf:(ps.toList.all fun t=>Nat.blt t cx.N)=true)(hp:FX (ax++(Hk++H0)) H R)(h0:I [] H0)
 (U:∀(l:Nat) (x:α) (vs:As) (O:List AR) (u:AD) (H:Hp),Enc x vs O->At P ⟨cx.N,[],u,some l⟩ M (Exit.then (fun a w=>∃e Hn,E x vs O e Hn/\Is ⟨cx.N,[],u,some l⟩ (e++env) (Hn++H) a w) (fun _ _ _=>False)) ((ps.toList.zip vs.toList).reverse++env) H)
 (X:∀(l:Nat) (pre:List α) (x:α) (G:List α) (u:AD) (vs:As) (O:List AR) (e:Env) (Hn H1 R1:Hp),xs=pre++x::G->I pre H1->Enc x vs O->E x vs O e Hn->At P ⟨cx.N,[],u,some l⟩ W (LP u I (pre++[x]) R1) (e++env) (H1++(O::(Hn++R1))))
 (hk:∀(D:Nat) (H2:Hp),I xs H2->Nx ⟨cx.N,⟨.collected D,#[]⟩::cx.D,cx.u,none⟩ (Q .normal) env ([(D,.deferred (some []))]::(Hk++(H2++R)))):At P cx (.rangeFunc g ps M W) Q env H:=
 Qb (A:=fun _ _=>True) (St:=False) (Adm:=fun p=>∃G,xs=p++G) (Full:=fun ys=>ys=xs) I (fun _ _=>False) E hr hg Z (fun l J Jx _ hX hy s h9=>(af l J (fun pre x G s vs O hx hj he u R w hs K Kp hK=>hy pre x s vs O ⟨G,by rw [hx,G0];rfl⟩ hj he u R w hs K Kp fun v H' w' ⟨s',h1,h2⟩ h4=>h2.elim (fun h=>hK v H' w' ⟨s',h.1,h1,h.2⟩ h4) fun h=>(hX _ _ h.2).elim) s h9).mono (by rintro v H' ⟨s',h1,h2⟩;exact ⟨s',h1,.inl ⟨xs,rfl,h2⟩⟩)) (fun _ _ h=>h) (fun _ _ _ _ _=>trivial) bn bf hp h0 U
  (fun l pre x u vs O e Hn H1 R1 r0 ⟨G,hx⟩ hI he hE=>Q7 (X l pre x G u vs O e Hn H1 _ (by rw [hx,G0];rfl) hI he hE)) (fun D ys H2 hf hI=>by rw [hf]at hI;exact hk D H2 hI) fun _ _ _ h=>h.elim
section
variable{P:Program}{env:Env}{d:Option Nat}{ty:An}{pos:String}{af:Array Edge}{g:Option (Nat×Bool)}
theorem QN{x y:Operand}{Ts:Array An}{k:IntKind}{m n:Int}(hx:∀a,ev a env x= .int k m)(hy:∀a,ev a env y= .int k n):OpP P ⟨d,.call ⟨.builtin .max,#[x,y],Ts⟩,ty,pos,af,g⟩ env [] (.int k (max m n)):=fun a w _=>by
 simp [EU,resolve,invoke,builtin,hx a,hy a,Builtin.max_,Builtin.max2];by_cases h:m<n;· simp [h,show max m n=n by omega]
 · simp [h,show max m n=m by omega]
theorem TB{x y:Operand}{Ts:Array An}{k:IntKind}{m:Nat}(hx:∀a,ev a env x= .int k ((m:Int) -1))(hy:∀a,ev a env y= .int k 0):OpP P ⟨d,.call ⟨.builtin .max,#[x,y],Ts⟩,ty,pos,af,g⟩ env [] (.int k ((m -1:Nat):Int)):=by
 have h:=QN (P:=P) (d:=d) (ty:=ty) (pos:=pos) (af:=af) (g:=g) (Ts:=Ts) hx hy;rwa [show max ((m:Int) -1) 0=((m -1:Nat):Int) by omega]at h
end
def Gc(M:List AR)(p:C1)(ys:List A3):Prop:=∀(j:Nat) (u:A3),ys[j]?=some u->∃g o c T z,p=some ⟨g,o,none⟩/\(g,Obj.cells c T z)∈M/\c[o+j]?=some u
theorem One.mem9{s:List AR}{H R:Hp}(h:One s H R):∀c∈s,c∈H.flatten:=by
 intro c hc;have:=h.perm.mem_iff (a:=c)
 rw [this];simp [hc]
section
variable{P:Program}{u:AD}{env:Env}{H R R2:Hp}{d:Option Nat}{ty:An}{pos:String}{af:Array Edge}{g:Option (Nat×Bool)}
theorem G6{x y:Operand}{t e:An}{i:TypeInfo}{z:A3}{by_ sz n k c:Nat}{v:A3}{p:C1}{xs ys:List A3}{s M:List AR}
 (ht:P.underlying t=some (.slice e))(hi:P.info? e=some i)(G:i.size=sz)(bf:i.bytes=by_)(ek:i.zero=some z)(d9:z.cells.size=sz)
 (hx:∀a,ev a env x=v)(E:BS sz e v n xs s)(hy:∀a,ev a env y= .slice p k c)(J:Gc M p ys)(hl:ys.length=k*sz)(h0:0<sz)(I:One s H R)(Z:One M R R2)(h1:∀u∈ys,u.oneCell'=true)
 (ax:n+k<=maxLen)(hb:(n+k)*by_<=140737488355328):
 OpW P u ⟨d,.call ⟨.builtin .append,#[x,y],#[t,t]⟩,ty,pos,af,g⟩ env H (fun v' H1=>∃s',BS sz e v' (n+k) (xs++ys) s'/\H1=s'::R) (fun _ _=>False):=by
 rcases P2 k with hk|hk
 · subst hk
   have cO:ys=[]:=N3 A0;subst cO;obtain ⟨b,c',rfl⟩:=E.form;have U:n<=c':=by
    obtain ⟨_,⟨hv,h0,_⟩|⟨_,_,_,_,hv,_,h2,_⟩⟩:=E;· omega
    · injection hv with _ _ hv3;omega
   intro a w X K Kp hK _;have bn:Sat u (s::R) w:=X.perm (by simpa using I.perm)
   have O:(Builtin.firstCells i.size 0 (.slice p 0 c)).run P w= .ok #[] w:=by
    cases p with
    |none=>simp [Builtin.firstCells]
    |some ad=>simp [Builtin.firstCells,loadCells,loadCellsFrom]
   have hr:(Builtin.append_ #[t,t] ty #[.slice b n c',.slice p 0 c]).run P w= .ok (.slice b n c') w:=by
    rw [G]at O;cases b with
    |none=>simp [Builtin.append_,run_underlying ht,Go.sizeOf,typeInfo,hi,G,Builtin.lenOf,U,O]
    |some ad=>simp [Builtin.append_,run_underlying ht,Go.sizeOf,typeInfo,hi,G,Builtin.lenOf,U,O,storeCells]
   have cu:(execOp (ev a env) ⟨d,.call ⟨.builtin .append,#[x,y],#[t,t]⟩,ty,pos,af,g⟩).run P w= .ok (.value (.slice b n c')) w:=by
    simp only [EU,resolve,invoke,builtin,Tl,L3,NO,hx a,hy a,Sem.run_bind,Sem.run_pure,Result.andThen_ok,hr]
   rw [cu];exact hK _ _ _ ⟨s,by rw [HT];exact E,rfl⟩ bn
 · have W:0<ys.length:=by rw [hl];exact Nat.mul_pos hk h0
   obtain ⟨gb,o,_,_,_,rfl,_,_⟩:=J 0 _ (Bk W);refine Uh ht hi G bf ek d9 hx E hy I (fun w hs j v hj=>?_) hl h1 hk ax hb;obtain ⟨g',o',c1,T1,z1,e,hm,hc⟩:=J j v hj;injection e with e
   injection e with e1 e2
   subst e1 e2;rw [Cq];exact DL (hs.get _ (Z.mem9 _ hm)) hc
theorem IJ{sz:Nat}{e:An}{g k cap:Nat}{cur:As}{z:Nat×Nat}{xs:List A3}(h:BS sz e (I6 g k cap) k xs [(g,.cells cur e z)])(i:Nat)(v:A3):BS sz e (I6 g k cap) k (xs.set i v) [(g,.cells (cur.setIfInBounds i v) e z)]:=by
 obtain ⟨hl,⟨h0,_⟩|⟨g',W,X,z',hv,Z,J,E,G,U,I⟩⟩:=h;· cases h0
 · injection hv with hv1 _ hv3
   injection hv1 with hv1
   injection hv1 with hv1
   subst hv3;simp only [ml,kh,Obj.cells.injEq,and_true,fX]at Z;obtain ⟨K,M,O⟩:=Z;subst K M O;refine ⟨by rw [Hb];exact hl,.inr ⟨g,cap,_,z,rfl,rfl,J,E,by rw [fh];exact G,?_,by rw [fh];exact I⟩⟩;rw [lA,<-U,List.take_set]
end
section
variable{α:Type}{κ:α->A3}{D:α->Prop}{P:Program}{es:Array MapEntry}{clock r:Nat}{l:List (α×A3)}{kt et:An}
variable{u:AD}{env:Env}{H R:Hp}{d:Option Nat}{ty:An}{pos:String}{af:Array Edge}{g:Option (Nat×Bool)}{t:An}{m x y:Operand}{k:α}{v:A3}
theorem Jv(U:JJ P kt κ D)(ht:P.underlying t=some (.map kt et))(Z:FY κ es clock l)(X:∀p∈l,D p.1)(W:D k)(hx:∀a,ev a env m= .map (some r))(hy:∀a,ev a env x=κ k)(hv:∀a,ev a env y=v)(I:One [(r,.map es clock)] H R):
 OpW P u ⟨d,.insert t m x y,ty,pos,af,g⟩ env H (fun v' H1=>v'=undef/\∃G E M,FY κ G E M/\(∀p,p∈M↔p=(k,v)\/(p∈l/\p.1≠k))/\H1=[(r,.map G E)]::R) (fun _ _=>False):=fun a w hs K O J hp=>
 MH (d:=d) (ty:=ty) (pos:=pos) (af:=af) (g:=g) U ht Z X W hx hy hv I a w hs K O J hp
theorem QP [DecidableEq α]{et:An}{z O:A3}(G:JJ P kt κ D)(M:P.underlying t=some (.map kt et))(hz:∀w:AD,(zeroValue et).run P w= .ok z w)(K:FY κ es clock l)(U:∀p∈l,D p.1)(I:D k)(hv:(Je k l).getD z=O)(hx:∀a,ev a env m= .map (some r))(hy:∀a,ev a env x=κ k):
 OpP P ⟨d,.lookup t m x false,ty,pos,af,g⟩ env [(r,.map es clock)] O:=fun a w W=>by
 have J:=W (r,.map es clock) C4;show((do pure (Next.value (<-Instr.lookup t (ev a env m) (ev a env x) false))):Sem Next).run P w=_
 rw [hx a,hy a,<-hv];rcases Lp G K U w k I with⟨E,h2⟩|⟨j,v,E,h2⟩
 · rw [QS h2]
   simp only [Instr.lookup,Sem.run_bind,run_underlying M,Result.andThen,MapKept.run_getObj_map J,Hz G I,Sem.run_pure,E,hz];rfl
 · rw [JD K.keys (Fm h2)]
   simp only [Instr.lookup,Sem.run_bind,run_underlying M,Result.andThen,MapKept.run_getObj_map J,Hz G I,Sem.run_pure,E];rfl
theorem O9{d:Nat}{x y:Operand}{t yt e:An}{p:C1}(E:P.underlying t=some (.pointer e))(hx:∀a,ev a env x= .pointer p)(hy:∀a,ev a env y= .pointer none):OpP P ⟨some d,.binOp .eql t x y yt,ty,pos,af,g⟩ env [] (.bool p.isNone):=by
 cases p with
 |none=>exact UL E hx hy
 |some a=>exact G9 E hx hy
theorem GV{d:Nat}{x y:Operand}{t yt e:An}{p:C1}(E:P.underlying t=some (.pointer e))(hx:∀a,ev a env x= .pointer p)(hy:∀a,ev a env y= .pointer none):OpP P ⟨some d,.binOp .neq t x y yt,ty,pos,af,g⟩ env [] (.bool p.isSome):=by
 cases p with
 |none=>exact UK E hx hy
 |some a=>exact UJ E hx hy
theorem Bj{c cs:As}(h:cs.size=c.size):FE c 0 cs.toList=cs:=by
 rw [Ym c cs.toList (by simpa using h)]
theorem AP{c:As}{n:Nat}(h:c.size=n):c.extract 0 (0+n)=c:=by
 subst h;simp
end
theorem H8{c:As}{i:Nat}{ys:List A3}(h:i+ys.length<=c.size):(FE c i ys).size=c.size:=by
 unfold FE;simp only [K0,C7,CI,D4,TO];omega
theorem Ei{sz:Nat}{e:An}{g k cap:Nat}{cur:As}{z:Nat×Nat}{xs ys:List A3}{i:Nat}(h:BS sz e (I6 g k cap) k xs [(g,.cells cur e z)])(hi:i+ys.length<=xs.length):
 BS sz e (I6 g k cap) k (xs.take i++ys++xs.drop (i+ys.length)) [(g,.cells (FE cur i ys) e z)]:=by
 obtain ⟨hl,⟨G,_⟩|⟨g',O,U,z',G,h2,I,J,E,M,K⟩⟩:=h;· injection G with G;cases G
 injection G with h3 _ h4
 injection h3 with h3
 injection h3 with h3
 injection h2 with h2 _
 injection h2 with _ h2
 injection h2 with h5 _ h6
 subst h3 h4 h5 h6;have X:k*sz<=cap*sz:=T7 sz I
 have Z:cur.toList.length=cap*sz:=by rw [TO,E]
 have W:cur.toList=xs++cur.toList.drop (k*sz):=by rw [<-M,Ln]
 refine ⟨?_,.inr ⟨g,cap,_,z,V,V,I,J,?_,?_,?_⟩⟩;· simp only [C7,CI,D4];omega
 · rw [H8 (by rw [E];omega),E]
 · show(FE cur i ys).toList.take (k*sz)=_
   unfold FE;show(cur.toList.take i++ys++cur.toList.drop (i+ys.length)).take (k*sz)=_
   have t1:cur.toList.take i=xs.take i:=by
    conv=>lhs;rw [W]
    exact aw A0
   have t2:cur.toList.drop (i+ys.length)=xs.drop (i+ys.length)++cur.toList.drop (k*sz):=by
    conv=>lhs;rw [W]
    exact List.drop_append_of_le_length A0
   rw [t1,t2,<-G0];refine L7 ?_;simp only [C7,CI,D4];omega
 · show M6 z (FE cur i ys).size
   rw [H8 (by rw [E];omega)];exact K
theorem V5{sz:Nat}{e:An}{g k cap:Nat}{xs:List A3}{s:List AR}(h:BS sz e (I6 g k cap) k xs s)(i:Nat)(hi:i<=k):BS sz e (I6 g i cap) i (xs.take (i*sz)) s:=by
 obtain ⟨hl,⟨G,_⟩|⟨Z,O,E,X,G,rfl,W,I,J,M,K⟩⟩:=h;· injection G with G;cases G
 injection G with h3 _ h4
 injection h3 with h3
 injection h3 with h3
 subst h3 h4;have U:i*sz<=k*sz:=T7 sz hi
 refine ⟨by rw [CI];omega,.inr ⟨g,cap,E,X,rfl,rfl,by omega,I,J,?_,K⟩⟩;rw [<-M,Wc,OR U]
theorem KQ{sz:Nat}{e:An}{g k cap:Nat}{cur:As}{z:Nat×Nat}{xs:List A3}(h:BS sz e (I6 g k cap) k xs [(g,.cells cur e z)]):CY cur 0 xs/\cur.size=cap*sz/\k<=cap/\cap<=maxLen/\M6 z cur.size:=by
 obtain ⟨W,⟨E,_⟩|⟨X,O,U,Z,E,h2,K,G,I,M,J⟩⟩:=h;· injection E with E;cases E
 injection E with h3 _ h4
 injection h2 with h2 _
 injection h2 with _ h2
 injection h2 with h5 _ h6
 subst h4 h5 h6;exact ⟨by unfold CY;rw [RR,W];exact M,I,K,G,J⟩
theorem V4{sz:Nat}{e:An}{g k cap:Nat}{cur:As}{z:Nat×Nat}{xs:List A3}(h:BS sz e (I6 g k cap) k xs [(g,.cells cur e z)])(m:Nat)(X:k<=m)(I:m<=cap):∃ys,ys.length=(m -k)*sz/\BS sz e (I6 g m cap) m (xs++ys) [(g,.cells cur e z)]:=by
 obtain ⟨G,E,U,J,K⟩:=KQ h;have O:=h.1
 have W:m*sz<=cap*sz:=T7 sz I;have h2:k*sz+(m -k)*sz=m*sz:=by rw [<-Lq];congr 1;omega
 unfold CY at G;rw [RR,O]at G;refine ⟨(cur.toList.drop (k*sz)).take ((m -k)*sz),by rw [CI,D4,TO,E];omega,?_,.inr ⟨g,cap,cur,z,rfl,rfl,I,J,E,?_,K⟩⟩
 · have M:cur.toList.length=cap*sz:=by rw [TO,E]
   rw [C7,CI,D4,M,O];omega
 · conv=>rhs;rw [<-G]
   rw [<-h2,List.take_add]
theorem Jg{c:As}{o:Nat}{xs:List A3}(h:CY c o xs)(i m:Nat)(E:i+m<=xs.length):CY c (o+i) ((xs.drop i).take m):=by
 unfold CY at*;rw [CI,D4,OR A0];conv=>rhs;rw [<-h]
 rw [kc,Wc,OR A0,eh]
theorem Re(z:A3)(m:Nat)(h:∀u∈z.cells.toList,u.oneCell'=true):∀y∈(Builtin.zeroCells z.cells m).toList,y.oneCell'=true:=by
 intro y hy;simp only [Builtin.zeroCells,ly,Array.mem_map,Array.mem_range]at hy;obtain ⟨j,I,rfl⟩:=hy;refine h _ ?_;have G:0<z.cells.size:=by
  rcases P2 z.cells.size with h9|h9
  · rw [h9]at I;omega
  · exact h9
 have E:j%z.cells.size<z.cells.size:=gS _ G;rw [getElem!_pos z.cells (j%z.cells.size) E];exact ly.2 (Array.getElem_mem E)
section
variable{P:Program}{u:AD}{env:Env}{H H' R R2:Hp}{d:Option Nat}{ty:An}{pos:String}{af:Array Edge}{g:Option (Nat×Bool)}
theorem KJ{x y:Operand}{Z sT e:An}{sz b o n cap X o' n' G:Nat}{c c1:As}{T T1:An}{z z1:Nat×Nat}{cs:List A3}
 (hu:P.underlying Z=some (.slice e))(hs:∀w:AD,(Go.sizeOf e).run P w= .ok sz w)(hx:∀a,ev a env x= .slice (some ⟨b,o,none⟩) n cap)(hy:∀a,ev a env y= .slice (some ⟨X,o',none⟩) n' G)
 (U:Has X (.cells c1 T1 z1) H)(M:One [(b,.cells c T z)] H R)(bf:CY c1 o' cs)(hn:cs.length=min n' n*sz)(I:o+cs.length<=c.size)(hz:M6 z c.size)(h1:∀v∈cs,v.oneCell'=true):
 OpW P u ⟨d,.call ⟨.builtin .copy,#[x,y],#[Z,sT]⟩,ty,pos,af,g⟩ env H (fun v H1=>v=I4 ((min n' n:Nat):Int)/\H1=[(b,.cells (FE c o cs) T z)]::R) (fun _ _=>False):=fun a w E K Kp hK _=>by
 have O:Sat u ([(b,.cells c T z)]::R) w:=E.perm (by simpa using M.perm);have hb:=O.get (b,.cells c T z) (by simp)
 have ax:=E.get _ U.mem;have hl:=run_loadCells_list (P:=P) w ⟨X,o',none⟩ cs (JI ax bf)
 rw [hn]at hl;have W:=Dt (P:=P) b o T z cs 0 c w hb hz (by simpa using I) h1
 simp only [RT]at W;have J:Nat.min n' n=min n' n:=rfl
 have:(execOp (ev a env) ⟨d,.call ⟨.builtin .copy,#[x,y],#[Z,sT]⟩,ty,pos,af,g⟩).run P w= .ok (.value (I4 ((min n' n:Nat):Int))) (w.setRow b (FE c o cs)):=by
  simp [EU,resolve,invoke,builtin,hx a,hy a,Builtin.copy_,run_underlying hu,Builtin.lenOf,Builtin.firstCells,hs,J,hl,W,FE,goInt]
 rw [this];exact hK _ _ _ ⟨V,V⟩ (O.upd (.here _) V rfl V (setRow_heap w b c _ T z hb) fun k hk=>setRow_other w b k _ hk)
theorem M8{x y:Operand}{t Z e T:An}{i:TypeInfo}{z:A3}{by_ sz k m cap gb:Nat}{cur:As}{zz:Nat×Nat}{xs:List A3}
 (ht:P.underlying t=some (.slice e))(cO:P.underlying Z=some (.int .i64))(hi:P.info? e=some i)(cu:i.size=sz)(M:i.bytes=by_)(d9:i.zero=some z)(X:z.cells.size=sz)
 (hx:∀a,ev a env x=I6 gb k cap)(hy:∀a,ev a env y=I4 (m:Int))(U:Has gb (.cells cur T zz) H)(bn:CY cur 0 xs)(J:xs.length=k*sz)(h0:0<m)(gy:0<sz)(hg:cap<k+m)(ax:k+m<=maxLen)(hb:(k+m)*by_<=140737488355328):
 OpW P u ⟨d,.call ⟨.builtin .append,#[x,y],#[t,Z]⟩,ty,pos,af,g⟩ env H (fun v' H1=>∃s',BS sz e v' (k+m) (xs++(Builtin.zeroCells z.cells m).toList) s'/\H1=s'::H) (fun _ _=>False):=fun a w I K Kp hK _=>by
 have gq:=mL;have hl:=run_loadCells_list (P:=P) w.drew ⟨gb,0,none⟩ xs (JI (I.drew.get _ U.mem) bn)
 rw [J]at hl;have W:(Builtin.firstCells i.size k (I6 gb k cap)).run P w.drew= .ok xs.toArray w.drew:=by
  rw [cu];simp [Builtin.firstCells,hl]
 have gm:m*by_<=(k+m)*by_:=T7 _ A0;have hr:=Lib.run_append_grow_zeros (P:=P) w t Z ty e i z .i64 .i64 ht cO hi d9 (some ⟨gb,0,none⟩) k cap xs W m h0 A0 hg A0 (by rw [M];omega) (growslice_fits A0 (by rw [M];exact hb))
 have E:∀{v':A3} {w':AD},(Builtin.append_ #[t,Z] ty #[I6 gb k cap,I4 (m:Int)]).run P w= .ok v' w'->(execOp (ev a env) ⟨d,.call ⟨.builtin .append,#[x,y],#[t,Z]⟩,ty,pos,af,g⟩).run P w= .ok (.value v') w':=fun h=>by
  simp only [EU,resolve,invoke,builtin,Tl,L3,NO,hx a,hy a,Sem.run_bind,Sem.run_pure,Result.andThen_ok,h]
 rw [E hr];have bf:=grownCap_ge w (k+m) cap e
 have O:grownCap w (k+m) cap e<=maxLen:=grownCap_le_maxLen w (k+m) cap e ax;have G:(xs++(Builtin.zeroCells z.cells m).toList).length=(k+m)*sz:=by
  have ek:(Builtin.zeroCells z.cells m).toList.length=m*sz:=by rw [TO,size_zeroCells,X]
  rw [C7,ek,J,Lq]
 refine hK _ _ _ ⟨[(w.heap.size,.cells (xs.toArray++Builtin.zeroCells z.cells m++Builtin.zeroCells z.cells (grownCap w (k+m) cap e -(k+m))) e (0,0))],⟨G,.inr ⟨w.heap.size,grownCap w (k+m) cap e,_,(0,0),V,V,bf,O,?_,?_,Aw _⟩⟩,V⟩ (I.drew.alloc _)
 · simp only [fp,size_zeroCells,X,K0,J]
   rw [<-Lq,<-Lq];congr 1;omega
 · simp only [eM]
   exact L7 G
theorem Oa{x:Operand}{t e:An}{i:TypeInfo}{z:A3}{sz gb k cap m c:Nat}{cur:As}{T:An}{zz:Nat×Nat}
 (ht:P.underlying t=some (.slice e))(hi:P.info? e=some i)(bf:i.zero=some z)(ax:z.cells.size=sz)(cu:∀u∈z.cells.toList,u.oneCell'=true)
 (hx:∀a,ev a env x= .slice (EJ (some ⟨gb,0,none⟩) k cap sz) m c)(hm:k+m<=cap)(U:cur.size=cap*sz)(W:M6 zz cur.size)(J:One [(gb,.cells cur T zz)] H R):
 OpW P u ⟨d,.call ⟨.builtin .clear,#[x],#[t]⟩,ty,pos,af,g⟩ env H (fun _ H1=>H1=[(gb,.cells (FE cur (k*sz) (Builtin.zeroCells z.cells m).toList) T zz)]::R) (fun _ _=>False):=fun a w M K Kp hK _=>by
 have G:Sat u ([(gb,.cells cur T zz)]::R) w:=M.perm (by simpa using J.perm);have E:∀{v':A3} {w':AD},(Builtin.clear_ #[t] ty #[.slice (EJ (some ⟨gb,0,none⟩) k cap sz) m c]).run P w= .ok v' w'->(execOp (ev a env) ⟨d,.call ⟨.builtin .clear,#[x],#[t]⟩,ty,pos,af,g⟩).run P w= .ok (.value v') w':=fun h=>by
  simp only [EU,resolve,invoke,builtin,Tl,L3,NO,hx a,Sem.run_bind,Sem.run_pure,Result.andThen_ok,h]
 rcases P2 m with h0|h0
 · subst h0
   have Z:(Builtin.clear_ #[t] ty #[.slice (EJ (some ⟨gb,0,none⟩) k cap sz) 0 c]).run P w= .ok (.tuple #[]) w:=by
    have:∃q,EJ (some ⟨gb,0,none⟩) k cap sz=some q:=by unfold EJ;split<;>exact ⟨_,rfl⟩
    obtain ⟨q,X⟩:=this;rw [X];simp [Builtin.clear_,run_underlying ht]
   rw [E Z];refine hK _ _ _ V ?_;have:(Builtin.zeroCells z.cells 0).toList=[]:=N3 (by rw [TO,size_zeroCells];simp)
   rw [this,pI];exact G
 · have X:EJ (some ⟨gb,0,none⟩) k cap sz=some ⟨gb,k*sz,none⟩:=by
    unfold EJ;rw [Ax A0,N5,Cq,Dd]
   have hg:=G.get (gb,.cells cur T zz) C4;have bn:(Builtin.zeroCells z.cells m).toList.length=m*sz:=by rw [TO,size_zeroCells,ax]
   have I:∀y∈(Builtin.zeroCells z.cells m).toList,y.oneCell'=true:=Re z m cu;have cO:k*sz+m*sz<=cap*sz:=by rw [<-Lq];exact T7 _ hm
   have O:=Dt (P:=P) gb (k*sz) T zz (Builtin.zeroCells z.cells m).toList 0 cur w hg W (by rw [bn,U];omega) I;have Z:(Builtin.clear_ #[t] ty #[.slice (EJ (some ⟨gb,0,none⟩) k cap sz) m c]).run P w= .ok (.tuple #[]) (w.setRow gb (FE cur (k*sz) (Builtin.zeroCells z.cells m).toList)):=by
    rw [X];obtain ⟨m',rfl⟩:∃m',m=m'+1:=⟨m -1,by omega⟩;simp [Builtin.clear_,run_underlying ht,UD hi bf,FE]at O⊢;simp [O]
   rw [E Z];exact hK _ _ _ V (G.upd (.here _) V rfl V (setRow_heap w gb cur _ T zz hg) fun k hk=>setRow_other w gb k _ hk)
theorem CO{t e:An}{x lo:Operand}{b o n cap l sz:Nat}{M:IntKind}(K:P.underlying t=some (.slice e))(J:∀w:AD,(Go.sizeOf e).run P w= .ok sz w)(hx:∀a,ev a env x= .slice (some ⟨b,o,none⟩) n cap)(I:∀a,ev a env lo= .int M (l:Int))(G:l<=n)(h2:l<cap):
 OpP P ⟨d,.slice t x (some lo) none none,ty,pos,af,g⟩ env [] (.slice (some ⟨b,o+l*sz,none⟩) (n -l) (cap -l)):=by
 have h:=Bv (d:=d) (ty:=ty) (pos:=pos) (af:=af) (g:=g) K J hx I G;have E:EJ (some ⟨b,o,none⟩) l cap sz=some ⟨b,o+l*sz,none⟩:=by
  unfold EJ;rw [Ax A0,N5,Cq]
 rwa [E]at h
theorem Y8{t ty b j s1 s2:Nat}{fn:Func}{v x y:A3}(G:fn.results=#[.cell t ty,.tmp s1,.tmp s2]){w:AD}{tmps:As}(hx:tmps.getD t undef= .pointer (some ⟨b,j,none⟩))(E:(loadVar ty ⟨b,j,none⟩).run P w= .ok v w)(hy:tmps.getD s1 undef=x)(hz:tmps.getD s2 undef=y):(results fn tmps).run P w= .ok (.tuple #[v,x,y]) w:=by
 rw [Lw]at hx hy hz;simp [results,G,hx,hy,hz,asAddr,E]
theorem IA{e:Exit}{N:Nat}{r:Option Nat}{fn:Func}{Q:A3->Hp->Prop}{Pn:List PanicEntry->Hp->Prop}{H':Hp}{t ty b j s1 s2:Nat}{v x y:A3}{o:Obj}(I:GH e=true)(O:fn.results=#[.cell t ty,.tmp s1,.tmp s2])(hv:∀a,FC a env t= .pointer (some ⟨b,j,none⟩))(G:Has b o H)(J:∀w:AD,w.heap[b]?=some o->(loadVar ty ⟨b,j,none⟩).run P w= .ok v w)(hx:∀a,FC a env s1=x)(hy:∀a,FC a env s2=y)(M:Q (.tuple #[v,x,y]) H')(K:Sub (H'++R) H:=by repeat(first|exact Sub.refl _|exact Sub.nil _|(apply Sub.cons;(focus (repeat(first|exact One.here _ _|apply One.there))))|refine Sub.drop _ ?_)):Nx ⟨N,[],u,r⟩ (bodyPost P fn (Fp u R Q Pn) e) env H:=
 Kk I (fun a w E=>Y8 O (by rw [Br a env (by rw [E.size];exact E.fit),hv a]) (J w (E.sat.get _ G.mem)) (by rw [Br a env (by rw [E.size];exact E.fit),hx a]) (by rw [Br a env (by rw [E.size];exact E.fit),hy a])) M K
theorem Wt{t s q k:Nat}{fn:Func}(E:fn.results=#[.tmp t,.tmp s,.tmp q,.tmp k])(w:AD)(tmps:As):(results fn tmps).run P w= .ok (.tuple #[tmps.getD t undef,tmps.getD s undef,tmps.getD q undef,tmps.getD k undef]) w:=by simp [results,E]
theorem vD{e:Exit}{N:Nat}{r:Option Nat}{fn:Func}{Q:A3->Hp->Prop}{Pn:List PanicEntry->Hp->Prop}{H':Hp}{t s q k:Nat}{v x y z:A3}(G:GH e=true)(K:fn.results=#[.tmp t,.tmp s,.tmp q,.tmp k])(hv:∀a,FC a env t=v)(hx:∀a,FC a env s=x)(hy:∀a,FC a env q=y)(hz:∀a,FC a env k=z)(J:Q (.tuple #[v,x,y,z]) H')(I:Sub (H'++R) H:=by repeat(first|exact Sub.refl _|exact Sub.nil _|(apply Sub.cons;(focus (repeat(first|exact One.here _ _|apply One.there))))|refine Sub.drop _ ?_)):Nx ⟨N,[],u,r⟩ (bodyPost P fn (Fp u R Q Pn) e) env H:=
 Kk G (fun a w E=>by rw [Wt K,Br a env (by rw [E.size];exact E.fit),Br a env (by rw [E.size];exact E.fit),Br a env (by rw [E.size];exact E.fit),Br a env (by rw [E.size];exact E.fit),hv a,hx a,hy a,hz a]) J I
theorem T9{f:FuncId}{fn:Func}{ax:Array Operand}{ats:Array An}{tS tR e:An}{size a b oa ob la ca lb cb:Nat}{xa xb:As}{Ta Tb:An}{zb:Nat×Nat}
 (hf:P.funcs[f]?=some fn)(hname:(fn.name== "runtime.NumGoroutine")=false)(hb:fn.body.isNone=true)(hn:Extern.findNext fn=none)(he:Extern.find fn=some (Extern.SlicesOverlaps.overlaps #[tS,tS] #[tR]))
 (ht:P.underlying tS=some (.slice e))(hz:∀w:AD,(Go.sizeOf e).run P w= .ok size w)(ha:∀c,ax.toList.map (ev c env)=[.slice (some ⟨a,oa,none⟩) la ca,.slice (some ⟨b,ob,none⟩) lb cb])(hne:a≠b)(hk:xb.size≠0):
 OpP P ⟨d,.call ⟨.value (.func f),ax,ats⟩,ty,pos,af,g⟩ env [(a,.cells xa Ta (0,0)),(b,.cells xb Tb zb)] (.bool false):=fun c w hs=>by
 have g1:=hs (a,.cells xa Ta (0,0)) (by simp);have g2:=hs (b,.cells xb Tb zb) (by simp)
 have h1:ax.map (ev c env)=#[.slice (some ⟨a,oa,none⟩) la ca,.slice (some ⟨b,ob,none⟩) lb cb]:=by
  have:=LC (ev c env) ax;rw [this,ha c]
 have h2:=run_callFunc_extern hf hname hb hn he #[.slice (some ⟨a,oa,none⟩) la ca,.slice (some ⟨b,ob,none⟩) lb cb] w;rw [Lib.run_overlaps_apart w tS tR e ht size hz ⟨a,oa,none⟩ ⟨b,ob,none⟩ la ca lb cb hne Ta Tb xa.size xb.size (by simp [World.shape?,g1]) (by simp [World.shape?,g2]) hk (by simp [World.frozen?,g1]) (by simp [World.frozen?,g1])]at h2;have h3:ev c env (.func f)= .func (.func f) #[] #[]:=rfl
 simp [EU,resolve,h3,Deferred.ofValue,invoke,h1,h2,Result.andThen]
end
section
variable{P:Program}{u:AD}{env:Env}{H R R2:Hp}{d:Option Nat}{ty:An}{pos:String}{af:Array Edge}{g:Option (Nat×Bool)}
theorem LX{x y:Operand}{t e:An}{i:TypeInfo}{z:A3}{by_ sz n k:Nat}{b:C1}{v2:A3}{xs ys:List A3}{s s2:List AR}
 (ht:P.underlying t=some (.slice e))(hi:P.info? e=some i)(cO:i.size=sz)(bn:i.bytes=by_)(gm:i.zero=some z)(ek:z.cells.size=sz)
 (hx:∀a,ev a env x= .slice b n n)(M:MB sz (.slice b n n) n xs s)(hy:∀a,ev a env y=v2)(G:MB sz v2 k ys s2)(J:One s H R)(O:One s2 H R2)
 (ax:n+k<=maxLen)(hb:(n+k)*by_<=140737488355328):
 OpW P u ⟨d,.call ⟨.builtin .append,#[x,y],#[t,t]⟩,ty,pos,af,g⟩ env H (fun Z H1=>∃b' c' W,Z= .slice b' (n+k) c'/\n+k<=c'/\((k=0/\Z= .slice b n n/\W=[])\/BS sz e Z (n+k) (xs++ys) W)/\H1=W::H) (fun _ _=>False):=by
 rcases P2 k with hk|hk
 · subst hk
   obtain ⟨U,X,rfl⟩:∃U X,v2= .slice U 0 X:=by
    obtain ⟨_,⟨_,b,c,h⟩|⟨_,_,_,_,_,_,h,_,_⟩⟩:=G;· exact ⟨_,_,h⟩
    · exact ⟨_,_,h⟩
   intro a w E K Kp hK _;have I:(Builtin.firstCells i.size 0 (.slice U 0 X)).run P w= .ok #[] w:=by
    cases U with
    |none=>simp [Builtin.firstCells]
    |some ad=>simp [Builtin.firstCells,loadCells,loadCellsFrom]
   have hr:(Builtin.append_ #[t,t] ty #[.slice b n n,.slice U 0 X]).run P w= .ok (.slice b n n) w:=by
    cases b with
    |none=>simp [Builtin.append_,run_underlying ht,Go.sizeOf,typeInfo,hi,Builtin.lenOf,I]
    |some ad=>simp [Builtin.append_,run_underlying ht,Go.sizeOf,typeInfo,hi,Builtin.lenOf,I,storeCells]
   have d9:(execOp (ev a env) ⟨d,.call ⟨.builtin .append,#[x,y],#[t,t]⟩,ty,pos,af,g⟩).run P w= .ok (.value (.slice b n n)) w:=by
    simp only [EU,resolve,invoke,builtin,Tl,L3,NO,hx a,hy a,Sem.run_bind,Sem.run_pure,Result.andThen_ok,hr]
   rw [d9];exact hK _ _ _ ⟨b,n,[],V,B4 _,.inl ⟨V,V,V⟩,V⟩ (E.perm C4)
 · intro a w E K Kp hK bf
   refine JK ht hi cO bn gm ek hx M hy G J O hk ax hb a w E K Kp (fun Z H' w' ⟨W,h1,h2⟩ hs=>?_) bf;obtain ⟨b',c',rfl⟩:=h1.form;have cu:n+k<=c':=by
    obtain ⟨_,⟨hv,h0,_⟩|⟨_,_,_,_,hv,_,h2,_⟩⟩:=id h1;· omega
    · injection hv with _ _ hv3;omega
   exact hK _ _ _ ⟨b',c',W,V,cu,.inr h1,h2⟩ hs
end
theorem Um(a n:Int)(h:0<n):-n<a.tmod n/\a.tmod n<n:=⟨Int.lt_tmod_of_pos a h,Int.tmod_lt_of_pos a h⟩
theorem GK{s:List AR}{H R:Hp}(h:One s H R){b:Nat}{x:Obj}(E:(b,x)∈s):(b,x)∈H.flatten:=h.perm.mem_iff.2 (HE _ E)
theorem Yx{s:List AR}{H R:Hp}(h:One s H R){p:AR}(E:p∈s):∀c∈[p],c∈H.flatten:=fun c hc=>by
 rw [HA.1 hc];exact h.perm.mem_iff.2 (HE _ E)
section
variable{P:Program}{u:AD}{env:Env}{H R:Hp}{d:Option Nat}{ty:An}{pos:String}{af:Array Edge}{g:Option (Nat×Bool)}
end
section
variable{P:Program}{ops:Array Oper}{l:List Oper}{cx:Cx}{Q:Exit->Act->AD->Prop}{env:Env}{H:Hp}
theorem Vh{I:Operand}{fv:Fn}{caps:As}{ty:An}{pos:String}{af:Array Edge}(M:cx.r=none)(K:∀a,ev a env I= .func fv #[] caps)
 (k:Ops P ops l ⟨cx.N,⟨.fn fv caps,#[]⟩::cx.D,cx.u,cx.r⟩ Q env H):Ops P ops (⟨none,.defer ⟨.value I,#[],#[]⟩,ty,pos,af,none⟩::l) cx Q env H:=fun a w G=>by
 have E:Fit a.tmps.size env:=by rw [G.size];exact G.fit
 simp only [wpL];rw [FM ops _ a env E,show wantedE ops a env (⟨none,.defer ⟨.value I,#[],#[]⟩,ty,pos,af,none⟩:Oper).guard=true from rfl,B2 rfl];refine ⟨fun _ _=>trivial,?_⟩;have J:(Fx cx.r).round=none:=M
 rw [J,Oper.semAt_none,FQ a env E];have:(execOp (ev a env) ⟨none,.defer ⟨.value I,#[],#[]⟩,ty,pos,af,none⟩).run P w= .ok (.defer ⟨.fn fv caps,#[]⟩) w:=by
  simp [execOp,resolve,K a,Deferred.ofValue]
 rw [this,Oper.uponIn_defer];have h:=k {a with defers:=⟨.fn fv caps,#[]⟩::cx.D} w ⟨G.size,rfl,G.fit,G.sat⟩
 have e:Ck env {a with defers:=⟨.fn fv caps,#[]⟩::cx.D}={Ck env a with defers:=⟨.fn fv caps,#[]⟩::(Ck env a).defers}:=by
  rw [I8,Fu,G.defers]
 rw [e]at h;exact h
end
def LV(P:Program)(f:FuncId)(args:As)(m m':FrameMode)(H:Hp)(Q:Hp->Prop):Prop:=
 ∀(u:AD) (R:Hp) (w:AD),Sat u (H++R) w->CallsDIn Fence.wide 0 P f args m w fun e m2 w'=>∃v H',e= .returned v/\m2=m'/\Q H'/\Sat u (H'++R) w'
theorem Mx{P:Program}{f:FuncId}{args:As}{m:FrameMode}{w:AD}{R1 R2:Ending->FrameMode->AD->Prop}(h:CallsDIn Fence.wide 0 P f args m w R1)(K:∀e G E,R1 e G E->R2 e G E):CallsDIn Fence.wide 0 P f args m w R2:=
 ⟨h.1,fun c cs hc M=>by
   obtain ⟨e,O,E,I,J,h2⟩:=h.2 c cs hc M;exact ⟨e,O,E,I,K _ _ _ J,h2⟩⟩
theorem TT{P:Program}{fn:Func}{tmps:As}{f:FuncId}{caps:As}{m m':FrameMode}{w u:AD}{Hd Rr R:Hp}{Qd:Hp->Prop}{Q:A3->Hp->Prop}{Pn:List PanicEntry->Hp->Prop}
 (W:m≠ .run)(J:settle m'= .returning)(hc:∀(args:As) (w:AD),(callFunc f args).run P w= .ok (.enter f args) w)(U:LV P f caps m m' Hd Qd)(Z:Sat u (Hd++Rr) w)
 (G:∀H1 E,Qd H1->Sat u (H1++Rr) E->∃v H',(results fn tmps).run P E= .ok v E/\Q v H'/\Sat u (H'++R) E):
 LeavesInM Fence.wide 0 P fn tmps (Fp u R Q Pn) [⟨.fn (.func f) caps,#[]⟩] m w:=by
 refine ⟨W,.inr ⟨fun h=>by simp [Fence.wide]at h,.func f,caps,f,caps,V,?_,fun _ _=>trivial,?_⟩⟩;· simp [invoke,hc]
 · refine Mx (U u Rr w Z) ?_
   rintro e m2 E ⟨v,H1,rfl,rfl,X,I⟩;obtain ⟨K,H',M,h2,O⟩:=G H1 E X I;show LeavesInM Fence.wide 0 P fn tmps (Fp u R Q Pn) [] (settle m2) E
   rw [J];exact ⟨K,M,.inl ⟨K,H',V,h2,O⟩⟩
section
variable{P:Program}{N:Nat}{u:AD}{fn:Func}{R H Hd Rr:Hp}{Q:A3->Hp->Prop}{Pn:List PanicEntry->Hp->Prop}{env:Env}{e:Exit}{f:FuncId}{caps:As}{Qd:Hp->Prop}{m':FrameMode}
end
def Xd(P:Program)(ops:Array Oper)(l:List Nat)(cx:Cx)(cs:List Frame)(Q:Exit->Act->List Frame->AD->Prop)(env:Env)(H:Hp):Prop:=∀a w,St cx env H a w->wpOpsSIn Fence.wide 0 P ops Q l (Ck env a) cs w
section
variable{P:Program}{ops:Array Oper}{l:List Nat}{i:Nat}{cx:Cx}{cs:List Frame}{Q:Exit->Act->List Frame->AD->Prop}{env:Env}{H:Hp}
theorem JP{d:Nat}{I:Op}{ty:An}{pos:String}{af:Array Edge}{v:A3}(K:ops[i]?=some ⟨some d,I,ty,pos,af,none⟩)(h:OpP P ⟨some d,I,ty,pos,af,none⟩ env [] v)(J:Nat.blt d cx.N=true)
 (k:Xd P ops l cx cs Q ((d,v)::env) H):Xd P ops (i::l) cx cs Q env H:=fun a w G=>by
 have E:Fit a.tmps.size env:=by rw [G.size];exact G.fit
 simp only [wpOpsSIn,K];refine ⟨fun _ _=>trivial,?_⟩;rw [FM ops _ a env E,show wantedE ops a env (⟨some d,I,ty,pos,af,none⟩:Oper).guard=true from rfl,B2 rfl,FQ a env E,h a w C4];exact k a w ⟨G.size,G.defers,G.fit.cons J v,G.sat⟩
theorem pR{d:Nat}{ty:An}{pos:String}{af:Array Edge}{cs':List Frame}{v:A3}(J:ops[i]?=some ⟨some d,.call ⟨.builtin .recover,#[],#[]⟩,ty,pos,af,none⟩)(K:recoverD cs=some (v,cs'))(I:Nat.blt d cx.N=true)
 (k:Xd P ops l cx cs' Q ((d,v)::env) H):Xd P ops (i::l) cx cs Q env H:=fun a w G=>by
 have E:Fit a.tmps.size env:=by rw [G.size];exact G.fit
 simp only [wpOpsSIn,J];refine ⟨fun _ _=>trivial,?_⟩;rw [FM ops _ a env E,show wantedE ops a env (⟨some d,.call ⟨.builtin .recover,#[],#[]⟩,ty,pos,af,none⟩:Oper).guard=true from rfl,B2 rfl,FQ a env E];have:(execOp (ev a env) ⟨some d,.call ⟨.builtin .recover,#[],#[]⟩,ty,pos,af,none⟩).run P w= .ok .recover w:=by
  simp [EU,resolve,invoke,builtin]
 rw [this];simp only [K];exact k a w ⟨G.size,G.defers,G.fit.cons I v,G.sat⟩
theorem dh{d:Nat}{ty:An}{pos:String}{af:Array Edge}(J:ops[i]?=some ⟨some d,.call ⟨.builtin .recover,#[],#[]⟩,ty,pos,af,none⟩)(K:recoverD cs=none)(I:Nat.blt d cx.N=true)
 (k:Xd P ops l cx cs Q ((d,.nilIface)::env) H):Xd P ops (i::l) cx cs Q env H:=fun a w G=>by
 have E:Fit a.tmps.size env:=by rw [G.size];exact G.fit
 simp only [wpOpsSIn,J];refine ⟨fun _ _=>trivial,?_⟩;rw [FM ops _ a env E,show wantedE ops a env (⟨some d,.call ⟨.builtin .recover,#[],#[]⟩,ty,pos,af,none⟩:Oper).guard=true from rfl,B2 rfl,FQ a env E];have:(execOp (ev a env) ⟨some d,.call ⟨.builtin .recover,#[],#[]⟩,ty,pos,af,none⟩).run P w= .ok .recover w:=by
  simp [EU,resolve,invoke,builtin]
 rw [this];simp only [K];exact k a w ⟨G.size,G.defers,G.fit.cons I _,G.sat⟩
end
theorem Qi{P:Program}{f:FuncId}{fn:Func}{id:Nat}{ops:Array Oper}{y:Code}{args:As}{N:Nat}{m m':FrameMode}{H:Hp}{Qd:Hp->Prop}{env1:Env}(hf:P.funcs[f]?=some fn)(hb:fn.body=some (.seq (.region id ops false) y))(hN:fn.ntmps=N)(hs:Nat.ble args.size N=true)(ax:fn.results=#[])
 (K:∀(u:AD) (R:Hp) (c:Frame) (cs:List Frame) (Q:Exit->Act->List Frame->AD->Prop),c.mode=m->(∀a w,St ⟨N,[],u,none⟩ env1 (H++R) a w->Q .normal (Ck env1 a) ({c with mode:=m'}::cs) w)->Xd P ops (List.range ops.size) ⟨N,[],u,none⟩ (c::cs) Q (GD 0 args.toList) (H++R))
 (h:∀u R,At P ⟨N,[],u,none⟩ y (bodyPost P fn (Fp u R (fun _ H'=>Qd H') (fun _ _=>False))) env1 (H++R)):LV P f args m m' H Qd:=fun u R w M=>by
 have W:args.size<=N:=c7 hs;have J:Ck (GD 0 args.toList) {tmps:=args++Array.replicate (fn.ntmps -args.size) undef,defers:=[]}={tmps:=args++Array.replicate (fn.ntmps -args.size) undef,defers:=[]}:=by
  refine Ky _ fun p Z=>?_;obtain ⟨_,h2⟩:=Fj _ _ _ Z;simp only [SM,Kf]at h2;have X:p.1<args.size:=by
   rcases FA p.1 args.size with h|h
   · exact h
   · simp [Lk h]at h2
  rw [eI X];exact h2
 refine callsDIn_of_wpSIn (F:=Fence.wide) hf hb trivial fun c₀ cs hm=>?_;rw [<-J];refine wpSIn_seq (wpSIn_region ?_);refine K u R c₀ cs _ hm (fun a w1 af=>?_) _ w ⟨by simp [hN];omega,V,fun p Z=>?_,M⟩
 · refine wpSIn_of_wpIn rfl (wpIn_mono (h u R a w1 af) ?_)
   intro e a2 w2 E;cases e with
   |normal=>
    obtain ⟨O,v,hr,I⟩:=E;rcases I with⟨v',H',G,h2,U⟩|⟨_,_,_,h4,_⟩
    · exact ⟨O,m',rfl,v,hr,v',H',G,rfl,h2,U⟩
    · exact h4.elim
   |ret=>
    obtain ⟨O,v,hr,I⟩:=E;rcases I with⟨v',H',G,h2,U⟩|⟨_,_,_,h4,_⟩
    · exact ⟨O,m',rfl,v,hr,v',H',G,rfl,h2,U⟩
    · exact h4.elim
   |panic ch=>
    obtain ⟨O,I⟩:=E;rcases I with⟨_,_,G,_⟩|⟨_,_,_,h4,_⟩
    · cases G
    · exact h4.elim
   |outgrown=>
    rcases E with⟨_,_,G,_⟩|⟨_,_,_,h4,_⟩
    · cases G
    · exact h4.elim
   |exit i=>exact E.elim
   |goto i=>exact E.elim
 · obtain ⟨_,h2⟩:=Fj _ _ _ Z
   simp only [SM,Kf]at h2;rcases FA p.1 args.size with h|h
   · exact j1 h W
   · simp [Lk h]at h2
theorem Mf{P:Program}{ops:Array Oper}{l:List Oper}{cx:Cx}{Q:Exit->Act->AD->Prop}{env:Env}{H:Hp}{o:Oper}{Fp:A3->Hp->Prop}{J:List PanicEntry->Hp->Prop}(O:∀a,wantedE ops a env o.guard=true)(M:∀t,o.dst=some t->t<cx.N)(hn:EB o.op=true)(W:OpW P cx.u o env H Fp J)
 (h:∀v H',Fp v H'->Ops P ops l cx Q (putE o.dst v env) H')(U:∀ch H',J ch H'->Nx cx (Q (.panic ch)) env H'):Ops P ops (o::l) cx Q env H:=fun a w G=>by
 have I:Fit a.tmps.size env:=by rw [G.size];exact G.fit
 simp only [wpL];rw [FM ops o a env I,O a,B2 rfl];refine ⟨fun _ _=>trivial,RQ ?_⟩;rw [Oq (KX hn),FQ a env I];refine W a w G.sat _ _ (fun v H' K hv E=>?_) (fun ch H' K hv E=>?_)
 · rw [<-NK]
   exact h v H' hv a K ⟨G.size,G.defers,G.fit.putE M v,E⟩
 · exact U ch H' hv a K ⟨G.size,G.defers,G.fit,E⟩
section
variable{P:Program}{ops:Array Oper}{l:List Oper}{cx:Cx}{Q:Exit->Act->AD->Prop}{env:Env}{H:Hp}
theorem TH{f:FuncId}{x:Operand}{v:A3}{G:Array An}{ty:An}{pos:String}{af:Array Edge}(M:cx.r=none)(hx:∀a,ev a env x=v)
 (k:Ops P ops l ⟨cx.N,⟨.fn (.func f) #[],#[v]⟩::cx.D,cx.u,cx.r⟩ Q env H):Ops P ops (⟨none,.defer ⟨.value (.func f),#[x],G⟩,ty,pos,af,none⟩::l) cx Q env H:=fun a w I=>by
 have E:Fit a.tmps.size env:=by rw [I.size];exact I.fit
 simp only [wpL];rw [FM ops _ a env E,show wantedE ops a env (⟨none,.defer ⟨.value (.func f),#[x],G⟩,ty,pos,af,none⟩:Oper).guard=true from rfl,B2 rfl];refine ⟨fun _ _=>trivial,?_⟩;have J:(Fx cx.r).round=none:=M
 rw [J,Oper.semAt_none,FQ a env E];have K:ev a env (.func f)= .func (.func f) #[] #[]:=rfl
 have:(execOp (ev a env) ⟨none,.defer ⟨.value (.func f),#[x],G⟩,ty,pos,af,none⟩).run P w= .ok (.defer ⟨.fn (.func f) #[],#[v]⟩) w:=by
  simp [execOp,resolve,K,hx a,Deferred.ofValue]
 rw [this,Oper.uponIn_defer];have h:=k {a with defers:=⟨.fn (.func f) #[],#[v]⟩::cx.D} w ⟨I.size,rfl,I.fit,I.sat⟩
 have e:Ck env {a with defers:=⟨.fn (.func f) #[],#[v]⟩::cx.D}={Ck env a with defers:=⟨.fn (.func f) #[],#[v]⟩::(Ck env a).defers}:=by
  rw [I8,Fu,I.defers]
 rw [e]at h;exact h
end
theorem eF{P:Program}{fn:Func}{tmps:As}{fa f:FuncId}{va caps:As}{ma m':FrameMode}{w u:AD}{Hd Rr R:Hp}{Qd:Hp->Prop}{Q:A3->Hp->Prop}{Pn:List PanicEntry->Hp->Prop}
 (O:settle ma= .returning)(J:∀(args:As) (w:AD),(callFunc fa args).run P w= .ok (.enter fa args) w)(K:LV P fa va .returning ma [] (fun H'=>H'=[]))
 (M:settle m'= .returning)(hc:∀(args:As) (w:AD),(callFunc f args).run P w= .ok (.enter f args) w)(U:LV P f caps .returning m' Hd Qd)(W:Sat u (Hd++Rr) w)
 (G:∀H1 E,Qd H1->Sat u (H1++Rr) E->∃v H',(results fn tmps).run P E= .ok v E/\Q v H'/\Sat u (H'++R) E):
 LeavesInM Fence.wide 0 P fn tmps (Fp u R Q Pn) [⟨.fn (.func fa) #[],va⟩,⟨.fn (.func f) caps,#[]⟩] .returning w:=by
 refine ⟨by simp,.inr ⟨fun h=>by simp [Fence.wide]at h,.func fa,#[],fa,va,V,?_,fun _ _=>trivial,?_⟩⟩;· simp [invoke,J]
 · refine Mx (K u (Hd++Rr) w W) ?_
   rintro e X E ⟨v,H1,rfl,rfl,rfl,I⟩;show LeavesInM Fence.wide 0 P fn tmps (Fp u R Q Pn) [⟨.fn (.func f) caps,#[]⟩] (settle X) E
   rw [O];exact TT C4 M hc U I G
section
variable{P:Program}{N:Nat}{u:AD}{fn:Func}{R H Hd Rr:Hp}{Q:A3->Hp->Prop}{Pn:List PanicEntry->Hp->Prop}{env:Env}{e:Exit}{fa f:FuncId}{va caps:As}{Qd:Hp->Prop}{ma m':FrameMode}
theorem Yu(he:GH e=true)(U:settle ma= .returning)(K:∀(args:As) (w:AD),(callFunc fa args).run P w= .ok (.enter fa args) w)(M:LV P fa va .returning ma [] (fun H'=>H'=[]))
 (O:settle m'= .returning)(hc:∀(args:As) (w:AD),(callFunc f args).run P w= .ok (.enter f args) w)(hd:LV P f caps .returning m' Hd Qd)(hp:FX Hd H Rr)
 (I:∀H1,Qd H1->∃v H',(∀(a:Act) (w:AD),Fit a.tmps.size env->Sat u (H1++Rr) w->(results fn (Ck env a).tmps).run P w= .ok v w)/\Q v H'/\UB (H'++R) (H1++Rr)):
 Nx ⟨N,[⟨.fn (.func fa) #[],va⟩,⟨.fn (.func f) caps,#[]⟩],u,none⟩ (bodyPostM Fence.wide 0 P fn (Fp u R Q Pn) e) env H:=fun a w J=>by
 have W:(Ck env a).defers=[⟨.fn (.func fa) #[],va⟩,⟨.fn (.func f) caps,#[]⟩]:=by rw [Fu];exact J.defers
 have G:LeavesInM Fence.wide 0 P fn (Ck env a).tmps (Fp u R Q Pn) (Ck env a).defers .returning w:=by
  rw [W];refine eF U K M O hc hd (J.sat.perm hp.perm) fun H1 w' hq E=>?_;obtain ⟨v,H',h2,X,Z⟩:=I H1 hq;exact ⟨v,H',h2 a w' (by rw [J.size];exact J.fit) E,X,E.sub Z⟩
 cases e<;>first|exact G|simp [GH]at he
end
theorem R4{P:Program}{f:FuncId}{fn:Func}{y:Code}{args:As}{N:Nat}{m:FrameMode}{H:Hp}{Qd:Hp->Prop}(hf:P.funcs[f]?=some fn)(hb:fn.body=some y)(hN:fn.ntmps=N)(hs:Nat.ble args.size N=true)
 (h:∀u R,At P ⟨N,[],u,none⟩ y (bodyPost P fn (Fp u R (fun _ H'=>Qd H') (fun _ _=>False))) (GD 0 args.toList) (H++R)):LV P f args m m H Qd:=fun u R w M=>by
 have X:args.size<=N:=c7 hs;have K:Ck (GD 0 args.toList) {tmps:=args++Array.replicate (fn.ntmps -args.size) undef,defers:=[]}={tmps:=args++Array.replicate (fn.ntmps -args.size) undef,defers:=[]}:=by
  refine Ky _ fun p hp=>?_;obtain ⟨_,h2⟩:=Fj _ _ _ hp;simp only [SM,Kf]at h2;have Z:p.1<args.size:=by
   rcases FA p.1 args.size with h|h
   · exact h
   · simp [Lk h]at h2
  rw [eI Z];exact h2
 refine callsDIn_of_wpSIn (F:=Fence.wide) hf hb trivial fun U cs hm=>?_;have J:({U with mode:=m}:Frame)=U:=by cases U;simp only at hm;subst hm;rfl
 rw [<-K];refine wpSIn_of_wpIn V (wpIn_mono (h u R _ w ⟨by simp [hN];omega,V,fun p hp=>?_,M⟩) ?_)
 · obtain ⟨_,h2⟩:=Fj _ _ _ hp
   simp only [SM,Kf]at h2;rcases FA p.1 args.size with h|h
   · exact j1 h X
   · simp [Lk h]at h2
 · intro e a2 w2 E
   cases e with
   |normal=>
    obtain ⟨O,v,hr,I⟩:=E;rcases I with⟨v',H',G,h2,W⟩|⟨_,_,_,h4,_⟩
    · exact ⟨O,m,by rw [J],v,hr,v',H',G,rfl,h2,W⟩
    · exact h4.elim
   |ret=>
    obtain ⟨O,v,hr,I⟩:=E;rcases I with⟨v',H',G,h2,W⟩|⟨_,_,_,h4,_⟩
    · exact ⟨O,m,by rw [J],v,hr,v',H',G,rfl,h2,W⟩
    · exact h4.elim
   |panic ch=>
    obtain ⟨O,I⟩:=E;rcases I with⟨_,_,G,_⟩|⟨_,_,_,h4,_⟩
    · cases G
    · exact h4.elim
   |outgrown=>
    rcases E with⟨_,_,G,_⟩|⟨_,_,_,h4,_⟩
    · cases G
    · exact h4.elim
   |exit i=>exact E.elim
   |goto i=>exact E.elim
section
variable{P:Program}{u:AD}{env:Env}{H R:Hp}{d:Option Nat}{ty:An}{pos:String}{af:Array Edge}{g:Option (Nat×Bool)}
theorem rz{t e:An}{f0 f1 f2 f3:Field}(w:AD)(n:Nat)(x0 x1 x2 x3 y0 y1 y2 y3:Int)(hu:P.underlying t=some (.struct #[f0,f1,f2,f3]))(hst:P.stoodInHeld t=false)
 (h0:f0.name≠ "_"∧f0.type=e∧f0.offset=0)(h1:f1.name≠ "_"∧f1.type=e∧f1.offset=1)(h2:f2.name≠ "_"∧f2.type=e∧f2.offset=2)(h3:f3.name≠ "_"∧f3.type=e∧f3.offset=3)
 (he:P.underlying e=some (.int .i64))(ha:∀w:AD,(isAgg e).run P w= .ok false w):
 (Op.equalIn (n+2) t (.agg #[I4 x0,I4 x1,I4 x2,I4 x3]) (.agg #[I4 y0,I4 y1,I4 y2,I4 y3])).run P w= .ok (decide (x0=y0/\x1=y1/\x2=y2/\x3=y3)) w:=by
 obtain ⟨n0,e0,o0⟩:=h0;obtain ⟨n1,e1,o1⟩:=h1;obtain ⟨n2,e2,o2⟩:=h2;obtain ⟨n3,e3,o3⟩:=h3;have ei:∀(m k:Int) (w:AD),(Op.equalIn (n+1) e (I4 m) (I4 k)).run P w= .ok (decide (m=k)) w:=fun m k w=>PY n w he m k
 have p0:∀(v0 v1 v2 v3:A3) (w:AD),(part e #[v0,v1,v2,v3] 0).run P w= .ok v0 w:=fun _ _ _ _ w=>FR w (ha w) _ _ rfl;have p1:∀(v0 v1 v2 v3:A3) (w:AD),(part e #[v0,v1,v2,v3] 1).run P w= .ok v1 w:=fun _ _ _ _ w=>FR w (ha w) _ _ rfl
 have p2:∀(v0 v1 v2 v3:A3) (w:AD),(part e #[v0,v1,v2,v3] 2).run P w= .ok v2 w:=fun _ _ _ _ w=>FR w (ha w) _ _ rfl;have p3:∀(v0 v1 v2 v3:A3) (w:AD),(part e #[v0,v1,v2,v3] 3).run P w= .ok v3 w:=fun _ _ _ _ w=>FR w (ha w) _ _ rfl
 rw [show n+2=(n+1)+1 from rfl,Op.equalIn];generalize n+1=m at*;simp only [Sem.run_bind,run_underlying hu,Result.andThen_ok,run_program,hst,PC,LN];rw [<-mB];simp only [fz,ka,n0,n1,n2,n3,e0,e1,e2,e3,o0,o1,o2,o3,ne_eq,not_false_eq_true,Mp];simp only [Sem.run_bind,p0,p1,p2,p3,ei,Result.andThen_ok];by_cases c0:x0=y0
 · by_cases c1:x1=y1
   · by_cases c2:x2=y2
     · by_cases c3:x3=y3<;>simp [c0,c1,c2,c3,p0,p1,p2,p3,ei,n1,n2,n3]
     · simp [c0,c1,c2,p0,p1,p2,p3,ei,n1,n2,n3]
   · simp [c0,c1,p0,p1,p2,p3,ei,n1,n2,n3]
 · simp [c0,p0,p1,p2,p3,ei,n1,n2,n3]
theorem Qy{t yt e:An}{f0 f1 f2 f3:Field}{x y:Operand}{x0 x1 x2 x3 y0 y1 y2 y3:Int}(hg:P.eqGuardType P.depth t=false)(hu:P.underlying t=some (.struct #[f0,f1,f2,f3]))(hst:P.stoodInHeld t=false)
 (h0:f0.name≠ "_"∧f0.type=e∧f0.offset=0)(h1:f1.name≠ "_"∧f1.type=e∧f1.offset=1)(h2:f2.name≠ "_"∧f2.type=e∧f2.offset=2)(h3:f3.name≠ "_"∧f3.type=e∧f3.offset=3)
 (he:P.underlying e=some (.int .i64))(ha:∀w:AD,(isAgg e).run P w= .ok false w)
 (hx:∀a,ev a env x= .agg #[I4 x0,I4 x1,I4 x2,I4 x3])(hy:∀a,ev a env y= .agg #[I4 y0,I4 y1,I4 y2,I4 y3]):OpP P ⟨d,.binOp .eql t x y yt,ty,pos,af,g⟩ env [] (.bool (decide (x0=y0/\x1=y1/\x2=y2/\x3=y3))):=fun a w _=>by
 simp [D6,hx a,hy a,go_sem,run_eqGuard_agg w _ t _ _ _ _ hg,Ke,Op.equal,Op.maxDepth,rz w 9998 x0 x1 x2 x3 y0 y1 y2 y3 hu hst h0 h1 h2 h3 he ha]
end
def EqT(P:Program)(k:Nat)(t:An)(v u:A3)(b:Bool):Prop:=∀(n:Nat) (w:AD),(Op.equalIn (n+k) t v u).run P w= .ok b w
section
variable{P:Program}{t e:An}
theorem Iy(E:P.underlying e=some (.int .i64))(m k:Int):EqT P 2 e (I4 m) (I4 k) (decide (m=k)):=fun n w=>PY (n+1) w E m k
theorem aL(E:P.underlying e=some .bool)(a b:Bool):EqT P 2 e (.bool a) (.bool b) (decide (a=b)):=fun n w=>by
 show(Op.equalIn ((n+1)+1) e _ _).run P w=_;simp [Op.equalIn,run_underlying E];cases a<;>cases b<;>rfl
theorem j3(E:P.underlying e=some .string)(a b:ByteArray):EqT P 2 e (.string a) (.string b) (decide (a=b)):=fun n w=>by
 show(Op.equalIn ((n+1)+1) e _ _).run P w=_;simp [Op.equalIn,run_underlying E];cases a with|mk a=>cases b with|mk b=>
 by_cases h:a=b
 · subst h
   have:(({data:=a}:ByteArray)=={data:=a})=true:=by show(a==a)=true;simp
   simp [this]
 · have:(({data:=a}:ByteArray)=={data:=b})=false:=by show(a==b)=false;simpa using h
   simp [this,h]
theorem aM(J:P.underlying t=some (.array 3 e))(G:P.underlying e=some (.int .i64))(E:∀w:AD,(isAgg e).run P w= .ok false w)(I:∀w:AD,(Go.sizeOf e).run P w= .ok 1 w)(x y:V3):
 EqT P 2 t (.agg #[I4 x.a,I4 x.b,I4 x.c]) (.agg #[I4 y.a,I4 y.b,I4 y.c]) (decide (x=y)):=fun n w=>Ra w n x y J G E I
def XO(d:Nat)(xs ys:As)(L:List Field):Sem Bool:=do
 for f in L do
  if f.name≠ "_" then
   if !(<-Op.equalIn d f.type (<-part f.type xs f.offset) (<-part f.type ys f.offset))then return false
 pure true
inductive FEq(P:Program)(xs ys:As):List Field->List Bool->Prop
 |nil:FEq P xs ys [] []
 |cons {f:Field} {v u:A3} {b:Bool} {fs:List Field} {bs:List Bool} (hn:f.name≠ "_") (hx:∀w:AD,(part f.type xs f.offset).run P w= .ok v w) (hy:∀w:AD,(part f.type ys f.offset).run P w= .ok u w) (h:EqT P 2 f.type v u b) (k:FEq P xs ys fs bs):FEq P xs ys (f::fs) (b::bs)
theorem fH{xs ys:As}{fs:List Field}{bs:List Bool}(h:FEq P xs ys fs bs)(n:Nat)(w:AD):(XO (n+2) xs ys fs).run P w= .ok (bs.all id) w:=by
 induction h with
 |nil=>simp [XO]
 |cons hn hx hy h k ih=>
  unfold XO at*;rw [fz];simp only [hn,ne_eq,not_false_eq_true,Mp,Sem.run_bind,hx,hy,h n w,Result.andThen_ok,ki,id];rename_i b _ _;cases b;· simp
  · simpa using ih
theorem OM{fs:Array Field}{xs ys:As}{bs:List Bool}{b:Bool}(J:P.underlying t=some (.struct fs))(E:P.stoodInHeld t=false)(h:FEq P xs ys fs.toList bs)(I:bs.all id=b):EqT P 3 t (.agg xs) (.agg ys) b:=fun n w=>by
 show(Op.equalIn ((n+2)+1) t _ _).run P w=_;rw [Op.equalIn];simp only [Sem.run_bind,run_underlying J,Result.andThen_ok,run_program,E,PC,LN];rw [<-mB,<-I];have G:=fH h n w
 unfold XO at G;simpa only [Sem.run_bind]using G
theorem Cz{xs:As}{j:Nat}{v:A3}(E:∀w:AD,(isAgg e).run P w= .ok false w)(h:xs[j]?=some v):∀w:AD,(part e xs j).run P w= .ok v w:=fun w=>FR w (E w) _ _ h
theorem PE{xs:As}{j n:Nat}{cs:As}(E:∀w:AD,(isAgg e).run P w= .ok true w)(G:∀w:AD,(Go.sizeOf e).run P w= .ok n w)(h:xs.extract j (j+n)=cs)(hn:j+n<=xs.size):∀w:AD,(part e xs j).run P w= .ok (.agg cs) w:=fun w=>by
 simp [part,E,G,h]
end
section
variable{P:Program}{u:AD}{env:Env}{H R:Hp}{d:Option Nat}{ty:An}{pos:String}{af:Array Edge}{g:Option (Nat×Bool)}
theorem X5{t yt:An}{x y:Operand}{p q:As}{b:Bool}(E:P.eqGuardType P.depth t=false)(hx:∀a,ev a env x= .agg p)(hy:∀a,ev a env y= .agg q)(h:EqT P 3 t (.agg p) (.agg q) b):OpP P ⟨d,.binOp .eql t x y yt,ty,pos,af,g⟩ env [] (.bool b):=fun a w _=>by
 simp [D6,hx a,hy a,go_sem,run_eqGuard_agg w _ t _ _ _ _ E,Ke,Op.equal,Op.maxDepth,h 9997 w]
theorem dY{t yt:An}{x y:Operand}{p q:As}{b:Bool}(E:P.eqGuardType P.depth t=false)(hx:∀a,ev a env x= .agg p)(hy:∀a,ev a env y= .agg q)(h:EqT P 3 t (.agg p) (.agg q) b):OpP P ⟨d,.binOp .neq t x y yt,ty,pos,af,g⟩ env [] (.bool (!b)):=fun a w _=>by
 simp [D6,hx a,hy a,go_sem,run_eqGuard_agg w _ t _ _ _ _ E,N8,Op.equal,Op.maxDepth,h 9997 w]
end
section
variable{P:Program}{N:Nat}{u:AD}{fn:Func}{R H Ha Ha' Hd Hd' R1 R2:Hp}{Q:A3->Hp->Prop}{Pn:List PanicEntry->Hp->Prop}{env:Env}{fa f:FuncId}{va caps:As}{ma m':FrameMode}
theorem K8{ch:List PanicEntry}(U:settle ma= .returning)(K:∀(args:As) (w:AD),(callFunc fa args).run P w= .ok (.enter fa args) w)(M:LV P fa va (.panicking ch) ma Ha (fun H'=>H'=Ha'))
 (O:settle m'= .returning)(hc:∀(args:As) (w:AD),(callFunc f args).run P w= .ok (.enter f args) w)(hd:LV P f caps .returning m' Hd (fun H'=>H'=Hd'))(W:FX Ha H R1)(X:FX Hd (Ha'++R1) R2)
 (G:∃v H',(∀(a:Act) (w:AD),a.tmps.size=N->Fit N env->Sat u (Hd'++R2) w->(results fn (Ck env a).tmps).run P w= .ok v w)/\Q v H'/\UB (H'++R) (Hd'++R2)):
 Nx ⟨N,[⟨.fn (.func fa) #[],va⟩,⟨.fn (.func f) caps,#[]⟩],u,none⟩ (bodyPostM Fence.wide 0 P fn (Fp u R Q Pn) (.panic ch)) env H:=fun a w J=>by
 have Z:(Ck env a).defers=[⟨.fn (.func fa) #[],va⟩,⟨.fn (.func f) caps,#[]⟩]:=by rw [Fu];exact J.defers
 show LeavesInM Fence.wide 0 P fn (Ck env a).tmps (Fp u R Q Pn) (Ck env a).defers (.panicking ch) w;rw [Z];refine ⟨by simp,.inr ⟨fun h=>by simp [Fence.wide]at h,.func fa,#[],fa,va,V,?_,fun _ _=>trivial,?_⟩⟩;· simp [invoke,K]
 · refine Mx (M u R1 w (J.sat.perm W.perm)) ?_
   rintro e m2 w' ⟨v,H1,rfl,rfl,rfl,I⟩;show LeavesInM Fence.wide 0 P fn (Ck env a).tmps (Fp u R Q Pn) [⟨.fn (.func f) caps,#[]⟩] (settle m2) w'
   rw [U];refine TT C4 O hc hd (I.perm X.perm) ?_;rintro H1 w2 rfl E;obtain ⟨v,H',h2,h3,h4⟩:=G;exact ⟨v,H',h2 a w2 J.size J.fit E,h3,E.sub h4⟩
end
theorem Tv{P:Program}{f:FuncId}{args:As}{H H1:Hp}{Q G:A3->Hp->Prop}(h:CJ P f args H Q)(R:List AR)(M:H1.flatten.Perm (H.flatten++R))(O:∀v H',Q v H'->∃E,G v E/\E.flatten.Perm (H'.flatten++R)):CJ P f args H1 G:=fun u R1 w U=>by
 have I:Sat u (H++([R]++R1)) w:=U.perm (by
  simp only [Kx,HW,N4,HT];rw [<-G0];exact M.append_right _)
 refine (h u ([R]++R1) w I).mono ?_;rintro e W (⟨v,H',rfl,h2,h3⟩|⟨_,_,_,h,_⟩)
 · obtain ⟨E,J,K⟩:=O v H' h2
   refine .inl ⟨v,E,V,J,h3.perm ?_⟩;simp only [Kx,HW,N4,HT];rw [<-G0];exact K.symm.append_right _
 · exact h.elim
section
variable{P:Program}{u:AD}{H R:Hp}{env:Env}
theorem Wq{s0 t ty b j s1 s2:Nat}{fn:Func}{o v x y:A3}(I:fn.results=#[.tmp s0,.cell t ty,.tmp s1,.tmp s2]){w:AD}{tmps:As}(E:tmps.getD s0 undef=o)(hx:tmps.getD t undef= .pointer (some ⟨b,j,none⟩))(G:(loadVar ty ⟨b,j,none⟩).run P w= .ok v w)(hy:tmps.getD s1 undef=x)(hz:tmps.getD s2 undef=y):(results fn tmps).run P w= .ok (.tuple #[o,v,x,y]) w:=by
 rw [Lw]at E hx hy hz;simp [results,I,E,hx,hy,hz,asAddr,G]
theorem dn{e:Exit}{N:Nat}{r:Option Nat}{fn:Func}{Q:A3->Hp->Prop}{Pn:List PanicEntry->Hp->Prop}{H':Hp}{s0 t ty b j s1 s2:Nat}{z v x y:A3}{o:Obj}(I:GH e=true)(O:fn.results=#[.tmp s0,.cell t ty,.tmp s1,.tmp s2])(hz:∀a,FC a env s0=z)(hv:∀a,FC a env t= .pointer (some ⟨b,j,none⟩))(G:Has b o H)(J:∀w:AD,w.heap[b]?=some o->(loadVar ty ⟨b,j,none⟩).run P w= .ok v w)(hx:∀a,FC a env s1=x)(hy:∀a,FC a env s2=y)(M:Q (.tuple #[z,v,x,y]) H')
 (K:Sub (H'++R) H:=by repeat(first|exact Sub.refl _|exact Sub.nil _|(apply Sub.cons;(focus (repeat(first|exact One.here _ _|apply One.there))))|refine Sub.drop _ ?_)):Nx ⟨N,[],u,r⟩ (bodyPost P fn (Fp u R Q Pn) e) env H:=
 Kk I (fun a w E=>Wq O (by rw [Br a env (by rw [E.size];exact E.fit),hz a]) (by rw [Br a env (by rw [E.size];exact E.fit),hv a]) (J w (E.sat.get _ G.mem)) (by rw [Br a env (by rw [E.size];exact E.fit),hx a]) (by rw [Br a env (by rw [E.size];exact E.fit),hy a])) M K
theorem Y9{t ty b j t2 G J j2 s1:Nat}{fn:Func}{v K x:A3}(O:fn.results=#[.cell t ty,.cell t2 G,.tmp s1]){w:AD}{tmps:As}(hx:tmps.getD t undef= .pointer (some ⟨b,j,none⟩))(M:(loadVar ty ⟨b,j,none⟩).run P w= .ok v w)(E:tmps.getD t2 undef= .pointer (some ⟨J,j2,none⟩))(I:(loadVar G ⟨J,j2,none⟩).run P w= .ok K w)(hy:tmps.getD s1 undef=x):(results fn tmps).run P w= .ok (.tuple #[v,K,x]) w:=by
 rw [Lw]at hx E hy;simp [results,O,hx,E,hy,asAddr,M,I]
theorem kX{e:Exit}{N:Nat}{r:Option Nat}{fn:Func}{Q:A3->Hp->Prop}{Pn:List PanicEntry->Hp->Prop}{H':Hp}{t ty b j t2 G I j2 s1:Nat}{v U x:A3}{o O:Obj}(X:GH e=true)(hr:fn.results=#[.cell t ty,.cell t2 G,.tmp s1])(hv:∀a,FC a env t= .pointer (some ⟨b,j,none⟩))(M:∀a,FC a env t2= .pointer (some ⟨I,j2,none⟩))(hx:∀a,FC a env s1=x)(W:Has b o H)(J:Has I O H)(Z:∀w:AD,w.heap[b]?=some o->(loadVar ty ⟨b,j,none⟩).run P w= .ok v w)(K:∀w:AD,w.heap[I]?=some O->(loadVar G ⟨I,j2,none⟩).run P w= .ok U w)(hq:Q (.tuple #[v,U,x]) H')
 (hp:Sub (H'++R) H:=by repeat(first|exact Sub.refl _|exact Sub.nil _|(apply Sub.cons;(focus (repeat(first|exact One.here _ _|apply One.there))))|refine Sub.drop _ ?_)):Nx ⟨N,[],u,r⟩ (bodyPost P fn (Fp u R Q Pn) e) env H:=
 Kk X (fun a w E=>Y9 hr (by rw [Br a env (by rw [E.size];exact E.fit),hv a]) (Z w (E.sat.get _ W.mem)) (by rw [Br a env (by rw [E.size];exact E.fit),M a]) (K w (E.sat.get _ J.mem)) (by rw [Br a env (by rw [E.size];exact E.fit),hx a])) hq hp
end
end Gw
