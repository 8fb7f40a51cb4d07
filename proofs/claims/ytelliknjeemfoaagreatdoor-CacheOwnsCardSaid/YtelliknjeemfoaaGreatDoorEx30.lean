/- Walking by chunks: a range over a function; the end of a function that holds one. No function of the program is named. -/
import Derived.Test.YtelliknjeemfoaaGreatDoorEz
import Derived.Lib.Hide
import Derived.Shelf.GgSortFunc.InsertionK
import Derived.Lib.AppendZerosOnto
import Derived.Lib.Overlaps
import Derived.RecoverIn
import Derived.RangeFuncNested
set_option linter.unusedVariables false
set_option linter.unusedSimpArgs false
namespace Gw
open Go Go.RowKit
def GG(P:Program)(l:Nat)(args:AM)(H:Hp)(Q:A2->Hp->Prop):Prop:=
 ∀(u:A4) (R:Hp) (w:A4),Sat u (H++R) w->∀(K:A2->A4->Prop) (Kp:List PanicEntry->A4->Prop),(∀v H' w',Q v H'->Sat u (H'++R) w'->K v w')->Ui P K Kp ((Instr.yield l args).run P w)
section
variable{P:Program}{u:A4}{env:Env}{H R:Hp}{d:Option Nat}{ty:AK}{pos:String}{af:Array Edge}{g:Option (Nat×Bool)}
theorem GX{J:Operand}{B:Array Operand}{G:Array AK}{l:Nat}{vs:List A2}{U:Hp}{Q:A2->Hp->Prop}
 (hf:∀a,ev a env J= .func (.yield l) #[] #[])(ha:∀a,B.toList.map (ev a env)=vs)(O:GG P l vs.toArray U Q)(hp:Ey U H R):
 OpW P u ⟨d,.call ⟨.value J,B,G⟩,ty,pos,af,g⟩ env H (fun v H'=>∃H1,Q v H1/\H'=H1++R) (fun _ _=>False):=fun a w hs K W Z _=>by
 have X:B.map (ev a env)=vs.toArray:=by rw [<-ha a];exact JB _ B
 have:(execOp (ev a env) ⟨d,.call ⟨.value J,B,G⟩,ty,pos,af,g⟩).run P w=(Instr.yield l vs.toArray).run P w:=by
  simp [E8,resolve,hf a,Deferred.ofValue,invoke,X]
 rw [this];exact O u R w (hs.perm hp.perm) K W fun v H' w' hq I=>Z v _ w' ⟨H',hq,V⟩ I
end
def U7{α:Type}(P:Program)(gf:FuncId)(lb:AM)(Hit:Hp)(encs:α->AM)(xs:List α):Prop:=
 ∀(l:Nat) (J:List α->List A8->Prop),(∀pre x post s,xs=pre++x::post->J pre s->GG P l (encs x) [s] (fun v H'=>∃s',v= .bool true/\H'=[s']/\J (pre++[x]) s'))->
  ∀s,J [] s->BQ P gf (#[.func (.yield l) #[] #[]]++lb) (Hit++[s]) (fun _ H'=>∃s',H'=[s']/\J xs s')
def FC{α:Type}(P:Program)(gf:FuncId)(lb:AM)(Hit:Hp)(A:List A8->Prop)(encs:α->AM)(xs:List α):Prop:=
 ∀(l:Nat) (J:List α->List A8->Prop),(∀pre s,J pre s->A s)->(∀pre x post s,xs=pre++x::post->J pre s->GG P l (encs x) [s] (fun v H'=>∃s',v= .bool true/\H'=[s']/\J (pre++[x]) s'))->
  ∀s,J [] s->BQ P gf (#[.func (.yield l) #[] #[]]++lb) (Hit++[s]) (fun _ H'=>∃s',H'=[s']/\J xs s')
def Is(cx:Cx)(env:Env)(H:Hp)(a:Act)(w:A4):Prop:=∃a0,St cx env H a0 w/\a=C9 env a0
theorem rY{cx:Cx}{env:Env}{H:Hp}{Q:Exit->Act->A4->Prop}:Nx cx ((Exit.then (Is cx env H) Q) .normal) env H:=fun a _ B=>⟨a,B,rfl⟩
def IV{α:Type}(u:A4)(I:List α->Hp->Prop)(xs:List α)(R:Hp):Exit->Act->A4->Prop
 | .normal,_,w=>∃H,I xs H/\Sat u (H++R) w
 |_,_,_=>False
theorem Fq{α:Type}{cx:Cx}{I:List α->Hp->Prop}{xs:List α}{R:Hp}{env:Env}{H H':Hp}{u:A4}(J:cx.u=u)(h:I xs H')(B:Sub (H'++R) H:=by repeat(first|exact Sub.refl _|exact Sub.nil _|(apply Sub.cons;(focus (repeat(first|exact One.here _ _|apply One.there))))|refine Sub.drop _ ?_)):Nx cx (IV u I xs R .normal) env H:=fun _ _ G=>⟨H',h,by subst J;exact G.sat.sub B.amid⟩
theorem JS:∀(e1 e2:Env) (a:Act),C9 (e1++e2) a=C9 e1 (C9 e2 a)
 |[],_,_=>rfl
 |(d,v)::e1,e2,a=>by simp only [S6,C9];rw [JS e1 e2 a]
theorem Nf:∀(l:List (Nat×A2)) (b:Act),(l.foldl (fun(t:AM) (p:Nat×A2)=>t.setIfInBounds p.1 p.2) b.tmps)=(C9 l.reverse b).tmps
 |[],_=>rfl
 |(d,v)::l,b=>by
  simp only [W8,List.reverse_cons];rw [JS];have:=Nf l (b.put (some d) v)
  simpa [C9,Act.put]using this
theorem FE(D:List Deferred):∀(e:Env) (a:Act),C9 e {a with defers:=D}={C9 e a with defers:=D}
 |[],_=>rfl
 |(d,v)::e,a=>by simp only [C9];rw [FE D e a];rfl
theorem Sat.turn{u w:A4}{b:Nat}{o o':Obj}{H:Hp}(h:Sat u ([(b,o)]::H) w):Sat u ([(b,o')]::H) (w.putObj b o'):=by
 have B:b<w.heap.size:=h.lt (p:=(b,o)) B6;refine h.upd (.here _) V rfl V (World.putObj_heap_same B) fun k G=>World.putObj_heap_other G
theorem Bt{a b:List A8}(h:∀f:List A8->Nat,(∀u v,f (u++v)=f u+f v)->f a=f b):a.Perm b:=by
 letI:DecidableEq A8:=fun a b=>Classical.propDecidable (a=b)
 exact List.perm_iff_count.2 fun x=>h (fun l=>l.count x) fun u v=>List.count_append
theorem Sat.parts{u w:A4}{H H':Hp}(G:Sat u H w)(h:∀f:List A8->Nat,(∀u v,f (u++v)=f u+f v)->f []=0->(∀x y,f [x,y]=f [x]+f [y])->f H.flatten=f H'.flatten):Sat u H' w:=
 G.perm (Bt fun f B=>h f B (by have:=B [] [];simp at this;omega) fun x y=>B [x] [y])
theorem Tw{P:Program}{cx:Cx}{c:Code}{Q:Exit->Act->A4->Prop}{env:Env}{H H':Hp}(h:At P cx c Q env H)(G:∀f:List A8->Nat,(∀u v,f (u++v)=f u+f v)->f []=0->(∀x y,f [x,y]=f [x]+f [y])->f H'.flatten=f H.flatten):At P cx c Q env H':=fun a w B=>h a w ⟨B.size,B.defers,B.fit,B.sat.parts G⟩
def KJ{α:Type}(u:A4)(I Ix:List α->Hp->Prop)(xs:List α)(R:Hp):Exit->Act->A4->Prop
 | .normal,_,w=>∃H,I xs H/\Sat u (H++R) w
 | .ret,_,w=>∃H,Ix xs H/\Sat u (H++R) w
 |_,_,_=>False
theorem VX{α:Type}{cx:Cx}{I Ix:List α->Hp->Prop}{xs:List α}{R:Hp}{env:Env}{H H':Hp}{u:A4}(J:cx.u=u)(h:I xs H')(B:Sub (H'++R) H:=by repeat(first|exact Sub.refl _|exact Sub.nil _|(apply Sub.cons;(focus (repeat(first|exact One.here _ _|apply One.there))))|refine Sub.drop _ ?_)):Nx cx (KJ u I Ix xs R .normal) env H:=fun _ _ G=>⟨H',h,by subst J;exact G.sat.sub B.amid⟩
theorem lI{α:Type}{cx:Cx}{I Ix:List α->Hp->Prop}{xs:List α}{R:Hp}{env:Env}{H H':Hp}{u:A4}(J:cx.u=u)(h:Ix xs H')(B:Sub (H'++R) H:=by repeat(first|exact Sub.refl _|exact Sub.nil _|(apply Sub.cons;(focus (repeat(first|exact One.here _ _|apply One.there))))|refine Sub.drop _ ?_)):Nx cx (KJ u I Ix xs R .ret) env H:=fun _ _ G=>⟨H',h,by subst J;exact G.sat.sub B.amid⟩
def WC{α:Type}(P:Program)(gf:FuncId)(lb:AM)(Hit Hk:Hp)(A:List α->List A8->Prop)(Enc:α->AM->List A8->Prop)(Adm Full:List α->Prop)(St:Prop):Prop:=
 ∀(l:Nat) (J Jx:List α->List A8->Prop),(∀pre s,J pre s->A pre s)->(∀pre s,Jx pre s->St)->(∀pre x s vs sx,Adm (pre++[x])->J pre s->Enc x vs sx->GG P l vs [sx,s] (fun v H'=>∃s',H'=[s']/\((v= .bool true/\J (pre++[x]) s')\/(v= .bool false/\Jx (pre++[x]) s'))))->
  ∀s,J [] s->BQ P gf (#[.func (.yield l) #[] #[]]++lb) (Hit++(Hk++[s])) (fun _ H'=>∃s',H'=Hk++[s']/\((∃ys,Full ys/\J ys s')\/∃pre,Jx pre s'))
theorem Mh{α:Type}{A:List α->List A8->Prop}{Adm Full:List α->Prop}{P:Program}{cx:Cx}{Q:Exit->Act->A4->Prop}{env:Env}{H ic Hk H0 R:Hp}{g:Operand}{ps:Array Tmp}{assign body:Code}{gf:FuncId}{lb:AM}{Enc:α->AM->List A8->Prop}{St:Prop}
 (I Ix:List α->Hp->Prop)(E:α->AM->List A8->Env->Hp->Prop)(hr:cx.r=none)(hg:∀a,ev a env g= .func (.func gf) #[] lb)(kv:∀(args:AM) (w:A4),(callFunc gf args).run P w= .ok (.enter gf args) w)
 (o8:WC P gf lb ic Hk A Enc Adm Full St)(hX:∀pre H1,Ix pre H1->St)(hA:∀pre H1 c d,I pre H1->A pre ([c,d]++H1.flatten))(qb:∀x vs Z,Enc x vs Z->vs.size=ps.size)(qa:(ps.toList.all fun t=>Nat.blt t cx.N)=true)(hp:Ey (ic++(Hk++H0)) H R)(h0:I [] H0)
 (cO:∀(l:Nat) (x:α) (vs:AM) (Z:List A8) (u:A4) (H:Hp),Enc x vs Z->At P ⟨cx.N,[],u,some l⟩ assign (Exit.then (fun a w=>∃e Hn,E x vs Z e Hn/\Is ⟨cx.N,[],u,some l⟩ (e++env) (Hn++H) a w) (fun _ _ _=>False)) ((ps.toList.zip vs.toList).reverse++env) H)
 (j5:∀(l:Nat) (pre:List α) (x:α) (u:A4) (vs:AM) (Z:List A8) (e:Env) (Hn H1 R1:Hp) (r0:Loop),Adm (pre++[x])->I pre H1->Enc x vs Z->E x vs Z e Hn->At P ⟨cx.N,[],u,some l⟩ body (KJ u I Ix (pre++[x]) ([(l,.loop r0)]::R1)) (e++env) (H1++(Z::(Hn++([(l,.loop r0)]::R1)))))
 (hk:∀(D:Nat) (ys:List α) (O:Hp),Full ys->I ys O->Nx ⟨cx.N,⟨.collected D,#[]⟩::cx.D,cx.u,none⟩ (Q .normal) env ([(D,.deferred (some []))]::(Hk++(O++R))))
 (pq:∀(D:Nat) (pre:List α) (O:Hp),Ix pre O->Nx ⟨cx.N,⟨.collected D,#[]⟩::cx.D,cx.u,none⟩ (Q .ret) env ([(D,.deferred (some []))]::(Hk++(O++R)))):At P cx (.rangeFunc g ps assign body) Q env H:=by
 intro a w hs;refine wpIn_rangeFunc ?_;intro fn qx;have qj:(Fx cx.r).round=none:=hr
 rw [qj];obtain ⟨rec,B⟩:∃rec:LoopState->Option Code->Loop,rec=fun st pe=>{state:=st,pending:=pe,fn,tmps:=(C9 env a).tmps,params:=ps,assign,body,defers:=w.heap.size}:=⟨_,rfl⟩;obtain ⟨G,U⟩:∃G,G=rec .ready none:=⟨_,rfl⟩;obtain ⟨L2,j3⟩:∃L2,L2=rec .done (some .ret):=⟨_,rfl⟩;obtain ⟨n,hn⟩:∃n,n=w.heap.size:=⟨_,rfl⟩;have ow:Sat cx.u ([(n+1,.loop G)]::([(n,.deferred (some []))]::((ic++(Hk++H0))++R))) ((w.alloc (.deferred (some []))).alloc (.loop G)):=by
  have:=((hs.sat.perm hp.perm).alloc (.deferred (some []))).alloc (.loop G);rw [show({w with heap:=w.heap.push (.deferred (some []))}:A4).heap.size=w.heap.size+1 from Array.size_push _,<-hn]at this;exact this
 have l9:Fit a.tmps.size env:=by rw [hs.size];exact hs.fit
 have p8:∀d,C9 env {a with defers:=d::cx.D}={C9 env a with defers:=[d]++(C9 env a).defers}:=fun d=>by
  rw [FE,Fh,hs.defers];rfl
 have ek:∀(L:Loop) (e:Exit) (O:Hp) (w2:A4),L.state≠ .busy->(∀(A:Act) (W:A4),Q e A W->(match L.pending with|none=>Q .normal A W|some c=>c.wpIn (Fx cx.r) 0 P Q A W))->
  Sat cx.u ([(n+1,Obj.loop L)]::([(n,.deferred (some []))]::O)) w2->Nx ⟨cx.N,⟨.collected n,#[]⟩::cx.D,cx.u,none⟩ (Q e) env ([(n,.deferred (some []))]::O)->
  ∃v w3,(Instr.endLoop (n+1)).run P w2= .ok v w3/\(match v with|none=>Q .normal {C9 env a with defers:=[⟨.collected n,#[]⟩]++(C9 env a).defers} w3|some c=>c.wpIn (Fx cx.r) 0 P Q {C9 env a with defers:=[⟨.collected n,#[]⟩]++(C9 env a).defers} w3):=by
  intro L e O w2 bn q9 gm hN;have hl:=gm.get (n+1,Obj.loop L) B6
  refine ⟨_,_,run_endLoop (P:=P) hl bn,q9 _ _ ?_⟩;rw [<-p8];exact hN {a with defers:=⟨.collected n,#[]⟩::cx.D} _ ⟨hs.size,V,hs.fit,(gm.turn (o':= .loop {L with state:= .exhausted})).sub ⟨[(n+1,.loop {L with state:= .exhausted})],by
   simp only [Cp];exact OS⟩⟩
 refine ⟨n+1,[⟨.collected n,#[]⟩],(w.alloc (.deferred (some []))).alloc (.loop G),⟨.fn (.func gf) lb,#[.func (.yield (n+1)) #[] #[]]⟩,(w.alloc (.deferred (some []))).alloc (.loop G),gf,
  #[.func (.yield (n+1)) #[] #[]]++lb,(w.alloc (.deferred (some []))).alloc (.loop G),?_,?_,fun _ _=>trivial,?_,fun h=>by simp [Fx,Fence.wide]at h,?_⟩
 · rw [hn,U,B];exact run_enterLoop_outer _ _ _ _ _
 · simp only [resolve,FU a env l9,hg a]
   simp [Deferred.ofValue,ev,Act.eval]
 · simp [invoke,kv]
 · refine XW ?_
   have hJ:=o8 (n+1) (fun pre s=>∃H1,I pre H1/\s=[(n+1,.loop G),(n,.deferred (some []))]++H1.flatten) (fun pre s=>∃H1,Ix pre H1/\s=[(n+1,.loop L2),(n,.deferred (some []))]++H1.flatten) (by rintro pre _ ⟨H1,J,rfl⟩;exact hA pre H1 _ _ J) (by rintro pre _ ⟨H1,J,rfl⟩;exact hX pre H1 J) ?_ _ ⟨H0,h0,rfl⟩
   · refine Calls.mono (hJ cx.u R _ (ow.parts fun f h J h2=>by simp only [Cp,HR,GC,h,J,h2];omega)) fun e w2 he=>?_
     rcases he with⟨v,H',rfl,⟨s',rfl,⟨ys,pg,O,af,rfl⟩|⟨pre,O,af,rfl⟩⟩,d9⟩|⟨_,_,_,h,_⟩
     · exact ek G .normal _ w2 (by rw [U,B];simp) (fun A W h=>by rw [U,B];exact h) (d9.parts fun f h J h2=>by simp only [Cp,HR,GC,h,J,h2];omega) (hk n ys O pg af)
     · exact ek L2 .ret _ w2 (by rw [j3,B];simp) (fun A W h=>by rw [j3,B];exact wpIn_ret h) (d9.parts fun f h J h2=>by simp only [Cp,HR,GC,h,J,h2];omega) (pq n pre O af)
     · exact h.elim
   · rintro pre x s vs Z qw ⟨H1,hI,rfl⟩ cu u R1 w1 qo K Kp hK
     have gy:Sat u ([(n+1,Obj.loop G)]::([(n,.deferred (some []))]::(H1++(Z::R1)))) w1:=qo.parts fun f h J h2=>by simp only [Cp,HR,GC,h,J,h2];omega
     have hl:=gy.get (n+1,Obj.loop G) B6;have hy:=run_yield (P:=P) (args:=vs) hl (by rw [U,B];exact qb x vs Z cu)
     rw [hy];show RoundIn Fence.wide 0 P (n+1) _ _ _ _ w1 _
     rw [U,B];refine roundIn_of_wpIn (F:=Fence.wide) trivial ?_;have ql:({tmps:=(ps.zip vs).foldl (fun tmps x=>match x with|(t,a)=>tmps.setIfInBounds t a) (C9 env a).tmps,defers:=[]}:Act)=C9 ((ps.toList.zip vs.toList).reverse++env) {a with defers:=[]}:=by
      rw [JS,FE [] env a];have J:(ps.zip vs).foldl (fun tmps x=>match x with|(t,a)=>tmps.setIfInBounds t a) (C9 env a).tmps=(C9 (ps.toList.zip vs.toList).reverse (C9 env a)).tmps:=by
       rw [<-Nf,<-qT,Array.toList_zip]
      rw [J,FE [] _ (C9 env a)]
     have l8:Fit cx.N ((ps.toList.zip vs.toList).reverse++env):=by
      intro q hq;rcases CI.1 hq with hq|hq
      · have:=gS.1 hq
        have h2:=Pc.1 qa q.1 (List.of_mem_zip this).1;simpa using h2
      · exact hs.fit q hq
     have ha:=cO (n+1) x vs Z u ([(n+1,Obj.loop G)]::([(n,.deferred (some []))]::(H1++(Z::R1)))) cu {a with defers:=[]} w1 ⟨hs.size,rfl,l8,gy⟩;rw [<-ql]at ha;refine wpIn_mono ha fun e a1 w2 he=>?_;cases e<;>first|exact he|skip
     obtain ⟨e9,Hn,hE,a2,bn,rfl⟩:=he;have gq:Sat u ([(n+1,Obj.loop G)]::([(n,.deferred (some []))]::(H1++(Z::(Hn++R1))))) w2:=bn.sat.parts fun f h J h2=>by simp only [Cp,HR,GC,h,J,h2];omega
     have pz:=gq.get (n+1,Obj.loop G) B6;refine ⟨_,run_beginRound pz (by rw [U,B]),?_⟩;have p9:Sat u (H1++(Z::(Hn++([(n+1,Obj.loop {G with state:= .busy})]::([(n,.deferred (some []))]::R1))))) (w2.putObj (n+1) (.loop {G with state:= .busy})):=
      (gq.turn (o':= .loop {G with state:= .busy})).parts fun f h J h2=>by simp only [Cp,HR,GC,h,J,h2];omega
     have hb:=j5 (n+1) pre x u vs Z e9 Hn H1 ([(n,.deferred (some []))]::R1) _ qw hI cu hE a2 _ ⟨bn.size,bn.defers,bn.fit,p9⟩;refine wpIn_mono hb fun e a3 w3 l5=>?_;cases e<;>first|exact l5.elim|skip
     · obtain ⟨O,af,o9⟩:=l5
       have X:Sat u ([(n+1,Obj.loop {G with state:= .busy})]::([(n,.deferred (some []))]::(O++R1))) w3:=o9.parts fun f h J h2=>by simp only [Cp,HR,GC,h,J,h2];omega
       refine ⟨_,_,run_endRound (P:=P) none (X.get (n+1,Obj.loop {G with state:= .busy}) B6),?_⟩;refine hK _ _ _ ⟨[(n+1,.loop G),(n,.deferred (some []))]++O.flatten,V,.inl ⟨V,O,af,V⟩⟩ ?_;have ax:({{G with state:=LoopState.busy}with state:=if(none:Option Code).isNone=true then LoopState.ready else .done,pending:=none}:Loop)=G:=by rw [U,B];rfl
       rw [ax];exact (X.turn (o':= .loop G)).parts fun f h J h2=>by simp only [Cp,HR,GC,h,J,h2];omega
     · obtain ⟨O,af,o9⟩:=l5
       have X:Sat u ([(n+1,Obj.loop {G with state:= .busy})]::([(n,.deferred (some []))]::(O++R1))) w3:=o9.parts fun f h J h2=>by simp only [Cp,HR,GC,h,J,h2];omega
       refine ⟨_,_,run_endRound (P:=P) (some .ret) (X.get (n+1,Obj.loop {G with state:= .busy}) B6),?_⟩;refine hK _ _ _ ⟨[(n+1,.loop L2),(n,.deferred (some []))]++O.flatten,V,.inr ⟨V,O,af,V⟩⟩ ?_;have ax:({{G with state:=LoopState.busy}with state:=if(some Code.ret:Option Code).isNone=true then LoopState.ready else .done,pending:=some .ret}:Loop)=L2:=by rw [U,j3,B];rfl
       rw [ax];exact (X.turn (o':= .loop L2)).parts fun f h J h2=>by simp only [Cp,HR,GC,h,J,h2];omega
def yR{α:Type}(encs:α->AM)(x:α)(vs:AM)(sx:List A8):Prop:=vs=encs x/\sx=[]
theorem NH{P:Program}{l:Nat}{vs:AM}{s:List A8}{Q B:A2->Hp->Prop}(h:GG P l vs [[],s] Q)(W:∀v H',Q v H'->B v H'):GG P l vs [s] B:=fun u R w X K G U=>h u R w (X.parts fun f h I h2=>by simp only [Cp,HR,GC,h,I];omega) K G fun v H' Z J O=>U v H' Z (W v H' J) O
theorem Pd{P:Program}{cx:Cx}{c:Code}{env:Env}{H:Hp}{α:Type}{u:A4}{I Ix:List α->Hp->Prop}{xs:List α}{R:Hp}(h:At P cx c (IV u I xs R) env H):At P cx c (KJ u I Ix xs R) env H:=fun a w G=>wpIn_mono (h a w G) fun e _ _ B=>by cases e<;>first|exact B|exact B.elim
theorem xz{α:Type}{P:Program}{U:FuncId}{W:AM}{I:Hp}{A:List A8->Prop}{G:α->AM}{xs:List α}(h:FC P U W I A G xs):WC P U W I [] (fun _=>A) (yR G) (fun p=>∃B,xs=p++B) (fun ys=>ys=xs) False:=fun l J Jx X Z hy s h0=>
 (h l J X (fun pre x B s hx hj=>NH (hy pre x s _ [] ⟨B,by rw [hx,DG];rfl⟩ hj ⟨rfl,rfl⟩) fun v H' ⟨O,K,h2⟩=>h2.elim (fun h=>⟨O,h.1,K,h.2⟩) fun h=>(Z _ _ h.2).elim) s h0).mono (by rintro v H' ⟨O,K,h2⟩;exact ⟨O,K,.inl ⟨xs,rfl,h2⟩⟩)
theorem PG{α:Type}{A:List A8->Prop}{P:Program}{cx:Cx}{Q:Exit->Act->A4->Prop}{env:Env}{H Z H0 R:Hp}{g:Operand}{ps:Array Tmp}{G O:Code}{gf:FuncId}{lb:AM}{J:α->AM}{xs:List α}
 (I:List α->Hp->Prop)(asg:α->Env)(hr:cx.r=none)(hg:∀a,ev a env g= .func (.func gf) #[] lb)(W:∀(args:AM) (w:A4),(callFunc gf args).run P w= .ok (.enter gf args) w)
 (X:FC P gf lb Z A J xs)(hA:∀pre H1 c d,I pre H1->A ([c,d]++H1.flatten))(ax:∀x,(J x).size=ps.size)(af:(ps.toList.all fun t=>Nat.blt t cx.N)=true)(hp:Ey (Z++H0) H R)(h0:I [] H0)
 (K:∀(l:Nat) (x:α) (u:A4) (H:Hp),At P ⟨cx.N,[],u,some l⟩ G (Exit.then (Is ⟨cx.N,[],u,some l⟩ (asg x++env) H) (fun _ _ _=>False)) ((ps.toList.zip (J x).toList).reverse++env) H)
 (U:∀(l:Nat) (pre:List α) (x:α) (B:List α) (u:A4) (H1 R1:Hp),xs=pre++x::B->I pre H1->At P ⟨cx.N,[],u,some l⟩ O (IV u I (pre++[x]) R1) (asg x++env) (H1++R1))
 (hk:∀(D:Nat) (H2:Hp),I xs H2->Nx ⟨cx.N,⟨.collected D,#[]⟩::cx.D,cx.u,none⟩ (Q .normal) env ([(D,.deferred (some []))]::(H2++R))):At P cx (.rangeFunc g ps G O) Q env H:=
 Mh (Hk:=[]) (A:=fun _=>A) (St:=False) (Adm:=fun p=>∃B,xs=p++B) (Full:=fun ys=>ys=xs) (Enc:=yR J) I (fun _ _=>False) (fun x _ _ e Hn=>e=asg x/\Hn=[]) hr hg W (xz X) (fun _ _ h=>h) hA (fun x vs sx he=>by rw [he.1];exact ax x) af hp h0
  (fun l x vs sx u H he a w hs=>by
    obtain ⟨rfl,rfl⟩:=he;exact wpIn_mono (K l x u H a w hs) fun e _ _ h=>by cases e<;>first|exact h|exact ⟨_,[],⟨rfl,rfl⟩,h⟩)
  (fun l pre x u vs sx e Hn H1 R1 r0 ⟨B,hx⟩ hI he hE=>by
    obtain ⟨rfl,rfl⟩:=he;obtain ⟨rfl,rfl⟩:=hE;exact Tw (Pd (U l pre x B u H1 _ (by rw [hx,DG];rfl) hI)) fun f h h1 h2=>by simp only [Cp,HR,GC,h,h1,h2];omega) (fun D ys H2 hf hI=>by rw [hf]at hI;exact hk D H2 hI) fun _ _ _ h=>h.elim
theorem Qk{α:Type}{P:Program}{cx:Cx}{Q:Exit->Act->A4->Prop}{env:Env}{H Z H0 R:Hp}{g:Operand}{ps:Array Tmp}{B O:Code}{gf:FuncId}{lb:AM}{G:α->AM}{xs:List α}
 (I:List α->Hp->Prop)(asg:α->Env)(hr:cx.r=none)(hg:∀a,ev a env g= .func (.func gf) #[] lb)(W:∀(args:AM) (w:A4),(callFunc gf args).run P w= .ok (.enter gf args) w)
 (X:U7 P gf lb Z G xs)(ax:∀x,(G x).size=ps.size)(af:(ps.toList.all fun t=>Nat.blt t cx.N)=true)(hp:Ey (Z++H0) H R)(h0:I [] H0)
 (K:∀(l:Nat) (x:α) (u:A4) (H:Hp),At P ⟨cx.N,[],u,some l⟩ B (Exit.then (Is ⟨cx.N,[],u,some l⟩ (asg x++env) H) (fun _ _ _=>False)) ((ps.toList.zip (G x).toList).reverse++env) H)
 (U:∀(l:Nat) (pre:List α) (x:α) (post:List α) (u:A4) (H1 R1:Hp),xs=pre++x::post->I pre H1->At P ⟨cx.N,[],u,some l⟩ O (IV u I (pre++[x]) R1) (asg x++env) (H1++R1))
 (hk:∀(D:Nat) (H2:Hp),I xs H2->Nx ⟨cx.N,⟨.collected D,#[]⟩::cx.D,cx.u,none⟩ (Q .normal) env ([(D,.deferred (some []))]::(H2++R))):At P cx (.rangeFunc g ps B O) Q env H:=
 PG (A:=fun _=>True) I asg hr hg W (fun l J _=>X l J) (fun _ _ _ _ _=>trivial) ax af hp h0 K U hk
def JZ(l:List Nat):List Deferred:=l.map fun D=>⟨.collected D,#[]⟩
theorem Ct{P:Program}{f:FuncId}{fn:Func}{c:Code}{args:AM}{N:Nat}{H:Hp}{Q:A2->Hp->Prop}{Pn:List PanicEntry->Hp->Prop}(W:P.funcs[f]?=some fn)(U:fn.body=some c)(O:fn.ntmps=N)(X:Nat.ble args.size N=true)
 (h:∀u R,At P ⟨N,[],u,none⟩ c (bodyPostM Fence.wide 0 P fn (GV u R Q Pn)) (FZ 0 args.toList) (H++R)):Ky P f args H Q Pn:=fun u R w G=>by
 have I:args.size<=N:=eS X;refine (callsIn_wide (n:=0)).1 (callsIn_of_wp_marks (F:=Fence.wide) W U trivial ?_);have B:C9 (FZ 0 args.toList) {tmps:=args++Array.replicate (fn.ntmps -args.size) undef,defers:=[]}={tmps:=args++Array.replicate (fn.ntmps -args.size) undef,defers:=[]}:=by
  refine Jz _ fun p K=>?_;obtain ⟨_,h2⟩:=FK _ _ _ K;simp only [W0,Hs]at h2;have J:p.1<args.size:=by
   rcases Ft p.1 args.size with h|h
   · exact h
   · simp [LR h]at h2
  rw [ft J];exact h2
 rw [<-B];refine h u R _ w ⟨by simp [O];omega,V,fun p K=>?_,G⟩;obtain ⟨_,h2⟩:=FK _ _ _ K;simp only [W0,Hs]at h2;rcases Ft p.1 args.size with h|h
 · exact nh h I
 · simp [LR h]at h2
section
variable{P:Program}{N:Nat}{u:A4}{fn:Func}{R H H':Hp}{Q:A2->Hp->Prop}{Pn:List PanicEntry->Hp->Prop}{env:Env}{e:Exit}
theorem Y9{D:Nat}{w:A4}(h:w.heap[D]?=some (.deferred (some []))):(Instr.takeDeferred D).run P w= .ok [] (w.putObj D (.deferred none)):=by
 simp [Instr.takeDeferred,getObj,setObj,Sem.run,h];rfl
def Res(P:Program)(fn:Func)(env:Env)(v:A2):Prop:=∀(a:Act) (w:A4),Fit a.tmps.size env->(results fn (C9 env a).tmps).run P w= .ok v w
theorem rN(B:fn.results=#[]):Res P fn env (.tuple #[]):=fun a w _=>OT B w _
theorem dE{t:Nat}{v:A2}(G:fn.results=#[.tmp t])(hv:∀a,GA a env t=v):Res P fn env v:=fun a w B=>by rw [QL G,Ca a env B,hv a]
theorem dD{t s:Nat}{v x:A2}(G:fn.results=#[.tmp t,.tmp s])(hv:∀a,GA a env t=v)(hx:∀a,GA a env s=x):Res P fn env (.tuple #[v,x]):=fun a w B=>by rw [QK G,Ca a env B,Ca a env B,hv a,hx a]
theorem K8{v:A2}(J:Fa e=true)(U:Res P fn env v)(O:Q v H')(K:Sub (H'++R) H:=by repeat(first|exact Sub.refl _|exact Sub.nil _|(apply Sub.cons;(focus (repeat(first|exact One.here _ _|apply One.there))))|refine Sub.drop _ ?_)):Nx ⟨N,[],u,none⟩ (bodyPostM Fence.wide 0 P fn (GV u R Q Pn) e) env H:=fun a w G=>by
 have I:(C9 env a).defers=[]:=by rw [Fh];exact G.defers
 have B:LeavesInM Fence.wide 0 P fn (C9 env a).tmps (GV u R Q Pn) (C9 env a).defers .returning w:=by
  rw [I];exact ⟨v,U a w (by rw [G.size];exact G.fit),.inl ⟨v,H',rfl,O,G.sat.sub K.amid⟩⟩
 cases e<;>first|exact B|simp [Fa]at J
theorem Gv{D:Nat}{v:A2}{H0:Hp}(W:Fa e=true)(hr:Res P fn env v)(U:One [(D,.deferred (some []))] H H0)(Z:Q v H')(X:Sub (H'++R) H0:=by repeat(first|exact Sub.refl _|exact Sub.nil _|(apply Sub.cons;(focus (repeat(first|exact One.here _ _|apply One.there))))|refine Sub.drop _ ?_)):Nx ⟨N,[⟨.collected D,#[]⟩],u,none⟩ (bodyPostM Fence.wide 0 P fn (GV u R Q Pn) e) env H:=fun a w K=>by
 have O:(C9 env a).defers=[⟨.collected D,#[]⟩]:=by rw [Fh];exact K.defers
 have B:Sat u ([(D,.deferred (some []))]::H0) w:=K.sat.perm (by simpa using U.perm);have J:=B.get (D,.deferred (some [])) (by simp)
 have G:Sat u (H'++R) (w.putObj D (.deferred none)):=((B.turn (o':= .deferred none)).sub ⟨[(D,.deferred none)],by simp only [Cp];exact OS⟩).sub X.amid;have I:LeavesInM Fence.wide 0 P fn (C9 env a).tmps (GV u R Q Pn) (C9 env a).defers .returning w:=by
  rw [O];refine ⟨by simp,.inl ⟨D,_,V,Y9 J,?_⟩⟩;exact ⟨v,hr a _ (by rw [K.size];exact K.fit),.inl ⟨v,H',rfl,Z,G⟩⟩
 cases e<;>first|exact I|simp [Fa]at W
end
def NG(sz:Nat)(v:A2)(k:Nat)(ys:List A2)(s:List A8):Prop:=
 ys.length=k*sz/\((k=0/\∃b c,v= .slice b 0 c)\/∃g o cap cur T z,v= .slice (some ⟨g,o,none⟩) k cap/\s=[(g,.cells cur T z)]/\Bv cur o ys)
theorem E9{sz:Nat}{e:AK}{v:A2}{k:Nat}{xs:List A2}{s:List A8}(h:BX sz e v k xs s)(J:0<k):∃g cap cur z,v=I2 g k cap/\s=[(g,.cells cur e z)]/\k<=cap/\Bv cur 0 xs:=by
 obtain ⟨I,⟨_,h0,_⟩|⟨g,cap,cur,z,rfl,rfl,B,_,_,G,_⟩⟩:=h;· omega
 · refine ⟨g,cap,cur,z,rfl,rfl,B,?_⟩
   unfold Bv;rw [S8,I];exact G
theorem iQ{sz:Nat}{e:AK}{v:A2}{k:Nat}{xs:List A2}{s:List A8}(h:BX sz e v k xs s):NG sz v k xs s:=by
 refine ⟨h.1,?_⟩;rcases S3 k with h0|h0
 · obtain ⟨b,c,rfl⟩:=h.form
   subst h0;exact .inl ⟨V,b,c,V⟩
 · obtain ⟨g,cap,cur,z,rfl,rfl,_,B⟩:=E9 h h0
   exact .inr ⟨g,0,cap,cur,e,z,V,V,B⟩
theorem Nq{cur:AM}{o a n:Nat}{ys:List A2}(h:Bv cur o ys)(hn:a+n<=ys.length):Bv cur (o+a) ((ys.drop a).take n):=by
 unfold Bv at*;have B:((ys.drop a).take n).length=n:=by rw [Cl,D0];omega
 rw [B,<-cS,<-h,gn,WD];congr 1;have:=congrArg List.length h
 rw [Cl]at this;omega
theorem Jr{sz:Nat}{e:AK}{b:B8}{n c:Nat}{xs:List A2}{s:List A8}(h:BX sz e (.slice b n c) n xs s)(k d:Nat)(G:k<=n):NG sz (.slice b k d) k (xs.take (k*sz)) s:=by
 have I:k*sz<=n*sz:=W5 sz G;refine ⟨by rw [Cl,h.1];omega,?_⟩;rcases S3 k with h0|h0
 · subst h0;exact .inl ⟨rfl,b,d,rfl⟩
 · obtain ⟨g,cap,cur,z,hv,rfl,_,B⟩:=E9 h A0
   injection hv with hv1 hv2 hv3
   subst hv1;have h2:=Nq B (a:=0) (n:=k*sz) (by rw [h.1];omega)
   rw [S8]at h2;exact .inr ⟨g,0,d,cur,e,z,V,V,h2⟩
theorem Js{sz:Nat}{e:AK}{b:B8}{n c:Nat}{xs:List A2}{s:List A8}(h:BX sz e (.slice b n c) n xs s)(k m d:Nat)(G:k+m=n):NG sz (.slice (Eb b k c sz) m d) m (xs.drop (k*sz)) s:=by
 have J:n*sz=k*sz+m*sz:=by rw [<-G,N0]
 refine ⟨by rw [D0,h.1];omega,?_⟩;rcases S3 m with h0|h0
 · subst h0;exact .inl ⟨rfl,_,d,rfl⟩
 · obtain ⟨g,cap,cur,z,hv,rfl,I,B⟩:=E9 h A0
   injection hv with hv1 hv2 hv3
   subst hv1 hv3;have h2:=Nq B (a:=k*sz) (n:=m*sz) (by rw [h.1];omega)
   rw [LS (by rw [D0,h.1];omega)]at h2;refine .inr ⟨g,0+k*sz,d,cur,e,z,?_,V,h2⟩;unfold Eb;rw [As A0,Pr,CW]
theorem Xz{sz:Nat}{b:B8}{n c:Nat}{xs:List A2}{s:List A8}(h:NG sz (.slice b n c) n xs s)(k m d:Nat)(I:k+m=n)(hc:n<=c):NG sz (.slice (Eb b k c sz) m d) m (xs.drop (k*sz)) s:=by
 have J:n*sz=k*sz+m*sz:=by rw [<-I,N0]
 refine ⟨by rw [D0,h.1];omega,?_⟩;rcases S3 m with h0|h0
 · subst h0;exact .inl ⟨rfl,_,d,rfl⟩
 · obtain ⟨G,⟨K,_⟩|⟨g,o,cap,cur,T,z,hv,rfl,B⟩⟩:=h
   · omega
   · injection hv with hv1 hv2 hv3
     subst hv1 hv3;have h2:=Nq B (a:=k*sz) (n:=m*sz) (by rw [G];omega)
     rw [LS (by rw [D0,G];omega)]at h2;refine .inr ⟨g,o+k*sz,d,cur,T,z,?_,V,h2⟩;unfold Eb;rw [As A0,Pr,CW]
section
variable{P:Program}{u:A4}{env:Env}{H R R2:Hp}{d:Option Nat}{ty:AK}{pos:String}{af:Array Edge}{g:Option (Nat×Bool)}
theorem BS{x y:Operand}{t e:AK}{i:TypeInfo}{z:A2}{by_ sz n k:Nat}{v v2:A2}{xs ys:List A2}{s s2:List A8}
 (ht:P.underlying t=some (.slice e))(hi:P.info? e=some i)(I:i.size=sz)(cO:i.bytes=by_)(gm:i.zero=some z)(ek:z.cells.size=sz)
 (hx:∀a,ev a env x=v)(B:BX sz e v n xs s)(hy:∀a,ev a env y=v2)(ax:NG sz v2 k ys s2)(O:One s H R)(bn:One s2 R R2)(h1:∀u∈ys,u.oneCell'=true)
 (cu:n+k<=maxLen)(hb:(n+k)*by_<=140737488355328):
 OpW P u ⟨d,.call ⟨.builtin .append,#[x,y],#[t,t]⟩,ty,pos,af,g⟩ env H (fun v' H1=>∃s',BX sz e v' (n+k) (xs++ys) s'/\H1=s'::R) (fun _ _=>False):=by
 obtain ⟨hl,⟨rfl,b2,c2,rfl⟩|⟨gb,o,cap,cur,T,zz,rfl,rfl,d9⟩⟩:=ax
 · have Z:ys=[]:=OR A0
   subst Z;obtain ⟨b,c,rfl⟩:=B.form;have J:n<=c:=by
    obtain ⟨_,⟨hv,h0,_⟩|⟨_,_,_,_,hv,_,h2,_⟩⟩:=B;· omega
    · injection hv with _ _ hv3;omega
   intro a w U K Kp hK _;have W:Sat u (s::R) w:=U.perm (by simpa using O.perm)
   have G:(Builtin.firstCells i.size 0 (.slice b2 0 c2)).run P w= .ok #[] w:=by
    cases b2 with
    |none=>simp [Builtin.firstCells]
    |some ad=>simp [Builtin.firstCells,loadCells,loadCellsFrom]
   have hr:(Builtin.append_ #[t,t] ty #[.slice b n c,.slice b2 0 c2]).run P w= .ok (.slice b n c) w:=by
    rw [I]at G;cases b with
    |none=>simp [Builtin.append_,run_underlying ht,Go.sizeOf,typeInfo,hi,I,Builtin.lenOf,J,G]
    |some ad=>simp [Builtin.append_,run_underlying ht,Go.sizeOf,typeInfo,hi,I,Builtin.lenOf,J,G,storeCells]
   have X:(execOp (ev a env) ⟨d,.call ⟨.builtin .append,#[x,y],#[t,t]⟩,ty,pos,af,g⟩).run P w= .ok (.value (.slice b n c)) w:=by
    simp only [E8,resolve,invoke,builtin,Sx,F2,MY,hx a,hy a,Sem.run_bind,Sem.run_pure,Result.andThen_ok,hr]
   rw [X];exact hK _ _ _ ⟨s,by rw [DQ];exact B,rfl⟩ W
 · rcases S3 k with h0|h0
   · subst h0
     have Z:ys=[]:=OR A0;subst Z;obtain ⟨b,c,rfl⟩:=B.form;have J:n<=c:=by
      obtain ⟨_,⟨hv,h0,_⟩|⟨_,_,_,_,hv,_,h2,_⟩⟩:=B;· omega
      · injection hv with _ _ hv3;omega
     intro a w U K Kp hK _;have W:Sat u (s::R) w:=U.perm (by simpa using O.perm)
     have G:(Builtin.firstCells i.size 0 (.slice (some ⟨gb,o,none⟩) 0 cap)).run P w= .ok #[] w:=by simp [Builtin.firstCells,loadCells,loadCellsFrom]
     have hr:(Builtin.append_ #[t,t] ty #[.slice b n c,.slice (some ⟨gb,o,none⟩) 0 cap]).run P w= .ok (.slice b n c) w:=by
      rw [I]at G;cases b with
      |none=>simp [Builtin.append_,run_underlying ht,Go.sizeOf,typeInfo,hi,I,Builtin.lenOf,J,G]
      |some ad=>simp [Builtin.append_,run_underlying ht,Go.sizeOf,typeInfo,hi,I,Builtin.lenOf,J,G,storeCells]
     have X:(execOp (ev a env) ⟨d,.call ⟨.builtin .append,#[x,y],#[t,t]⟩,ty,pos,af,g⟩).run P w= .ok (.value (.slice b n c)) w:=by
      simp only [E8,resolve,invoke,builtin,Sx,F2,MY,hx a,hy a,Sem.run_bind,Sem.run_pure,Result.andThen_ok,hr]
     rw [X];exact hK _ _ _ ⟨s,by rw [DQ];exact B,rfl⟩ W
   · exact Ed ht hi I cO gm ek hx B hy O bn.has d9 hl h1 h0 cu hb
end
theorem One.memF{s:List A8}{H R:Hp}(h:One s H R):∀p∈s,p∈H.flatten:=fun p B=>by
 have:=h.perm.mem_iff (a:=p);exact this.2 (Fc _ B)
section
variable{P:Program}{u:A4}{env:Env}{H R R2:Hp}{d:Option Nat}{ty:AK}{pos:String}{af:Array Edge}{g:Option (Nat×Bool)}
theorem Qn{x y:Operand}{t e:AK}{i:TypeInfo}{z:A2}{by_ sz n k:Nat}{b:B8}{v2:A2}{xs ys:List A2}{s s2:List A8}
 (ht:P.underlying t=some (.slice e))(hi:P.info? e=some i)(j3:i.size=sz)(d9:i.bytes=by_)(l8:i.zero=some z)(l5:z.cells.size=sz)
 (hx:∀a,ev a env x= .slice b n n)(U:NG sz (.slice b n n) n xs s)(hy:∀a,ev a env y=v2)(bn:NG sz v2 k ys s2)(ic:One s H R)(j5:One s2 H R2)(hk:0<k)
 (l9:n+k<=maxLen)(hb:(n+k)*by_<=140737488355328):
 OpW P u ⟨d,.call ⟨.builtin .append,#[x,y],#[t,t]⟩,ty,pos,af,g⟩ env H (fun v' H1=>∃s',BX sz e v' (n+k) (xs++ys) s'/\H1=s'::H) (fun _ _=>False):=by
 obtain ⟨X,⟨h0,_⟩|⟨g2,o2,cap2,cO,T2,z2,rfl,rfl,gm⟩⟩:=bn;· omega
 intro a w O K Kp hK _;have gy:=H7 (O.get _ (j5.memF (g2,.cells cO T2 z2) B6)) gm
 have gq:ys.length=k*i.size:=by rw [j3];exact X
 have p8:=mL;have G:∀{v':A2} {w':A4},(Builtin.append_ #[t,t] ty #[.slice b n n,.slice (some ⟨g2,o2,none⟩) k cap2]).run P w= .ok v' w'->(execOp (ev a env) ⟨d,.call ⟨.builtin .append,#[x,y],#[t,t]⟩,ty,pos,af,g⟩).run P w= .ok (.value v') w':=fun h=>by
  simp only [E8,resolve,invoke,builtin,Sx,F2,MY,hx a,hy a,Sem.run_bind,Sem.run_pure,Result.andThen_ok,h]
 have I:∀(m:Nat) (cells:AM) (w1:A4),w1={w with drawn:=m,heap:=w.heap.push (.cells cells e)}->Sat u ([(w.heap.size,.cells cells e (0,0))]::H) w1:=fun m cells w1 h=>by
  subst h;exact (O.drawn m).alloc _
 have B:(xs++ys).length=(n+k)*sz:=by rw [C2,U.1,X,N0]
 have split:∀m p:Nat,p<=m->p*sz+(m -p)*sz=m*sz:=fun m p h=>by rw [<-N0];congr 1;omega
 have Z:∀(ad:Addr),b=some ad->(∀j v,xs[j]?=some v->w.cell? (ad.add j)=some v)->Ui P K Kp ((execOp (ev a env) ⟨d,.call ⟨.builtin .append,#[x,y],#[t,t]⟩,ty,pos,af,g⟩).run P w):=fun ad o8 ax=>by
  subst o8;have hr:=run_append_grow (P:=P) w t ty e i z ht hi l8 ad n n xs (by rw [j3];exact U.1) ax ⟨g2,o2,none⟩ k cap2 ys gq gy A0 A0 (growslice_fits A0 (by rw [d9];exact hb))
  rw [G hr];have W:=grownCap_ge w (n+k) n e
  have J:grownCap w (n+k) n e<=maxLen:=grownCap_le_maxLen w (n+k) n e l9;refine hK _ _ _ ⟨[(w.heap.size,.cells (xs.toArray++ys.toArray++Builtin.zeroCells z.cells (grownCap w (n+k) n e -(n+k))) e (0,0))],⟨B,.inr ⟨w.heap.size,grownCap w (n+k) n e,_,(0,0),V,V,W,J,?_,?_,BA _⟩⟩,V⟩ (I _ _ _ V)
  · simp only [kf,size_zeroCells,l5,Hb]
    have h1:=split _ _ W;rw [C2]at B;rw [B];exact h1
  · simp only [dp]
    exact It (by simpa using B)
 obtain ⟨hl,⟨h0,b9,c9,ow⟩|⟨g1,o1,o9,cu,T1,z1,hv,rfl,ek⟩⟩:=U
 · subst h0
   have kv:xs=[]:=OR A0;cases b with
   |some ad=>exact Z ad rfl (fun j v hj=>by rw [kv]at hj;cases hj)
   |none=>
    subst kv;have hr:=run_append_nil (P:=P) w t ty e i z ht hi l8 ⟨g2,o2,none⟩ k cap2 ys gq gy hk A0 (by rw [d9];exact On (by simpa using hb) (by decide:140737488355328<=281474976710656))
    rw [G hr];have W:=grownCap_ge w k 0 e
    have J:grownCap w k 0 e<=maxLen:=grownCap_le_maxLen w k 0 e A0;refine hK _ _ _ ⟨[(w.heap.size,.cells (ys.toArray++Builtin.zeroCells z.cells (grownCap w k 0 e -k)) e (0,0))],⟨B,.inr ⟨w.heap.size,grownCap w k 0 e,_,(0,0),by simp,V,by omega,J,?_,?_,BA _⟩⟩,V⟩ (I _ _ _ V)
    · simp only [kf,size_zeroCells,l5,Hb,X]
      exact split _ _ W
    · simp only [dp,Mu,DP]
      exact It X
 · injection hv with hv1 hv2 hv3
   refine Z ⟨g1,o1,none⟩ hv1 fun j v hj=>?_;have h9:=H7 (O.get _ (ic.memF (g1,.cells cu T1 z1) B6)) ek
   exact h9 j v hj
theorem OY{t e:AK}{x hi B:Operand}{b:B8}{n cap h s:Nat}{I mk:IntKind}(O:P.underlying t=some (.slice e))(K:∀w:A4,(Go.sizeOf e).run P w= .ok s w)(hx:∀a,ev a env x= .slice b n cap)(G:∀a,ev a env hi= .int I (h:Int))(J:∀a,ev a env B= .int mk (h:Int))(h2:h<=cap):
 OpP P ⟨d,.slice t x none (some hi) (some B),ty,pos,af,g⟩ env [] (.slice b h h):=fun a w _=>by
 cases b<;>simp [KN,hx a,G a,J a,Instr.sliceAt,Instr.slice,run_underlying O,Instr.sliceBounds,Instr.sliceBound,asIntOf,h2,K,Addr.add]
theorem Gs(sz:Nat)(e:AK)(g k:Nat)(xs:List A2)(h:xs.length=k*sz)(B:k<=maxLen):BX sz e (I2 g k k) k xs [(g,.cells xs.toArray e (0,0))]:=
 ⟨h,.inr ⟨g,k,xs.toArray,(0,0),rfl,rfl,CT _,B,by simp [h],LS (by simp [h]),BA _⟩⟩
end
end Gw
namespace Gw
open Go Go.RowKit
open Go.ChangeMaps (setBlock)
section
variable{α:Type}{κ:α->A2}{D:α->Prop}{P:Program}
structure Ck(κ:α->A2)(es:Array MapEntry)(clock:Nat)(l:List (α×A2)):Prop where
 pairs:es.toList.map (fun e=>(e.key,e.val))=l.map (fun p=>(κ p.1,p.2))
 born:(es.toList.map (·.born)).Nodup
 old:∀e∈es.toList,e.born<clock
 keys:(l.map (·.1)).Nodup
structure Fw(P:Program)(kt:AK)(κ:α->A2)(D:α->Prop):Prop where
 check:∀(w:A4) (em:Bool) (a:α),D a->(Instr.checkKey em 10000 kt (κ a)).run P w= .ok () w
 find:∀(w:A4) (k:α),D k->∀es:List MapEntry,(∀e∈es,∃a,D a/\e.key=κ a)->((Instr.findKey kt (κ k) es).run P w= .ok none w/\∀e∈es,e.key≠κ k)\/∃j e,(Instr.findKey kt (κ k) es).run P w= .ok (some (j,e.val)) w/\es[j]?=some e/\e.key=κ k
 stays:∀(w:A4) (a:α),D a->(Instr.keyThatStays (κ a) (κ a)).run P w= .ok (κ a) w
 inj:∀a b,κ a=κ b->a=b
theorem Fw.ofLaw{kt:AK}(law:WideMaps.KeyLaw P kt)(key:∀a,D a->∃l,keyOf P kt (κ a)=some l)(inj:∀a b,κ a=κ b->a=b):Fw P kt κ D where
 check:=fun w em a B=>by obtain ⟨l,G⟩:=key a B;exact law.check w em G
 find:=fun w k J es I=>by
  obtain ⟨l,G⟩:=key k J;exact law.find w G es fun e h=>by obtain ⟨a,B,e1⟩:=I e h;rw [e1];exact key a B
 stays:=fun w a B=>by obtain ⟨l,G⟩:=key a B;exact law.stays w G
 inj:=inj
theorem Fw.basic [DecidableEq α]{kt:AK}{K:TypeDesc}(Z:P.underlying kt=some K)(U:∀a b,Instr.sameNow K (κ a) (κ b)=some (decide (a=b)))(hc:∀(w:A4) (em:Bool) (a:α),(Instr.checkKey em 10000 kt (κ a)).run P w= .ok () w)
 (W:∀(w:A4) (a:α),(Instr.keyThatStays (κ a) (κ a)).run P w= .ok (κ a) w)(inj:∀a b,κ a=κ b->a=b):Fw P kt κ D where
 check:=fun w em a _=>hc w em a
 find:=fun w k _ es O=>by
  have h:∀(es:List MapEntry) (i:Nat),(∀e∈es,∃a,D a/\e.key=κ a)->(Instr.findNow K (κ k) es i=some none/\∀e∈es,e.key≠κ k)\/∃j e,Instr.findNow K (κ k) es i=some (some (i+j,e.val))/\es[j]?=some e/\e.key=κ k:=by
   intro es;induction es with
   |nil=>intro i _;exact .inl ⟨rfl,by simp⟩
   |cons e es ih=>
    intro i O;obtain ⟨a,_,I⟩:=O e B6;by_cases J:k=a
    · refine .inr ⟨0,e,?_,rfl,by rw [I,J]⟩
      simp only [Instr.findNow,I,U,J,decide_true,Pu]
    · rcases ih (i+1) (fun e h=>O e (G3 _ h))with⟨G,h2⟩|⟨j,e',G,h2,h3⟩
      · refine .inl ⟨?_,fun e' h=>?_⟩
        · simp only [Instr.findNow,I,U,J,dd];exact G
        · rcases Dg.1 h with rfl|h
          · rw [I];exact fun h=>J (inj _ _ h.symm)
          · exact h2 e' h
      · refine .inr ⟨j+1,e',?_,h2,h3⟩
        simp only [Instr.findNow,I,U,J,dd];rw [G,show i+1+j=i+(j+1) by omega]
  have B:∀r,Instr.findNow K (κ k) es 0=some r->(Instr.findKey kt (κ k) es).run P w= .ok r w:=fun r X=>by
   simp only [Instr.findKey,Sem.run_bind,run_underlying Z,Result.andThen,X];rfl
  rcases h es 0 O with⟨G,h2⟩|⟨j,e,G,h2,h3⟩
  · exact .inl ⟨B _ G,h2⟩
  · exact .inr ⟨j,e,B _ (by rw [G,DP]),h2,h3⟩
 stays:=fun w a _=>W w a
 inj:=inj
theorem nY{kt:AK}(B:P.underlying kt=some (.int .i64))(w:A4)(k:Int)(b:Bool)(n:Nat):(Instr.checkKey b (n+1) kt (I0 k)).run P w= .ok () w:=by
 simp only [Instr.checkKey,Sem.run_bind,run_underlying B,Result.andThen];rfl
theorem nX{kt:AK}(B:P.underlying kt=some .string)(w:A4)(k:C4)(b:Bool)(n:Nat):(Instr.checkKey b (n+1) kt (.string k)).run P w= .ok () w:=by
 simp only [Instr.checkKey,Sem.run_bind,run_underlying B,Result.andThen];rfl
theorem vD(n:Nat)(k:Int):Instr.sameBits (n+1) (I0 k) (I0 k)=true:=by simp [Instr.sameBits]
theorem vC(n:Nat)(k:C4):Instr.sameBits (n+1) (.string k) (.string k)=true:=by
 simp only [Instr.sameBits];cases k with|mk k=>show(k==k)=true;simp
theorem Y0{v:A2}(h:Instr.sameBits 10000 v v=true)(w:A4):(Instr.keyThatStays v v).run P w= .ok v w:=by
 unfold Instr.keyThatStays;rw [B0 h];rfl
theorem Cc{kt:AK}{D:Int->Prop}(B:P.underlying kt=some (.int .i64)):Fw P kt (fun k:Int=>Value.int .i64 k) D:=
 Fw.basic B (fun a b=>by simp only [Instr.sameNow];congr 1) (fun w em a=>nY B w a em 9999) (fun w a=>Y0 (vD 9999 a) w) (fun a b h=>by injection h)
theorem Dx{kt:AK}{D:C4->Prop}(B:P.underlying kt=some .string):Fw P kt (fun k:C4=>Value.string k) D:=
 Fw.basic B (fun a b=>by
  simp only [Instr.sameNow];congr 1;cases a with|mk a=>cases b with|mk b=>
  show(a==b)=_;simp only [ByteArray.mk.injEq];exact kn.2 B6) (fun w em a=>nX B w a em 9999) (fun w a=>Y0 (vC 9999 a) w) (fun a b h=>by injection h)
theorem EX(κ:α->A2):Ck κ #[] 0 []:=⟨rfl,by simp,by simp,by simp⟩
variable{es:Array MapEntry}{clock:Nat}{l:List (α×A2)}{kt:AK}
theorem Ck.size(h:Ck κ es clock l):es.size=l.length:=by
 have:=congrArg List.length h.pairs;simpa using this
theorem Ck.at_(h:Ck κ es clock l){j:Nat}{e:MapEntry}(G:es.toList[j]?=some e):∃p,l[j]?=some p/\e.key=κ p.1/\e.val=p.2:=by
 have B:(es.toList.map (fun e=>(e.key,e.val)))[j]?=some (e.key,e.val):=by rw [FF,G];rfl
 rw [h.pairs,FF]at B;cases hp:l[j]?with
 |none=>rw [hp]at B;cases B
 |some p=>
  rw [hp]at B;injection B with B
  injection B with h2 h3
  exact ⟨p,V,h2.symm,h3.symm⟩
theorem Ck.of(h:Ck κ es clock l){j:Nat}{p:α×A2}(G:l[j]?=some p):∃e,es.toList[j]?=some e/\e.key=κ p.1/\e.val=p.2:=by
 have B:(l.map (fun p=>(κ p.1,p.2)))[j]?=some (κ p.1,p.2):=by rw [FF,G];rfl
 rw [<-h.pairs,FF]at B;cases he:es.toList[j]?with
 |none=>rw [he]at B;cases B
 |some e=>
  rw [he]at B;injection B with B
  injection B with h2 h3
  exact ⟨e,V,h2,h3⟩
theorem I4(W:Fw P kt κ D)(U:Ck κ es clock l)(Z:∀p∈l,D p.1)(w:A4)(k:α)(X:D k):
 ((Instr.findKey kt (κ k) es.toList).run P w= .ok none w/\∀p∈l,p.1≠k)\/∃j v,(Instr.findKey kt (κ k) es.toList).run P w= .ok (some (j,v)) w/\l[j]?=some (k,v):=by
 rcases W.find w k X es.toList (fun e K=>by
  obtain ⟨j,O⟩:=HK K;obtain ⟨p,G,B,_⟩:=U.at_ O;exact ⟨p.1,Z p (E7 G),B⟩)with⟨B,h2⟩|⟨j,e,B,h2,h3⟩
 · refine .inl ⟨B,fun p G K=>?_⟩
   obtain ⟨j,O⟩:=HK G;obtain ⟨e,I,J,_⟩:=U.of O;exact h2 e (E7 I) (by rw [J,K])
 · obtain ⟨p,G,I,J⟩:=U.at_ h2
   refine .inr ⟨j,e.val,B,?_⟩;rw [G,J,<-W.inj p.1 k (by rw [<-I,h3])]
def EL [DecidableEq α](k:α)(l:List (α×A2)):Option A2:=(l.find? (fun p=>decide (p.1=k))).map (·.2)
theorem DN [DecidableEq α]{k:α}(h:∀p∈l,p.1≠k):EL k l=none:=by
 unfold EL;rw [nj.2 (fun p B=>by simpa using h p B)];rfl
theorem Cw [DecidableEq α]{k:α}{v:A2}:∀{l:List (α×A2)},(l.map (·.1)).Nodup->(k,v)∈l->EL k l=some v
 |p::l,hn,h=>by
  rw [F2,JT]at hn;unfold EL;rcases Dg.1 h with rfl|h
  · simp
  · rw [List.find?_cons_of_neg (by simp;rintro rfl;exact hn.1 (CM.2 ⟨_,h,rfl⟩))]
    exact Cw hn.2 h
theorem VZ [DecidableEq α]{k:α}{v:A2}{l:List (α×A2)}(h:EL k l=some v):(k,v)∈l:=by
 unfold EL at h;cases hf:l.find? (fun p=>decide (p.1=k))with
 |none=>rw [hf]at h;cases h
 |some p=>
  rw [hf]at h;injection h with h
  have B:=o4 hf;have h2:=mw hf
  simp only [H4]at B;rw [<-B,<-h];exact h2
section
variable{env:Env}{d:Option Nat}{ty:AK}{pos:String}{af:Array Edge}{g:Option (Nat×Bool)}{t et:AK}{r:Nat}{m x y:Operand}{k:α}{v z:A2}
theorem F6(B:Fw P kt κ D)(G:D k)(w:A4)(em:Bool):(Instr.checkKey em 10000 kt (κ k)).run P w= .ok () w:=by
 exact B.check w em k G
theorem rH [DecidableEq α](G:Fw P kt κ D)(O:P.underlying t=some (.map kt et))(hz:∀w:A4,(zeroValue et).run P w= .ok z w)(K:Ck κ es clock l)(U:∀p∈l,D p.1)(I:D k)(hx:∀a,ev a env m= .map (some r))(hy:∀a,ev a env x=κ k):
 OpP P ⟨d,.lookup t m x true,ty,pos,af,g⟩ env [(r,.map es clock)] (.tuple #[(EL k l).getD z,.bool (EL k l).isSome]):=fun a w W=>by
 have J:=W (r,.map es clock) B6;show((do pure (Next.value (<-Instr.lookup t (ev a env m) (ev a env x) true))):Sem Next).run P w=_
 rw [hx a,hy a];rcases I4 G K U w k I with⟨B,h2⟩|⟨j,v,B,h2⟩
 · rw [DN h2]
   simp only [Instr.lookup,Sem.run_bind,run_underlying O,Result.andThen,MapKept.run_getObj_map J,F6 G I,Sem.run_pure,B,hz];rfl
 · rw [Cw K.keys (E7 h2)]
   simp only [Instr.lookup,Sem.run_bind,run_underlying O,Result.andThen,MapKept.run_getObj_map J,F6 G I,Sem.run_pure,B];rfl
theorem EN [DecidableEq α]{v0:A2}{b0:Bool}(B:Fw P kt κ D)(K:P.underlying t=some (.map kt et))(hz:∀w:A4,(zeroValue et).run P w= .ok z w)(J:Ck κ es clock l)(I:∀p∈l,D p.1)(G:D k)(hv:(EL k l).getD z=v0/\(EL k l).isSome=b0)(hx:∀a,ev a env m= .map (some r))(hy:∀a,ev a env x=κ k):
 OpP P ⟨d,.lookup t m x true,ty,pos,af,g⟩ env [(r,.map es clock)] (.tuple #[v0,.bool b0]):=by
 have:=rH (d:=d) (ty:=ty) (pos:=pos) (af:=af) (g:=g) B K hz J I G hx hy;rwa [hv.1,hv.2]at this
theorem Pv(J:P.underlying t=some (.map kt et))(G:Ck κ es clock l)(hx:∀a,ev a env m= .map (some r)):
 OpP P ⟨d,.call ⟨.builtin .len,#[m],#[t]⟩,ty,pos,af,g⟩ env [(r,.map es clock)] (I0 (l.length:Int)):=fun a w I=>by
 have B:=I (r,.map es clock) B6;simp [E8,resolve,invoke,builtin,hx a,Builtin.len_,run_underlying J,MapKept.run_getObj_map B,goInt,G.size]
theorem Ff{w:A4}{c:Nat}(B:w.heap[r]?=some (.map es c))(o':Obj):(setObj r o').run P w= .ok () (setBlock w r o'):=by
 simp [setObj,Sem.run,B,setBlock]
variable{u:A4}{H R:Hp}
theorem DK:OpW P u ⟨d,.makeMap t none,ty,pos,af,g⟩ env H (fun I H1=>∃b,I= .map (some b)/\H1=[(b,.map #[] 0)]::H) (fun _ _=>False):=fun a w G K J B _=>by
 have:(execOp (ev a env) ⟨d,.makeMap t none,ty,pos,af,g⟩).run P w= .ok (.value (.map (some w.heap.size))) {w with heap:=w.heap.push (.map #[] 0)}:=by
  show((do pure (Next.value (<-Instr.makeMap t none))):Sem Next).run P w=_;rfl
 rw [this];exact B _ _ _ ⟨_,V,V⟩ (G.alloc _)
theorem JP{w:A4}(B:One [(r,.map es clock)] H R)(G:Sat u H w)(o':Obj):w.heap[r]?=some (.map es clock)/\Sat u ([(r,o')]::R) (setBlock w r o'):=by
 have J:Sat u ([(r,.map es clock)]::R) w:=G.perm (by simpa using B.perm);have K:=J.get (r,.map es clock) B6
 have I:r<w.heap.size:=(Hj.1 K).1;exact ⟨K,J.upd (Upd.here _) rfl rfl rfl (by simp [setBlock,I]) (fun j O=>by simp only [setBlock,fp];rw [As (fun e=>O e.symm)])⟩
theorem Z5{i:Nat}{q:A2}(I:l[i]?=some (k,q))(v:A2):((l.set i (k,v)).map (·.1))=l.map (·.1):=by
 apply O2;intro j;rw [FF,FF,Vc];by_cases B:i=j
 · subst B
   have G:=(C6.1 I).1;rw [B0 rfl,B0 G,I];rfl
 · rw [As B]
theorem Ko{i j:Nat}{p q:α×A2}(hn:(l.map (·.1)).Nodup)(G:l[i]?=some p)(I:l[j]?=some q)(h:p.1=q.1):i=j:=by
 have B:(l.map (·.1))[i]?=some p.1:=by rw [FF,G];rfl
 have h2:(l.map (·.1))[j]?=some q.1:=by rw [FF,I];rfl
 exact (qq (C6.1 B).1 hn).1 (by rw [B,h2,h])
theorem j6{i:Nat}{q:A2}(hn:(l.map (·.1)).Nodup)(J:l[i]?=some (k,q))(v:A2)(p:α×A2):p∈l.set i (k,v)↔p=(k,v)\/(p∈l/\p.1≠k):=by
 have I:=(C6.1 J).1;constructor
 · intro h
   obtain ⟨j,B⟩:=HK h;rw [Vc]at B;by_cases G:i=j
   · rw [B0 G,B0 A0]at B
     injection B with B;exact .inl B.symm
   · rw [As G]at B
     exact .inr ⟨E7 B,fun e=>G (Ko hn J B e.symm)⟩
 · rintro (rfl|⟨h,hne⟩)
   · exact E7 (by rw [Vc,B0 rfl,B0 I])
   · obtain ⟨j,B⟩:=HK h
     refine E7 (i:=j) ?_;rw [Vc,As];· exact B
     · rintro rfl
       rw [J]at B;injection B with B
       exact hne (by rw [<-B])
theorem FD(hK:Fw P kt κ D)(ht:P.underlying t=some (.map kt et))(J:Ck κ es clock l)(hl:∀p∈l,D p.1)(hk:D k)(hx:∀a,ev a env m= .map (some r))(hy:∀a,ev a env x=κ k)(hv:∀a,ev a env y=v)(W:One [(r,.map es clock)] H R):
 OpW P u ⟨d,.mapUpdate t m x y,ty,pos,af,g⟩ env H (fun v' H1=>v'=undef/\∃G B Z,Ck κ G B Z/\(∀p,p∈Z↔p=(k,v)\/(p∈l/\p.1≠k))/\H1=[(r,.map G B)]::R) (fun _ _=>False):=fun a w X K Kp cu _=>by
 obtain ⟨hb,_⟩:=JP W X (.map es clock)
 suffices hrun:∃G B Z,(Instr.mapUpdate t (.map (some r)) (κ k) v).run P w= .ok () (setBlock w r (.map G B))/\Ck κ G B Z/\∀p,p∈Z↔p=(k,v)\/(p∈l/\p.1≠k) by
  obtain ⟨G,B,Z,h1,h2,h3⟩:=hrun;have:(execOp (ev a env) ⟨d,.mapUpdate t m x y,ty,pos,af,g⟩).run P w= .ok .skip (setBlock w r (.map G B)):=by
   show((do Instr.mapUpdate t (ev a env m) (ev a env x) (ev a env y);pure Next.skip):Sem Next).run P w=_;rw [hx a,hy a,hv a,Sem.run_bind,h1];rfl
  rw [this];exact cu _ _ _ ⟨V,G,B,Z,h2,h3,V⟩ (JP W X _).2
 rcases I4 hK J hl w k hk with⟨h1,h2⟩|⟨j,q,h1,h2⟩
 · refine ⟨es.push {key:=κ k,val:=v,born:=clock},clock+1,l++[(k,v)],?_,⟨?_,?_,?_,?_⟩,?_⟩
   · simp only [Instr.mapUpdate,Sem.run_bind,run_underlying ht,Result.andThen,MapKept.run_getObj_map hb,F6 hK hk,h1,Ff hb]
   · simp [J.pairs]
   · simp only [nq,CN,F2,MY]
     rw [HN];refine ⟨J.born,by simp,?_⟩;intro a ha b O ax;simp only [CM,CH]at ha O;obtain ⟨e,U,rfl⟩:=ha;have:=J.old e U
     omega
   · intro e U
     simp only [nq,CI,CH]at U;rcases U with U|rfl
     · have:=J.old e U;omega
     · simp
   · rw [CN,HN]
     refine ⟨J.keys,by simp,?_⟩;intro a ha b O ax;simp only [F2,MY,CH]at O;obtain ⟨p,hp,rfl⟩:=CM.1 ha;exact h2 p hp (by rw [ax,O])
   · intro p
     rw [CI,CH];constructor
     · rintro (h|rfl)
       · exact .inr ⟨h,h2 p h⟩
       · exact .inl rfl
     · rintro (rfl|⟨h,_⟩)
       · exact .inr rfl
       · exact .inl h
 · obtain ⟨e0,bn,d9,gm⟩:=J.of h2
   have cO:es[j]?=some e0:=by simpa using bn
   have ek:(Instr.keyThatStays (((es[j]?).map (·.key)).getD (κ k)) (κ k)).run P w= .ok (κ k) w:=by
    rw [cO];show(Instr.keyThatStays e0.key (κ k)).run P w=_
    rw [d9];exact hK.stays w k hk
   refine ⟨es.modify j fun e=>{e with key:=κ k,val:=v},clock,l.set j (k,v),?_,⟨?_,?_,?_,?_⟩,j6 J.keys h2 v⟩;· simp only [Instr.mapUpdate,Sem.run_bind,run_underlying ht,Result.andThen,MapKept.run_getObj_map hb,F6 hK hk,h1,ek,Ff hb]
   · rw [gC]
     apply O2;intro i;have hj:(es.toList.map (fun e=>(e.key,e.val)))[i]?=(l.map (fun p=>(κ p.1,p.2)))[i]?:=by rw [J.pairs]
     rw [FF,FF]at hj;rw [FF,FF,gA,Vc];by_cases I:j=i
     · subst I
       rw [B0 rfl,B0 (C6.1 h2).1,bn];simp
     · simpa [I]using hj
   · have:(es.modify j fun e=>{e with key:=κ k,val:=v}).toList.map (·.born)=es.toList.map (·.born):=by
      rw [gC];apply O2;intro i;simp only [FF,gA];by_cases I:j=i;· subst I;cases es.toList[j]?<;>simp
      · simp [I]
     rw [this];exact J.born
   · intro e U
     rw [gC]at U;obtain ⟨i,hi⟩:=HK U;simp only [gA]at hi;cases h9:es.toList[i]?with
     |none=>simp [h9]at hi
     |some e1=>
      have:=J.old e1 (E7 h9);by_cases I:j=i
      · subst I
        simp only [h9,J1,Option.map_eq_map,Pr,Z3]at hi;subst hi;exact this
      · simp [h9,I]at hi
        subst hi;exact this
   · rw [Z5 h2 v];exact J.keys
theorem LF{t2:AK}(hK:Fw P kt κ D)(ht:P.underlying t=some (.map kt et))(W:Ck κ es clock l)(hl:∀p∈l,D p.1)(hk:D k)(hx:∀a,ev a env m= .map (some r))(hy:∀a,ev a env x=κ k)(I:One [(r,.map es clock)] H R):
 OpW P u ⟨d,.call ⟨.builtin .delete,#[m,x],#[t,t2]⟩,ty,pos,af,g⟩ env H (fun v' H1=>v'= .tuple #[]/\∃G B X,Ck κ G B X/\(∀p,p∈X↔p∈l/\p.1≠k)/\H1=[(r,.map G B)]::R) (fun _ _=>False):=fun a w J K Kp bn _=>by
 obtain ⟨hb,_⟩:=JP I J (.map es clock)
 suffices hrun:∃G B X,(Builtin.delete_ #[t,t2] ty #[.map (some r),κ k]).run P w= .ok (.tuple #[]) (setBlock w r (.map G B))/\Ck κ G B X/\∀p,p∈X↔p∈l/\p.1≠k by
  obtain ⟨G,B,X,Z,h2,h3⟩:=hrun;have:(execOp (ev a env) ⟨d,.call ⟨.builtin .delete,#[m,x],#[t,t2]⟩,ty,pos,af,g⟩).run P w= .ok (.value (.tuple #[])) (setBlock w r (.map G B)):=by
   simp only [E8,resolve,invoke,builtin,Sx,F2,MY,hx a,hy a,Sem.run_bind,Sem.run_pure,Result.andThen_ok,Z]
  rw [this];exact bn _ _ _ ⟨V,G,B,X,h2,h3,V⟩ (JP I J _).2
 rcases I4 hK W hl w k hk with⟨Z,h2⟩|⟨j,q,Z,h2⟩
 · refine ⟨es,clock,l,?_,W,fun p=>⟨fun h=>⟨h,h2 p h⟩,fun h=>h.1⟩⟩
   simp only [Builtin.delete_,kc,cL,dj,Sem.run_bind,run_underlying ht,Result.andThen,MapKept.run_getObj_map hb,F6 hK hk,Z,Ff hb,Sem.run_pure]
 · have U:(es.eraseIdxIfInBounds j).toList=es.toList.eraseIdx j:=by
    unfold Array.eraseIdxIfInBounds;split;· simp
    · rename_i h;rw [List.eraseIdx_of_length_le (by simpa using h)]
   have O:(es.toList.eraseIdx j).Sublist es.toList:=List.eraseIdx_sublist _ _;have ax:∀{α β:Type} (f:α->β) (m:List α) (n:Nat),(m.eraseIdx n).map f=(m.map f).eraseIdx n:=by
    intro α β f m;induction m with
    |nil=>intro n;simp
    |cons x m ih=>intro n;cases n<;>simp [ih]
   refine ⟨es.eraseIdxIfInBounds j,clock,l.eraseIdx j,?_,⟨?_,?_,?_,?_⟩,fun p=>?_⟩;· simp only [Builtin.delete_,kc,cL,dj,Sem.run_bind,run_underlying ht,Result.andThen,MapKept.run_getObj_map hb,F6 hK hk,Z,Ff hb,Sem.run_pure]
   · rw [U,ax,W.pairs,ax]
   · rw [U];exact (O.map _).nodup W.born
   · intro e he
     rw [U]at he;exact W.old e (O.subset he)
   · exact ((List.eraseIdx_sublist l j).map _).nodup W.keys
   · rw [List.mem_eraseIdx_iff_getElem?]
     constructor
     · rintro ⟨i,cu,hi⟩
       exact ⟨E7 hi,fun e=>cu (Ko W.keys hi h2 e)⟩
     · rintro ⟨h,cO⟩
       obtain ⟨i,hi⟩:=HK h;refine ⟨i,?_,hi⟩;rintro rfl;rw [h2]at hi;injection hi with hi
       exact cO (by rw [<-hi])
end
end
end Gw
namespace Gw
open Go Go.RowKit
open Go.ChangeMaps
section
variable{α:Type}{κ:α->A2}{P:Program}{es:Array MapEntry}{clock:Nat}{l:List (α×A2)}
structure Ii(es:Array MapEntry)(js:List Nat)(seen:Array Nat):Prop where
 nodup:js.Nodup
 lt:∀j∈js,j<es.size
 mem:∀(j:Nat) (e:MapEntry),es.toList[j]?=some e->(seen.contains e.born=true↔j∈js)
 last:∀(j:Nat),js.getLast?=some j->∃e,es.toList[j]?=some e/\∃s0:Array Nat,seen=s0.push e.born
theorem KE(es:Array MapEntry):Ii es [] #[]:=⟨by simp,by simp,by simp,by simp⟩
theorem ae{es:Array MapEntry}(hn:(es.toList.map (·.born)).Nodup){i j:Nat}{a b:MapEntry}(G:es.toList[i]?=some a)(I:es.toList[j]?=some b)(h:a.born=b.born):i=j:=by
 have B:(es.toList.map (·.born))[i]?=some a.born:=by rw [FF,G];rfl
 have h2:(es.toList.map (·.born))[j]?=some b.born:=by rw [FF,I];rfl
 exact (qq (C6.1 B).1 hn).1 (by rw [B,h2,h])
theorem Ii.push(J:Ck κ es clock l){js:List Nat}{seen:Array Nat}(h:Ii es js seen){j:Nat}{e:MapEntry}(G:es.toList[j]?=some e)(O:j∉js):Ii es (js++[j]) (seen.push e.born):=by
 refine ⟨?_,?_,?_,?_⟩
 · rw [HN]
   refine ⟨h.nodup,by simp,?_⟩;intro a K b B I;rw [CH]at B;subst B I;exact O K
 · intro i hi
   rcases CI.1 hi with hi|hi
   · exact h.lt i hi
   · rw [CH]at hi
     subst hi;have:=(C6.1 G).1
     simpa using this
 · intro i x hx
   rw [CI,CH,<-h.mem i x hx,Array.contains_push];simp only [TO,beq_iff_eq];constructor
   · rintro (B|hc)
     · first|exact .inr (ae J.born hx G B)|exact .inl B
     · first|exact .inl hc|exact .inr (ae J.born hx G hc)
   · rintro (hc|rfl)
     · first|exact .inr hc|exact .inl hc
     · rw [G]at hx
       injection hx with hx
       subst hx;first|exact .inl rfl|exact .inr rfl
 · intro i hi
   rw [List.getLast?_append]at hi;simp at hi;subst hi;exact ⟨e,G,seen,V⟩
def DJ(l:List (α×A2))(js:List Nat):List (α×A2):=js.filterMap (fun j=>l[j]?)
theorem G7(l:List (α×A2))(js:List Nat){j:Nat}{p:α×A2}(B:l[j]?=some p):DJ l (js++[j])=DJ l js++[p]:=by
 unfold DJ;rw [fy];simp [B]
theorem N7(l:List (α×A2)):DJ l (List.range l.length)=l:=by
 have h:∀n,n<=l.length->DJ l (List.range n)=l.take n:=by
  intro n;induction n with
  |zero=>intro _;rfl
  |succ n ih=>
   intro hn;obtain ⟨p,B⟩:∃p,l[n]?=some p:=⟨_,BE A0⟩;rw [kx,G7 l _ B,ih A0,S5,B];rfl
 rw [h _ (CT _),HI]
theorem Ii.done(K:Ck κ es clock l){js:List Nat}{seen:Array Nat}(h:Ii es js seen)(h0:(leftOf es seen).size=0):(DJ l js).Perm l:=by
 have O:js.Perm (List.range l.length):=by
  rw [Sh h.nodup kj];intro j;rw [My,<-K.size];constructor;· exact h.lt j
  · intro J
    have B:j<es.toList.length:=by simpa using J
    have I:es.toList[j]?=some (es.toList[j]):=BE B;rw [<-h.mem j _ I];unfold leftOf at h0;have G:=Array.filter_eq_empty_iff.1 (Array.eq_empty_of_size_eq_zero h0)
    have h2:=G (es.toList[j]) (q5.1 (rB B));simpa using h2
 have:=O.filterMap (fun j=>l[j]?);exact this.trans (by rw [show(List.range l.length).filterMap (fun j=>l[j]?)=DJ l (List.range l.length) from rfl,N7])
section
variable{env:Env}{d:Option Nat}{ty:AK}{pos:String}{af:Array Edge}{g:Option (Nat×Bool)}{t kt et:AK}{r b:Nat}{x:Operand}{u:A4}{H R:Hp}
theorem LC(O:P.underlying t=some (.map kt et))(hx:∀a,ev a env x= .map (some r))(B:(r,.map es clock)∈H.flatten):
 OpW P u ⟨d,.range t x,ty,pos,af,g⟩ env H (fun U H1=>∃b,U=I1 b/\H1=[(b,.mapIter (some r) clock #[] clock)]::H) (fun _ _=>False):=fun a w G K W I _=>by
 have J:=G.get _ B;have:(execOp (ev a env) ⟨d,.range t x,ty,pos,af,g⟩).run P w= .ok (.value (.pointer (some ⟨w.heap.size,0,none⟩))) {w with heap:=w.heap.push (.mapIter (some r) clock #[] clock)}:=by
  show((do pure (Next.value (<-Instr.range t (ev a env x)))):Sem Next).run P w=_;rw [hx a];simp only [Instr.range,Sem.run_bind,run_underlying O,Result.andThen,MapKept.run_getObj_map J];rfl
 rw [this];exact I _ _ _ ⟨_,V,V⟩ (G.alloc _)
theorem NI(G:P.underlying t=some (.map kt et))(hx:∀a,ev a env x= .map (some r))(B:Has r (.map es clock) H):
 OpW P u ⟨d,.range t x,ty,pos,af,g⟩ env H (fun I H1=>∃b,I=I1 b/\H1=[(b,.mapIter (some r) clock #[] clock)]::H) (fun _ _=>False):=LC G hx B.mem
theorem wW{w:A4}{o:Obj}(B:One [(b,o)] H R)(G:Sat u H w)(o':Obj):w.heap[b]?=some o/\Sat u ([(b,o')]::R) (setBlock w b o'):=by
 have J:Sat u ([(b,o)]::R) w:=G.perm (by simpa using B.perm);have K:=J.get (b,o) B6
 have I:b<w.heap.size:=(Hj.1 K).1;exact ⟨K,J.upd (Upd.here _) rfl rfl rfl (by simp [setBlock,I]) (fun j O=>by simp only [setBlock,fp];rw [As (fun e=>O e.symm)])⟩
theorem NJ(X:Ck κ es clock l){js:List Nat}{seen:Array Nat}(hi:Ii es js seen)(hx:∀a,ev a env x=I1 b)(J:One [(b,.mapIter (some r) clock seen clock)] H R)(U:(r,.map es clock)∈R.flatten):
 OpW P u ⟨d,.next x false,ty,pos,af,g⟩ env H (fun v' H1=>((DJ l js).Perm l/\v'= .tuple #[.bool false]/\H1=[(b,.mapIter (some r) clock seen clock)]::R)\/
  ∃j p I,l[j]?=some p/\j∉js/\Ii es (js++[j]) I/\v'= .tuple #[.bool true,κ p.1,p.2]/\H1=[(b,.mapIter (some r) clock I clock)]::R) (fun _ _=>False):=fun a w G K Kp hK _=>by
 have Z:Sat u ([(b,.mapIter (some r) clock seen clock)]::R) w:=G.perm (by simpa using J.perm);have hb:=Z.get (b,.mapIter (some r) clock seen clock) (by simp)
 have hr:=Z.get (r,.map es clock) (by simp [U]);have ax:(execOp (ev a env) ⟨d,.next x false,ty,pos,af,g⟩)=((do pure (Next.value (<-Instr.next (I1 b) false ty))):Sem Next):=by
  rw [<-hx a];rfl
 rw [ax];rcases run_next_at (P:=P) w ty b r clock clock seen es clock hb hr X.old (CT _)with⟨hz,B⟩|⟨e,he,w1,hw1,B⟩
 · rw [Sem.run_bind,B]
   exact hK _ _ _ (.inl ⟨hi.done X hz,V,V⟩) Z
 · rw [Sem.run_bind,B]
   have O:e∈es.toList/\seen.contains e.born=false:=by
    unfold leftOf at he;simpa using he
   obtain ⟨j,hj⟩:=HK O.1;obtain ⟨p,hp,hk,hv⟩:=X.at_ hj;have W:j∉js:=fun h=>by
    have:=(hi.mem j e hj).2 h;rw [O.2]at this;cases this
   refine hK _ _ _ (.inr ⟨j,p,_,hp,W,hi.push X hj W,by rw [hk,hv],rfl⟩) ?_;have h2:Sat u H w1:=by
    rcases hw1 with rfl|rfl
    · exact G
    · exact G.drew
   exact (wW J h2 _).2
theorem PN(K:Ck κ es clock l){js:List Nat}{seen:Array Nat}(hi:Ii es js seen)(hx:∀a,ev a env x=I1 b)(I:One [(b,.mapIter (some r) clock seen clock)] H R)(G:Has r (.map es clock) R):
 OpW P u ⟨d,.next x false,ty,pos,af,g⟩ env H (fun J H1=>((DJ l js).Perm l/\J= .tuple #[.bool false]/\H1=[(b,.mapIter (some r) clock seen clock)]::R)\/
  ∃j p B,l[j]?=some p/\j∉js/\Ii es (js++[j]) B/\J= .tuple #[.bool true,κ p.1,p.2]/\H1=[(b,.mapIter (some r) clock B clock)]::R) (fun _ _=>False):=NJ K hi hx I G.mem
theorem J8(J:Ck κ es clock l){js:List Nat}{seen:Array Nat}{j:Nat}{p:α×A2}(hi:Ii es (js++[j]) seen)(W:l[j]?=some p)(hx:∀a,ev a env x=I1 b):
 OpP P ⟨d,.entry x,ty,pos,af,g⟩ env [(b,.mapIter (some r) clock seen clock),(r,.map es clock)] (.tuple #[κ p.1,p.2]):=fun a w K=>by
 have O:=K (b,.mapIter (some r) clock seen clock) B6;have X:=K (r,.map es clock) B6
 obtain ⟨e,I,s0,rfl⟩:=hi.last j B6;obtain ⟨Z,B,U,hv⟩:=J.at_ I;rw [W]at B;injection B with B
 subst B;have G:=run_entry_at (P:=P) w b r clock s0 es clock e O X (E7 I) J.born
 show((do pure (Next.value (<-Instr.entry (ev a env x)))):Sem Next).run P w=_;rw [hx a,Sem.run_bind,G,U,hv];rfl
end
end
end Gw
namespace Gl
open Go
def linUpon(P:Program)(K:A2->A4->Prop):Result Next->Prop
 | .ok (.value u) w=>K u w
 | .ok .skip w=>K undef w
 | .ok (.enter f args) w=>Calls P f args w (fun e w'=>∃u,e= .returned u/\K u w')
 |_=>False
def lookE(a:Act):List (Nat×A2)->Nat->A2
 |[],t=>a.tmps.getD t undef
 |(d,v)::env,t=>if t=d then v else lookE a env t
def evalE(a:Act)(env:List (Nat×A2)):Operand->A2
 | .tmp t=>lookE a env t
 | .const v=>v
 | .global g=>I1 g
 | .func f=> .func (.func f) #[] #[]
def yieldE(ops:Array Oper)(a:Act)(env:List (Nat×A2))(g:Nat)(want:Bool):Bool:=
 match(ops[g]?).bind (·.dst)with
 |some t=>match lookE a env t with
  | .bool b=>b==want
  |_=>false
 |none=>false
def wantedE(ops:Array Oper)(a:Act)(env:List (Nat×A2)):Option (Nat×Bool)->Bool
 |none=>true
 |some (g,want)=>yieldE ops a env g want
def putE(d:Option Nat)(v:A2)(env:List (Nat×A2)):List (Nat×A2):=
 match d with
 |some d=>(d,v)::env
 |none=>env
def putsE:List (Nat×A2)->Act->Act
 |[],a=>a
 |(d,v)::env,a=>(putsE env a).put (some d) v
def Yv(P:Program)(ops:Array Oper)(o:Oper)(a:Act)(env:List (Nat×A2))(v:A2)(R:A4->Prop)(w:A4):Prop:=
 ∀K:A2->A4->Prop,(∀w',R w'->K v w')->if wantedE ops a env o.guard=true then linUpon P K ((execOp (evalE a env) o).run P w)else K undef w
def Mo(P:Program)(ops:Array Oper)(S:Nat->A4->Prop)(Q:Act->A4->Prop)(a:Act):Nat->List Oper->List Bool->List (Nat×A2)->Prop
 |k,[],_,env=>∀w,S k w->Q (putsE env a) w
 |k,o::l,true::fs,env=>∃v,(∀w,S k w->Yv P ops o a env v (S (k+1)) w)/\Mo P ops S Q a (k+1) l fs (putE o.dst v env)
 |k,o::l,false::fs,env=>∃v,(∀j w,S j w->Yv P ops o a env v (S j) w)/\Mo P ops S Q a k l fs (putE o.dst v env)
 |_,_::_,[],_=>False
def Sz(ops:Array Oper)(fl:List Bool)(N:Nat):Bool:=
 let b:=Region.before ops
 decide (fl.length=ops.size)&&
 (List.range ops.size).all fun j=>match ops[j]?with
   |none=>false
   |some oj=>
    (oj.after.toList.all fun e=>!Region.binds .any e||decide (e.on<j))&&
    ((List.range j).all fun i=>match ops[i]?with
      |none=>false
      |some oi=>
       (!(b.getD j 0).testBit i||oj.after.toList.any (fun e=>Region.binds .any e&&(e.on==i||(decide (i<e.on)&&(b.getD e.on 0).testBit i))))&&
       (oi.apart ops oj||(b.getD j 0).testBit i)&&
       (!(fl.getD i false&&fl.getD j false)||(b.getD j 0).testBit i))&&
    (match oj.op with| .select ..=>false|_=>true)&&
    (match oj.dst with|some d=>decide (d<N)|none=>true)
def KA(p:Nat->Bool):Nat->List (Oper×A2)->Act->Act
 |_,[],a=>a
 |i,x::l,a=>KA p (i+1) l (if p i then a.put x.1.dst x.2 else a)
def tv(p:Nat->Bool)(t:Nat):Nat->List (Oper×A2)->Option A2->Option A2
 |_,[],d=>d
 |i,x::l,d=>tv p t (i+1) l (if p i=true/\x.1.dst=some t then some x.2 else d)
theorem EJ(a:Act)(d:Option Tmp)(v:A2):(a.put d v).tmps.size=a.tmps.size:=by cases d<;>simp [Act.put]
theorem JU(a:Act)(d:Option Tmp)(v:A2):(a.put d v).defers=a.defers:=by cases d<;>simp [Act.put]
theorem Im(a:Act)(d:Option Tmp)(v:A2)(t:Nat)(B:t<a.tmps.size):(a.put d v).tmps[t]?=if d=some t then some v else a.tmps[t]?:=by
 cases d with
 |none=>simp [Act.put]
 |some d=>
  simp only [Act.put,fp];by_cases e:d=t;· subst e;simp [B]
  · simp [e]
theorem Iw{a b:Act}(G:a.tmps.size=b.tmps.size)(B:a.defers=b.defers)(h:∀t,t<a.tmps.size->a.tmps[t]?=b.tmps[t]?):a=b:=by
 obtain ⟨x,d⟩:=a;obtain ⟨y,e⟩:=b;simp only at B G h;subst B;congr 1;apply lO G;intro i hi I;have:=h i hi
 simp only [I3 hi,I3 I,Z3]at this;exact this
theorem Cy(p:Nat->Bool):∀(i:Nat) (l:List (Oper×A2)) (a:Act),(KA p i l a).tmps.size=a.tmps.size
 |_,[],_=>rfl
 |i,x::l,a=>by simp only [KA];rw [Cy p (i+1) l];split<;>simp [EJ]
theorem FH(p:Nat->Bool):∀(i:Nat) (l:List (Oper×A2)) (a:Act),(KA p i l a).defers=a.defers
 |_,[],_=>rfl
 |i,x::l,a=>by simp only [KA];rw [FH p (i+1) l];split<;>simp [JU]
theorem EH(p:Nat->Bool)(t:Nat):∀(i:Nat) (l:List (Oper×A2)) (a:Act),t<a.tmps.size->(KA p i l a).tmps[t]?=tv p t i l a.tmps[t]?
 |_,[],_,_=>rfl
 |i,x::l,a,ht=>by
  simp only [KA,tv];rw [EH p t (i+1) l _ (by split<;>simpa [EJ]using ht)];congr 1;by_cases B:p i=true;· simp only [B,J1,cF];rw [Im _ _ _ _ ht]
  · simp [B]
theorem F5(p q:Nat->Bool)(t:Nat):∀(i:Nat) (l:List (Oper×A2)) (d:Option A2),(∀k x,l[k]?=some x->x.1.dst=some t->p (i+k)=q (i+k))->tv p t i l d=tv q t i l d
 |_,[],_,_=>rfl
 |i,x::l,d,h=>by
  simp only [tv];have h0:(if p i=true/\x.1.dst=some t then some x.2 else d)=(if q i=true/\x.1.dst=some t then some x.2 else d):=by
   by_cases e:x.1.dst=some t
   · have:=h 0 x rfl e;simp only [Pu]at this;simp [this]
   · simp [e]
  rw [h0];exact F5 p q t (i+1) l _ fun k y B hy=>by
   have:=h (k+1) y (by simpa using B) hy;rwa [show i+(k+1)=i+1+k from by omega]at this
theorem iM(p:Nat->Bool)(t:Nat):∀(i k:Nat) (l:List (Oper×A2)) (d:Option A2) (x:Oper×A2),l[k]?=some x->x.1.dst=some t->p (i+k)=true->
 (∀G y,k<G->l[G]?=some y->y.1.dst=some t->p (i+G)=false)->tv p t i l d=some x.2
 |i,0,z::l,d,x,B,hx,hp,h=>by
  simp only [cL,Z3]at B;subst B;simp only [tv];simp only [Pu]at hp;simp only [hp,hx,and_self,J1];rw [F5 p (fun _=>false) t (i+1) l _ fun k y B hy=>by
   have:=h (k+1) y (by omega) (by simpa using B) hy;rwa [show i+(k+1)=i+1+k from by omega]at this]
  have:∀(i:Nat) (l:List (Oper×A2)) (d:Option A2),tv (fun _=>false) t i l d=d:=by
   intro i l;induction l generalizing i with
   |nil=>intro d;rfl
   |cons y l ih=>intro d;simp [tv,ih]
  rw [this]
 |i,k+1,z::l,d,x,B,hx,hp,h=>by
  simp only [tv];exact iM p t (i+1) k l _ x (by simpa using B) hx (by rwa [show i+1+k=i+(k+1) from by omega]) fun G y J hy I=>by
   have:=h (G+1) y A0 (by simpa using hy) I;rwa [show i+(G+1)=i+1+G from by omega]at this
 |i,k,[],d,x,B,_,_,_=>by simp at B
def pre(j:Nat)(l:List (Oper×A2))(a:Act):Act:=(l.take j).foldl (fun a x=>a.put x.1.dst x.2) a
theorem R8(j:Nat):∀(i:Nat) (l:List (Oper×A2)) (a:Act),KA (fun k=>decide (k<i+j)) i l a=pre j l a:=by
 induction j with
 |zero=>
  intro i l;induction l generalizing i with
  |nil=>intro a;rfl
  |cons x l ih=>
   intro a;simp only [KA,Pu,Nat.lt_irrefl,dd,Of,Hi];have:∀(m i:Nat) (l:List (Oper×A2)) (a:Act),i<=m->KA (fun k=>decide (k<i)) m l a=a:=by
    intro m i l;induction l generalizing m with
    |nil=>intro a _;rfl
    |cons y l ih=>intro a h;simp only [KA];rw [As LO];exact ih (m+1) a A0
   rw [this (i+1) i l a A0];rfl
 |succ j ih=>
  intro i l a;cases l with
  |nil=>rfl
  |cons x l=>
   simp only [KA];rw [B0 B6];have:=ih (i+1) l (a.put x.1.dst x.2)
   rw [show i+1+j=i+(j+1) from by omega]at this;rw [this];rfl
def F9(fs:List Bool):Nat:=(fs.filter id).length
def Lp(P:Program)(ops:Array Oper)(o:Oper)(a:Act)(v:A2)(R:A4->Prop)(w:A4):Prop:=
 ∀K:A2->A4->Prop,(∀w',R w'->K v w')->if Region.wanted o (yielded ops a.tmps)then linUpon P K ((execOp a.eval o).run P w)else K undef w
theorem KV(a:Act):∀env,(putsE env a).tmps.size=a.tmps.size
 |[]=>rfl
 |(d,v)::env=>by simp only [putsE];rw [EJ,KV a env]
theorem NR(a:Act):∀(env:List (Nat×A2)),(∀x∈env,x.1<a.tmps.size)->∀t,(putsE env a).tmps.getD t undef=lookE a env t
 |[],_,t=>rfl
 |(d,v)::env,h,t=>by
  simp only [putsE,lookE];have B:=NR a env (fun x hx=>h x (G3 _ hx)) t
  have G:=h (d,v) (Fo ..);rw [NX]at B⊢;by_cases J:t<a.tmps.size
  · rw [Im _ _ _ _ (by rw [KV];exact J)]
    by_cases e:t=d
    · subst e;simp
    · rw [As e,<-B,As (fun I=>e (T7 I).symm)]
  · rw [LR (by rw [EJ,KV];omega)]
    rw [LR (by rw [KV];omega)]at B;rw [<-B,As (by simp only at G;omega)]
theorem dH(a:Act)(env:List (Nat×A2))(h:∀x∈env,x.1<a.tmps.size):(putsE env a).eval=evalE a env:=by
 funext x;cases x with
 |tmp t=>exact NR a env h t
 |_=>rfl
theorem bG(ops:Array Oper)(o:Oper)(a:Act)(env:List (Nat×A2))(h:∀x∈env,x.1<a.tmps.size):Region.wanted o (yielded ops (putsE env a).tmps)=wantedE ops a env o.guard:=by
 unfold Region.wanted wantedE;cases hg:o.guard with
 |none=>rfl
 |some gw=>
  obtain ⟨g,B⟩:=gw;simp only [yielded,yieldE];cases ht:(ops[g]?).bind (·.dst)with
  |none=>simp
  |some t=>
   simp only [Lk];rw [<-NR a env h t,NX];cases hv:(putsE env a).tmps[t]?with
   |none=>simp [undef]
   |some v=>cases v<;>simp
theorem Vg{P:Program}{ops:Array Oper}{o:Oper}{a:Act}{env:List (Nat×A2)}{v:A2}{R:A4->Prop}{w:A4}(h:∀x∈env,x.1<a.tmps.size)(G:Yv P ops o a env v R w):Lp P ops o (putsE env a) v R w:=by
 intro K B;have:=G K B
 rw [bG ops o a env h,dH a env h];exact this
theorem RJ{P:Program}{ops:Array Oper}{S:Nat->A4->Prop}{Q:Act->A4->Prop}{a:Act}:∀(l:List Oper) (fs:List Bool) (k:Nat) (env:List (Nat×A2)),(∀o∈l,∀d,o.dst=some d->d<a.tmps.size)->(∀x∈env,x.1<a.tmps.size)->Mo P ops S Q a k l fs env->
 ∃x:List (Oper×A2),x.map (·.1)=l/\
  (∀j o v,x[j]?=some (o,v)->(fs.getD j false=true->∀w,S (k+F9 (fs.take j)) w->Lp P ops o (pre j x (putsE env a)) v (S (k+F9 (fs.take j)+1)) w)/\
    (fs.getD j false=false->∀i w,S i w->Lp P ops o (pre j x (putsE env a)) v (S i) w))/\
  ∀w,S (k+F9 (fs.take l.length)) w->Q (pre l.length x (putsE env a)) w
 |[],fs,k,env,_,_,h=>⟨[],rfl,fun j o v B=>by simp at B,by simpa [Mo,F9,pre]using h⟩
 |o::l,true::fs,k,env,hd,he,h=>by
  obtain ⟨v,X,h2⟩:=h;have I:∀x∈putE o.dst v env,x.1<a.tmps.size:=by
   intro x hx;unfold putE at hx;split at hx
   · rename_i d hdd
     rcases Dg.1 hx with rfl|hx
     · exact hd o (Fo ..) d hdd
     · exact he x hx
   · exact he x hx
  have J:putsE (putE o.dst v env) a=(putsE env a).put o.dst v:=by unfold putE;split<;>(rename_i hdd;rw [hdd];rfl)
  obtain ⟨x,hx,O,K⟩:=RJ l fs (k+1) _ (fun o' Z=>hd o' (G3 _ Z)) I h2;rw [J]at O K;refine ⟨(o,v)::x,by simp [hx],fun j o' v' B=>?_,fun w G=>?_⟩
  · cases j with
    |zero=>
     simp only [cL,Z3,lA]at B;obtain ⟨rfl,rfl⟩:=B;exact ⟨fun _ w G=>Vg he (X w (by simpa [F9]using G)),fun h=>by simp at h⟩
    |succ j=>
     obtain ⟨U,W⟩:=O j o' v' (by simpa using B);have e:k+F9 ((true::fs).take (j+1))=k+1+F9 (fs.take j):=by simp [F9];omega
     rw [e];exact ⟨fun h=>U (by simpa using h),fun h=>W (by simpa using h)⟩
  · have e:k+F9 ((true::fs).take (o::l).length)=k+1+F9 (fs.take l.length):=by simp [F9];omega
    rw [e]at G;exact K w G
 |o::l,false::fs,k,env,hd,he,h=>by
  obtain ⟨v,X,h2⟩:=h;have I:∀x∈putE o.dst v env,x.1<a.tmps.size:=by
   intro x hx;unfold putE at hx;split at hx
   · rename_i d hdd
     rcases Dg.1 hx with rfl|hx
     · exact hd o (Fo ..) d hdd
     · exact he x hx
   · exact he x hx
  have J:putsE (putE o.dst v env) a=(putsE env a).put o.dst v:=by unfold putE;split<;>(rename_i hdd;rw [hdd];rfl)
  obtain ⟨x,hx,O,K⟩:=RJ l fs k _ (fun o' Z=>hd o' (G3 _ Z)) I h2;rw [J]at O K;refine ⟨(o,v)::x,by simp [hx],fun j o' v' B=>?_,fun w G=>?_⟩
  · cases j with
    |zero=>
     simp only [cL,Z3,lA]at B;obtain ⟨rfl,rfl⟩:=B;exact ⟨fun h=>by simp at h,fun _ i w G=>Vg he (X i w G)⟩
    |succ j=>
     obtain ⟨U,W⟩:=O j o' v' (by simpa using B);have e:k+F9 ((false::fs).take (j+1))=k+F9 (fs.take j):=by simp [F9]
     rw [e];exact ⟨fun h=>U (by simpa using h),fun h=>W (by simpa using h)⟩
  · have e:k+F9 ((false::fs).take (o::l).length)=k+F9 (fs.take l.length):=by simp [F9]
    rw [e]at G;exact K w G
 |_::_,[],_,_,_,_,h=>(h:False).elim
theorem Q7(n j:Nat)(p q:Nat->Bool)(I:j<n)(B:p j=false)(G:q j=true)(h:∀i,i<n->i≠j->p i=q i):(List.range n).countP q=(List.range n).countP p+1:=by
 induction n with
 |zero=>omega
 |succ n ih=>
  rw [kx,nf,nf];by_cases e:j=n
  · subst e
    have:(List.range j).countP q=(List.range j).countP p:=List.countP_congr fun i hi=>by
     have:=My.1 hi;rw [h i A0 A0]
    simp [this,B,G]
  · have:=ih A0 fun i hi hn=>h i A0 hn
    have e2:=h n A0 (en e);simp only [List.countP_singleton,e2];omega
theorem Kj(n:Nat)(p q:Nat->Bool)(h:∀i,i<n->p i=q i):(List.range n).countP q=(List.range n).countP p:=
 List.countP_congr fun i hi=>by rw [h i (My.1 hi)]
theorem Nk(fs:List Bool)(n:Nat)(hn:n<=fs.length):∀j,j<=n->(List.range n).countP (fun i=>decide (i<j)&&fs.getD i false)=F9 (fs.take j)
 |0,_=>by simp [F9]
 |j+1,hj=>by
  have G:=Nk fs n hn j A0;have J:fs.take (j+1)=fs.take j++[fs[j]]:=by rw [p6 A0]
  have B:fs.getD j false=fs[j]:=by simp [BE (show j<fs.length by omega)]
  rw [J];cases hb:fs[j]with
  |true=>
   rw [Q7 n j (fun i=>decide (i<j)&&fs.getD i false) _ A0 B6 (by simp only [B,hb];simp) (fun i _ I=>by
    have:decide (i<j)=decide (i<j+1):=by apply decide_eq_decide.2;omega
    simp only [this]),G]
   simp [F9]
  |false=>
   rw [Kj n (fun i=>decide (i<j)&&fs.getD i false) _ (fun i _=>by
    by_cases e:i=j
    · subst e;simp only [B,hb];simp
    · have:decide (i<j)=decide (i<j+1):=by apply decide_eq_decide.2;omega
      simp only [this]),G]
   simp [F9]
structure Ic(ops:Array Oper)(fl:List Bool)(N:Nat):Prop where
 len:fl.length=ops.size
 edge:∀j oj e,ops[j]?=some oj->e∈oj.after->Region.binds .any e=true->e.on<j
 anc:∀j oj i,ops[j]?=some oj->i<j->((Region.before ops).getD j 0).testBit i=true->∃e∈oj.after,Region.binds .any e=true/\(e.on=i\/(i<e.on/\((Region.before ops).getD e.on 0).testBit i=true))
 apart:∀i j oi oj,ops[i]?=some oi->ops[j]?=some oj->i<j->oi.apart ops oj=true\/((Region.before ops).getD j 0).testBit i=true
 flags:∀i j oj,ops[j]?=some oj->i<j->fl.getD i false=true->fl.getD j false=true->((Region.before ops).getD j 0).testBit i=true
 sel:∀(j:Nat) (oj:Oper) (cs:Array SelectCase) (b:Bool),ops[j]?=some oj->oj.op≠ .select cs b
 room:∀(j:Nat) (oj:Oper) (d:Nat),ops[j]?=some oj->oj.dst=some d->d<N
theorem fB{ops:Array Oper}{fl:List Bool}{N:Nat}(h:Sz ops fl N=true):Ic ops fl N:=by
 simp only [Sz,Gk,H4,Pc,My]at h;obtain ⟨h0,h⟩:=h;have G:∀{j:Nat} {o:Oper},ops[j]?=some o->j<ops.size:=fun B=>(Hj.1 B).1
 refine ⟨h0,fun j oj e B U O=>?_,fun j oj i B hi O=>?_,fun i j K oj hi B I=>?_,fun i j oj B I W h2=>?_,fun j oj cs b B hs=>?_,fun j oj d B X=>?_⟩
 · have:=h j (G B)
   simp only [B,Gk,Pc]at this;have:=this.1.1.1 e (by simpa using U)
   simpa [O]using this
 · have:=h j (G B)
   simp only [B,Gk,Pc,My]at this;have:=this.1.1.2 i hi
   obtain ⟨K,J⟩:∃K,ops[i]?=some K:=⟨_,I3 (by have:=G B;omega)⟩;simp only [J,Gk]at this;have:=this.1.1
   rw [O]at this;simp only [TX,oR,nr,Gk,TO,beq_iff_eq,H4]at this;obtain ⟨e,U,O,Z⟩:=this;exact ⟨e,by simpa using U,O,Z⟩
 · have:=h j (G B)
   simp only [B,Gk,Pc,My]at this;have:=this.1.1.2 i I
   simp only [hi,Gk,TO]at this;exact this.1.2
 · have:=h j (G B)
   simp only [B,Gk,Pc,My]at this;have:=this.1.1.2 i I
   obtain ⟨K,J⟩:∃K,ops[i]?=some K:=⟨_,I3 (by have:=G B;omega)⟩;simp only [J,Gk]at this;have:=this.2
   rw [W,h2]at this;simpa using this
 · have:=h j (G B)
   simp only [B,Gk]at this;rw [hs]at this;simp at this
 · have:=h j (G B)
   simp only [B,Gk]at this;rw [X]at this;simpa using this.2
def iE(ops:Array Oper)(L:Array Bool):Prop:=∀j oj,ops[j]?=some oj->L.getD j false=true->∀e∈oj.after,Region.binds .any e=true->L.getD e.on false=true
theorem Fv{ops:Array Oper}{fl:List Bool}{N:Nat}(F:Ic ops fl N){L:Array Bool}(hL:iE ops L):∀(j i:Nat) (oj:Oper),ops[j]?=some oj->i<j->((Region.before ops).getD j 0).testBit i=true->
 (∀e∈oj.after,Region.binds .any e=true->L.getD e.on false=true)->L.getD i false=true:=by
 intro j;induction j using Nat.strongRecOn with
 |ind j ih=>
  intro i oj W hi hb Z;obtain ⟨e,O,B,G⟩:=F.anc j oj i W hi hb;rcases G with rfl|⟨hie,G⟩
  · exact Z e O B
  · have X:=F.edge j oj e W O B
    obtain ⟨J,I⟩:∃J,ops[e.on]?=some J:=⟨_,I3 (by have:=(Hj.1 W).1;omega)⟩;exact ih e.on X i J I hie G (fun e' U K=>hL e.on J I (Z e O B) e' U K)
theorem Kg{ops:Array Oper}{o:Oper}{a b:Act}(h:∀t∈o.looksAt ops,a.tmps[t]?=b.tmps[t]?):∀x∈o.op.operands,a.eval x=b.eval x:=by
 intro x hx;cases x with
 |tmp t=>
  have B:t∈o.looksAt ops:=Fc _ (cN.2 ⟨.tmp t,by simpa using hx,rfl⟩);have:=h t B
  simp only [Act.eval,NX,this]
 |_=>rfl
theorem Gp{ops:Array Oper}{o:Oper}{a b:Act}(h:∀t∈o.looksAt ops,a.tmps[t]?=b.tmps[t]?):Region.wanted o (yielded ops a.tmps)=Region.wanted o (yielded ops b.tmps):=by
 unfold Region.wanted;cases hg:o.guard with
 |none=>rfl
 |some gw=>
  obtain ⟨g,B⟩:=gw;have hy:yielded ops a.tmps g=yielded ops b.tmps g:=by
   unfold yielded;cases ht:(ops[g]?).bind (·.dst)with
   |none=>rfl
   |some t=>
    have:=h t (by simp [Oper.looksAt,hg,ht]);simp [this]
  simp only [hy]
theorem Yu{P:Program}{ops:Array Oper}{i:Nat}{o:Oper}{a b:Act}{v:A2}{R:A4->Prop}{w:A4}{Q:Exit->Act->A4->Prop}{K:Act->A4->Prop}
 (hi:ops[i]?=some o)(I:∀cs b,o.op≠ .select cs b)(U:∀t∈o.looksAt ops,a.tmps[t]?=b.tmps[t]?)
 (h:Lp P ops o b v R w)(J:∀G,R G->K (a.put o.dst v) G):wpOp P ops Q i K a w:=by
 have B:=h (fun u G=>u=v/\R G) (fun G O=>⟨rfl,O⟩);unfold wpOp;simp only [hi];rw [Gp U];by_cases O:Region.wanted o (yielded ops b.tmps)=true
 · rw [B0 O]at B⊢
   refine .inl ?_;unfold Oper.wp;rw [execOp_congr o I (Kg U)];generalize (execOp b.eval o).run P w=r at*;cases r with
   |ok n G=>
    cases n<;>simp only [Oper.upon,linUpon]at B⊢
    case value u=>rw [B.1];exact J _ B.2
    case skip=>rw [B.1];exact J _ B.2
    case enter f args=>
     refine Calls.mono B fun e af X=>?_;obtain ⟨u,rfl,Z,W⟩:=X;simp only;rw [Z];exact J _ W
   |halt x G=>simp only [linUpon]at B
 · rw [As O]at B⊢
   rw [B.1];exact J _ B.2
section
variable{P:Program}{ops:Array Oper}{fl:List Bool}{N:Nat}{S:Nat->A4->Prop}{Q:Exit->Act->A4->Prop}{x:List (Oper×A2)}{a0:Act}
structure Jg(ops:Array Oper)(fl:List Bool)(S:Nat->A4->Prop)(x:List (Oper×A2))(a0:Act)(L:Array Bool)(a:Act)(w:A4):Prop where
 size:L.size=ops.size
 shut:iE ops L
 act:a=KA (fun i=>L.getD i false) 0 x a0
 stage:S ((List.range ops.size).countP fun i=>L.getD i false&&fl.getD i false) w
theorem si(F:Ic ops fl N)(hx:x.map (·.1)=ops.toList)
 (hs:∀j o v,x[j]?=some (o,v)->(fl.getD j false=true->∀w,S (F9 (fl.take j)) w->Lp P ops o (pre j x a0) v (S (F9 (fl.take j)+1)) w)/\
   (fl.getD j false=false->∀i w,S i w->Lp P ops o (pre j x a0) v (S i) w))
 {L:Array Bool}{a:Act}{w:A4}(H:Jg ops fl S x a0 L a w){j:Nat}(hj:j∈Region.ready .any ops L){K:Act->A4->Prop}
 (hK:∀a' w',Jg ops fl S x a0 (L.setIfInBounds j true) a' w'->K a' w'):wpOp P ops Q j K a w:=by
 obtain ⟨j3,oj,B,d9⟩:=mem_ready.1 hj;have X:j<ops.size:=(Hj.1 B).1
 have pg:x.length=ops.size:=by have:=congrArg List.length hx;simpa using this
 have j5:∀k,k<ops.size->∃o v,x[k]?=some (o,v)/\ops[k]?=some o:=fun k hk=>by
  obtain ⟨y,hy⟩:∃y,x[k]?=some y:=⟨_,BE A0⟩;refine ⟨y.1,y.2,hy,?_⟩;have:(x.map (·.1))[k]?=some y.1:=by simp [hy]
  rw [hx]at this;simpa using this
 have l8:∀(k:Nat) (y:Oper×A2),x[k]?=some y->ops[k]?=some y.1:=fun k y hy=>by
  have:(x.map (·.1))[k]?=some y.1:=by simp [hy]
  rw [hx]at this;simpa using this
 obtain ⟨o',v,cO,l5⟩:=j5 j X;obtain rfl:oj=o':=by rw [B]at l5;exact T7 l5
 have U:L.getD j false=false:=by
  rw [NX]at j3⊢;rw [I3 (by rw [H.size];exact X)]at j3⊢;simpa using j3
 have I:∀i,i<j->((Region.before ops).getD j 0).testBit i=true->L.getD i false=true:=fun i hi hb=>Fv F H.shut j i oj B hi hb d9;have J:∀i oi,ops[i]?=some oi->j<i->((Region.before ops).getD i 0).testBit j=true->L.getD i false=false:=fun i oi af p8 hb=>by
  cases h:L.getD i false with
  |false=>rfl
  |true=>
   have:=Fv F H.shut i j oi af p8 hb (fun e he ow=>H.shut i oi af h e he ow);rw [U]at this;cases this
 have o9:∀(t:Nat),(t∈oj.looksAt ops\/oj.dst=some t)->∀(k:Nat) (y:Oper×A2),x[k]?=some y->y.1.dst=some t->k≠j->L.getD k false=decide (k<j):=by
  intro t O k y hy W hk;have ic:=l8 k y hy
  rcases Ft k j with hlt|hge
  · rw [DO hlt]
    refine I k hlt ((F.apart k j y.1 oj ic B hlt).resolve_left fun gq=>?_);obtain ⟨h1,h2,h3⟩:=Oper.apart_spec gq;rcases O with O|O
    · exact h1 t W O
    · exact h2 t W O
  · have kv:j<k:=by omega
    rw [F0 A0];refine J k y.1 ic kv ((F.apart j k oj y.1 B ic kv).resolve_left fun gq=>?_);obtain ⟨h1,h2,h3⟩:=Oper.apart_spec gq;rcases O with O|O
    · exact h3 t W O
    · exact h2 t O W
 have bn:a.tmps.size=a0.tmps.size:=by rw [H.act,Cy]
 have o8:(pre j x a0).tmps.size=a0.tmps.size:=by rw [<-R8 j 0 x a0,Cy]
 have Z:∀t∈oj.looksAt ops,a.tmps[t]?=(pre j x a0).tmps[t]?:=by
  intro t O;by_cases cu:t<a0.tmps.size
  · rw [H.act,<-R8 j 0 x a0,EH _ _ _ _ _ cu,EH _ _ _ _ _ cu]
    refine F5 _ _ t 0 x _ fun k y hy W=>?_;simp only [DP];by_cases e:k=j;· subst e;rw [U];simp
    · exact o9 t (.inl O) k y hy W e
  · rw [LR (by rw [bn];exact gE cu),LR (by rw [o8];exact gE cu)]
 have G:∀i,(L.setIfInBounds j true).getD i false=if i=j then true else L.getD i false:=fun i=>by
  by_cases e:i=j
  · subst e;simp [H.size,X]
  · rw [getD_set_ne false (en e),As e]
 have gm:∀w',(∀k,k=((List.range ops.size).countP fun i=>(L.setIfInBounds j true).getD i false&&fl.getD i false)->S k w')->Jg ops fl S x a0 (L.setIfInBounds j true) (a.put oj.dst v) w':=by
  intro w' ax;refine ⟨by simp [H.size],fun k ok hk hl e he hb=>?_,?_,ax _ V⟩
  · rw [G]at hl
    rw [G];by_cases e1:k=j
    · subst e1
      rw [B]at hk;obtain rfl:=T7 hk;rw [d9 e he hb];simp
    · rw [As e1]at hl
      rw [H.shut k ok hk hl e he hb];simp
  · refine Iw ?_ ?_ fun t O=>?_
    · rw [EJ,Cy,bn]
    · rw [JU,FH,H.act,FH]
    · rw [EJ,bn]at O
      rw [Im _ _ _ _ (by rw [bn];exact O),EH _ _ _ _ _ O];by_cases W:oj.dst=some t
      · rw [B0 W]
        refine (iM _ t 0 j x _ (oj,v) cO W (by simp [H.size,X]) fun k y hk hy gy=>?_).symm;simp only [DP];rw [G,As A0,o9 t (.inr W) k y hy gy A0];simp;omega
      · rw [As W,H.act,EH _ _ _ _ _ O]
        refine F5 _ _ t 0 x _ fun k y hy gy=>?_;simp only [DP];rw [G];by_cases e:k=j
        · subst e
          rw [cO]at hy;obtain rfl:=T7 hy;exact absurd gy W
        · rw [As e]
 cases hf:fl.getD j false with
 |false=>
  refine Yu B (F.sel j oj · · B) Z ((hs j oj v cO).2 hf _ w H.stage) fun w' ax=>hK _ _ (gm w' fun k hk=>?_);rw [hk,Kj ops.size (fun i=>L.getD i false&&fl.getD i false) _ fun i _=>by
   rw [G];by_cases e:i=j;· subst e;simp only [hf];simp
   · rw [As e]]
  exact ax
 |true=>
  have ek:((List.range ops.size).countP fun i=>L.getD i false&&fl.getD i false)=F9 (fl.take j):=by
   rw [<-Nk fl ops.size (by rw [F.len];exact CT _) j A0];refine Kj _ _ _ fun i hi=>?_;cases hfi:fl.getD i false with
   |false=>simp
   |true=>
    simp only [lE];rcases Nat.lt_trichotomy i j with h|h|h
    · rw [I i h (F.flags i j oj B h hfi hf)];simp [h]
    · subst h;rw [U];simp
    · obtain ⟨oi,af⟩:∃oi,ops[i]?=some oi:=⟨_,I3 hi⟩
      rw [J i oi af h (F.flags j i oi af h hf hfi)];simp;omega
  have l9:=H.stage;rw [ek]at l9;refine Yu B (F.sel j oj · · B) Z ((hs j oj v cO).1 hf w l9) fun w' ax=>hK _ _ (gm w' fun k hk=>?_);rw [hk,Q7 ops.size j (fun i=>L.getD i false&&fl.getD i false) _ X (by simp only [U];rfl) (by simp only [G,hf];simp) (fun i _ p9=>by rw [G,As p9]),ek];exact ax
theorem XD(F:Ic ops fl N)(hx:x.map (·.1)=ops.toList)
 (hs:∀j o v,x[j]?=some (o,v)->(fl.getD j false=true->∀w,S (F9 (fl.take j)) w->Lp P ops o (pre j x a0) v (S (F9 (fl.take j)+1)) w)/\
   (fl.getD j false=false->∀i w,S i w->Lp P ops o (pre j x a0) v (S i) w))
 (hq:∀w,S (F9 (fl.take ops.size)) w->Q .normal (pre ops.size x a0) w):
 ∀(B:Nat) (L:Array Bool) (a:Act) (w:A4),((List.range ops.size).countP fun i=>!L.getD i false)<=B->Jg ops fl S x a0 L a w->wpAny P .any ops Q B L a w:=by
 have U:∀(L:Array Bool) (a:Act) (w:A4),Jg ops fl S x a0 L a w->Region.ready .any ops L=[]->Q .normal a w:=by
  intro L a w H W;have O:∀j,j<ops.size->L.getD j false=true:=by
   intro j;induction j using Nat.strongRecOn with
   |ind j ih=>
    intro X;cases hl:L.getD j false with
    |true=>rfl
    |false=>
     obtain ⟨oj,J⟩:∃oj,ops[j]?=some oj:=⟨_,I3 X⟩;have:j∈Region.ready .any ops L:=mem_ready.2 ⟨by
      rw [NX,I3 (by rw [H.size];exact X)]at hl⊢;simpa using hl,oj,J,fun e he hb=>by
       have:=F.edge j oj e J he hb;exact ih e.on this A0⟩
     rw [W]at this;cases this
  have bn:x.length=ops.size:=by have:=congrArg List.length hx;simpa using this
  have ha:a=pre ops.size x a0:=by
   rw [H.act,<-R8 ops.size 0 x a0];have Z:∀(t:Nat) (k:Nat) (y:Oper×A2),x[k]?=some y->y.1.dst=some t->(fun i=>L.getD i false) (0+k)=(fun k=>decide (k<0+ops.size)) (0+k):=fun t k y hy _=>by
    have:k<x.length:=(C6.1 hy).1;simp only [DP];rw [O k A0];simp;omega
   refine Iw (by rw [Cy,Cy]) (by rw [FH,FH]) fun t ht=>?_;rw [Cy]at ht;rw [EH _ _ _ _ _ ht,EH _ _ _ _ _ ht];exact F5 _ _ t 0 x _ (Z t)
  rw [ha];refine hq w ?_;have ax:=H.stage
  rw [<-Nk fl ops.size (by rw [F.len];exact CT _) ops.size (CT _)];rw [Kj ops.size (fun i=>L.getD i false&&fl.getD i false) _ fun i hi=>by rw [O i hi];simp [hi]];exact ax
 intro B;induction B with
 |zero=>
  intro L a w hc H;have W:Region.ready .any ops L=[]:=by
   cases W:Region.ready .any ops L with
   |nil=>rfl
   |cons j js=>
    have X:j∈Region.ready .any ops L:=by rw [W];exact Fo ..
    obtain ⟨G,oj,J,_⟩:=mem_ready.1 X;have I:j<ops.size:=(Hj.1 J).1
    have K:L.getD j false=false:=by
     rw [NX]at G⊢;rw [I3 (by rw [H.size];exact I)]at G⊢;simpa using G
    have:0<(List.range ops.size).countP fun i=>!L.getD i false:=List.countP_pos_iff.2 ⟨j,My.2 I,by rw [K];rfl⟩;omega
  exact ⟨W,U L a w H W⟩
 |succ B ih=>
  intro L a w hc H;refine ⟨fun W=>U L a w H W,fun j X=>si F hx hs H X fun a' w' H'=>ih _ a' w' ?_ H'⟩;obtain ⟨G,oj,J,_⟩:=mem_ready.1 X;have I:j<ops.size:=(Hj.1 J).1
  have K:L.getD j false=false:=by
   rw [NX]at G⊢;rw [I3 (by rw [H.size];exact I)]at G⊢;simpa using G
  have:=Q7 ops.size j (fun i=>!(L.setIfInBounds j true).getD i false) (fun i=>!L.getD i false) I (by simp [H.size,I]) (by rw [K];rfl) (fun i _ af=>by rw [getD_set_ne false (en af)]);omega
end
theorem wpLin_keep{P:Program}{ops:Array Oper}{S:Nat->A4->Prop}{Q:Act->A4->Prop}{a:Act}{k:Nat}{o:Oper}{l:List Oper}{fs:List Bool}{env:List (Nat×A2)}{v:A2}(h:∀j w,S j w->Yv P ops o a env v (S j) w)(h2:Mo P ops S Q a k l fs (putE o.dst v env)):Mo P ops S Q a k (o::l) (false::fs) env:=⟨v,h,h2⟩
theorem wpLin_move{P:Program}{ops:Array Oper}{S:Nat->A4->Prop}{Q:Act->A4->Prop}{a:Act}{k:Nat}{o:Oper}{l:List Oper}{fs:List Bool}{env:List (Nat×A2)}{v:A2}(h:∀w,S k w->Yv P ops o a env v (S (k+1)) w)(h2:Mo P ops S Q a (k+1) l fs (putE o.dst v env)):Mo P ops S Q a k (o::l) (true::fs) env:=⟨v,h,h2⟩
theorem wpLin_done{P:Program}{ops:Array Oper}{S:Nat->A4->Prop}{Q:Act->A4->Prop}{a:Act}{k:Nat}{env:List (Nat×A2)}{fs:List Bool}(h:∀w,S k w->Q (putsE env a) w):Mo P ops S Q a k [] fs env:=h
theorem wp_region_lin{P:Program}{id:Nat}{ops:Array Oper}{Q:Exit->Act->A4->Prop}{a:Act}{w:A4}(fl:List Bool)(S:Nat->A4->Prop)(N:Nat)(O:a.tmps.size=N)
 (X:P.follows .mixedOrders=true)(G:Sz ops fl N=true)(U:S 0 w.drew)(h:∀I,I=a->Mo P ops S (fun a w=>Q .normal a w) I 0 ops.toList fl []):(Code.region id ops true).wp P Q a w:=by
 have F:=fB G;obtain ⟨x,hx,hs,hq⟩:=RJ _ _ _ _ (fun o Z d W=>by
  obtain ⟨j,B⟩:=List.mem_iff_getElem?.1 Z;rw [O];exact F.room j o d (by simpa using B) W) (fun x hx=>by cases hx) (h a V)
 refine wp_region_any X (XD (S:=S) (a0:=a) F hx (fun j o v B=>?_) ?_ _ _ _ _ ?_ ?_)
 · have:=hs j o v B
   simpa [putsE]using this
 · simpa [putsE]using hq
 · refine On List.countP_le_length ?_
   simp
 · refine ⟨by simp,fun j oj B J=>?_,?_,?_⟩
   · simp [kA]at J
     split at J<;>simp_all
   · have:=R8 0 0 x a
     refine Iw (by rw [Cy]) (by rw [FH]) fun t K=>?_;rw [EH _ _ _ _ _ K];rw [F5 _ (fun k=>decide (k<0+0)) t 0 x _ fun k y _ _=>by simp [kA];split<;>rfl];rw [<-EH _ _ _ _ _ K,this];rfl
   · have:((List.range ops.size).countP fun i=>(Array.replicate ops.size false).getD i false&&fl.getD i false)=0:=by
      rw [List.countP_eq_zero];intro i _;simp [kA];split<;>simp
     rw [this];exact U
end Gl
namespace Gw
open Go Go.RowKit Go.Sort
theorem ZY{α:Type}(f:α->List A2)(k:Nat)(B:∀x,(f x).length=k):∀(l:List α) (i r:Nat) (a:α),l[i]?=some a->r<k->(l.flatMap f)[i*k+r]?=(f a)[r]?
 |[],i,r,a,h,_=>by simp at h
 |x::l,0,r,a,h,hr=>by
  simp only [cL,Z3]at h;subst h;rw [IH,el,DP,Ys (by rw [B];exact hr)]
 |x::l,i+1,r,a,h,hr=>by
  simp only [dj]at h;rw [IH,PF (by rw [B,N0];omega),B,show(i+1)*k+r -k=i*k+r by rw [N0];omega];exact ZY f k B l i r a h hr
theorem ZX{α:Type}(f:α->List A2)(k:Nat)(B:∀x,(f x).length=k):∀(l:List α),(l.flatMap f).length=l.length*k
 |[]=>by simp
 |x::l=>by rw [IH,C2,ZX f k B l,B,EV,N0];omega
theorem Nh{α:Type} [Inhabited α](f:α->List A2)(k:Nat)(B:∀x,(f x).length=k)(l:List α):(flatK f k l.toArray).toList=l.flatMap f:=by
 apply O2;intro t;by_cases G:t<l.length*k
 · have K:0<k:=by
    rcases S3 k with h|h
    · subst h;simp at G
    · exact h
   have I:t/k<l.length:=py (by rwa [oS]at G);have h2:t%k<k:=hY _ K
   have e:=ZY f k B l (t/k) (t%k) l[t/k] (BE I) h2;rw [Nat.div_add_mod' t k]at e;rw [e];have J:t%k<(f l[t/k]).length:=by rw [B];exact h2
   unfold flatK;rw [Hs];simp [G,I,J]
 · rw [Nd LO,Nd (by rw [ZX f k B];omega)]
theorem TK{α:Type} [Inhabited α]{w:A4}{g:Nat}{cur:AM}{e:AK}{z:Nat×Nat}(f:α->List A2)(k:Nat)(O:∀x,(f x).length=k)(l:List α)(K:w.heap[g]?=some (.cells cur e z))(U:l.length*k<=cur.size)(B:Gc z cur.size)(W:cur.toList.take (l.length*k)=l.flatMap f):HoldsK f k w g 0 l.toArray:=by
 intro j G;have I:j<l.length*k:=by simpa using G
 have X:=B j A0;have h0:=Nh f k O l
 have J:(cur.toList.take (l.length*k))[j]?=(flatK f k l.toArray).toList[j]?:=by rw [W,h0]
 rw [mx I,Hs,Hs]at J;refine ⟨?_,?_⟩
 · simp only [World.cell?,K,DP]
   simp only [qS,Of,Hi];rw [J,I3 G,getElem!_pos _ j G];rfl
 · simp only [World.frozen?,K,DP]
   simp;omega
theorem VF(cur F:AM)(h:F.size<=cur.size):(putCells id 0 F cur).toList.take F.size=F.toList:=by
 apply O2;intro j;rw [HU];by_cases B:j<F.size
 · rw [B0 B,Hs]
   unfold putCells;rw [pS,I3 A0];simp [B]
 · rw [As B,Nd LO]
theorem MG(cur F:AM):(putCells id 0 F cur).size=cur.size:=by simp [putCells]
theorem Sat.sortedK{α:Type} [Inhabited α]{u w:A4}{g n k:Nat}{cur:AM}{e:AK}{z:Nat×Nat}{R:Hp}(f:α->List A2)(d:Array α)(os:Array Obj)(h:Sat u ([(g,.cells cur e z)]::R) w):Sat u ([(g,.cells (putCells id 0 (flatK f k d) cur) e z)]::R) (Go.Proofs.sortWorldK f k w g 0 n d os):=by
 have I:=h.get (g,.cells cur e z) B6;have G:Sat u ([(g,.cells (putCells id 0 (flatK f k d) cur) e z)]::R) (putRowK f k (Sort.ahead w n) g 0 d):=by
  refine h.upd (.here _) V rfl V ?_ fun k B=>?_;· simp [putRowK,putRow,mapBlock,Sort.ahead,V0,I,onCells]
  · have:g≠k:=fun e=>B e.symm
    simp [putRowK,putRow,mapBlock,Sort.ahead,V0,this]
 exact G.below ⟨V,V,V,by simp [Go.Proofs.sortWorldK,grow],fun k B=>heap_grow_old _ _ B⟩
theorem PT{α:Type} [Inhabited α](f:α->List A2)(k:Nat)(w:A4)(g n b:Nat)(d:Array α)(os:Array Obj)(B:g≠b)(I:b<w.heap.size):(Go.Proofs.sortWorldK f k w g 0 n d os).heap[b]?=w.heap[b]?:=by
 have G:(putRowK f k (Sort.ahead w n) g 0 d).heap[b]?=w.heap[b]?:=by
  simp [putRowK,putRow,mapBlock,Sort.ahead,V0,B]
 unfold Go.Proofs.sortWorldK;rw [<-G];refine heap_grow_old _ _ ?_;simpa [putRowK,putRow,mapBlock,Sort.ahead]using I
end Gw
namespace Gw
open Go Go.RowKit
section
variable{P:Program}{u:A4}{env:Env}{H R:Hp}{d:Option Nat}{ty:AK}{pos:String}{af:Array Edge}{g:Option (Nat×Bool)}
def U2(t1 t2 k1 k2:Int)(x y:V3):Prop:=t1=t2/\k1=k2/\x=y
instance(t1 t2 k1 k2:Int)(x y:V3):Decidable (U2 t1 t2 k1 k2 x y):=inferInstanceAs(Decidable (_/\_/\_))
theorem vh{t e ta:AK}{f0 f1 f2:Field}(w:A4)(n:Nat)(t1 t2 k1 k2:Int)(x y:V3)(hu:P.underlying t=some (.struct #[f0,f1,f2]))(hst:P.stoodInHeld t=false)
 (h0:f0.name≠ "_"∧f0.type=e∧f0.offset=0)(h1:f1.name≠ "_"∧f1.type=e∧f1.offset=1)(h2:f2.name≠ "_"∧f2.type=ta∧f2.offset=2)
 (he:P.underlying e=some (.int .i64))(hta:P.underlying ta=some (.array 3 e))(ha:∀w:A4,(isAgg e).run P w= .ok false w)(hs:∀w:A4,(Go.sizeOf e).run P w= .ok 1 w)
 (haa:∀w:A4,(isAgg ta).run P w= .ok true w)(hsa:∀w:A4,(Go.sizeOf ta).run P w= .ok 3 w):
 (Op.equalIn (n+3) t (.agg #[I0 t1,I0 k1,I0 x.a,I0 x.b,I0 x.c]) (.agg #[I0 t2,I0 k2,I0 y.a,I0 y.b,I0 y.c])).run P w= .ok (decide (U2 t1 t2 k1 k2 x y)) w:=by
 obtain ⟨n0,e0,o0⟩:=h0;obtain ⟨n1,e1,o1⟩:=h1;obtain ⟨n2,e2,o2⟩:=h2;have ei:∀(m k:Int) (w:A4),(Op.equalIn (n+2) e (I0 m) (I0 k)).run P w= .ok (decide (m=k)) w:=fun m k w=>RA (n+1) w he m k
 have ea:∀(w:A4),(Op.equalIn (n+2) ta (.agg #[I0 x.a,I0 x.b,I0 x.c]) (.agg #[I0 y.a,I0 y.b,I0 y.c])).run P w= .ok (decide (x=y)) w:=fun w=>RB w n x y hta he ha hs;have p0:∀(v0 v1 v2 v3 v4:A2) (w:A4),(part e #[v0,v1,v2,v3,v4] 0).run P w= .ok v0 w:=fun _ _ _ _ _ w=>FV w (ha w) _ _ rfl
 have p1:∀(v0 v1 v2 v3 v4:A2) (w:A4),(part e #[v0,v1,v2,v3,v4] 1).run P w= .ok v1 w:=fun _ _ _ _ _ w=>FV w (ha w) _ _ rfl;have p2:∀(v0 v1 v2 v3 v4:A2) (w:A4),(part ta #[v0,v1,v2,v3,v4] 2).run P w= .ok (.agg #[v2,v3,v4]) w:=fun _ _ _ _ _ w=>by simp [part,haa,hsa]
 rw [show n+3=(n+2)+1 from rfl,Op.equalIn];generalize n+2=m at*;simp only [Sem.run_bind,run_underlying hu,Result.andThen_ok,run_program,hst,Of,Hi];rw [<-qn];simp only [nt,rK,n0,n1,n2,e0,e1,e2,o0,o1,o2,ne_eq,jt,J1];simp only [Sem.run_bind,p0,p1,p2,ei,ea,Result.andThen_ok];have hd:decide (U2 t1 t2 k1 k2 x y)=(decide (t1=t2)&&(decide (k1=k2)&&decide (x=y))):=by
  by_cases h:U2 t1 t2 k1 k2 x y
  · rw [DO h,DO h.1,DO h.2.1,DO h.2.2];rfl
  · rw [F0 h]
    by_cases c1:t1=t2<;>by_cases c2:k1=k2<;>by_cases c3:x=y<;>simp [c1,c2,c3]
    exact h ⟨c1,c2,c3⟩
 rw [hd];generalize decide (x=y)=b3 at*;by_cases c1:t1=t2<;>by_cases c2:k1=k2<;>cases b3<;>simp [c1,c2,p0,p1,p2,ei,ea,n1,n2]
section
variable{t yt e ta:AK}{f0 f1 f2:Field}{x y:Operand}{t1 t2 k1 k2:Int}{p q:V3}
theorem VU(hg:P.eqGuardType P.depth t=false)(hu:P.underlying t=some (.struct #[f0,f1,f2]))(hst:P.stoodInHeld t=false)
 (h0:f0.name≠ "_"∧f0.type=e∧f0.offset=0)(h1:f1.name≠ "_"∧f1.type=e∧f1.offset=1)(h2:f2.name≠ "_"∧f2.type=ta∧f2.offset=2)
 (he:P.underlying e=some (.int .i64))(hta:P.underlying ta=some (.array 3 e))(ha:∀w:A4,(isAgg e).run P w= .ok false w)(hs:∀w:A4,(Go.sizeOf e).run P w= .ok 1 w)
 (haa:∀w:A4,(isAgg ta).run P w= .ok true w)(hsa:∀w:A4,(Go.sizeOf ta).run P w= .ok 3 w)
 (hx:∀a,ev a env x= .agg #[I0 t1,I0 k1,I0 p.a,I0 p.b,I0 p.c])(hy:∀a,ev a env y= .agg #[I0 t2,I0 k2,I0 q.a,I0 q.b,I0 q.c]):OpP P ⟨d,.binOp .neq t x y yt,ty,pos,af,g⟩ env [] (.bool (decide (¬U2 t1 t2 k1 k2 p q))):=fun a w _=>by
 simp [Cm,hx a,hy a,go_sem,run_eqGuard_agg w _ t _ _ _ _ hg,Lx,Op.equal,Op.maxDepth,vh w 9997 t1 t2 k1 k2 p q hu hst h0 h1 h2 he hta ha hs haa hsa]
end
end
theorem Gz{P:Program}{f:FuncId}{args:AM}{H H1:Hp}{Q I:A2->Hp->Prop}(h:BQ P f args H Q)(U:H1.flatten=H.flatten)(W:∀v H',Q v H'->∃B,I v B/\B.flatten.Perm H'.flatten):BQ P f args H1 I:=fun u R w X=>
 Calls.mono (h u R w (X.sub ⟨[],by simp [U]⟩)) fun e Z O=>by
  rcases O with⟨v,H',rfl,G,h2⟩|⟨ch,H',rfl,G,h2⟩
  · obtain ⟨B,J,K⟩:=W v H' G
    refine .inl ⟨v,B,V,J,h2.perm ?_⟩;rw [HR,HR];exact K.symm.append_right _
  · exact G.elim
section
variable{P:Program}{ops:Array Oper}{A:List Nat}{F:Nat}{cx:Cx}{Q:Exit->Act->A4->Prop}{n D:Nat}{T:List (Nat×A8)}{env:Env}{H:Hp}
theorem CS{d:Nat}{I:Op}{ty:AK}{pos:String}{af:Array Edge}{v:A2}{b:Nat}{x:Obj}{D':Nat}(i:Nat)(O:ops[i]?=some ⟨some d,I,ty,pos,af,none⟩)(B:(!bit F i&&!bit D i&&F4 (A.getD i 0) D)=true)(J:D|||(1<<<i)=D')(K:(b,x)∈H.flatten)(G:OpP P ⟨some d,I,ty,pos,af,none⟩ env [(b,x)] v)
 (k:Lin P ops A F cx Q n D' ((i,(b,x))::T) ((d,v)::env) H):Lin P ops A F cx Q (n+1) D T env H:=by
 simp only [Gk,V2]at B;subst J;exact .inl ⟨i,_,v,[(b,x)],O,B.1.2,B.2,by simpa using K,.inl ⟨fun _=>rfl,G⟩,k⟩
theorem XB{d:Nat}{I:Op}{ty:AK}{pos:String}{af:Array Edge}{g:Nat×Bool}{v:A2}{b:Nat}{x:Obj}{D':Nat}(i:Nat)(O:∀a,wantedE ops a env (some g)=true)(U:ops[i]?=some ⟨some d,I,ty,pos,af,some g⟩)(B:(!bit F i&&!bit D i&&F4 (A.getD i 0) D)=true)(J:D|||(1<<<i)=D')(K:(b,x)∈H.flatten)(G:OpP P ⟨some d,I,ty,pos,af,some g⟩ env [(b,x)] v)
 (k:Lin P ops A F cx Q n D' ((i,(b,x))::T) ((d,v)::env) H):Lin P ops A F cx Q (n+1) D T env H:=by
 simp only [Gk,V2]at B;subst J;exact .inl ⟨i,_,v,[(b,x)],U,B.1.2,B.2,by simpa using K,.inl ⟨O,G⟩,k⟩
theorem Fs{i b:Nat}{x:Obj}(h:(b,x)∈H.flatten)(G:∀p∈T,p.2∈H.flatten):∀p∈((i,(b,x))::T),p.2∈H.flatten:=by
 intro p B;rcases Dg.1 B with rfl|B
 · exact h
 · exact G p B
end
theorem Lh{cx:Cx}{E:Env->Hp->Prop}{env e:Env}{H Hn:Hp}{Q:Exit->Act->A4->Prop}(B:E e Hn):Nx cx ((Exit.then (fun a w=>∃e Hn,E e Hn/\Is cx (e++env) (Hn++H) a w) Q) .normal) (e++env) (Hn++H):=fun a _ G=>⟨e,Hn,B,a,G,rfl⟩
section
variable{F:Fence}{n:Nat}{P:Program}{Q:Exit->Act->A4->Prop}{a:Act}{w:A4}{b:Frame}{k:List Item}{cs:List Frame}
theorem Gg{c:Code}:step P (lone (b.atR a (.code (.scope c)::k)) cs w)= .next (lone (b.atR a (.code c:: .inScope c::k)) cs w):=
 step_lone_go (by simp [stepG,stepG.exec,Frame.atR])
theorem UA{c:Code}:step P (lone (b.atR a (.inScope c::k)) cs w)= .next (lone (b.atR a k) cs w):=
 step_lone_go (by simp [stepG,stepG.exec,Frame.atR])
theorem bD{c:Code}(h:c.wpIn F n P (Exit.noGoto Q) a w):(Code.scope c).wpIn F n P Q a w:=by
 intro b k cs X K U;have h0:(lone (b.atR a (.code (.scope c)::k)) cs w).fenced P F:=fenced_calm K U rfl
 obtain ⟨e,I,J,G,B⟩:=h b (.inScope c::k) cs X K U;cases e with
 |normal=>exact ⟨.normal,I,J,G,.head h0 Gg (StepsIn.trans B (.one (fenced_calm K U rfl) UA))⟩
 |exit id'=>
  have hx:exitTo id' (.inScope c::k)=exitTo id' k:=by simp [exitTo]
  exact ⟨.exit id',I,J,G,fun Z O=> .head h0 Gg (B.1 Z (by rw [hx];exact O)),
   fun W O=>let⟨k₁,h1,h2⟩:=B.2 W (by rw [hx];exact O);⟨k₁,h1,.head h0 Gg h2⟩⟩
 |goto l=>exact G.elim
 |ret=>exact ⟨_,I,J,G,.of_steps (.one h0 Gg) B⟩
 |panic ch=>exact ⟨_,I,J,G,.of_steps (.one h0 Gg) B⟩
 |outgrown=>exact ⟨_,I,J,G,.of_steps (.one h0 Gg) B⟩
end
section
variable{P:Program}{cx:Cx}{Q:Exit->Act->A4->Prop}{env:Env}{H:Hp}
theorem Tv{c:Code}(h:At P cx c (Exit.noGoto Q) env H):At P cx (.scope c) Q env H:=fun a w B=>bD (h a w B)
theorem KZ(h:Nx cx (Q .ret) env H):Nx cx (Exit.noGoto Q .ret) env H:=h
end
def WE{α:Type}(P:Program)(gf:FuncId)(lb:AM)(Hit Hk:Hp)(Enc:α->AM->List A8->Prop)(xs:List α):Prop:=
 ∀(l:Nat) (J:List α->List A8->Prop),(∀pre x post s vs sx,xs=pre++x::post->J pre s->Enc x vs sx->GG P l vs [sx,s] (fun v H'=>∃s',v= .bool true/\H'=[s']/\J (pre++[x]) s'))->
  ∀s,J [] s->BQ P gf (#[.func (.yield l) #[] #[]]++lb) (Hit++(Hk++[s])) (fun _ H'=>∃s',H'=Hk++[s']/\J xs s')
theorem Xd{α:Type}{P:Program}{cx:Cx}{Q:Exit->Act->A4->Prop}{env:Env}{H ax Hk H0 R:Hp}{g:Operand}{ps:Array Tmp}{G W:Code}{gf:FuncId}{lb:AM}{Enc:α->AM->List A8->Prop}{xs:List α}
 (I:List α->Hp->Prop)(E:α->AM->List A8->Env->Hp->Prop)(hr:cx.r=none)(hg:∀a,ev a env g= .func (.func gf) #[] lb)(Z:∀(args:AM) (w:A4),(callFunc gf args).run P w= .ok (.enter gf args) w)
 (af:WE P gf lb ax Hk Enc xs)(cu:∀x vs O,Enc x vs O->vs.size=ps.size)(bn:(ps.toList.all fun t=>Nat.blt t cx.N)=true)(hp:Ey (ax++(Hk++H0)) H R)(h0:I [] H0)
 (U:∀(l:Nat) (x:α) (vs:AM) (O:List A8) (u:A4) (H:Hp),Enc x vs O->At P ⟨cx.N,[],u,some l⟩ G (Exit.then (fun a w=>∃e Hn,E x vs O e Hn/\Is ⟨cx.N,[],u,some l⟩ (e++env) (Hn++H) a w) (fun _ _ _=>False)) ((ps.toList.zip vs.toList).reverse++env) H)
 (X:∀(l:Nat) (pre:List α) (x:α) (B:List α) (u:A4) (vs:AM) (O:List A8) (e:Env) (Hn H1 R1:Hp),xs=pre++x::B->I pre H1->Enc x vs O->E x vs O e Hn->At P ⟨cx.N,[],u,some l⟩ W (IV u I (pre++[x]) R1) (e++env) (H1++(O::(Hn++R1))))
 (hk:∀(D:Nat) (H2:Hp),I xs H2->Nx ⟨cx.N,⟨.collected D,#[]⟩::cx.D,cx.u,none⟩ (Q .normal) env ([(D,.deferred (some []))]::(Hk++(H2++R)))):At P cx (.rangeFunc g ps G W) Q env H:=
 Mh (A:=fun _ _=>True) (St:=False) (Adm:=fun p=>∃B,xs=p++B) (Full:=fun ys=>ys=xs) I (fun _ _=>False) E hr hg Z (fun l J Jx _ hX hy s h9=>(af l J (fun pre x B s vs O hx hj he u R w hs K Kp hK=>hy pre x s vs O ⟨B,by rw [hx,DG];rfl⟩ hj he u R w hs K Kp fun v H' w' ⟨s',h1,h2⟩ h4=>h2.elim (fun h=>hK v H' w' ⟨s',h.1,h1,h.2⟩ h4) fun h=>(hX _ _ h.2).elim) s h9).mono (by rintro v H' ⟨s',h1,h2⟩;exact ⟨s',h1,.inl ⟨xs,rfl,h2⟩⟩)) (fun _ _ h=>h) (fun _ _ _ _ _=>trivial) cu bn hp h0 U
  (fun l pre x u vs O e Hn H1 R1 r0 ⟨B,hx⟩ hI he hE=>Pd (X l pre x B u vs O e Hn H1 _ (by rw [hx,DG];rfl) hI he hE)) (fun D ys H2 hf hI=>by rw [hf]at hI;exact hk D H2 hI) fun _ _ _ h=>h.elim
section
variable{P:Program}{env:Env}{d:Option Nat}{ty:AK}{pos:String}{af:Array Edge}{g:Option (Nat×Bool)}
theorem Pq{x y:Operand}{Ts:Array AK}{k:IntKind}{m n:Int}(hx:∀a,ev a env x= .int k m)(hy:∀a,ev a env y= .int k n):OpP P ⟨d,.call ⟨.builtin .max,#[x,y],Ts⟩,ty,pos,af,g⟩ env [] (.int k (max m n)):=fun a w _=>by
 simp [E8,resolve,invoke,builtin,hx a,hy a,Builtin.max_,Builtin.max2];by_cases h:m<n;· simp [h,show max m n=n by omega]
 · simp [h,show max m n=m by omega]
theorem dz{x y:Operand}{Ts:Array AK}{k:IntKind}{m:Nat}(hx:∀a,ev a env x= .int k ((m:Int) -1))(hy:∀a,ev a env y= .int k 0):OpP P ⟨d,.call ⟨.builtin .max,#[x,y],Ts⟩,ty,pos,af,g⟩ env [] (.int k ((m -1:Nat):Int)):=by
 have h:=Pq (P:=P) (d:=d) (ty:=ty) (pos:=pos) (af:=af) (g:=g) (Ts:=Ts) hx hy;rwa [show max ((m:Int) -1) 0=((m -1:Nat):Int) by omega]at h
end
def FL(M:List A8)(p:B8)(ys:List A2):Prop:=∀(j:Nat) (u:A2),ys[j]?=some u->∃g o c T z,p=some ⟨g,o,none⟩/\(g,Obj.cells c T z)∈M/\c[o+j]?=some u
theorem One.mem9{s:List A8}{H R:Hp}(h:One s H R):∀c∈s,c∈H.flatten:=by
 intro c hc;have:=h.perm.mem_iff (a:=c)
 rw [this];simp [hc]
section
variable{P:Program}{u:A4}{env:Env}{H R R2:Hp}{d:Option Nat}{ty:AK}{pos:String}{af:Array Edge}{g:Option (Nat×Bool)}
theorem Gf{x y:Operand}{t e:AK}{i:TypeInfo}{z:A2}{by_ sz n k c:Nat}{v:A2}{p:B8}{xs ys:List A2}{s M:List A8}
 (ht:P.underlying t=some (.slice e))(hi:P.info? e=some i)(G:i.size=sz)(bn:i.bytes=by_)(gm:i.zero=some z)(ek:z.cells.size=sz)
 (hx:∀a,ev a env x=v)(B:BX sz e v n xs s)(hy:∀a,ev a env y= .slice p k c)(J:FL M p ys)(hl:ys.length=k*sz)(h0:0<sz)(I:One s H R)(Z:One M R R2)(h1:∀u∈ys,u.oneCell'=true)
 (ax:n+k<=maxLen)(hb:(n+k)*by_<=140737488355328):
 OpW P u ⟨d,.call ⟨.builtin .append,#[x,y],#[t,t]⟩,ty,pos,af,g⟩ env H (fun v' H1=>∃s',BX sz e v' (n+k) (xs++ys) s'/\H1=s'::R) (fun _ _=>False):=by
 rcases S3 k with hk|hk
 · subst hk
   have d9:ys=[]:=OR A0;subst d9;obtain ⟨b,c',rfl⟩:=B.form;have U:n<=c':=by
    obtain ⟨_,⟨hv,h0,_⟩|⟨_,_,_,_,hv,_,h2,_⟩⟩:=B;· omega
    · injection hv with _ _ hv3;omega
   intro a w X K Kp hK _;have cu:Sat u (s::R) w:=X.perm (by simpa using I.perm)
   have O:(Builtin.firstCells i.size 0 (.slice p 0 c)).run P w= .ok #[] w:=by
    cases p with
    |none=>simp [Builtin.firstCells]
    |some ad=>simp [Builtin.firstCells,loadCells,loadCellsFrom]
   have hr:(Builtin.append_ #[t,t] ty #[.slice b n c',.slice p 0 c]).run P w= .ok (.slice b n c') w:=by
    rw [G]at O;cases b with
    |none=>simp [Builtin.append_,run_underlying ht,Go.sizeOf,typeInfo,hi,G,Builtin.lenOf,U,O]
    |some ad=>simp [Builtin.append_,run_underlying ht,Go.sizeOf,typeInfo,hi,G,Builtin.lenOf,U,O,storeCells]
   have cO:(execOp (ev a env) ⟨d,.call ⟨.builtin .append,#[x,y],#[t,t]⟩,ty,pos,af,g⟩).run P w= .ok (.value (.slice b n c')) w:=by
    simp only [E8,resolve,invoke,builtin,Sx,F2,MY,hx a,hy a,Sem.run_bind,Sem.run_pure,Result.andThen_ok,hr]
   rw [cO];exact hK _ _ _ ⟨s,by rw [DQ];exact B,rfl⟩ cu
 · have W:0<ys.length:=by rw [hl];exact Nat.mul_pos hk h0
   obtain ⟨gb,o,_,_,_,rfl,_,_⟩:=J 0 _ (BE W);refine Ug ht hi G bn gm ek hx B hy I (fun w hs j v hj=>?_) hl h1 hk ax hb;obtain ⟨g',o',c1,T1,z1,e,hm,hc⟩:=J j v hj;injection e with e
   injection e with e1 e2
   subst e1 e2;rw [CW];exact Cn (hs.get _ (Z.mem9 _ hm)) hc
theorem OQ{sz:Nat}{e:AK}{g k cap:Nat}{cur:AM}{z:Nat×Nat}{xs:List A2}(h:BX sz e (I2 g k cap) k xs [(g,.cells cur e z)])(i:Nat)(v:A2):BX sz e (I2 g k cap) k (xs.set i v) [(g,.cells (cur.setIfInBounds i v) e z)]:=by
 obtain ⟨hl,⟨h0,_⟩|⟨g',X,Z,z',hv,hs,J,B,G,W,I⟩⟩:=h;· cases h0
 · injection hv with hv1 _ hv3
   injection hv1 with hv1
   injection hv1 with hv1
   subst hv3;simp only [kq,lA,Obj.cells.injEq,eM,cF]at hs;obtain ⟨K,O,U⟩:=hs;subst K O U;refine ⟨by rw [ee];exact hl,.inr ⟨g,cap,_,z,rfl,rfl,J,B,by rw [US];exact G,?_,by rw [US];exact I⟩⟩;rw [jz,<-W,List.take_set]
end
theorem GN{c:AM}{i:Nat}{ys:List A2}(h:i+ys.length<=c.size):(EP c i ys).size=c.size:=by
 unfold EP;simp only [Hb,C2,Cl,D0,V1];omega
theorem EU{sz:Nat}{e:AK}{g k cap:Nat}{cur:AM}{z:Nat×Nat}{xs ys:List A2}{i:Nat}(h:BX sz e (I2 g k cap) k xs [(g,.cells cur e z)])(hi:i+ys.length<=xs.length):
 BX sz e (I2 g k cap) k (xs.take i++ys++xs.drop (i+ys.length)) [(g,.cells (EP cur i ys) e z)]:=by
 obtain ⟨hl,⟨G,_⟩|⟨g',U,W,z',G,h2,I,J,B,O,K⟩⟩:=h;· injection G with G;cases G
 injection G with h3 _ h4
 injection h3 with h3
 injection h3 with h3
 injection h2 with h2 _
 injection h2 with _ h2
 injection h2 with h5 _ h6
 subst h3 h4 h5 h6;have X:k*sz<=cap*sz:=W5 sz I
 have Z:cur.toList.length=cap*sz:=by rw [V1,B]
 have e1:cur.toList=xs++cur.toList.drop (k*sz):=by rw [<-O,MA]
 refine ⟨?_,.inr ⟨g,cap,_,z,V,V,I,J,?_,?_,?_⟩⟩;· simp only [C2,Cl,D0];omega
 · rw [GN (by rw [B];omega),B]
 · show(EP cur i ys).toList.take (k*sz)=_
   unfold EP;show(cur.toList.take i++ys++cur.toList.drop (i+ys.length)).take (k*sz)=_
   have t1:cur.toList.take i=xs.take i:=by
    conv=>lhs;rw [e1]
    exact de A0
   have t2:cur.toList.drop (i+ys.length)=xs.drop (i+ys.length)++cur.toList.drop (k*sz):=by
    conv=>lhs;rw [e1]
    exact jx A0
   rw [t1,t2,<-DG];refine It ?_;simp only [C2,Cl,D0];omega
 · show Gc z (EP cur i ys).size
   rw [GN (by rw [B];omega)];exact K
theorem V6{sz:Nat}{e:AK}{g k cap:Nat}{xs:List A2}{s:List A8}(h:BX sz e (I2 g k cap) k xs s)(i:Nat)(hi:i<=k):BX sz e (I2 g i cap) i (xs.take (i*sz)) s:=by
 obtain ⟨hl,⟨G,_⟩|⟨g',U,B,Z,G,rfl,X,I,J,O,K⟩⟩:=h;· injection G with G;cases G
 injection G with h3 _ h4
 injection h3 with h3
 injection h3 with h3
 subst h3 h4;have W:i*sz<=k*sz:=W5 sz hi
 refine ⟨by rw [Cl];omega,.inr ⟨g,cap,B,Z,rfl,rfl,by omega,I,J,?_,K⟩⟩;rw [<-O,WD,S7 W]
theorem JQ{sz:Nat}{e:AK}{g k cap:Nat}{cur:AM}{z:Nat×Nat}{xs:List A2}(h:BX sz e (I2 g k cap) k xs [(g,.cells cur e z)]):Bv cur 0 xs/\cur.size=cap*sz/\k<=cap/\cap<=maxLen/\Gc z cur.size:=by
 obtain ⟨X,⟨B,_⟩|⟨Z,U,W,z',B,h2,K,G,I,O,J⟩⟩:=h;· injection B with B;cases B
 injection B with h3 _ h4
 injection h2 with h2 _
 injection h2 with _ h2
 injection h2 with h5 _ h6
 subst h4 h5 h6;exact ⟨by unfold Bv;rw [S8,X];exact O,I,K,G,J⟩
theorem V5{sz:Nat}{e:AK}{g k cap:Nat}{cur:AM}{z:Nat×Nat}{xs:List A2}(h:BX sz e (I2 g k cap) k xs [(g,.cells cur e z)])(m:Nat)(Z:k<=m)(I:m<=cap):∃ys,ys.length=(m -k)*sz/\BX sz e (I2 g m cap) m (xs++ys) [(g,.cells cur e z)]:=by
 obtain ⟨G,B,W,J,K⟩:=JQ h;have U:=h.1
 have X:m*sz<=cap*sz:=W5 sz I;have h2:k*sz+(m -k)*sz=m*sz:=by rw [<-N0];congr 1;omega
 unfold Bv at G;rw [S8,U]at G;refine ⟨(cur.toList.drop (k*sz)).take ((m -k)*sz),by rw [Cl,D0,V1,B];omega,?_,.inr ⟨g,cap,cur,z,rfl,rfl,I,J,B,?_,K⟩⟩
 · have O:cur.toList.length=cap*sz:=by rw [V1,B]
   rw [C2,Cl,D0,O,U];omega
 · conv=>rhs;rw [<-G]
   rw [<-h2,List.take_add]
theorem Ir{c:AM}{o:Nat}{xs:List A2}(h:Bv c o xs)(i m:Nat)(B:i+m<=xs.length):Bv c (o+i) ((xs.drop i).take m):=by
 unfold Bv at*;rw [Cl,D0,S7 A0];conv=>rhs;rw [<-h]
 rw [gn,WD,S7 A0,cS]
theorem RG(z:A2)(m:Nat)(h:∀u∈z.cells.toList,u.oneCell'=true):∀y∈(Builtin.zeroCells z.cells m).toList,y.oneCell'=true:=by
 intro y hy;simp only [Builtin.zeroCells,q5,Array.mem_map,Array.mem_range]at hy;obtain ⟨j,I,rfl⟩:=hy;refine h _ ?_;have G:0<z.cells.size:=by
  rcases S3 z.cells.size with h9|h9
  · rw [h9]at I;omega
  · exact h9
 have B:j%z.cells.size<z.cells.size:=hY _ G;rw [getElem!_pos z.cells (j%z.cells.size) B];exact q5.2 (Array.getElem_mem B)
section
variable{P:Program}{u:A4}{env:Env}{H H' R R2:Hp}{d:Option Nat}{ty:AK}{pos:String}{af:Array Edge}{g:Option (Nat×Bool)}
theorem JM{x y:Operand}{dT sT e:AK}{sz b o n cap Z o' n' G:Nat}{c c1:AM}{T T1:AK}{z z1:Nat×Nat}{cs:List A2}
 (hu:P.underlying dT=some (.slice e))(hs:∀w:A4,(Go.sizeOf e).run P w= .ok sz w)(hx:∀a,ev a env x= .slice (some ⟨b,o,none⟩) n cap)(hy:∀a,ev a env y= .slice (some ⟨Z,o',none⟩) n' G)
 (W:Has Z (.cells c1 T1 z1) H)(O:One [(b,.cells c T z)] H R)(bn:Bv c1 o' cs)(hn:cs.length=min n' n*sz)(I:o+cs.length<=c.size)(hz:Gc z c.size)(h1:∀v∈cs,v.oneCell'=true):
 OpW P u ⟨d,.call ⟨.builtin .copy,#[x,y],#[dT,sT]⟩,ty,pos,af,g⟩ env H (fun v H1=>v=I0 ((min n' n:Nat):Int)/\H1=[(b,.cells (EP c o cs) T z)]::R) (fun _ _=>False):=fun a w B K Kp hK _=>by
 have U:Sat u ([(b,.cells c T z)]::R) w:=B.perm (by simpa using O.perm);have hb:=U.get (b,.cells c T z) (by simp)
 have ax:=B.get _ W.mem;have hl:=run_loadCells_list (P:=P) w ⟨Z,o',none⟩ cs (H7 ax bn)
 rw [hn]at hl;have X:=Ci (P:=P) b o T z cs 0 c w hb hz (by simpa using I) h1
 simp only [Pu]at X;have J:Nat.min n' n=min n' n:=rfl
 have:(execOp (ev a env) ⟨d,.call ⟨.builtin .copy,#[x,y],#[dT,sT]⟩,ty,pos,af,g⟩).run P w= .ok (.value (I0 ((min n' n:Nat):Int))) (w.setRow b (EP c o cs)):=by
  simp [E8,resolve,invoke,builtin,hx a,hy a,Builtin.copy_,run_underlying hu,Builtin.lenOf,Builtin.firstCells,hs,J,hl,X,EP,goInt]
 rw [this];exact hK _ _ _ ⟨V,V⟩ (U.upd (.here _) V rfl V (setRow_heap w b c _ T z hb) fun k hk=>setRow_other w b k _ hk)
theorem Ku{x y:Operand}{t ti e T:AK}{i:TypeInfo}{z:A2}{by_ sz k m cap gb:Nat}{cur:AM}{zz:Nat×Nat}{xs:List A2}
 (ht:P.underlying t=some (.slice e))(d9:P.underlying ti=some (.int .i64))(hi:P.info? e=some i)(cO:i.size=sz)(O:i.bytes=by_)(ek:i.zero=some z)(Z:z.cells.size=sz)
 (hx:∀a,ev a env x=I2 gb k cap)(hy:∀a,ev a env y=I0 (m:Int))(W:Has gb (.cells cur T zz) H)(cu:Bv cur 0 xs)(J:xs.length=k*sz)(h0:0<m)(ic:0<sz)(hg:cap<k+m)(ax:k+m<=maxLen)(hb:(k+m)*by_<=140737488355328):
 OpW P u ⟨d,.call ⟨.builtin .append,#[x,y],#[t,ti]⟩,ty,pos,af,g⟩ env H (fun v' H1=>∃s',BX sz e v' (k+m) (xs++(Builtin.zeroCells z.cells m).toList) s'/\H1=s'::H) (fun _ _=>False):=fun a w I K Kp hK _=>by
 have gy:=mL;have hl:=run_loadCells_list (P:=P) w.drew ⟨gb,0,none⟩ xs (H7 (I.drew.get _ W.mem) cu)
 rw [J]at hl;have X:(Builtin.firstCells i.size k (I2 gb k cap)).run P w.drew= .ok xs.toArray w.drew:=by
  rw [cO];simp [Builtin.firstCells,hl]
 have gq:m*by_<=(k+m)*by_:=W5 _ A0;have hr:=Lib.run_append_grow_zeros (P:=P) w t ti ty e i z .i64 .i64 ht d9 hi ek (some ⟨gb,0,none⟩) k cap xs X m h0 A0 hg A0 (by rw [O];omega) (growslice_fits A0 (by rw [O];exact hb))
 have B:∀{v':A2} {w':A4},(Builtin.append_ #[t,ti] ty #[I2 gb k cap,I0 (m:Int)]).run P w= .ok v' w'->(execOp (ev a env) ⟨d,.call ⟨.builtin .append,#[x,y],#[t,ti]⟩,ty,pos,af,g⟩).run P w= .ok (.value v') w':=fun h=>by
  simp only [E8,resolve,invoke,builtin,Sx,F2,MY,hx a,hy a,Sem.run_bind,Sem.run_pure,Result.andThen_ok,h]
 rw [B hr];have bn:=grownCap_ge w (k+m) cap e
 have U:grownCap w (k+m) cap e<=maxLen:=grownCap_le_maxLen w (k+m) cap e ax;have G:(xs++(Builtin.zeroCells z.cells m).toList).length=(k+m)*sz:=by
  have gm:(Builtin.zeroCells z.cells m).toList.length=m*sz:=by rw [V1,size_zeroCells,Z]
  rw [C2,gm,J,N0]
 refine hK _ _ _ ⟨[(w.heap.size,.cells (xs.toArray++Builtin.zeroCells z.cells m++Builtin.zeroCells z.cells (grownCap w (k+m) cap e -(k+m))) e (0,0))],⟨G,.inr ⟨w.heap.size,grownCap w (k+m) cap e,_,(0,0),V,V,bn,U,?_,?_,BA _⟩⟩,V⟩ (I.drew.alloc _)
 · simp only [kf,size_zeroCells,Z,Hb,J]
   rw [<-N0,<-N0];congr 1;omega
 · simp only [dp]
   exact It G
theorem O4{x:Operand}{t e:AK}{i:TypeInfo}{z:A2}{sz gb k cap m c:Nat}{cur:AM}{T:AK}{zz:Nat×Nat}
 (ht:P.underlying t=some (.slice e))(hi:P.info? e=some i)(bn:i.zero=some z)(ax:z.cells.size=sz)(cO:∀u∈z.cells.toList,u.oneCell'=true)
 (hx:∀a,ev a env x= .slice (Eb (some ⟨gb,0,none⟩) k cap sz) m c)(hm:k+m<=cap)(W:cur.size=cap*sz)(X:Gc zz cur.size)(J:One [(gb,.cells cur T zz)] H R):
 OpW P u ⟨d,.call ⟨.builtin .clear,#[x],#[t]⟩,ty,pos,af,g⟩ env H (fun _ H1=>H1=[(gb,.cells (EP cur (k*sz) (Builtin.zeroCells z.cells m).toList) T zz)]::R) (fun _ _=>False):=fun a w O K Kp hK _=>by
 have G:Sat u ([(gb,.cells cur T zz)]::R) w:=O.perm (by simpa using J.perm);have B:∀{v':A2} {w':A4},(Builtin.clear_ #[t] ty #[.slice (Eb (some ⟨gb,0,none⟩) k cap sz) m c]).run P w= .ok v' w'->(execOp (ev a env) ⟨d,.call ⟨.builtin .clear,#[x],#[t]⟩,ty,pos,af,g⟩).run P w= .ok (.value v') w':=fun h=>by
  simp only [E8,resolve,invoke,builtin,Sx,F2,MY,hx a,Sem.run_bind,Sem.run_pure,Result.andThen_ok,h]
 rcases S3 m with h0|h0
 · subst h0
   have hr:(Builtin.clear_ #[t] ty #[.slice (Eb (some ⟨gb,0,none⟩) k cap sz) 0 c]).run P w= .ok (.tuple #[]) w:=by
    have:∃q,Eb (some ⟨gb,0,none⟩) k cap sz=some q:=by unfold Eb;split<;>exact ⟨_,rfl⟩
    obtain ⟨q,Z⟩:=this;rw [Z];simp [Builtin.clear_,run_underlying ht]
   rw [B hr];refine hK _ _ _ V ?_;have:(Builtin.zeroCells z.cells 0).toList=[]:=OR (by rw [V1,size_zeroCells];simp)
   rw [this,rP];exact G
 · have Z:Eb (some ⟨gb,0,none⟩) k cap sz=some ⟨gb,k*sz,none⟩:=by
    unfold Eb;rw [As A0,Pr,CW,DP]
   have hg:=G.get (gb,.cells cur T zz) B6;have cu:(Builtin.zeroCells z.cells m).toList.length=m*sz:=by rw [V1,size_zeroCells,ax]
   have I:∀y∈(Builtin.zeroCells z.cells m).toList,y.oneCell'=true:=RG z m cO;have d9:k*sz+m*sz<=cap*sz:=by rw [<-N0];exact W5 _ hm
   have U:=Ci (P:=P) gb (k*sz) T zz (Builtin.zeroCells z.cells m).toList 0 cur w hg X (by rw [cu,W];omega) I;have hr:(Builtin.clear_ #[t] ty #[.slice (Eb (some ⟨gb,0,none⟩) k cap sz) m c]).run P w= .ok (.tuple #[]) (w.setRow gb (EP cur (k*sz) (Builtin.zeroCells z.cells m).toList)):=by
    rw [Z];obtain ⟨m',rfl⟩:∃m',m=m'+1:=⟨m -1,by omega⟩;simp [Builtin.clear_,run_underlying ht,UB hi bn,EP]at U⊢;simp [U]
   rw [B hr];exact hK _ _ _ V (G.upd (.here _) V rfl V (setRow_heap w gb cur _ T zz hg) fun k hk=>setRow_other w gb k _ hk)
theorem Bo{t e:AK}{x lo:Operand}{b o n cap l sz:Nat}{K:IntKind}(J:P.underlying t=some (.slice e))(I:∀w:A4,(Go.sizeOf e).run P w= .ok sz w)(hx:∀a,ev a env x= .slice (some ⟨b,o,none⟩) n cap)(G:∀a,ev a env lo= .int K (l:Int))(B:l<=n)(h2:l<cap):
 OpP P ⟨d,.slice t x (some lo) none none,ty,pos,af,g⟩ env [] (.slice (some ⟨b,o+l*sz,none⟩) (n -l) (cap -l)):=by
 have h:=Bw (d:=d) (ty:=ty) (pos:=pos) (af:=af) (g:=g) J I hx G B;have e1:Eb (some ⟨b,o,none⟩) l cap sz=some ⟨b,o+l*sz,none⟩:=by
  unfold Eb;rw [As A0,Pr,CW]
 rwa [e1]at h
theorem YH{t ty b j s1 s2:Nat}{fn:Func}{v x y:A2}(G:fn.results=#[.cell t ty,.tmp s1,.tmp s2]){w:A4}{tmps:AM}(hx:tmps.getD t undef= .pointer (some ⟨b,j,none⟩))(B:(loadVar ty ⟨b,j,none⟩).run P w= .ok v w)(hy:tmps.getD s1 undef=x)(hz:tmps.getD s2 undef=y):(results fn tmps).run P w= .ok (.tuple #[v,x,y]) w:=by
 rw [NX]at hx hy hz;simp [results,G,hx,hy,hz,asAddr,B]
theorem MW{e:Exit}{N:Nat}{r:Option Nat}{fn:Func}{Q:A2->Hp->Prop}{Pn:List PanicEntry->Hp->Prop}{H':Hp}{t ty b j s1 s2:Nat}{v x y:A2}{o:Obj}(I:Fa e=true)(U:fn.results=#[.cell t ty,.tmp s1,.tmp s2])(hv:∀a,GA a env t= .pointer (some ⟨b,j,none⟩))(G:Has b o H)(J:∀w:A4,w.heap[b]?=some o->(loadVar ty ⟨b,j,none⟩).run P w= .ok v w)(hx:∀a,GA a env s1=x)(hy:∀a,GA a env s2=y)(O:Q (.tuple #[v,x,y]) H')(K:Sub (H'++R) H:=by repeat(first|exact Sub.refl _|exact Sub.nil _|(apply Sub.cons;(focus (repeat(first|exact One.here _ _|apply One.there))))|refine Sub.drop _ ?_)):Nx ⟨N,[],u,r⟩ (bodyPost P fn (GV u R Q Pn) e) env H:=
 Li I (fun a w B=>YH U (by rw [Ca a env (by rw [B.size];exact B.fit),hv a]) (J w (B.sat.get _ G.mem)) (by rw [Ca a env (by rw [B.size];exact B.fit),hx a]) (by rw [Ca a env (by rw [B.size];exact B.fit),hy a])) O K
theorem Ws{t s q k:Nat}{fn:Func}(B:fn.results=#[.tmp t,.tmp s,.tmp q,.tmp k])(w:A4)(tmps:AM):(results fn tmps).run P w= .ok (.tuple #[tmps.getD t undef,tmps.getD s undef,tmps.getD q undef,tmps.getD k undef]) w:=by simp [results,B]
theorem iw{e:Exit}{N:Nat}{r:Option Nat}{fn:Func}{Q:A2->Hp->Prop}{Pn:List PanicEntry->Hp->Prop}{H':Hp}{t s q k:Nat}{v x y z:A2}(G:Fa e=true)(K:fn.results=#[.tmp t,.tmp s,.tmp q,.tmp k])(hv:∀a,GA a env t=v)(hx:∀a,GA a env s=x)(hy:∀a,GA a env q=y)(hz:∀a,GA a env k=z)(J:Q (.tuple #[v,x,y,z]) H')(I:Sub (H'++R) H:=by repeat(first|exact Sub.refl _|exact Sub.nil _|(apply Sub.cons;(focus (repeat(first|exact One.here _ _|apply One.there))))|refine Sub.drop _ ?_)):Nx ⟨N,[],u,r⟩ (bodyPost P fn (GV u R Q Pn) e) env H:=
 Li G (fun a w B=>by rw [Ws K,Ca a env (by rw [B.size];exact B.fit),Ca a env (by rw [B.size];exact B.fit),Ca a env (by rw [B.size];exact B.fit),Ca a env (by rw [B.size];exact B.fit),hv a,hx a,hy a,hz a]) J I
theorem Sg{f:FuncId}{fn:Func}{ax:Array Operand}{ats:Array AK}{tS tR e:AK}{size a b oa ob la ca lb cb:Nat}{xa xb:AM}{Ta Tb:AK}{zb:Nat×Nat}
 (hf:P.funcs[f]?=some fn)(hname:(fn.name== "runtime.NumGoroutine")=false)(hb:fn.body.isNone=true)(hn:Extern.findNext fn=none)(he:Extern.find fn=some (Extern.SlicesOverlaps.overlaps #[tS,tS] #[tR]))
 (ht:P.underlying tS=some (.slice e))(hz:∀w:A4,(Go.sizeOf e).run P w= .ok size w)(ha:∀c,ax.toList.map (ev c env)=[.slice (some ⟨a,oa,none⟩) la ca,.slice (some ⟨b,ob,none⟩) lb cb])(hne:a≠b)(hk:xb.size≠0):
 OpP P ⟨d,.call ⟨.value (.func f),ax,ats⟩,ty,pos,af,g⟩ env [(a,.cells xa Ta (0,0)),(b,.cells xb Tb zb)] (.bool false):=fun c w hs=>by
 have g1:=hs (a,.cells xa Ta (0,0)) (by simp);have g2:=hs (b,.cells xb Tb zb) (by simp)
 have h1:ax.map (ev c env)=#[.slice (some ⟨a,oa,none⟩) la ca,.slice (some ⟨b,ob,none⟩) lb cb]:=by
  have:=JB (ev c env) ax;rw [this,ha c]
 have h2:=run_callFunc_extern hf hname hb hn he #[.slice (some ⟨a,oa,none⟩) la ca,.slice (some ⟨b,ob,none⟩) lb cb] w;rw [Lib.run_overlaps_apart w tS tR e ht size hz ⟨a,oa,none⟩ ⟨b,ob,none⟩ la ca lb cb hne Ta Tb xa.size xb.size (by simp [World.shape?,g1]) (by simp [World.shape?,g2]) hk (by simp [World.frozen?,g1]) (by simp [World.frozen?,g1])]at h2;have h3:ev c env (.func f)= .func (.func f) #[] #[]:=rfl
 simp [E8,resolve,h3,Deferred.ofValue,invoke,h1,h2,Result.andThen]
end
section
variable{α:Type}{κ:α->A2}{D:α->Prop}{P:Program}{es:Array MapEntry}{clock r:Nat}{l:List (α×A2)}{kt et:AK}
variable{u:A4}{env:Env}{H R:Hp}{d:Option Nat}{ty:AK}{pos:String}{af:Array Edge}{g:Option (Nat×Bool)}{t:AK}{m x y:Operand}{k:α}{v:A2}
theorem EI(W:Fw P kt κ D)(ht:P.underlying t=some (.map kt et))(hm:Ck κ es clock l)(Z:∀p∈l,D p.1)(X:D k)(hx:∀a,ev a env m= .map (some r))(hy:∀a,ev a env x=κ k)(hv:∀a,ev a env y=v)(I:One [(r,.map es clock)] H R):
 OpW P u ⟨d,.insert t m x y,ty,pos,af,g⟩ env H (fun v' H1=>v'=undef/\∃G B O,Ck κ G B O/\(∀p,p∈O↔p=(k,v)\/(p∈l/\p.1≠k))/\H1=[(r,.map G B)]::R) (fun _ _=>False):=fun a w hs K U J hp=>
 FD (d:=d) (ty:=ty) (pos:=pos) (af:=af) (g:=g) W ht hm Z X hx hy hv I a w hs K U J hp
theorem De [DecidableEq α]{et:AK}{z v0:A2}(G:Fw P kt κ D)(O:P.underlying t=some (.map kt et))(hz:∀w:A4,(zeroValue et).run P w= .ok z w)(K:Ck κ es clock l)(U:∀p∈l,D p.1)(I:D k)(hv:(EL k l).getD z=v0)(hx:∀a,ev a env m= .map (some r))(hy:∀a,ev a env x=κ k):
 OpP P ⟨d,.lookup t m x false,ty,pos,af,g⟩ env [(r,.map es clock)] v0:=fun a w W=>by
 have J:=W (r,.map es clock) B6;show((do pure (Next.value (<-Instr.lookup t (ev a env m) (ev a env x) false))):Sem Next).run P w=_
 rw [hx a,hy a,<-hv];rcases I4 G K U w k I with⟨B,h2⟩|⟨j,v,B,h2⟩
 · rw [DN h2]
   simp only [Instr.lookup,Sem.run_bind,run_underlying O,Result.andThen,MapKept.run_getObj_map J,F6 G I,Sem.run_pure,B,hz];rfl
 · rw [Cw K.keys (E7 h2)]
   simp only [Instr.lookup,Sem.run_bind,run_underlying O,Result.andThen,MapKept.run_getObj_map J,F6 G I,Sem.run_pure,B];rfl
theorem NU{d:Nat}{x y:Operand}{t yt e:AK}{p:B8}(B:P.underlying t=some (.pointer e))(hx:∀a,ev a env x= .pointer p)(hy:∀a,ev a env y= .pointer none):OpP P ⟨some d,.binOp .eql t x y yt,ty,pos,af,g⟩ env [] (.bool p.isNone):=by
 cases p with
 |none=>exact DD B hx hy
 |some a=>exact BZ B hx hy
theorem Fp{d:Nat}{x y:Operand}{t yt e:AK}{p:B8}(B:P.underlying t=some (.pointer e))(hx:∀a,ev a env x= .pointer p)(hy:∀a,ev a env y= .pointer none):OpP P ⟨some d,.binOp .neq t x y yt,ty,pos,af,g⟩ env [] (.bool p.isSome):=by
 cases p with
 |none=>exact Jl B hx hy
 |some a=>exact N8 B hx hy
theorem D9{c cs:AM}(h:cs.size=c.size):EP c 0 cs.toList=cs:=by
 rw [Ye c cs.toList (by simpa using h)]
theorem Au{c:AM}{n:Nat}(h:c.size=n):c.extract 0 (0+n)=c:=by
 subst h;simp
end
section
variable{P:Program}{u:A4}{env:Env}{H R:Hp}{d:Option Nat}{ty:AK}{pos:String}{af:Array Edge}{g:Option (Nat×Bool)}
theorem O5{x y:Operand}{t su e:AK}{i:TypeInfo}{z:A2}{by_:Nat}{v:A2}{xs:List A2}{s:List A8}{l:List UInt8}
 (ht:P.underlying t=some (.slice e))(ax:P.underlying su=some .string)(hi:P.info? e=some i)(gy:i.size=1)(bn:i.bytes=by_)(j3:i.zero=some z)(l5:z.oneCell'=true)
 (hx:∀a,ev a env x=v)(d9:Row e v xs s)(hy:∀a,ev a env y= .string (str l))(cu:One s H R)
 (hm:0<l.length)(U:xs.length+l.length<=maxLen)(hb:(xs.length+l.length)*by_<=140737488355328):
 OpW P u ⟨d,.call ⟨.builtin .append,#[x,y],#[t,su]⟩,ty,pos,af,g⟩ env H (fun v' H1=>∃s',Row e v' (xs++l.map u8v) s'/\H1=s'::R) (fun _ _=>False):=fun a w ek K Kp hK _=>by
 have Z:Sat u (s::R) w:=ek.perm (by simpa using cu.perm);have kv:Sat u R w:=Z.sub ⟨s,by simp only [Cp];exact OS⟩
 have ic:z.cells=#[z]:=by cases z<;>first|rfl|simp [Value.oneCell']at l5
 have l8:=mL;have G:(str l).size=l.length:=by simp [str,ByteArray.size]
 have gm:Lib.strCells (str l)=l.map u8v:=by simp only [Lib.strCells,str];rfl
 have hl:(l.map u8v).length=l.length:=Bm ..;have B:∀{v':A2} {w':A4},(Builtin.append_ #[t,su] ty #[v,.string (str l)]).run P w= .ok v' w'->(execOp (ev a env) ⟨d,.call ⟨.builtin .append,#[x,y],#[t,su]⟩,ty,pos,af,g⟩).run P w= .ok (.value v') w':=fun h=>by
  simp only [E8,resolve,invoke,builtin,Sx,F2,MY,hx a,hy a,Sem.run_bind,Sem.run_pure,Result.andThen_ok,h]
 have I:∀(n cap:Nat) (cells:AM) (w1:A4),w1={w with drawn:=n,heap:=w.heap.push (.cells cells e)}->Sat u ([(w.heap.size,.cells cells e (0,0))]::R) w1:=fun n cap cells w1 h=>by
  subst h;exact (kv.drawn n).alloc _
 rcases d9 with⟨rfl,rfl,rfl⟩|⟨gb,cap,cur,zz,rfl,rfl,hle,hcm,hcs,htk,hfr⟩
 · have hr:=run_append_nil_string (P:=P) w t su ty e i z ht ax hi j3 (str l) (by omega) (by rw [G];simp only [Mp,DP]at U;omega) (by rw [bn,G];simp only [Mp,DP]at hb;omega)
   rw [B hr,G];have W:=grownCap_ge w l.length 0 e
   have J:grownCap w l.length 0 e<=maxLen:=grownCap_le_maxLen w l.length 0 e (by simpa using U);refine hK _ _ _ ⟨[(w.heap.size,.cells ((str l).data.map (fun b=>Value.int .u8 b.toNat)++Builtin.zeroCells z.cells (grownCap w l.length 0 e -l.length)) e (0,0))],.inr ⟨w.heap.size,grownCap w l.length 0 e,_,(0,0),?_,rfl,?_,J,?_,?_,BA _⟩,rfl⟩ (I _ 0 _ _ rfl);· simp
   · simpa using W
   · simp [size_zeroCells,ic,str];omega
   · have:((str l).data.map (fun b=>Value.int .u8 b.toNat)).toList=l.map u8v:=by rw [Array.toList_map];rfl
     simp only [Mu,dp,this];exact It rfl
 · have hg:=Z.get (gb,.cells cur e zz) (by simp)
   by_cases O:xs.length+l.length<=cap
   · have hf:=Lib.run_firstCells_string (P:=P) w 1 (str l)
     rw [G,gm]at hf;have gq:=Ci (P:=P) gb xs.length e zz (l.map u8v) 0 cur w hg hfr (by rw [hl,hcs];omega) (ng l)
     simp only [Pu]at gq;have hr:(Builtin.append_ #[t,su] ty #[I2 gb xs.length cap,.string (str l)]).run P w= .ok (I2 gb (xs.length+l.length) cap) (w.setRow gb (EP cur xs.length (l.map u8v))):=by
      simp [Builtin.append_,run_underlying ht,run_underlying ax,Go.sizeOf,typeInfo,hi,gy,Builtin.lenOf,G,O,hf,CW,gq,EP]
     rw [B hr];have cO:(EP cur xs.length (l.map u8v)).size=cap:=by
      unfold EP;simp;omega
     refine hK _ _ _ ⟨[(gb,.cells (EP cur xs.length (l.map u8v)) e zz)],.inr ⟨gb,cap,_,zz,by simp,rfl,by simpa using O,hcm,cO,?_,by rw [cO,<-hcs];exact hfr⟩,rfl⟩
      (Z.upd (.here _) rfl rfl rfl (setRow_heap w gb cur _ e zz hg) fun k hk=>setRow_other w gb k _ hk)
     unfold EP;rw [htk];simp only [DG];rw [<-DG];exact It B6
   · have X:∀j v,xs[j]?=some v->w.cell? ((⟨gb,0,none⟩:Addr).add j)=some v:=fun j v hj=>by
      rw [CW];refine Cn hg ?_;have j5:j<xs.length:=(C6.1 hj).1
      have:(cur.toList.take xs.length)[j]?=some v:=by rw [htk];exact hj
      rw [HU,B0 j5]at this;simpa using this
     have hr:=Lib.run_append_grow_string (P:=P) w t su ty e i z ht ax hi j3 ⟨gb,0,none⟩ xs.length cap xs (by rw [gy];omega) X (str l) A0 A0 (growslice_fits A0 (by rw [bn,G];exact hb));rw [B hr,G,gm];have W:=grownCap_ge w (xs.length+l.length) cap e
     have J:grownCap w (xs.length+l.length) cap e<=maxLen:=grownCap_le_maxLen w (xs.length+l.length) cap e U;refine hK _ _ _ ⟨[(w.heap.size,.cells (xs.toArray++(l.map u8v).toArray++Builtin.zeroCells z.cells (grownCap w (xs.length+l.length) cap e -(xs.length+l.length))) e (0,0))],.inr ⟨w.heap.size,grownCap w (xs.length+l.length) cap e,_,(0,0),?_,V,?_,J,?_,?_,BA _⟩,V⟩ (I _ 0 _ _ V);· simp
     · simpa using W
     · simp [size_zeroCells,ic];omega
     · simp only [dp]
       exact It B6
theorem Yc{s t q e:AK}{x:Operand}{j:TypeInfo}{b:Nat}{c:AM}{z:Nat×Nat}(O:P.underlying s=some (.pointer q))(I:P.underlying t=some .unsafePointer)(K:P.info? q=some j)(J:j.size≠0)(hc:0<c.size)(hx:∀a,ev a env x=I1 b):
 OpP P ⟨d,.convert s t x,ty,pos,af,g⟩ env [(b,.cells c e z)] (I1 b):=fun a w h=>by
 have G:=h (b,.cells c e z) B6;have B:w.shape? b=some (e,c.size):=by simp [World.shape?,G]
 have:=Lib.run_to_unsafe (P:=P) (w:=w) ⟨b,0,none⟩ O I K J B hc;simp [Jp,hx a,this]
theorem UL{s t q e:AK}{x:Operand}{j:TypeInfo}{b:Nat}{c:AM}{z:Nat×Nat}(O:P.underlying s=some .unsafePointer)(I:P.underlying t=some (.pointer q))(K:P.info? q=some j)(J:liesAt P P.depth e (c.size/P.cellsOf e) 0 q 1=true)(hx:∀a,ev a env x=I1 b):
 OpP P ⟨d,.convert s t x,ty,pos,af,g⟩ env [(b,.cells c e z)] (I1 b):=fun a w h=>by
 have G:=h (b,.cells c e z) B6;have B:w.shape? b=some (e,c.size):=by simp [World.shape?,G]
 have:=Lib.run_from_unsafe (P:=P) (w:=w) ⟨b,0,none⟩ O I K B J;simp [Jp,hx a,this]
theorem Si{t q:AK}{x y:Operand}{yt:AK}{j:TypeInfo}{p:Addr}(G:P.underlying t=some (.pointer q))(B:P.info? q=some j)(hx:∀a,ev a env x= .pointer (some p))(hy:∀a,ev a env y= .pointer (some p)):
 OpP P ⟨d,.binOp .neq t x y yt,ty,pos,af,g⟩ env [] (.bool false):=fun a w _=>by
 have:=Lib.run_neq_ptr_same (P:=P) w p G B;simp [Cm,hx a,hy a,eqGuard,this]
theorem rJ{f:FuncId}{fn:Func}{e:AM→Sem A2}{ax:Array Operand}{ats:Array AK}{vs:List A2}{v:A2}(hf:P.funcs[f]?=some fn)(hname:(fn.name== "runtime.NumGoroutine")=false)(hb:fn.body.isNone=true)(hn:Extern.findNext fn=none)(he:Extern.find fn=some e)
 (ha:∀a,ax.toList.map (ev a env)=vs)(hr:∀w:A4,(e vs.toArray).run P w= .ok v w):
 OpP P ⟨d,.call ⟨.value (.func f),ax,ats⟩,ty,pos,af,g⟩ env [] v:=fun a w _=>by
 have h1:ax.map (ev a env)=vs.toArray:=by rw [<-ha a];exact JB _ ax
 have h2:=run_callFunc_extern hf hname hb hn he vs.toArray w;rw [hr w]at h2;have h3:ev a env (.func f)= .func (.func f) #[] #[]:=rfl
 simp [E8,resolve,h3,Deferred.ofValue,invoke,h1,h2,Result.andThen]
theorem Xn{t:AK}{x:Operand}{p:Addr}{n c:Nat}(hx:∀a,ev a env x= .slice (some p) n c)(hc:c≠0):
 OpW P u ⟨d,.call ⟨.builtin .unsafeSliceData,#[x],#[t]⟩,ty,pos,af,g⟩ env H (fun v H1=>v= .pointer (some p)/\H1=H) (fun _ _=>False):=fun a w B K I G _=>by
 have h:=Lib.run_unsafeSliceData_row (P:=P) (w:=w) #[t] ty p n c hc;have:(execOp (ev a env) ⟨d,.call ⟨.builtin .unsafeSliceData,#[x],#[t]⟩,ty,pos,af,g⟩).run P w= .ok (.value (.pointer (some p))) w:=by
  simp only [E8,resolve,invoke,builtin,Sx,F2,MY,hx a,Sem.run_bind,Sem.run_pure,Result.andThen_ok,h]
 rw [this];exact G _ _ _ ⟨V,V⟩ B
theorem RQ{t it e:AK}{x y:Operand}{b:Nat}{c:AM}{z:Nat×Nat}{l:List UInt8}(ht:P.underlying t=some (.pointer e))(W:P.cellsOf e=1)(hx:∀a,ev a env x=I1 b)(hy:∀a,ev a env y=I0 (l.length:Int))(h0:l≠[])(U:l.length<=9223372036854775807)
 (J:One [(b,.cells c e z)] H R)(hc:c.toList.take l.length=l.map u8v):
 OpW P u ⟨d,.call ⟨.builtin .unsafeString,#[x,y],#[t,it]⟩,ty,pos,af,g⟩ env H (fun v H1=>v= .string (str l)/\H1=R) (fun _ _=>False):=fun a w O K Kp hK _=>by
 have G:Sat u ([(b,.cells c e z)]::R) w:=O.perm (by simpa using J.perm);have B:Sat u R w:=G.sub ⟨[(b,.cells c e z)],by simp only [Cp];exact OS⟩
 have hb:=G.get (b,.cells c e z) (by simp);have cu:w.shape? b=some (e,c.size):=by simp [World.shape?,hb]
 have ax:l.length<=c.size:=by
  have h1:(c.toList.take l.length).length=l.length:=by rw [hc,Bm]
  rw [Cl]at h1;have h2:=r8 l.length c.toList.length
  rw [h1]at h2;exact On h2 (Nat.le_of_eq (show c.toList.length=c.size from V1))
 have X:Bv c 0 (l.map u8v):=by unfold Bv;rw [S8,Bm];exact hc
 have h:=Lib.run_unsafeString_row (P:=P) w t it ty e ht W b c.size cu l h0 ax U (fun j x hx=>H7 hb X j (.int .u8 x.toNat) (by rw [FF,hx];rfl));have:(execOp (ev a env) ⟨d,.call ⟨.builtin .unsafeString,#[x,y],#[t,it]⟩,ty,pos,af,g⟩).run P w= .ok (.value (.string (str l))) (w.freeze ⟨b,0,none⟩ l.length):=by
  simp only [E8,resolve,invoke,builtin,Sx,F2,MY,hx a,hy a,Sem.run_bind,Sem.run_pure,Result.andThen_ok,h];rfl
 rw [this];refine hK _ _ _ ⟨V,V⟩ ?_;have Z:l.length≠0:=by simpa using h0
 have I:=G.nodup;simp only [Cp,PJ,F2,JT]at I;unfold World.freeze;rw [As Z];refine ⟨B.os,B.tape,B.output,B.nodup,fun p hp=>?_⟩;have bn:p.1≠b:=fun h=>I.1 (CM.2 ⟨p,hp,h⟩)
 show(w.heap.modify b _)[p.1]?=some p.2;rw [V0,As (fun h=>bn h.symm)];exact B.get p hp
end
section
variable{P:Program}{ops:Array Oper}{l:List Oper}{cx:Cx}{Q:Exit->Act->A4->Prop}{env:Env}{H:Hp}
theorem lD{I:Operand}{fv:Fn}{caps:AM}{ty:AK}{pos:String}{af:Array Edge}(O:cx.r=none)(K:∀a,ev a env I= .func fv #[] caps)
 (k:Ops P ops l ⟨cx.N,⟨.fn fv caps,#[]⟩::cx.D,cx.u,cx.r⟩ Q env H):Ops P ops (⟨none,.defer ⟨.value I,#[],#[]⟩,ty,pos,af,none⟩::l) cx Q env H:=fun a w G=>by
 have B:Fit a.tmps.size env:=by rw [G.size];exact G.fit
 simp only [wpL];rw [Fy ops _ a env B,show wantedE ops a env (⟨none,.defer ⟨.value I,#[],#[]⟩,ty,pos,af,none⟩:Oper).guard=true from rfl,B0 rfl];refine ⟨fun _ _=>trivial,?_⟩;have J:(Fx cx.r).round=none:=O
 rw [J,Oper.semAt_none,FU a env B];have:(execOp (ev a env) ⟨none,.defer ⟨.value I,#[],#[]⟩,ty,pos,af,none⟩).run P w= .ok (.defer ⟨.fn fv caps,#[]⟩) w:=by
  simp [execOp,resolve,K a,Deferred.ofValue]
 rw [this,Oper.uponIn_defer];have h:=k {a with defers:=⟨.fn fv caps,#[]⟩::cx.D} w ⟨G.size,rfl,G.fit,G.sat⟩
 have e:C9 env {a with defers:=⟨.fn fv caps,#[]⟩::cx.D}={C9 env a with defers:=⟨.fn fv caps,#[]⟩::(C9 env a).defers}:=by
  rw [FE,Fh,G.defers]
 rw [e]at h;exact h
end
def PI(P:Program)(f:FuncId)(args:AM)(m m':FrameMode)(H:Hp)(Q:Hp->Prop):Prop:=
 ∀(u:A4) (R:Hp) (w:A4),Sat u (H++R) w->CallsDIn Fence.wide 0 P f args m w fun e m2 w'=>∃v H',e= .returned v/\m2=m'/\Q H'/\Sat u (H'++R) w'
theorem Qg{P:Program}{f:FuncId}{args:AM}{m:FrameMode}{w:A4}{G R2:Ending->FrameMode->A4->Prop}(h:CallsDIn Fence.wide 0 P f args m w G)(K:∀e I B,G e I B->R2 e I B):CallsDIn Fence.wide 0 P f args m w R2:=
 ⟨h.1,fun c cs hc O=>by
   obtain ⟨e,U,B,fr,J,h2⟩:=h.2 c cs hc O;exact ⟨e,U,B,fr,K _ _ _ J,h2⟩⟩
theorem fD{P:Program}{fn:Func}{tmps:AM}{f:FuncId}{caps:AM}{m m':FrameMode}{w u:A4}{Hd Rr R:Hp}{Qd:Hp->Prop}{Q:A2->Hp->Prop}{Pn:List PanicEntry->Hp->Prop}
 (X:m≠ .run)(J:settle m'= .returning)(hc:∀(args:AM) (w:A4),(callFunc f args).run P w= .ok (.enter f args) w)(W:PI P f caps m m' Hd Qd)(hs:Sat u (Hd++Rr) w)
 (G:∀H1 B,Qd H1->Sat u (H1++Rr) B->∃v H',(results fn tmps).run P B= .ok v B/\Q v H'/\Sat u (H'++R) B):
 LeavesInM Fence.wide 0 P fn tmps (GV u R Q Pn) [⟨.fn (.func f) caps,#[]⟩] m w:=by
 refine ⟨X,.inr ⟨fun h=>by simp [Fence.wide]at h,.func f,caps,f,caps,V,?_,fun _ _=>trivial,?_⟩⟩;· simp [invoke,hc]
 · refine Qg (W u Rr w hs) ?_
   rintro e m2 B ⟨v,H1,rfl,rfl,Z,I⟩;obtain ⟨K,H',O,h2,U⟩:=G H1 B Z I;show LeavesInM Fence.wide 0 P fn tmps (GV u R Q Pn) [] (settle m2) B
   rw [J];exact ⟨K,O,.inl ⟨K,H',V,h2,U⟩⟩
section
variable{P:Program}{N:Nat}{u:A4}{fn:Func}{R H Hd Rr:Hp}{Q:A2->Hp->Prop}{Pn:List PanicEntry->Hp->Prop}{env:Env}{e:Exit}{f:FuncId}{caps:AM}{Qd:Hp->Prop}{m':FrameMode}
end
def oG(P:Program)(ops:Array Oper)(l:List Nat)(cx:Cx)(cs:List Frame)(Q:Exit->Act->List Frame->A4->Prop)(env:Env)(H:Hp):Prop:=∀a w,St cx env H a w->wpOpsSIn Fence.wide 0 P ops Q l (C9 env a) cs w
section
variable{P:Program}{ops:Array Oper}{l:List Nat}{i:Nat}{cx:Cx}{cs:List Frame}{Q:Exit->Act->List Frame->A4->Prop}{env:Env}{H:Hp}
theorem Pw{d:Nat}{I:Op}{ty:AK}{pos:String}{af:Array Edge}{v:A2}(K:ops[i]?=some ⟨some d,I,ty,pos,af,none⟩)(h:OpP P ⟨some d,I,ty,pos,af,none⟩ env [] v)(J:Nat.blt d cx.N=true)
 (k:oG P ops l cx cs Q ((d,v)::env) H):oG P ops (i::l) cx cs Q env H:=fun a w G=>by
 have B:Fit a.tmps.size env:=by rw [G.size];exact G.fit
 simp only [wpOpsSIn,K];refine ⟨fun _ _=>trivial,?_⟩;rw [Fy ops _ a env B,show wantedE ops a env (⟨some d,I,ty,pos,af,none⟩:Oper).guard=true from rfl,B0 rfl,FU a env B,h a w B6];exact k a w ⟨G.size,G.defers,G.fit.cons J v,G.sat⟩
theorem eD{d:Nat}{ty:AK}{pos:String}{af:Array Edge}(J:ops[i]?=some ⟨some d,.call ⟨.builtin .recover,#[],#[]⟩,ty,pos,af,none⟩)(K:recoverD cs=none)(I:Nat.blt d cx.N=true)
 (k:oG P ops l cx cs Q ((d,.nilIface)::env) H):oG P ops (i::l) cx cs Q env H:=fun a w G=>by
 have B:Fit a.tmps.size env:=by rw [G.size];exact G.fit
 simp only [wpOpsSIn,J];refine ⟨fun _ _=>trivial,?_⟩;rw [Fy ops _ a env B,show wantedE ops a env (⟨some d,.call ⟨.builtin .recover,#[],#[]⟩,ty,pos,af,none⟩:Oper).guard=true from rfl,B0 rfl,FU a env B];have:(execOp (ev a env) ⟨some d,.call ⟨.builtin .recover,#[],#[]⟩,ty,pos,af,none⟩).run P w= .ok .recover w:=by
  simp [E8,resolve,invoke,builtin]
 rw [this];simp only [K];exact k a w ⟨G.size,G.defers,G.fit.cons I _,G.sat⟩
end
theorem Y3{P:Program}{f:FuncId}{fn:Func}{id:Nat}{ops:Array Oper}{y:Code}{args:AM}{N:Nat}{m m':FrameMode}{H:Hp}{Qd:Hp->Prop}{env1:Env}(hf:P.funcs[f]?=some fn)(hb:fn.body=some (.seq (.region id ops false) y))(hN:fn.ntmps=N)(hs:Nat.ble args.size N=true)(ax:fn.results=#[])
 (K:∀(u:A4) (R:Hp) (c:Frame) (cs:List Frame) (Q:Exit->Act->List Frame->A4->Prop),c.mode=m->(∀a w,St ⟨N,[],u,none⟩ env1 (H++R) a w->Q .normal (C9 env1 a) ({c with mode:=m'}::cs) w)->oG P ops (List.range ops.size) ⟨N,[],u,none⟩ (c::cs) Q (FZ 0 args.toList) (H++R))
 (h:∀u R,At P ⟨N,[],u,none⟩ y (bodyPost P fn (GV u R (fun _ H'=>Qd H') (fun _ _=>False))) env1 (H++R)):PI P f args m m' H Qd:=fun u R w O=>by
 have X:args.size<=N:=eS hs;have J:C9 (FZ 0 args.toList) {tmps:=args++Array.replicate (fn.ntmps -args.size) undef,defers:=[]}={tmps:=args++Array.replicate (fn.ntmps -args.size) undef,defers:=[]}:=by
  refine Jz _ fun p hp=>?_;obtain ⟨_,h2⟩:=FK _ _ _ hp;simp only [W0,Hs]at h2;have Z:p.1<args.size:=by
   rcases Ft p.1 args.size with h|h
   · exact h
   · simp [LR h]at h2
  rw [ft Z];exact h2
 refine callsDIn_of_wpSIn (F:=Fence.wide) hf hb trivial fun c₀ cs hm=>?_;rw [<-J];refine wpSIn_seq (wpSIn_region ?_);refine K u R c₀ cs _ hm (fun a w1 af=>?_) _ w ⟨by simp [hN];omega,V,fun p hp=>?_,O⟩
 · refine wpSIn_of_wpIn rfl (wpIn_mono (h u R a w1 af) ?_)
   intro e a2 w2 B;cases e with
   |normal=>
    obtain ⟨U,v,hr,I⟩:=B;rcases I with⟨v',H',G,h2,W⟩|⟨_,_,_,h4,_⟩
    · exact ⟨U,m',rfl,v,hr,v',H',G,rfl,h2,W⟩
    · exact h4.elim
   |ret=>
    obtain ⟨U,v,hr,I⟩:=B;rcases I with⟨v',H',G,h2,W⟩|⟨_,_,_,h4,_⟩
    · exact ⟨U,m',rfl,v,hr,v',H',G,rfl,h2,W⟩
    · exact h4.elim
   |panic ch=>
    obtain ⟨U,I⟩:=B;rcases I with⟨_,_,G,_⟩|⟨_,_,_,h4,_⟩
    · cases G
    · exact h4.elim
   |outgrown=>
    rcases B with⟨_,_,G,_⟩|⟨_,_,_,h4,_⟩
    · cases G
    · exact h4.elim
   |exit i=>exact B.elim
   |goto i=>exact B.elim
 · obtain ⟨_,h2⟩:=FK _ _ _ hp
   simp only [W0,Hs]at h2;rcases Ft p.1 args.size with h|h
   · exact nh h X
   · simp [LR h]at h2
section
variable{P:Program}{ops:Array Oper}{l:List Oper}{cx:Cx}{Q:Exit->Act->A4->Prop}{env:Env}{H:Hp}
theorem eB{f:FuncId}{x:Operand}{v:A2}{G:Array AK}{ty:AK}{pos:String}{af:Array Edge}(O:cx.r=none)(hx:∀a,ev a env x=v)
 (k:Ops P ops l ⟨cx.N,⟨.fn (.func f) #[],#[v]⟩::cx.D,cx.u,cx.r⟩ Q env H):Ops P ops (⟨none,.defer ⟨.value (.func f),#[x],G⟩,ty,pos,af,none⟩::l) cx Q env H:=fun a w I=>by
 have B:Fit a.tmps.size env:=by rw [I.size];exact I.fit
 simp only [wpL];rw [Fy ops _ a env B,show wantedE ops a env (⟨none,.defer ⟨.value (.func f),#[x],G⟩,ty,pos,af,none⟩:Oper).guard=true from rfl,B0 rfl];refine ⟨fun _ _=>trivial,?_⟩;have J:(Fx cx.r).round=none:=O
 rw [J,Oper.semAt_none,FU a env B];have K:ev a env (.func f)= .func (.func f) #[] #[]:=rfl
 have:(execOp (ev a env) ⟨none,.defer ⟨.value (.func f),#[x],G⟩,ty,pos,af,none⟩).run P w= .ok (.defer ⟨.fn (.func f) #[],#[v]⟩) w:=by
  simp [execOp,resolve,K,hx a,Deferred.ofValue]
 rw [this,Oper.uponIn_defer];have h:=k {a with defers:=⟨.fn (.func f) #[],#[v]⟩::cx.D} w ⟨I.size,rfl,I.fit,I.sat⟩
 have e:C9 env {a with defers:=⟨.fn (.func f) #[],#[v]⟩::cx.D}={C9 env a with defers:=⟨.fn (.func f) #[],#[v]⟩::(C9 env a).defers}:=by
  rw [FE,Fh,I.defers]
 rw [e]at h;exact h
end
theorem fC{P:Program}{fn:Func}{tmps:AM}{fa f:FuncId}{va caps:AM}{ma m':FrameMode}{w u:A4}{Hd Rr R:Hp}{Qd:Hp->Prop}{Q:A2->Hp->Prop}{Pn:List PanicEntry->Hp->Prop}
 (U:settle ma= .returning)(J:∀(args:AM) (w:A4),(callFunc fa args).run P w= .ok (.enter fa args) w)(K:PI P fa va .returning ma [] (fun H'=>H'=[]))
 (O:settle m'= .returning)(hc:∀(args:AM) (w:A4),(callFunc f args).run P w= .ok (.enter f args) w)(W:PI P f caps .returning m' Hd Qd)(X:Sat u (Hd++Rr) w)
 (G:∀H1 B,Qd H1->Sat u (H1++Rr) B->∃v H',(results fn tmps).run P B= .ok v B/\Q v H'/\Sat u (H'++R) B):
 LeavesInM Fence.wide 0 P fn tmps (GV u R Q Pn) [⟨.fn (.func fa) #[],va⟩,⟨.fn (.func f) caps,#[]⟩] .returning w:=by
 refine ⟨by simp,.inr ⟨fun h=>by simp [Fence.wide]at h,.func fa,#[],fa,va,V,?_,fun _ _=>trivial,?_⟩⟩;· simp [invoke,J]
 · refine Qg (K u (Hd++Rr) w X) ?_
   rintro e Z B ⟨v,H1,rfl,rfl,rfl,I⟩;show LeavesInM Fence.wide 0 P fn tmps (GV u R Q Pn) [⟨.fn (.func f) caps,#[]⟩] (settle Z) B
   rw [U];exact fD B6 O hc W I G
section
variable{P:Program}{N:Nat}{u:A4}{fn:Func}{R H Hd Rr:Hp}{Q:A2->Hp->Prop}{Pn:List PanicEntry->Hp->Prop}{env:Env}{e:Exit}{fa f:FuncId}{va caps:AM}{Qd:Hp->Prop}{ma m':FrameMode}
theorem rf(he:Fa e=true)(W:settle ma= .returning)(K:∀(args:AM) (w:A4),(callFunc fa args).run P w= .ok (.enter fa args) w)(O:PI P fa va .returning ma [] (fun H'=>H'=[]))
 (U:settle m'= .returning)(hc:∀(args:AM) (w:A4),(callFunc f args).run P w= .ok (.enter f args) w)(hd:PI P f caps .returning m' Hd Qd)(hp:Ey Hd H Rr)
 (I:∀H1,Qd H1->∃v H',(∀(a:Act) (w:A4),Fit a.tmps.size env->Sat u (H1++Rr) w->(results fn (C9 env a).tmps).run P w= .ok v w)/\Q v H'/\vY (H'++R) (H1++Rr)):
 Nx ⟨N,[⟨.fn (.func fa) #[],va⟩,⟨.fn (.func f) caps,#[]⟩],u,none⟩ (bodyPostM Fence.wide 0 P fn (GV u R Q Pn) e) env H:=fun a w J=>by
 have X:(C9 env a).defers=[⟨.fn (.func fa) #[],va⟩,⟨.fn (.func f) caps,#[]⟩]:=by rw [Fh];exact J.defers
 have G:LeavesInM Fence.wide 0 P fn (C9 env a).tmps (GV u R Q Pn) (C9 env a).defers .returning w:=by
  rw [X];refine fC W K O U hc hd (J.sat.perm hp.perm) fun H1 w' hq B=>?_;obtain ⟨v,H',h2,Z,h4⟩:=I H1 hq;exact ⟨v,H',h2 a w' (by rw [J.size];exact J.fit) B,Z,B.sub h4⟩
 cases e<;>first|exact G|simp [Fa]at he
end
theorem aP{P:Program}{f:FuncId}{fn:Func}{y:Code}{args:AM}{N:Nat}{m:FrameMode}{H:Hp}{Qd:Hp->Prop}(hf:P.funcs[f]?=some fn)(hb:fn.body=some y)(hN:fn.ntmps=N)(hs:Nat.ble args.size N=true)
 (h:∀u R,At P ⟨N,[],u,none⟩ y (bodyPost P fn (GV u R (fun _ H'=>Qd H') (fun _ _=>False))) (FZ 0 args.toList) (H++R)):PI P f args m m H Qd:=fun u R w O=>by
 have Z:args.size<=N:=eS hs;have K:C9 (FZ 0 args.toList) {tmps:=args++Array.replicate (fn.ntmps -args.size) undef,defers:=[]}={tmps:=args++Array.replicate (fn.ntmps -args.size) undef,defers:=[]}:=by
  refine Jz _ fun p hp=>?_;obtain ⟨_,h2⟩:=FK _ _ _ hp;simp only [W0,Hs]at h2;have af:p.1<args.size:=by
   rcases Ft p.1 args.size with h|h
   · exact h
   · simp [LR h]at h2
  rw [ft af];exact h2
 refine callsDIn_of_wpSIn (F:=Fence.wide) hf hb trivial fun W cs hm=>?_;have J:({W with mode:=m}:Frame)=W:=by cases W;simp only at hm;subst hm;rfl
 rw [<-K];refine wpSIn_of_wpIn V (wpIn_mono (h u R _ w ⟨by simp [hN];omega,V,fun p hp=>?_,O⟩) ?_)
 · obtain ⟨_,h2⟩:=FK _ _ _ hp
   simp only [W0,Hs]at h2;rcases Ft p.1 args.size with h|h
   · exact nh h Z
   · simp [LR h]at h2
 · intro e a2 w2 B
   cases e with
   |normal=>
    obtain ⟨U,v,hr,I⟩:=B;rcases I with⟨v',H',G,h2,X⟩|⟨_,_,_,h4,_⟩
    · exact ⟨U,m,by rw [J],v,hr,v',H',G,rfl,h2,X⟩
    · exact h4.elim
   |ret=>
    obtain ⟨U,v,hr,I⟩:=B;rcases I with⟨v',H',G,h2,X⟩|⟨_,_,_,h4,_⟩
    · exact ⟨U,m,by rw [J],v,hr,v',H',G,rfl,h2,X⟩
    · exact h4.elim
   |panic ch=>
    obtain ⟨U,I⟩:=B;rcases I with⟨_,_,G,_⟩|⟨_,_,_,h4,_⟩
    · cases G
    · exact h4.elim
   |outgrown=>
    rcases B with⟨_,_,G,_⟩|⟨_,_,_,h4,_⟩
    · cases G
    · exact h4.elim
   |exit i=>exact B.elim
   |goto i=>exact B.elim
section
variable{P:Program}{u:A4}{env:Env}{H R:Hp}{d:Option Nat}{ty:AK}{pos:String}{af:Array Edge}{g:Option (Nat×Bool)}
theorem uZ{t e:AK}{f0 f1 f2 f3:Field}(w:A4)(n:Nat)(x0 x1 x2 x3 y0 y1 y2 y3:Int)(hu:P.underlying t=some (.struct #[f0,f1,f2,f3]))(hst:P.stoodInHeld t=false)
 (h0:f0.name≠ "_"∧f0.type=e∧f0.offset=0)(h1:f1.name≠ "_"∧f1.type=e∧f1.offset=1)(h2:f2.name≠ "_"∧f2.type=e∧f2.offset=2)(h3:f3.name≠ "_"∧f3.type=e∧f3.offset=3)
 (he:P.underlying e=some (.int .i64))(ha:∀w:A4,(isAgg e).run P w= .ok false w):
 (Op.equalIn (n+2) t (.agg #[I0 x0,I0 x1,I0 x2,I0 x3]) (.agg #[I0 y0,I0 y1,I0 y2,I0 y3])).run P w= .ok (decide (x0=y0/\x1=y1/\x2=y2/\x3=y3)) w:=by
 obtain ⟨n0,e0,o0⟩:=h0;obtain ⟨n1,e1,o1⟩:=h1;obtain ⟨n2,e2,o2⟩:=h2;obtain ⟨n3,e3,o3⟩:=h3;have ei:∀(m k:Int) (w:A4),(Op.equalIn (n+1) e (I0 m) (I0 k)).run P w= .ok (decide (m=k)) w:=fun m k w=>RA n w he m k
 have p0:∀(v0 v1 v2 v3:A2) (w:A4),(part e #[v0,v1,v2,v3] 0).run P w= .ok v0 w:=fun _ _ _ _ w=>FV w (ha w) _ _ rfl;have p1:∀(v0 v1 v2 v3:A2) (w:A4),(part e #[v0,v1,v2,v3] 1).run P w= .ok v1 w:=fun _ _ _ _ w=>FV w (ha w) _ _ rfl
 have p2:∀(v0 v1 v2 v3:A2) (w:A4),(part e #[v0,v1,v2,v3] 2).run P w= .ok v2 w:=fun _ _ _ _ w=>FV w (ha w) _ _ rfl;have p3:∀(v0 v1 v2 v3:A2) (w:A4),(part e #[v0,v1,v2,v3] 3).run P w= .ok v3 w:=fun _ _ _ _ w=>FV w (ha w) _ _ rfl
 rw [show n+2=(n+1)+1 from rfl,Op.equalIn];generalize n+1=m at*;simp only [Sem.run_bind,run_underlying hu,Result.andThen_ok,run_program,hst,Of,Hi];rw [<-qn];simp only [nt,rK,n0,n1,n2,n3,e0,e1,e2,e3,o0,o1,o2,o3,ne_eq,jt,J1];simp only [Sem.run_bind,p0,p1,p2,p3,ei,Result.andThen_ok];by_cases c0:x0=y0
 · by_cases c1:x1=y1
   · by_cases c2:x2=y2
     · by_cases c3:x3=y3<;>simp [c0,c1,c2,c3,p0,p1,p2,p3,ei,n1,n2,n3]
     · simp [c0,c1,c2,p0,p1,p2,p3,ei,n1,n2,n3]
   · simp [c0,c1,p0,p1,p2,p3,ei,n1,n2,n3]
 · simp [c0,p0,p1,p2,p3,ei,n1,n2,n3]
theorem Yd{t yt e:AK}{f0 f1 f2 f3:Field}{x y:Operand}{x0 x1 x2 x3 y0 y1 y2 y3:Int}(hg:P.eqGuardType P.depth t=false)(hu:P.underlying t=some (.struct #[f0,f1,f2,f3]))(hst:P.stoodInHeld t=false)
 (h0:f0.name≠ "_"∧f0.type=e∧f0.offset=0)(h1:f1.name≠ "_"∧f1.type=e∧f1.offset=1)(h2:f2.name≠ "_"∧f2.type=e∧f2.offset=2)(h3:f3.name≠ "_"∧f3.type=e∧f3.offset=3)
 (he:P.underlying e=some (.int .i64))(ha:∀w:A4,(isAgg e).run P w= .ok false w)
 (hx:∀a,ev a env x= .agg #[I0 x0,I0 x1,I0 x2,I0 x3])(hy:∀a,ev a env y= .agg #[I0 y0,I0 y1,I0 y2,I0 y3]):OpP P ⟨d,.binOp .eql t x y yt,ty,pos,af,g⟩ env [] (.bool (decide (x0=y0/\x1=y1/\x2=y2/\x3=y3))):=fun a w _=>by
 simp [Cm,hx a,hy a,go_sem,run_eqGuard_agg w _ t _ _ _ _ hg,Qi,Op.equal,Op.maxDepth,uZ w 9998 x0 x1 x2 x3 y0 y1 y2 y3 hu hst h0 h1 h2 h3 he ha]
end
def Fe(b:Nat)(o:Obj)(s:List A8):List A8:=s.map fun p=>if p.1=b then(b,o)else p
theorem Uk(b:Nat)(o:Obj)(s:List A8):(Fe b o s).map (·.1)=s.map (·.1):=by
 unfold Fe;rw [Mz];apply W6;intro p _;show(if p.1=b then(b,o)else p).1=p.1
 split;· rename_i h;exact h.symm
 · rfl
theorem og{b:Nat}{o:Obj}{s:List A8}{p:A8}(h:p∈Fe b o s):p=(b,o)\/(p.1≠b/\p∈s):=by
 obtain ⟨q,B,e⟩:=CM.1 h;split at e;· exact .inl e.symm
 · rename_i hn;subst e;exact .inr ⟨hn,B⟩
theorem Y7{u w G:A4}{H R:Hp}{s:List A8}{b:Nat}{o o':Obj}(B:Sat u H w)(W:One s H R)(Z:(b,o)∈s)(e1:G.os=w.os)(e2:G.tape=w.tape)(U:G.output=w.output)
 (X:G.heap[b]?=some o')(O:∀k,k≠b->G.heap[k]?=w.heap[k]?):Sat u (Fe b o' s::R) G:=by
 have K:=W.perm;have hn:((s++R.flatten).map (·.1)).Nodup:=(K.map _).nodup_iff.1 B.nodup
 refine ⟨e1.trans B.os,e2.trans B.tape,U.trans B.output,?_,fun p I=>?_⟩;· rw [Cp,CN,Uk,<-CN];exact hn
 · rw [Cp]at I
   rcases CI.1 I with h|h
   · rcases og h with rfl|⟨h2,h3⟩
     · exact X
     · rw [O _ h2];exact B.get p (K.mem_iff.2 (Fc _ h3))
   · have J:p.1≠b:=fun e=>by
      rw [CN,HN]at hn;exact hn.2.2 b (CM.2 ⟨_,Z,V⟩) p.1 (Ek h) e.symm
     rw [O _ J];exact B.get p (K.mem_iff.2 (HC _ h))
theorem GU{P:Program}{cx:Cx}{c:Code}{Q:Exit->Act->A4->Prop}{env:Env}{H R:Hp}{s:List A8}(G:One s H R)(k:(s.map (·.1)).Nodup->At P cx c Q env H):At P cx c Q env H:=fun a w B=>k (by
 have:=B.sat.nodup;rw [(G.perm.map (·.1)).nodup_iff,CN]at this;exact (HN.1 this).1) a w B
theorem vI{P:Program}{cx:Cx}{c:Code}{Q:Exit->Act->A4->Prop}{env:Env}{H R R2:Hp}{s:List A8}{b:Nat}{y:Obj}(G:One [(b,y)] H R)(h2:One s R R2)(k:b∉s.map (·.1)->At P cx c Q env H):At P cx c Q env H:=fun a w B=>k (fun I=>by
 have:=B.sat.nodup;rw [((G.perm.trans (Sp _ h2.perm)).map (·.1)).nodup_iff,CN,CN]at this;exact (HN.1 this).2.2 b B6 b (Fc _ I) V) a w B
theorem Eg{s:List A8}{H R:Hp}(h:One s H R){b:Nat}{x:Obj}(B:(b,x)∈s):(b,x)∈H.flatten:=h.perm.mem_iff.2 (Fc _ B)
theorem Gn{s:List A8}{H R:Hp}(h:One s H R){p:A8}(B:p∈s):∀c∈[p],c∈H.flatten:=fun c hc=>by
 rw [CH.1 hc];exact h.perm.mem_iff.2 (Fc _ B)
section
variable{P:Program}{u:A4}{env:Env}{H R:Hp}{d:Option Nat}{ty:AK}{pos:String}{af:Array Edge}{g:Option (Nat×Bool)}
theorem FM{t:AK}{x y:Operand}{b i:Nat}{c:AM}{T:AK}{z:Nat×Nat}{v:A2}{s X:List A8}(hs:∀w:A4,(Go.sizeOf t).run P w= .ok 1 w)(hx:∀a,ev a env x= .pointer (some ⟨b,i,none⟩))(hy:∀a,ev a env y=v)(J:v.oneCell'=true)
 (W:One s H R)(U:(b,.cells c T z)∈s)(hc:Fe b (.cells (c.setIfInBounds i v) T z) s=X)(hi:i<c.size)(hz:Gc z c.size):
 OpW P u ⟨d,.store t x y,ty,pos,af,g⟩ env H (fun v' H1=>v'=undef/\H1=X::R) (fun _ _=>False):=fun a w G K Kp Z _=>by
 have O:=G.get _ (W.perm.mem_iff.2 (Fc _ U));have B:v.cells=#[v]:=by cases v<;>first|rfl|simp [Value.oneCell']at J
 have I:=Ji (P:=P) O hi hz J;have:(execOp (ev a env) ⟨d,.store t x y,ty,pos,af,g⟩).run P w= .ok .skip (w.setCell ⟨b,i,none⟩ v):=by
  simp [R3,hx a,hy a,Instr.storeAt,Instr.sureAddr,storeVar,hs,B,storeCells,Addr.add_zero',I]
 rw [this];exact Z _ _ _ ⟨V,V⟩ (hc▸Y7 G W U V rfl V (Om v O) fun k hk=>Kw v hk)
theorem WN{t:AK}{x y:Operand}{b i n:Nat}{c cs:AM}{T:AK}{z:Nat×Nat}{s U:List A8}(hs:∀w:A4,(Go.sizeOf t).run P w= .ok n w)(hx:∀a,ev a env x= .pointer (some ⟨b,i,none⟩))(hy:∀a,ev a env y= .agg cs)(W:∀v∈cs.toList,v.oneCell'=true)
 (O:One s H R)(J:(b,.cells c T z)∈s)(hc:Fe b (.cells (EP c i cs.toList) T z) s=U)(hn:cs.size=n)(hi:i+n<=c.size)(hz:Gc z c.size):
 OpW P u ⟨d,.store t x y,ty,pos,af,g⟩ env H (fun v' H1=>v'=undef/\H1=U::R) (fun _ _=>False):=fun a w B K Kp X _=>by
 have I:=B.get _ (O.perm.mem_iff.2 (Fc _ J));have G:=Ci (P:=P) b i T z cs.toList 0 c w I hz (by simp;omega) W
 simp only [Pu]at G;have:(execOp (ev a env) ⟨d,.store t x y,ty,pos,af,g⟩).run P w= .ok .skip (w.setRow b (EP c i cs.toList)):=by
  simp [R3,hx a,hy a,Instr.storeAt,Instr.sureAddr,storeVar,hs,Value.cells,hn,G,EP]
 rw [this];exact X _ _ _ ⟨rfl,rfl⟩ (hc▸Y7 B O J rfl rfl rfl (by rw [setRow_heap w b c _ T z I]) fun k Z=>setRow_other w b k _ Z)
end
end Gw
namespace Gw
open Go Go.RowKit
open Go.ChangeMaps (setBlock)
section
variable{α:Type}{P:Program}{κ:α->A2}{D:α->Prop}{u:A4}{env:Env}{H R:Hp}{d:Option Nat}{ty:AK}{pos:String}{af:Array Edge}{g:Option (Nat×Bool)}{t kt et:AK}{m x y:Operand}{r:Nat}{es:Array MapEntry}{clock:Nat}{l:List (α×A2)}{k:α}{z v:A2}
def yh(es:Array MapEntry)(j st:Nat):Prop:=∃e,es.toList[j]?=some e/\e.born=st
theorem sI{es:Array MapEntry}{j:Nat}{e0:MapEntry}{kv:A2}(h:es[j]?=some e0)(G:e0.key=kv):(es.modify j fun e=>{e with key:=kv})=es:=by
 obtain ⟨J,B⟩:=Hj.1 h;apply lO B6;intro i I h2;rw [Array.getElem_modify];split
 · rename_i e;subst e
   rw [B];subst G;rfl
 · rfl
theorem KP [DecidableEq α]{v0:A2}(hK:Fw P kt κ D)(ht:P.underlying t=some (.map kt et))(hz:∀w:A4,(zeroValue et).run P w= .ok z w)(I:Ck κ es clock l)(hl:∀p∈l,D p.1)(hk:D k)(hv:(EL k l).getD z=v0)(hx:∀a,ev a env m= .map (some r))(hy:∀a,ev a env x=κ k)(U:One [(r,.map es clock)] H R):
 OpW P u ⟨d,.mapEntry t m x,ty,pos,af,g⟩ env H (fun v' H1=>∃G B O j st,v'= .tuple #[v0,I0 ((st:Nat):Int)]/\Ck κ G B O/\O[j]?=some (k,v0)/\yh G j st/\(∀p,p∈O↔p=(k,v0)\/(p∈l/\p.1≠k))/\H1=[(r,.map G B)]::R) (fun _ _=>False):=fun a w W K Kp d9 _=>by
 obtain ⟨hb,_⟩:=JP U W (.map es clock)
 suffices hrun:∃G B O j st,(Instr.mapEntry t (.map (some r)) (κ k)).run P w= .ok (.tuple #[v0,I0 ((st:Nat):Int)]) (setBlock w r (.map G B))/\Ck κ G B O/\O[j]?=some (k,v0)/\yh G j st/\∀p,p∈O↔p=(k,v0)\/(p∈l/\p.1≠k) by
  obtain ⟨G,B,O,j,st,h1,h2,h3,h4,h5⟩:=hrun;have:(execOp (ev a env) ⟨d,.mapEntry t m x,ty,pos,af,g⟩).run P w= .ok (.value (.tuple #[v0,I0 ((st:Nat):Int)])) (setBlock w r (.map G B)):=by
   show((do pure (Next.value (<-Instr.mapEntry t (ev a env m) (ev a env x))):Sem Next)).run P w=_;rw [hx a,hy a,Sem.run_bind,h1];rfl
  rw [this];exact d9 _ _ _ ⟨G,B,O,j,st,V,h2,h3,h4,h5,V⟩ (JP U W _).2
 rcases I4 hK I hl w k hk with⟨h1,h2⟩|⟨j,q,h1,h2⟩
 · rw [DN h2]at hv
   subst hv;refine ⟨es.push {key:=κ k,val:=z,born:=clock},clock+1,l++[(k,z)],l.length,clock,?_,⟨?_,?_,?_,?_⟩,by simp,⟨{key:=κ k,val:=z,born:=clock},by rw [<-I.size];simp,rfl⟩,?_⟩
   · simp only [Instr.mapEntry,Sem.run_bind,run_underlying ht,Result.andThen,MapKept.run_getObj_map hb,F6 hK hk,h1,hz,Ff hb,Sem.run_pure]
     rfl
   · simp [I.pairs]
   · simp only [nq,CN,F2,MY]
     rw [HN];refine ⟨I.born,by simp,?_⟩;intro a ha b J ax;simp only [CM,CH]at ha J;obtain ⟨e,Z,rfl⟩:=ha;have:=I.old e Z
     omega
   · intro e Z
     simp only [nq,CI,CH]at Z;rcases Z with Z|rfl
     · have:=I.old e Z;omega
     · simp
   · rw [CN,HN]
     refine ⟨I.keys,by simp,?_⟩;intro a ha b J ax;simp only [F2,MY,CH]at J;obtain ⟨p,hp,rfl⟩:=CM.1 ha;exact h2 p hp (by rw [ax,J])
   · intro p
     rw [CI,CH];constructor
     · rintro (h|rfl)
       · exact .inr ⟨h,h2 p h⟩
       · exact .inl rfl
     · rintro (rfl|⟨h,_⟩)
       · exact .inr rfl
       · exact .inl h
 · obtain ⟨e0,bn,cu,gm⟩:=I.of h2
   have hq:EL k l=some q:=Cw I.keys (E7 h2);rw [hq]at hv;subst hv;have X:es[j]?=some e0:=by simpa using bn
   have ek:(Instr.keyThatStays (((es[j]?).map (·.key)).getD (κ k)) (κ k)).run P w= .ok (κ k) w:=by
    rw [X];show(Instr.keyThatStays e0.key (κ k)).run P w=_
    rw [cu];exact hK.stays w k hk
   refine ⟨es,clock,l,j,e0.born,?_,I,h2,⟨e0,bn,V⟩,fun p=>⟨fun h=>?_,fun h=>?_⟩⟩
   · simp only [Instr.mapEntry,Sem.run_bind,run_underlying ht,Result.andThen,MapKept.run_getObj_map hb,F6 hK hk,h1,ek,Ff hb,Sem.run_pure]
     rw [sI X cu,X];rfl
   · by_cases cO:p.1=k
     · refine .inl ?_
       obtain ⟨i,hi⟩:=HK h;obtain rfl:=Ko I.keys hi h2 cO;rw [h2]at hi;exact (T7 hi).symm
     · exact .inr ⟨h,cO⟩
   · rcases h with rfl|⟨h,_⟩
     · exact E7 h2
     · exact h
theorem nk{es:Array MapEntry}{j st:Nat}(hn:(es.toList.map (·.born)).Nodup)(h:yh es j st):es.findIdx? (fun e=>(e.born:Int)==(st:Int))=some j:=by
 obtain ⟨e,I,O⟩:=h;have J:=(C6.1 I).1
 rw [show es.findIdx? (fun e=>(e.born:Int)==(st:Int))=es.toList.findIdx? (fun e=>(e.born:Int)==(st:Int)) from by rw [<-List.findIdx?_toArray,Array.toArray_toList],cH];refine ⟨J,?_,fun i hi=>?_⟩
 · have G:es.toList[j]=e:=(C6.1 I).2
   rw [G,O];simp
 · have B:i<es.toList.length:=by omega
   intro G;have U:(es.toList[i]).born=st:=by have K:=beq_iff_eq.1 G;omega
   have K:(es.toList.map (·.born))[i]?=(es.toList.map (·.born))[j]?:=by
    rw [FF,FF,I,BE B];show some (es.toList[i]).born=some e.born
    rw [U,O]
   have:=(qq (by simpa using B) hn).1 K;omega
theorem Ik{j st:Nat}{v0:A2}(O:Ck κ es clock l)(Z:l[j]?=some (k,v0))(hb:yh es j st)(hx:∀a,ev a env m= .map (some r))(hs:∀a,ev a env x=I0 ((st:Nat):Int))(hy:∀a,ev a env y=v)(I:One [(r,.map es clock)] H R):
 OpW P u ⟨d,.entryStore t m x y,ty,pos,af,g⟩ env H (fun v' H1=>v'=undef/\∃U G l',Ck κ U G l'/\(∀p,p∈l'↔p=(k,v)\/(p∈l/\p.1≠k))/\H1=[(r,.map U G)]::R) (fun _ _=>False):=fun a w J K Kp ax _=>by
 obtain ⟨W,_⟩:=JP I J (.map es clock);obtain ⟨e0,bn,cu,cO⟩:=O.of Z;have X:(Instr.entryStore t (.map (some r)) (I0 ((st:Nat):Int)) v).run P w= .ok () (setBlock w r (.map (es.modify j fun e=>{e with val:=v}) clock)):=by
  simp only [Instr.entryStore,Sem.run_bind,Result.andThen,MapKept.run_getObj_map W,asInt,asIntOf,Sem.run_pure,nk O.born hb,Ff W]
 have:(execOp (ev a env) ⟨d,.entryStore t m x y,ty,pos,af,g⟩).run P w= .ok .skip (setBlock w r (.map (es.modify j fun e=>{e with val:=v}) clock)):=by
  show((do Instr.entryStore t (ev a env m) (ev a env x) (ev a env y);pure Next.skip):Sem Next).run P w=_;rw [hx a,hs a,hy a,Sem.run_bind,X];rfl
 rw [this];refine ax _ _ _ ⟨V,_,clock,l.set j (k,v),⟨?_,?_,?_,?_⟩,j6 O.keys Z v,V⟩ (JP I J _).2
 · rw [gC]
   apply O2;intro i;have hj:(es.toList.map (fun e=>(e.key,e.val)))[i]?=(l.map (fun p=>(κ p.1,p.2)))[i]?:=by rw [O.pairs]
   rw [FF,FF]at hj;rw [FF,FF,gA,Vc];by_cases B:j=i
   · subst B
     rw [B0 rfl,B0 (C6.1 Z).1,bn];simp [cu]
   · simpa [B]using hj
 · have:(es.modify j fun e=>{e with val:=v}).toList.map (·.born)=es.toList.map (·.born):=by
    rw [gC];apply O2;intro i;simp only [FF,gA];by_cases B:j=i;· subst B;cases es.toList[j]?<;>simp
    · simp [B]
   rw [this];exact O.born
 · intro e he
   rw [gC]at he;obtain ⟨i,hi⟩:=HK he;simp only [gA]at hi;cases h9:es.toList[i]?with
   |none=>simp [h9]at hi
   |some e1=>
    have:=O.old e1 (E7 h9);by_cases B:j=i
    · subst B
      simp only [h9,J1,Option.map_eq_map,Pr,Z3]at hi;subst hi;exact this
    · simp [h9,B]at hi
      subst hi;exact this
 · rw [Z5 Z v];exact O.keys
end
end Gw
namespace Gw
open Go Go.RowKit
def KL{α:Type}(P:Program)(gf:FuncId)(lb:AM)(Hit:Hp)(A:List α->List A8->Prop)(encs:α->AM)(Adm Full:List α->Prop):Prop:=
 ∀(l:Nat) (J:List α->List A8->Prop),(∀pre s,J pre s->A pre s)->(∀pre x s,Adm (pre++[x])->J pre s->GG P l (encs x) [s] (fun v H'=>∃s',v= .bool true/\H'=[s']/\J (pre++[x]) s'))->
  ∀s,J [] s->BQ P gf (#[.func (.yield l) #[] #[]]++lb) (Hit++[s]) (fun _ H'=>∃ys s',Full ys/\H'=[s']/\J ys s')
theorem FC.toC{α:Type}{P:Program}{K:FuncId}{O:AM}{I:Hp}{A:List A8->Prop}{G:α->AM}{xs:List α}(h:FC P K O I A G xs):KL P K O I (fun _=>A) G (fun p=>∃B,xs=p++B) (fun ys=>ys=xs):=fun l J W hy s h0=>
 (h l J W (fun pre x B s hx X=>hy pre x s ⟨B,by rw [hx,DG];rfl⟩ X) s h0).mono (by
   rintro v H' ⟨Z,U,h2⟩;exact ⟨xs,Z,V,U,h2⟩)
theorem Iu{α:Type}{A:List α->List A8->Prop}{Adm Full:List α->Prop}{P:Program}{cx:Cx}{Q:Exit->Act->A4->Prop}{env:Env}{H Z H0 R:Hp}{g:Operand}{ps:Array Tmp}{B O:Code}{gf:FuncId}{lb:AM}{G:α->AM}
 (I:List α->Hp->Prop)(E:α->Env->Hp->Prop)(hr:cx.r=none)(hg:∀a,ev a env g= .func (.func gf) #[] lb)(W:∀(args:AM) (w:A4),(callFunc gf args).run P w= .ok (.enter gf args) w)
 (X:KL P gf lb Z A G Adm Full)(hA:∀pre H1 c d,I pre H1->A pre ([c,d]++H1.flatten))(bn:∀x,(G x).size=ps.size)(ax:(ps.toList.all fun t=>Nat.blt t cx.N)=true)(hp:Ey (Z++H0) H R)(h0:I [] H0)
 (K:∀(l:Nat) (x:α) (u:A4) (H:Hp),At P ⟨cx.N,[],u,some l⟩ B (Exit.then (fun a w=>∃e Hn,E x e Hn/\Is ⟨cx.N,[],u,some l⟩ (e++env) (Hn++H) a w) (fun _ _ _=>False)) ((ps.toList.zip (G x).toList).reverse++env) H)
 (U:∀(l:Nat) (pre:List α) (x:α) (u:A4) (e:Env) (Hn H1 R1:Hp) (r0:Loop),Adm (pre++[x])->I pre H1->E x e Hn->At P ⟨cx.N,[],u,some l⟩ O (IV u I (pre++[x]) ([(l,.loop r0)]::R1)) (e++env) (H1++(Hn++([(l,.loop r0)]::R1))))
 (hk:∀(D:Nat) (ys:List α) (H2:Hp),Full ys->I ys H2->Nx ⟨cx.N,⟨.collected D,#[]⟩::cx.D,cx.u,none⟩ (Q .normal) env ([(D,.deferred (some []))]::(H2++R))):At P cx (.rangeFunc g ps B O) Q env H:=
 Mh (Hk:=[]) (St:=False) (Enc:=yR G) I (fun _ _=>False) (fun x _ _ e Hn=>E x e Hn) hr hg W (fun l J Jx af hX hy s h9=>(X l J af (fun pre x s ha hj=>NH (hy pre x s _ [] ha hj ⟨rfl,rfl⟩) fun v H' ⟨s',h1,h2⟩=>h2.elim (fun h=>⟨s',h.1,h1,h.2⟩) fun h=>(hX _ _ h.2).elim) s h9).mono (by rintro v H' ⟨ys,s',h1,h2,h3⟩;exact ⟨s',h2,.inl ⟨ys,h1,h3⟩⟩)) (fun _ _ h=>h) hA (fun x vs sx he=>by rw [he.1];exact bn x) ax hp h0
  (fun l x vs sx u H he=>by obtain ⟨rfl,rfl⟩:=he;exact K l x u H)
  (fun l pre x u vs sx e Hn H1 R1 r0 hx hI he hE=>by
    obtain ⟨rfl,rfl⟩:=he;exact Tw (Pd (U l pre x u e Hn H1 R1 r0 hx hI hE)) fun f h h1 h2=>by simp only [Cp,HR,GC,h,h1,h2];omega) (fun D ys H2 hf hI=>hk D ys H2 hf hI) fun _ _ _ h=>h.elim
theorem PE{α:Type}{A:List A8->Prop}{P:Program}{cx:Cx}{Q:Exit->Act->A4->Prop}{env:Env}{H Z H0 R:Hp}{g:Operand}{ps:Array Tmp}{B O:Code}{gf:FuncId}{lb:AM}{G:α->AM}{xs:List α}
 (I:List α->Hp->Prop)(E:α->Env->Hp->Prop)(hr:cx.r=none)(hg:∀a,ev a env g= .func (.func gf) #[] lb)(W:∀(args:AM) (w:A4),(callFunc gf args).run P w= .ok (.enter gf args) w)
 (X:FC P gf lb Z A G xs)(hA:∀pre H1 c d,I pre H1->A ([c,d]++H1.flatten))(ax:∀x,(G x).size=ps.size)(af:(ps.toList.all fun t=>Nat.blt t cx.N)=true)(hp:Ey (Z++H0) H R)(h0:I [] H0)
 (J:∀(l:Nat) (x:α) (u:A4) (H:Hp),At P ⟨cx.N,[],u,some l⟩ B (Exit.then (fun a w=>∃e Hn,E x e Hn/\Is ⟨cx.N,[],u,some l⟩ (e++env) (Hn++H) a w) (fun _ _ _=>False)) ((ps.toList.zip (G x).toList).reverse++env) H)
 (U:∀(l:Nat) (pre:List α) (x:α) (K:List α) (u:A4) (e:Env) (Hn H1 R1:Hp) (r0:Loop),xs=pre++x::K->I pre H1->E x e Hn->At P ⟨cx.N,[],u,some l⟩ O (IV u I (pre++[x]) ([(l,.loop r0)]::R1)) (e++env) (H1++(Hn++([(l,.loop r0)]::R1))))
 (hk:∀(D:Nat) (H2:Hp),I xs H2->Nx ⟨cx.N,⟨.collected D,#[]⟩::cx.D,cx.u,none⟩ (Q .normal) env ([(D,.deferred (some []))]::(H2++R))):At P cx (.rangeFunc g ps B O) Q env H:=
 Iu I E hr hg W X.toC hA ax af hp h0 J (fun l pre x u e Hn H1 R1 r0 ⟨K,h⟩=>U l pre x K u e Hn H1 R1 r0 (by rw [h,DG];rfl)) fun D ys H2 h hI=>hk D H2 (h▸hI)
theorem iA{α:Type}{A:List A8->Prop}{P:Program}{cx:Cx}{Q:Exit->Act->A4->Prop}{env:Env}{H J H0 R:Hp}{g:Operand}{ps:Array Tmp}{assign body:Code}{gf:FuncId}{lb:AM}{B:α->AM}{xs:List α}{l0:Nat}{r0:Loop}
 (I:List α->Hp->Prop)(E:α->Env->Hp->Prop)(hr:cx.r=some l0)(j3:Has l0 (.loop r0) H)(hg:∀a,ev a env g= .func (.func gf) #[] lb)(ek:∀(args:AM) (w:A4),(callFunc gf args).run P w= .ok (.enter gf args) w)
 (gy:FC P gf lb J A B xs)(hA:∀pre H1 c,I pre H1->A ([c]++H1.flatten))(q9:∀x,(B x).size=ps.size)(pz:(ps.toList.all fun t=>Nat.blt t cx.N)=true)(hp:Ey (J++H0) H R)(h0:I [] H0)
 (O:∀(l:Nat) (x:α) (u:A4) (H:Hp),At P ⟨cx.N,[],u,some l⟩ assign (Exit.then (fun a w=>∃e Hn,E x e Hn/\Is ⟨cx.N,[],u,some l⟩ (e++env) (Hn++H) a w) (fun _ _ _=>False)) ((ps.toList.zip (B x).toList).reverse++env) H)
 (d9:∀(l:Nat) (pre:List α) (x:α) (Z:List α) (u:A4) (e:Env) (Hn H1 R1:Hp) (r1:Loop),xs=pre++x::Z->I pre H1->E x e Hn->At P ⟨cx.N,[],u,some l⟩ body (IV u I (pre++[x]) ([(l,.loop r1)]::R1)) (e++env) (H1++(Hn++([(l,.loop r1)]::R1))))
 (hk:∀(H2:Hp),I xs H2->Nx cx (Q .normal) env (H2++R)):At P cx (.rangeFunc g ps assign body) Q env H:=by
 intro a w hs;refine wpIn_rangeFunc ?_;intro fn qw;have qa:(Fx cx.r).round=some l0:=hr
 have p8:=hs.sat.get _ j3.mem;rw [qa];obtain ⟨rec,G⟩:∃rec:LoopState->Option Code->Loop,rec=fun st pe=>{state:=st,pending:=pe,fn,tmps:=(C9 env a).tmps,params:=ps,assign,body,defers:=r0.defers}:=⟨_,rfl⟩;have o8:Sat cx.u ((J++H0)++R) w:=hs.sat.perm hp.perm
 have kv:Sat cx.u ([(w.heap.size,.loop (rec .ready none))]::(J++H0++R)) (w.alloc (.loop (rec .ready none))):=o8.alloc (.loop (rec .ready none));have gq:Fit a.tmps.size env:=by rw [hs.size];exact hs.fit
 refine ⟨w.heap.size,[],w.alloc (.loop (rec .ready none)),⟨.fn (.func gf) lb,#[.func (.yield (w.heap.size)) #[] #[]]⟩,w.alloc (.loop (rec .ready none)),gf,
  #[.func (.yield (w.heap.size)) #[] #[]]++lb,w.alloc (.loop (rec .ready none)),?_,?_,fun _ _=>trivial,?_,fun h=>by simp [Fx,Fence.wide]at h,?_⟩
 · rw [G];exact run_enterLoop_inner p8 _ _ _ _ _
 · simp only [resolve,FU a env gq,hg a]
   simp [Deferred.ofValue,ev,Act.eval]
 · simp [invoke,ek]
 · refine XW ?_
   have hJ:=gy (w.heap.size) (fun pre s=>∃H1,I pre H1/\s=[(w.heap.size,.loop (rec .ready none))]++H1.flatten) (by rintro pre _ ⟨H1,h1,rfl⟩;exact hA pre H1 _ h1) ?_ _ ⟨H0,h0,rfl⟩
   · have ic:([(w.heap.size,Obj.loop (rec .ready none))]::(J++H0++R)).flatten.Perm ((J++[[(w.heap.size,Obj.loop (rec .ready none))]++H0.flatten])++R).flatten:=by
      simp only [Cp,HR,PJ,S6,Mu,GC,DQ,DG];exact T5.symm
     refine Calls.mono (hJ cx.u R _ (kv.perm ic)) fun e w2 he=>?_;rcases he with⟨v,H',rfl,⟨s',rfl,H2,cO,rfl⟩,l5⟩|⟨_,_,_,h,_⟩
     · have X:Sat cx.u ([(w.heap.size,Obj.loop (rec .ready none))]::(H2++R)) w2:=by
        refine l5.perm ?_;simp
       have hl:=X.get (w.heap.size,Obj.loop (rec .ready none)) B6;have U:=run_endLoop (P:=P) hl (by rw [G];simp)
       have pq:(rec .ready none).pending=none:=by rw [G]
       have ow:=hk H2 cO a (w2.putObj w.heap.size (.loop {rec .ready none with state:= .exhausted}))
        ⟨hs.size,hs.defers,hs.fit,(X.turn (o':= .loop {rec .ready none with state:= .exhausted})).sub ⟨[(w.heap.size,.loop {rec .ready none with state:= .exhausted})],by
          simp only [Cp];exact OS⟩⟩
       refine ⟨_,_,U,?_⟩;have key:∀(p:Option Code) (A:Act) (W:A4),p=none->Q .normal A W->(match p with|none=>Q .normal A W|some c=>c.wpIn (Fx cx.r) 0 P Q A W):=fun p A W h1 h2=>by subst h1;exact h2
       refine key _ _ _ pq ?_;exact ow
     · exact h.elim
   · rintro pre x Z s qo ⟨H1,hI,rfl⟩ u R1 w1 ql K Kp hK
     have cu:Sat u ([(w.heap.size,Obj.loop (rec .ready none))]::(H1++R1)) w1:=by
      refine ql.perm ?_;simp
     have hl:=cu.get (w.heap.size,Obj.loop (rec .ready none)) B6;have hy:=run_yield (P:=P) (args:=B x) hl (by rw [G];exact q9 x)
     rw [hy];show RoundIn Fence.wide 0 P (w.heap.size) _ _ _ _ w1 _
     rw [G];refine roundIn_of_wpIn (F:=Fence.wide) trivial ?_;have qj:({tmps:=(ps.zip (B x)).foldl (fun tmps x=>match x with|(t,a)=>tmps.setIfInBounds t a) (C9 env a).tmps,defers:=[]}:Act)=C9 ((ps.toList.zip (B x).toList).reverse++env) {a with defers:=[]}:=by
      rw [JS,FE [] env a];have h1:(ps.zip (B x)).foldl (fun tmps x=>match x with|(t,a)=>tmps.setIfInBounds t a) (C9 env a).tmps=(C9 (ps.toList.zip (B x).toList).reverse (C9 env a)).tmps:=by
       rw [<-Nf,<-qT,Array.toList_zip]
      rw [h1,FE [] _ (C9 env a)]
     have gm:Fit cx.N ((ps.toList.zip (B x).toList).reverse++env):=by
      intro q hq;rcases CI.1 hq with hq|hq
      · have:=gS.1 hq
        have h2:=Pc.1 pz q.1 (List.of_mem_zip this).1;simpa using h2
      · exact hs.fit q hq
     have ha:=O (w.heap.size) x u ([(w.heap.size,Obj.loop (rec .ready none))]::(H1++R1)) {a with defers:=[]} w1 ⟨hs.size,rfl,gm,cu⟩;rw [<-qj]at ha;refine wpIn_mono ha fun e a1 w2 he=>?_;cases e<;>first|exact he|skip
     obtain ⟨e9,Hn,hE,a2,af,rfl⟩:=he;have bn:Sat u ([(w.heap.size,Obj.loop (rec .ready none))]::(H1++(Hn++R1))) w2:=by
      refine af.sat.perm ?_;simp only [Cp,HR,PJ];refine T5.trans (List.Perm.cons _ ?_);rw [<-DG,<-DG];exact OS.append_right _
     have p9:=bn.get (w.heap.size,Obj.loop (rec .ready none)) B6;refine ⟨_,run_beginRound p9 (by rw [G]),?_⟩;have o9:Sat u (H1++(Hn++([(w.heap.size,Obj.loop {rec .ready none with state:= .busy})]::R1))) (w2.putObj (w.heap.size) (.loop {rec .ready none with state:= .busy})):=by
      refine (bn.turn (o':= .loop {rec .ready none with state:= .busy})).perm ?_;simp only [Cp,HR,PJ];rw [<-DG,<-DG];exact T5.symm
     have hb:=d9 (w.heap.size) pre x Z u e9 Hn H1 R1 _ qo hI hE a2 _ ⟨af.size,af.defers,af.fit,o9⟩;refine wpIn_mono hb fun e a3 w3 l8=>?_;cases e<;>first|exact l8.elim|skip
     obtain ⟨H2,cO,qb⟩:=l8;have ax:Sat u ([(w.heap.size,Obj.loop {rec .ready none with state:= .busy})]::(H2++R1)) w3:=by
      refine qb.perm ?_;simp only [Cp,HR,PJ];exact T5
     have pg:=ax.get (w.heap.size,Obj.loop {rec .ready none with state:= .busy}) B6;have U:=run_endRound (P:=P) none pg
     refine ⟨_,_,U,?_⟩;refine hK _ _ _ ⟨[(w.heap.size,.loop (rec .ready none))]++H2.flatten,V,V,H2,cO,V⟩ ?_;have l9:=ax.turn (o':= .loop (rec .ready none))
     have j5:({{rec .ready none with state:=LoopState.busy}with state:=if(none:Option Code).isNone=true then LoopState.ready else .done,pending:=none}:Loop)=rec .ready none:=by rw [G];rfl
     rw [j5];refine l9.perm ?_;simp
def Mj{α:Type}(P:Program)(gf:FuncId)(lb:AM)(Hit:Hp)(A:List A8->Prop)(encs:α->AM)(xs:List α):Prop:=
 ∀(l:Nat) (J Jx:List α->List A8->Prop),(∀pre s,J pre s->A s)->(∀pre x post s,xs=pre++x::post->J pre s->GG P l (encs x) [s] (fun v H'=>∃s',H'=[s']/\((v= .bool true/\J (pre++[x]) s')\/(v= .bool false/\Jx (pre++[x]) s'))))->
  ∀s,J [] s->BQ P gf (#[.func (.yield l) #[] #[]]++lb) (Hit++[s]) (fun _ H'=>∃s',H'=[s']/\(J xs s'\/∃pre,Jx pre s'))
theorem Mj.all{α:Type}{P:Program}{X:FuncId}{Z:AM}{G:Hp}{A:List A8->Prop}{B:α->AM}{xs:List α}(h:Mj P X Z G A B xs):FC P X Z G A B xs:=fun l J hA hy s h0=>by
 refine (h l J (fun _ _=>False) hA (fun pre x O s hx hj=>?_) s h0).mono ?_
 · intro u R w hs K Kp hK
   refine hy pre x O s hx hj u R w hs K Kp fun v H' w' hq I=>hK v H' w' ?_ I;obtain ⟨W,U,h2,h3⟩:=hq;exact ⟨W,h2,.inl ⟨U,h3⟩⟩
 · rintro v H' ⟨W,U,h2|⟨_,h2⟩⟩
   · exact ⟨W,U,h2⟩
   · exact h2.elim
theorem Xc{α:Type}{A:List A8->Prop}{P:Program}{cx:Cx}{Q:Exit->Act->A4->Prop}{env:Env}{H ax H0 R:Hp}{g:Operand}{ps:Array Tmp}{G U:Code}{gf:FuncId}{lb:AM}{K:α->AM}{xs:List α}
 (I Ix:List α->Hp->Prop)(E:α->Env->Hp->Prop)(hr:cx.r=none)(hg:∀a,ev a env g= .func (.func gf) #[] lb)(Z:∀(args:AM) (w:A4),(callFunc gf args).run P w= .ok (.enter gf args) w)
 (af:Mj P gf lb ax A K xs)(hA:∀pre H1 c d,I pre H1->A ([c,d]++H1.flatten))(d9:∀x,(K x).size=ps.size)(cO:(ps.toList.all fun t=>Nat.blt t cx.N)=true)(hp:Ey (ax++H0) H R)(h0:I [] H0)
 (O:∀(l:Nat) (x:α) (u:A4) (H:Hp),At P ⟨cx.N,[],u,some l⟩ G (Exit.then (fun a w=>∃e Hn,E x e Hn/\Is ⟨cx.N,[],u,some l⟩ (e++env) (Hn++H) a w) (fun _ _ _=>False)) ((ps.toList.zip (K x).toList).reverse++env) H)
 (X:∀(l:Nat) (pre:List α) (x:α) (B:List α) (u:A4) (e:Env) (Hn H1 R1:Hp) (r0:Loop),xs=pre++x::B->I pre H1->E x e Hn->At P ⟨cx.N,[],u,some l⟩ U (KJ u I Ix (pre++[x]) ([(l,.loop r0)]::R1)) (e++env) (H1++(Hn++([(l,.loop r0)]::R1))))
 (hk:∀(D:Nat) (W:Hp),I xs W->Nx ⟨cx.N,⟨.collected D,#[]⟩::cx.D,cx.u,none⟩ (Q .normal) env ([(D,.deferred (some []))]::(W++R)))
 (cu:∀(D:Nat) (pre:List α) (W:Hp),Ix pre W->Nx ⟨cx.N,⟨.collected D,#[]⟩::cx.D,cx.u,none⟩ (Q .ret) env ([(D,.deferred (some []))]::(W++R))):At P cx (.rangeFunc g ps G U) Q env H:=
 Mh (Hk:=[]) (A:=fun _=>A) (St:=True) (Adm:=fun p=>∃B,xs=p++B) (Full:=fun ys=>ys=xs) (Enc:=yR K) I Ix (fun x _ _ e Hn=>E x e Hn) hr hg Z (fun l J Jx bn _ hy s h9=>(af l J Jx bn (fun pre x B s hx hj=>NH (hy pre x s _ [] ⟨B,by rw [hx,DG];rfl⟩ hj ⟨rfl,rfl⟩) fun _ _ h=>h) s h9).mono (by rintro v H' ⟨s',h1,h2⟩;exact ⟨s',h1,h2.imp (fun h=>⟨xs,rfl,h⟩) id⟩)) (fun _ _ _=>trivial) hA (fun x vs sx he=>by rw [he.1];exact d9 x) cO hp h0
  (fun l x vs sx u H he=>by obtain ⟨rfl,rfl⟩:=he;exact O l x u H)
  (fun l pre x u vs sx e Hn H1 R1 r0 ⟨B,hx⟩ hI he hE=>by
    obtain ⟨rfl,rfl⟩:=he;exact Tw (X l pre x B u e Hn H1 R1 r0 (by rw [hx,DG];rfl) hI hE) fun f h h1 h2=>by simp only [Cp,HR,GC,h,h1,h2];omega) (fun D ys W hf hI=>by rw [hf]at hI;exact hk D W hI) cu
theorem Tu{P:Program}{cx:Cx}{G:Code}{Q:Exit->Act->A4->Prop}{env:Env}{M s1 s2:List A8}{H R:Hp}(I:One M H R)(J:M.Perm (s1++s2))(k:At P cx G Q env (s1::s2::R)):At P cx G Q env H:=fun a w B=>
 k a w ⟨B.size,B.defers,B.fit,B.sat.perm (by
   have:=I.perm.trans (pL R.flatten J);simpa only [Cp,DG]using this)⟩
def U9{κ:Type} [DecidableEq κ](sz:Nat)(e:AK)(lm:List (κ×A2))(n:κ->Nat)(xs:κ->List A2)(M:List A8):Prop:=
 ∃seg:κ->List A8,(∀k,BX sz e ((EL k lm).getD (.slice none 0 0)) (n k) (xs k) (seg k))/\M.Perm ((lm.map (·.1)).flatMap seg)
theorem aC{κ:Type} [DecidableEq κ](sz:Nat)(e:AK):U9 sz e ([]:List (κ×A2)) (fun _=>0) (fun _=>[]) []:=⟨fun _=>[],fun _=>Bi _ _,.refl _⟩
theorem Q5{κ:Type} [DecidableEq κ]{sz:Nat}{e:AK}{lm:List (κ×A2)}{n:κ->Nat}{xs:κ->List A2}{M:List A8}(hk:(lm.map (·.1)).Nodup)(h:U9 sz e lm n xs M)(k:κ):
 ∃s M',BX sz e ((EL k lm).getD (.slice none 0 0)) (n k) (xs k) s/\M.Perm (s++M')/\∀(v':A2) (Z:List A8) (n':Nat) (xs':List A2) (B:List (κ×A2)),(B.map (·.1)).Nodup->(∀p,p∈B↔p=(k,v')\/(p∈lm/\p.1≠k))->BX sz e v' n' xs' Z->
  U9 sz e B (fun x=>if x=k then n' else n x) (fun x=>if x=k then xs' else xs x) (Z++M'):=by
 obtain ⟨G,hr,hM⟩:=h;refine ⟨G k,((lm.map (·.1)).filter fun x=>decide (x≠k)).flatMap G,hr k,hM.trans ?_,?_⟩
 · by_cases U:k∈lm.map (·.1)
   · have J:(lm.map (·.1)).Perm (k::(lm.map (·.1)).filter fun x=>decide (x≠k)):=(Sh hk (JT.2 ⟨by simp,hk.sublist Z1⟩)).2 fun a=>by
      by_cases W:a=k
      · subst W;simp only [Dg,true_or,iff_true];exact U
      · simp only [Dg,GP,W,false_or,H4,ne_eq,jt,eM]
     have h2:=J.flatMap_right G;rwa [IH]at h2
   · have h0:=hr k
     rw [DN fun p K X=>U (CM.2 ⟨p,K,X⟩)]at h0;have hs:G k=[]:=by
      rcases h0 with⟨_,⟨_,_,h⟩|⟨g,cap,cur,z,h,_⟩⟩
      · exact h
      · simp at h
     have hf:((lm.map (·.1)).filter fun x=>decide (x≠k))=lm.map (·.1):=eV.2 fun a W=>by
      simp only [H4];intro h;subst h;exact U W
     rw [hs,hf];exact .refl _
 · intro v' Z n' xs' B O K af
   refine ⟨fun x=>if x=k then Z else G x,fun x=>?_,?_⟩
   · by_cases hx:x=k
     · subst hx
       simp only [J1];rw [Cw O ((K _).2 (.inl rfl))];exact af
     · simp only [As hx]
       have hg:EL x B=EL x lm:=by
        by_cases U:∃v,(x,v)∈lm
        · obtain ⟨v,hv⟩:=U
          rw [Cw hk hv,Cw O ((K _).2 (.inr ⟨hv,hx⟩))]
        · rw [DN (l:=lm) fun p I X=>U ⟨p.2,by rw [<-X];exact I⟩,DN (l:=B) fun p I X=>by
           rcases (K p).1 I with rfl|⟨J,_⟩
           · exact hx X.symm
           · exact U ⟨p.2,by rw [<-X];exact J⟩]
       rw [hg];exact hr x
   · have J:(B.map (·.1)).Perm (k::(lm.map (·.1)).filter fun x=>decide (x≠k)):=(Sh O (JT.2 ⟨by simp,hk.sublist Z1⟩)).2 fun a=>by
      simp only [Dg,GP,CM,H4];constructor
      · rintro ⟨p,I,rfl⟩
        rcases (K p).1 I with rfl|⟨J,h2⟩
        · exact .inl rfl
        · exact .inr ⟨⟨p,J,rfl⟩,h2⟩
      · rintro (rfl|⟨⟨p,J,rfl⟩,h2⟩)
        · exact ⟨_,(K _).2 (.inl rfl),rfl⟩
        · exact ⟨p,(K p).2 (.inr ⟨J,h2⟩),rfl⟩
     have h2:=J.flatMap_right fun x=>if x=k then Z else G x
     rw [IH,B0 rfl]at h2;refine List.Perm.symm (h2.trans ?_);rw [List.flatMap_def,List.flatMap_def,W6 (g:=G) fun a W=>?_];rw [As (by simpa using(GP.1 W).2)]
theorem U9.row{κ:Type} [DecidableEq κ]{sz:Nat}{e:AK}{lm:List (κ×A2)}{n:κ->Nat}{xs:κ->List A2}{M:List A8}(h:U9 sz e lm n xs M)(k:κ):∃s,BX sz e ((EL k lm).getD (.slice none 0 0)) (n k) (xs k) s/\∀c∈s,c∈M:=by
 obtain ⟨B,I,J⟩:=h;refine ⟨B k,I k,fun c hc=>J.mem_iff.2 ?_⟩;by_cases G:k∈lm.map (·.1);· exact T6.2 ⟨k,G,hc⟩
 · have h0:=I k
   rw [DN fun p O K=>G (CM.2 ⟨p,O,K⟩)]at h0;rcases h0 with⟨_,⟨_,_,h⟩|⟨g,cap,cur,z,h,_⟩⟩
   · rw [h]at hc;cases hc
   · simp at h
def Kv(D:Nat):A8:=(D,.deferred (some []))
def vZ(N:Nat)(u:A4)(I:Nat->Env->Hp->Prop)(B:Env)(R:Hp)(n:Nat)(a:Act)(w:A4):Prop:=∃m e H Ds a0,m<n/\I m e H/\St ⟨N,JZ Ds,u,none⟩ (e++B) (Ds.map Kv::(H++R)) a0 w/\a=C9 (e++B) a0
theorem vJ{P:Program}{N:Nat}{u:A4}{Q:Exit->Act->A4->Prop}{c:Code}{e0 B:Env}{H H0 R:Hp}(I:Nat->Env->Hp->Prop){n:Nat}(h0:I n e0 H0)(hp:Ey H0 H R)(O:∀(Ds:List Nat) n e H,I n e H->At P ⟨N,JZ Ds,u,none⟩ c (Exit.then (vZ N u I B R n) Q) (e++B) (Ds.map Kv::(H++R))):At P ⟨N,[],u,none⟩ (.loop c) Q (e0++B) H:=by
 intro a w U b k cs cO hb hr;have key:∀n Ds e H a w,I n e H->St ⟨N,JZ Ds,u,none⟩ (e++B) (Ds.map Kv::(H++R)) a w->
  ∃x Z w',Q x Z w'/\ArrivesIn (Machine.fenced P (Fx none)) P (lone (b.atR (C9 (e++B) a) (.code c:: .inLoop c::k)) cs w) b k cs x Z w':=by
  intro n;induction n using Nat.strongRecOn with
  |_ n ih=>
   intro Ds e H a w hI U;obtain ⟨x,X,W,J,G⟩:=O Ds n e H hI a w U b (.inLoop c::k) cs cO hb hr;cases x with
   |normal=>
    obtain ⟨m,e',H',af,a0,bn,ax,d9,rfl⟩:=J;obtain ⟨e₂,a₂,w₂,cu,K⟩:=ih m bn af e' H' a0 W ax d9;exact ⟨e₂,a₂,w₂,cu,.of_steps (StepsIn.trans G (.one (fenced_calm hb hr V) stepR_inLoop)) K⟩
   |exit id=>exact ⟨_,X,W,J,.pass (x:= .inLoop c) rfl (fun _ _=> .inl B6) G⟩
   |goto l=>exact ⟨_,X,W,J,.pass (x:= .inLoop c) rfl (fun _ _=> .inl B6) G⟩
   |ret=>exact ⟨_,X,W,J,.pass (x:= .inLoop c) rfl (fun _ _=> .inl B6) G⟩
   |panic ch=>exact ⟨_,X,W,J,.pass (x:= .inLoop c) rfl (fun _ _=> .inl B6) G⟩
   |outgrown=>exact ⟨_,X,W,J,.pass (x:= .inLoop c) rfl (fun _ _=> .inl B6) G⟩
 obtain ⟨x,Z,w',J,G⟩:=key n [] e0 H0 a w h0 ⟨U.size,U.defers,U.fit,U.sat.perm (by simpa using hp.perm)⟩;exact ⟨x,Z,w',J,.of_steps (.one (fenced_calm hb hr V) stepR_loop) G⟩
theorem eO{N:Nat}{u:A4}{Q:Exit->Act->A4->Prop}{I:Nat->Env->Hp->Prop}{B e':Env}{R H H1 K H':Hp}{n m D:Nat}{Ds:List Nat}(h:I m e' H')(O:One [(D,.deferred (some []))] H H1)(h2:One (Ds.map Kv) H1 K)(W:m<n:=by omega)(X:Sub (H'++R) K:=by repeat(first|exact Sub.refl _|exact Sub.nil _|(apply Sub.cons;(focus (repeat(first|exact One.here _ _|apply One.there))))|refine Sub.drop _ ?_)):
 Nx ⟨N,⟨.collected D,#[]⟩::JZ Ds,u,none⟩ ((Exit.then (vZ N u I B R n) Q) .normal) (e'++B) H:=fun a w J=>by
 have G:Sat u (((D::Ds).map Kv)::K) w:=J.sat.perm (by
  refine O.perm.trans ?_;have:=h2.perm
  simp only [Cp,F2,S6,PJ]at this⊢;exact this.cons _)
 refine ⟨m,e',H',D::Ds,a,W,h,⟨J.size,J.defers,J.fit,G.sub ?_⟩,V⟩;obtain ⟨Z,U⟩:=X.amid;exact ⟨Z,by simp only [Cp,DG];exact Sp _ U⟩
theorem rZ{P:Program}{N:Nat}{u:A4}{fn:Func}{R H H0 H':Hp}{Q:A2->Hp->Prop}{Pn:List PanicEntry->Hp->Prop}{env:Env}{e:Exit}{Ds:List Nat}{v:A2}(he:Fa e=true)(hr:Res P fn env v)(hd:One (Ds.map Kv) H H0)(hq:Q v H')(hp:Sub (H'++R) H0:=by repeat(first|exact Sub.refl _|exact Sub.nil _|(apply Sub.cons;(focus (repeat(first|exact One.here _ _|apply One.there))))|refine Sub.drop _ ?_)):
 Nx ⟨N,JZ Ds,u,none⟩ (bodyPostM Fence.wide 0 P fn (GV u R Q Pn) e) env H:=fun a w O=>by
 have X:(C9 env a).defers=JZ Ds:=by rw [Fh];exact O.defers
 have J:Sat u (Ds.map Kv::(H'++R)) w:=by
  refine (O.sat.perm (by simpa using hd.perm):Sat u (Ds.map Kv::H0) w).sub ?_;obtain ⟨Z,hZ⟩:=hp.amid;exact ⟨Z,by simp only [Cp,DG];exact Sp _ hZ⟩
 have G:∀(Ds:List Nat) (w:A4),Sat u (Ds.map Kv::(H'++R)) w->LeavesInM Fence.wide 0 P fn (C9 env a).tmps (GV u R Q Pn) (JZ Ds) .returning w:=by
  intro Ds;induction Ds with
  |nil=>intro w U;exact ⟨v,hr a w (by rw [O.size];exact O.fit),.inl ⟨v,H',rfl,hq,U.perm B6⟩⟩
  |cons D Ds ih=>
   intro w U;have K:Sat u ([(D,.deferred (some []))]::(Ds.map Kv::(H'++R))) w:=by
    refine U.perm ?_;simp [Kv]
   have I:=K.get (D,.deferred (some [])) B6;have W:Sat u (Ds.map Kv::(H'++R)) (w.putObj D (.deferred none)):=(K.turn (o':= .deferred none)).sub ⟨[(D,.deferred none)],by simp only [Cp];exact OS⟩
   refine ⟨by simp [JZ],.inl ⟨D,_,V,Y9 I,?_⟩⟩;exact ih _ W
 have B:=G Ds w J;rw [<-X]at B;cases e<;>first|exact B|simp [Fa]at he
section
variable{P:Program}{u:A4}{env:Env}{H:Hp}{d:Option Nat}{ty:AK}{pos:String}{af:Array Edge}{g:Option (Nat×Bool)}
theorem WO{t e l c by_ sz:Nat}{x y:Operand}{z:A2}{i:TypeInfo}{k k':IntKind}(hu:P.underlying t=some (.slice e))(hi:P.info? e=some i)(hs:i.size=sz)(O:i.bytes=by_)(U:i.zero=some z)
 (hx:∀a,ev a env x= .int k (l:Int))(hy:∀a,ev a env y= .int k' (c:Int))(ax:l<=c)(hc:c<=9223372036854775807)(hb:by_*c<=281474976710656):
 OpW P u ⟨d,.makeSlice t x y,ty,pos,af,g⟩ env H (fun v' H1=>∃b cur,v'=I2 b l c/\cur.size=c*sz/\H1=[(b,.cells cur e (0,0))]::H) (fun _ _=>False):=fun a w I K Kp hK _=>by
 have w1:IntKind.i64.wrap (l:Int)=(l:Int):=EE _ (by omega);have w2:IntKind.i64.wrap (c:Int)=(c:Int):=EE _ hc
 have J:¬((281474976710656:Int)<(by_:Int)*(c:Int)):=by
  rw [<-nw];omega
 have X:¬((c:Int)<0):=by omega
 have Z:¬((l:Int)<0):=by omega
 have h5:¬((c:Int)<(l:Int)):=by omega
 have B:∃cur:AM,cur.size=c*sz/\(Instr.makeSlice t (ev a env x) (ev a env y)).run P w= .ok (.slice (some ⟨w.heap.size,0,none⟩) l c) {w with heap:=w.heap.push (.cells cur e)}:=by
  refine ⟨(Array.range (c*sz)).map ((if c*sz=0 then(#[]:AM)else z.cells)[·%(if c*sz=0 then(#[]:AM)else z.cells).size]!),by simp,?_⟩;rw [hx a,hy a];unfold Instr.makeSlice;simp only [Sem.run_bind,run_underlying hu,Result.andThen_ok,asInt,asIntOf,Sem.run_pure,typeInfo,run_program,hi,O,w1,w2];simp only [X,Z,h5,J,gt_iff_lt,Nat.reducePow,dd,gx,Of,Hi,Int.reducePow,Int.cast_ofNat_Int];simp only [Sem.run_bind,run_askRoom,Result.andThen_ok,Go.sizeOf,typeInfo,run_program,hi,Sem.run_pure,hs,Z2];by_cases h0:c*sz=0;· simp [h0,newRow]
  · have W:(zeroValue e).run P w= .ok z w:=by simp [zeroValue,typeInfo,hi,U]
    simp only [h0,Hi,Sem.run_bind,W,Result.andThen_ok,Sem.run_pure,newRow,run_newObj]
 obtain ⟨cur,G,B⟩:=B;have:(execOp (ev a env) ⟨d,.makeSlice t x y,ty,pos,af,g⟩).run P w= .ok (.value (.slice (some ⟨w.heap.size,0,none⟩) l c)) {w with heap:=w.heap.push (.cells cur e)}:=by
  rw [QE,Sem.run_bind,B];rfl
 rw [this];exact hK _ _ _ ⟨_,cur,V,G,V⟩ (I.alloc _)
theorem kD{sz:Nat}{e:AK}{g c:Nat}{cur:AM}(h:c<=maxLen)(B:cur.size=c*sz):BX sz e (I2 g 0 c) 0 [] [(g,.cells cur e (0,0))]:=
 ⟨by simp,.inr ⟨g,c,cur,(0,0),rfl,rfl,C7 _,h,B,by simp,BA _⟩⟩
end
def EqT(P:Program)(k:Nat)(t:AK)(v u:A2)(b:Bool):Prop:=∀(n:Nat) (w:A4),(Op.equalIn (n+k) t v u).run P w= .ok b w
section
variable{P:Program}{t e:AK}
theorem Ip(B:P.underlying e=some (.int .i64))(m k:Int):EqT P 2 e (I0 m) (I0 k) (decide (m=k)):=fun n w=>RA (n+1) w B m k
theorem aJ(B:P.underlying e=some .bool)(a b:Bool):EqT P 2 e (.bool a) (.bool b) (decide (a=b)):=fun n w=>by
 show(Op.equalIn ((n+1)+1) e _ _).run P w=_;simp [Op.equalIn,run_underlying B];cases a<;>cases b<;>rfl
theorem aK(J:P.underlying t=some (.array 3 e))(G:P.underlying e=some (.int .i64))(B:∀w:A4,(isAgg e).run P w= .ok false w)(I:∀w:A4,(Go.sizeOf e).run P w= .ok 1 w)(x y:V3):
 EqT P 2 t (.agg #[I0 x.a,I0 x.b,I0 x.c]) (.agg #[I0 y.a,I0 y.b,I0 y.c]) (decide (x=y)):=fun n w=>RB w n x y J G B I
def XP(d:Nat)(xs ys:AM)(L:List Field):Sem Bool:=do
 for f in L do
  if f.name≠ "_" then
   if !(<-Op.equalIn d f.type (<-part f.type xs f.offset) (<-part f.type ys f.offset))then return false
 pure true
inductive FEq(P:Program)(xs ys:AM):List Field->List Bool->Prop
 |nil:FEq P xs ys [] []
 |cons {f:Field} {v u:A2} {b:Bool} {fs:List Field} {bs:List Bool} (hn:f.name≠ "_") (hx:∀w:A4,(part f.type xs f.offset).run P w= .ok v w) (hy:∀w:A4,(part f.type ys f.offset).run P w= .ok u w) (h:EqT P 2 f.type v u b) (k:FEq P xs ys fs bs):FEq P xs ys (f::fs) (b::bs)
theorem gD{xs ys:AM}{fs:List Field}{bs:List Bool}(h:FEq P xs ys fs bs)(n:Nat)(w:A4):(XP (n+2) xs ys fs).run P w= .ok (bs.all id) w:=by
 induction h with
 |nil=>simp [XP]
 |cons hn hx hy h k ih=>
  unfold XP at*;rw [nt];simp only [hn,ne_eq,jt,J1,Sem.run_bind,hx,hy,h n w,Result.andThen_ok,List.all_cons,id];rename_i b _ _;cases b;· simp
  · simpa using ih
theorem TZ{fs:Array Field}{xs ys:AM}{bs:List Bool}{b:Bool}(J:P.underlying t=some (.struct fs))(B:P.stoodInHeld t=false)(h:FEq P xs ys fs.toList bs)(I:bs.all id=b):EqT P 3 t (.agg xs) (.agg ys) b:=fun n w=>by
 show(Op.equalIn ((n+2)+1) t _ _).run P w=_;rw [Op.equalIn];simp only [Sem.run_bind,run_underlying J,Result.andThen_ok,run_program,B,Of,Hi];rw [<-qn,<-I];have G:=gD h n w
 unfold XP at G;simpa only [Sem.run_bind]using G
theorem DF{xs:AM}{j:Nat}{v:A2}(B:∀w:A4,(isAgg e).run P w= .ok false w)(h:xs[j]?=some v):∀w:A4,(part e xs j).run P w= .ok v w:=fun w=>FV w (B w) _ _ h
theorem OX{xs:AM}{j n:Nat}{cs:AM}(B:∀w:A4,(isAgg e).run P w= .ok true w)(G:∀w:A4,(Go.sizeOf e).run P w= .ok n w)(h:xs.extract j (j+n)=cs)(hn:j+n<=xs.size):∀w:A4,(part e xs j).run P w= .ok (.agg cs) w:=fun w=>by
 simp [part,B,G,h]
end
section
variable{P:Program}{u:A4}{env:Env}{H R:Hp}{d:Option Nat}{ty:AK}{pos:String}{af:Array Edge}{g:Option (Nat×Bool)}
theorem rF{t yt:AK}{x y:Operand}{p q:AM}{b:Bool}(B:P.eqGuardType P.depth t=false)(hx:∀a,ev a env x= .agg p)(hy:∀a,ev a env y= .agg q)(h:EqT P 3 t (.agg p) (.agg q) b):OpP P ⟨d,.binOp .neq t x y yt,ty,pos,af,g⟩ env [] (.bool (!b)):=fun a w _=>by
 simp [Cm,hx a,hy a,go_sem,run_eqGuard_agg w _ t _ _ _ _ B,Lx,Op.equal,Op.maxDepth,h 9997 w]
end
end Gw
