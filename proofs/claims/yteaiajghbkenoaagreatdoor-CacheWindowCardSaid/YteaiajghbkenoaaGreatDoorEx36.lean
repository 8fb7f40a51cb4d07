/- Walking by chunks: a range over a function; the end of a function that holds one. No function of the program is named. -/
/- Walking by chunks: append of a part of a slice whose elements are of several cells, to an own slice. No function of the program is named. -/
/- Walking by chunks: append to a part of a row whose capacity is its length: a new row. No function of the program is named. -/
/- Walking by chunks: maps, with keys of any type that has a law of keys (structs of integers too): made, looked up, stored to, deleted from, counted. No function of the program is named. -/
/- Walking by chunks: range over a map that is not changed meanwhile. No function of the program is named. -/
/- Regions that draw their order, walked once in the order of the text; the world passes through stages. No function of the program is named. -/
/- Walking by chunks: a row of elements of several cells behind a sort with a function. No function of the program is named. -/
/- Walking by chunks: rows and lists of six numbers compared. No function of the program is named. -/
/- Walking by chunks: a load out of a segment in a region that draws; the same memory cut otherwise. No function of the program is named. -/
/- Walking by chunks: a range over a function whose variables lie in memory. No function of the program is named. -/
/- Walking by chunks: a range over a function that hands on values with memory of their own. No function of the program is named. -/
/- Walking by chunks: append of what lies in a memory that is read by membership, to an own slice whose elements are of several cells. No function of the program is named. -/
/- Walking by chunks: elements of several cells: copy, append of zero elements, clear of a part, a part of an own row overwritten; slices.overlaps. No function of the program is named. -/
/- Walking by chunks: entries of a map literal; pointers that may be nil, compared with nil. No function of the program is named. -/
/- Walking by chunks: what strings.Builder does: a string appended to own bytes, unsafe pointers, unsafe.String. No function of the program is named. -/
/- Walking by chunks: a deferred call, recover. No function of the program is named. -/
/- Walking by chunks: two deferred calls, the last of which leaves memory as it was; a deferred call with an argument, one that does not recover. No function of the program is named. -/
/- Walking by chunks: structs of four numbers compared. No function of the program is named. -/
/- Walking by chunks: a store at a chunk of a segment that is read by membership. No function of the program is named. -/
/- Walking by chunks: an entry of a map at hand, and a store to it (m[k] = append(m[k], ..)). No function of the program is named. -/
/- Walking by chunks: a range over a function within a range over a function; one that is left by return. No function of the program is named. -/
/- Walking by chunks: a map's rows as one segment. No function of the program is named. -/
/- Walking by chunks: a loop whose rounds hold ranges over functions. No function of the program is named. -/
import Derived.Test.YteaiajghbkenoaaGreatDoorEz
import Derived.Test.YteaiajghbkenoaaGreatDoorEx5
import Derived.RangeFuncLeaves
import Derived.RangeFuncRecord
import Derived.DeepKeys3
import Derived.WideKeyMaps
import Derived.MapKept
import Derived.Maps.RangeRun
import Derived.Orders
import Derived.Lib.Hide
import Derived.Shelf.GgSortFunc.RowK
import Derived.Shelf.GgSortFunc.InsertionK
import Derived.Scope
import Derived.Lib.AppendZerosOnto
import Derived.Lib.Overlaps
import Derived.Lib.AppendStr
import Derived.Lib.UnsafeStr
import Derived.Lib.Builder
import Derived.Laws.Externs
import Derived.RecoverIn
import Derived.Test.YteaiajghbkenoaaGreatDoorEx3
import Derived.RangeFuncNested
set_option linter.unusedVariables false
set_option linter.unusedSimpArgs false
namespace Gw
open Go Go.RowKit
def Ff(P:Program)(l:Nat)(args:Array Value)(H:Hp)(Q:Value->Hp->Prop):Prop:=
 ∀(u:World) (R:Hp) (w:World),Sat u (H++R) w->∀(K:Value->World->Prop) (Kp:List PanicEntry->World->Prop),(∀v H' w',Q v H'->Sat u (H'++R) w'->K v w')->Ww P K Kp ((Instr.yield l args).run P w)
section
variable{P:Program}{u:World}{env:Env}{H R:Hp}{d:Option Nat}{ty:TypeId}{pos:String}{af:Array Edge}{g:Option (Nat×Bool)}
theorem Fz{fx:Operand}{aq:Array Operand}{ats:Array TypeId}{l:Nat}{vs:List Value}{Hf:Hp}{Q:Value->Hp->Prop}
 (hf:∀a,ev a env fx= .func (.yield l) #[] #[])(ha:∀a,aq.toList.map (ev a env)=vs)(hsp:Ff P l vs.toArray Hf Q)(hp:EY Hf H R):
 OpW P u ⟨d,.call ⟨.value fx,aq,ats⟩,ty,pos,af,g⟩ env H (fun v H'=>∃H1,Q v H1/\H'=H1++R) (fun _ _=>False):=fun a w hs K Kp hK _=>by
 have h1:aq.map (ev a env)=vs.toArray:=by rw [<-ha a];exact Iy _ aq
 have:(execOp (ev a env) ⟨d,.call ⟨.value fx,aq,ats⟩,ty,pos,af,g⟩).run P w=(Instr.yield l vs.toArray).run P w:=by
  simp [Dj,resolve,hf a,Deferred.ofValue,invoke,h1]
 rw [this];exact hsp u R w (hs.perm hp.perm) K Kp fun v H' w' hq hsat=>hK v _ w' ⟨H',hq,V⟩ hsat
end
def TQ{α:Type}(P:Program)(gf:FuncId)(lb:Array Value)(Hit:Hp)(encs:α->Array Value)(xs:List α):Prop:=
 ∀(l:Nat) (J:List α->List A8->Prop),(∀pre x post s,xs=pre++x::post->J pre s->Ff P l (encs x) [s] (fun v H'=>∃s',v= .bool true/\H'=[s']/\J (pre++[x]) s'))->
  ∀s,J [] s->BR P gf (#[.func (.yield l) #[] #[]]++lb) (Hit++[s]) (fun _ H'=>∃s',H'=[s']/\J xs s')
def Ep{α:Type}(P:Program)(gf:FuncId)(lb:Array Value)(Hit:Hp)(A:List A8->Prop)(encs:α->Array Value)(xs:List α):Prop:=
 ∀(l:Nat) (J:List α->List A8->Prop),(∀pre s,J pre s->A s)->(∀pre x post s,xs=pre++x::post->J pre s->Ff P l (encs x) [s] (fun v H'=>∃s',v= .bool true/\H'=[s']/\J (pre++[x]) s'))->
  ∀s,J [] s->BR P gf (#[.func (.yield l) #[] #[]]++lb) (Hit++[s]) (fun _ H'=>∃s',H'=[s']/\J xs s')
def Is(cx:Cx)(env:Env)(H:Hp)(a:Act)(w:World):Prop:=∃a0,St cx env H a0 w/\a=Bz env a0
theorem nS{cx:Cx}{env:Env}{H:Hp}{Q:Exit->Act->World->Prop}:Nx cx ((Exit.then (Is cx env H) Q) .normal) env H:=fun a _ hs=>⟨a,hs,rfl⟩
def I9{α:Type}(u:World)(I:List α->Hp->Prop)(xs:List α)(R:Hp):Exit->Act->World->Prop
 | .normal,_,w=>∃H,I xs H/\Sat u (H++R) w
 |_,_,_=>False
theorem Ej{α:Type}{cx:Cx}{I:List α->Hp->Prop}{xs:List α}{R:Hp}{env:Env}{H H':Hp}{u:World}(hu:cx.u=u)(h:I xs H')(hp:Sub (H'++R) H:=by repeat(first|exact Sub.refl _|exact Sub.nil _|(apply Sub.cons;(focus (repeat(first|exact One.here _ _|apply One.there))))|refine Sub.drop _ ?_)):Nx cx (I9 u I xs R .normal) env H:=fun _ _ hs=>⟨H',h,by subst hu;exact hs.sat.sub hp.amid⟩
theorem JK:∀(e1 e2:Env) (a:Act),Bz (e1++e2) a=Bz e1 (Bz e2 a)
 |[],_,_=>rfl
 |(d,v)::e1,e2,a=>by simp only [AF3,Bz];rw [JK e1 e2 a]
theorem NM:∀(l:List (Nat×Value)) (b:Act),(l.foldl (fun(t:Array Value) (p:Nat×Value)=>t.setIfInBounds p.1 p.2) b.tmps)=(Bz l.reverse b).tmps
 |[],_=>rfl
 |(d,v)::l,b=>by
  simp only [AI6,List.reverse_cons];rw [JK];have:=NM l (b.put (some d) v)
  simpa [Bz,Act.put]using this
theorem Eu(D:List Deferred):∀(e:Env) (a:Act),Bz e {a with defers:=D}={Bz e a with defers:=D}
 |[],_=>rfl
 |(d,v)::e,a=>by simp only [Bz];rw [Eu D e a];rfl
theorem Sat.turn{u w:World}{b:Nat}{o o':Obj}{H:Hp}(h:Sat u ([(b,o)]::H) w):Sat u ([(b,o')]::H) (w.putObj b o'):=by
 have hb:b<w.heap.size:=h.lt (p:=(b,o)) Ap0;refine h.upd (.here _) V rfl V (World.putObj_heap_same hb) fun k hk=>World.putObj_heap_other hk
theorem Bv{a b:List A8}(h:∀f:List A8->Nat,(∀u v,f (u++v)=f u+f v)->f a=f b):a.Perm b:=by
 letI:DecidableEq A8:=fun a b=>Classical.propDecidable (a=b)
 exact List.perm_iff_count.2 fun x=>h (fun l=>l.count x) fun u v=>List.count_append
theorem Sat.parts{u w:World}{H H':Hp}(hs:Sat u H w)(h:∀f:List A8->Nat,(∀u v,f (u++v)=f u+f v)->f []=0->(∀x y,f [x,y]=f [x]+f [y])->f H.flatten=f H'.flatten):Sat u H' w:=
 hs.perm (Bv fun f hf=>h f hf (by have:=hf [] [];simp at this;omega) fun x y=>hf [x] [y])
theorem TJ{P:Program}{cx:Cx}{c:Code}{Q:Exit->Act->World->Prop}{env:Env}{H H':Hp}(h:At P cx c Q env H)(hp:∀f:List A8->Nat,(∀u v,f (u++v)=f u+f v)->f []=0->(∀x y,f [x,y]=f [x]+f [y])->f H'.flatten=f H.flatten):At P cx c Q env H':=fun a w hs=>h a w ⟨hs.size,hs.defers,hs.fit,hs.sat.parts hp⟩
def K3{α:Type}(u:World)(I Ix:List α->Hp->Prop)(xs:List α)(R:Hp):Exit->Act->World->Prop
 | .normal,_,w=>∃H,I xs H/\Sat u (H++R) w
 | .ret,_,w=>∃H,Ix xs H/\Sat u (H++R) w
 |_,_,_=>False
theorem Ue{α:Type}{cx:Cx}{I Ix:List α->Hp->Prop}{xs:List α}{R:Hp}{env:Env}{H H':Hp}{u:World}(hu:cx.u=u)(h:I xs H')(hp:Sub (H'++R) H:=by repeat(first|exact Sub.refl _|exact Sub.nil _|(apply Sub.cons;(focus (repeat(first|exact One.here _ _|apply One.there))))|refine Sub.drop _ ?_)):Nx cx (K3 u I Ix xs R .normal) env H:=fun _ _ hs=>⟨H',h,by subst hu;exact hs.sat.sub hp.amid⟩
theorem iY{α:Type}{cx:Cx}{I Ix:List α->Hp->Prop}{xs:List α}{R:Hp}{env:Env}{H H':Hp}{u:World}(hu:cx.u=u)(h:Ix xs H')(hp:Sub (H'++R) H:=by repeat(first|exact Sub.refl _|exact Sub.nil _|(apply Sub.cons;(focus (repeat(first|exact One.here _ _|apply One.there))))|refine Sub.drop _ ?_)):Nx cx (K3 u I Ix xs R .ret) env H:=fun _ _ hs=>⟨H',h,by subst hu;exact hs.sat.sub hp.amid⟩
def VA{α:Type}(P:Program)(gf:FuncId)(lb:Array Value)(Hit Hk:Hp)(A:List α->List A8->Prop)(Enc:α->Array Value->List A8->Prop)(Adm Full:List α->Prop)(St:Prop):Prop:=
 ∀(l:Nat) (J Jx:List α->List A8->Prop),(∀pre s,J pre s->A pre s)->(∀pre s,Jx pre s->St)->(∀pre x s vs sx,Adm (pre++[x])->J pre s->Enc x vs sx->Ff P l vs [sx,s] (fun v H'=>∃s',H'=[s']/\((v= .bool true/\J (pre++[x]) s')\/(v= .bool false/\Jx (pre++[x]) s'))))->
  ∀s,J [] s->BR P gf (#[.func (.yield l) #[] #[]]++lb) (Hit++(Hk++[s])) (fun _ H'=>∃s',H'=Hk++[s']/\((∃ys,Full ys/\J ys s')\/∃pre,Jx pre s'))
theorem MG{α:Type}{A:List α->List A8->Prop}{Adm Full:List α->Prop}{P:Program}{cx:Cx}{Q:Exit->Act->World->Prop}{env:Env}{H Hit Hk H0 R:Hp}{g:Operand}{ps:Array Tmp}{assign body:Code}{gf:FuncId}{lb:Array Value}{Enc:α->Array Value->List A8->Prop}{St:Prop}
 (I Ix:List α->Hp->Prop)(E:α->Array Value->List A8->Env->Hp->Prop)(hr:cx.r=none)(hg:∀a,ev a env g= .func (.func gf) #[] lb)(hcall:∀(args:Array Value) (w:World),(callFunc gf args).run P w= .ok (.enter gf args) w)
 (hiter:VA P gf lb Hit Hk A Enc Adm Full St)(hX:∀pre H1,Ix pre H1->St)(hA:∀pre H1 c d,I pre H1->A pre ([c,d]++H1.flatten))(hps:∀x vs sx,Enc x vs sx->vs.size=ps.size)(hpf:(ps.toList.all fun t=>Nat.blt t cx.N)=true)(hp:EY (Hit++(Hk++H0)) H R)(h0:I [] H0)
 (hassign:∀(l:Nat) (x:α) (vs:Array Value) (sx:List A8) (u:World) (H:Hp),Enc x vs sx->At P ⟨cx.N,[],u,some l⟩ assign (Exit.then (fun a w=>∃e Hn,E x vs sx e Hn/\Is ⟨cx.N,[],u,some l⟩ (e++env) (Hn++H) a w) (fun _ _ _=>False)) ((ps.toList.zip vs.toList).reverse++env) H)
 (hbody:∀(l:Nat) (pre:List α) (x:α) (u:World) (vs:Array Value) (sx:List A8) (e:Env) (Hn H1 R1:Hp) (r0:Loop),Adm (pre++[x])->I pre H1->Enc x vs sx->E x vs sx e Hn->At P ⟨cx.N,[],u,some l⟩ body (K3 u I Ix (pre++[x]) ([(l,.loop r0)]::R1)) (e++env) (H1++(sx::(Hn++([(l,.loop r0)]::R1)))))
 (hk:∀(D:Nat) (ys:List α) (H2:Hp),Full ys->I ys H2->Nx ⟨cx.N,⟨.collected D,#[]⟩::cx.D,cx.u,none⟩ (Q .normal) env ([(D,.deferred (some []))]::(Hk++(H2++R))))
 (hkx:∀(D:Nat) (pre:List α) (H2:Hp),Ix pre H2->Nx ⟨cx.N,⟨.collected D,#[]⟩::cx.D,cx.u,none⟩ (Q .ret) env ([(D,.deferred (some []))]::(Hk++(H2++R)))):At P cx (.rangeFunc g ps assign body) Q env H:=by
 intro a w hs;refine wpIn_rangeFunc ?_;intro fn hfn;have hro:(Fx cx.r).round=none:=hr
 rw [hro];obtain ⟨rec,hrec⟩:∃rec:LoopState->Option Code->Loop,rec=fun st pe=>{state:=st,pending:=pe,fn,tmps:=(Bz env a).tmps,params:=ps,assign,body,defers:=w.heap.size}:=⟨_,rfl⟩;obtain ⟨L1,hL1⟩:∃L1,L1=rec .ready none:=⟨_,rfl⟩;obtain ⟨L2,hL2⟩:∃L2,L2=rec .done (some .ret):=⟨_,rfl⟩;obtain ⟨n,hn⟩:∃n,n=w.heap.size:=⟨_,rfl⟩;have hsat1:Sat cx.u ([(n+1,.loop L1)]::([(n,.deferred (some []))]::((Hit++(Hk++H0))++R))) ((w.alloc (.deferred (some []))).alloc (.loop L1)):=by
  have:=((hs.sat.perm hp.perm).alloc (.deferred (some []))).alloc (.loop L1);rw [show({w with heap:=w.heap.push (.deferred (some []))}:World).heap.size=w.heap.size+1 from Array.size_push _,<-hn]at this;exact this
 have hfitA:Fit a.tmps.size env:=by rw [hs.size];exact hs.fit
 have hput:∀d,Bz env {a with defers:=d::cx.D}={Bz env a with defers:=[d]++(Bz env a).defers}:=fun d=>by
  rw [Eu,FO,hs.defers];rfl
 have hout:∀(L:Loop) (e:Exit) (H2:Hp) (w2:World),L.state≠ .busy->(∀(A:Act) (W:World),Q e A W->(match L.pending with|none=>Q .normal A W|some c=>c.wpIn (Fx cx.r) 0 P Q A W))->
  Sat cx.u ([(n+1,Obj.loop L)]::([(n,.deferred (some []))]::H2)) w2->Nx ⟨cx.N,⟨.collected n,#[]⟩::cx.D,cx.u,none⟩ (Q e) env ([(n,.deferred (some []))]::H2)->
  ∃v w3,(Instr.endLoop (n+1)).run P w2= .ok v w3/\(match v with|none=>Q .normal {Bz env a with defers:=[⟨.collected n,#[]⟩]++(Bz env a).defers} w3|some c=>c.wpIn (Fx cx.r) 0 P Q {Bz env a with defers:=[⟨.collected n,#[]⟩]++(Bz env a).defers} w3):=by
  intro L e H2 w2 hst hpe hsat hN;have hl:=hsat.get (n+1,Obj.loop L) Ap0
  refine ⟨_,_,run_endLoop (P:=P) hl hst,hpe _ _ ?_⟩;rw [<-hput];exact hN {a with defers:=⟨.collected n,#[]⟩::cx.D} _ ⟨hs.size,V,hs.fit,(hsat.turn (o':= .loop {L with state:= .exhausted})).sub ⟨[(n+1,.loop {L with state:= .exhausted})],by
   simp only [zL];exact AB7⟩⟩
 refine ⟨n+1,[⟨.collected n,#[]⟩],(w.alloc (.deferred (some []))).alloc (.loop L1),⟨.fn (.func gf) lb,#[.func (.yield (n+1)) #[] #[]]⟩,(w.alloc (.deferred (some []))).alloc (.loop L1),gf,
  #[.func (.yield (n+1)) #[] #[]]++lb,(w.alloc (.deferred (some []))).alloc (.loop L1),?_,?_,fun _ _=>trivial,?_,fun h=>by simp [Fx,Fence.wide]at h,?_⟩
 · rw [hn,hL1,hrec];exact run_enterLoop_outer _ _ _ _ _
 · simp only [resolve,F9 a env hfitA,hg a]
   simp [Deferred.ofValue,ev,Act.eval]
 · simp [invoke,hcall]
 · refine WL ?_
   have hJ:=hiter (n+1) (fun pre s=>∃H1,I pre H1/\s=[(n+1,.loop L1),(n,.deferred (some []))]++H1.flatten) (fun pre s=>∃H1,Ix pre H1/\s=[(n+1,.loop L2),(n,.deferred (some []))]++H1.flatten) (by rintro pre _ ⟨H1,h1,rfl⟩;exact hA pre H1 _ _ h1) (by rintro pre _ ⟨H1,h1,rfl⟩;exact hX pre H1 h1) ?_ _ ⟨H0,h0,rfl⟩
   · refine Calls.mono (hJ cx.u R _ (hsat1.parts fun f h h1 h2=>by simp only [zL,AA0,zl,h,h1,h2];omega)) fun e w2 he=>?_
     rcases he with⟨v,H',rfl,⟨s',rfl,⟨ys,hfl,H2,hI2,rfl⟩|⟨pre,H2,hI2,rfl⟩⟩,hsat2⟩|⟨_,_,_,h,_⟩
     · exact hout L1 .normal _ w2 (by rw [hL1,hrec];simp) (fun A W h=>by rw [hL1,hrec];exact h) (hsat2.parts fun f h h1 h2=>by simp only [zL,AA0,zl,h,h1,h2];omega) (hk n ys H2 hfl hI2)
     · exact hout L2 .ret _ w2 (by rw [hL2,hrec];simp) (fun A W h=>by rw [hL2,hrec];exact wpIn_ret h) (hsat2.parts fun f h h1 h2=>by simp only [zL,AA0,zl,h,h1,h2];omega) (hkx n pre H2 hI2)
     · exact h.elim
   · rintro pre x s vs sx hxs ⟨H1,hI,rfl⟩ hEnc u R1 w1 hw1 K Kp hK
     have hw1':Sat u ([(n+1,Obj.loop L1)]::([(n,.deferred (some []))]::(H1++(sx::R1)))) w1:=hw1.parts fun f h h1 h2=>by simp only [zL,AA0,zl,h,h1,h2];omega
     have hl:=hw1'.get (n+1,Obj.loop L1) Ap0;have hy:=run_yield (P:=P) (args:=vs) hl (by rw [hL1,hrec];exact hps x vs sx hEnc)
     rw [hy];show RoundIn Fence.wide 0 P (n+1) _ _ _ _ w1 _
     rw [hL1,hrec];refine roundIn_of_wpIn (F:=Fence.wide) trivial ?_;have htm:({tmps:=(ps.zip vs).foldl (fun tmps x=>match x with|(t,a)=>tmps.setIfInBounds t a) (Bz env a).tmps,defers:=[]}:Act)=Bz ((ps.toList.zip vs.toList).reverse++env) {a with defers:=[]}:=by
      rw [JK,Eu [] env a];have h1:(ps.zip vs).foldl (fun tmps x=>match x with|(t,a)=>tmps.setIfInBounds t a) (Bz env a).tmps=(Bz (ps.toList.zip vs.toList).reverse (Bz env a)).tmps:=by
       rw [<-NM,<-AR8,Array.toList_zip]
      rw [h1,Eu [] _ (Bz env a)]
     have hfit2:Fit cx.N ((ps.toList.zip vs.toList).reverse++env):=by
      intro q hq;rcases zJ.1 hq with hq|hq
      · have:=AM4.1 hq
        have h2:=AE0.1 hpf q.1 (List.of_mem_zip this).1;simpa using h2
      · exact hs.fit q hq
     have ha:=hassign (n+1) x vs sx u ([(n+1,Obj.loop L1)]::([(n,.deferred (some []))]::(H1++(sx::R1)))) hEnc {a with defers:=[]} w1 ⟨hs.size,rfl,hfit2,hw1'⟩;rw [<-htm]at ha;refine wpIn_mono ha fun e a1 w2 he=>?_;cases e<;>first|exact he|skip
     obtain ⟨e9,Hn,hE,a2,hst,rfl⟩:=he;have hst1:Sat u ([(n+1,Obj.loop L1)]::([(n,.deferred (some []))]::(H1++(sx::(Hn++R1))))) w2:=hst.sat.parts fun f h h1 h2=>by simp only [zL,AA0,zl,h,h1,h2];omega
     have hl2:=hst1.get (n+1,Obj.loop L1) Ap0;refine ⟨_,run_beginRound hl2 (by rw [hL1,hrec]),?_⟩;have hst2:Sat u (H1++(sx::(Hn++([(n+1,Obj.loop {L1 with state:= .busy})]::([(n,.deferred (some []))]::R1))))) (w2.putObj (n+1) (.loop {L1 with state:= .busy})):=
      (hst1.turn (o':= .loop {L1 with state:= .busy})).parts fun f h h1 h2=>by simp only [zL,AA0,zl,h,h1,h2];omega
     have hb:=hbody (n+1) pre x u vs sx e9 Hn H1 ([(n,.deferred (some []))]::R1) _ hxs hI hEnc hE a2 _ ⟨hst.size,hst.defers,hst.fit,hst2⟩;refine wpIn_mono hb fun e a3 w3 he3=>?_;cases e<;>first|exact he3.elim|skip
     · obtain ⟨H2,hI2,hs3⟩:=he3
       have hs3':Sat u ([(n+1,Obj.loop {L1 with state:= .busy})]::([(n,.deferred (some []))]::(H2++R1))) w3:=hs3.parts fun f h h1 h2=>by simp only [zL,AA0,zl,h,h1,h2];omega
       refine ⟨_,_,run_endRound (P:=P) none (hs3'.get (n+1,Obj.loop {L1 with state:= .busy}) Ap0),?_⟩;refine hK _ _ _ ⟨[(n+1,.loop L1),(n,.deferred (some []))]++H2.flatten,V,.inl ⟨V,H2,hI2,V⟩⟩ ?_;have hsame:({{L1 with state:=LoopState.busy}with state:=if(none:Option Code).isNone=true then LoopState.ready else .done,pending:=none}:Loop)=L1:=by rw [hL1,hrec];rfl
       rw [hsame];exact (hs3'.turn (o':= .loop L1)).parts fun f h h1 h2=>by simp only [zL,AA0,zl,h,h1,h2];omega
     · obtain ⟨H2,hI2,hs3⟩:=he3
       have hs3':Sat u ([(n+1,Obj.loop {L1 with state:= .busy})]::([(n,.deferred (some []))]::(H2++R1))) w3:=hs3.parts fun f h h1 h2=>by simp only [zL,AA0,zl,h,h1,h2];omega
       refine ⟨_,_,run_endRound (P:=P) (some .ret) (hs3'.get (n+1,Obj.loop {L1 with state:= .busy}) Ap0),?_⟩;refine hK _ _ _ ⟨[(n+1,.loop L2),(n,.deferred (some []))]++H2.flatten,V,.inr ⟨V,H2,hI2,V⟩⟩ ?_;have hsame:({{L1 with state:=LoopState.busy}with state:=if(some Code.ret:Option Code).isNone=true then LoopState.ready else .done,pending:=some .ret}:Loop)=L2:=by rw [hL1,hL2,hrec];rfl
       rw [hsame];exact (hs3'.turn (o':= .loop L2)).parts fun f h h1 h2=>by simp only [zL,AA0,zl,h,h1,h2];omega
def uZ{α:Type}(encs:α->Array Value)(x:α)(vs:Array Value)(sx:List A8):Prop:=vs=encs x/\sx=[]
theorem Mq{P:Program}{l:Nat}{vs:Array Value}{s:List A8}{Q Q':Value->Hp->Prop}(h:Ff P l vs [[],s] Q)(hq:∀v H',Q v H'->Q' v H'):Ff P l vs [s] Q':=fun u R w hs K Kp hK=>h u R w (hs.parts fun f h h1 h2=>by simp only [zL,AA0,zl,h,h1];omega) K Kp fun v H' w' h3 h4=>hK v H' w' (hq v H' h3) h4
theorem PI{P:Program}{cx:Cx}{c:Code}{env:Env}{H:Hp}{α:Type}{u:World}{I Ix:List α->Hp->Prop}{xs:List α}{R:Hp}(h:At P cx c (I9 u I xs R) env H):At P cx c (K3 u I Ix xs R) env H:=fun a w hs=>wpIn_mono (h a w hs) fun e _ _ he=>by cases e<;>first|exact he|exact he.elim
theorem uG{α:Type}{P:Program}{gf:FuncId}{lb:Array Value}{Hit:Hp}{A:List A8->Prop}{encs:α->Array Value}{xs:List α}(h:Ep P gf lb Hit A encs xs):VA P gf lb Hit [] (fun _=>A) (uZ encs) (fun p=>∃post,xs=p++post) (fun ys=>ys=xs) False:=fun l J Jx hA hX hy s h0=>
 (h l J hA (fun pre x post s hx hj=>Mq (hy pre x s _ [] ⟨post,by rw [hx,zM];rfl⟩ hj ⟨rfl,rfl⟩) fun v H' ⟨s',h1,h2⟩=>h2.elim (fun h=>⟨s',h.1,h1,h.2⟩) fun h=>(hX _ _ h.2).elim) s h0).mono (by rintro v H' ⟨s',h1,h2⟩;exact ⟨s',h1,.inl ⟨xs,rfl,h2⟩⟩)
theorem Oh{α:Type}{A:List A8->Prop}{P:Program}{cx:Cx}{Q:Exit->Act->World->Prop}{env:Env}{H Hit H0 R:Hp}{g:Operand}{ps:Array Tmp}{assign body:Code}{gf:FuncId}{lb:Array Value}{encs:α->Array Value}{xs:List α}
 (I:List α->Hp->Prop)(asg:α->Env)(hr:cx.r=none)(hg:∀a,ev a env g= .func (.func gf) #[] lb)(hcall:∀(args:Array Value) (w:World),(callFunc gf args).run P w= .ok (.enter gf args) w)
 (hiter:Ep P gf lb Hit A encs xs)(hA:∀pre H1 c d,I pre H1->A ([c,d]++H1.flatten))(hps:∀x,(encs x).size=ps.size)(hpf:(ps.toList.all fun t=>Nat.blt t cx.N)=true)(hp:EY (Hit++H0) H R)(h0:I [] H0)
 (hassign:∀(l:Nat) (x:α) (u:World) (H:Hp),At P ⟨cx.N,[],u,some l⟩ assign (Exit.then (Is ⟨cx.N,[],u,some l⟩ (asg x++env) H) (fun _ _ _=>False)) ((ps.toList.zip (encs x).toList).reverse++env) H)
 (hbody:∀(l:Nat) (pre:List α) (x:α) (post:List α) (u:World) (H1 R1:Hp),xs=pre++x::post->I pre H1->At P ⟨cx.N,[],u,some l⟩ body (I9 u I (pre++[x]) R1) (asg x++env) (H1++R1))
 (hk:∀(D:Nat) (H2:Hp),I xs H2->Nx ⟨cx.N,⟨.collected D,#[]⟩::cx.D,cx.u,none⟩ (Q .normal) env ([(D,.deferred (some []))]::(H2++R))):At P cx (.rangeFunc g ps assign body) Q env H:=
 MG (Hk:=[]) (A:=fun _=>A) (St:=False) (Adm:=fun p=>∃post,xs=p++post) (Full:=fun ys=>ys=xs) (Enc:=uZ encs) I (fun _ _=>False) (fun x _ _ e Hn=>e=asg x/\Hn=[]) hr hg hcall (uG hiter) (fun _ _ h=>h) hA (fun x vs sx he=>by rw [he.1];exact hps x) hpf hp h0
  (fun l x vs sx u H he a w hs=>by
    obtain ⟨rfl,rfl⟩:=he;exact wpIn_mono (hassign l x u H a w hs) fun e _ _ h=>by cases e<;>first|exact h|exact ⟨_,[],⟨rfl,rfl⟩,h⟩)
  (fun l pre x u vs sx e Hn H1 R1 r0 ⟨post,hx⟩ hI he hE=>by
    obtain ⟨rfl,rfl⟩:=he;obtain ⟨rfl,rfl⟩:=hE;exact TJ (PI (hbody l pre x post u H1 _ (by rw [hx,zM];rfl) hI)) fun f h h1 h2=>by simp only [zL,AA0,zl,h,h1,h2];omega) (fun D ys H2 hf hI=>by rw [hf]at hI;exact hk D H2 hI) fun _ _ _ h=>h.elim
/- the end of a function that holds ranges over functions -/
theorem QK{α:Type}{P:Program}{cx:Cx}{Q:Exit->Act->World->Prop}{env:Env}{H Hit H0 R:Hp}{g:Operand}{ps:Array Tmp}{assign body:Code}{gf:FuncId}{lb:Array Value}{encs:α->Array Value}{xs:List α}
 (I:List α->Hp->Prop)(asg:α->Env)(hr:cx.r=none)(hg:∀a,ev a env g= .func (.func gf) #[] lb)(hcall:∀(args:Array Value) (w:World),(callFunc gf args).run P w= .ok (.enter gf args) w)
 (hiter:TQ P gf lb Hit encs xs)(hps:∀x,(encs x).size=ps.size)(hpf:(ps.toList.all fun t=>Nat.blt t cx.N)=true)(hp:EY (Hit++H0) H R)(h0:I [] H0)
 (hassign:∀(l:Nat) (x:α) (u:World) (H:Hp),At P ⟨cx.N,[],u,some l⟩ assign (Exit.then (Is ⟨cx.N,[],u,some l⟩ (asg x++env) H) (fun _ _ _=>False)) ((ps.toList.zip (encs x).toList).reverse++env) H)
 (hbody:∀(l:Nat) (pre:List α) (x:α) (post:List α) (u:World) (H1 R1:Hp),xs=pre++x::post->I pre H1->At P ⟨cx.N,[],u,some l⟩ body (I9 u I (pre++[x]) R1) (asg x++env) (H1++R1))
 (hk:∀(D:Nat) (H2:Hp),I xs H2->Nx ⟨cx.N,⟨.collected D,#[]⟩::cx.D,cx.u,none⟩ (Q .normal) env ([(D,.deferred (some []))]::(H2++R))):At P cx (.rangeFunc g ps assign body) Q env H:=
 Oh (A:=fun _=>True) I asg hr hg hcall (fun l J _=>hiter l J) (fun _ _ _ _ _=>trivial) hps hpf hp h0 hassign hbody hk
def JP(l:List Nat):List Deferred:=l.map fun D=>⟨.collected D,#[]⟩
theorem Cz{P:Program}{f:FuncId}{fn:Func}{c:Code}{args:Array Value}{N:Nat}{H:Hp}{Q:Value->Hp->Prop}{Pn:List PanicEntry->Hp->Prop}(hf:P.funcs[f]?=some fn)(hb:fn.body=some c)(hN:fn.ntmps=N)(hs:Nat.ble args.size N=true)
 (h:∀u R,At P ⟨N,[],u,none⟩ c (bodyPostM Fence.wide 0 P fn (Fw u R Q Pn)) (FD 0 args.toList) (H++R)):Ki P f args H Q Pn:=fun u R w hsat=>by
 have hle:args.size<=N:=AI4 hs;refine (callsIn_wide (n:=0)).1 (callsIn_of_wp_marks (F:=Fence.wide) hf hb trivial ?_);have hput:Bz (FD 0 args.toList) {tmps:=args++Array.replicate (fn.ntmps -args.size) undef,defers:=[]}={tmps:=args++Array.replicate (fn.ntmps -args.size) undef,defers:=[]}:=by
  refine Jk _ fun p hp=>?_;obtain ⟨_,h2⟩:=F4 _ _ _ hp;simp only [AJ3,AA3]at h2;have hlt:p.1<args.size:=by
   rcases AB1 p.1 args.size with h|h
   · exact h
   · simp [AA9 h]at h2
  rw [AI1 hlt];exact h2
 rw [<-hput];refine h u R _ w ⟨by simp [hN];omega,V,fun p hp=>?_,hsat⟩;obtain ⟨_,h2⟩:=F4 _ _ _ hp;simp only [AJ3,AA3]at h2;rcases AB1 p.1 args.size with h|h
 · exact AO8 h hle
 · simp [AA9 h]at h2
section
variable{P:Program}{N:Nat}{u:World}{fn:Func}{R H H':Hp}{Q:Value->Hp->Prop}{Pn:List PanicEntry->Hp->Prop}{env:Env}{e:Exit}
theorem XD{D:Nat}{w:World}(h:w.heap[D]?=some (.deferred (some []))):(Instr.takeDeferred D).run P w= .ok [] (w.putObj D (.deferred none)):=by
 simp [Instr.takeDeferred,getObj,setObj,Sem.run,h];rfl
def Res(P:Program)(fn:Func)(env:Env)(v:Value):Prop:=∀(a:Act) (w:World),Fit a.tmps.size env->(results fn (Bz env a).tmps).run P w= .ok v w
theorem wI(hr:fn.results=#[]):Res P fn env (.tuple #[]):=fun a w _=>O8 hr w _
theorem aN{t:Nat}{v:Value}(hr:fn.results=#[.tmp t])(hv:∀a,Fb a env t=v):Res P fn env v:=fun a w hf=>by rw [Px hr,CJ a env hf,hv a]
theorem mI{t s:Nat}{v x:Value}(hr:fn.results=#[.tmp t,.tmp s])(hv:∀a,Fb a env t=v)(hx:∀a,Fb a env s=x):Res P fn env (.tuple #[v,x]):=fun a w hf=>by rw [Pw hr,CJ a env hf,CJ a env hf,hv a,hx a]
theorem OI{v:Value}(he:FE e=true)(hr:Res P fn env v)(hq:Q v H')(hp:Sub (H'++R) H:=by repeat(first|exact Sub.refl _|exact Sub.nil _|(apply Sub.cons;(focus (repeat(first|exact One.here _ _|apply One.there))))|refine Sub.drop _ ?_)):Nx ⟨N,[],u,none⟩ (bodyPostM Fence.wide 0 P fn (Fw u R Q Pn) e) env H:=fun a w hs=>by
 have h1:(Bz env a).defers=[]:=by rw [FO];exact hs.defers
 have hfin:LeavesInM Fence.wide 0 P fn (Bz env a).tmps (Fw u R Q Pn) (Bz env a).defers .returning w:=by
  rw [h1];exact ⟨v,hr a w (by rw [hs.size];exact hs.fit),.inl ⟨v,H',rfl,hq,hs.sat.sub hp.amid⟩⟩
 cases e<;>first|exact hfin|simp [FE]at he
theorem Fq{D:Nat}{v:Value}{H0:Hp}(he:FE e=true)(hr:Res P fn env v)(hd:One [(D,.deferred (some []))] H H0)(hq:Q v H')(hp:Sub (H'++R) H0:=by repeat(first|exact Sub.refl _|exact Sub.nil _|(apply Sub.cons;(focus (repeat(first|exact One.here _ _|apply One.there))))|refine Sub.drop _ ?_)):Nx ⟨N,[⟨.collected D,#[]⟩],u,none⟩ (bodyPostM Fence.wide 0 P fn (Fw u R Q Pn) e) env H:=fun a w hs=>by
 have h1:(Bz env a).defers=[⟨.collected D,#[]⟩]:=by rw [FO];exact hs.defers
 have hsat:Sat u ([(D,.deferred (some []))]::H0) w:=hs.sat.perm (by simpa using hd.perm);have hget:=hsat.get (D,.deferred (some [])) (by simp)
 have hsat2:Sat u (H'++R) (w.putObj D (.deferred none)):=((hsat.turn (o':= .deferred none)).sub ⟨[(D,.deferred none)],by simp only [zL];exact AB7⟩).sub hp.amid;have hfin:LeavesInM Fence.wide 0 P fn (Bz env a).tmps (Fw u R Q Pn) (Bz env a).defers .returning w:=by
  rw [h1];refine ⟨by simp,.inl ⟨D,_,V,XD hget,?_⟩⟩;exact ⟨v,hr a _ (by rw [hs.size];exact hs.fit),.inl ⟨v,H',rfl,hq,hsat2⟩⟩
 cases e<;>first|exact hfin|simp [FE]at he
end
def qY(sz:Nat)(v:Value)(k:Nat)(ys:List Value)(s:List A8):Prop:=
 ys.length=k*sz/\((k=0/\∃b c,v= .slice b 0 c)\/∃g o cap cur T z,v= .slice (some ⟨g,o,none⟩) k cap/\s=[(g,.cells cur T z)]/\CE cur o ys)
theorem Ee{sz:Nat}{e:TypeId}{v:Value}{k:Nat}{xs:List Value}{s:List A8}(h:BZ sz e v k xs s)(hk:0<k):∃g cap cur z,v=I6 g k cap/\s=[(g,.cells cur e z)]/\k<=cap/\CE cur 0 xs:=by
 obtain ⟨hl,⟨_,h0,_⟩|⟨g,cap,cur,z,rfl,rfl,hle,_,_,htk,_⟩⟩:=h
 · omega
 · refine ⟨g,cap,cur,z,rfl,rfl,hle,?_⟩
   unfold CE;rw [AI5,hl];exact htk
theorem ru{sz:Nat}{e:TypeId}{v:Value}{k:Nat}{xs:List Value}{s:List A8}(h:BZ sz e v k xs s):qY sz v k xs s:=by
 refine ⟨h.1,?_⟩;rcases AG3 k with h0|h0
 · obtain ⟨b,c,rfl⟩:=h.form
   subst h0;exact .inl ⟨V,b,c,V⟩
 · obtain ⟨g,cap,cur,z,rfl,rfl,_,hin⟩:=Ee h h0
   exact .inr ⟨g,0,cap,cur,e,z,V,V,hin⟩
section
variable{P:Program}{u:World}{env:Env}{H R R2:Hp}{d:Option Nat}{ty:TypeId}{pos:String}{af:Array Edge}{g:Option (Nat×Bool)}
theorem Bl{x y:Operand}{t e:TypeId}{i:TypeInfo}{z:Value}{by_ sz n k:Nat}{v v2:Value}{xs ys:List Value}{s s2:List A8}
 (ht:P.underlying t=some (.slice e))(hi:P.info? e=some i)(hsz:i.size=sz)(hby:i.bytes=by_)(hzi:i.zero=some z)(hz1:z.cells.size=sz)
 (hx:∀a,ev a env x=v)(hrow:BZ sz e v n xs s)(hy:∀a,ev a env y=v2)(hsub:qY sz v2 k ys s2)(hone:One s H R)(htwo:One s2 R R2)(h1:∀u∈ys,u.oneCell'=true)
 (h63:n+k<=maxLen)(hb:(n+k)*by_<=140737488355328):
 OpW P u ⟨d,.call ⟨.builtin .append,#[x,y],#[t,t]⟩,ty,pos,af,g⟩ env H (fun v' H1=>∃s',BZ sz e v' (n+k) (xs++ys) s'/\H1=s'::R) (fun _ _=>False):=by
 obtain ⟨hl,⟨rfl,b2,c2,rfl⟩|⟨gb,o,cap,cur,T,zz,rfl,rfl,hin⟩⟩:=hsub
 · have hy0:ys=[]:=AB0 Ao7
   subst hy0;obtain ⟨b,c,rfl⟩:=hrow.form;have hle:n<=c:=by
    obtain ⟨_,⟨hv,h0,_⟩|⟨_,_,_,_,hv,_,h2,_⟩⟩:=hrow
    · omega
    · injection hv with _ _ hv3;omega
   intro a w hsat K Kp hK _;have hs1:Sat u (s::R) w:=hsat.perm (by simpa using hone.perm)
   have hl0:(Builtin.firstCells i.size 0 (.slice b2 0 c2)).run P w= .ok #[] w:=by
    cases b2 with
    |none=>simp [Builtin.firstCells]
    |some ad=>simp [Builtin.firstCells,loadCells,loadCellsFrom]
   have hr:(Builtin.append_ #[t,t] ty #[.slice b n c,.slice b2 0 c2]).run P w= .ok (.slice b n c) w:=by
    rw [hsz]at hl0;cases b with
    |none=>simp [Builtin.append_,run_underlying ht,Go.sizeOf,typeInfo,hi,hsz,Builtin.lenOf,hle,hl0]
    |some ad=>simp [Builtin.append_,run_underlying ht,Go.sizeOf,typeInfo,hi,hsz,Builtin.lenOf,hle,hl0,storeCells]
   have hx':(execOp (ev a env) ⟨d,.call ⟨.builtin .append,#[x,y],#[t,t]⟩,ty,pos,af,g⟩).run P w= .ok (.value (.slice b n c)) w:=by
    simp only [Dj,resolve,invoke,builtin,AG9,zx,AE9,hx a,hy a,Sem.run_bind,Sem.run_pure,Result.andThen_ok,hr]
   rw [hx'];exact hK _ _ _ ⟨s,by rw [zV];exact hrow,rfl⟩ hs1
 · rcases AG3 k with h0|h0
   · subst h0
     have hy0:ys=[]:=AB0 Ao7;subst hy0;obtain ⟨b,c,rfl⟩:=hrow.form;have hle:n<=c:=by
      obtain ⟨_,⟨hv,h0,_⟩|⟨_,_,_,_,hv,_,h2,_⟩⟩:=hrow
      · omega
      · injection hv with _ _ hv3;omega
     intro a w hsat K Kp hK _;have hs1:Sat u (s::R) w:=hsat.perm (by simpa using hone.perm)
     have hl0:(Builtin.firstCells i.size 0 (.slice (some ⟨gb,o,none⟩) 0 cap)).run P w= .ok #[] w:=by simp [Builtin.firstCells,loadCells,loadCellsFrom]
     have hr:(Builtin.append_ #[t,t] ty #[.slice b n c,.slice (some ⟨gb,o,none⟩) 0 cap]).run P w= .ok (.slice b n c) w:=by
      rw [hsz]at hl0;cases b with
      |none=>simp [Builtin.append_,run_underlying ht,Go.sizeOf,typeInfo,hi,hsz,Builtin.lenOf,hle,hl0]
      |some ad=>simp [Builtin.append_,run_underlying ht,Go.sizeOf,typeInfo,hi,hsz,Builtin.lenOf,hle,hl0,storeCells]
     have hx':(execOp (ev a env) ⟨d,.call ⟨.builtin .append,#[x,y],#[t,t]⟩,ty,pos,af,g⟩).run P w= .ok (.value (.slice b n c)) w:=by
      simp only [Dj,resolve,invoke,builtin,AG9,zx,AE9,hx a,hy a,Sem.run_bind,Sem.run_pure,Result.andThen_ok,hr]
     rw [hx'];exact hK _ _ _ ⟨s,by rw [zV];exact hrow,rfl⟩ hs1
   · exact Db ht hi hsz hby hzi hz1 hx hrow hy hone htwo.has hin hl h1 h0 h63 hb
end
section
variable{P:Program}{u:World}{env:Env}{H R R2:Hp}{d:Option Nat}{ty:TypeId}{pos:String}{af:Array Edge}{g:Option (Nat×Bool)}
theorem Im(sz:Nat)(e:TypeId)(g k:Nat)(xs:List Value)(h:xs.length=k*sz)(hk:k<=maxLen):BZ sz e (I6 g k k) k xs [(g,.cells xs.toArray e (0,0))]:=
 ⟨h,.inr ⟨g,k,xs.toArray,(0,0),rfl,rfl,zh _,hk,by simp [h],AB6 (by simp [h]),BF _⟩⟩
end
end Gw
namespace Gw
open Go Go.RowKit
open Go.ChangeMaps (setBlock)
section
variable{α:Type}{κ:α->Value}{D:α->Prop}{P:Program}
structure Ce(κ:α->Value)(es:Array MapEntry)(clock:Nat)(l:List (α×Value)):Prop where
 pairs:es.toList.map (fun e=>(e.key,e.val))=l.map (fun p=>(κ p.1,p.2))
 born:(es.toList.map (·.born)).Nodup
 old:∀e∈es.toList,e.born<clock
 keys:(l.map (·.1)).Nodup
structure FU(P:Program)(kt:TypeId)(κ:α->Value)(D:α->Prop):Prop where
 check:∀(w:World) (em:Bool) (a:α),D a->(Instr.checkKey em 10000 kt (κ a)).run P w= .ok () w
 find:∀(w:World) (k:α),D k->∀es:List MapEntry,(∀e∈es,∃a,D a/\e.key=κ a)->((Instr.findKey kt (κ k) es).run P w= .ok none w/\∀e∈es,e.key≠κ k)\/∃j e,(Instr.findKey kt (κ k) es).run P w= .ok (some (j,e.val)) w/\es[j]?=some e/\e.key=κ k
 stays:∀(w:World) (a:α),D a->(Instr.keyThatStays (κ a) (κ a)).run P w= .ok (κ a) w
 inj:∀a b,κ a=κ b->a=b
theorem FU.ofLaw{kt:TypeId}(law:WideMaps.KeyLaw P kt)(key:∀a,D a->∃l,keyOf P kt (κ a)=some l)(inj:∀a b,κ a=κ b->a=b):FU P kt κ D where
 check:=fun w em a ha=>by obtain ⟨l,hl⟩:=key a ha;exact law.check w em hl
 find:=fun w k hk es he=>by
  obtain ⟨l,hl⟩:=key k hk;exact law.find w hl es fun e h=>by obtain ⟨a,ha,e1⟩:=he e h;rw [e1];exact key a ha
 stays:=fun w a ha=>by obtain ⟨l,hl⟩:=key a ha;exact law.stays w hl
 inj:=inj
theorem FU.basic [DecidableEq α]{kt:TypeId}{td:TypeDesc}(hu:P.underlying kt=some td)(hs:∀a b,Instr.sameNow td (κ a) (κ b)=some (decide (a=b)))(hc:∀(w:World) (em:Bool) (a:α),(Instr.checkKey em 10000 kt (κ a)).run P w= .ok () w)
 (hst:∀(w:World) (a:α),(Instr.keyThatStays (κ a) (κ a)).run P w= .ok (κ a) w)(inj:∀a b,κ a=κ b->a=b):FU P kt κ D where
 check:=fun w em a _=>hc w em a
 find:=fun w k _ es he=>by
  have h:∀(es:List MapEntry) (i:Nat),(∀e∈es,∃a,D a/\e.key=κ a)->(Instr.findNow td (κ k) es i=some none/\∀e∈es,e.key≠κ k)\/∃j e,Instr.findNow td (κ k) es i=some (some (i+j,e.val))/\es[j]?=some e/\e.key=κ k:=by
   intro es;induction es with
   |nil=>intro i _;exact .inl ⟨rfl,by simp⟩
   |cons e es ih=>
    intro i he;obtain ⟨a,_,ea⟩:=he e Ap0;by_cases hk:k=a
    · refine .inr ⟨0,e,?_,rfl,by rw [ea,hk]⟩
      simp only [Instr.findNow,ea,hs,hk,decide_true,AH6]
    · rcases ih (i+1) (fun e h=>he e (zW _ h))with⟨h1,h2⟩|⟨j,e',h1,h2,h3⟩
      · refine .inl ⟨?_,fun e' h=>?_⟩
        · simp only [Instr.findNow,ea,hs,hk,An5];exact h1
        · rcases za.1 h with rfl|h
          · rw [ea];exact fun h=>hk (inj _ _ h.symm)
          · exact h2 e' h
      · refine .inr ⟨j+1,e',?_,h2,h3⟩
        simp only [Instr.findNow,ea,hs,hk,An5];rw [h1,show i+1+j=i+(j+1) by omega]
  have hrun:∀r,Instr.findNow td (κ k) es 0=some r->(Instr.findKey kt (κ k) es).run P w= .ok r w:=fun r hr=>by
   simp only [Instr.findKey,Sem.run_bind,run_underlying hu,Result.andThen,hr];rfl
  rcases h es 0 he with⟨h1,h2⟩|⟨j,e,h1,h2,h3⟩
  · exact .inl ⟨hrun _ h1,h2⟩
  · exact .inr ⟨j,e,hrun _ (by rw [h1,zo]),h2,h3⟩
 stays:=fun w a _=>hst w a
 inj:=inj
theorem kL{kt:TypeId}(hu:P.underlying kt=some (.int .i64))(w:World)(k:Int)(b:Bool)(n:Nat):(Instr.checkKey b (n+1) kt (I4 k)).run P w= .ok () w:=by
 simp only [Instr.checkKey,Sem.run_bind,run_underlying hu,Result.andThen];rfl
theorem kK{kt:TypeId}(hu:P.underlying kt=some .string)(w:World)(k:ByteArray)(b:Bool)(n:Nat):(Instr.checkKey b (n+1) kt (.string k)).run P w= .ok () w:=by
 simp only [Instr.checkKey,Sem.run_bind,run_underlying hu,Result.andThen];rfl
theorem qJ(n:Nat)(k:Int):Instr.sameBits (n+1) (I4 k) (I4 k)=true:=by simp [Instr.sameBits]
theorem qI(n:Nat)(k:ByteArray):Instr.sameBits (n+1) (.string k) (.string k)=true:=by
 simp only [Instr.sameBits];cases k with|mk k=>show(k==k)=true;simp
theorem X5{v:Value}(h:Instr.sameBits 10000 v v=true)(w:World):(Instr.keyThatStays v v).run P w= .ok v w:=by
 unfold Instr.keyThatStays;rw [Am7 h];rfl
theorem CO{kt:TypeId}{D:Int->Prop}(hu:P.underlying kt=some (.int .i64)):FU P kt (fun k:Int=>Value.int .i64 k) D:=
 FU.basic hu (fun a b=>by simp only [Instr.sameNow];congr 1) (fun w em a=>kL hu w a em 9999) (fun w a=>X5 (qJ 9999 a) w) (fun a b h=>by injection h)
theorem DT{kt:TypeId}{D:ByteArray->Prop}(hu:P.underlying kt=some .string):FU P kt (fun k:ByteArray=>Value.string k) D:=
 FU.basic hu (fun a b=>by
  simp only [Instr.sameNow];congr 1;cases a with|mk a=>cases b with|mk b=>
  show(a==b)=_;simp only [ByteArray.mk.injEq];exact AO5.2 Ap0) (fun w em a=>kK hu w a em 9999) (fun w a=>X5 (qI 9999 a) w) (fun a b h=>by injection h)
theorem E5(κ:α->Value):Ce κ #[] 0 []:=⟨rfl,by simp,by simp,by simp⟩
variable{es:Array MapEntry}{clock:Nat}{l:List (α×Value)}{kt:TypeId}
theorem Ce.size(h:Ce κ es clock l):es.size=l.length:=by
 have:=congrArg List.length h.pairs;simpa using this
theorem Ce.at_(h:Ce κ es clock l){j:Nat}{e:MapEntry}(he:es.toList[j]?=some e):∃p,l[j]?=some p/\e.key=κ p.1/\e.val=p.2:=by
 have h1:(es.toList.map (fun e=>(e.key,e.val)))[j]?=some (e.key,e.val):=by rw [zY,he];rfl
 rw [h.pairs,zY]at h1;cases hp:l[j]?with
 |none=>rw [hp]at h1;cases h1
 |some p=>
  rw [hp]at h1;injection h1 with h1
  injection h1 with h2 h3
  exact ⟨p,V,h2.symm,h3.symm⟩
theorem Ce.of(h:Ce κ es clock l){j:Nat}{p:α×Value}(hp:l[j]?=some p):∃e,es.toList[j]?=some e/\e.key=κ p.1/\e.val=p.2:=by
 have h1:(l.map (fun p=>(κ p.1,p.2)))[j]?=some (κ p.1,p.2):=by rw [zY,hp];rfl
 rw [<-h.pairs,zY]at h1;cases he:es.toList[j]?with
 |none=>rw [he]at h1;cases h1
 |some e=>
  rw [he]at h1;injection h1 with h1
  injection h1 with h2 h3
  exact ⟨e,V,h2,h3⟩
theorem H6(hK:FU P kt κ D)(hm:Ce κ es clock l)(hl:∀p∈l,D p.1)(w:World)(k:α)(hk:D k):
 ((Instr.findKey kt (κ k) es.toList).run P w= .ok none w/\∀p∈l,p.1≠k)\/∃j v,(Instr.findKey kt (κ k) es.toList).run P w= .ok (some (j,v)) w/\l[j]?=some (k,v):=by
 rcases hK.find w k hk es.toList (fun e he=>by
  obtain ⟨j,hj⟩:=AA1 he;obtain ⟨p,hp,h1,_⟩:=hm.at_ hj;exact ⟨p.1,hl p (zP hp),h1⟩)with⟨h1,h2⟩|⟨j,e,h1,h2,h3⟩
 · refine .inl ⟨h1,fun p hp he=>?_⟩
   obtain ⟨j,hj⟩:=AA1 hp;obtain ⟨e,h4,h5,_⟩:=hm.of hj;exact h2 e (zP h4) (by rw [h5,he])
 · obtain ⟨p,hp,h4,h5⟩:=hm.at_ h2
   refine .inr ⟨j,e.val,h1,?_⟩;rw [hp,h5,<-hK.inj p.1 k (by rw [<-h4,h3])]
def Dm [DecidableEq α](k:α)(l:List (α×Value)):Option Value:=(l.find? (fun p=>decide (p.1=k))).map (·.2)
theorem D9 [DecidableEq α]{k:α}(h:∀p∈l,p.1≠k):Dm k l=none:=by
 unfold Dm;rw [AO9.2 (fun p hp=>by simpa using h p hp)];rfl
theorem Ck [DecidableEq α]{k:α}{v:Value}:∀{l:List (α×Value)},(l.map (·.1)).Nodup->(k,v)∈l->Dm k l=some v
 |p::l,hn,h=>by
  rw [zx,AB9]at hn;unfold Dm;rcases za.1 h with rfl|h
  · simp
  · rw [List.find?_cons_of_neg (by simp;rintro rfl;exact hn.1 (zQ.2 ⟨_,h,rfl⟩))]
    exact Ck hn.2 h
theorem Ug [DecidableEq α]{k:α}{v:Value}{l:List (α×Value)}(h:Dm k l=some v):(k,v)∈l:=by
 unfold Dm at h;cases hf:l.find? (fun p=>decide (p.1=k))with
 |none=>rw [hf]at h;cases h
 |some p=>
  rw [hf]at h;injection h with h
  have h1:=AR2 hf;have h2:=AL2 hf
  simp only [Am9]at h1;rw [<-h1,<-h];exact h2
section
variable{env:Env}{d:Option Nat}{ty:TypeId}{pos:String}{af:Array Edge}{g:Option (Nat×Bool)}{t et:TypeId}{r:Nat}{m x y:Operand}{k:α}{v z:Value}
theorem Ed(hK:FU P kt κ D)(hk:D k)(w:World)(em:Bool):(Instr.checkKey em 10000 kt (κ k)).run P w= .ok () w:=by
 exact hK.check w em k hk
theorem nG [DecidableEq α](hK:FU P kt κ D)(ht:P.underlying t=some (.map kt et))(hz:∀w:World,(zeroValue et).run P w= .ok z w)(hm:Ce κ es clock l)(hl:∀p∈l,D p.1)(hk:D k)(hx:∀a,ev a env m= .map (some r))(hy:∀a,ev a env x=κ k):
 OpP P ⟨d,.lookup t m x true,ty,pos,af,g⟩ env [(r,.map es clock)] (.tuple #[(Dm k l).getD z,.bool (Dm k l).isSome]):=fun a w hs=>by
 have hb:=hs (r,.map es clock) Ap0;show((do pure (Next.value (<-Instr.lookup t (ev a env m) (ev a env x) true))):Sem Next).run P w=_
 rw [hx a,hy a];rcases H6 hK hm hl w k hk with⟨h1,h2⟩|⟨j,v,h1,h2⟩
 · rw [D9 h2]
   simp only [Instr.lookup,Sem.run_bind,run_underlying ht,Result.andThen,MapKept.run_getObj_map hb,Ed hK hk,Sem.run_pure,h1,hz];rfl
 · rw [Ck hm.keys (zP h2)]
   simp only [Instr.lookup,Sem.run_bind,run_underlying ht,Result.andThen,MapKept.run_getObj_map hb,Ed hK hk,Sem.run_pure,h1];rfl
theorem De [DecidableEq α]{v0:Value}{b0:Bool}(hK:FU P kt κ D)(ht:P.underlying t=some (.map kt et))(hz:∀w:World,(zeroValue et).run P w= .ok z w)(hm:Ce κ es clock l)(hl:∀p∈l,D p.1)(hk:D k)(hv:(Dm k l).getD z=v0/\(Dm k l).isSome=b0)(hx:∀a,ev a env m= .map (some r))(hy:∀a,ev a env x=κ k):
 OpP P ⟨d,.lookup t m x true,ty,pos,af,g⟩ env [(r,.map es clock)] (.tuple #[v0,.bool b0]):=by
 have:=nG (d:=d) (ty:=ty) (pos:=pos) (af:=af) (g:=g) hK ht hz hm hl hk hx hy;rwa [hv.1,hv.2]at this
theorem PX(ht:P.underlying t=some (.map kt et))(hm:Ce κ es clock l)(hx:∀a,ev a env m= .map (some r)):
 OpP P ⟨d,.call ⟨.builtin .len,#[m],#[t]⟩,ty,pos,af,g⟩ env [(r,.map es clock)] (I4 (l.length:Int)):=fun a w hs=>by
 have hb:=hs (r,.map es clock) Ap0;simp [Dj,resolve,invoke,builtin,hx a,Builtin.len_,run_underlying ht,MapKept.run_getObj_map hb,goInt,hm.size]
theorem FM{w:World}{c:Nat}(hr:w.heap[r]?=some (.map es c))(o':Obj):(setObj r o').run P w= .ok () (setBlock w r o'):=by
 simp [setObj,Sem.run,hr,setBlock]
variable{u:World}{H R:Hp}
theorem D6:OpW P u ⟨d,.makeMap t none,ty,pos,af,g⟩ env H (fun v' H1=>∃b,v'= .map (some b)/\H1=[(b,.map #[] 0)]::H) (fun _ _=>False):=fun a w hs K Kp hK _=>by
 have:(execOp (ev a env) ⟨d,.makeMap t none,ty,pos,af,g⟩).run P w= .ok (.value (.map (some w.heap.size))) {w with heap:=w.heap.push (.map #[] 0)}:=by
  show((do pure (Next.value (<-Instr.makeMap t none))):Sem Next).run P w=_;rfl
 rw [this];exact hK _ _ _ ⟨_,V,V⟩ (hs.alloc _)
theorem JG{w:World}(hone:One [(r,.map es clock)] H R)(hsat:Sat u H w)(o':Obj):w.heap[r]?=some (.map es clock)/\Sat u ([(r,o')]::R) (setBlock w r o'):=by
 have h1:Sat u ([(r,.map es clock)]::R) w:=hsat.perm (by simpa using hone.perm);have hb:=h1.get (r,.map es clock) Ap0
 have hlt:r<w.heap.size:=(zw.1 hb).1;exact ⟨hb,h1.upd (Upd.here _) rfl rfl rfl (by simp [setBlock,hlt]) (fun j hj=>by simp only [setBlock,AI7];rw [Am6 (fun e=>hj e.symm)])⟩
theorem Xu{i:Nat}{q:Value}(hp:l[i]?=some (k,q))(v:Value):((l.set i (k,v)).map (·.1))=l.map (·.1):=by
 apply AD5;intro j;rw [zY,zY,AG1];by_cases hij:i=j
 · subst hij
   have hlt:=(zF.1 hp).1;rw [Am7 rfl,Am7 hlt,hp];rfl
 · rw [Am6 hij]
theorem KX{i j:Nat}{p q:α×Value}(hn:(l.map (·.1)).Nodup)(hp:l[i]?=some p)(hq:l[j]?=some q)(h:p.1=q.1):i=j:=by
 have h1:(l.map (·.1))[i]?=some p.1:=by rw [zY,hp];rfl
 have h2:(l.map (·.1))[j]?=some q.1:=by rw [zY,hq];rfl
 exact (AS5 (zF.1 h1).1 hn).1 (by rw [h1,h2,h])
theorem eu{i:Nat}{q:Value}(hn:(l.map (·.1)).Nodup)(hp:l[i]?=some (k,q))(v:Value)(p:α×Value):p∈l.set i (k,v)↔p=(k,v)\/(p∈l/\p.1≠k):=by
 have hlt:=(zF.1 hp).1;constructor
 · intro h
   obtain ⟨j,hj⟩:=AA1 h;rw [AG1]at hj;by_cases hij:i=j
   · rw [Am7 hij,Am7 Ao7]at hj
     injection hj with hj;exact .inl hj.symm
   · rw [Am6 hij]at hj
     exact .inr ⟨zP hj,fun e=>hij (KX hn hp hj e.symm)⟩
 · rintro (rfl|⟨h,hne⟩)
   · exact zP (by rw [AG1,Am7 rfl,Am7 hlt])
   · obtain ⟨j,hj⟩:=AA1 h
     refine zP (i:=j) ?_;rw [AG1,Am6]
     · exact hj
     · rintro rfl
       rw [hp]at hj;injection hj with hj
       exact hne (by rw [<-hj])
theorem Et(hK:FU P kt κ D)(ht:P.underlying t=some (.map kt et))(hm:Ce κ es clock l)(hl:∀p∈l,D p.1)(hk:D k)(hx:∀a,ev a env m= .map (some r))(hy:∀a,ev a env x=κ k)(hv:∀a,ev a env y=v)(hone:One [(r,.map es clock)] H R):
 OpW P u ⟨d,.mapUpdate t m x y,ty,pos,af,g⟩ env H (fun v' H1=>v'=undef/\∃es' clock' l',Ce κ es' clock' l'/\(∀p,p∈l'↔p=(k,v)\/(p∈l/\p.1≠k))/\H1=[(r,.map es' clock')]::R) (fun _ _=>False):=fun a w hsat K Kp hK2 _=>by
 obtain ⟨hb,_⟩:=JG hone hsat (.map es clock)
 suffices hrun:∃es' clock' l',(Instr.mapUpdate t (.map (some r)) (κ k) v).run P w= .ok () (setBlock w r (.map es' clock'))/\Ce κ es' clock' l'/\∀p,p∈l'↔p=(k,v)\/(p∈l/\p.1≠k) by
  obtain ⟨es',clock',l',h1,h2,h3⟩:=hrun;have:(execOp (ev a env) ⟨d,.mapUpdate t m x y,ty,pos,af,g⟩).run P w= .ok .skip (setBlock w r (.map es' clock')):=by
   show((do Instr.mapUpdate t (ev a env m) (ev a env x) (ev a env y);pure Next.skip):Sem Next).run P w=_;rw [hx a,hy a,hv a,Sem.run_bind,h1];rfl
  rw [this];exact hK2 _ _ _ ⟨V,es',clock',l',h2,h3,V⟩ (JG hone hsat _).2
 rcases H6 hK hm hl w k hk with⟨h1,h2⟩|⟨j,q,h1,h2⟩
 · refine ⟨es.push {key:=κ k,val:=v,born:=clock},clock+1,l++[(k,v)],?_,⟨?_,?_,?_,?_⟩,?_⟩
   · simp only [Instr.mapUpdate,Sem.run_bind,run_underlying ht,Result.andThen,MapKept.run_getObj_map hb,Ed hK hk,h1,FM hb]
   · simp [hm.pairs]
   · simp only [AP5,zK,zx,AE9]
     rw [AA5];refine ⟨hm.born,by simp,?_⟩;intro a ha b hb' hab;simp only [zQ,zI]at ha hb';obtain ⟨e,he,rfl⟩:=ha;have:=hm.old e he
     omega
   · intro e he
     simp only [AP5,zJ,zI]at he;rcases he with he|rfl
     · have:=hm.old e he;omega
     · simp
   · rw [zK,AA5]
     refine ⟨hm.keys,by simp,?_⟩;intro a ha b hb' hab;simp only [zx,AE9,zI]at hb';obtain ⟨p,hp,rfl⟩:=zQ.1 ha;exact h2 p hp (by rw [hab,hb'])
   · intro p
     rw [zJ,zI];constructor
     · rintro (h|rfl)
       · exact .inr ⟨h,h2 p h⟩
       · exact .inl rfl
     · rintro (rfl|⟨h,_⟩)
       · exact .inr rfl
       · exact .inl h
 · obtain ⟨e0,he0,hek,hev⟩:=hm.of h2
   have he1:es[j]?=some e0:=by simpa using he0
   have hst:(Instr.keyThatStays (((es[j]?).map (·.key)).getD (κ k)) (κ k)).run P w= .ok (κ k) w:=by
    rw [he1];show(Instr.keyThatStays e0.key (κ k)).run P w=_
    rw [hek];exact hK.stays w k hk
   refine ⟨es.modify j fun e=>{e with key:=κ k,val:=v},clock,l.set j (k,v),?_,⟨?_,?_,?_,?_⟩,eu hm.keys h2 v⟩
   · simp only [Instr.mapUpdate,Sem.run_bind,run_underlying ht,Result.andThen,MapKept.run_getObj_map hb,Ed hK hk,h1,hst,FM hb]
   · rw [AK5]
     apply AD5;intro i;have hj:(es.toList.map (fun e=>(e.key,e.val)))[i]?=(l.map (fun p=>(κ p.1,p.2)))[i]?:=by rw [hm.pairs]
     rw [zY,zY]at hj;rw [zY,zY,AK3,AG1];by_cases hij:j=i
     · subst hij
       rw [Am7 rfl,Am7 (zF.1 h2).1,he0];simp
     · simpa [hij]using hj
   · have:(es.modify j fun e=>{e with key:=κ k,val:=v}).toList.map (·.born)=es.toList.map (·.born):=by
      rw [AK5];apply AD5;intro i;simp only [zY,AK3];by_cases hij:j=i
      · subst hij;cases es.toList[j]?<;>simp
      · simp [hij]
     rw [this];exact hm.born
   · intro e he
     rw [AK5]at he;obtain ⟨i,hi⟩:=AA1 he;simp only [AK3]at hi;cases h9:es.toList[i]?with
     |none=>simp [h9]at hi
     |some e1=>
      have:=hm.old e1 (zP h9);by_cases hij:j=i
      · subst hij
        simp only [h9,An4,Option.map_eq_map,AG6,AI2]at hi;subst hi;exact this
      · simp [h9,hij]at hi
        subst hi;exact this
   · rw [Xu h2 v];exact hm.keys
theorem Kq{t2:TypeId}(hK:FU P kt κ D)(ht:P.underlying t=some (.map kt et))(hm:Ce κ es clock l)(hl:∀p∈l,D p.1)(hk:D k)(hx:∀a,ev a env m= .map (some r))(hy:∀a,ev a env x=κ k)(hone:One [(r,.map es clock)] H R):
 OpW P u ⟨d,.call ⟨.builtin .delete,#[m,x],#[t,t2]⟩,ty,pos,af,g⟩ env H (fun v' H1=>v'= .tuple #[]/\∃es' clock' l',Ce κ es' clock' l'/\(∀p,p∈l'↔p∈l/\p.1≠k)/\H1=[(r,.map es' clock')]::R) (fun _ _=>False):=fun a w hsat K Kp hK2 _=>by
 obtain ⟨hb,_⟩:=JG hone hsat (.map es clock)
 suffices hrun:∃es' clock' l',(Builtin.delete_ #[t,t2] ty #[.map (some r),κ k]).run P w= .ok (.tuple #[]) (setBlock w r (.map es' clock'))/\Ce κ es' clock' l'/\∀p,p∈l'↔p∈l/\p.1≠k by
  obtain ⟨es',clock',l',h1,h2,h3⟩:=hrun;have:(execOp (ev a env) ⟨d,.call ⟨.builtin .delete,#[m,x],#[t,t2]⟩,ty,pos,af,g⟩).run P w= .ok (.value (.tuple #[])) (setBlock w r (.map es' clock')):=by
   simp only [Dj,resolve,invoke,builtin,AG9,zx,AE9,hx a,hy a,Sem.run_bind,Sem.run_pure,Result.andThen_ok,h1]
  rw [this];exact hK2 _ _ _ ⟨V,es',clock',l',h2,h3,V⟩ (JG hone hsat _).2
 rcases H6 hK hm hl w k hk with⟨h1,h2⟩|⟨j,q,h1,h2⟩
 · refine ⟨es,clock,l,?_,hm,fun p=>⟨fun h=>⟨h,h2 p h⟩,fun h=>h.1⟩⟩
   simp only [Builtin.delete_,AP8,AH1,AH0,Sem.run_bind,run_underlying ht,Result.andThen,MapKept.run_getObj_map hb,Ed hK hk,h1,FM hb,Sem.run_pure]
 · have her:(es.eraseIdxIfInBounds j).toList=es.toList.eraseIdx j:=by
    unfold Array.eraseIdxIfInBounds;split
    · simp
    · rename_i h;rw [List.eraseIdx_of_length_le (by simpa using h)]
   have hsub:(es.toList.eraseIdx j).Sublist es.toList:=List.eraseIdx_sublist _ _;have hmp:∀{α β:Type} (f:α->β) (m:List α) (n:Nat),(m.eraseIdx n).map f=(m.map f).eraseIdx n:=by
    intro α β f m;induction m with
    |nil=>intro n;simp
    |cons x m ih=>intro n;cases n<;>simp [ih]
   refine ⟨es.eraseIdxIfInBounds j,clock,l.eraseIdx j,?_,⟨?_,?_,?_,?_⟩,fun p=>?_⟩
   · simp only [Builtin.delete_,AP8,AH1,AH0,Sem.run_bind,run_underlying ht,Result.andThen,MapKept.run_getObj_map hb,Ed hK hk,h1,FM hb,Sem.run_pure]
   · rw [her,hmp,hm.pairs,hmp]
   · rw [her];exact (hsub.map _).nodup hm.born
   · intro e he
     rw [her]at he;exact hm.old e (hsub.subset he)
   · exact ((List.eraseIdx_sublist l j).map _).nodup hm.keys
   · rw [List.mem_eraseIdx_iff_getElem?]
     constructor
     · rintro ⟨i,hij,hi⟩
       exact ⟨zP hi,fun e=>hij (KX hm.keys hi h2 e)⟩
     · rintro ⟨h,hne⟩
       obtain ⟨i,hi⟩:=AA1 h;refine ⟨i,?_,hi⟩;rintro rfl;rw [h2]at hi;injection hi with hi
       exact hne (by rw [<-hi])
end
end
end Gw
namespace Gw
open Go Go.RowKit
open Go.ChangeMaps
section
variable{α:Type}{κ:α->Value}{P:Program}{es:Array MapEntry}{clock:Nat}{l:List (α×Value)}
structure IQ(es:Array MapEntry)(js:List Nat)(seen:Array Nat):Prop where
 nodup:js.Nodup
 lt:∀j∈js,j<es.size
 mem:∀(j:Nat) (e:MapEntry),es.toList[j]?=some e->(seen.contains e.born=true↔j∈js)
 last:∀(j:Nat),js.getLast?=some j->∃e,es.toList[j]?=some e/\∃s0:Array Nat,seen=s0.push e.born
theorem Jt(es:Array MapEntry):IQ es [] #[]:=⟨by simp,by simp,by simp,by simp⟩
theorem Yu{es:Array MapEntry}(hn:(es.toList.map (·.born)).Nodup){i j:Nat}{a b:MapEntry}(ha:es.toList[i]?=some a)(hb:es.toList[j]?=some b)(h:a.born=b.born):i=j:=by
 have h1:(es.toList.map (·.born))[i]?=some a.born:=by rw [zY,ha];rfl
 have h2:(es.toList.map (·.born))[j]?=some b.born:=by rw [zY,hb];rfl
 exact (AS5 (zF.1 h1).1 hn).1 (by rw [h1,h2,h])
theorem IQ.push(hm:Ce κ es clock l){js:List Nat}{seen:Array Nat}(h:IQ es js seen){j:Nat}{e:MapEntry}(he:es.toList[j]?=some e)(hj:j∉js):IQ es (js++[j]) (seen.push e.born):=by
 refine ⟨?_,?_,?_,?_⟩
 · rw [AA5]
   refine ⟨h.nodup,by simp,?_⟩;intro a ha b hb hab;rw [zI]at hb;subst hb hab;exact hj ha
 · intro i hi
   rcases zJ.1 hi with hi|hi
   · exact h.lt i hi
   · rw [zI]at hi
     subst hi;have:=(zF.1 he).1
     simpa using this
 · intro i x hx
   rw [zJ,zI,<-h.mem i x hx,Array.contains_push];simp only [AG7,beq_iff_eq];constructor
   · rintro (hb|hc)
     · first|exact .inr (Yu hm.born hx he hb)|exact .inl hb
     · first|exact .inl hc|exact .inr (Yu hm.born hx he hc)
   · rintro (hc|rfl)
     · first|exact .inr hc|exact .inl hc
     · rw [he]at hx
       injection hx with hx
       subst hx;first|exact .inl rfl|exact .inr rfl
 · intro i hi
   rw [List.getLast?_append]at hi;simp at hi;subst hi;exact ⟨e,he,seen,V⟩
def D5(l:List (α×Value))(js:List Nat):List (α×Value):=js.filterMap (fun j=>l[j]?)
theorem FY(l:List (α×Value))(js:List Nat){j:Nat}{p:α×Value}(hp:l[j]?=some p):D5 l (js++[j])=D5 l js++[p]:=by
 unfold D5;rw [AJ9];simp [hp]
theorem Mg(l:List (α×Value)):D5 l (List.range l.length)=l:=by
 have h:∀n,n<=l.length->D5 l (List.range n)=l.take n:=by
  intro n;induction n with
  |zero=>intro _;rfl
  |succ n ih=>
   intro hn;obtain ⟨p,hp⟩:∃p,l[n]?=some p:=⟨_,zD Ao7⟩;rw [AO6,FY l _ hp,ih Ao7,AH3,hp];rfl
 rw [h _ (zh _),AA4]
theorem IQ.done(hm:Ce κ es clock l){js:List Nat}{seen:Array Nat}(h:IQ es js seen)(h0:(leftOf es seen).size=0):(D5 l js).Perm l:=by
 have hp:js.Perm (List.range l.length):=by
  rw [AC0 h.nodup AN3];intro j;rw [AD6,<-hm.size];constructor
  · exact h.lt j
  · intro hj
    have hj2:j<es.toList.length:=by simpa using hj
    have he:es.toList[j]?=some (es.toList[j]):=zD hj2;rw [<-h.mem j _ he];unfold leftOf at h0;have h1:=Array.filter_eq_empty_iff.1 (Array.eq_empty_of_size_eq_zero h0)
    have h2:=h1 (es.toList[j]) (AQ8.1 (AT1 hj2));simpa using h2
 have:=hp.filterMap (fun j=>l[j]?);exact this.trans (by rw [show(List.range l.length).filterMap (fun j=>l[j]?)=D5 l (List.range l.length) from rfl,Mg])
section
variable{env:Env}{d:Option Nat}{ty:TypeId}{pos:String}{af:Array Edge}{g:Option (Nat×Bool)}{t kt et:TypeId}{r b:Nat}{x:Operand}{u:World}{H R:Hp}
theorem Ko(ht:P.underlying t=some (.map kt et))(hx:∀a,ev a env x= .map (some r))(hmap:(r,.map es clock)∈H.flatten):
 OpW P u ⟨d,.range t x,ty,pos,af,g⟩ env H (fun v' H1=>∃b,v'=I5 b/\H1=[(b,.mapIter (some r) clock #[] clock)]::H) (fun _ _=>False):=fun a w hs K Kp hK _=>by
 have hb:=hs.get _ hmap;have:(execOp (ev a env) ⟨d,.range t x,ty,pos,af,g⟩).run P w= .ok (.value (.pointer (some ⟨w.heap.size,0,none⟩))) {w with heap:=w.heap.push (.mapIter (some r) clock #[] clock)}:=by
  show((do pure (Next.value (<-Instr.range t (ev a env x)))):Sem Next).run P w=_;rw [hx a];simp only [Instr.range,Sem.run_bind,run_underlying ht,Result.andThen,MapKept.run_getObj_map hb];rfl
 rw [this];exact hK _ _ _ ⟨_,V,V⟩ (hs.alloc _)
theorem Ms(ht:P.underlying t=some (.map kt et))(hx:∀a,ev a env x= .map (some r))(hmap:Has r (.map es clock) H):
 OpW P u ⟨d,.range t x,ty,pos,af,g⟩ env H (fun v' H1=>∃b,v'=I5 b/\H1=[(b,.mapIter (some r) clock #[] clock)]::H) (fun _ _=>False):=Ko ht hx hmap.mem
theorem sG{w:World}{o:Obj}(hone:One [(b,o)] H R)(hsat:Sat u H w)(o':Obj):w.heap[b]?=some o/\Sat u ([(b,o')]::R) (setBlock w b o'):=by
 have h1:Sat u ([(b,o)]::R) w:=hsat.perm (by simpa using hone.perm);have hb:=h1.get (b,o) Ap0
 have hlt:b<w.heap.size:=(zw.1 hb).1;exact ⟨hb,h1.upd (Upd.here _) rfl rfl rfl (by simp [setBlock,hlt]) (fun j hj=>by simp only [setBlock,AI7];rw [Am6 (fun e=>hj e.symm)])⟩
theorem Mt(hm:Ce κ es clock l){js:List Nat}{seen:Array Nat}(hi:IQ es js seen)(hx:∀a,ev a env x=I5 b)(hone:One [(b,.mapIter (some r) clock seen clock)] H R)(hmap:(r,.map es clock)∈R.flatten):
 OpW P u ⟨d,.next x false,ty,pos,af,g⟩ env H (fun v' H1=>((D5 l js).Perm l/\v'= .tuple #[.bool false]/\H1=[(b,.mapIter (some r) clock seen clock)]::R)\/
  ∃j p seen',l[j]?=some p/\j∉js/\IQ es (js++[j]) seen'/\v'= .tuple #[.bool true,κ p.1,p.2]/\H1=[(b,.mapIter (some r) clock seen' clock)]::R) (fun _ _=>False):=fun a w hsat K Kp hK _=>by
 have h1:Sat u ([(b,.mapIter (some r) clock seen clock)]::R) w:=hsat.perm (by simpa using hone.perm);have hb:=h1.get (b,.mapIter (some r) clock seen clock) (by simp)
 have hr:=h1.get (r,.map es clock) (by simp [hmap]);have hx2:(execOp (ev a env) ⟨d,.next x false,ty,pos,af,g⟩)=((do pure (Next.value (<-Instr.next (I5 b) false ty))):Sem Next):=by
  rw [<-hx a];rfl
 rw [hx2];rcases run_next_at (P:=P) w ty b r clock clock seen es clock hb hr hm.old (zh _)with⟨hz,hrun⟩|⟨e,he,w1,hw1,hrun⟩
 · rw [Sem.run_bind,hrun]
   exact hK _ _ _ (.inl ⟨hi.done hm hz,V,V⟩) h1
 · rw [Sem.run_bind,hrun]
   have he2:e∈es.toList/\seen.contains e.born=false:=by
    unfold leftOf at he;simpa using he
   obtain ⟨j,hj⟩:=AA1 he2.1;obtain ⟨p,hp,hk,hv⟩:=hm.at_ hj;have hnj:j∉js:=fun h=>by
    have:=(hi.mem j e hj).2 h;rw [he2.2]at this;cases this
   refine hK _ _ _ (.inr ⟨j,p,_,hp,hnj,hi.push hm hj hnj,by rw [hk,hv],rfl⟩) ?_;have h2:Sat u H w1:=by
    rcases hw1 with rfl|rfl
    · exact hsat
    · exact hsat.drew
   exact (sG hone h2 _).2
theorem Oq(hm:Ce κ es clock l){js:List Nat}{seen:Array Nat}(hi:IQ es js seen)(hx:∀a,ev a env x=I5 b)(hone:One [(b,.mapIter (some r) clock seen clock)] H R)(hmap:Has r (.map es clock) R):
 OpW P u ⟨d,.next x false,ty,pos,af,g⟩ env H (fun v' H1=>((D5 l js).Perm l/\v'= .tuple #[.bool false]/\H1=[(b,.mapIter (some r) clock seen clock)]::R)\/
  ∃j p seen',l[j]?=some p/\j∉js/\IQ es (js++[j]) seen'/\v'= .tuple #[.bool true,κ p.1,p.2]/\H1=[(b,.mapIter (some r) clock seen' clock)]::R) (fun _ _=>False):=Mt hm hi hx hone hmap.mem
theorem Ir(hm:Ce κ es clock l){js:List Nat}{seen:Array Nat}{j:Nat}{p:α×Value}(hi:IQ es (js++[j]) seen)(hp:l[j]?=some p)(hx:∀a,ev a env x=I5 b):
 OpP P ⟨d,.entry x,ty,pos,af,g⟩ env [(b,.mapIter (some r) clock seen clock),(r,.map es clock)] (.tuple #[κ p.1,p.2]):=fun a w hs=>by
 have hb:=hs (b,.mapIter (some r) clock seen clock) Ap0;have hr:=hs (r,.map es clock) Ap0
 obtain ⟨e,he,s0,rfl⟩:=hi.last j Ap0;obtain ⟨p2,hp2,hk,hv⟩:=hm.at_ he;rw [hp]at hp2;injection hp2 with hp2
 subst hp2;have hrun:=run_entry_at (P:=P) w b r clock s0 es clock e hb hr (zP he) hm.born
 show((do pure (Next.value (<-Instr.entry (ev a env x)))):Sem Next).run P w=_;rw [hx a,Sem.run_bind,hrun,hk,hv];rfl
end
end
end Gw
namespace Gl
open Go
def linUpon(P:Program)(K:Value->World->Prop):Result Next->Prop
 | .ok (.value u) w=>K u w
 | .ok .skip w=>K undef w
 | .ok (.enter f args) w=>Calls P f args w (fun e w'=>∃u,e= .returned u/\K u w')
 |_=>False
def lookE(a:Act):List (Nat×Value)->Nat->Value
 |[],t=>a.tmps.getD t undef
 |(d,v)::env,t=>if t=d then v else lookE a env t
def evalE(a:Act)(env:List (Nat×Value)):Operand->Value
 | .tmp t=>lookE a env t
 | .const v=>v
 | .global g=>I5 g
 | .func f=> .func (.func f) #[] #[]
def yieldE(ops:Array Oper)(a:Act)(env:List (Nat×Value))(g:Nat)(want:Bool):Bool:=
 match(ops[g]?).bind (·.dst)with
 |some t=>match lookE a env t with
  | .bool b=>b==want
  |_=>false
 |none=>false
def wantedE(ops:Array Oper)(a:Act)(env:List (Nat×Value)):Option (Nat×Bool)->Bool
 |none=>true
 |some (g,want)=>yieldE ops a env g want
def putE(d:Option Nat)(v:Value)(env:List (Nat×Value)):List (Nat×Value):=
 match d with
 |some d=>(d,v)::env
 |none=>env
def putsE:List (Nat×Value)->Act->Act
 |[],a=>a
 |(d,v)::env,a=>(putsE env a).put (some d) v
def Xp(P:Program)(ops:Array Oper)(o:Oper)(a:Act)(env:List (Nat×Value))(v:Value)(R:World->Prop)(w:World):Prop:=
 ∀K:Value->World->Prop,(∀w',R w'->K v w')->if wantedE ops a env o.guard=true then linUpon P K ((execOp (evalE a env) o).run P w)else K undef w
def MU(P:Program)(ops:Array Oper)(S:Nat->World->Prop)(Q:Act->World->Prop)(a:Act):Nat->List Oper->List Bool->List (Nat×Value)->Prop
 |k,[],_,env=>∀w,S k w->Q (putsE env a) w
 |k,o::l,true::fs,env=>∃v,(∀w,S k w->Xp P ops o a env v (S (k+1)) w)/\MU P ops S Q a (k+1) l fs (putE o.dst v env)
 |k,o::l,false::fs,env=>∃v,(∀j w,S j w->Xp P ops o a env v (S j) w)/\MU P ops S Q a k l fs (putE o.dst v env)
 |_,_::_,[],_=>False
def SH(ops:Array Oper)(fl:List Bool)(N:Nat):Bool:=
 let b:=Region.before ops
 decide (fl.length=ops.size)&&
 (List.range ops.size).all fun j=>match ops[j]?with
   |none=>false
   |some oj=>
    (oj.after.toList.all fun e=>!Region.binds .any e||decide (e.on<j))&&
    ((List.range j).all fun i=>match ops[i]?with
      |none=>false
      |some oi=>
       (!(b.getD j 0).testBit i||oj.after.toList.any (fun e=>Region.binds .any e&&(e.on==i||(decide (i<e.on)&&(b.getD e.on 0).testBit i))))&&
       (oi.apart ops oj||(b.getD j 0).testBit i)&&
       (!(fl.getD i false&&fl.getD j false)||(b.getD j 0).testBit i))&&
    (match oj.op with| .select ..=>false|_=>true)&&
    (match oj.dst with|some d=>decide (d<N)|none=>true)
def Js(p:Nat->Bool):Nat->List (Oper×Value)->Act->Act
 |_,[],a=>a
 |i,x::l,a=>Js p (i+1) l (if p i then a.put x.1.dst x.2 else a)
def tv(p:Nat->Bool)(t:Nat):Nat->List (Oper×Value)->Option Value->Option Value
 |_,[],d=>d
 |i,x::l,d=>tv p t (i+1) l (if p i=true/\x.1.dst=some t then some x.2 else d)
theorem Dl(a:Act)(d:Option Tmp)(v:Value):(a.put d v).tmps.size=a.tmps.size:=by cases d<;>simp [Act.put]
theorem JL(a:Act)(d:Option Tmp)(v:Value):(a.put d v).defers=a.defers:=by cases d<;>simp [Act.put]
theorem IX(a:Act)(d:Option Tmp)(v:Value)(t:Nat)(ht:t<a.tmps.size):(a.put d v).tmps[t]?=if d=some t then some v else a.tmps[t]?:=by
 cases d with
 |none=>simp [Act.put]
 |some d=>
  simp only [Act.put,AI7];by_cases e:d=t
  · subst e;simp [ht]
  · simp [e]
theorem Ib{a b:Act}(hs:a.tmps.size=b.tmps.size)(hd:a.defers=b.defers)(h:∀t,t<a.tmps.size->a.tmps[t]?=b.tmps[t]?):a=b:=by
 obtain ⟨x,d⟩:=a;obtain ⟨y,e⟩:=b;simp only at hd hs h;subst hd;congr 1;apply AT9 hs;intro i hi hj;have:=h i hi
 simp only [zn hi,zn hj,AI2]at this;exact this
theorem Cm(p:Nat->Bool):∀(i:Nat) (l:List (Oper×Value)) (a:Act),(Js p i l a).tmps.size=a.tmps.size
 |_,[],_=>rfl
 |i,x::l,a=>by simp only [Js];rw [Cm p (i+1) l];split<;>simp [Dl]
theorem Ey(p:Nat->Bool):∀(i:Nat) (l:List (Oper×Value)) (a:Act),(Js p i l a).defers=a.defers
 |_,[],_=>rfl
 |i,x::l,a=>by simp only [Js];rw [Ey p (i+1) l];split<;>simp [JL]
theorem Di(p:Nat->Bool)(t:Nat):∀(i:Nat) (l:List (Oper×Value)) (a:Act),t<a.tmps.size->(Js p i l a).tmps[t]?=tv p t i l a.tmps[t]?
 |_,[],_,_=>rfl
 |i,x::l,a,ht=>by
  simp only [Js,tv];rw [Di p t (i+1) l _ (by split<;>simpa [Dl]using ht)];congr 1;by_cases hp:p i=true
  · simp only [hp,An4,An7];rw [IX _ _ _ _ ht]
  · simp [hp]
theorem Ec(p q:Nat->Bool)(t:Nat):∀(i:Nat) (l:List (Oper×Value)) (d:Option Value),(∀k x,l[k]?=some x->x.1.dst=some t->p (i+k)=q (i+k))->tv p t i l d=tv q t i l d
 |_,[],_,_=>rfl
 |i,x::l,d,h=>by
  simp only [tv];have h0:(if p i=true/\x.1.dst=some t then some x.2 else d)=(if q i=true/\x.1.dst=some t then some x.2 else d):=by
   by_cases e:x.1.dst=some t
   · have:=h 0 x rfl e;simp only [AH6]at this;simp [this]
   · simp [e]
  rw [h0];exact Ec p q t (i+1) l _ fun k y hk hy=>by
   have:=h (k+1) y (by simpa using hk) hy;rwa [show i+(k+1)=i+1+k from by omega]at this
theorem dw(p:Nat->Bool)(t:Nat):∀(i k:Nat) (l:List (Oper×Value)) (d:Option Value) (x:Oper×Value),l[k]?=some x->x.1.dst=some t->p (i+k)=true->
 (∀k' y,k<k'->l[k']?=some y->y.1.dst=some t->p (i+k')=false)->tv p t i l d=some x.2
 |i,0,z::l,d,x,hk,hx,hp,h=>by
  simp only [AH1,AI2]at hk;subst hk;simp only [tv];simp only [AH6]at hp;simp only [hp,hx,and_self,An4];rw [Ec p (fun _=>false) t (i+1) l _ fun k y hk hy=>by
   have:=h (k+1) y (by omega) (by simpa using hk) hy;rwa [show i+(k+1)=i+1+k from by omega]at this]
  have:∀(i:Nat) (l:List (Oper×Value)) (d:Option Value),tv (fun _=>false) t i l d=d:=by
   intro i l;induction l generalizing i with
   |nil=>intro d;rfl
   |cons y l ih=>intro d;simp [tv,ih]
  rw [this]
 |i,k+1,z::l,d,x,hk,hx,hp,h=>by
  simp only [tv];exact dw p t (i+1) k l _ x (by simpa using hk) hx (by rwa [show i+1+k=i+(k+1) from by omega]) fun k' y hk' hy he=>by
   have:=h (k'+1) y Ao7 (by simpa using hy) he;rwa [show i+(k'+1)=i+1+k' from by omega]at this
 |i,k,[],d,x,hk,_,_,_=>by simp at hk
def pre(j:Nat)(l:List (Oper×Value))(a:Act):Act:=(l.take j).foldl (fun a x=>a.put x.1.dst x.2) a
theorem Qi(j:Nat):∀(i:Nat) (l:List (Oper×Value)) (a:Act),Js (fun k=>decide (k<i+j)) i l a=pre j l a:=by
 induction j with
 |zero=>
  intro i l;induction l generalizing i with
  |nil=>intro a;rfl
  |cons x l ih=>
   intro a;simp only [Js,AH6,Nat.lt_irrefl,An5,AD4,An2];have:∀(m i:Nat) (l:List (Oper×Value)) (a:Act),i<=m->Js (fun k=>decide (k<i)) m l a=a:=by
    intro m i l;induction l generalizing m with
    |nil=>intro a _;rfl
    |cons y l ih=>intro a h;simp only [Js];rw [Am6 Ap8];exact ih (m+1) a Ao7
   rw [this (i+1) i l a Ao7];rfl
 |succ j ih=>
  intro i l a;cases l with
  |nil=>rfl
  |cons x l=>
   simp only [Js];rw [Am7 Ap0];have:=ih (i+1) l (a.put x.1.dst x.2)
   rw [show i+1+j=i+(j+1) from by omega]at this;rw [this];rfl
def Em(fs:List Bool):Nat:=(fs.filter id).length
def LY(P:Program)(ops:Array Oper)(o:Oper)(a:Act)(v:Value)(R:World->Prop)(w:World):Prop:=
 ∀K:Value->World->Prop,(∀w',R w'->K v w')->if Region.wanted o (yielded ops a.tmps)then linUpon P K ((execOp a.eval o).run P w)else K undef w
theorem KE(a:Act):∀env,(putsE env a).tmps.size=a.tmps.size
 |[]=>rfl
 |(d,v)::env=>by simp only [putsE];rw [Dl,KE a env]
theorem NB(a:Act):∀(env:List (Nat×Value)),(∀x∈env,x.1<a.tmps.size)->∀t,(putsE env a).tmps.getD t undef=lookE a env t
 |[],_,t=>rfl
 |(d,v)::env,h,t=>by
  simp only [putsE,lookE];have ih:=NB a env (fun x hx=>h x (zW _ hx)) t
  have hd:=h (d,v) (zX ..);rw [AA8]at ih⊢;by_cases ht:t<a.tmps.size
  · rw [IX _ _ _ _ (by rw [KE];exact ht)]
    by_cases e:t=d
    · subst e;simp
    · rw [Am6 e,<-ih,Am6 (fun he=>e (AG5 he).symm)]
  · rw [AA9 (by rw [Dl,KE];omega)]
    rw [AA9 (by rw [KE];omega)]at ih;rw [<-ih,Am6 (by simp only at hd;omega)]
theorem aP(a:Act)(env:List (Nat×Value))(h:∀x∈env,x.1<a.tmps.size):(putsE env a).eval=evalE a env:=by
 funext x;cases x with
 |tmp t=>exact NB a env h t
 |_=>rfl
theorem ZK(ops:Array Oper)(o:Oper)(a:Act)(env:List (Nat×Value))(h:∀x∈env,x.1<a.tmps.size):Region.wanted o (yielded ops (putsE env a).tmps)=wantedE ops a env o.guard:=by
 unfold Region.wanted wantedE;cases hg:o.guard with
 |none=>rfl
 |some gw=>
  obtain ⟨g,want⟩:=gw;simp only [yielded,yieldE];cases ht:(ops[g]?).bind (·.dst)with
  |none=>simp
  |some t=>
   simp only [AC4];rw [<-NB a env h t,AA8];cases hv:(putsE env a).tmps[t]?with
   |none=>simp [undef]
   |some v=>cases v<;>simp
theorem Uk{P:Program}{ops:Array Oper}{o:Oper}{a:Act}{env:List (Nat×Value)}{v:Value}{R:World->Prop}{w:World}(h:∀x∈env,x.1<a.tmps.size)(hl:Xp P ops o a env v R w):LY P ops o (putsE env a) v R w:=by
 intro K hK;have:=hl K hK
 rw [ZK ops o a env h,aP a env h];exact this
theorem Qr{P:Program}{ops:Array Oper}{S:Nat->World->Prop}{Q:Act->World->Prop}{a:Act}:∀(l:List Oper) (fs:List Bool) (k:Nat) (env:List (Nat×Value)),(∀o∈l,∀d,o.dst=some d->d<a.tmps.size)->(∀x∈env,x.1<a.tmps.size)->MU P ops S Q a k l fs env->
 ∃x:List (Oper×Value),x.map (·.1)=l/\
  (∀j o v,x[j]?=some (o,v)->(fs.getD j false=true->∀w,S (k+Em (fs.take j)) w->LY P ops o (pre j x (putsE env a)) v (S (k+Em (fs.take j)+1)) w)/\
    (fs.getD j false=false->∀i w,S i w->LY P ops o (pre j x (putsE env a)) v (S i) w))/\
  ∀w,S (k+Em (fs.take l.length)) w->Q (pre l.length x (putsE env a)) w
 |[],fs,k,env,_,_,h=>⟨[],rfl,fun j o v hj=>by simp at hj,by simpa [MU,Em,pre]using h⟩
 |o::l,true::fs,k,env,hd,he,h=>by
  obtain ⟨v,h1,h2⟩:=h;have he':∀x∈putE o.dst v env,x.1<a.tmps.size:=by
   intro x hx;unfold putE at hx;split at hx
   · rename_i d hdd
     rcases za.1 hx with rfl|hx
     · exact hd o (zX ..) d hdd
     · exact he x hx
   · exact he x hx
  have hpe:putsE (putE o.dst v env) a=(putsE env a).put o.dst v:=by unfold putE;split<;>(rename_i hdd;rw [hdd];rfl)
  obtain ⟨x,hx,hs,hq⟩:=Qr l fs (k+1) _ (fun o' ho=>hd o' (zW _ ho)) he' h2;rw [hpe]at hs hq;refine ⟨(o,v)::x,by simp [hx],fun j o' v' hj=>?_,fun w hw=>?_⟩
  · cases j with
    |zero=>
     simp only [AH1,AI2,AQ4]at hj;obtain ⟨rfl,rfl⟩:=hj;exact ⟨fun _ w hw=>Uk he (h1 w (by simpa [Em]using hw)),fun h=>by simp at h⟩
    |succ j=>
     obtain ⟨g1,g2⟩:=hs j o' v' (by simpa using hj);have e:k+Em ((true::fs).take (j+1))=k+1+Em (fs.take j):=by simp [Em];omega
     rw [e];exact ⟨fun h=>g1 (by simpa using h),fun h=>g2 (by simpa using h)⟩
  · have e:k+Em ((true::fs).take (o::l).length)=k+1+Em (fs.take l.length):=by simp [Em];omega
    rw [e]at hw;exact hq w hw
 |o::l,false::fs,k,env,hd,he,h=>by
  obtain ⟨v,h1,h2⟩:=h;have he':∀x∈putE o.dst v env,x.1<a.tmps.size:=by
   intro x hx;unfold putE at hx;split at hx
   · rename_i d hdd
     rcases za.1 hx with rfl|hx
     · exact hd o (zX ..) d hdd
     · exact he x hx
   · exact he x hx
  have hpe:putsE (putE o.dst v env) a=(putsE env a).put o.dst v:=by unfold putE;split<;>(rename_i hdd;rw [hdd];rfl)
  obtain ⟨x,hx,hs,hq⟩:=Qr l fs k _ (fun o' ho=>hd o' (zW _ ho)) he' h2;rw [hpe]at hs hq;refine ⟨(o,v)::x,by simp [hx],fun j o' v' hj=>?_,fun w hw=>?_⟩
  · cases j with
    |zero=>
     simp only [AH1,AI2,AQ4]at hj;obtain ⟨rfl,rfl⟩:=hj;exact ⟨fun h=>by simp at h,fun _ i w hw=>Uk he (h1 i w hw)⟩
    |succ j=>
     obtain ⟨g1,g2⟩:=hs j o' v' (by simpa using hj);have e:k+Em ((false::fs).take (j+1))=k+Em (fs.take j):=by simp [Em]
     rw [e];exact ⟨fun h=>g1 (by simpa using h),fun h=>g2 (by simpa using h)⟩
  · have e:k+Em ((false::fs).take (o::l).length)=k+Em (fs.take l.length):=by simp [Em]
    rw [e]at hw;exact hq w hw
 |_::_,[],_,_,_,_,h=>(h:False).elim
theorem Pj(n j:Nat)(p q:Nat->Bool)(hj:j<n)(hp:p j=false)(hq:q j=true)(h:∀i,i<n->i≠j->p i=q i):(List.range n).countP q=(List.range n).countP p+1:=by
 induction n with
 |zero=>omega
 |succ n ih=>
  rw [AO6,AO7,AO7];by_cases e:j=n
  · subst e
    have:(List.range j).countP q=(List.range j).countP p:=List.countP_congr fun i hi=>by
     have:=AD6.1 hi;rw [h i Ao7 Ao7]
    simp [this,hp,hq]
  · have:=ih Ao7 fun i hi hn=>h i Ao7 hn
    have e2:=h n Ao7 (AT8 e);simp only [List.countP_singleton,e2];omega
theorem KU(n:Nat)(p q:Nat->Bool)(h:∀i,i<n->p i=q i):(List.range n).countP q=(List.range n).countP p:=
 List.countP_congr fun i hi=>by rw [h i (AD6.1 hi)]
theorem NT(fs:List Bool)(n:Nat)(hn:n<=fs.length):∀j,j<=n->(List.range n).countP (fun i=>decide (i<j)&&fs.getD i false)=Em (fs.take j)
 |0,_=>by simp [Em]
 |j+1,hj=>by
  have ih:=NT fs n hn j Ao7;have ht:fs.take (j+1)=fs.take j++[fs[j]]:=by rw [AL7 Ao7]
  have hg:fs.getD j false=fs[j]:=by simp [zD (show j<fs.length by omega)]
  rw [ht];cases hb:fs[j]with
  |true=>
   rw [Pj n j (fun i=>decide (i<j)&&fs.getD i false) _ Ao7 Ap0 (by simp only [hg,hb];simp) (fun i _ hne=>by
    have:decide (i<j)=decide (i<j+1):=by apply decide_eq_decide.2;omega
    simp only [this]),ih]
   simp [Em]
  |false=>
   rw [KU n (fun i=>decide (i<j)&&fs.getD i false) _ (fun i _=>by
    by_cases e:i=j
    · subst e;simp only [hg,hb];simp
    · have:decide (i<j)=decide (i<j+1):=by apply decide_eq_decide.2;omega
      simp only [this]),ih]
   simp [Em]
structure IJ(ops:Array Oper)(fl:List Bool)(N:Nat):Prop where
 len:fl.length=ops.size
 edge:∀j oj e,ops[j]?=some oj->e∈oj.after->Region.binds .any e=true->e.on<j
 anc:∀j oj i,ops[j]?=some oj->i<j->((Region.before ops).getD j 0).testBit i=true->∃e∈oj.after,Region.binds .any e=true/\(e.on=i\/(i<e.on/\((Region.before ops).getD e.on 0).testBit i=true))
 apart:∀i j oi oj,ops[i]?=some oi->ops[j]?=some oj->i<j->oi.apart ops oj=true\/((Region.before ops).getD j 0).testBit i=true
 flags:∀i j oj,ops[j]?=some oj->i<j->fl.getD i false=true->fl.getD j false=true->((Region.before ops).getD j 0).testBit i=true
 sel:∀(j:Nat) (oj:Oper) (cs:Array SelectCase) (b:Bool),ops[j]?=some oj->oj.op≠ .select cs b
 room:∀(j:Nat) (oj:Oper) (d:Nat),ops[j]?=some oj->oj.dst=some d->d<N
theorem bM{ops:Array Oper}{fl:List Bool}{N:Nat}(h:SH ops fl N=true):IJ ops fl N:=by
 simp only [SH,zy,Am9,AE0,AD6]at h;obtain ⟨h0,h⟩:=h;have hlt:∀{j:Nat} {o:Oper},ops[j]?=some o->j<ops.size:=fun hj=>(zw.1 hj).1
 refine ⟨h0,fun j oj e hj he hb=>?_,fun j oj i hj hi hb=>?_,fun i j oi oj hi hj hij=>?_,fun i j oj hj hij h1 h2=>?_,fun j oj cs b hj hs=>?_,fun j oj d hj hd=>?_⟩
 · have:=h j (hlt hj)
   simp only [hj,zy,AE0]at this;have:=this.1.1.1 e (by simpa using he)
   simpa [hb]using this
 · have:=h j (hlt hj)
   simp only [hj,zy,AE0,AD6]at this;have:=this.1.1.2 i hi
   obtain ⟨oi,hoi⟩:∃oi,ops[i]?=some oi:=⟨_,zn (by have:=hlt hj;omega)⟩;simp only [hoi,zy]at this;have:=this.1.1
   rw [hb]at this;simp only [AK8,AS6,AM2,zy,AG7,beq_iff_eq,Am9]at this;obtain ⟨e,he,hb,ho⟩:=this;exact ⟨e,by simpa using he,hb,ho⟩
 · have:=h j (hlt hj)
   simp only [hj,zy,AE0,AD6]at this;have:=this.1.1.2 i hij
   simp only [hi,zy,AG7]at this;exact this.1.2
 · have:=h j (hlt hj)
   simp only [hj,zy,AE0,AD6]at this;have:=this.1.1.2 i hij
   obtain ⟨oi,hoi⟩:∃oi,ops[i]?=some oi:=⟨_,zn (by have:=hlt hj;omega)⟩;simp only [hoi,zy]at this;have:=this.2
   rw [h1,h2]at this;simpa using this
 · have:=h j (hlt hj)
   simp only [hj,zy]at this;rw [hs]at this;simp at this
 · have:=h j (hlt hj)
   simp only [hj,zy]at this;rw [hd]at this;simpa using this.2
def dh(ops:Array Oper)(L:Array Bool):Prop:=∀j oj,ops[j]?=some oj->L.getD j false=true->∀e∈oj.after,Region.binds .any e=true->L.getD e.on false=true
theorem FR{ops:Array Oper}{fl:List Bool}{N:Nat}(F:IJ ops fl N){L:Array Bool}(hL:dh ops L):∀(j i:Nat) (oj:Oper),ops[j]?=some oj->i<j->((Region.before ops).getD j 0).testBit i=true->
 (∀e∈oj.after,Region.binds .any e=true->L.getD e.on false=true)->L.getD i false=true:=by
 intro j;induction j using Nat.strongRecOn with
 |ind j ih=>
  intro i oj hj hi hb hw;obtain ⟨e,he,hbe,hor⟩:=F.anc j oj i hj hi hb;rcases hor with rfl|⟨hie,hor⟩
  · exact hw e he hbe
  · have hlt:=F.edge j oj e hj he hbe
    obtain ⟨oe,hoe⟩:∃oe,ops[e.on]?=some oe:=⟨_,zn (by have:=(zw.1 hj).1;omega)⟩;exact ih e.on hlt i oe hoe hie hor (fun e' he' hb'=>hL e.on oe hoe (hw e he hbe) e' he' hb')
theorem KR{ops:Array Oper}{o:Oper}{a b:Act}(h:∀t∈o.looksAt ops,a.tmps[t]?=b.tmps[t]?):∀x∈o.op.operands,a.eval x=b.eval x:=by
 intro x hx;cases x with
 |tmp t=>
  have ht:t∈o.looksAt ops:=zR _ (AI0.2 ⟨.tmp t,by simpa using hx,rfl⟩);have:=h t ht
  simp only [Act.eval,AA8,this]
 |_=>rfl
theorem GL{ops:Array Oper}{o:Oper}{a b:Act}(h:∀t∈o.looksAt ops,a.tmps[t]?=b.tmps[t]?):Region.wanted o (yielded ops a.tmps)=Region.wanted o (yielded ops b.tmps):=by
 unfold Region.wanted;cases hg:o.guard with
 |none=>rfl
 |some gw=>
  obtain ⟨g,want⟩:=gw;have hy:yielded ops a.tmps g=yielded ops b.tmps g:=by
   unfold yielded;cases ht:(ops[g]?).bind (·.dst)with
   |none=>rfl
   |some t=>
    have:=h t (by simp [Oper.looksAt,hg,ht]);simp [this]
  simp only [hy]
theorem Xo{P:Program}{ops:Array Oper}{i:Nat}{o:Oper}{a b:Act}{v:Value}{R:World->Prop}{w:World}{Q:Exit->Act->World->Prop}{K:Act->World->Prop}
 (hi:ops[i]?=some o)(hsel:∀cs b,o.op≠ .select cs b)(hl:∀t∈o.looksAt ops,a.tmps[t]?=b.tmps[t]?)
 (h:LY P ops o b v R w)(hK:∀w',R w'->K (a.put o.dst v) w'):wpOp P ops Q i K a w:=by
 have h1:=h (fun u w'=>u=v/\R w') (fun w' hw=>⟨rfl,hw⟩);unfold wpOp;simp only [hi];rw [GL hl];by_cases hw:Region.wanted o (yielded ops b.tmps)=true
 · rw [Am7 hw]at h1⊢
   refine .inl ?_;unfold Oper.wp;rw [execOp_congr o hsel (KR hl)];generalize (execOp b.eval o).run P w=r at*;cases r with
   |ok n w'=>
    cases n<;>simp only [Oper.upon,linUpon]at h1⊢
    case value u=>rw [h1.1];exact hK _ h1.2
    case skip=>rw [h1.1];exact hK _ h1.2
    case enter f args=>
     refine Calls.mono h1 fun e w'' he=>?_;obtain ⟨u,rfl,hu,hR⟩:=he;simp only;rw [hu];exact hK _ hR
   |halt x w'=>simp only [linUpon]at h1
 · rw [Am6 hw]at h1⊢
   rw [h1.1];exact hK _ h1.2
section
variable{P:Program}{ops:Array Oper}{fl:List Bool}{N:Nat}{S:Nat->World->Prop}{Q:Exit->Act->World->Prop}{x:List (Oper×Value)}{a0:Act}
structure JW(ops:Array Oper)(fl:List Bool)(S:Nat->World->Prop)(x:List (Oper×Value))(a0:Act)(L:Array Bool)(a:Act)(w:World):Prop where
 size:L.size=ops.size
 shut:dh ops L
 act:a=Js (fun i=>L.getD i false) 0 x a0
 stage:S ((List.range ops.size).countP fun i=>L.getD i false&&fl.getD i false) w
theorem o7(F:IJ ops fl N)(hx:x.map (·.1)=ops.toList)
 (hs:∀j o v,x[j]?=some (o,v)->(fl.getD j false=true->∀w,S (Em (fl.take j)) w->LY P ops o (pre j x a0) v (S (Em (fl.take j)+1)) w)/\
   (fl.getD j false=false->∀i w,S i w->LY P ops o (pre j x a0) v (S i) w))
 {L:Array Bool}{a:Act}{w:World}(H:JW ops fl S x a0 L a w){j:Nat}(hj:j∈Region.ready .any ops L){K:Act->World->Prop}
 (hK:∀a' w',JW ops fl S x a0 (L.setIfInBounds j true) a' w'->K a' w'):wpOp P ops Q j K a w:=by
 obtain ⟨hun,oj,hoj,hall⟩:=mem_ready.1 hj;have hjs:j<ops.size:=(zw.1 hoj).1
 have hxl:x.length=ops.size:=by have:=congrArg List.length hx;simpa using this
 have hget:∀k,k<ops.size->∃o v,x[k]?=some (o,v)/\ops[k]?=some o:=fun k hk=>by
  obtain ⟨y,hy⟩:∃y,x[k]?=some y:=⟨_,zD Ao7⟩;refine ⟨y.1,y.2,hy,?_⟩;have:(x.map (·.1))[k]?=some y.1:=by simp [hy]
  rw [hx]at this;simpa using this
 have hops:∀(k:Nat) (y:Oper×Value),x[k]?=some y->ops[k]?=some y.1:=fun k y hy=>by
  have:(x.map (·.1))[k]?=some y.1:=by simp [hy]
  rw [hx]at this;simpa using this
 obtain ⟨o',v,hxj,ho'⟩:=hget j hjs;obtain rfl:oj=o':=by rw [hoj]at ho';exact AG5 ho'
 have hunF:L.getD j false=false:=by
  rw [AA8]at hun⊢;rw [zn (by rw [H.size];exact hjs)]at hun⊢;simpa using hun
 have hbefore:∀i,i<j->((Region.before ops).getD j 0).testBit i=true->L.getD i false=true:=fun i hi hb=>FR F H.shut j i oj hoj hi hb hall;have hbehind:∀i oi,ops[i]?=some oi->j<i->((Region.before ops).getD i 0).testBit j=true->L.getD i false=false:=fun i oi hoi hij hb=>by
  cases h:L.getD i false with
  |false=>rfl
  |true=>
   have:=FR F H.shut i j oi hoi hij hb (fun e he hbe=>H.shut i oi hoi h e he hbe);rw [hunF]at this;cases this
 have hwr:∀(t:Nat),(t∈oj.looksAt ops\/oj.dst=some t)->∀(k:Nat) (y:Oper×Value),x[k]?=some y->y.1.dst=some t->k≠j->L.getD k false=decide (k<j):=by
  intro t ht k y hy hd hk;have hoy:=hops k y hy
  rcases AB1 k j with hlt|hge
  · rw [Am8 hlt]
    refine hbefore k hlt ((F.apart k j y.1 oj hoy hoj hlt).resolve_left fun hap=>?_);obtain ⟨h1,h2,h3⟩:=Oper.apart_spec hap;rcases ht with ht|ht
    · exact h1 t hd ht
    · exact h2 t hd ht
  · have hgt:j<k:=by omega
    rw [Am5 Ao7];refine hbehind k y.1 hoy hgt ((F.apart j k oj y.1 hoj hoy hgt).resolve_left fun hap=>?_);obtain ⟨h1,h2,h3⟩:=Oper.apart_spec hap;rcases ht with ht|ht
    · exact h3 t hd ht
    · exact h2 t ht hd
 have hsz:a.tmps.size=a0.tmps.size:=by rw [H.act,Cm]
 have hszp:(pre j x a0).tmps.size=a0.tmps.size:=by rw [<-Qi j 0 x a0,Cm]
 have hlook:∀t∈oj.looksAt ops,a.tmps[t]?=(pre j x a0).tmps[t]?:=by
  intro t ht;by_cases hts:t<a0.tmps.size
  · rw [H.act,<-Qi j 0 x a0,Di _ _ _ _ _ hts,Di _ _ _ _ _ hts]
    refine Ec _ _ t 0 x _ fun k y hy hd=>?_;simp only [zo];by_cases e:k=j
    · subst e;rw [hunF];simp
    · exact hwr t (.inl ht) k y hy hd e
  · rw [AA9 (by rw [hsz];exact AL9 hts),AA9 (by rw [hszp];exact AL9 hts)]
 have hset:∀i,(L.setIfInBounds j true).getD i false=if i=j then true else L.getD i false:=fun i=>by
  by_cases e:i=j
  · subst e;simp [H.size,hjs]
  · rw [getD_set_ne false (AT8 e),Am6 e]
 have hnew:∀w',(∀k,k=((List.range ops.size).countP fun i=>(L.setIfInBounds j true).getD i false&&fl.getD i false)->S k w')->JW ops fl S x a0 (L.setIfInBounds j true) (a.put oj.dst v) w':=by
  intro w' hw';refine ⟨by simp [H.size],fun k ok hk hl e he hb=>?_,?_,hw' _ V⟩
  · rw [hset]at hl
    rw [hset];by_cases e1:k=j
    · subst e1
      rw [hoj]at hk;obtain rfl:=AG5 hk;rw [hall e he hb];simp
    · rw [Am6 e1]at hl
      rw [H.shut k ok hk hl e he hb];simp
  · refine Ib ?_ ?_ fun t ht=>?_
    · rw [Dl,Cm,hsz]
    · rw [JL,Ey,H.act,Ey]
    · rw [Dl,hsz]at ht
      rw [IX _ _ _ _ (by rw [hsz];exact ht),Di _ _ _ _ _ ht];by_cases hd:oj.dst=some t
      · rw [Am7 hd]
        refine (dw _ t 0 j x _ (oj,v) hxj hd (by simp [H.size,hjs]) fun k y hk hy hdy=>?_).symm;simp only [zo];rw [hset,Am6 Ao7,hwr t (.inr hd) k y hy hdy Ao7];simp;omega
      · rw [Am6 hd,H.act,Di _ _ _ _ _ ht]
        refine Ec _ _ t 0 x _ fun k y hy hdy=>?_;simp only [zo];rw [hset];by_cases e:k=j
        · subst e
          rw [hxj]at hy;obtain rfl:=AG5 hy;exact absurd hdy hd
        · rw [Am6 e]
 cases hf:fl.getD j false with
 |false=>
  refine Xo hoj (F.sel j oj · · hoj) hlook ((hs j oj v hxj).2 hf _ w H.stage) fun w' hw'=>hK _ _ (hnew w' fun k hk=>?_);rw [hk,KU ops.size (fun i=>L.getD i false&&fl.getD i false) _ fun i _=>by
   rw [hset];by_cases e:i=j
   · subst e;simp only [hf];simp
   · rw [Am6 e]]
  exact hw'
 |true=>
  have hcnt:((List.range ops.size).countP fun i=>L.getD i false&&fl.getD i false)=Em (fl.take j):=by
   rw [<-NT fl ops.size (by rw [F.len];exact zh _) j Ao7];refine KU _ _ _ fun i hi=>?_;cases hfi:fl.getD i false with
   |false=>simp
   |true=>
    simp only [Bool.and_true];rcases Nat.lt_trichotomy i j with h|h|h
    · rw [hbefore i h (F.flags i j oj hoj h hfi hf)];simp [h]
    · subst h;rw [hunF];simp
    · obtain ⟨oi,hoi⟩:∃oi,ops[i]?=some oi:=⟨_,zn hi⟩
      rw [hbehind i oi hoi h (F.flags j i oi hoi h hf hfi)];simp;omega
  have hst:=H.stage;rw [hcnt]at hst;refine Xo hoj (F.sel j oj · · hoj) hlook ((hs j oj v hxj).1 hf w hst) fun w' hw'=>hK _ _ (hnew w' fun k hk=>?_);rw [hk,Pj ops.size j (fun i=>L.getD i false&&fl.getD i false) _ hjs (by simp only [hunF];rfl) (by simp only [hset,hf];simp) (fun i _ hne=>by rw [hset,Am6 hne]),hcnt];exact hw'
theorem Vq(F:IJ ops fl N)(hx:x.map (·.1)=ops.toList)
 (hs:∀j o v,x[j]?=some (o,v)->(fl.getD j false=true->∀w,S (Em (fl.take j)) w->LY P ops o (pre j x a0) v (S (Em (fl.take j)+1)) w)/\
   (fl.getD j false=false->∀i w,S i w->LY P ops o (pre j x a0) v (S i) w))
 (hq:∀w,S (Em (fl.take ops.size)) w->Q .normal (pre ops.size x a0) w):
 ∀(fuel:Nat) (L:Array Bool) (a:Act) (w:World),((List.range ops.size).countP fun i=>!L.getD i false)<=fuel->JW ops fl S x a0 L a w->wpAny P .any ops Q fuel L a w:=by
 have hfin:∀(L:Array Bool) (a:Act) (w:World),JW ops fl S x a0 L a w->Region.ready .any ops L=[]->Q .normal a w:=by
  intro L a w H hr;have hall:∀j,j<ops.size->L.getD j false=true:=by
   intro j;induction j using Nat.strongRecOn with
   |ind j ih=>
    intro hj;cases hl:L.getD j false with
    |true=>rfl
    |false=>
     obtain ⟨oj,hoj⟩:∃oj,ops[j]?=some oj:=⟨_,zn hj⟩;have:j∈Region.ready .any ops L:=mem_ready.2 ⟨by
      rw [AA8,zn (by rw [H.size];exact hj)]at hl⊢;simpa using hl,oj,hoj,fun e he hb=>by
       have:=F.edge j oj e hoj he hb;exact ih e.on this Ao7⟩
     rw [hr]at this;cases this
  have hxl:x.length=ops.size:=by have:=congrArg List.length hx;simpa using this
  have ha:a=pre ops.size x a0:=by
   rw [H.act,<-Qi ops.size 0 x a0];have hag:∀(t:Nat) (k:Nat) (y:Oper×Value),x[k]?=some y->y.1.dst=some t->(fun i=>L.getD i false) (0+k)=(fun k=>decide (k<0+ops.size)) (0+k):=fun t k y hy _=>by
    have:k<x.length:=(zF.1 hy).1;simp only [zo];rw [hall k Ao7];simp;omega
   refine Ib (by rw [Cm,Cm]) (by rw [Ey,Ey]) fun t ht=>?_;rw [Cm]at ht;rw [Di _ _ _ _ _ ht,Di _ _ _ _ _ ht];exact Ec _ _ t 0 x _ (hag t)
  rw [ha];refine hq w ?_;have hst:=H.stage
  rw [<-NT fl ops.size (by rw [F.len];exact zh _) ops.size (zh _)];rw [KU ops.size (fun i=>L.getD i false&&fl.getD i false) _ fun i hi=>by rw [hall i hi];simp [hi]];exact hst
 intro fuel;induction fuel with
 |zero=>
  intro L a w hc H;have hr:Region.ready .any ops L=[]:=by
   cases hr:Region.ready .any ops L with
   |nil=>rfl
   |cons j js=>
    have hj:j∈Region.ready .any ops L:=by rw [hr];exact zX ..
    obtain ⟨hun,oj,hoj,_⟩:=mem_ready.1 hj;have hjs:j<ops.size:=(zw.1 hoj).1
    have hunF:L.getD j false=false:=by
     rw [AA8]at hun⊢;rw [zn (by rw [H.size];exact hjs)]at hun⊢;simpa using hun
    have:0<(List.range ops.size).countP fun i=>!L.getD i false:=List.countP_pos_iff.2 ⟨j,AD6.2 hjs,by rw [hunF];rfl⟩;omega
  exact ⟨hr,hfin L a w H hr⟩
 |succ fuel ih=>
  intro L a w hc H;refine ⟨fun hr=>hfin L a w H hr,fun j hj=>o7 F hx hs H hj fun a' w' H'=>ih _ a' w' ?_ H'⟩;obtain ⟨hun,oj,hoj,_⟩:=mem_ready.1 hj;have hjs:j<ops.size:=(zw.1 hoj).1
  have hunF:L.getD j false=false:=by
   rw [AA8]at hun⊢;rw [zn (by rw [H.size];exact hjs)]at hun⊢;simpa using hun
  have:=Pj ops.size j (fun i=>!(L.setIfInBounds j true).getD i false) (fun i=>!L.getD i false) hjs (by simp [H.size,hjs]) (by rw [hunF];rfl) (fun i _ hne=>by rw [getD_set_ne false (AT8 hne)]);omega
end
theorem wpLin_keep{P:Program}{ops:Array Oper}{S:Nat->World->Prop}{Q:Act->World->Prop}{a:Act}{k:Nat}{o:Oper}{l:List Oper}{fs:List Bool}{env:List (Nat×Value)}{v:Value}(h:∀j w,S j w->Xp P ops o a env v (S j) w)(h2:MU P ops S Q a k l fs (putE o.dst v env)):MU P ops S Q a k (o::l) (false::fs) env:=⟨v,h,h2⟩
theorem wpLin_move{P:Program}{ops:Array Oper}{S:Nat->World->Prop}{Q:Act->World->Prop}{a:Act}{k:Nat}{o:Oper}{l:List Oper}{fs:List Bool}{env:List (Nat×Value)}{v:Value}(h:∀w,S k w->Xp P ops o a env v (S (k+1)) w)(h2:MU P ops S Q a (k+1) l fs (putE o.dst v env)):MU P ops S Q a k (o::l) (true::fs) env:=⟨v,h,h2⟩
theorem wpLin_done{P:Program}{ops:Array Oper}{S:Nat->World->Prop}{Q:Act->World->Prop}{a:Act}{k:Nat}{env:List (Nat×Value)}{fs:List Bool}(h:∀w,S k w->Q (putsE env a) w):MU P ops S Q a k [] fs env:=h
theorem wp_region_lin{P:Program}{id:Nat}{ops:Array Oper}{Q:Exit->Act->World->Prop}{a:Act}{w:World}(fl:List Bool)(S:Nat->World->Prop)(N:Nat)(hN:a.tmps.size=N)
 (hm:P.follows .mixedOrders=true)(hok:SH ops fl N=true)(hS:S 0 w.drew)(h:∀a',a'=a->MU P ops S (fun a w=>Q .normal a w) a' 0 ops.toList fl []):(Code.region id ops true).wp P Q a w:=by
 have F:=bM hok;obtain ⟨x,hx,hs,hq⟩:=Qr _ _ _ _ (fun o ho d hd=>by
  obtain ⟨j,hj⟩:=List.mem_iff_getElem?.1 ho;rw [hN];exact F.room j o d (by simpa using hj) hd) (fun x hx=>by cases hx) (h a V)
 refine wp_region_any hm (Vq (S:=S) (a0:=a) F hx (fun j o v hj=>?_) ?_ _ _ _ _ ?_ ?_)
 · have:=hs j o v hj
   simpa [putsE]using this
 · simpa [putsE]using hq
 · refine AK0 List.countP_le_length ?_
   simp
 · refine ⟨by simp,fun j oj hj hl=>?_,?_,?_⟩
   · simp [AK1]at hl
     split at hl<;>simp_all
   · have:=Qi 0 0 x a
     refine Ib (by rw [Cm]) (by rw [Ey]) fun t ht=>?_;rw [Di _ _ _ _ _ ht];rw [Ec _ (fun k=>decide (k<0+0)) t 0 x _ fun k y _ _=>by simp [AK1];split<;>rfl];rw [<-Di _ _ _ _ _ ht,this];rfl
   · have:((List.range ops.size).countP fun i=>(Array.replicate ops.size false).getD i false&&fl.getD i false)=0:=by
      rw [List.countP_eq_zero];intro i _;simp [AK1];split<;>simp
     rw [this];exact hS
end Gl
namespace Gw
open Go Go.RowKit Go.Sort
theorem YP{α:Type}(f:α->List Value)(k:Nat)(hk:∀x,(f x).length=k):∀(l:List α) (i r:Nat) (a:α),l[i]?=some a->r<k->(l.flatMap f)[i*k+r]?=(f a)[r]?
 |[],i,r,a,h,_=>by simp at h
 |x::l,0,r,a,h,hr=>by
  simp only [AH1,AI2]at h;subst h;rw [AB2,Nat.zero_mul,zo,AE6 (by rw [hk];exact hr)]
 |x::l,i+1,r,a,h,hr=>by
  simp only [AH0]at h;rw [AB2,AC1 (by rw [hk,AH9];omega),hk,show(i+1)*k+r -k=i*k+r by rw [AH9];omega];exact YP f k hk l i r a h hr
theorem YO{α:Type}(f:α->List Value)(k:Nat)(hk:∀x,(f x).length=k):∀(l:List α),(l.flatMap f).length=l.length*k
 |[]=>by simp
 |x::l=>by rw [AB2,zG,YO f k hk l,hk,ze,AH9];omega
theorem NP{α:Type} [Inhabited α](f:α->List Value)(k:Nat)(hk:∀x,(f x).length=k)(l:List α):(flatK f k l.toArray).toList=l.flatMap f:=by
 apply AD5;intro t;by_cases ht:t<l.length*k
 · have k0:0<k:=by
    rcases AG3 k with h|h
    · subst h;simp at ht
    · exact h
   have h1:t/k<l.length:=AQ6 (by rwa [AT2]at ht);have h2:t%k<k:=AU0 _ k0
   have e:=YP f k hk l (t/k) (t%k) l[t/k] (zD h1) h2;rw [Nat.div_add_mod' t k]at e;rw [e];have h3:t%k<(f l[t/k]).length:=by rw [hk];exact h2
   unfold flatK;rw [AA3];simp [ht,h1,h3]
 · rw [AC7 Ap8,AC7 (by rw [YO f k hk];omega)]
theorem Sd{α:Type} [Inhabited α]{w:World}{g:Nat}{cur:Array Value}{e:TypeId}{z:Nat×Nat}(f:α->List Value)(k:Nat)(hk:∀x,(f x).length=k)(l:List α)(hb:w.heap[g]?=some (.cells cur e z))(hle:l.length*k<=cur.size)(hfr:IA z cur.size)(ht:cur.toList.take (l.length*k)=l.flatMap f):HoldsK f k w g 0 l.toArray:=by
 intro j hj;have hj':j<l.length*k:=by simpa using hj
 have hf:=hfr j Ao7;have h0:=NP f k hk l
 have h1:(cur.toList.take (l.length*k))[j]?=(flatK f k l.toArray).toList[j]?:=by rw [ht,h0]
 rw [AL8 hj',AA3,AA3]at h1;refine ⟨?_,?_⟩
 · simp only [World.cell?,hb,zo]
   simp only [AR7,AD4,An2];rw [h1,zn hj,getElem!_pos _ j hj];rfl
 · simp only [World.frozen?,hb,zo]
   simp;omega
theorem UQ(cur F:Array Value)(h:F.size<=cur.size):(putCells id 0 F cur).toList.take F.size=F.toList:=by
 apply AD5;intro j;rw [AA7];by_cases hj:j<F.size
 · rw [Am7 hj,AA3]
   unfold putCells;rw [AP6,zn Ao7];simp [hj]
 · rw [Am6 hj,AC7 Ap8]
theorem Lt(cur F:Array Value):(putCells id 0 F cur).size=cur.size:=by simp [putCells]
theorem Sat.sortedK{α:Type} [Inhabited α]{u w:World}{g n k:Nat}{cur:Array Value}{e:TypeId}{z:Nat×Nat}{R:Hp}(f:α->List Value)(d:Array α)(os:Array Obj)(h:Sat u ([(g,.cells cur e z)]::R) w):Sat u ([(g,.cells (putCells id 0 (flatK f k d) cur) e z)]::R) (Go.Proofs.sortWorldK f k w g 0 n d os):=by
 have hb:=h.get (g,.cells cur e z) Ap0;have h1:Sat u ([(g,.cells (putCells id 0 (flatK f k d) cur) e z)]::R) (putRowK f k (Sort.ahead w n) g 0 d):=by
  refine h.upd (.here _) V rfl V ?_ fun k hk=>?_
  · simp [putRowK,putRow,mapBlock,Sort.ahead,AD9,hb,onCells]
  · have:g≠k:=fun e=>hk e.symm
    simp [putRowK,putRow,mapBlock,Sort.ahead,AD9,this]
 exact h1.below ⟨V,V,V,by simp [Go.Proofs.sortWorldK,grow],fun k hk=>heap_grow_old _ _ hk⟩
theorem Oy{α:Type} [Inhabited α](f:α->List Value)(k:Nat)(w:World)(g n b:Nat)(d:Array α)(os:Array Obj)(hne:g≠b)(hb:b<w.heap.size):(Go.Proofs.sortWorldK f k w g 0 n d os).heap[b]?=w.heap[b]?:=by
 have h1:(putRowK f k (Sort.ahead w n) g 0 d).heap[b]?=w.heap[b]?:=by
  simp [putRowK,putRow,mapBlock,Sort.ahead,AD9,hne]
 unfold Go.Proofs.sortWorldK;rw [<-h1];refine heap_grow_old _ _ ?_;simpa [putRowK,putRow,mapBlock,Sort.ahead]using hb
end Gw
namespace Gw
open Go Go.RowKit
section
variable{P:Program}{u:World}{env:Env}{H R:Hp}{d:Option Nat}{ty:TypeId}{pos:String}{af:Array Edge}{g:Option (Nat×Bool)}
def yO(t1 t2 k1 k2:Int)(x y:V3):Prop:=t1=t2/\k1=k2/\x=y
instance(t1 t2 k1 k2:Int)(x y:V3):Decidable (yO t1 t2 k1 k2 x y):=inferInstanceAs(Decidable (_/\_/\_))
section
variable{t yt e ta:TypeId}{f0 f1 f2:Field}{x y:Operand}{t1 t2 k1 k2:Int}{p q:V3}
end
end
theorem GY{P:Program}{f:FuncId}{args:Array Value}{H H1:Hp}{Q Q1:Value->Hp->Prop}(h:BR P f args H Q)(hf:H1.flatten=H.flatten)(hq:∀v H',Q v H'->∃H2,Q1 v H2/\H2.flatten.Perm H'.flatten):BR P f args H1 Q1:=fun u R w hs=>
 Calls.mono (h u R w (hs.sub ⟨[],by simp [hf]⟩)) fun e w' he=>by
  rcases he with⟨v,H',rfl,h1,h2⟩|⟨ch,H',rfl,h1,h2⟩
  · obtain ⟨H2,h3,h4⟩:=hq v H' h1
    refine .inl ⟨v,H2,V,h3,h2.perm ?_⟩;rw [AA0,AA0];exact h4.symm.append_right _
  · exact h1.elim
section
variable{P:Program}{ops:Array Oper}{A:List Nat}{F:Nat}{cx:Cx}{Q:Exit->Act->World->Prop}{n D:Nat}{T:List (Nat×A8)}{env:Env}{H:Hp}
theorem Cw{d:Nat}{op:Op}{ty:TypeId}{pos:String}{af:Array Edge}{v:Value}{b:Nat}{x:Obj}{D':Nat}(i:Nat)(ho:ops[i]?=some ⟨some d,op,ty,pos,af,none⟩)(h1:(!bit F i&&!bit D i&&Eb (A.getD i 0) D)=true)(hD:D|||(1<<<i)=D')(hb:(b,x)∈H.flatten)(hop:OpP P ⟨some d,op,ty,pos,af,none⟩ env [(b,x)] v)
 (k:Lin P ops A F cx Q n D' ((i,(b,x))::T) ((d,v)::env) H):Lin P ops A F cx Q (n+1) D T env H:=by
 simp only [zy,AG0]at h1;subst hD;exact .inl ⟨i,_,v,[(b,x)],ho,h1.1.2,h1.2,by simpa using hb,.inl ⟨fun _=>rfl,hop⟩,k⟩
theorem Vo{d:Nat}{op:Op}{ty:TypeId}{pos:String}{af:Array Edge}{g:Nat×Bool}{v:Value}{b:Nat}{x:Obj}{D':Nat}(i:Nat)(hg:∀a,wantedE ops a env (some g)=true)(ho:ops[i]?=some ⟨some d,op,ty,pos,af,some g⟩)(h1:(!bit F i&&!bit D i&&Eb (A.getD i 0) D)=true)(hD:D|||(1<<<i)=D')(hb:(b,x)∈H.flatten)(hop:OpP P ⟨some d,op,ty,pos,af,some g⟩ env [(b,x)] v)
 (k:Lin P ops A F cx Q n D' ((i,(b,x))::T) ((d,v)::env) H):Lin P ops A F cx Q (n+1) D T env H:=by
 simp only [zy,AG0]at h1;subst hD;exact .inl ⟨i,_,v,[(b,x)],ho,h1.1.2,h1.2,by simpa using hb,.inl ⟨hg,hop⟩,k⟩
theorem Ez{i b:Nat}{x:Obj}(h:(b,x)∈H.flatten)(ht:∀p∈T,p.2∈H.flatten):∀p∈((i,(b,x))::T),p.2∈H.flatten:=by
 intro p hp;rcases za.1 hp with rfl|hp
 · exact h
 · exact ht p hp
end
theorem LQ{cx:Cx}{E:Env->Hp->Prop}{env e:Env}{H Hn:Hp}{Q:Exit->Act->World->Prop}(hE:E e Hn):Nx cx ((Exit.then (fun a w=>∃e Hn,E e Hn/\Is cx (e++env) (Hn++H) a w) Q) .normal) (e++env) (Hn++H):=fun a _ hs=>⟨e,Hn,hE,a,hs,rfl⟩
section
variable{F:Fence}{n:Nat}{P:Program}{Q:Exit->Act->World->Prop}{a:Act}{w:World}{b:Frame}{k:List Item}{cs:List Frame}
theorem GG{c:Code}:step P (lone (b.atR a (.code (.scope c)::k)) cs w)= .next (lone (b.atR a (.code c:: .inScope c::k)) cs w):=
 step_lone_go (by simp [stepG,stepG.exec,Frame.atR])
theorem TT{c:Code}:step P (lone (b.atR a (.inScope c::k)) cs w)= .next (lone (b.atR a k) cs w):=
 step_lone_go (by simp [stepG,stepG.exec,Frame.atR])
theorem ZH{c:Code}(h:c.wpIn F n P (Exit.noGoto Q) a w):(Code.scope c).wpIn F n P Q a w:=by
 intro b k cs hro hb hr;have h0:(lone (b.atR a (.code (.scope c)::k)) cs w).fenced P F:=fenced_calm hb hr rfl
 obtain ⟨e,a₁,w₁,hq,harr⟩:=h b (.inScope c::k) cs hro hb hr;cases e with
 |normal=>exact ⟨.normal,a₁,w₁,hq,.head h0 GG (StepsIn.trans harr (.one (fenced_calm hb hr rfl) TT))⟩
 |exit id'=>
  have hx:exitTo id' (.inScope c::k)=exitTo id' k:=by simp [exitTo]
  exact ⟨.exit id',a₁,w₁,hq,fun k' hk=> .head h0 GG (harr.1 k' (by rw [hx];exact hk)),
   fun hr' hk=>let⟨k₁,h1,h2⟩:=harr.2 hr' (by rw [hx];exact hk);⟨k₁,h1,.head h0 GG h2⟩⟩
 |goto l=>exact hq.elim
 |ret=>exact ⟨_,a₁,w₁,hq,.of_steps (.one h0 GG) harr⟩
 |panic ch=>exact ⟨_,a₁,w₁,hq,.of_steps (.one h0 GG) harr⟩
 |outgrown=>exact ⟨_,a₁,w₁,hq,.of_steps (.one h0 GG) harr⟩
end
section
variable{P:Program}{cx:Cx}{Q:Exit->Act->World->Prop}{env:Env}{H:Hp}
theorem TI{c:Code}(h:At P cx c (Exit.noGoto Q) env H):At P cx (.scope c) Q env H:=fun a w hs=>ZH (h a w hs)
theorem KI(h:Nx cx (Q .ret) env H):Nx cx (Exit.noGoto Q .ret) env H:=h
end
def VB{α:Type}(P:Program)(gf:FuncId)(lb:Array Value)(Hit Hk:Hp)(Enc:α->Array Value->List A8->Prop)(xs:List α):Prop:=
 ∀(l:Nat) (J:List α->List A8->Prop),(∀pre x post s vs sx,xs=pre++x::post->J pre s->Enc x vs sx->Ff P l vs [sx,s] (fun v H'=>∃s',v= .bool true/\H'=[s']/\J (pre++[x]) s'))->
  ∀s,J [] s->BR P gf (#[.func (.yield l) #[] #[]]++lb) (Hit++(Hk++[s])) (fun _ H'=>∃s',H'=Hk++[s']/\J xs s')
theorem WR{α:Type}{P:Program}{cx:Cx}{Q:Exit->Act->World->Prop}{env:Env}{H Hit Hk H0 R:Hp}{g:Operand}{ps:Array Tmp}{assign body:Code}{gf:FuncId}{lb:Array Value}{Enc:α->Array Value->List A8->Prop}{xs:List α}
 (I:List α->Hp->Prop)(E:α->Array Value->List A8->Env->Hp->Prop)(hr:cx.r=none)(hg:∀a,ev a env g= .func (.func gf) #[] lb)(hcall:∀(args:Array Value) (w:World),(callFunc gf args).run P w= .ok (.enter gf args) w)
 (hiter:VB P gf lb Hit Hk Enc xs)(hps:∀x vs sx,Enc x vs sx->vs.size=ps.size)(hpf:(ps.toList.all fun t=>Nat.blt t cx.N)=true)(hp:EY (Hit++(Hk++H0)) H R)(h0:I [] H0)
 (hassign:∀(l:Nat) (x:α) (vs:Array Value) (sx:List A8) (u:World) (H:Hp),Enc x vs sx->At P ⟨cx.N,[],u,some l⟩ assign (Exit.then (fun a w=>∃e Hn,E x vs sx e Hn/\Is ⟨cx.N,[],u,some l⟩ (e++env) (Hn++H) a w) (fun _ _ _=>False)) ((ps.toList.zip vs.toList).reverse++env) H)
 (hbody:∀(l:Nat) (pre:List α) (x:α) (post:List α) (u:World) (vs:Array Value) (sx:List A8) (e:Env) (Hn H1 R1:Hp),xs=pre++x::post->I pre H1->Enc x vs sx->E x vs sx e Hn->At P ⟨cx.N,[],u,some l⟩ body (I9 u I (pre++[x]) R1) (e++env) (H1++(sx::(Hn++R1))))
 (hk:∀(D:Nat) (H2:Hp),I xs H2->Nx ⟨cx.N,⟨.collected D,#[]⟩::cx.D,cx.u,none⟩ (Q .normal) env ([(D,.deferred (some []))]::(Hk++(H2++R)))):At P cx (.rangeFunc g ps assign body) Q env H:=
 MG (A:=fun _ _=>True) (St:=False) (Adm:=fun p=>∃post,xs=p++post) (Full:=fun ys=>ys=xs) I (fun _ _=>False) E hr hg hcall (fun l J Jx _ hX hy s h9=>(hiter l J (fun pre x post s vs sx hx hj he u R w hs K Kp hK=>hy pre x s vs sx ⟨post,by rw [hx,zM];rfl⟩ hj he u R w hs K Kp fun v H' w' ⟨s',h1,h2⟩ h4=>h2.elim (fun h=>hK v H' w' ⟨s',h.1,h1,h.2⟩ h4) fun h=>(hX _ _ h.2).elim) s h9).mono (by rintro v H' ⟨s',h1,h2⟩;exact ⟨s',h1,.inl ⟨xs,rfl,h2⟩⟩)) (fun _ _ h=>h) (fun _ _ _ _ _=>trivial) hps hpf hp h0 hassign
  (fun l pre x u vs sx e Hn H1 R1 r0 ⟨post,hx⟩ hI he hE=>PI (hbody l pre x post u vs sx e Hn H1 _ (by rw [hx,zM];rfl) hI he hE)) (fun D ys H2 hf hI=>by rw [hf]at hI;exact hk D H2 hI) fun _ _ _ h=>h.elim
section
variable{P:Program}{env:Env}{d:Option Nat}{ty:TypeId}{pos:String}{af:Array Edge}{g:Option (Nat×Bool)}
theorem PV{x y:Operand}{Ts:Array TypeId}{k:IntKind}{m n:Int}(hx:∀a,ev a env x= .int k m)(hy:∀a,ev a env y= .int k n):OpP P ⟨d,.call ⟨.builtin .max,#[x,y],Ts⟩,ty,pos,af,g⟩ env [] (.int k (max m n)):=fun a w _=>by
 simp [Dj,resolve,invoke,builtin,hx a,hy a,Builtin.max_,Builtin.max2];by_cases h:m<n
 · simp [h,show max m n=n by omega]
 · simp [h,show max m n=m by omega]
theorem az{x y:Operand}{Ts:Array TypeId}{k:IntKind}{m:Nat}(hx:∀a,ev a env x= .int k ((m:Int) -1))(hy:∀a,ev a env y= .int k 0):OpP P ⟨d,.call ⟨.builtin .max,#[x,y],Ts⟩,ty,pos,af,g⟩ env [] (.int k ((m -1:Nat):Int)):=by
 have h:=PV (P:=P) (d:=d) (ty:=ty) (pos:=pos) (af:=af) (g:=g) (Ts:=Ts) hx hy;rwa [show max ((m:Int) -1) 0=((m -1:Nat):Int) by omega]at h
end
def F5(M:List A8)(p:Option Addr)(ys:List Value):Prop:=∀(j:Nat) (u:Value),ys[j]?=some u->∃g o c T z,p=some ⟨g,o,none⟩/\(g,Obj.cells c T z)∈M/\c[o+j]?=some u
theorem One.mem9{s:List A8}{H R:Hp}(h:One s H R):∀c∈s,c∈H.flatten:=by
 intro c hc;have:=h.perm.mem_iff (a:=c)
 rw [this];simp [hc]
section
variable{P:Program}{u:World}{env:Env}{H R R2:Hp}{d:Option Nat}{ty:TypeId}{pos:String}{af:Array Edge}{g:Option (Nat×Bool)}
theorem Gi{x y:Operand}{t e:TypeId}{i:TypeInfo}{z:Value}{by_ sz n k c:Nat}{v:Value}{p:Option Addr}{xs ys:List Value}{s M:List A8}
 (ht:P.underlying t=some (.slice e))(hi:P.info? e=some i)(hsz:i.size=sz)(hby:i.bytes=by_)(hzi:i.zero=some z)(hz1:z.cells.size=sz)
 (hx:∀a,ev a env x=v)(hrow:BZ sz e v n xs s)(hy:∀a,ev a env y= .slice p k c)(hsrc:F5 M p ys)(hl:ys.length=k*sz)(h0:0<sz)(hone:One s H R)(htwo:One M R R2)(h1:∀u∈ys,u.oneCell'=true)
 (h63:n+k<=maxLen)(hb:(n+k)*by_<=140737488355328):
 OpW P u ⟨d,.call ⟨.builtin .append,#[x,y],#[t,t]⟩,ty,pos,af,g⟩ env H (fun v' H1=>∃s',BZ sz e v' (n+k) (xs++ys) s'/\H1=s'::R) (fun _ _=>False):=by
 rcases AG3 k with hk|hk
 · subst hk
   have hy0:ys=[]:=AB0 Ao7;subst hy0;obtain ⟨b,c',rfl⟩:=hrow.form;have hle:n<=c':=by
    obtain ⟨_,⟨hv,h0,_⟩|⟨_,_,_,_,hv,_,h2,_⟩⟩:=hrow
    · omega
    · injection hv with _ _ hv3;omega
   intro a w hsat K Kp hK _;have hs1:Sat u (s::R) w:=hsat.perm (by simpa using hone.perm)
   have hl0:(Builtin.firstCells i.size 0 (.slice p 0 c)).run P w= .ok #[] w:=by
    cases p with
    |none=>simp [Builtin.firstCells]
    |some ad=>simp [Builtin.firstCells,loadCells,loadCellsFrom]
   have hr:(Builtin.append_ #[t,t] ty #[.slice b n c',.slice p 0 c]).run P w= .ok (.slice b n c') w:=by
    rw [hsz]at hl0;cases b with
    |none=>simp [Builtin.append_,run_underlying ht,Go.sizeOf,typeInfo,hi,hsz,Builtin.lenOf,hle,hl0]
    |some ad=>simp [Builtin.append_,run_underlying ht,Go.sizeOf,typeInfo,hi,hsz,Builtin.lenOf,hle,hl0,storeCells]
   have hx':(execOp (ev a env) ⟨d,.call ⟨.builtin .append,#[x,y],#[t,t]⟩,ty,pos,af,g⟩).run P w= .ok (.value (.slice b n c')) w:=by
    simp only [Dj,resolve,invoke,builtin,AG9,zx,AE9,hx a,hy a,Sem.run_bind,Sem.run_pure,Result.andThen_ok,hr]
   rw [hx'];exact hK _ _ _ ⟨s,by rw [zV];exact hrow,rfl⟩ hs1
 · have hpos:0<ys.length:=by rw [hl];exact Nat.mul_pos hk h0
   obtain ⟨gb,o,_,_,_,rfl,_,_⟩:=hsrc 0 _ (zD hpos);refine U4 ht hi hsz hby hzi hz1 hx hrow hy hone (fun w hs j v hj=>?_) hl h1 hk h63 hb;obtain ⟨g',o',c1,T1,z1,e,hm,hc⟩:=hsrc j v hj;injection e with e
   injection e with e1 e2
   subst e1 e2;rw [Cn];exact Cb (hs.get _ (htwo.mem9 _ hm)) hc
theorem O7{sz:Nat}{e:TypeId}{g k cap:Nat}{cur:Array Value}{z:Nat×Nat}{xs:List Value}(h:BZ sz e (I6 g k cap) k xs [(g,.cells cur e z)])(i:Nat)(v:Value):BZ sz e (I6 g k cap) k (xs.set i v) [(g,.cells (cur.setIfInBounds i v) e z)]:=by
 obtain ⟨hl,⟨h0,_⟩|⟨g',cap',cur',z',hv,hs,hle,hcm,hcs,htk,hfr⟩⟩:=h
 · cases h0
 · injection hv with hv1 _ hv3
   injection hv1 with hv1
   injection hv1 with hv1
   subst hv3;simp only [AR1,AQ4,Obj.cells.injEq,An8,An7]at hs;obtain ⟨hs1,hs2,hs3⟩:=hs;subst hs1 hs2 hs3;refine ⟨by rw [AL3];exact hl,.inr ⟨g,cap,_,z,rfl,rfl,hle,hcm,by rw [AC8];exact hcs,?_,by rw [AC8];exact hfr⟩⟩;rw [AJ2,<-htk,List.take_set]
end
theorem Fp{c:Array Value}{i:Nat}{ys:List Value}(h:i+ys.length<=c.size):(Dp c i ys).size=c.size:=by
 unfold Dp;simp only [AA6,zG,zN,zO,AE7];omega
theorem Dy{sz:Nat}{e:TypeId}{g k cap:Nat}{cur:Array Value}{z:Nat×Nat}{xs ys:List Value}{i:Nat}(h:BZ sz e (I6 g k cap) k xs [(g,.cells cur e z)])(hi:i+ys.length<=xs.length):
 BZ sz e (I6 g k cap) k (xs.take i++ys++xs.drop (i+ys.length)) [(g,.cells (Dp cur i ys) e z)]:=by
 obtain ⟨hl,⟨h1,_⟩|⟨g',cap',cur',z',h1,h2,hle,hcm,hcs,htk,hfr⟩⟩:=h
 · injection h1 with h1;cases h1
 injection h1 with h3 _ h4
 injection h3 with h3
 injection h3 with h3
 injection h2 with h2 _
 injection h2 with _ h2
 injection h2 with h5 _ h6
 subst h3 h4 h5 h6;have hle2:k*sz<=cap*sz:=AF9 sz hle
 have hlt:cur.toList.length=cap*sz:=by rw [AE7,hcs]
 have e1:cur.toList=xs++cur.toList.drop (k*sz):=by rw [<-htk,AB4]
 refine ⟨?_,.inr ⟨g,cap,_,z,V,V,hle,hcm,?_,?_,?_⟩⟩
 · simp only [zG,zN,zO];omega
 · rw [Fp (by rw [hcs];omega),hcs]
 · show(Dp cur i ys).toList.take (k*sz)=_
   unfold Dp;show(cur.toList.take i++ys++cur.toList.drop (i+ys.length)).take (k*sz)=_
   have t1:cur.toList.take i=xs.take i:=by
    conv=>lhs;rw [e1]
    exact AE3 Ao7
   have t2:cur.toList.drop (i+ys.length)=xs.drop (i+ys.length)++cur.toList.drop (k*sz):=by
    conv=>lhs;rw [e1]
    exact AI3 Ao7
   rw [t1,t2,<-zM];refine AC3 ?_;simp only [zG,zN,zO];omega
 · show IA z (Dp cur i ys).size
   rw [Fp (by rw [hcs];omega)];exact hfr
theorem UJ{sz:Nat}{e:TypeId}{g k cap:Nat}{xs:List Value}{s:List A8}(h:BZ sz e (I6 g k cap) k xs s)(i:Nat)(hi:i<=k):BZ sz e (I6 g i cap) i (xs.take (i*sz)) s:=by
 obtain ⟨hl,⟨h1,_⟩|⟨g',cap',cur',z',h1,rfl,hle,hcm,hcs,htk,hfr⟩⟩:=h
 · injection h1 with h1;cases h1
 injection h1 with h3 _ h4
 injection h3 with h3
 injection h3 with h3
 subst h3 h4;have h5:i*sz<=k*sz:=AF9 sz hi
 refine ⟨by rw [zN];omega,.inr ⟨g,cap,cur',z',rfl,rfl,by omega,hcm,hcs,?_,hfr⟩⟩;rw [<-htk,AJ5,AG8 h5]
theorem JI{sz:Nat}{e:TypeId}{g k cap:Nat}{cur:Array Value}{z:Nat×Nat}{xs:List Value}(h:BZ sz e (I6 g k cap) k xs [(g,.cells cur e z)]):CE cur 0 xs/\cur.size=cap*sz/\k<=cap/\cap<=maxLen/\IA z cur.size:=by
 obtain ⟨hl,⟨h1,_⟩|⟨g',cap',cur',z',h1,h2,hle,hcm,hcs,htk,hfr⟩⟩:=h
 · injection h1 with h1;cases h1
 injection h1 with h3 _ h4
 injection h2 with h2 _
 injection h2 with _ h2
 injection h2 with h5 _ h6
 subst h4 h5 h6;exact ⟨by unfold CE;rw [AI5,hl];exact htk,hcs,hle,hcm,hfr⟩
theorem UH{sz:Nat}{e:TypeId}{g k cap:Nat}{cur:Array Value}{z:Nat×Nat}{xs:List Value}(h:BZ sz e (I6 g k cap) k xs [(g,.cells cur e z)])(m:Nat)(hm:k<=m)(hmc:m<=cap):∃ys,ys.length=(m -k)*sz/\BZ sz e (I6 g m cap) m (xs++ys) [(g,.cells cur e z)]:=by
 obtain ⟨hin,hcs,hle,hcm,hfr⟩:=JI h;have hl:=h.1
 have h1:m*sz<=cap*sz:=AF9 sz hmc;have h2:k*sz+(m -k)*sz=m*sz:=by rw [<-AH9];congr 1;omega
 unfold CE at hin;rw [AI5,hl]at hin;refine ⟨(cur.toList.drop (k*sz)).take ((m -k)*sz),by rw [zN,zO,AE7,hcs];omega,?_,.inr ⟨g,cap,cur,z,rfl,rfl,hmc,hcm,hcs,?_,hfr⟩⟩
 · have hlt:cur.toList.length=cap*sz:=by rw [AE7,hcs]
   rw [zG,zN,zO,hlt,hl];omega
 · conv=>rhs;rw [<-hin]
   rw [<-h2,List.take_add]
theorem IZ{c:Array Value}{o:Nat}{xs:List Value}(h:CE c o xs)(i m:Nat)(hm:i+m<=xs.length):CE c (o+i) ((xs.drop i).take m):=by
 unfold CE at*;rw [zN,zO,AG8 Ao7];conv=>rhs;rw [<-h]
 rw [AP2,AJ5,AG8 Ao7,AL0]
theorem Qn(z:Value)(m:Nat)(h:∀u∈z.cells.toList,u.oneCell'=true):∀y∈(Builtin.zeroCells z.cells m).toList,y.oneCell'=true:=by
 intro y hy;simp only [Builtin.zeroCells,AQ8,Array.mem_map,Array.mem_range]at hy;obtain ⟨j,hj,rfl⟩:=hy;refine h _ ?_;have hpos:0<z.cells.size:=by
  rcases AG3 z.cells.size with h9|h9
  · rw [h9]at hj;omega
  · exact h9
 have hlt:j%z.cells.size<z.cells.size:=AU0 _ hpos;rw [getElem!_pos z.cells (j%z.cells.size) hlt];exact AQ8.2 (Array.getElem_mem hlt)
section
variable{P:Program}{u:World}{env:Env}{H H' R R2:Hp}{d:Option Nat}{ty:TypeId}{pos:String}{af:Array Edge}{g:Option (Nat×Bool)}
theorem JC{x y:Operand}{dT sT e:TypeId}{sz b o n cap b' o' n' cap':Nat}{c c1:Array Value}{T T1:TypeId}{z z1:Nat×Nat}{cs:List Value}
 (hu:P.underlying dT=some (.slice e))(hs:∀w:World,(Go.sizeOf e).run P w= .ok sz w)(hx:∀a,ev a env x= .slice (some ⟨b,o,none⟩) n cap)(hy:∀a,ev a env y= .slice (some ⟨b',o',none⟩) n' cap')
 (hsrc:Has b' (.cells c1 T1 z1) H)(hone:One [(b,.cells c T z)] H R)(hcs:CE c1 o' cs)(hn:cs.length=min n' n*sz)(hfit:o+cs.length<=c.size)(hz:IA z c.size)(h1:∀v∈cs,v.oneCell'=true):
 OpW P u ⟨d,.call ⟨.builtin .copy,#[x,y],#[dT,sT]⟩,ty,pos,af,g⟩ env H (fun v H1=>v=I4 ((min n' n:Nat):Int)/\H1=[(b,.cells (Dp c o cs) T z)]::R) (fun _ _=>False):=fun a w hsat K Kp hK _=>by
 have hs1:Sat u ([(b,.cells c T z)]::R) w:=hsat.perm (by simpa using hone.perm);have hb:=hs1.get (b,.cells c T z) (by simp)
 have hb':=hsat.get _ hsrc.mem;have hl:=run_loadCells_list (P:=P) w ⟨b',o',none⟩ cs (J3 hb' hcs)
 rw [hn]at hl;have hst:=CX (P:=P) b o T z cs 0 c w hb hz (by simpa using hfit) h1
 simp only [AH6]at hst;have hmin:Nat.min n' n=min n' n:=rfl
 have:(execOp (ev a env) ⟨d,.call ⟨.builtin .copy,#[x,y],#[dT,sT]⟩,ty,pos,af,g⟩).run P w= .ok (.value (I4 ((min n' n:Nat):Int))) (w.setRow b (Dp c o cs)):=by
  simp [Dj,resolve,invoke,builtin,hx a,hy a,Builtin.copy_,run_underlying hu,Builtin.lenOf,Builtin.firstCells,hs,hmin,hl,hst,Dp,goInt]
 rw [this];exact hK _ _ _ ⟨V,V⟩ (hs1.upd (.here _) V rfl V (setRow_heap w b c _ T z hb) fun k hk=>setRow_other w b k _ hk)
theorem Ka{x y:Operand}{t ti e T:TypeId}{i:TypeInfo}{z:Value}{by_ sz k m cap gb:Nat}{cur:Array Value}{zz:Nat×Nat}{xs:List Value}
 (ht:P.underlying t=some (.slice e))(hti:P.underlying ti=some (.int .i64))(hi:P.info? e=some i)(hsz:i.size=sz)(hby:i.bytes=by_)(hzi:i.zero=some z)(hz1:z.cells.size=sz)
 (hx:∀a,ev a env x=I6 gb k cap)(hy:∀a,ev a env y=I4 (m:Int))(hhas:Has gb (.cells cur T zz) H)(hin:CE cur 0 xs)(hxl:xs.length=k*sz)(h0:0<m)(hs0:0<sz)(hg:cap<k+m)(h63:k+m<=maxLen)(hb:(k+m)*by_<=140737488355328):
 OpW P u ⟨d,.call ⟨.builtin .append,#[x,y],#[t,ti]⟩,ty,pos,af,g⟩ env H (fun v' H1=>∃s',BZ sz e v' (k+m) (xs++(Builtin.zeroCells z.cells m).toList) s'/\H1=s'::H) (fun _ _=>False):=fun a w hsat K Kp hK _=>by
 have hml:=mL;have hl:=run_loadCells_list (P:=P) w.drew ⟨gb,0,none⟩ xs (J3 (hsat.drew.get _ hhas.mem) hin)
 rw [hxl]at hl;have hold:(Builtin.firstCells i.size k (I6 gb k cap)).run P w.drew= .ok xs.toArray w.drew:=by
  rw [hsz];simp [Builtin.firstCells,hl]
 have hmb:m*by_<=(k+m)*by_:=AF9 _ Ao7;have hr:=Lib.run_append_grow_zeros (P:=P) w t ti ty e i z .i64 .i64 ht hti hi hzi (some ⟨gb,0,none⟩) k cap xs hold m h0 Ao7 hg Ao7 (by rw [hby];omega) (growslice_fits Ao7 (by rw [hby];exact hb))
 have run_of:∀{v':Value} {w':World},(Builtin.append_ #[t,ti] ty #[I6 gb k cap,I4 (m:Int)]).run P w= .ok v' w'->(execOp (ev a env) ⟨d,.call ⟨.builtin .append,#[x,y],#[t,ti]⟩,ty,pos,af,g⟩).run P w= .ok (.value v') w':=fun h=>by
  simp only [Dj,resolve,invoke,builtin,AG9,zx,AE9,hx a,hy a,Sem.run_bind,Sem.run_pure,Result.andThen_ok,h]
 rw [run_of hr];have hge:=grownCap_ge w (k+m) cap e
 have hcap:grownCap w (k+m) cap e<=maxLen:=grownCap_le_maxLen w (k+m) cap e h63;have hall:(xs++(Builtin.zeroCells z.cells m).toList).length=(k+m)*sz:=by
  have hzl:(Builtin.zeroCells z.cells m).toList.length=m*sz:=by rw [AE7,size_zeroCells,hz1]
  rw [zG,hzl,hxl,AH9]
 refine hK _ _ _ ⟨[(w.heap.size,.cells (xs.toArray++Builtin.zeroCells z.cells m++Builtin.zeroCells z.cells (grownCap w (k+m) cap e -(k+m))) e (0,0))],⟨hall,.inr ⟨w.heap.size,grownCap w (k+m) cap e,_,(0,0),V,V,hge,hcap,?_,?_,BF _⟩⟩,V⟩ (hsat.drew.alloc _)
 · simp only [AS4,size_zeroCells,hz1,AA6,hxl]
   rw [<-AH9,<-AH9];congr 1;omega
 · simp only [AK4]
   exact AC3 hall
theorem Nj{x:Operand}{t e:TypeId}{i:TypeInfo}{z:Value}{sz gb k cap m c:Nat}{cur:Array Value}{T:TypeId}{zz:Nat×Nat}
 (ht:P.underlying t=some (.slice e))(hi:P.info? e=some i)(hzi:i.zero=some z)(hz1:z.cells.size=sz)(hzo:∀u∈z.cells.toList,u.oneCell'=true)
 (hx:∀a,ev a env x= .slice (En (some ⟨gb,0,none⟩) k cap sz) m c)(hm:k+m<=cap)(hcs:cur.size=cap*sz)(hfr:IA zz cur.size)(hone:One [(gb,.cells cur T zz)] H R):
 OpW P u ⟨d,.call ⟨.builtin .clear,#[x],#[t]⟩,ty,pos,af,g⟩ env H (fun _ H1=>H1=[(gb,.cells (Dp cur (k*sz) (Builtin.zeroCells z.cells m).toList) T zz)]::R) (fun _ _=>False):=fun a w hsat K Kp hK _=>by
 have hs1:Sat u ([(gb,.cells cur T zz)]::R) w:=hsat.perm (by simpa using hone.perm);have run_of:∀{v':Value} {w':World},(Builtin.clear_ #[t] ty #[.slice (En (some ⟨gb,0,none⟩) k cap sz) m c]).run P w= .ok v' w'->(execOp (ev a env) ⟨d,.call ⟨.builtin .clear,#[x],#[t]⟩,ty,pos,af,g⟩).run P w= .ok (.value v') w':=fun h=>by
  simp only [Dj,resolve,invoke,builtin,AG9,zx,AE9,hx a,Sem.run_bind,Sem.run_pure,Result.andThen_ok,h]
 rcases AG3 m with h0|h0
 · subst h0
   have hr:(Builtin.clear_ #[t] ty #[.slice (En (some ⟨gb,0,none⟩) k cap sz) 0 c]).run P w= .ok (.tuple #[]) w:=by
    have:∃q,En (some ⟨gb,0,none⟩) k cap sz=some q:=by unfold En;split<;>exact ⟨_,rfl⟩
    obtain ⟨q,hq⟩:=this;rw [hq];simp [Builtin.clear_,run_underlying ht]
   rw [run_of hr];refine hK _ _ _ V ?_;have:(Builtin.zeroCells z.cells 0).toList=[]:=AB0 (by rw [AE7,size_zeroCells];simp)
   rw [this,nL];exact hs1
 · have hq:En (some ⟨gb,0,none⟩) k cap sz=some ⟨gb,k*sz,none⟩:=by
    unfold En;rw [Am6 Ao7,AG6,Cn,zo]
   have hg:=hs1.get (gb,.cells cur T zz) Ap0;have hzl:(Builtin.zeroCells z.cells m).toList.length=m*sz:=by rw [AE7,size_zeroCells,hz1]
   have hzone:∀y∈(Builtin.zeroCells z.cells m).toList,y.oneCell'=true:=Qn z m hzo;have hfit:k*sz+m*sz<=cap*sz:=by rw [<-AH9];exact AF9 _ hm
   have hst:=CX (P:=P) gb (k*sz) T zz (Builtin.zeroCells z.cells m).toList 0 cur w hg hfr (by rw [hzl,hcs];omega) hzone;have hr:(Builtin.clear_ #[t] ty #[.slice (En (some ⟨gb,0,none⟩) k cap sz) m c]).run P w= .ok (.tuple #[]) (w.setRow gb (Dp cur (k*sz) (Builtin.zeroCells z.cells m).toList)):=by
    rw [hq];obtain ⟨m',rfl⟩:∃m',m=m'+1:=⟨m -1,by omega⟩;simp [Builtin.clear_,run_underlying ht,TU hi hzi,Dp]at hst⊢;simp [hst]
   rw [run_of hr];exact hK _ _ _ V (hs1.upd (.here _) V rfl V (setRow_heap w gb cur _ T zz hg) fun k hk=>setRow_other w gb k _ hk)
theorem Bh{t e:TypeId}{x lo:Operand}{b o n cap l sz:Nat}{lk:IntKind}(hu:P.underlying t=some (.slice e))(hs:∀w:World,(Go.sizeOf e).run P w= .ok sz w)(hx:∀a,ev a env x= .slice (some ⟨b,o,none⟩) n cap)(hl:∀a,ev a env lo= .int lk (l:Int))(h1:l<=n)(h2:l<cap):
 OpP P ⟨d,.slice t x (some lo) none none,ty,pos,af,g⟩ env [] (.slice (some ⟨b,o+l*sz,none⟩) (n -l) (cap -l)):=by
 have h:=CR (d:=d) (ty:=ty) (pos:=pos) (af:=af) (g:=g) hu hs hx hl h1;have e1:En (some ⟨b,o,none⟩) l cap sz=some ⟨b,o+l*sz,none⟩:=by
  unfold En;rw [Am6 Ao7,AG6,Cn]
 rwa [e1]at h
theorem XJ{t ty b j s1 s2:Nat}{fn:Func}{v x y:Value}(hr:fn.results=#[.cell t ty,.tmp s1,.tmp s2]){w:World}{tmps:Array Value}(hx:tmps.getD t undef= .pointer (some ⟨b,j,none⟩))(hl:(loadVar ty ⟨b,j,none⟩).run P w= .ok v w)(hy:tmps.getD s1 undef=x)(hz:tmps.getD s2 undef=y):(results fn tmps).run P w= .ok (.tuple #[v,x,y]) w:=by
 rw [AA8]at hx hy hz;simp [results,hr,hx,hy,hz,asAddr,hl]
theorem Gy{e:Exit}{N:Nat}{r:Option Nat}{fn:Func}{Q:Value->Hp->Prop}{Pn:List PanicEntry->Hp->Prop}{H':Hp}{t ty b j s1 s2:Nat}{v x y:Value}{o:Obj}(he:FE e=true)(hr:fn.results=#[.cell t ty,.tmp s1,.tmp s2])(hv:∀a,Fb a env t= .pointer (some ⟨b,j,none⟩))(hb:Has b o H)(hl:∀w:World,w.heap[b]?=some o->(loadVar ty ⟨b,j,none⟩).run P w= .ok v w)(hx:∀a,Fb a env s1=x)(hy:∀a,Fb a env s2=y)(hq:Q (.tuple #[v,x,y]) H')(hp:Sub (H'++R) H:=by repeat(first|exact Sub.refl _|exact Sub.nil _|(apply Sub.cons;(focus (repeat(first|exact One.here _ _|apply One.there))))|refine Sub.drop _ ?_)):Nx ⟨N,[],u,r⟩ (bodyPost P fn (Fw u R Q Pn) e) env H:=
 LU he (fun a w hs=>XJ hr (by rw [CJ a env (by rw [hs.size];exact hs.fit),hv a]) (hl w (hs.sat.get _ hb.mem)) (by rw [CJ a env (by rw [hs.size];exact hs.fit),hx a]) (by rw [CJ a env (by rw [hs.size];exact hs.fit),hy a])) hq hp
theorem Va{t s q k:Nat}{fn:Func}(hr:fn.results=#[.tmp t,.tmp s,.tmp q,.tmp k])(w:World)(tmps:Array Value):(results fn tmps).run P w= .ok (.tuple #[tmps.getD t undef,tmps.getD s undef,tmps.getD q undef,tmps.getD k undef]) w:=by simp [results,hr]
theorem eY{e:Exit}{N:Nat}{r:Option Nat}{fn:Func}{Q:Value->Hp->Prop}{Pn:List PanicEntry->Hp->Prop}{H':Hp}{t s q k:Nat}{v x y z:Value}(he:FE e=true)(hr:fn.results=#[.tmp t,.tmp s,.tmp q,.tmp k])(hv:∀a,Fb a env t=v)(hx:∀a,Fb a env s=x)(hy:∀a,Fb a env q=y)(hz:∀a,Fb a env k=z)(hq:Q (.tuple #[v,x,y,z]) H')(hp:Sub (H'++R) H:=by repeat(first|exact Sub.refl _|exact Sub.nil _|(apply Sub.cons;(focus (repeat(first|exact One.here _ _|apply One.there))))|refine Sub.drop _ ?_)):Nx ⟨N,[],u,r⟩ (bodyPost P fn (Fw u R Q Pn) e) env H:=
 LU he (fun a w hs=>by rw [Va hr,CJ a env (by rw [hs.size];exact hs.fit),CJ a env (by rw [hs.size];exact hs.fit),CJ a env (by rw [hs.size];exact hs.fit),CJ a env (by rw [hs.size];exact hs.fit),hv a,hx a,hy a,hz a]) hq hp
theorem Rw{f:FuncId}{fn:Func}{ax:Array Operand}{ats:Array TypeId}{tS tR e:TypeId}{size a b oa ob la ca lb cb:Nat}{xa xb:Array Value}{Ta Tb:TypeId}{zb:Nat×Nat}
 (hf:P.funcs[f]?=some fn)(hname:(fn.name== "runtime.NumGoroutine")=false)(hb:fn.body.isNone=true)(hn:Extern.findNext fn=none)(he:Extern.find fn=some (Extern.SlicesOverlaps.overlaps #[tS,tS] #[tR]))
 (ht:P.underlying tS=some (.slice e))(hz:∀w:World,(Go.sizeOf e).run P w= .ok size w)(ha:∀c,ax.toList.map (ev c env)=[.slice (some ⟨a,oa,none⟩) la ca,.slice (some ⟨b,ob,none⟩) lb cb])(hne:a≠b)(hk:xb.size≠0):
 OpP P ⟨d,.call ⟨.value (.func f),ax,ats⟩,ty,pos,af,g⟩ env [(a,.cells xa Ta (0,0)),(b,.cells xb Tb zb)] (.bool false):=fun c w hs=>by
 have g1:=hs (a,.cells xa Ta (0,0)) (by simp);have g2:=hs (b,.cells xb Tb zb) (by simp)
 have h1:ax.map (ev c env)=#[.slice (some ⟨a,oa,none⟩) la ca,.slice (some ⟨b,ob,none⟩) lb cb]:=by
  have:=Iy (ev c env) ax;rw [this,ha c]
 have h2:=run_callFunc_extern hf hname hb hn he #[.slice (some ⟨a,oa,none⟩) la ca,.slice (some ⟨b,ob,none⟩) lb cb] w;rw [Lib.run_overlaps_apart w tS tR e ht size hz ⟨a,oa,none⟩ ⟨b,ob,none⟩ la ca lb cb hne Ta Tb xa.size xb.size (by simp [World.shape?,g1]) (by simp [World.shape?,g2]) hk (by simp [World.frozen?,g1]) (by simp [World.frozen?,g1])]at h2;have h3:ev c env (.func f)= .func (.func f) #[] #[]:=rfl
 simp [Dj,resolve,h3,Deferred.ofValue,invoke,h1,h2,Result.andThen]
end
section
variable{α:Type}{κ:α->Value}{D:α->Prop}{P:Program}{es:Array MapEntry}{clock r:Nat}{l:List (α×Value)}{kt et:TypeId}
variable{u:World}{env:Env}{H R:Hp}{d:Option Nat}{ty:TypeId}{pos:String}{af:Array Edge}{g:Option (Nat×Bool)}{t:TypeId}{m x y:Operand}{k:α}{v:Value}
theorem Dk(hK:FU P kt κ D)(ht:P.underlying t=some (.map kt et))(hm:Ce κ es clock l)(hl:∀p∈l,D p.1)(hk:D k)(hx:∀a,ev a env m= .map (some r))(hy:∀a,ev a env x=κ k)(hv:∀a,ev a env y=v)(hone:One [(r,.map es clock)] H R):
 OpW P u ⟨d,.insert t m x y,ty,pos,af,g⟩ env H (fun v' H1=>v'=undef/\∃es' clock' l',Ce κ es' clock' l'/\(∀p,p∈l'↔p=(k,v)\/(p∈l/\p.1≠k))/\H1=[(r,.map es' clock')]::R) (fun _ _=>False):=fun a w hs K Kp hK2 hp=>
 Et (d:=d) (ty:=ty) (pos:=pos) (af:=af) (g:=g) hK ht hm hl hk hx hy hv hone a w hs K Kp hK2 hp
theorem DK [DecidableEq α]{et:TypeId}{z v0:Value}(hK:FU P kt κ D)(ht:P.underlying t=some (.map kt et))(hz:∀w:World,(zeroValue et).run P w= .ok z w)(hm:Ce κ es clock l)(hl:∀p∈l,D p.1)(hk:D k)(hv:(Dm k l).getD z=v0)(hx:∀a,ev a env m= .map (some r))(hy:∀a,ev a env x=κ k):
 OpP P ⟨d,.lookup t m x false,ty,pos,af,g⟩ env [(r,.map es clock)] v0:=fun a w hs=>by
 have hb:=hs (r,.map es clock) Ap0;show((do pure (Next.value (<-Instr.lookup t (ev a env m) (ev a env x) false))):Sem Next).run P w=_
 rw [hx a,hy a,<-hv];rcases H6 hK hm hl w k hk with⟨h1,h2⟩|⟨j,v,h1,h2⟩
 · rw [D9 h2]
   simp only [Instr.lookup,Sem.run_bind,run_underlying ht,Result.andThen,MapKept.run_getObj_map hb,Ed hK hk,Sem.run_pure,h1,hz];rfl
 · rw [Ck hm.keys (zP h2)]
   simp only [Instr.lookup,Sem.run_bind,run_underlying ht,Result.andThen,MapKept.run_getObj_map hb,Ed hK hk,Sem.run_pure,h1];rfl
theorem NF{d:Nat}{x y:Operand}{t yt e:TypeId}{p:Option Addr}(hu:P.underlying t=some (.pointer e))(hx:∀a,ev a env x= .pointer p)(hy:∀a,ev a env y= .pointer none):OpP P ⟨some d,.binOp .eql t x y yt,ty,pos,af,g⟩ env [] (.bool p.isNone):=by
 cases p with
 |none=>exact JZ hu hx hy
 |some a=>exact BU hu hx hy
theorem ET{d:Nat}{x y:Operand}{t yt e:TypeId}{p:Option Addr}(hu:P.underlying t=some (.pointer e))(hx:∀a,ev a env x= .pointer p)(hy:∀a,ev a env y= .pointer none):OpP P ⟨some d,.binOp .neq t x y yt,ty,pos,af,g⟩ env [] (.bool p.isSome):=by
 cases p with
 |none=>exact Mi hu hx hy
 |some a=>exact Mh hu hx hy
theorem Dr{c cs:Array Value}(h:cs.size=c.size):Dp c 0 cs.toList=cs:=by
 rw [Xc c cs.toList (by simpa using h)]
theorem BD{c:Array Value}{n:Nat}(h:c.size=n):c.extract 0 (0+n)=c:=by
 subst h;simp
end
section
variable{P:Program}{u:World}{env:Env}{H R:Hp}{d:Option Nat}{ty:TypeId}{pos:String}{af:Array Edge}{g:Option (Nat×Bool)}
theorem Nk{x y:Operand}{t su e:TypeId}{i:TypeInfo}{z:Value}{by_:Nat}{v:Value}{xs:List Value}{s:List A8}{l:List UInt8}
 (ht:P.underlying t=some (.slice e))(hsu:P.underlying su=some .string)(hi:P.info? e=some i)(hsz:i.size=1)(hby:i.bytes=by_)(hzi:i.zero=some z)(hz1:z.oneCell'=true)
 (hx:∀a,ev a env x=v)(hrow:Row e v xs s)(hy:∀a,ev a env y= .string (str l))(hone:One s H R)
 (hm:0<l.length)(h63:xs.length+l.length<=maxLen)(hb:(xs.length+l.length)*by_<=140737488355328):
 OpW P u ⟨d,.call ⟨.builtin .append,#[x,y],#[t,su]⟩,ty,pos,af,g⟩ env H (fun v' H1=>∃s',Row e v' (xs++l.map u8v) s'/\H1=s'::R) (fun _ _=>False):=fun a w hsat K Kp hK _=>by
 have hs1:Sat u (s::R) w:=hsat.perm (by simpa using hone.perm);have hsR:Sat u R w:=hs1.sub ⟨s,by simp only [zL];exact AB7⟩
 have hzc:z.cells=#[z]:=by cases z<;>first|rfl|simp [Value.oneCell']at hz1
 have hml:=mL;have hss:(str l).size=l.length:=by simp [str,ByteArray.size]
 have hsc:Lib.strCells (str l)=l.map u8v:=by simp only [Lib.strCells,str];rfl
 have hl:(l.map u8v).length=l.length:=zH ..;have run_of:∀{v':Value} {w':World},(Builtin.append_ #[t,su] ty #[v,.string (str l)]).run P w= .ok v' w'->(execOp (ev a env) ⟨d,.call ⟨.builtin .append,#[x,y],#[t,su]⟩,ty,pos,af,g⟩).run P w= .ok (.value v') w':=fun h=>by
  simp only [Dj,resolve,invoke,builtin,AG9,zx,AE9,hx a,hy a,Sem.run_bind,Sem.run_pure,Result.andThen_ok,h]
 have fresh:∀(n cap:Nat) (cells:Array Value) (w1:World),w1={w with drawn:=n,heap:=w.heap.push (.cells cells e)}->Sat u ([(w.heap.size,.cells cells e (0,0))]::R) w1:=fun n cap cells w1 h=>by
  subst h;exact (hsR.drawn n).alloc _
 rcases hrow with⟨rfl,rfl,rfl⟩|⟨gb,cap,cur,zz,rfl,rfl,hle,hcm,hcs,htk,hfr⟩
 · have hr:=run_append_nil_string (P:=P) w t su ty e i z ht hsu hi hzi (str l) (by omega) (by rw [hss];simp only [AF4,zo]at h63;omega) (by rw [hby,hss];simp only [AF4,zo]at hb;omega)
   rw [run_of hr,hss];have hge:=grownCap_ge w l.length 0 e
   have hcap:grownCap w l.length 0 e<=maxLen:=grownCap_le_maxLen w l.length 0 e (by simpa using h63);refine hK _ _ _ ⟨[(w.heap.size,.cells ((str l).data.map (fun b=>Value.int .u8 b.toNat)++Builtin.zeroCells z.cells (grownCap w l.length 0 e -l.length)) e (0,0))],.inr ⟨w.heap.size,grownCap w l.length 0 e,_,(0,0),?_,rfl,?_,hcap,?_,?_,BF _⟩,rfl⟩ (fresh _ 0 _ _ rfl)
   · simp
   · simpa using hge
   · simp [size_zeroCells,hzc,str];omega
   · have:((str l).data.map (fun b=>Value.int .u8 b.toNat)).toList=l.map u8v:=by rw [Array.toList_map];rfl
     simp only [AD8,AK4,this];exact AC3 rfl
 · have hg:=hs1.get (gb,.cells cur e zz) (by simp)
   by_cases hroom:xs.length+l.length<=cap
   · have hf:=Lib.run_firstCells_string (P:=P) w 1 (str l)
     rw [hss,hsc]at hf;have hst:=CX (P:=P) gb xs.length e zz (l.map u8v) 0 cur w hg hfr (by rw [hl,hcs];omega) (kM l)
     simp only [AH6]at hst;have hr:(Builtin.append_ #[t,su] ty #[I6 gb xs.length cap,.string (str l)]).run P w= .ok (I6 gb (xs.length+l.length) cap) (w.setRow gb (Dp cur xs.length (l.map u8v))):=by
      simp [Builtin.append_,run_underlying ht,run_underlying hsu,Go.sizeOf,typeInfo,hi,hsz,Builtin.lenOf,hss,hroom,hf,Cn,hst,Dp]
     rw [run_of hr];have hov:(Dp cur xs.length (l.map u8v)).size=cap:=by
      unfold Dp;simp;omega
     refine hK _ _ _ ⟨[(gb,.cells (Dp cur xs.length (l.map u8v)) e zz)],.inr ⟨gb,cap,_,zz,by simp,rfl,by simpa using hroom,hcm,hov,?_,by rw [hov,<-hcs];exact hfr⟩,rfl⟩
      (hs1.upd (.here _) rfl rfl rfl (setRow_heap w gb cur _ e zz hg) fun k hk=>setRow_other w gb k _ hk)
     unfold Dp;rw [htk];simp only [zM];rw [<-zM];exact AC3 Ap0
   · have holds:∀j v,xs[j]?=some v->w.cell? ((⟨gb,0,none⟩:Addr).add j)=some v:=fun j v hj=>by
      rw [Cn];refine Cb hg ?_;have hlt:j<xs.length:=(zF.1 hj).1
      have:(cur.toList.take xs.length)[j]?=some v:=by rw [htk];exact hj
      rw [AA7,Am7 hlt]at this;simpa using this
     have hr:=Lib.run_append_grow_string (P:=P) w t su ty e i z ht hsu hi hzi ⟨gb,0,none⟩ xs.length cap xs (by rw [hsz];omega) holds (str l) Ao7 Ao7 (growslice_fits Ao7 (by rw [hby,hss];exact hb));rw [run_of hr,hss,hsc];have hge:=grownCap_ge w (xs.length+l.length) cap e
     have hcap:grownCap w (xs.length+l.length) cap e<=maxLen:=grownCap_le_maxLen w (xs.length+l.length) cap e h63;refine hK _ _ _ ⟨[(w.heap.size,.cells (xs.toArray++(l.map u8v).toArray++Builtin.zeroCells z.cells (grownCap w (xs.length+l.length) cap e -(xs.length+l.length))) e (0,0))],.inr ⟨w.heap.size,grownCap w (xs.length+l.length) cap e,_,(0,0),?_,V,?_,hcap,?_,?_,BF _⟩,V⟩ (fresh _ 0 _ _ V)
     · simp
     · simpa using hge
     · simp [size_zeroCells,hzc];omega
     · simp only [AK4]
       exact AC3 Ap0
/- unsafe pointers -/
theorem Xa{s t q e:TypeId}{x:Operand}{j:TypeInfo}{b:Nat}{c:Array Value}{z:Nat×Nat}(hs:P.underlying s=some (.pointer q))(hd:P.underlying t=some .unsafePointer)(hq:P.info? q=some j)(hj:j.size≠0)(hc:0<c.size)(hx:∀a,ev a env x=I5 b):
 OpP P ⟨d,.convert s t x,ty,pos,af,g⟩ env [(b,.cells c e z)] (I5 b):=fun a w h=>by
 have hb:=h (b,.cells c e z) Ap0;have hsh:w.shape? b=some (e,c.size):=by simp [World.shape?,hb]
 have:=Lib.run_to_unsafe (P:=P) (w:=w) ⟨b,0,none⟩ hs hd hq hj hsh hc;simp [Jd,hx a,this]
theorem Ti{s t q e:TypeId}{x:Operand}{j:TypeInfo}{b:Nat}{c:Array Value}{z:Nat×Nat}(hs:P.underlying s=some .unsafePointer)(hd:P.underlying t=some (.pointer q))(hq:P.info? q=some j)(hl:liesAt P P.depth e (c.size/P.cellsOf e) 0 q 1=true)(hx:∀a,ev a env x=I5 b):
 OpP P ⟨d,.convert s t x,ty,pos,af,g⟩ env [(b,.cells c e z)] (I5 b):=fun a w h=>by
 have hb:=h (b,.cells c e z) Ap0;have hsh:w.shape? b=some (e,c.size):=by simp [World.shape?,hb]
 have:=Lib.run_from_unsafe (P:=P) (w:=w) ⟨b,0,none⟩ hs hd hq hsh hl;simp [Jd,hx a,this]
theorem Rx{t q:TypeId}{x y:Operand}{yt:TypeId}{j:TypeInfo}{p:Addr}(ht:P.underlying t=some (.pointer q))(hq:P.info? q=some j)(hx:∀a,ev a env x= .pointer (some p))(hy:∀a,ev a env y= .pointer (some p)):
 OpP P ⟨d,.binOp .neq t x y yt,ty,pos,af,g⟩ env [] (.bool false):=fun a w _=>by
 have:=Lib.run_neq_ptr_same (P:=P) w p ht hq;simp [Cr,hx a,hy a,eqGuard,this]
theorem nI{f:FuncId}{fn:Func}{e:Array Value→Sem Value}{ax:Array Operand}{ats:Array TypeId}{vs:List Value}{v:Value}(hf:P.funcs[f]?=some fn)(hname:(fn.name== "runtime.NumGoroutine")=false)(hb:fn.body.isNone=true)(hn:Extern.findNext fn=none)(he:Extern.find fn=some e)
 (ha:∀a,ax.toList.map (ev a env)=vs)(hr:∀w:World,(e vs.toArray).run P w= .ok v w):
 OpP P ⟨d,.call ⟨.value (.func f),ax,ats⟩,ty,pos,af,g⟩ env [] v:=fun a w _=>by
 have h1:ax.map (ev a env)=vs.toArray:=by rw [<-ha a];exact Iy _ ax
 have h2:=run_callFunc_extern hf hname hb hn he vs.toArray w;rw [hr w]at h2;have h3:ev a env (.func f)= .func (.func f) #[] #[]:=rfl
 simp [Dj,resolve,h3,Deferred.ofValue,invoke,h1,h2,Result.andThen]
theorem Ws{t:TypeId}{x:Operand}{p:Addr}{n c:Nat}(hx:∀a,ev a env x= .slice (some p) n c)(hc:c≠0):
 OpW P u ⟨d,.call ⟨.builtin .unsafeSliceData,#[x],#[t]⟩,ty,pos,af,g⟩ env H (fun v H1=>v= .pointer (some p)/\H1=H) (fun _ _=>False):=fun a w hsat K Kp hK _=>by
 have h:=Lib.run_unsafeSliceData_row (P:=P) (w:=w) #[t] ty p n c hc;have:(execOp (ev a env) ⟨d,.call ⟨.builtin .unsafeSliceData,#[x],#[t]⟩,ty,pos,af,g⟩).run P w= .ok (.value (.pointer (some p))) w:=by
  simp only [Dj,resolve,invoke,builtin,AG9,zx,AE9,hx a,Sem.run_bind,Sem.run_pure,Result.andThen_ok,h]
 rw [this];exact hK _ _ _ ⟨V,V⟩ hsat
theorem Qv{t it e:TypeId}{x y:Operand}{b:Nat}{c:Array Value}{z:Nat×Nat}{l:List UInt8}(ht:P.underlying t=some (.pointer e))(hc1:P.cellsOf e=1)(hx:∀a,ev a env x=I5 b)(hy:∀a,ev a env y=I4 (l.length:Int))(h0:l≠[])(h63:l.length<=9223372036854775807)
 (hone:One [(b,.cells c e z)] H R)(hc:c.toList.take l.length=l.map u8v):
 OpW P u ⟨d,.call ⟨.builtin .unsafeString,#[x,y],#[t,it]⟩,ty,pos,af,g⟩ env H (fun v H1=>v= .string (str l)/\H1=R) (fun _ _=>False):=fun a w hsat K Kp hK _=>by
 have hs1:Sat u ([(b,.cells c e z)]::R) w:=hsat.perm (by simpa using hone.perm);have hsR:Sat u R w:=hs1.sub ⟨[(b,.cells c e z)],by simp only [zL];exact AB7⟩
 have hb:=hs1.get (b,.cells c e z) (by simp);have hsh:w.shape? b=some (e,c.size):=by simp [World.shape?,hb]
 have hle:l.length<=c.size:=by
  have h1:(c.toList.take l.length).length=l.length:=by rw [hc,zH]
  rw [zN]at h1;have h2:=AT0 l.length c.toList.length
  rw [h1]at h2;exact AK0 h2 (Nat.le_of_eq (show c.toList.length=c.size from AE7))
 have hin:CE c 0 (l.map u8v):=by unfold CE;rw [AI5,zH];exact hc
 have h:=Lib.run_unsafeString_row (P:=P) w t it ty e ht hc1 b c.size hsh l h0 hle h63 (fun j x hx=>J3 hb hin j (.int .u8 x.toNat) (by rw [zY,hx];rfl));have:(execOp (ev a env) ⟨d,.call ⟨.builtin .unsafeString,#[x,y],#[t,it]⟩,ty,pos,af,g⟩).run P w= .ok (.value (.string (str l))) (w.freeze ⟨b,0,none⟩ l.length):=by
  simp only [Dj,resolve,invoke,builtin,AG9,zx,AE9,hx a,hy a,Sem.run_bind,Sem.run_pure,Result.andThen_ok,h];rfl
 rw [this];refine hK _ _ _ ⟨V,V⟩ ?_;have hl0:l.length≠0:=by simpa using h0
 have hnd:=hs1.nodup;simp only [zL,AC2,zx,AB9]at hnd;unfold World.freeze;rw [Am6 hl0];refine ⟨hsR.os,hsR.tape,hsR.output,hsR.nodup,fun p hp=>?_⟩;have hne:p.1≠b:=fun h=>hnd.1 (zQ.2 ⟨p,hp,h⟩)
 show(w.heap.modify b _)[p.1]?=some p.2;rw [AD9,Am6 (fun h=>hne h.symm)];exact hsR.get p hp
end
section
variable{P:Program}{ops:Array Oper}{l:List Oper}{cx:Cx}{Q:Exit->Act->World->Prop}{env:Env}{H:Hp}
theorem iW{fx:Operand}{fv:Fn}{caps:Array Value}{ty:TypeId}{pos:String}{af:Array Edge}(hr:cx.r=none)(hf:∀a,ev a env fx= .func fv #[] caps)
 (k:Ops P ops l ⟨cx.N,⟨.fn fv caps,#[]⟩::cx.D,cx.u,cx.r⟩ Q env H):Ops P ops (⟨none,.defer ⟨.value fx,#[],#[]⟩,ty,pos,af,none⟩::l) cx Q env H:=fun a w hs=>by
 have hfit:Fit a.tmps.size env:=by rw [hs.size];exact hs.fit
 simp only [wpL];rw [FV ops _ a env hfit,show wantedE ops a env (⟨none,.defer ⟨.value fx,#[],#[]⟩,ty,pos,af,none⟩:Oper).guard=true from rfl,Am7 rfl];refine ⟨fun _ _=>trivial,?_⟩;have hro:(Fx cx.r).round=none:=hr
 rw [hro,Oper.semAt_none,F9 a env hfit];have:(execOp (ev a env) ⟨none,.defer ⟨.value fx,#[],#[]⟩,ty,pos,af,none⟩).run P w= .ok (.defer ⟨.fn fv caps,#[]⟩) w:=by
  simp [execOp,resolve,hf a,Deferred.ofValue]
 rw [this,Oper.uponIn_defer];have h:=k {a with defers:=⟨.fn fv caps,#[]⟩::cx.D} w ⟨hs.size,rfl,hs.fit,hs.sat⟩
 have e:Bz env {a with defers:=⟨.fn fv caps,#[]⟩::cx.D}={Bz env a with defers:=⟨.fn fv caps,#[]⟩::(Bz env a).defers}:=by
  rw [Eu,FO,hs.defers]
 rw [e]at h;exact h
end
def Oj(P:Program)(f:FuncId)(args:Array Value)(m m':FrameMode)(H:Hp)(Q:Hp->Prop):Prop:=
 ∀(u:World) (R:Hp) (w:World),Sat u (H++R) w->CallsDIn Fence.wide 0 P f args m w fun e m2 w'=>∃v H',e= .returned v/\m2=m'/\Q H'/\Sat u (H'++R) w'
theorem QG{P:Program}{f:FuncId}{args:Array Value}{m:FrameMode}{w:World}{R1 R2:Ending->FrameMode->World->Prop}(h:CallsDIn Fence.wide 0 P f args m w R1)(hq:∀e m2 w',R1 e m2 w'->R2 e m2 w'):CallsDIn Fence.wide 0 P f args m w R2:=
 ⟨h.1,fun c cs hc hr=>by
   obtain ⟨e,u',w',fr,h1,h2⟩:=h.2 c cs hc hr;exact ⟨e,u',w',fr,hq _ _ _ h1,h2⟩⟩
theorem bO{P:Program}{fn:Func}{tmps:Array Value}{f:FuncId}{caps:Array Value}{m m':FrameMode}{w u:World}{Hd Rr R:Hp}{Qd:Hp->Prop}{Q:Value->Hp->Prop}{Pn:List PanicEntry->Hp->Prop}
 (hm:m≠ .run)(hm':settle m'= .returning)(hc:∀(args:Array Value) (w:World),(callFunc f args).run P w= .ok (.enter f args) w)(hd:Oj P f caps m m' Hd Qd)(hs:Sat u (Hd++Rr) w)
 (hfin:∀H1 w',Qd H1->Sat u (H1++Rr) w'->∃v H',(results fn tmps).run P w'= .ok v w'/\Q v H'/\Sat u (H'++R) w'):
 LeavesInM Fence.wide 0 P fn tmps (Fw u R Q Pn) [⟨.fn (.func f) caps,#[]⟩] m w:=by
 refine ⟨hm,.inr ⟨fun h=>by simp [Fence.wide]at h,.func f,caps,f,caps,V,?_,fun _ _=>trivial,?_⟩⟩
 · simp [invoke,hc]
 · refine QG (hd u Rr w hs) ?_
   rintro e m2 w' ⟨v,H1,rfl,rfl,hq,hsat⟩;obtain ⟨v2,H',h1,h2,h3⟩:=hfin H1 w' hq hsat;show LeavesInM Fence.wide 0 P fn tmps (Fw u R Q Pn) [] (settle m2) w'
   rw [hm'];exact ⟨v2,h1,.inl ⟨v2,H',V,h2,h3⟩⟩
section
variable{P:Program}{N:Nat}{u:World}{fn:Func}{R H Hd Rr:Hp}{Q:Value->Hp->Prop}{Pn:List PanicEntry->Hp->Prop}{env:Env}{e:Exit}{f:FuncId}{caps:Array Value}{Qd:Hp->Prop}{m':FrameMode}
end
/- a region that recovers -/
def kX(P:Program)(ops:Array Oper)(l:List Nat)(cx:Cx)(cs:List Frame)(Q:Exit->Act->List Frame->World->Prop)(env:Env)(H:Hp):Prop:=∀a w,St cx env H a w->wpOpsSIn Fence.wide 0 P ops Q l (Bz env a) cs w
section
variable{P:Program}{ops:Array Oper}{l:List Nat}{i:Nat}{cx:Cx}{cs:List Frame}{Q:Exit->Act->List Frame->World->Prop}{env:Env}{H:Hp}
theorem PY{d:Nat}{op:Op}{ty:TypeId}{pos:String}{af:Array Edge}{v:Value}(ho:ops[i]?=some ⟨some d,op,ty,pos,af,none⟩)(h:OpP P ⟨some d,op,ty,pos,af,none⟩ env [] v)(hd:Nat.blt d cx.N=true)
 (k:kX P ops l cx cs Q ((d,v)::env) H):kX P ops (i::l) cx cs Q env H:=fun a w hs=>by
 have hfit:Fit a.tmps.size env:=by rw [hs.size];exact hs.fit
 simp only [wpOpsSIn,ho];refine ⟨fun _ _=>trivial,?_⟩;rw [FV ops _ a env hfit,show wantedE ops a env (⟨some d,op,ty,pos,af,none⟩:Oper).guard=true from rfl,Am7 rfl,F9 a env hfit,h a w Ap0];exact k a w ⟨hs.size,hs.defers,hs.fit.cons hd v,hs.sat⟩
theorem bC{d:Nat}{ty:TypeId}{pos:String}{af:Array Edge}(ho:ops[i]?=some ⟨some d,.call ⟨.builtin .recover,#[],#[]⟩,ty,pos,af,none⟩)(hr:recoverD cs=none)(hd:Nat.blt d cx.N=true)
 (k:kX P ops l cx cs Q ((d,.nilIface)::env) H):kX P ops (i::l) cx cs Q env H:=fun a w hs=>by
 have hfit:Fit a.tmps.size env:=by rw [hs.size];exact hs.fit
 simp only [wpOpsSIn,ho];refine ⟨fun _ _=>trivial,?_⟩;rw [FV ops _ a env hfit,show wantedE ops a env (⟨some d,.call ⟨.builtin .recover,#[],#[]⟩,ty,pos,af,none⟩:Oper).guard=true from rfl,Am7 rfl,F9 a env hfit];have:(execOp (ev a env) ⟨some d,.call ⟨.builtin .recover,#[],#[]⟩,ty,pos,af,none⟩).run P w= .ok .recover w:=by
  simp [Dj,resolve,invoke,builtin]
 rw [this];simp only [hr];exact k a w ⟨hs.size,hs.defers,hs.fit.cons hd _,hs.sat⟩
end
theorem X7{P:Program}{f:FuncId}{fn:Func}{id:Nat}{ops:Array Oper}{y:Code}{args:Array Value}{N:Nat}{m m':FrameMode}{H:Hp}{Qd:Hp->Prop}{env1:Env}(hf:P.funcs[f]?=some fn)(hb:fn.body=some (.seq (.region id ops false) y))(hN:fn.ntmps=N)(hs:Nat.ble args.size N=true)(hres:fn.results=#[])
 (hrec:∀(u:World) (R:Hp) (c:Frame) (cs:List Frame) (Q:Exit->Act->List Frame->World->Prop),c.mode=m->(∀a w,St ⟨N,[],u,none⟩ env1 (H++R) a w->Q .normal (Bz env1 a) ({c with mode:=m'}::cs) w)->kX P ops (List.range ops.size) ⟨N,[],u,none⟩ (c::cs) Q (FD 0 args.toList) (H++R))
 (h:∀u R,At P ⟨N,[],u,none⟩ y (bodyPost P fn (Fw u R (fun _ H'=>Qd H') (fun _ _=>False))) env1 (H++R)):Oj P f args m m' H Qd:=fun u R w hsat=>by
 have hle:args.size<=N:=AI4 hs;have hput:Bz (FD 0 args.toList) {tmps:=args++Array.replicate (fn.ntmps -args.size) undef,defers:=[]}={tmps:=args++Array.replicate (fn.ntmps -args.size) undef,defers:=[]}:=by
  refine Jk _ fun p hp=>?_;obtain ⟨_,h2⟩:=F4 _ _ _ hp;simp only [AJ3,AA3]at h2;have hlt:p.1<args.size:=by
   rcases AB1 p.1 args.size with h|h
   · exact h
   · simp [AA9 h]at h2
  rw [AI1 hlt];exact h2
 refine callsDIn_of_wpSIn (F:=Fence.wide) hf hb trivial fun c₀ cs hm=>?_;rw [<-hput];refine wpSIn_seq (wpSIn_region ?_);refine hrec u R c₀ cs _ hm (fun a w1 hs1=>?_) _ w ⟨by simp [hN];omega,V,fun p hp=>?_,hsat⟩
 · refine wpSIn_of_wpIn rfl (wpIn_mono (h u R a w1 hs1) ?_)
   intro e a2 w2 hpost;cases e with
   |normal=>
    obtain ⟨hd,v,hr,hR⟩:=hpost;rcases hR with⟨v',H',h1,h2,h3⟩|⟨_,_,_,h4,_⟩
    · exact ⟨hd,m',rfl,v,hr,v',H',h1,rfl,h2,h3⟩
    · exact h4.elim
   |ret=>
    obtain ⟨hd,v,hr,hR⟩:=hpost;rcases hR with⟨v',H',h1,h2,h3⟩|⟨_,_,_,h4,_⟩
    · exact ⟨hd,m',rfl,v,hr,v',H',h1,rfl,h2,h3⟩
    · exact h4.elim
   |panic ch=>
    obtain ⟨hd,hR⟩:=hpost;rcases hR with⟨_,_,h1,_⟩|⟨_,_,_,h4,_⟩
    · cases h1
    · exact h4.elim
   |outgrown=>
    rcases hpost with⟨_,_,h1,_⟩|⟨_,_,_,h4,_⟩
    · cases h1
    · exact h4.elim
   |exit i=>exact hpost.elim
   |goto i=>exact hpost.elim
 · obtain ⟨_,h2⟩:=F4 _ _ _ hp
   simp only [AJ3,AA3]at h2;rcases AB1 p.1 args.size with h|h
   · exact AO8 h hle
   · simp [AA9 h]at h2
section
variable{P:Program}{ops:Array Oper}{l:List Oper}{cx:Cx}{Q:Exit->Act->World->Prop}{env:Env}{H:Hp}
theorem bB{f:FuncId}{x:Operand}{v:Value}{ats:Array TypeId}{ty:TypeId}{pos:String}{af:Array Edge}(hr:cx.r=none)(hx:∀a,ev a env x=v)
 (k:Ops P ops l ⟨cx.N,⟨.fn (.func f) #[],#[v]⟩::cx.D,cx.u,cx.r⟩ Q env H):Ops P ops (⟨none,.defer ⟨.value (.func f),#[x],ats⟩,ty,pos,af,none⟩::l) cx Q env H:=fun a w hs=>by
 have hfit:Fit a.tmps.size env:=by rw [hs.size];exact hs.fit
 simp only [wpL];rw [FV ops _ a env hfit,show wantedE ops a env (⟨none,.defer ⟨.value (.func f),#[x],ats⟩,ty,pos,af,none⟩:Oper).guard=true from rfl,Am7 rfl];refine ⟨fun _ _=>trivial,?_⟩;have hro:(Fx cx.r).round=none:=hr
 rw [hro,Oper.semAt_none,F9 a env hfit];have h3:ev a env (.func f)= .func (.func f) #[] #[]:=rfl
 have:(execOp (ev a env) ⟨none,.defer ⟨.value (.func f),#[x],ats⟩,ty,pos,af,none⟩).run P w= .ok (.defer ⟨.fn (.func f) #[],#[v]⟩) w:=by
  simp [execOp,resolve,h3,hx a,Deferred.ofValue]
 rw [this,Oper.uponIn_defer];have h:=k {a with defers:=⟨.fn (.func f) #[],#[v]⟩::cx.D} w ⟨hs.size,rfl,hs.fit,hs.sat⟩
 have e:Bz env {a with defers:=⟨.fn (.func f) #[],#[v]⟩::cx.D}={Bz env a with defers:=⟨.fn (.func f) #[],#[v]⟩::(Bz env a).defers}:=by
  rw [Eu,FO,hs.defers]
 rw [e]at h;exact h
end
theorem bN{P:Program}{fn:Func}{tmps:Array Value}{fa f:FuncId}{va caps:Array Value}{ma m':FrameMode}{w u:World}{Hd Rr R:Hp}{Qd:Hp->Prop}{Q:Value->Hp->Prop}{Pn:List PanicEntry->Hp->Prop}
 (hma:settle ma= .returning)(hca:∀(args:Array Value) (w:World),(callFunc fa args).run P w= .ok (.enter fa args) w)(hda:Oj P fa va .returning ma [] (fun H'=>H'=[]))
 (hm':settle m'= .returning)(hc:∀(args:Array Value) (w:World),(callFunc f args).run P w= .ok (.enter f args) w)(hd:Oj P f caps .returning m' Hd Qd)(hs:Sat u (Hd++Rr) w)
 (hfin:∀H1 w',Qd H1->Sat u (H1++Rr) w'->∃v H',(results fn tmps).run P w'= .ok v w'/\Q v H'/\Sat u (H'++R) w'):
 LeavesInM Fence.wide 0 P fn tmps (Fw u R Q Pn) [⟨.fn (.func fa) #[],va⟩,⟨.fn (.func f) caps,#[]⟩] .returning w:=by
 refine ⟨by simp,.inr ⟨fun h=>by simp [Fence.wide]at h,.func fa,#[],fa,va,V,?_,fun _ _=>trivial,?_⟩⟩
 · simp [invoke,hca]
 · refine QG (hda u (Hd++Rr) w hs) ?_
   rintro e m2 w' ⟨v,H1,rfl,rfl,rfl,hsat⟩;show LeavesInM Fence.wide 0 P fn tmps (Fw u R Q Pn) [⟨.fn (.func f) caps,#[]⟩] (settle m2) w'
   rw [hma];exact bO Ap0 hm' hc hd hsat hfin
section
variable{P:Program}{N:Nat}{u:World}{fn:Func}{R H Hd Rr:Hp}{Q:Value->Hp->Prop}{Pn:List PanicEntry->Hp->Prop}{env:Env}{e:Exit}{fa f:FuncId}{va caps:Array Value}{Qd:Hp->Prop}{ma m':FrameMode}
theorem nU(he:FE e=true)(hma:settle ma= .returning)(hca:∀(args:Array Value) (w:World),(callFunc fa args).run P w= .ok (.enter fa args) w)(hda:Oj P fa va .returning ma [] (fun H'=>H'=[]))
 (hm':settle m'= .returning)(hc:∀(args:Array Value) (w:World),(callFunc f args).run P w= .ok (.enter f args) w)(hd:Oj P f caps .returning m' Hd Qd)(hp:EY Hd H Rr)
 (hfin:∀H1,Qd H1->∃v H',(∀(a:Act) (w:World),Fit a.tmps.size env->Sat u (H1++Rr) w->(results fn (Bz env a).tmps).run P w= .ok v w)/\Q v H'/\qy (H'++R) (H1++Rr)):
 Nx ⟨N,[⟨.fn (.func fa) #[],va⟩,⟨.fn (.func f) caps,#[]⟩],u,none⟩ (bodyPostM Fence.wide 0 P fn (Fw u R Q Pn) e) env H:=fun a w hs=>by
 have h1:(Bz env a).defers=[⟨.fn (.func fa) #[],va⟩,⟨.fn (.func f) caps,#[]⟩]:=by rw [FO];exact hs.defers
 have hfin2:LeavesInM Fence.wide 0 P fn (Bz env a).tmps (Fw u R Q Pn) (Bz env a).defers .returning w:=by
  rw [h1];refine bN hma hca hda hm' hc hd (hs.sat.perm hp.perm) fun H1 w' hq hsat=>?_;obtain ⟨v,H',h2,h3,h4⟩:=hfin H1 hq;exact ⟨v,H',h2 a w' (by rw [hs.size];exact hs.fit) hsat,h3,hsat.sub h4⟩
 cases e<;>first|exact hfin2|simp [FE]at he
end
theorem Yh{P:Program}{f:FuncId}{fn:Func}{y:Code}{args:Array Value}{N:Nat}{m:FrameMode}{H:Hp}{Qd:Hp->Prop}(hf:P.funcs[f]?=some fn)(hb:fn.body=some y)(hN:fn.ntmps=N)(hs:Nat.ble args.size N=true)
 (h:∀u R,At P ⟨N,[],u,none⟩ y (bodyPost P fn (Fw u R (fun _ H'=>Qd H') (fun _ _=>False))) (FD 0 args.toList) (H++R)):Oj P f args m m H Qd:=fun u R w hsat=>by
 have hle:args.size<=N:=AI4 hs;have hput:Bz (FD 0 args.toList) {tmps:=args++Array.replicate (fn.ntmps -args.size) undef,defers:=[]}={tmps:=args++Array.replicate (fn.ntmps -args.size) undef,defers:=[]}:=by
  refine Jk _ fun p hp=>?_;obtain ⟨_,h2⟩:=F4 _ _ _ hp;simp only [AJ3,AA3]at h2;have hlt:p.1<args.size:=by
   rcases AB1 p.1 args.size with h|h
   · exact h
   · simp [AA9 h]at h2
  rw [AI1 hlt];exact h2
 refine callsDIn_of_wpSIn (F:=Fence.wide) hf hb trivial fun c₀ cs hm=>?_;have hcm:({c₀ with mode:=m}:Frame)=c₀:=by cases c₀;simp only at hm;subst hm;rfl
 rw [<-hput];refine wpSIn_of_wpIn V (wpIn_mono (h u R _ w ⟨by simp [hN];omega,V,fun p hp=>?_,hsat⟩) ?_)
 · obtain ⟨_,h2⟩:=F4 _ _ _ hp
   simp only [AJ3,AA3]at h2;rcases AB1 p.1 args.size with h|h
   · exact AO8 h hle
   · simp [AA9 h]at h2
 · intro e a2 w2 hpost
   cases e with
   |normal=>
    obtain ⟨hd,v,hr,hR⟩:=hpost;rcases hR with⟨v',H',h1,h2,h3⟩|⟨_,_,_,h4,_⟩
    · exact ⟨hd,m,by rw [hcm],v,hr,v',H',h1,rfl,h2,h3⟩
    · exact h4.elim
   |ret=>
    obtain ⟨hd,v,hr,hR⟩:=hpost;rcases hR with⟨v',H',h1,h2,h3⟩|⟨_,_,_,h4,_⟩
    · exact ⟨hd,m,by rw [hcm],v,hr,v',H',h1,rfl,h2,h3⟩
    · exact h4.elim
   |panic ch=>
    obtain ⟨hd,hR⟩:=hpost;rcases hR with⟨_,_,h1,_⟩|⟨_,_,_,h4,_⟩
    · cases h1
    · exact h4.elim
   |outgrown=>
    rcases hpost with⟨_,_,h1,_⟩|⟨_,_,_,h4,_⟩
    · cases h1
    · exact h4.elim
   |exit i=>exact hpost.elim
   |goto i=>exact hpost.elim
section
variable{P:Program}{u:World}{env:Env}{H R:Hp}{d:Option Nat}{ty:TypeId}{pos:String}{af:Array Edge}{g:Option (Nat×Bool)}
theorem pU{t e:TypeId}{f0 f1 f2 f3:Field}(w:World)(n:Nat)(x0 x1 x2 x3 y0 y1 y2 y3:Int)(hu:P.underlying t=some (.struct #[f0,f1,f2,f3]))(hst:P.stoodInHeld t=false)
 (h0:f0.name≠ "_"∧f0.type=e∧f0.offset=0)(h1:f1.name≠ "_"∧f1.type=e∧f1.offset=1)(h2:f2.name≠ "_"∧f2.type=e∧f2.offset=2)(h3:f3.name≠ "_"∧f3.type=e∧f3.offset=3)
 (he:P.underlying e=some (.int .i64))(ha:∀w:World,(isAgg e).run P w= .ok false w):
 (Op.equalIn (n+2) t (.agg #[I4 x0,I4 x1,I4 x2,I4 x3]) (.agg #[I4 y0,I4 y1,I4 y2,I4 y3])).run P w= .ok (decide (x0=y0/\x1=y1/\x2=y2/\x3=y3)) w:=by
 obtain ⟨n0,e0,o0⟩:=h0;obtain ⟨n1,e1,o1⟩:=h1;obtain ⟨n2,e2,o2⟩:=h2;obtain ⟨n3,e3,o3⟩:=h3;have ei:∀(m k:Int) (w:World),(Op.equalIn (n+1) e (I4 m) (I4 k)).run P w= .ok (decide (m=k)) w:=fun m k w=>fO n w he m k
 have p0:∀(v0 v1 v2 v3:Value) (w:World),(part e #[v0,v1,v2,v3] 0).run P w= .ok v0 w:=fun _ _ _ _ w=>Gu w (ha w) _ _ rfl;have p1:∀(v0 v1 v2 v3:Value) (w:World),(part e #[v0,v1,v2,v3] 1).run P w= .ok v1 w:=fun _ _ _ _ w=>Gu w (ha w) _ _ rfl
 have p2:∀(v0 v1 v2 v3:Value) (w:World),(part e #[v0,v1,v2,v3] 2).run P w= .ok v2 w:=fun _ _ _ _ w=>Gu w (ha w) _ _ rfl;have p3:∀(v0 v1 v2 v3:Value) (w:World),(part e #[v0,v1,v2,v3] 3).run P w= .ok v3 w:=fun _ _ _ _ w=>Gu w (ha w) _ _ rfl
 rw [show n+2=(n+1)+1 from rfl,Op.equalIn];generalize n+1=m at*;simp only [Sem.run_bind,run_underlying hu,Result.andThen_ok,run_program,hst,AD4,An2];rw [<-Array.forIn_toList];simp only [List.forIn_cons,List.forIn_nil,n0,n1,n2,n3,e0,e1,e2,e3,o0,o1,o2,o3,ne_eq,not_false_eq_true,An4];simp only [Sem.run_bind,p0,p1,p2,p3,ei,Result.andThen_ok];by_cases c0:x0=y0
 · by_cases c1:x1=y1
   · by_cases c2:x2=y2
     · by_cases c3:x3=y3<;>simp [c0,c1,c2,c3,p0,p1,p2,p3,ei,n1,n2,n3]
     · simp [c0,c1,c2,p0,p1,p2,p3,ei,n1,n2,n3]
   · simp [c0,c1,p0,p1,p2,p3,ei,n1,n2,n3]
 · simp [c0,p0,p1,p2,p3,ei,n1,n2,n3]
theorem Xb{t yt e:TypeId}{f0 f1 f2 f3:Field}{x y:Operand}{x0 x1 x2 x3 y0 y1 y2 y3:Int}(hg:P.eqGuardType P.depth t=false)(hu:P.underlying t=some (.struct #[f0,f1,f2,f3]))(hst:P.stoodInHeld t=false)
 (h0:f0.name≠ "_"∧f0.type=e∧f0.offset=0)(h1:f1.name≠ "_"∧f1.type=e∧f1.offset=1)(h2:f2.name≠ "_"∧f2.type=e∧f2.offset=2)(h3:f3.name≠ "_"∧f3.type=e∧f3.offset=3)
 (he:P.underlying e=some (.int .i64))(ha:∀w:World,(isAgg e).run P w= .ok false w)
 (hx:∀a,ev a env x= .agg #[I4 x0,I4 x1,I4 x2,I4 x3])(hy:∀a,ev a env y= .agg #[I4 y0,I4 y1,I4 y2,I4 y3]):OpP P ⟨d,.binOp .eql t x y yt,ty,pos,af,g⟩ env [] (.bool (decide (x0=y0/\x1=y1/\x2=y2/\x3=y3))):=fun a w _=>by
 simp [Cr,hx a,hy a,go_sem,run_eqGuard_agg w _ t _ _ _ _ hg,QI,Op.equal,Op.maxDepth,pU w 9998 x0 x1 x2 x3 y0 y1 y2 y3 hu hst h0 h1 h2 h3 he ha]
end
def Hr(b:Nat)(o:Obj)(s:List A8):List A8:=s.map fun p=>if p.1=b then(b,o)else p
theorem gF(b:Nat)(o:Obj)(s:List A8):(Hr b o s).map (·.1)=s.map (·.1):=by
 unfold Hr;rw [AF0];apply AG4;intro p _;show(if p.1=b then(b,o)else p).1=p.1
 split
 · rename_i h;exact h.symm
 · rfl
theorem lD{b:Nat}{o:Obj}{s:List A8}{p:A8}(h:p∈Hr b o s):p=(b,o)\/(p.1≠b/\p∈s):=by
 obtain ⟨q,hq,e⟩:=zQ.1 h;split at e
 · exact .inl e.symm
 · rename_i hn;subst e;exact .inr ⟨hn,hq⟩
theorem XB{u w w':World}{H R:Hp}{s:List A8}{b:Nat}{o o':Obj}(hs:Sat u H w)(h1:One s H R)(hm:(b,o)∈s)(e1:w'.os=w.os)(e2:w'.tape=w.tape)(e3:w'.output=w.output)
 (hb:w'.heap[b]?=some o')(hk:∀k,k≠b->w'.heap[k]?=w.heap[k]?):Sat u (Hr b o' s::R) w':=by
 have hp:=h1.perm;have hn:((s++R.flatten).map (·.1)).Nodup:=(hp.map _).nodup_iff.1 hs.nodup
 refine ⟨e1.trans hs.os,e2.trans hs.tape,e3.trans hs.output,?_,fun p hpm=>?_⟩
 · rw [zL,zK,gF,<-zK];exact hn
 · rw [zL]at hpm
   rcases zJ.1 hpm with h|h
   · rcases lD h with rfl|⟨h2,h3⟩
     · exact hb
     · rw [hk _ h2];exact hs.get p (hp.mem_iff.2 (zR _ h3))
   · have hne:p.1≠b:=fun e=>by
      rw [zK,AA5]at hn;exact hn.2.2 b (zQ.2 ⟨_,hm,V⟩) p.1 (zS h) e.symm
     rw [hk _ hne];exact hs.get p (hp.mem_iff.2 (zZ _ h))
theorem Fv{P:Program}{cx:Cx}{c:Code}{Q:Exit->Act->World->Prop}{env:Env}{H R:Hp}{s:List A8}(h1:One s H R)(k:(s.map (·.1)).Nodup->At P cx c Q env H):At P cx c Q env H:=fun a w hs=>k (by
 have:=hs.sat.nodup;rw [(h1.perm.map (·.1)).nodup_iff,zK]at this;exact (AA5.1 this).1) a w hs
theorem qN{P:Program}{cx:Cx}{c:Code}{Q:Exit->Act->World->Prop}{env:Env}{H R R2:Hp}{s:List A8}{b:Nat}{y:Obj}(h1:One [(b,y)] H R)(h2:One s R R2)(k:b∉s.map (·.1)->At P cx c Q env H):At P cx c Q env H:=fun a w hs=>k (fun hb=>by
 have:=hs.sat.nodup;rw [((h1.perm.trans (AD2 _ h2.perm)).map (·.1)).nodup_iff,zK,zK]at this;exact (AA5.1 this).2.2 b Ap0 b (zR _ hb) V) a w hs
theorem F6{s:List A8}{H R:Hp}(h:One s H R){b:Nat}{x:Obj}(hm:(b,x)∈s):(b,x)∈H.flatten:=h.perm.mem_iff.2 (zR _ hm)
theorem Gc{s:List A8}{H R:Hp}(h:One s H R){p:A8}(hm:p∈s):∀c∈[p],c∈H.flatten:=fun c hc=>by
 rw [zI.1 hc];exact h.perm.mem_iff.2 (zR _ hm)
section
variable{P:Program}{u:World}{env:Env}{H R:Hp}{d:Option Nat}{ty:TypeId}{pos:String}{af:Array Edge}{g:Option (Nat×Bool)}
theorem GM{t:TypeId}{x y:Operand}{b i:Nat}{c:Array Value}{T:TypeId}{z:Nat×Nat}{v:Value}{s s':List A8}(hs:∀w:World,(Go.sizeOf t).run P w= .ok 1 w)(hx:∀a,ev a env x= .pointer (some ⟨b,i,none⟩))(hy:∀a,ev a env y=v)(h1:v.oneCell'=true)
 (ho:One s H R)(hm:(b,.cells c T z)∈s)(hc:Hr b (.cells (c.setIfInBounds i v) T z) s=s')(hi:i<c.size)(hz:IA z c.size):
 OpW P u ⟨d,.store t x y,ty,pos,af,g⟩ env H (fun v' H1=>v'=undef/\H1=s'::R) (fun _ _=>False):=fun a w hs' K Kp hK _=>by
 have hb:=hs'.get _ (ho.perm.mem_iff.2 (zR _ hm));have hcells:v.cells=#[v]:=by cases v<;>first|rfl|simp [Value.oneCell']at h1
 have hst:=JY (P:=P) hb hi hz h1;have:(execOp (ev a env) ⟨d,.store t x y,ty,pos,af,g⟩).run P w= .ok .skip (w.setCell ⟨b,i,none⟩ v):=by
  simp [Qc,hx a,hy a,Instr.storeAt,Instr.sureAddr,storeVar,hs,hcells,storeCells,Addr.add_zero',hst]
 rw [this];exact hK _ _ _ ⟨V,V⟩ (hc▸XB hs' ho hm V rfl V (OU v hb) fun k hk=>Kh v hk)
theorem Nh{t:TypeId}{x y:Operand}{b i n:Nat}{c cs:Array Value}{T:TypeId}{z:Nat×Nat}{s s':List A8}(hs:∀w:World,(Go.sizeOf t).run P w= .ok n w)(hx:∀a,ev a env x= .pointer (some ⟨b,i,none⟩))(hy:∀a,ev a env y= .agg cs)(h1:∀v∈cs.toList,v.oneCell'=true)
 (ho:One s H R)(hm:(b,.cells c T z)∈s)(hc:Hr b (.cells (Dp c i cs.toList) T z) s=s')(hn:cs.size=n)(hi:i+n<=c.size)(hz:IA z c.size):
 OpW P u ⟨d,.store t x y,ty,pos,af,g⟩ env H (fun v' H1=>v'=undef/\H1=s'::R) (fun _ _=>False):=fun a w hs' K Kp hK _=>by
 have hb:=hs'.get _ (ho.perm.mem_iff.2 (zR _ hm));have hst:=CX (P:=P) b i T z cs.toList 0 c w hb hz (by simp;omega) h1
 simp only [AH6]at hst;have:(execOp (ev a env) ⟨d,.store t x y,ty,pos,af,g⟩).run P w= .ok .skip (w.setRow b (Dp c i cs.toList)):=by
  simp [Qc,hx a,hy a,Instr.storeAt,Instr.sureAddr,storeVar,hs,Value.cells,hn,hst,Dp]
 rw [this];exact hK _ _ _ ⟨rfl,rfl⟩ (hc▸XB hs' ho hm rfl rfl rfl (by rw [setRow_heap w b c _ T z hb]) fun k hk=>setRow_other w b k _ hk)
end
end Gw
namespace Gw
open Go Go.RowKit
open Go.ChangeMaps (setBlock)
section
variable{α:Type}{P:Program}{κ:α->Value}{D:α->Prop}{u:World}{env:Env}{H R:Hp}{d:Option Nat}{ty:TypeId}{pos:String}{af:Array Edge}{g:Option (Nat×Bool)}{t kt et:TypeId}{m x y:Operand}{r:Nat}{es:Array MapEntry}{clock:Nat}{l:List (α×Value)}{k:α}{z v:Value}
def um(es:Array MapEntry)(j st:Nat):Prop:=∃e,es.toList[j]?=some e/\e.born=st
theorem nY{es:Array MapEntry}{j:Nat}{e0:MapEntry}{kv:Value}(h:es[j]?=some e0)(hk:e0.key=kv):(es.modify j fun e=>{e with key:=kv})=es:=by
 obtain ⟨hj,he⟩:=zw.1 h;apply AT9 Ap0;intro i h1 h2;rw [Array.getElem_modify];split
 · rename_i e;subst e
   rw [he];subst hk;rfl
 · rfl
theorem K6 [DecidableEq α]{v0:Value}(hK:FU P kt κ D)(ht:P.underlying t=some (.map kt et))(hz:∀w:World,(zeroValue et).run P w= .ok z w)(hm:Ce κ es clock l)(hl:∀p∈l,D p.1)(hk:D k)(hv:(Dm k l).getD z=v0)(hx:∀a,ev a env m= .map (some r))(hy:∀a,ev a env x=κ k)(hone:One [(r,.map es clock)] H R):
 OpW P u ⟨d,.mapEntry t m x,ty,pos,af,g⟩ env H (fun v' H1=>∃es' clock' l' j st,v'= .tuple #[v0,I4 ((st:Nat):Int)]/\Ce κ es' clock' l'/\l'[j]?=some (k,v0)/\um es' j st/\(∀p,p∈l'↔p=(k,v0)\/(p∈l/\p.1≠k))/\H1=[(r,.map es' clock')]::R) (fun _ _=>False):=fun a w hsat K Kp hK2 _=>by
 obtain ⟨hb,_⟩:=JG hone hsat (.map es clock)
 suffices hrun:∃es' clock' l' j st,(Instr.mapEntry t (.map (some r)) (κ k)).run P w= .ok (.tuple #[v0,I4 ((st:Nat):Int)]) (setBlock w r (.map es' clock'))/\Ce κ es' clock' l'/\l'[j]?=some (k,v0)/\um es' j st/\∀p,p∈l'↔p=(k,v0)\/(p∈l/\p.1≠k) by
  obtain ⟨es',clock',l',j,st,h1,h2,h3,h4,h5⟩:=hrun;have:(execOp (ev a env) ⟨d,.mapEntry t m x,ty,pos,af,g⟩).run P w= .ok (.value (.tuple #[v0,I4 ((st:Nat):Int)])) (setBlock w r (.map es' clock')):=by
   show((do pure (Next.value (<-Instr.mapEntry t (ev a env m) (ev a env x))):Sem Next)).run P w=_;rw [hx a,hy a,Sem.run_bind,h1];rfl
  rw [this];exact hK2 _ _ _ ⟨es',clock',l',j,st,V,h2,h3,h4,h5,V⟩ (JG hone hsat _).2
 rcases H6 hK hm hl w k hk with⟨h1,h2⟩|⟨j,q,h1,h2⟩
 · rw [D9 h2]at hv
   subst hv;refine ⟨es.push {key:=κ k,val:=z,born:=clock},clock+1,l++[(k,z)],l.length,clock,?_,⟨?_,?_,?_,?_⟩,by simp,⟨{key:=κ k,val:=z,born:=clock},by rw [<-hm.size];simp,rfl⟩,?_⟩
   · simp only [Instr.mapEntry,Sem.run_bind,run_underlying ht,Result.andThen,MapKept.run_getObj_map hb,Ed hK hk,h1,hz,FM hb,Sem.run_pure]
     rfl
   · simp [hm.pairs]
   · simp only [AP5,zK,zx,AE9]
     rw [AA5];refine ⟨hm.born,by simp,?_⟩;intro a ha b hb' hab;simp only [zQ,zI]at ha hb';obtain ⟨e,he,rfl⟩:=ha;have:=hm.old e he
     omega
   · intro e he
     simp only [AP5,zJ,zI]at he;rcases he with he|rfl
     · have:=hm.old e he;omega
     · simp
   · rw [zK,AA5]
     refine ⟨hm.keys,by simp,?_⟩;intro a ha b hb' hab;simp only [zx,AE9,zI]at hb';obtain ⟨p,hp,rfl⟩:=zQ.1 ha;exact h2 p hp (by rw [hab,hb'])
   · intro p
     rw [zJ,zI];constructor
     · rintro (h|rfl)
       · exact .inr ⟨h,h2 p h⟩
       · exact .inl rfl
     · rintro (rfl|⟨h,_⟩)
       · exact .inr rfl
       · exact .inl h
 · obtain ⟨e0,he0,hek,hev⟩:=hm.of h2
   have hq:Dm k l=some q:=Ck hm.keys (zP h2);rw [hq]at hv;subst hv;have he1:es[j]?=some e0:=by simpa using he0
   have hst:(Instr.keyThatStays (((es[j]?).map (·.key)).getD (κ k)) (κ k)).run P w= .ok (κ k) w:=by
    rw [he1];show(Instr.keyThatStays e0.key (κ k)).run P w=_
    rw [hek];exact hK.stays w k hk
   refine ⟨es,clock,l,j,e0.born,?_,hm,h2,⟨e0,he0,V⟩,fun p=>⟨fun h=>?_,fun h=>?_⟩⟩
   · simp only [Instr.mapEntry,Sem.run_bind,run_underlying ht,Result.andThen,MapKept.run_getObj_map hb,Ed hK hk,h1,hst,FM hb,Sem.run_pure]
     rw [nY he1 hek,he1];rfl
   · by_cases hpk:p.1=k
     · refine .inl ?_
       obtain ⟨i,hi⟩:=AA1 h;obtain rfl:=KX hm.keys hi h2 hpk;rw [h2]at hi;exact (AG5 hi).symm
     · exact .inr ⟨h,hpk⟩
   · rcases h with rfl|⟨h,_⟩
     · exact zP h2
     · exact h
theorem kN{es:Array MapEntry}{j st:Nat}(hn:(es.toList.map (·.born)).Nodup)(h:um es j st):es.findIdx? (fun e=>(e.born:Int)==(st:Int))=some j:=by
 obtain ⟨e,he,hb⟩:=h;have hlt:=(zF.1 he).1
 rw [show es.findIdx? (fun e=>(e.born:Int)==(st:Int))=es.toList.findIdx? (fun e=>(e.born:Int)==(st:Int)) from by rw [<-List.findIdx?_toArray,Array.toArray_toList],AC5];refine ⟨hlt,?_,fun i hi=>?_⟩
 · have h9:es.toList[j]=e:=(zF.1 he).2
   rw [h9,hb];simp
 · have hil:i<es.toList.length:=by omega
   intro h9;have h8:(es.toList[i]).born=st:=by have h7:=beq_iff_eq.1 h9;omega
   have h7:(es.toList.map (·.born))[i]?=(es.toList.map (·.born))[j]?:=by
    rw [zY,zY,he,zD hil];show some (es.toList[i]).born=some e.born
    rw [h8,hb]
   have:=(AS5 (by simpa using hil) hn).1 h7;omega
theorem IU{j st:Nat}{v0:Value}(hm:Ce κ es clock l)(hp:l[j]?=some (k,v0))(hb:um es j st)(hx:∀a,ev a env m= .map (some r))(hs:∀a,ev a env x=I4 ((st:Nat):Int))(hy:∀a,ev a env y=v)(hone:One [(r,.map es clock)] H R):
 OpW P u ⟨d,.entryStore t m x y,ty,pos,af,g⟩ env H (fun v' H1=>v'=undef/\∃es' clock' l',Ce κ es' clock' l'/\(∀p,p∈l'↔p=(k,v)\/(p∈l/\p.1≠k))/\H1=[(r,.map es' clock')]::R) (fun _ _=>False):=fun a w hsat K Kp hK2 _=>by
 obtain ⟨hb2,_⟩:=JG hone hsat (.map es clock);obtain ⟨e0,he0,hek,hev⟩:=hm.of hp;have hrun:(Instr.entryStore t (.map (some r)) (I4 ((st:Nat):Int)) v).run P w= .ok () (setBlock w r (.map (es.modify j fun e=>{e with val:=v}) clock)):=by
  simp only [Instr.entryStore,Sem.run_bind,Result.andThen,MapKept.run_getObj_map hb2,asInt,asIntOf,Sem.run_pure,kN hm.born hb,FM hb2]
 have:(execOp (ev a env) ⟨d,.entryStore t m x y,ty,pos,af,g⟩).run P w= .ok .skip (setBlock w r (.map (es.modify j fun e=>{e with val:=v}) clock)):=by
  show((do Instr.entryStore t (ev a env m) (ev a env x) (ev a env y);pure Next.skip):Sem Next).run P w=_;rw [hx a,hs a,hy a,Sem.run_bind,hrun];rfl
 rw [this];refine hK2 _ _ _ ⟨V,_,clock,l.set j (k,v),⟨?_,?_,?_,?_⟩,eu hm.keys hp v,V⟩ (JG hone hsat _).2
 · rw [AK5]
   apply AD5;intro i;have hj:(es.toList.map (fun e=>(e.key,e.val)))[i]?=(l.map (fun p=>(κ p.1,p.2)))[i]?:=by rw [hm.pairs]
   rw [zY,zY]at hj;rw [zY,zY,AK3,AG1];by_cases hij:j=i
   · subst hij
     rw [Am7 rfl,Am7 (zF.1 hp).1,he0];simp [hek]
   · simpa [hij]using hj
 · have:(es.modify j fun e=>{e with val:=v}).toList.map (·.born)=es.toList.map (·.born):=by
    rw [AK5];apply AD5;intro i;simp only [zY,AK3];by_cases hij:j=i
    · subst hij;cases es.toList[j]?<;>simp
    · simp [hij]
   rw [this];exact hm.born
 · intro e he
   rw [AK5]at he;obtain ⟨i,hi⟩:=AA1 he;simp only [AK3]at hi;cases h9:es.toList[i]?with
   |none=>simp [h9]at hi
   |some e1=>
    have:=hm.old e1 (zP h9);by_cases hij:j=i
    · subst hij
      simp only [h9,An4,Option.map_eq_map,AG6,AI2]at hi;subst hi;exact this
    · simp [h9,hij]at hi
      subst hi;exact this
 · rw [Xu hp v];exact hm.keys
end
end Gw
namespace Gw
open Go Go.RowKit
def K4{α:Type}(P:Program)(gf:FuncId)(lb:Array Value)(Hit:Hp)(A:List α->List A8->Prop)(encs:α->Array Value)(Adm Full:List α->Prop):Prop:=
 ∀(l:Nat) (J:List α->List A8->Prop),(∀pre s,J pre s->A pre s)->(∀pre x s,Adm (pre++[x])->J pre s->Ff P l (encs x) [s] (fun v H'=>∃s',v= .bool true/\H'=[s']/\J (pre++[x]) s'))->
  ∀s,J [] s->BR P gf (#[.func (.yield l) #[] #[]]++lb) (Hit++[s]) (fun _ H'=>∃ys s',Full ys/\H'=[s']/\J ys s')
theorem Ep.toC{α:Type}{P:Program}{gf:FuncId}{lb:Array Value}{Hit:Hp}{A:List A8->Prop}{encs:α->Array Value}{xs:List α}(h:Ep P gf lb Hit A encs xs):K4 P gf lb Hit (fun _=>A) encs (fun p=>∃post,xs=p++post) (fun ys=>ys=xs):=fun l J hA hy s h0=>
 (h l J hA (fun pre x post s hx hj=>hy pre x s ⟨post,by rw [hx,zM];rfl⟩ hj) s h0).mono (by
   rintro v H' ⟨s',h1,h2⟩;exact ⟨xs,s',V,h1,h2⟩)
theorem Ia{α:Type}{A:List α->List A8->Prop}{Adm Full:List α->Prop}{P:Program}{cx:Cx}{Q:Exit->Act->World->Prop}{env:Env}{H Hit H0 R:Hp}{g:Operand}{ps:Array Tmp}{assign body:Code}{gf:FuncId}{lb:Array Value}{encs:α->Array Value}
 (I:List α->Hp->Prop)(E:α->Env->Hp->Prop)(hr:cx.r=none)(hg:∀a,ev a env g= .func (.func gf) #[] lb)(hcall:∀(args:Array Value) (w:World),(callFunc gf args).run P w= .ok (.enter gf args) w)
 (hiter:K4 P gf lb Hit A encs Adm Full)(hA:∀pre H1 c d,I pre H1->A pre ([c,d]++H1.flatten))(hps:∀x,(encs x).size=ps.size)(hpf:(ps.toList.all fun t=>Nat.blt t cx.N)=true)(hp:EY (Hit++H0) H R)(h0:I [] H0)
 (hassign:∀(l:Nat) (x:α) (u:World) (H:Hp),At P ⟨cx.N,[],u,some l⟩ assign (Exit.then (fun a w=>∃e Hn,E x e Hn/\Is ⟨cx.N,[],u,some l⟩ (e++env) (Hn++H) a w) (fun _ _ _=>False)) ((ps.toList.zip (encs x).toList).reverse++env) H)
 (hbody:∀(l:Nat) (pre:List α) (x:α) (u:World) (e:Env) (Hn H1 R1:Hp) (r0:Loop),Adm (pre++[x])->I pre H1->E x e Hn->At P ⟨cx.N,[],u,some l⟩ body (I9 u I (pre++[x]) ([(l,.loop r0)]::R1)) (e++env) (H1++(Hn++([(l,.loop r0)]::R1))))
 (hk:∀(D:Nat) (ys:List α) (H2:Hp),Full ys->I ys H2->Nx ⟨cx.N,⟨.collected D,#[]⟩::cx.D,cx.u,none⟩ (Q .normal) env ([(D,.deferred (some []))]::(H2++R))):At P cx (.rangeFunc g ps assign body) Q env H:=
 MG (Hk:=[]) (St:=False) (Enc:=uZ encs) I (fun _ _=>False) (fun x _ _ e Hn=>E x e Hn) hr hg hcall (fun l J Jx hA2 hX hy s h9=>(hiter l J hA2 (fun pre x s ha hj=>Mq (hy pre x s _ [] ha hj ⟨rfl,rfl⟩) fun v H' ⟨s',h1,h2⟩=>h2.elim (fun h=>⟨s',h.1,h1,h.2⟩) fun h=>(hX _ _ h.2).elim) s h9).mono (by rintro v H' ⟨ys,s',h1,h2,h3⟩;exact ⟨s',h2,.inl ⟨ys,h1,h3⟩⟩)) (fun _ _ h=>h) hA (fun x vs sx he=>by rw [he.1];exact hps x) hpf hp h0
  (fun l x vs sx u H he=>by obtain ⟨rfl,rfl⟩:=he;exact hassign l x u H)
  (fun l pre x u vs sx e Hn H1 R1 r0 hx hI he hE=>by
    obtain ⟨rfl,rfl⟩:=he;exact TJ (PI (hbody l pre x u e Hn H1 R1 r0 hx hI hE)) fun f h h1 h2=>by simp only [zL,AA0,zl,h,h1,h2];omega) (fun D ys H2 hf hI=>hk D ys H2 hf hI) fun _ _ _ h=>h.elim
theorem Og{α:Type}{A:List A8->Prop}{P:Program}{cx:Cx}{Q:Exit->Act->World->Prop}{env:Env}{H Hit H0 R:Hp}{g:Operand}{ps:Array Tmp}{assign body:Code}{gf:FuncId}{lb:Array Value}{encs:α->Array Value}{xs:List α}
 (I:List α->Hp->Prop)(E:α->Env->Hp->Prop)(hr:cx.r=none)(hg:∀a,ev a env g= .func (.func gf) #[] lb)(hcall:∀(args:Array Value) (w:World),(callFunc gf args).run P w= .ok (.enter gf args) w)
 (hiter:Ep P gf lb Hit A encs xs)(hA:∀pre H1 c d,I pre H1->A ([c,d]++H1.flatten))(hps:∀x,(encs x).size=ps.size)(hpf:(ps.toList.all fun t=>Nat.blt t cx.N)=true)(hp:EY (Hit++H0) H R)(h0:I [] H0)
 (hassign:∀(l:Nat) (x:α) (u:World) (H:Hp),At P ⟨cx.N,[],u,some l⟩ assign (Exit.then (fun a w=>∃e Hn,E x e Hn/\Is ⟨cx.N,[],u,some l⟩ (e++env) (Hn++H) a w) (fun _ _ _=>False)) ((ps.toList.zip (encs x).toList).reverse++env) H)
 (hbody:∀(l:Nat) (pre:List α) (x:α) (post:List α) (u:World) (e:Env) (Hn H1 R1:Hp) (r0:Loop),xs=pre++x::post->I pre H1->E x e Hn->At P ⟨cx.N,[],u,some l⟩ body (I9 u I (pre++[x]) ([(l,.loop r0)]::R1)) (e++env) (H1++(Hn++([(l,.loop r0)]::R1))))
 (hk:∀(D:Nat) (H2:Hp),I xs H2->Nx ⟨cx.N,⟨.collected D,#[]⟩::cx.D,cx.u,none⟩ (Q .normal) env ([(D,.deferred (some []))]::(H2++R))):At P cx (.rangeFunc g ps assign body) Q env H:=
 Ia I E hr hg hcall hiter.toC hA hps hpf hp h0 hassign (fun l pre x u e Hn H1 R1 r0 ⟨post,h⟩=>hbody l pre x post u e Hn H1 R1 r0 (by rw [h,zM];rfl)) fun D ys H2 h hI=>hk D H2 (h▸hI)
theorem dW{α:Type}{A:List A8->Prop}{P:Program}{cx:Cx}{Q:Exit->Act->World->Prop}{env:Env}{H Hit H0 R:Hp}{g:Operand}{ps:Array Tmp}{assign body:Code}{gf:FuncId}{lb:Array Value}{encs:α->Array Value}{xs:List α}{l0:Nat}{r0:Loop}
 (I:List α->Hp->Prop)(E:α->Env->Hp->Prop)(hr:cx.r=some l0)(hrec0:Has l0 (.loop r0) H)(hg:∀a,ev a env g= .func (.func gf) #[] lb)(hcall:∀(args:Array Value) (w:World),(callFunc gf args).run P w= .ok (.enter gf args) w)
 (hiter:Ep P gf lb Hit A encs xs)(hA:∀pre H1 c,I pre H1->A ([c]++H1.flatten))(hps:∀x,(encs x).size=ps.size)(hpf:(ps.toList.all fun t=>Nat.blt t cx.N)=true)(hp:EY (Hit++H0) H R)(h0:I [] H0)
 (hassign:∀(l:Nat) (x:α) (u:World) (H:Hp),At P ⟨cx.N,[],u,some l⟩ assign (Exit.then (fun a w=>∃e Hn,E x e Hn/\Is ⟨cx.N,[],u,some l⟩ (e++env) (Hn++H) a w) (fun _ _ _=>False)) ((ps.toList.zip (encs x).toList).reverse++env) H)
 (hbody:∀(l:Nat) (pre:List α) (x:α) (post:List α) (u:World) (e:Env) (Hn H1 R1:Hp) (r1:Loop),xs=pre++x::post->I pre H1->E x e Hn->At P ⟨cx.N,[],u,some l⟩ body (I9 u I (pre++[x]) ([(l,.loop r1)]::R1)) (e++env) (H1++(Hn++([(l,.loop r1)]::R1))))
 (hk:∀(H2:Hp),I xs H2->Nx cx (Q .normal) env (H2++R)):At P cx (.rangeFunc g ps assign body) Q env H:=by
 intro a w hs;refine wpIn_rangeFunc ?_;intro fn hfn;have hro:(Fx cx.r).round=some l0:=hr
 have hl0:=hs.sat.get _ hrec0.mem;rw [hro];obtain ⟨rec,hrec⟩:∃rec:LoopState->Option Code->Loop,rec=fun st pe=>{state:=st,pending:=pe,fn,tmps:=(Bz env a).tmps,params:=ps,assign,body,defers:=r0.defers}:=⟨_,rfl⟩;have hsat:Sat cx.u ((Hit++H0)++R) w:=hs.sat.perm hp.perm
 have hsat1:Sat cx.u ([(w.heap.size,.loop (rec .ready none))]::(Hit++H0++R)) (w.alloc (.loop (rec .ready none))):=hsat.alloc (.loop (rec .ready none));have hfitA:Fit a.tmps.size env:=by rw [hs.size];exact hs.fit
 refine ⟨w.heap.size,[],w.alloc (.loop (rec .ready none)),⟨.fn (.func gf) lb,#[.func (.yield (w.heap.size)) #[] #[]]⟩,w.alloc (.loop (rec .ready none)),gf,
  #[.func (.yield (w.heap.size)) #[] #[]]++lb,w.alloc (.loop (rec .ready none)),?_,?_,fun _ _=>trivial,?_,fun h=>by simp [Fx,Fence.wide]at h,?_⟩
 · rw [hrec];exact run_enterLoop_inner hl0 _ _ _ _ _
 · simp only [resolve,F9 a env hfitA,hg a]
   simp [Deferred.ofValue,ev,Act.eval]
 · simp [invoke,hcall]
 · refine WL ?_
   have hJ:=hiter (w.heap.size) (fun pre s=>∃H1,I pre H1/\s=[(w.heap.size,.loop (rec .ready none))]++H1.flatten) (by rintro pre _ ⟨H1,h1,rfl⟩;exact hA pre H1 _ h1) ?_ _ ⟨H0,h0,rfl⟩
   · have hperm:([(w.heap.size,Obj.loop (rec .ready none))]::(Hit++H0++R)).flatten.Perm ((Hit++[[(w.heap.size,Obj.loop (rec .ready none))]++H0.flatten])++R).flatten:=by
      simp only [zL,AA0,AC2,AF3,AD8,zl,zV,zM];exact AF7.symm
     refine Calls.mono (hJ cx.u R _ (hsat1.perm hperm)) fun e w2 he=>?_;rcases he with⟨v,H',rfl,⟨s',rfl,H2,hI2,rfl⟩,hsat2⟩|⟨_,_,_,h,_⟩
     · have hsat3:Sat cx.u ([(w.heap.size,Obj.loop (rec .ready none))]::(H2++R)) w2:=by
        refine hsat2.perm ?_;simp
       have hl:=hsat3.get (w.heap.size,Obj.loop (rec .ready none)) Ap0;have hend:=run_endLoop (P:=P) hl (by rw [hrec];simp)
       have hpd:(rec .ready none).pending=none:=by rw [hrec]
       have hk':=hk H2 hI2 a (w2.putObj w.heap.size (.loop {rec .ready none with state:= .exhausted}))
        ⟨hs.size,hs.defers,hs.fit,(hsat3.turn (o':= .loop {rec .ready none with state:= .exhausted})).sub ⟨[(w.heap.size,.loop {rec .ready none with state:= .exhausted})],by
          simp only [zL];exact AB7⟩⟩
       refine ⟨_,_,hend,?_⟩;have key:∀(p:Option Code) (A:Act) (W:World),p=none->Q .normal A W->(match p with|none=>Q .normal A W|some c=>c.wpIn (Fx cx.r) 0 P Q A W):=fun p A W h1 h2=>by subst h1;exact h2
       refine key _ _ _ hpd ?_;exact hk'
     · exact h.elim
   · rintro pre x post s hxs ⟨H1,hI,rfl⟩ u R1 w1 hw1 K Kp hK
     have hw1':Sat u ([(w.heap.size,Obj.loop (rec .ready none))]::(H1++R1)) w1:=by
      refine hw1.perm ?_;simp
     have hl:=hw1'.get (w.heap.size,Obj.loop (rec .ready none)) Ap0;have hy:=run_yield (P:=P) (args:=encs x) hl (by rw [hrec];exact hps x)
     rw [hy];show RoundIn Fence.wide 0 P (w.heap.size) _ _ _ _ w1 _
     rw [hrec];refine roundIn_of_wpIn (F:=Fence.wide) trivial ?_;have htm:({tmps:=(ps.zip (encs x)).foldl (fun tmps x=>match x with|(t,a)=>tmps.setIfInBounds t a) (Bz env a).tmps,defers:=[]}:Act)=Bz ((ps.toList.zip (encs x).toList).reverse++env) {a with defers:=[]}:=by
      rw [JK,Eu [] env a];have h1:(ps.zip (encs x)).foldl (fun tmps x=>match x with|(t,a)=>tmps.setIfInBounds t a) (Bz env a).tmps=(Bz (ps.toList.zip (encs x).toList).reverse (Bz env a)).tmps:=by
       rw [<-NM,<-AR8,Array.toList_zip]
      rw [h1,Eu [] _ (Bz env a)]
     have hfit2:Fit cx.N ((ps.toList.zip (encs x).toList).reverse++env):=by
      intro q hq;rcases zJ.1 hq with hq|hq
      · have:=AM4.1 hq
        have h2:=AE0.1 hpf q.1 (List.of_mem_zip this).1;simpa using h2
      · exact hs.fit q hq
     have ha:=hassign (w.heap.size) x u ([(w.heap.size,Obj.loop (rec .ready none))]::(H1++R1)) {a with defers:=[]} w1 ⟨hs.size,rfl,hfit2,hw1'⟩;rw [<-htm]at ha;refine wpIn_mono ha fun e a1 w2 he=>?_;cases e<;>first|exact he|skip
     obtain ⟨e9,Hn,hE,a2,hst,rfl⟩:=he;have hst1:Sat u ([(w.heap.size,Obj.loop (rec .ready none))]::(H1++(Hn++R1))) w2:=by
      refine hst.sat.perm ?_;simp only [zL,AA0,AC2];refine AF7.trans (List.Perm.cons _ ?_);rw [<-zM,<-zM];exact AB7.append_right _
     have hl2:=hst1.get (w.heap.size,Obj.loop (rec .ready none)) Ap0;refine ⟨_,run_beginRound hl2 (by rw [hrec]),?_⟩;have hst2:Sat u (H1++(Hn++([(w.heap.size,Obj.loop {rec .ready none with state:= .busy})]::R1))) (w2.putObj (w.heap.size) (.loop {rec .ready none with state:= .busy})):=by
      refine (hst1.turn (o':= .loop {rec .ready none with state:= .busy})).perm ?_;simp only [zL,AA0,AC2];rw [<-zM,<-zM];exact AF7.symm
     have hb:=hbody (w.heap.size) pre x post u e9 Hn H1 R1 _ hxs hI hE a2 _ ⟨hst.size,hst.defers,hst.fit,hst2⟩;refine wpIn_mono hb fun e a3 w3 he3=>?_;cases e<;>first|exact he3.elim|skip
     obtain ⟨H2,hI2,hs3⟩:=he3;have hs3':Sat u ([(w.heap.size,Obj.loop {rec .ready none with state:= .busy})]::(H2++R1)) w3:=by
      refine hs3.perm ?_;simp only [zL,AA0,AC2];exact AF7
     have hl3:=hs3'.get (w.heap.size,Obj.loop {rec .ready none with state:= .busy}) Ap0;have hend:=run_endRound (P:=P) none hl3
     refine ⟨_,_,hend,?_⟩;refine hK _ _ _ ⟨[(w.heap.size,.loop (rec .ready none))]++H2.flatten,V,V,H2,hI2,V⟩ ?_;have hfin:=hs3'.turn (o':= .loop (rec .ready none))
     have hsame:({{rec .ready none with state:=LoopState.busy}with state:=if(none:Option Code).isNone=true then LoopState.ready else .done,pending:=none}:Loop)=rec .ready none:=by rw [hrec];rfl
     rw [hsame];refine hfin.perm ?_;simp
def MI{α:Type}(P:Program)(gf:FuncId)(lb:Array Value)(Hit:Hp)(A:List A8->Prop)(encs:α->Array Value)(xs:List α):Prop:=
 ∀(l:Nat) (J Jx:List α->List A8->Prop),(∀pre s,J pre s->A s)->(∀pre x post s,xs=pre++x::post->J pre s->Ff P l (encs x) [s] (fun v H'=>∃s',H'=[s']/\((v= .bool true/\J (pre++[x]) s')\/(v= .bool false/\Jx (pre++[x]) s'))))->
  ∀s,J [] s->BR P gf (#[.func (.yield l) #[] #[]]++lb) (Hit++[s]) (fun _ H'=>∃s',H'=[s']/\(J xs s'\/∃pre,Jx pre s'))
theorem MI.all{α:Type}{P:Program}{gf:FuncId}{lb:Array Value}{Hit:Hp}{A:List A8->Prop}{encs:α->Array Value}{xs:List α}(h:MI P gf lb Hit A encs xs):Ep P gf lb Hit A encs xs:=fun l J hA hy s h0=>by
 refine (h l J (fun _ _=>False) hA (fun pre x post s hx hj=>?_) s h0).mono ?_
 · intro u R w hs K Kp hK
   refine hy pre x post s hx hj u R w hs K Kp fun v H' w' hq hsat=>hK v H' w' ?_ hsat;obtain ⟨s',h1,h2,h3⟩:=hq;exact ⟨s',h2,.inl ⟨h1,h3⟩⟩
 · rintro v H' ⟨s',h1,h2|⟨_,h2⟩⟩
   · exact ⟨s',h1,h2⟩
   · exact h2.elim
theorem WQ{α:Type}{A:List A8->Prop}{P:Program}{cx:Cx}{Q:Exit->Act->World->Prop}{env:Env}{H Hit H0 R:Hp}{g:Operand}{ps:Array Tmp}{assign body:Code}{gf:FuncId}{lb:Array Value}{encs:α->Array Value}{xs:List α}
 (I Ix:List α->Hp->Prop)(E:α->Env->Hp->Prop)(hr:cx.r=none)(hg:∀a,ev a env g= .func (.func gf) #[] lb)(hcall:∀(args:Array Value) (w:World),(callFunc gf args).run P w= .ok (.enter gf args) w)
 (hiter:MI P gf lb Hit A encs xs)(hA:∀pre H1 c d,I pre H1->A ([c,d]++H1.flatten))(hps:∀x,(encs x).size=ps.size)(hpf:(ps.toList.all fun t=>Nat.blt t cx.N)=true)(hp:EY (Hit++H0) H R)(h0:I [] H0)
 (hassign:∀(l:Nat) (x:α) (u:World) (H:Hp),At P ⟨cx.N,[],u,some l⟩ assign (Exit.then (fun a w=>∃e Hn,E x e Hn/\Is ⟨cx.N,[],u,some l⟩ (e++env) (Hn++H) a w) (fun _ _ _=>False)) ((ps.toList.zip (encs x).toList).reverse++env) H)
 (hbody:∀(l:Nat) (pre:List α) (x:α) (post:List α) (u:World) (e:Env) (Hn H1 R1:Hp) (r0:Loop),xs=pre++x::post->I pre H1->E x e Hn->At P ⟨cx.N,[],u,some l⟩ body (K3 u I Ix (pre++[x]) ([(l,.loop r0)]::R1)) (e++env) (H1++(Hn++([(l,.loop r0)]::R1))))
 (hk:∀(D:Nat) (H2:Hp),I xs H2->Nx ⟨cx.N,⟨.collected D,#[]⟩::cx.D,cx.u,none⟩ (Q .normal) env ([(D,.deferred (some []))]::(H2++R)))
 (hkx:∀(D:Nat) (pre:List α) (H2:Hp),Ix pre H2->Nx ⟨cx.N,⟨.collected D,#[]⟩::cx.D,cx.u,none⟩ (Q .ret) env ([(D,.deferred (some []))]::(H2++R))):At P cx (.rangeFunc g ps assign body) Q env H:=
 MG (Hk:=[]) (A:=fun _=>A) (St:=True) (Adm:=fun p=>∃post,xs=p++post) (Full:=fun ys=>ys=xs) (Enc:=uZ encs) I Ix (fun x _ _ e Hn=>E x e Hn) hr hg hcall (fun l J Jx hA2 _ hy s h9=>(hiter l J Jx hA2 (fun pre x post s hx hj=>Mq (hy pre x s _ [] ⟨post,by rw [hx,zM];rfl⟩ hj ⟨rfl,rfl⟩) fun _ _ h=>h) s h9).mono (by rintro v H' ⟨s',h1,h2⟩;exact ⟨s',h1,h2.imp (fun h=>⟨xs,rfl,h⟩) id⟩)) (fun _ _ _=>trivial) hA (fun x vs sx he=>by rw [he.1];exact hps x) hpf hp h0
  (fun l x vs sx u H he=>by obtain ⟨rfl,rfl⟩:=he;exact hassign l x u H)
  (fun l pre x u vs sx e Hn H1 R1 r0 ⟨post,hx⟩ hI he hE=>by
    obtain ⟨rfl,rfl⟩:=he;exact TJ (hbody l pre x post u e Hn H1 R1 r0 (by rw [hx,zM];rfl) hI hE) fun f h h1 h2=>by simp only [zL,AA0,zl,h,h1,h2];omega) (fun D ys H2 hf hI=>by rw [hf]at hI;exact hk D H2 hI) hkx
theorem TH{P:Program}{cx:Cx}{cd:Code}{Q:Exit->Act->World->Prop}{env:Env}{M s1 s2:List A8}{H R:Hp}(h1:One M H R)(hp:M.Perm (s1++s2))(k:At P cx cd Q env (s1::s2::R)):At P cx cd Q env H:=fun a w hs=>
 k a w ⟨hs.size,hs.defers,hs.fit,hs.sat.perm (by
   have:=h1.perm.trans (AP1 R.flatten hp);simpa only [zL,zM]using this)⟩
def TR{κ:Type} [DecidableEq κ](sz:Nat)(e:TypeId)(lm:List (κ×Value))(n:κ->Nat)(xs:κ->List Value)(M:List A8):Prop:=
 ∃seg:κ->List A8,(∀k,BZ sz e ((Dm k lm).getD (.slice none 0 0)) (n k) (xs k) (seg k))/\M.Perm ((lm.map (·.1)).flatMap seg)
theorem YT{κ:Type} [DecidableEq κ](sz:Nat)(e:TypeId):TR sz e ([]:List (κ×Value)) (fun _=>0) (fun _=>[]) []:=⟨fun _=>[],fun _=>Bf _ _,.refl _⟩
theorem Ph{κ:Type} [DecidableEq κ]{sz:Nat}{e:TypeId}{lm:List (κ×Value)}{n:κ->Nat}{xs:κ->List Value}{M:List A8}(hk:(lm.map (·.1)).Nodup)(h:TR sz e lm n xs M)(k:κ):
 ∃s M',BZ sz e ((Dm k lm).getD (.slice none 0 0)) (n k) (xs k) s/\M.Perm (s++M')/\∀(v':Value) (s':List A8) (n':Nat) (xs':List Value) (lm':List (κ×Value)),(lm'.map (·.1)).Nodup->(∀p,p∈lm'↔p=(k,v')\/(p∈lm/\p.1≠k))->BZ sz e v' n' xs' s'->
  TR sz e lm' (fun x=>if x=k then n' else n x) (fun x=>if x=k then xs' else xs x) (s'++M'):=by
 obtain ⟨seg,hr,hM⟩:=h;refine ⟨seg k,((lm.map (·.1)).filter fun x=>decide (x≠k)).flatMap seg,hr k,hM.trans ?_,?_⟩
 · by_cases hm:k∈lm.map (·.1)
   · have h1:(lm.map (·.1)).Perm (k::(lm.map (·.1)).filter fun x=>decide (x≠k)):=(AC0 hk (AB9.2 ⟨by simp,hk.sublist AF5⟩)).2 fun a=>by
      by_cases ha:a=k
      · subst ha;simp only [za,true_or,iff_true];exact hm
      · simp only [za,AA2,ha,false_or,Am9,ne_eq,not_false_eq_true,An8]
     have h2:=h1.flatMap_right seg;rwa [AB2]at h2
   · have h0:=hr k
     rw [D9 fun p hp he=>hm (zQ.2 ⟨p,hp,he⟩)]at h0;have hs:seg k=[]:=by
      rcases h0 with⟨_,⟨_,_,h⟩|⟨g,cap,cur,z,h,_⟩⟩
      · exact h
      · simp at h
     have hf:((lm.map (·.1)).filter fun x=>decide (x≠k))=lm.map (·.1):=AN8.2 fun a ha=>by
      simp only [Am9];intro h;subst h;exact hm ha
     rw [hs,hf];exact .refl _
 · intro v' s' n' xs' lm' hk' hp hr'
   refine ⟨fun x=>if x=k then s' else seg x,fun x=>?_,?_⟩
   · by_cases hx:x=k
     · subst hx
       simp only [An4];rw [Ck hk' ((hp _).2 (.inl rfl))];exact hr'
     · simp only [Am6 hx]
       have hg:Dm x lm'=Dm x lm:=by
        by_cases hm:∃v,(x,v)∈lm
        · obtain ⟨v,hv⟩:=hm
          rw [Ck hk hv,Ck hk' ((hp _).2 (.inr ⟨hv,hx⟩))]
        · rw [D9 (l:=lm) fun p hp1 he=>hm ⟨p.2,by rw [<-he];exact hp1⟩,D9 (l:=lm') fun p hp1 he=>by
           rcases (hp p).1 hp1 with rfl|⟨h1,_⟩
           · exact hx he.symm
           · exact hm ⟨p.2,by rw [<-he];exact h1⟩]
       rw [hg];exact hr x
   · have h1:(lm'.map (·.1)).Perm (k::(lm.map (·.1)).filter fun x=>decide (x≠k)):=(AC0 hk' (AB9.2 ⟨by simp,hk.sublist AF5⟩)).2 fun a=>by
      simp only [za,AA2,zQ,Am9];constructor
      · rintro ⟨p,hp1,rfl⟩
        rcases (hp p).1 hp1 with rfl|⟨h1,h2⟩
        · exact .inl rfl
        · exact .inr ⟨⟨p,h1,rfl⟩,h2⟩
      · rintro (rfl|⟨⟨p,h1,rfl⟩,h2⟩)
        · exact ⟨_,(hp _).2 (.inl rfl),rfl⟩
        · exact ⟨p,(hp p).2 (.inr ⟨h1,h2⟩),rfl⟩
     have h2:=h1.flatMap_right fun x=>if x=k then s' else seg x
     rw [AB2,Am7 rfl]at h2;refine List.Perm.symm (h2.trans ?_);rw [List.flatMap_def,List.flatMap_def,AG4 (g:=seg) fun a ha=>?_];rw [Am6 (by simpa using(AA2.1 ha).2)]
theorem TR.row{κ:Type} [DecidableEq κ]{sz:Nat}{e:TypeId}{lm:List (κ×Value)}{n:κ->Nat}{xs:κ->List Value}{M:List A8}(h:TR sz e lm n xs M)(k:κ):∃s,BZ sz e ((Dm k lm).getD (.slice none 0 0)) (n k) (xs k) s/\∀c∈s,c∈M:=by
 obtain ⟨seg,hr,hM⟩:=h;refine ⟨seg k,hr k,fun c hc=>hM.mem_iff.2 ?_⟩;by_cases hm:k∈lm.map (·.1)
 · exact AF8.2 ⟨k,hm,hc⟩
 · have h0:=hr k
   rw [D9 fun p hp he=>hm (zQ.2 ⟨p,hp,he⟩)]at h0;rcases h0 with⟨_,⟨_,_,h⟩|⟨g,cap,cur,z,h,_⟩⟩
   · rw [h]at hc;cases hc
   · simp at h
def Kb(D:Nat):A8:=(D,.deferred (some []))
def rA(N:Nat)(u:World)(I:Nat->Env->Hp->Prop)(B:Env)(R:Hp)(n:Nat)(a:Act)(w:World):Prop:=∃m e H Ds a0,m<n/\I m e H/\St ⟨N,JP Ds,u,none⟩ (e++B) (Ds.map Kb::(H++R)) a0 w/\a=Bz (e++B) a0
theorem qO{P:Program}{N:Nat}{u:World}{Q:Exit->Act->World->Prop}{c:Code}{e0 B:Env}{H H0 R:Hp}(I:Nat->Env->Hp->Prop){n:Nat}(h0:I n e0 H0)(hp:EY H0 H R)(round:∀(Ds:List Nat) n e H,I n e H->At P ⟨N,JP Ds,u,none⟩ c (Exit.then (rA N u I B R n) Q) (e++B) (Ds.map Kb::(H++R))):At P ⟨N,[],u,none⟩ (.loop c) Q (e0++B) H:=by
 intro a w hs b k cs hro hb hr;have key:∀n Ds e H a w,I n e H->St ⟨N,JP Ds,u,none⟩ (e++B) (Ds.map Kb::(H++R)) a w->
  ∃x a' w',Q x a' w'/\ArrivesIn (Machine.fenced P (Fx none)) P (lone (b.atR (Bz (e++B) a) (.code c:: .inLoop c::k)) cs w) b k cs x a' w':=by
  intro n;induction n using Nat.strongRecOn with
  |_ n ih=>
   intro Ds e H a w hI hs;obtain ⟨x,a₁,w₁,hq,harr⟩:=round Ds n e H hI a w hs b (.inLoop c::k) cs hro hb hr;cases x with
   |normal=>
    obtain ⟨m,e',H',Ds',a0,hlt,hI',hs',rfl⟩:=hq;obtain ⟨e₂,a₂,w₂,hq₂,harr₂⟩:=ih m hlt Ds' e' H' a0 w₁ hI' hs';exact ⟨e₂,a₂,w₂,hq₂,.of_steps (StepsIn.trans harr (.one (fenced_calm hb hr V) stepR_inLoop)) harr₂⟩
   |exit id=>exact ⟨_,a₁,w₁,hq,.pass (x:= .inLoop c) rfl (fun _ _=> .inl Ap0) harr⟩
   |goto l=>exact ⟨_,a₁,w₁,hq,.pass (x:= .inLoop c) rfl (fun _ _=> .inl Ap0) harr⟩
   |ret=>exact ⟨_,a₁,w₁,hq,.pass (x:= .inLoop c) rfl (fun _ _=> .inl Ap0) harr⟩
   |panic ch=>exact ⟨_,a₁,w₁,hq,.pass (x:= .inLoop c) rfl (fun _ _=> .inl Ap0) harr⟩
   |outgrown=>exact ⟨_,a₁,w₁,hq,.pass (x:= .inLoop c) rfl (fun _ _=> .inl Ap0) harr⟩
 obtain ⟨x,a',w',hq,harr⟩:=key n [] e0 H0 a w h0 ⟨hs.size,hs.defers,hs.fit,hs.sat.perm (by simpa using hp.perm)⟩;exact ⟨x,a',w',hq,.of_steps (.one (fenced_calm hb hr V) stepR_loop) harr⟩
theorem bD{N:Nat}{u:World}{Q:Exit->Act->World->Prop}{I:Nat->Env->Hp->Prop}{B e':Env}{R H H1 H2 H':Hp}{n m D:Nat}{Ds:List Nat}(h:I m e' H')(h1:One [(D,.deferred (some []))] H H1)(h2:One (Ds.map Kb) H1 H2)(hm:m<n:=by omega)(hp:Sub (H'++R) H2:=by repeat(first|exact Sub.refl _|exact Sub.nil _|(apply Sub.cons;(focus (repeat(first|exact One.here _ _|apply One.there))))|refine Sub.drop _ ?_)):
 Nx ⟨N,⟨.collected D,#[]⟩::JP Ds,u,none⟩ ((Exit.then (rA N u I B R n) Q) .normal) (e'++B) H:=fun a w hs=>by
 have hsat:Sat u (((D::Ds).map Kb)::H2) w:=hs.sat.perm (by
  refine h1.perm.trans ?_;have:=h2.perm
  simp only [zL,zx,AF3,AC2]at this⊢;exact this.cons _)
 refine ⟨m,e',H',D::Ds,a,hm,h,⟨hs.size,hs.defers,hs.fit,hsat.sub ?_⟩,V⟩;obtain ⟨Z,hZ⟩:=hp.amid;exact ⟨Z,by simp only [zL,zM];exact AD2 _ hZ⟩
theorem nT{P:Program}{N:Nat}{u:World}{fn:Func}{R H H0 H':Hp}{Q:Value->Hp->Prop}{Pn:List PanicEntry->Hp->Prop}{env:Env}{e:Exit}{Ds:List Nat}{v:Value}(he:FE e=true)(hr:Res P fn env v)(hd:One (Ds.map Kb) H H0)(hq:Q v H')(hp:Sub (H'++R) H0:=by repeat(first|exact Sub.refl _|exact Sub.nil _|(apply Sub.cons;(focus (repeat(first|exact One.here _ _|apply One.there))))|refine Sub.drop _ ?_)):
 Nx ⟨N,JP Ds,u,none⟩ (bodyPostM Fence.wide 0 P fn (Fw u R Q Pn) e) env H:=fun a w hs=>by
 have h1:(Bz env a).defers=JP Ds:=by rw [FO];exact hs.defers
 have hsat:Sat u (Ds.map Kb::(H'++R)) w:=by
  refine (hs.sat.perm (by simpa using hd.perm):Sat u (Ds.map Kb::H0) w).sub ?_;obtain ⟨Z,hZ⟩:=hp.amid;exact ⟨Z,by simp only [zL,zM];exact AD2 _ hZ⟩
 have hfin:∀(Ds:List Nat) (w:World),Sat u (Ds.map Kb::(H'++R)) w->LeavesInM Fence.wide 0 P fn (Bz env a).tmps (Fw u R Q Pn) (JP Ds) .returning w:=by
  intro Ds;induction Ds with
  |nil=>intro w hw;exact ⟨v,hr a w (by rw [hs.size];exact hs.fit),.inl ⟨v,H',rfl,hq,hw.perm Ap0⟩⟩
  |cons D Ds ih=>
   intro w hw;have hw1:Sat u ([(D,.deferred (some []))]::(Ds.map Kb::(H'++R))) w:=by
    refine hw.perm ?_;simp [Kb]
   have hget:=hw1.get (D,.deferred (some [])) Ap0;have hw2:Sat u (Ds.map Kb::(H'++R)) (w.putObj D (.deferred none)):=(hw1.turn (o':= .deferred none)).sub ⟨[(D,.deferred none)],by simp only [zL];exact AB7⟩
   refine ⟨by simp [JP],.inl ⟨D,_,V,XD hget,?_⟩⟩;exact ih _ hw2
 have hf2:=hfin Ds w hsat;rw [<-h1]at hf2;cases e<;>first|exact hf2|simp [FE]at he
section
variable{P:Program}{u:World}{env:Env}{H:Hp}{d:Option Nat}{ty:TypeId}{pos:String}{af:Array Edge}{g:Option (Nat×Bool)}
theorem Ni{t e l c by_ sz:Nat}{x y:Operand}{z:Value}{i:TypeInfo}{k k':IntKind}(hu:P.underlying t=some (.slice e))(hi:P.info? e=some i)(hs:i.size=sz)(hby:i.bytes=by_)(hzi:i.zero=some z)
 (hx:∀a,ev a env x= .int k (l:Int))(hy:∀a,ev a env y= .int k' (c:Int))(hlc:l<=c)(hc:c<=9223372036854775807)(hb:by_*c<=281474976710656):
 OpW P u ⟨d,.makeSlice t x y,ty,pos,af,g⟩ env H (fun v' H1=>∃b cur,v'=I6 b l c/\cur.size=c*sz/\H1=[(b,.cells cur e (0,0))]::H) (fun _ _=>False):=fun a w hsat K Kp hK _=>by
 have w1:IntKind.i64.wrap (l:Int)=(l:Int):=Du _ (by omega);have w2:IntKind.i64.wrap (c:Int)=(c:Int):=Du _ hc
 have hbc:¬((281474976710656:Int)<(by_:Int)*(c:Int)):=by
  rw [<-AR0];omega
 have h3:¬((c:Int)<0):=by omega
 have h4:¬((l:Int)<0):=by omega
 have h5:¬((c:Int)<(l:Int)):=by omega
 have hms:∃cur:Array Value,cur.size=c*sz/\(Instr.makeSlice t (ev a env x) (ev a env y)).run P w= .ok (.slice (some ⟨w.heap.size,0,none⟩) l c) {w with heap:=w.heap.push (.cells cur e)}:=by
  refine ⟨(Array.range (c*sz)).map ((if c*sz=0 then(#[]:Array Value)else z.cells)[·%(if c*sz=0 then(#[]:Array Value)else z.cells).size]!),by simp,?_⟩;rw [hx a,hy a];unfold Instr.makeSlice;simp only [Sem.run_bind,run_underlying hu,Result.andThen_ok,asInt,asIntOf,Sem.run_pure,typeInfo,run_program,hi,hby,w1,w2];simp only [h3,h4,h5,hbc,gt_iff_lt,Nat.reducePow,An5,AO1,AD4,An2,Int.reducePow,Int.cast_ofNat_Int];simp only [Sem.run_bind,run_askRoom,Result.andThen_ok,Go.sizeOf,typeInfo,run_program,hi,Sem.run_pure,hs,AH7];by_cases h0:c*sz=0
  · simp [h0,newRow]
  · have hzv:(zeroValue e).run P w= .ok z w:=by simp [zeroValue,typeInfo,hi,hzi]
    simp only [h0,An2,Sem.run_bind,hzv,Result.andThen_ok,Sem.run_pure,newRow,run_newObj]
 obtain ⟨cur,hcur,hms⟩:=hms;have:(execOp (ev a env) ⟨d,.makeSlice t x y,ty,pos,af,g⟩).run P w= .ok (.value (.slice (some ⟨w.heap.size,0,none⟩) l c)) {w with heap:=w.heap.push (.cells cur e)}:=by
  rw [Pp,Sem.run_bind,hms];rfl
 rw [this];exact hK _ _ _ ⟨_,cur,V,hcur,V⟩ (hsat.alloc _)
theorem UI{sz:Nat}{e:TypeId}{g c:Nat}{cur:Array Value}(h:c<=maxLen)(hs:cur.size=c*sz):BZ sz e (I6 g 0 c) 0 [] [(g,.cells cur e (0,0))]:=
 ⟨by simp,.inr ⟨g,c,cur,(0,0),rfl,rfl,zT _,h,hs,by simp,BF _⟩⟩
end
end Gw
