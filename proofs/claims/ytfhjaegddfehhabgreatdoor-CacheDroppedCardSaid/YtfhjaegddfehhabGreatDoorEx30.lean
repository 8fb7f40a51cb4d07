/- Walking by chunks: a row of elements of several cells behind a sort with a function. No function of the program is named. -/
import Derived.Test.YtfhjaegddfehhabGreatDoorLin2
import Derived.Shelf.GgSortFunc.InsertionK
import Derived.Lib.AppendZerosOnto
import Derived.Lib.Overlaps
import Derived.RecoverIn
import Derived.RangeFuncNested
set_option linter.unusedVariables false
set_option linter.unusedSimpArgs false
namespace Gw
open Go Go.RowKit Go.Sort
theorem az{α:Type}(f:α->List A3)(k:Nat)(B:∀x,(f x).length=k):∀(l:List α) (i r:Nat) (a:α),l[i]?=some a->r<k->(l.flatMap f)[i*k+r]?=(f a)[r]?
 |[],i,r,a,h,_=>by simp at h
 |x::l,0,r,a,h,hr=>by
  simp only [ao,WD]at h;subst h;rw [HW,eL,DM,cP (by rw [B];exact hr)]
 |x::l,i+1,r,a,h,hr=>by
  simp only [cQ]at h;rw [HW,T0 (by rw [B,LO];omega),B,show(i+1)*k+r -k=i*k+r by rw [LO];omega];exact az f k B l i r a h hr
theorem ay{α:Type}(f:α->List A3)(k:Nat)(B:∀x,(f x).length=k):∀(l:List α),(l.flatMap f).length=l.length*k
 |[]=>by simp
 |x::l=>by rw [HW,BW,ay f k B l,B,Dd,LO];omega
theorem O8{α:Type} [Inhabited α](f:α->List A3)(k:Nat)(B:∀x,(f x).length=k)(l:List α):(flatK f k l.toArray).toList=l.flatMap f:=by
 apply Mu;intro t;by_cases G:t<l.length*k
 · have O:0<k:=by
    rcases RC k with h|h
    · subst h;simp at G
    · exact h
   have I:t/k<l.length:=pA (by rwa [nm]at G);have h2:t%k<k:=bm _ O
   have e:=az f k B l (t/k) (t%k) l[t/k] (B7 I) h2;rw [Nat.div_add_mod' t k]at e;rw [e];have J:t%k<(f l[t/k]).length:=by rw [B];exact h2
   unfold flatK;rw [HR];simp [G,I,J]
 · rw [MY I2,MY (by rw [ay f k B];omega)]
theorem U3{α:Type} [Inhabited α]{w:AD}{g:Nat}{cur:AH}{e:AK}{z:Nat×Nat}(f:α->List A3)(k:Nat)(U:∀x,(f x).length=k)(l:List α)(O:w.heap[g]?=some (.cells cur e z))(W:l.length*k<=cur.size)(B:Ik z cur.size)(X:cur.toList.take (l.length*k)=l.flatMap f):HoldsK f k w g 0 l.toArray:=by
 intro j G;have I:j<l.length*k:=by simpa using G
 have Z:=B j A1;have h0:=O8 f k U l
 have J:(cur.toList.take (l.length*k))[j]?=(flatK f k l.toArray).toList[j]?:=by rw [X,h0]
 rw [lx I,HR,HR]at J;refine ⟨?_,?_⟩
 · simp only [World.cell?,O,DM]
   simp only [pH,Mn,HO];rw [J,HQ G,getElem!_pos _ j G];rfl
 · simp only [World.frozen?,O,DM]
   simp;omega
theorem Vf(cur F:AH)(h:F.size<=cur.size):(putCells id 0 F cur).toList.take F.size=F.toList:=by
 apply Mu;intro j;rw [HJ];by_cases B:j<F.size
 · rw [Ax B,HR]
   unfold putCells;rw [ov,HQ A1];simp [B]
 · rw [An B,MY I2]
theorem Mm(cur F:AH):(putCells id 0 F cur).size=cur.size:=by simp [putCells]
theorem Sat.sortedK{α:Type} [Inhabited α]{u w:AD}{g n k:Nat}{cur:AH}{e:AK}{z:Nat×Nat}{R:Hp}(f:α->List A3)(d:Array α)(os:Array Obj)(h:Sat u ([(g,.cells cur e z)]::R) w):Sat u ([(g,.cells (putCells id 0 (flatK f k d) cur) e z)]::R) (Go.Proofs.sortWorldK f k w g 0 n d os):=by
 have I:=h.get (g,.cells cur e z) B4;have G:Sat u ([(g,.cells (putCells id 0 (flatK f k d) cur) e z)]::R) (putRowK f k (Sort.ahead w n) g 0 d):=by
  refine h.upd (.here _) V rfl V ?_ fun k B=>?_;· simp [putRowK,putRow,mapBlock,Sort.ahead,T7,I,onCells]
  · have:g≠k:=fun e=>B e.symm
    simp [putRowK,putRow,mapBlock,Sort.ahead,T7,this]
 exact G.below ⟨V,V,V,by simp [Go.Proofs.sortWorldK,grow],fun k B=>heap_grow_old _ _ B⟩
theorem Q7{α:Type} [Inhabited α](f:α->List A3)(k:Nat)(w:AD)(g n b:Nat)(d:Array α)(os:Array Obj)(B:g≠b)(I:b<w.heap.size):(Go.Proofs.sortWorldK f k w g 0 n d os).heap[b]?=w.heap[b]?:=by
 have G:(putRowK f k (Sort.ahead w n) g 0 d).heap[b]?=w.heap[b]?:=by
  simp [putRowK,putRow,mapBlock,Sort.ahead,T7,B]
 unfold Go.Proofs.sortWorldK;rw [<-G];refine heap_grow_old _ _ ?_;simpa [putRowK,putRow,mapBlock,Sort.ahead]using I
end Gw
namespace Gw
open Go Go.RowKit
section
variable{P:Program}{u:AD}{env:Env}{H R:Hp}{d:Option Nat}{ty:AK}{pos:String}{af:Array Edge}{g:Option (Nat×Bool)}
def UY(t1 t2 k1 k2:Int)(x y:V3):Prop:=t1=t2/\k1=k2/\x=y
instance(t1 t2 k1 k2:Int)(x y:V3):Decidable (UY t1 t2 k1 k2 x y):=inferInstanceAs(Decidable (_/\_/\_))
theorem ud{t e ta:AK}{f0 f1 f2:Field}(w:AD)(n:Nat)(t1 t2 k1 k2:Int)(x y:V3)(hu:P.underlying t=some (.struct #[f0,f1,f2]))(hst:P.stoodInHeld t=false)
 (h0:f0.name≠ "_"∧f0.type=e∧f0.offset=0)(h1:f1.name≠ "_"∧f1.type=e∧f1.offset=1)(h2:f2.name≠ "_"∧f2.type=ta∧f2.offset=2)
 (he:P.underlying e=some (.int .i64))(hta:P.underlying ta=some (.array 3 e))(ha:∀w:AD,(isAgg e).run P w= .ok false w)(hs:∀w:AD,(Go.sizeOf e).run P w= .ok 1 w)
 (haa:∀w:AD,(isAgg ta).run P w= .ok true w)(hsa:∀w:AD,(Go.sizeOf ta).run P w= .ok 3 w):
 (Op.equalIn (n+3) t (.agg #[I4 t1,I4 k1,I4 x.a,I4 x.b,I4 x.c]) (.agg #[I4 t2,I4 k2,I4 y.a,I4 y.b,I4 y.c])).run P w= .ok (decide (UY t1 t2 k1 k2 x y)) w:=by
 obtain ⟨n0,e0,o0⟩:=h0;obtain ⟨n1,e1,o1⟩:=h1;obtain ⟨n2,e2,o2⟩:=h2;have ei:∀(m k:Int) (w:AD),(Op.equalIn (n+2) e (I4 m) (I4 k)).run P w= .ok (decide (m=k)) w:=fun m k w=>Pf (n+1) w he m k
 have ea:∀(w:AD),(Op.equalIn (n+2) ta (.agg #[I4 x.a,I4 x.b,I4 x.c]) (.agg #[I4 y.a,I4 y.b,I4 y.c])).run P w= .ok (decide (x=y)) w:=fun w=>Rp w n x y hta he ha hs;have p0:∀(v0 v1 v2 v3 v4:A3) (w:AD),(part e #[v0,v1,v2,v3,v4] 0).run P w= .ok v0 w:=fun _ _ _ _ _ w=>F4 w (ha w) _ _ rfl
 have p1:∀(v0 v1 v2 v3 v4:A3) (w:AD),(part e #[v0,v1,v2,v3,v4] 1).run P w= .ok v1 w:=fun _ _ _ _ _ w=>F4 w (ha w) _ _ rfl;have p2:∀(v0 v1 v2 v3 v4:A3) (w:AD),(part ta #[v0,v1,v2,v3,v4] 2).run P w= .ok (.agg #[v2,v3,v4]) w:=fun _ _ _ _ _ w=>by simp [part,haa,hsa]
 rw [show n+3=(n+2)+1 from rfl,Op.equalIn];generalize n+2=m at*;simp only [Sem.run_bind,run_underlying hu,Result.andThen_ok,run_program,hst,Mn,HO];rw [<-pP];simp only [kA,nd,n0,n1,n2,e0,e1,e2,o0,o1,o2,ne_eq,ie,Hj];simp only [Sem.run_bind,p0,p1,p2,ei,ea,Result.andThen_ok];have hd:decide (UY t1 t2 k1 k2 x y)=(decide (t1=t2)&&(decide (k1=k2)&&decide (x=y))):=by
  by_cases h:UY t1 t2 k1 k2 x y
  · rw [DE h,DE h.1,DE h.2.1,DE h.2.2];rfl
  · rw [Cd h]
    by_cases c1:t1=t2<;>by_cases c2:k1=k2<;>by_cases c3:x=y<;>simp [c1,c2,c3]
    exact h ⟨c1,c2,c3⟩
 rw [hd];generalize decide (x=y)=b3 at*;by_cases c1:t1=t2<;>by_cases c2:k1=k2<;>cases b3<;>simp [c1,c2,p0,p1,p2,ei,ea,n1,n2]
section
variable{t yt e ta:AK}{f0 f1 f2:Field}{x y:Operand}{t1 t2 k1 k2:Int}{p q:V3}
theorem Vu(hg:P.eqGuardType P.depth t=false)(hu:P.underlying t=some (.struct #[f0,f1,f2]))(hst:P.stoodInHeld t=false)
 (h0:f0.name≠ "_"∧f0.type=e∧f0.offset=0)(h1:f1.name≠ "_"∧f1.type=e∧f1.offset=1)(h2:f2.name≠ "_"∧f2.type=ta∧f2.offset=2)
 (he:P.underlying e=some (.int .i64))(hta:P.underlying ta=some (.array 3 e))(ha:∀w:AD,(isAgg e).run P w= .ok false w)(hs:∀w:AD,(Go.sizeOf e).run P w= .ok 1 w)
 (haa:∀w:AD,(isAgg ta).run P w= .ok true w)(hsa:∀w:AD,(Go.sizeOf ta).run P w= .ok 3 w)
 (hx:∀a,ev a env x= .agg #[I4 t1,I4 k1,I4 p.a,I4 p.b,I4 p.c])(hy:∀a,ev a env y= .agg #[I4 t2,I4 k2,I4 q.a,I4 q.b,I4 q.c]):OpP P ⟨d,.binOp .neq t x y yt,ty,pos,af,g⟩ env [] (.bool (decide (¬UY t1 t2 k1 k2 p q))):=fun a w _=>by
 simp [Cc,hx a,hy a,go_sem,run_eqGuard_agg w _ t _ _ _ _ hg,Mc,Op.equal,Op.maxDepth,ud w 9997 t1 t2 k1 k2 p q hu hst h0 h1 h2 he hta ha hs haa hsa]
end
theorem ym{t e:AK}(w:AD)(n:Nat)(x0 x1 x2 x3 x4 x5 y0 y1 y2 y3 y4 y5:Int)(hu:P.underlying t=some (.array 6 e))(he:P.underlying e=some (.int .i64))(ha:∀w:AD,(isAgg e).run P w= .ok false w)(hs:∀w:AD,(Go.sizeOf e).run P w= .ok 1 w):
 (Op.equalIn (n+2) t (.agg #[I4 x0,I4 x1,I4 x2,I4 x3,I4 x4,I4 x5]) (.agg #[I4 y0,I4 y1,I4 y2,I4 y3,I4 y4,I4 y5])).run P w= .ok (decide (x0=y0/\x1=y1/\x2=y2/\x3=y3/\x4=y4/\x5=y5)) w:=by
 have B:∀(m k:Int) (w:AD),(Op.equalIn (n+1) e (I4 m) (I4 k)).run P w= .ok (decide (m=k)) w:=fun m k w=>Pf n w he m k;have X:∀(vs:AH) (j:Nat) (v:A3) (w:AD),vs[j]?=some v->(part e vs j).run P w= .ok v w:=fun vs j v w h=>F4 w (ha w) _ _ h
 have G:∀(v0 v1 v2 v3 v4 v5:A3) (w:AD),(part e #[v0,v1,v2,v3,v4,v5] 0).run P w= .ok v0 w:=fun _ _ _ _ _ _ w=>X _ _ _ w rfl;have I:∀(v0 v1 v2 v3 v4 v5:A3) (w:AD),(part e #[v0,v1,v2,v3,v4,v5] 1).run P w= .ok v1 w:=fun _ _ _ _ _ _ w=>X _ _ _ w rfl
 have J:∀(v0 v1 v2 v3 v4 v5:A3) (w:AD),(part e #[v0,v1,v2,v3,v4,v5] 2).run P w= .ok v2 w:=fun _ _ _ _ _ _ w=>X _ _ _ w rfl;have O:∀(v0 v1 v2 v3 v4 v5:A3) (w:AD),(part e #[v0,v1,v2,v3,v4,v5] 3).run P w= .ok v3 w:=fun _ _ _ _ _ _ w=>X _ _ _ w rfl
 have U:∀(v0 v1 v2 v3 v4 v5:A3) (w:AD),(part e #[v0,v1,v2,v3,v4,v5] 4).run P w= .ok v4 w:=fun _ _ _ _ _ _ w=>X _ _ _ w rfl;have W:∀(v0 v1 v2 v3 v4 v5:A3) (w:AD),(part e #[v0,v1,v2,v3,v4,v5] 5).run P w= .ok v5 w:=fun _ _ _ _ _ _ w=>X _ _ _ w rfl
 rw [show n+2=(n+1)+1 from rfl,Op.equalIn];generalize n+1=m at*;simp only [Sem.run_bind,run_underlying hu,Result.andThen_ok,hs];simp only [rn,Std.Legacy.Range.size,SU,R0,Nat.div_one,my,List.range'_zero,kA,nd];simp only [Sem.run_bind,G,I,J,O,U,W,B,Result.andThen_ok,DM,Mz,nq,eL];by_cases h0:x0=y0
 · by_cases Z:x1=y1
   · by_cases h2:x2=y2
     · by_cases h3:x3=y3
       · by_cases h4:x4=y4
         · by_cases h5:x5=y5<;>simp [h0,Z,h2,h3,h4,h5,G,I,J,O,U,W,B]
         · simp [h0,Z,h2,h3,h4,G,I,J,O,U,W,B]
       · simp [h0,Z,h2,h3,G,I,J,O,U,W,B]
     · simp [h0,Z,h2,G,I,J,O,U,W,B]
   · simp [h0,Z,G,I,J,O,U,W,B]
 · simp [h0,G,I,J,O,U,W,B]
theorem fu{t yt e:AK}{x y:Operand}{B G I J O U y0 W X Z y4 y5:Int}(hg:P.eqGuardType P.depth t=false)(hu:P.underlying t=some (.array 6 e))(he:P.underlying e=some (.int .i64))(ha:∀w:AD,(isAgg e).run P w= .ok false w)(hs:∀w:AD,(Go.sizeOf e).run P w= .ok 1 w)
 (hx:∀a,ev a env x= .agg #[I4 B,I4 G,I4 I,I4 J,I4 O,I4 U])(hy:∀a,ev a env y= .agg #[I4 y0,I4 W,I4 X,I4 Z,I4 y4,I4 y5]):OpP P ⟨d,.binOp .eql t x y yt,ty,pos,af,g⟩ env [] (.bool (decide (B=y0/\G=W/\I=X/\J=Z/\O=y4/\U=y5))):=fun a w _=>by
 simp [Cc,hx a,hy a,go_sem,run_eqGuard_agg w _ t _ _ _ _ hg,Js,Op.equal,Op.maxDepth,ym w 9998 B G I J O U y0 W X Z y4 y5 hu he ha hs]
end
theorem H6{P:Program}{f:FuncId}{args:AH}{H H1:Hp}{Q I:A3->Hp->Prop}(h:BZ P f args H Q)(W:H1.flatten=H.flatten)(X:∀v H',Q v H'->∃B,I v B/\B.flatten.Perm H'.flatten):BZ P f args H1 I:=fun u R w Z=>
 Calls.mono (h u R w (Z.sub ⟨[],by simp [W]⟩)) fun e w' U=>by
  rcases U with⟨v,H',rfl,G,h2⟩|⟨ch,H',rfl,G,h2⟩
  · obtain ⟨B,J,O⟩:=X v H' G
    refine .inl ⟨v,B,V,J,h2.perm ?_⟩;rw [HC,HC];exact O.symm.append_right _
  · exact G.elim
section
variable{P:Program}{ops:Array Oper}{A:List Nat}{F:Nat}{cx:Cx}{Q:Exit->Act->AD->Prop}{n D:Nat}{T:List (Nat×A9)}{env:Env}{H:Hp}
theorem Ce{d:Nat}{I:Op}{ty:AK}{pos:String}{af:Array Edge}{v:A3}{b:Nat}{x:Obj}{D':Nat}(i:Nat)(U:ops[i]?=some ⟨some d,I,ty,pos,af,none⟩)(B:(!bit F i&&!bit D i&&Ey (A.getD i 0) D)=true)(J:D|||(1<<<i)=D')(O:(b,x)∈H.flatten)(G:OpP P ⟨some d,I,ty,pos,af,none⟩ env [(b,x)] v)
 (k:Lin P ops A F cx Q n D' ((i,(b,x))::T) ((d,v)::env) H):Lin P ops A F cx Q (n+1) D T env H:=by
 simp only [Ft,TX]at B;subst J;exact .inl ⟨i,_,v,[(b,x)],U,B.1.2,B.2,by simpa using O,.inl ⟨fun _=>rfl,G⟩,k⟩
theorem Xc{d:Nat}{I:Op}{ty:AK}{pos:String}{af:Array Edge}{g:Nat×Bool}{v:A3}{b:Nat}{x:Obj}{D':Nat}(i:Nat)(U:∀a,wantedE ops a env (some g)=true)(W:ops[i]?=some ⟨some d,I,ty,pos,af,some g⟩)(B:(!bit F i&&!bit D i&&Ey (A.getD i 0) D)=true)(J:D|||(1<<<i)=D')(O:(b,x)∈H.flatten)(G:OpP P ⟨some d,I,ty,pos,af,some g⟩ env [(b,x)] v)
 (k:Lin P ops A F cx Q n D' ((i,(b,x))::T) ((d,v)::env) H):Lin P ops A F cx Q (n+1) D T env H:=by
 simp only [Ft,TX]at B;subst J;exact .inl ⟨i,_,v,[(b,x)],W,B.1.2,B.2,by simpa using O,.inl ⟨U,G⟩,k⟩
theorem FL{i b:Nat}{x:Obj}(h:(b,x)∈H.flatten)(G:∀p∈T,p.2∈H.flatten):∀p∈((i,(b,x))::T),p.2∈H.flatten:=by
 intro p B;rcases DB.1 B with rfl|B
 · exact h
 · exact G p B
end
theorem MG{cx:Cx}{E:Env->Hp->Prop}{env e:Env}{H Hn:Hp}{Q:Exit->Act->AD->Prop}(B:E e Hn):Nx cx ((Exit.then (fun a w=>∃e Hn,E e Hn/\Is cx (e++env) (Hn++H) a w) Q) .normal) (e++env) (Hn++H):=fun a _ G=>⟨e,Hn,B,a,G,rfl⟩
section
variable{F:Fence}{n:Nat}{P:Program}{Q:Exit->Act->AD->Prop}{a:Act}{w:AD}{b:Frame}{k:List Item}{cs:List Frame}
theorem Gm{c:Code}:step P (lone (b.atR a (.code (.scope c)::k)) cs w)= .next (lone (b.atR a (.code c:: .inScope c::k)) cs w):=
 step_lone_go (by simp [stepG,stepG.exec,Frame.atR])
theorem Uf{c:Code}:step P (lone (b.atR a (.inScope c::k)) cs w)= .next (lone (b.atR a k) cs w):=
 step_lone_go (by simp [stepG,stepG.exec,Frame.atR])
theorem dM{c:Code}(h:c.wpIn F n P (Exit.noGoto Q) a w):(Code.scope c).wpIn F n P Q a w:=by
 intro b k cs Z O W;have h0:(lone (b.atR a (.code (.scope c)::k)) cs w).fenced P F:=fenced_calm O W rfl
 obtain ⟨e,I,J,G,B⟩:=h b (.inScope c::k) cs Z O W;cases e with
 |normal=>exact ⟨.normal,I,J,G,.head h0 Gm (StepsIn.trans B (.one (fenced_calm O W rfl) Uf))⟩
 |exit id'=>
  have hx:exitTo id' (.inScope c::k)=exitTo id' k:=by simp [exitTo]
  exact ⟨.exit id',I,J,G,fun k' U=> .head h0 Gm (B.1 k' (by rw [hx];exact U)),
   fun X U=>let⟨k₁,h1,h2⟩:=B.2 X (by rw [hx];exact U);⟨k₁,h1,.head h0 Gm h2⟩⟩
 |goto l=>exact G.elim
 |ret=>exact ⟨_,I,J,G,.of_steps (.one h0 Gm) B⟩
 |panic ch=>exact ⟨_,I,J,G,.of_steps (.one h0 Gm) B⟩
 |outgrown=>exact ⟨_,I,J,G,.of_steps (.one h0 Gm) B⟩
end
section
variable{P:Program}{cx:Cx}{Q:Exit->Act->AD->Prop}{env:Env}{H:Hp}
theorem UR{c:Code}(h:At P cx c (Exit.noGoto Q) env H):At P cx (.scope c) Q env H:=fun a w B=>dM (h a w B)
theorem L6(h:Nx cx (Q .ret) env H):Nx cx (Exit.noGoto Q .ret) env H:=h
end
def Ws{α:Type}(P:Program)(gf:FuncId)(lb:AH)(Hit Hk:Hp)(Enc:α->AH->List A9->Prop)(xs:List α):Prop:=
 ∀(l:Nat) (J:List α->List A9->Prop),(∀pre x post s vs sx,xs=pre++x::post->J pre s->Enc x vs sx->GD P l vs [sx,s] (fun v H'=>∃s',v= .bool true/\H'=[s']/\J (pre++[x]) s'))->
  ∀s,J [] s->BZ P gf (#[.func (.yield l) #[] #[]]++lb) (Hit++(Hk++[s])) (fun _ H'=>∃s',H'=Hk++[s']/\J xs s')
theorem YC{α:Type}{P:Program}{cx:Cx}{Q:Exit->Act->AD->Prop}{env:Env}{H ax Hk H0 R:Hp}{g:Operand}{ps:Array Tmp}{G W:Code}{gf:FuncId}{lb:AH}{Enc:α->AH->List A9->Prop}{xs:List α}
 (I:List α->Hp->Prop)(E:α->AH->List A9->Env->Hp->Prop)(hr:cx.r=none)(hg:∀a,ev a env g= .func (.func gf) #[] lb)(Z:∀(args:AH) (w:AD),(callFunc gf args).run P w= .ok (.enter gf args) w)
 (af:Ws P gf lb ax Hk Enc xs)(cu:∀x vs O,Enc x vs O->vs.size=ps.size)(bn:(ps.toList.all fun t=>Nat.blt t cx.N)=true)(hp:Ev (ax++(Hk++H0)) H R)(h0:I [] H0)
 (U:∀(l:Nat) (x:α) (vs:AH) (O:List A9) (u:AD) (H:Hp),Enc x vs O->At P ⟨cx.N,[],u,some l⟩ G (Exit.then (fun a w=>∃e Hn,E x vs O e Hn/\Is ⟨cx.N,[],u,some l⟩ (e++env) (Hn++H) a w) (fun _ _ _=>False)) ((ps.toList.zip vs.toList).reverse++env) H)
 (X:∀(l:Nat) (pre:List α) (x:α) (B:List α) (u:AD) (vs:AH) (O:List A9) (e:Env) (Hn H1 R1:Hp),xs=pre++x::B->I pre H1->Enc x vs O->E x vs O e Hn->At P ⟨cx.N,[],u,some l⟩ W (Ij u I (pre++[x]) R1) (e++env) (H1++(O::(Hn++R1))))
 (hk:∀(D:Nat) (H2:Hp),I xs H2->Nx ⟨cx.N,⟨.collected D,#[]⟩::cx.D,cx.u,none⟩ (Q .normal) env ([(D,.deferred (some []))]::(Hk++(H2++R)))):At P cx (.rangeFunc g ps G W) Q env H:=
 NG (A:=fun _ _=>True) (St:=False) (Adm:=fun p=>∃B,xs=p++B) (Full:=fun ys=>ys=xs) I (fun _ _=>False) E hr hg Z (fun l J Jx _ hX hy s h9=>(af l J (fun pre x B s vs O hx hj he u R w hs K Kp hK=>hy pre x s vs O ⟨B,by rw [hx,D3];rfl⟩ hj he u R w hs K Kp fun v H' w' ⟨s',h1,h2⟩ h4=>h2.elim (fun h=>hK v H' w' ⟨s',h.1,h1,h.2⟩ h4) fun h=>(hX _ _ h.2).elim) s h9).mono (by rintro v H' ⟨s',h1,h2⟩;exact ⟨s',h1,.inl ⟨xs,rfl,h2⟩⟩)) (fun _ _ h=>h) (fun _ _ _ _ _=>trivial) cu bn hp h0 U
  (fun l pre x u vs O e Hn H1 R1 r0 ⟨B,hx⟩ hI he hE=>QF (X l pre x B u vs O e Hn H1 _ (by rw [hx,D3];rfl) hI he hE)) (fun D ys H2 hf hI=>by rw [hf]at hI;exact hk D H2 hI) fun _ _ _ h=>h.elim
section
variable{P:Program}{env:Env}{d:Option Nat}{ty:AK}{pos:String}{af:Array Edge}{g:Option (Nat×Bool)}
theorem QS{x y:Operand}{Ts:Array AK}{k:IntKind}{m n:Int}(hx:∀a,ev a env x= .int k m)(hy:∀a,ev a env y= .int k n):OpP P ⟨d,.call ⟨.builtin .max,#[x,y],Ts⟩,ty,pos,af,g⟩ env [] (.int k (max m n)):=fun a w _=>by
 simp [E5,resolve,invoke,builtin,hx a,hy a,Builtin.max_,Builtin.max2];by_cases h:m<n;· simp [h,show max m n=n by omega]
 · simp [h,show max m n=m by omega]
theorem fq{x y:Operand}{Ts:Array AK}{k:IntKind}{m:Nat}(hx:∀a,ev a env x= .int k ((m:Int) -1))(hy:∀a,ev a env y= .int k 0):OpP P ⟨d,.call ⟨.builtin .max,#[x,y],Ts⟩,ty,pos,af,g⟩ env [] (.int k ((m -1:Nat):Int)):=by
 have h:=QS (P:=P) (d:=d) (ty:=ty) (pos:=pos) (af:=af) (g:=g) (Ts:=Ts) hx hy;rwa [show max ((m:Int) -1) 0=((m -1:Nat):Int) by omega]at h
end
def FP(M:List A9)(p:B6)(ys:List A3):Prop:=∀(j:Nat) (u:A3),ys[j]?=some u->∃g o c T z,p=some ⟨g,o,none⟩/\(g,Obj.cells c T z)∈M/\c[o+j]?=some u
theorem One.mem9{s:List A9}{H R:Hp}(h:One s H R):∀c∈s,c∈H.flatten:=by
 intro c hc;have:=h.perm.mem_iff (a:=c)
 rw [this];simp [hc]
section
variable{P:Program}{u:AD}{env:Env}{H R R2:Hp}{d:Option Nat}{ty:AK}{pos:String}{af:Array Edge}{g:Option (Nat×Bool)}
theorem Hm{x y:Operand}{t e:AK}{i:TypeInfo}{z:A3}{by_ sz n k c:Nat}{v:A3}{p:B6}{xs ys:List A3}{s M:List A9}
 (ht:P.underlying t=some (.slice e))(hi:P.info? e=some i)(G:i.size=sz)(bn:i.bytes=by_)(gm:i.zero=some z)(ek:z.cells.size=sz)
 (hx:∀a,ev a env x=v)(B:Bd sz e v n xs s)(hy:∀a,ev a env y= .slice p k c)(J:FP M p ys)(hl:ys.length=k*sz)(h0:0<sz)(I:One s H R)(Z:One M R R2)(h1:∀u∈ys,u.oneCell'=true)
 (ax:n+k<=maxLen)(hb:(n+k)*by_<=140737488355328):
 OpW P u ⟨d,.call ⟨.builtin .append,#[x,y],#[t,t]⟩,ty,pos,af,g⟩ env H (fun v' H1=>∃s',Bd sz e v' (n+k) (xs++ys) s'/\H1=s'::R) (fun _ _=>False):=by
 rcases RC k with hk|hk
 · subst hk
   have d9:ys=[]:=MT A1;subst d9;obtain ⟨b,c',rfl⟩:=B.form;have U:n<=c':=by
    obtain ⟨_,⟨hv,h0,_⟩|⟨_,_,_,_,hv,_,h2,_⟩⟩:=B;· omega
    · injection hv with _ _ hv3;omega
   intro a w X K Kp hK _;have cu:Sat u (s::R) w:=X.perm (by simpa using I.perm)
   have O:(Builtin.firstCells i.size 0 (.slice p 0 c)).run P w= .ok #[] w:=by
    cases p with
    |none=>simp [Builtin.firstCells]
    |some ad=>simp [Builtin.firstCells,loadCells,loadCellsFrom]
   have hr:(Builtin.append_ #[t,t] ty #[.slice b n c',.slice p 0 c]).run P w= .ok (.slice b n c') w:=by
    rw [G]at O;cases b with
    |none=>simp [Builtin.append_,run_underlying ht,Go.sizeOf,typeInfo,hi,G,Builtin.lenOf,U,O]
    |some ad=>simp [Builtin.append_,run_underlying ht,Go.sizeOf,typeInfo,hi,G,Builtin.lenOf,U,O,storeCells]
   have cO:(execOp (ev a env) ⟨d,.call ⟨.builtin .append,#[x,y],#[t,t]⟩,ty,pos,af,g⟩).run P w= .ok (.value (.slice b n c')) w:=by
    simp only [E5,resolve,invoke,builtin,SD,Ek,Kf,hx a,hy a,Sem.run_bind,Sem.run_pure,Result.andThen_ok,hr]
   rw [cO];exact hK _ _ _ ⟨s,by rw [DG];exact B,rfl⟩ cu
 · have W:0<ys.length:=by rw [hl];exact Nat.mul_pos hk h0
   obtain ⟨gb,o,_,_,_,rfl,_,_⟩:=J 0 _ (B7 W);refine VF ht hi G bn gm ek hx B hy I (fun w hs j v hj=>?_) hl h1 hk ax hb;obtain ⟨g',o',c1,T1,z1,e,hm,hc⟩:=J j v hj;injection e with e
   injection e with e1 e2
   subst e1 e2;rw [CW];exact Ck (hs.get _ (Z.mem9 _ hm)) hc
theorem Ow{sz:Nat}{e:AK}{g k cap:Nat}{cur:AH}{z:Nat×Nat}{xs:List A3}(h:Bd sz e (I6 g k cap) k xs [(g,.cells cur e z)])(i:Nat)(v:A3):Bd sz e (I6 g k cap) k (xs.set i v) [(g,.cells (cur.setIfInBounds i v) e z)]:=by
 obtain ⟨hl,⟨h0,_⟩|⟨g',Z,af,z',hv,hs,J,B,G,X,I⟩⟩:=h;· cases h0
 · injection hv with hv1 _ hv3
   injection hv1 with hv1
   injection hv1 with hv1
   subst hv3;simp only [na,kf,Obj.cells.injEq,fL,W6]at hs;obtain ⟨O,U,W⟩:=hs;subst O U W;refine ⟨by rw [eI];exact hl,.inr ⟨g,cap,_,z,rfl,rfl,J,B,by rw [T5];exact G,?_,by rw [T5];exact I⟩⟩;rw [iz,<-X,List.take_set]
end
theorem GQ{c:AH}{i:Nat}{ys:List A3}(h:i+ys.length<=c.size):(EO c i ys).size=c.size:=by
 unfold EO;simp only [HD,BW,CC,CD,TO];omega
theorem EU{sz:Nat}{e:AK}{g k cap:Nat}{cur:AH}{z:Nat×Nat}{xs ys:List A3}{i:Nat}(h:Bd sz e (I6 g k cap) k xs [(g,.cells cur e z)])(hi:i+ys.length<=xs.length):
 Bd sz e (I6 g k cap) k (xs.take i++ys++xs.drop (i+ys.length)) [(g,.cells (EO cur i ys) e z)]:=by
 obtain ⟨hl,⟨G,_⟩|⟨g',W,X,z',G,h2,I,J,B,U,O⟩⟩:=h;· injection G with G;cases G
 injection G with h3 _ h4
 injection h3 with h3
 injection h3 with h3
 injection h2 with h2 _
 injection h2 with _ h2
 injection h2 with h5 _ h6
 subst h3 h4 h5 h6;have Z:k*sz<=cap*sz:=US sz I
 have af:cur.toList.length=cap*sz:=by rw [TO,B]
 have e1:cur.toList=xs++cur.toList.drop (k*sz):=by rw [<-U,K1]
 refine ⟨?_,.inr ⟨g,cap,_,z,V,V,I,J,?_,?_,?_⟩⟩;· simp only [BW,CC,CD];omega
 · rw [GQ (by rw [B];omega),B]
 · show(EO cur i ys).toList.take (k*sz)=_
   unfold EO;show(cur.toList.take i++ys++cur.toList.drop (i+ys.length)).take (k*sz)=_
   have t1:cur.toList.take i=xs.take i:=by
    conv=>lhs;rw [e1]
    exact cN A1
   have t2:cur.toList.drop (i+ys.length)=xs.drop (i+ys.length)++cur.toList.drop (k*sz):=by
    conv=>lhs;rw [e1]
    exact iu A1
   rw [t1,t2,<-D3];refine Hb ?_;simp only [BW,CC,CD];omega
 · show Ik z (EO cur i ys).size
   rw [GQ (by rw [B];omega)];exact O
theorem VY{sz:Nat}{e:AK}{g k cap:Nat}{xs:List A3}{s:List A9}(h:Bd sz e (I6 g k cap) k xs s)(i:Nat)(hi:i<=k):Bd sz e (I6 g i cap) i (xs.take (i*sz)) s:=by
 obtain ⟨hl,⟨G,_⟩|⟨g',W,B,z',G,rfl,Z,I,J,U,O⟩⟩:=h;· injection G with G;cases G
 injection G with h3 _ h4
 injection h3 with h3
 injection h3 with h3
 subst h3 h4;have X:i*sz<=k*sz:=US sz hi
 refine ⟨by rw [CC];omega,.inr ⟨g,cap,B,z',rfl,rfl,by omega,I,J,?_,O⟩⟩;rw [<-U,V2,RT X]
theorem Jf{sz:Nat}{e:AK}{g k cap:Nat}{cur:AH}{z:Nat×Nat}{xs:List A3}(h:Bd sz e (I6 g k cap) k xs [(g,.cells cur e z)]):C9 cur 0 xs/\cur.size=cap*sz/\k<=cap/\cap<=maxLen/\Ik z cur.size:=by
 obtain ⟨Z,⟨B,_⟩|⟨g',W,X,z',B,h2,O,G,I,U,J⟩⟩:=h;· injection B with B;cases B
 injection B with h3 _ h4
 injection h2 with h2 _
 injection h2 with _ h2
 injection h2 with h5 _ h6
 subst h4 h5 h6;exact ⟨by unfold C9;rw [RW,Z];exact U,I,O,G,J⟩
theorem VX{sz:Nat}{e:AK}{g k cap:Nat}{cur:AH}{z:Nat×Nat}{xs:List A3}(h:Bd sz e (I6 g k cap) k xs [(g,.cells cur e z)])(m:Nat)(hm:k<=m)(I:m<=cap):∃ys,ys.length=(m -k)*sz/\Bd sz e (I6 g m cap) m (xs++ys) [(g,.cells cur e z)]:=by
 obtain ⟨G,B,X,J,O⟩:=Jf h;have W:=h.1
 have Z:m*sz<=cap*sz:=US sz I;have h2:k*sz+(m -k)*sz=m*sz:=by rw [<-LO];congr 1;omega
 unfold C9 at G;rw [RW,W]at G;refine ⟨(cur.toList.drop (k*sz)).take ((m -k)*sz),by rw [CC,CD,TO,B];omega,?_,.inr ⟨g,cap,cur,z,rfl,rfl,I,J,B,?_,O⟩⟩
 · have U:cur.toList.length=cap*sz:=by rw [TO,B]
   rw [BW,CC,CD,U,W];omega
 · conv=>rhs;rw [<-G]
   rw [<-h2,List.take_add]
theorem JA{c:AH}{o:Nat}{xs:List A3}(h:C9 c o xs)(i m:Nat)(B:i+m<=xs.length):C9 c (o+i) ((xs.drop i).take m):=by
 unfold C9 at*;rw [CC,CD,RT A1];conv=>rhs;rw [<-h]
 rw [fj,V2,RT A1,bj]
theorem Rt(z:A3)(m:Nat)(h:∀u∈z.cells.toList,u.oneCell'=true):∀y∈(Builtin.zeroCells z.cells m).toList,y.oneCell'=true:=by
 intro y hy;simp only [Builtin.zeroCells,pB,Array.mem_map,Array.mem_range]at hy;obtain ⟨j,I,rfl⟩:=hy;refine h _ ?_;have G:0<z.cells.size:=by
  rcases RC z.cells.size with h9|h9
  · rw [h9]at I;omega
  · exact h9
 have B:j%z.cells.size<z.cells.size:=bm _ G;rw [getElem!_pos z.cells (j%z.cells.size) B];exact pB.2 (Array.getElem_mem B)
section
variable{P:Program}{u:AD}{env:Env}{H H' R R2:Hp}{d:Option Nat}{ty:AK}{pos:String}{af:Array Edge}{g:Option (Nat×Bool)}
theorem JZ{x y:Operand}{dT sT e:AK}{sz b o n cap Z o' n' G:Nat}{c c1:AH}{T T1:AK}{z z1:Nat×Nat}{cs:List A3}
 (hu:P.underlying dT=some (.slice e))(hs:∀w:AD,(Go.sizeOf e).run P w= .ok sz w)(hx:∀a,ev a env x= .slice (some ⟨b,o,none⟩) n cap)(hy:∀a,ev a env y= .slice (some ⟨Z,o',none⟩) n' G)
 (W:Has Z (.cells c1 T1 z1) H)(O:One [(b,.cells c T z)] H R)(bn:C9 c1 o' cs)(hn:cs.length=min n' n*sz)(I:o+cs.length<=c.size)(hz:Ik z c.size)(h1:∀v∈cs,v.oneCell'=true):
 OpW P u ⟨d,.call ⟨.builtin .copy,#[x,y],#[dT,sT]⟩,ty,pos,af,g⟩ env H (fun v H1=>v=I4 ((min n' n:Nat):Int)/\H1=[(b,.cells (EO c o cs) T z)]::R) (fun _ _=>False):=fun a w B K Kp hK _=>by
 have U:Sat u ([(b,.cells c T z)]::R) w:=B.perm (by simpa using O.perm);have hb:=U.get (b,.cells c T z) (by simp)
 have ax:=B.get _ W.mem;have hl:=run_loadCells_list (P:=P) w ⟨Z,o',none⟩ cs (H9 ax bn)
 rw [hn]at hl;have X:=Cg (P:=P) b o T z cs 0 c w hb hz (by simpa using I) h1
 simp only [Rg]at X;have J:Nat.min n' n=min n' n:=rfl
 have:(execOp (ev a env) ⟨d,.call ⟨.builtin .copy,#[x,y],#[dT,sT]⟩,ty,pos,af,g⟩).run P w= .ok (.value (I4 ((min n' n:Nat):Int))) (w.setRow b (EO c o cs)):=by
  simp [E5,resolve,invoke,builtin,hx a,hy a,Builtin.copy_,run_underlying hu,Builtin.lenOf,Builtin.firstCells,hs,J,hl,X,EO,goInt]
 rw [this];exact hK _ _ _ ⟨V,V⟩ (U.upd (.here _) V rfl V (setRow_heap w b c _ T z hb) fun k hk=>setRow_other w b k _ hk)
theorem LX{x y:Operand}{t ti e T:AK}{i:TypeInfo}{z:A3}{by_ sz k m cap gb:Nat}{cur:AH}{zz:Nat×Nat}{xs:List A3}
 (ht:P.underlying t=some (.slice e))(d9:P.underlying ti=some (.int .i64))(hi:P.info? e=some i)(cO:i.size=sz)(O:i.bytes=by_)(ek:i.zero=some z)(Z:z.cells.size=sz)
 (hx:∀a,ev a env x=I6 gb k cap)(hy:∀a,ev a env y=I4 (m:Int))(W:Has gb (.cells cur T zz) H)(cu:C9 cur 0 xs)(J:xs.length=k*sz)(h0:0<m)(ic:0<sz)(hg:cap<k+m)(ax:k+m<=maxLen)(hb:(k+m)*by_<=140737488355328):
 OpW P u ⟨d,.call ⟨.builtin .append,#[x,y],#[t,ti]⟩,ty,pos,af,g⟩ env H (fun v' H1=>∃s',Bd sz e v' (k+m) (xs++(Builtin.zeroCells z.cells m).toList) s'/\H1=s'::H) (fun _ _=>False):=fun a w I K Kp hK _=>by
 have gy:=mL;have hl:=run_loadCells_list (P:=P) w.drew ⟨gb,0,none⟩ xs (H9 (I.drew.get _ W.mem) cu)
 rw [J]at hl;have X:(Builtin.firstCells i.size k (I6 gb k cap)).run P w.drew= .ok xs.toArray w.drew:=by
  rw [cO];simp [Builtin.firstCells,hl]
 have gq:m*by_<=(k+m)*by_:=US _ A1;have hr:=Lib.run_append_grow_zeros (P:=P) w t ti ty e i z .i64 .i64 ht d9 hi ek (some ⟨gb,0,none⟩) k cap xs X m h0 A1 hg A1 (by rw [O];omega) (growslice_fits A1 (by rw [O];exact hb))
 have B:∀{v':A3} {w':AD},(Builtin.append_ #[t,ti] ty #[I6 gb k cap,I4 (m:Int)]).run P w= .ok v' w'->(execOp (ev a env) ⟨d,.call ⟨.builtin .append,#[x,y],#[t,ti]⟩,ty,pos,af,g⟩).run P w= .ok (.value v') w':=fun h=>by
  simp only [E5,resolve,invoke,builtin,SD,Ek,Kf,hx a,hy a,Sem.run_bind,Sem.run_pure,Result.andThen_ok,h]
 rw [B hr];have bn:=grownCap_ge w (k+m) cap e
 have U:grownCap w (k+m) cap e<=maxLen:=grownCap_le_maxLen w (k+m) cap e ax;have G:(xs++(Builtin.zeroCells z.cells m).toList).length=(k+m)*sz:=by
  have gm:(Builtin.zeroCells z.cells m).toList.length=m*sz:=by rw [TO,size_zeroCells,Z]
  rw [BW,gm,J,LO]
 refine hK _ _ _ ⟨[(w.heap.size,.cells (xs.toArray++Builtin.zeroCells z.cells m++Builtin.zeroCells z.cells (grownCap w (k+m) cap e -(k+m))) e (0,0))],⟨G,.inr ⟨w.heap.size,grownCap w (k+m) cap e,_,(0,0),V,V,bn,U,?_,?_,BC _⟩⟩,V⟩ (I.drew.alloc _)
 · simp only [jt,size_zeroCells,Z,HD,J]
   rw [<-LO,<-LO];congr 1;omega
 · simp only [cS]
   exact Hb G
theorem OW{x:Operand}{t e:AK}{i:TypeInfo}{z:A3}{sz gb k cap m c:Nat}{cur:AH}{T:AK}{zz:Nat×Nat}
 (ht:P.underlying t=some (.slice e))(hi:P.info? e=some i)(bn:i.zero=some z)(ax:z.cells.size=sz)(cO:∀u∈z.cells.toList,u.oneCell'=true)
 (hx:∀a,ev a env x= .slice (EY (some ⟨gb,0,none⟩) k cap sz) m c)(hm:k+m<=cap)(W:cur.size=cap*sz)(X:Ik zz cur.size)(J:One [(gb,.cells cur T zz)] H R):
 OpW P u ⟨d,.call ⟨.builtin .clear,#[x],#[t]⟩,ty,pos,af,g⟩ env H (fun _ H1=>H1=[(gb,.cells (EO cur (k*sz) (Builtin.zeroCells z.cells m).toList) T zz)]::R) (fun _ _=>False):=fun a w O K Kp hK _=>by
 have G:Sat u ([(gb,.cells cur T zz)]::R) w:=O.perm (by simpa using J.perm);have B:∀{v':A3} {w':AD},(Builtin.clear_ #[t] ty #[.slice (EY (some ⟨gb,0,none⟩) k cap sz) m c]).run P w= .ok v' w'->(execOp (ev a env) ⟨d,.call ⟨.builtin .clear,#[x],#[t]⟩,ty,pos,af,g⟩).run P w= .ok (.value v') w':=fun h=>by
  simp only [E5,resolve,invoke,builtin,SD,Ek,Kf,hx a,Sem.run_bind,Sem.run_pure,Result.andThen_ok,h]
 rcases RC m with h0|h0
 · subst h0
   have hr:(Builtin.clear_ #[t] ty #[.slice (EY (some ⟨gb,0,none⟩) k cap sz) 0 c]).run P w= .ok (.tuple #[]) w:=by
    have:∃q,EY (some ⟨gb,0,none⟩) k cap sz=some q:=by unfold EY;split<;>exact ⟨_,rfl⟩
    obtain ⟨q,Z⟩:=this;rw [Z];simp [Builtin.clear_,run_underlying ht]
   rw [B hr];refine hK _ _ _ V ?_;have:(Builtin.zeroCells z.cells 0).toList=[]:=MT (by rw [TO,size_zeroCells];simp)
   rw [this,sU];exact G
 · have Z:EY (some ⟨gb,0,none⟩) k cap sz=some ⟨gb,k*sz,none⟩:=by
    unfold EY;rw [An A1,NX,CW,DM]
   have hg:=G.get (gb,.cells cur T zz) B4;have cu:(Builtin.zeroCells z.cells m).toList.length=m*sz:=by rw [TO,size_zeroCells,ax]
   have I:∀y∈(Builtin.zeroCells z.cells m).toList,y.oneCell'=true:=Rt z m cO;have d9:k*sz+m*sz<=cap*sz:=by rw [<-LO];exact US _ hm
   have U:=Cg (P:=P) gb (k*sz) T zz (Builtin.zeroCells z.cells m).toList 0 cur w hg X (by rw [cu,W];omega) I;have hr:(Builtin.clear_ #[t] ty #[.slice (EY (some ⟨gb,0,none⟩) k cap sz) m c]).run P w= .ok (.tuple #[]) (w.setRow gb (EO cur (k*sz) (Builtin.zeroCells z.cells m).toList)):=by
    rw [Z];obtain ⟨m',rfl⟩:∃m',m=m'+1:=⟨m -1,by omega⟩;simp [Builtin.clear_,run_underlying ht,Ug hi bn,EO]at U⊢;simp [U]
   rw [B hr];exact hK _ _ _ V (G.upd (.here _) V rfl V (setRow_heap w gb cur _ T zz hg) fun k hk=>setRow_other w gb k _ hk)
theorem Bq{t e:AK}{x lo:Operand}{b o n cap l sz:Nat}{O:IntKind}(J:P.underlying t=some (.slice e))(I:∀w:AD,(Go.sizeOf e).run P w= .ok sz w)(hx:∀a,ev a env x= .slice (some ⟨b,o,none⟩) n cap)(G:∀a,ev a env lo= .int O (l:Int))(B:l<=n)(h2:l<cap):
 OpP P ⟨d,.slice t x (some lo) none none,ty,pos,af,g⟩ env [] (.slice (some ⟨b,o+l*sz,none⟩) (n -l) (cap -l)):=by
 have h:=CE (d:=d) (ty:=ty) (pos:=pos) (af:=af) (g:=g) J I hx G B;have e1:EY (some ⟨b,o,none⟩) l cap sz=some ⟨b,o+l*sz,none⟩:=by
  unfold EY;rw [An A1,NX,CW]
 rwa [e1]at h
theorem Z4{t ty b j s1 s2:Nat}{fn:Func}{v x y:A3}(G:fn.results=#[.cell t ty,.tmp s1,.tmp s2]){w:AD}{tmps:AH}(hx:tmps.getD t undef= .pointer (some ⟨b,j,none⟩))(B:(loadVar ty ⟨b,j,none⟩).run P w= .ok v w)(hy:tmps.getD s1 undef=x)(hz:tmps.getD s2 undef=y):(results fn tmps).run P w= .ok (.tuple #[v,x,y]) w:=by
 rw [Lw]at hx hy hz;simp [results,G,hx,hy,hz,asAddr,B]
theorem I8{e:Exit}{N:Nat}{r:Option Nat}{fn:Func}{Q:A3->Hp->Prop}{Pn:List PanicEntry->Hp->Prop}{H':Hp}{t ty b j s1 s2:Nat}{v x y:A3}{o:Obj}(I:Fb e=true)(W:fn.results=#[.cell t ty,.tmp s1,.tmp s2])(hv:∀a,G8 a env t= .pointer (some ⟨b,j,none⟩))(G:Has b o H)(J:∀w:AD,w.heap[b]?=some o->(loadVar ty ⟨b,j,none⟩).run P w= .ok v w)(hx:∀a,G8 a env s1=x)(hy:∀a,G8 a env s2=y)(U:Q (.tuple #[v,x,y]) H')(O:Sub (H'++R) H:=by repeat(first|exact Sub.refl _|exact Sub.nil _|(apply Sub.cons;(focus (repeat(first|exact One.here _ _|apply One.there))))|refine Sub.drop _ ?_)):Nx ⟨N,[],u,r⟩ (bodyPost P fn (GY u R Q Pn) e) env H:=
 MH I (fun a w B=>Z4 W (by rw [CX a env (by rw [B.size];exact B.fit),hv a]) (J w (B.sat.get _ G.mem)) (by rw [CX a env (by rw [B.size];exact B.fit),hx a]) (by rw [CX a env (by rw [B.size];exact B.fit),hy a])) U O
theorem XM{t s q k:Nat}{fn:Func}(B:fn.results=#[.tmp t,.tmp s,.tmp q,.tmp k])(w:AD)(tmps:AH):(results fn tmps).run P w= .ok (.tuple #[tmps.getD t undef,tmps.getD s undef,tmps.getD q undef,tmps.getD k undef]) w:=by simp [results,B]
theorem jk{e:Exit}{N:Nat}{r:Option Nat}{fn:Func}{Q:A3->Hp->Prop}{Pn:List PanicEntry->Hp->Prop}{H':Hp}{t s q k:Nat}{v x y z:A3}(G:Fb e=true)(O:fn.results=#[.tmp t,.tmp s,.tmp q,.tmp k])(hv:∀a,G8 a env t=v)(hx:∀a,G8 a env s=x)(hy:∀a,G8 a env q=y)(hz:∀a,G8 a env k=z)(J:Q (.tuple #[v,x,y,z]) H')(I:Sub (H'++R) H:=by repeat(first|exact Sub.refl _|exact Sub.nil _|(apply Sub.cons;(focus (repeat(first|exact One.here _ _|apply One.there))))|refine Sub.drop _ ?_)):Nx ⟨N,[],u,r⟩ (bodyPost P fn (GY u R Q Pn) e) env H:=
 MH G (fun a w B=>by rw [XM O,CX a env (by rw [B.size];exact B.fit),CX a env (by rw [B.size];exact B.fit),CX a env (by rw [B.size];exact B.fit),CX a env (by rw [B.size];exact B.fit),hv a,hx a,hy a,hz a]) J I
theorem TT{f:FuncId}{fn:Func}{ax:Array Operand}{ats:Array AK}{tS tR e:AK}{size a b oa ob la ca lb cb:Nat}{xa xb:AH}{Ta Tb:AK}{zb:Nat×Nat}
 (hf:P.funcs[f]?=some fn)(hname:(fn.name== "runtime.NumGoroutine")=false)(hb:fn.body.isNone=true)(hn:Extern.findNext fn=none)(he:Extern.find fn=some (Extern.SlicesOverlaps.overlaps #[tS,tS] #[tR]))
 (ht:P.underlying tS=some (.slice e))(hz:∀w:AD,(Go.sizeOf e).run P w= .ok size w)(ha:∀c,ax.toList.map (ev c env)=[.slice (some ⟨a,oa,none⟩) la ca,.slice (some ⟨b,ob,none⟩) lb cb])(hne:a≠b)(hk:xb.size≠0):
 OpP P ⟨d,.call ⟨.value (.func f),ax,ats⟩,ty,pos,af,g⟩ env [(a,.cells xa Ta (0,0)),(b,.cells xb Tb zb)] (.bool false):=fun c w hs=>by
 have g1:=hs (a,.cells xa Ta (0,0)) (by simp);have g2:=hs (b,.cells xb Tb zb) (by simp)
 have h1:ax.map (ev c env)=#[.slice (some ⟨a,oa,none⟩) la ca,.slice (some ⟨b,ob,none⟩) lb cb]:=by
  have:=JN (ev c env) ax;rw [this,ha c]
 have h2:=run_callFunc_extern hf hname hb hn he #[.slice (some ⟨a,oa,none⟩) la ca,.slice (some ⟨b,ob,none⟩) lb cb] w;rw [Lib.run_overlaps_apart w tS tR e ht size hz ⟨a,oa,none⟩ ⟨b,ob,none⟩ la ca lb cb hne Ta Tb xa.size xb.size (by simp [World.shape?,g1]) (by simp [World.shape?,g2]) hk (by simp [World.frozen?,g1]) (by simp [World.frozen?,g1])]at h2;have h3:ev c env (.func f)= .func (.func f) #[] #[]:=rfl
 simp [E5,resolve,h3,Deferred.ofValue,invoke,h1,h2,Result.andThen]
end
section
variable{α:Type}{κ:α->A3}{D:α->Prop}{P:Program}{es:Array MapEntry}{clock r:Nat}{l:List (α×A3)}{kt et:AK}
variable{u:AD}{env:Env}{H R:Hp}{d:Option Nat}{ty:AK}{pos:String}{af:Array Edge}{g:Option (Nat×Bool)}{t:AK}{m x y:Operand}{k:α}{v:A3}
theorem EI(W:Fv P kt κ D)(ht:P.underlying t=some (.map kt et))(hm:Cm κ es clock l)(Z:∀p∈l,D p.1)(X:D k)(hx:∀a,ev a env m= .map (some r))(hy:∀a,ev a env x=κ k)(hv:∀a,ev a env y=v)(I:One [(r,.map es clock)] H R):
 OpW P u ⟨d,.insert t m x y,ty,pos,af,g⟩ env H (fun v' H1=>v'=undef/\∃G B O,Cm κ G B O/\(∀p,p∈O↔p=(k,v)\/(p∈l/\p.1≠k))/\H1=[(r,.map G B)]::R) (fun _ _=>False):=fun a w hs K U J hp=>
 FH (d:=d) (ty:=ty) (pos:=pos) (af:=af) (g:=g) W ht hm Z X hx hy hv I a w hs K U J hp
theorem Df [DecidableEq α]{et:AK}{z v0:A3}(G:Fv P kt κ D)(U:P.underlying t=some (.map kt et))(hz:∀w:AD,(zeroValue et).run P w= .ok z w)(O:Cm κ es clock l)(W:∀p∈l,D p.1)(I:D k)(hv:(EK k l).getD z=v0)(hx:∀a,ev a env m= .map (some r))(hy:∀a,ev a env x=κ k):
 OpP P ⟨d,.lookup t m x false,ty,pos,af,g⟩ env [(r,.map es clock)] v0:=fun a w X=>by
 have J:=X (r,.map es clock) B4;show((do pure (Next.value (<-Instr.lookup t (ev a env m) (ev a env x) false))):Sem Next).run P w=_
 rw [hx a,hy a,<-hv];rcases IB G O W w k I with⟨B,h2⟩|⟨j,v,B,h2⟩
 · rw [Da h2]
   simp only [Instr.lookup,Sem.run_bind,run_underlying U,Result.andThen,MapKept.run_getObj_map J,F3 G I,Sem.run_pure,B,hz];rfl
 · rw [Cy O.keys (Dg h2)]
   simp only [Instr.lookup,Sem.run_bind,run_underlying U,Result.andThen,MapKept.run_getObj_map J,F3 G I,Sem.run_pure,B];rfl
theorem Nw{d:Nat}{x y:Operand}{t yt e:AK}{p:B6}(B:P.underlying t=some (.pointer e))(hx:∀a,ev a env x= .pointer p)(hy:∀a,ev a env y= .pointer none):OpP P ⟨some d,.binOp .eql t x y yt,ty,pos,af,g⟩ env [] (.bool p.isNone):=by
 cases p with
 |none=>exact Jz B hx hy
 |some a=>exact Be B hx hy
theorem Eo{d:Nat}{x y:Operand}{t yt e:AK}{p:B6}(B:P.underlying t=some (.pointer e))(hx:∀a,ev a env x= .pointer p)(hy:∀a,ev a env y= .pointer none):OpP P ⟨some d,.binOp .neq t x y yt,ty,pos,af,g⟩ env [] (.bool p.isSome):=by
 cases p with
 |none=>exact NW B hx hy
 |some a=>exact IL B hx hy
theorem Dx{c cs:AH}(h:cs.size=c.size):EO c 0 cs.toList=cs:=by
 rw [ZP c cs.toList (by simpa using h)]
theorem BK{c:AH}{n:Nat}(h:c.size=n):c.extract 0 (0+n)=c:=by
 subst h;simp
end
section
variable{P:Program}{u:AD}{env:Env}{H R:Hp}{d:Option Nat}{ty:AK}{pos:String}{af:Array Edge}{g:Option (Nat×Bool)}
theorem OX{x y:Operand}{t su e:AK}{i:TypeInfo}{z:A3}{by_:Nat}{v:A3}{xs:List A3}{s:List A9}{l:List UInt8}
 (ht:P.underlying t=some (.slice e))(ax:P.underlying su=some .string)(hi:P.info? e=some i)(gy:i.size=1)(bn:i.bytes=by_)(j3:i.zero=some z)(l5:z.oneCell'=true)
 (hx:∀a,ev a env x=v)(d9:Row e v xs s)(hy:∀a,ev a env y= .string (str l))(cu:One s H R)
 (hm:0<l.length)(U:xs.length+l.length<=maxLen)(hb:(xs.length+l.length)*by_<=140737488355328):
 OpW P u ⟨d,.call ⟨.builtin .append,#[x,y],#[t,su]⟩,ty,pos,af,g⟩ env H (fun v' H1=>∃s',Row e v' (xs++l.map u8v) s'/\H1=s'::R) (fun _ _=>False):=fun a w ek K Kp hK _=>by
 have Z:Sat u (s::R) w:=ek.perm (by simpa using cu.perm);have kv:Sat u R w:=Z.sub ⟨s,by simp only [CA];exact Ly⟩
 have ic:z.cells=#[z]:=by cases z<;>first|rfl|simp [Value.oneCell']at l5
 have l8:=mL;have G:(str l).size=l.length:=by simp [str,ByteArray.size]
 have gm:Lib.strCells (str l)=l.map u8v:=by simp only [Lib.strCells,str];rfl
 have hl:(l.map u8v).length=l.length:=B8 ..;have B:∀{v':A3} {w':AD},(Builtin.append_ #[t,su] ty #[v,.string (str l)]).run P w= .ok v' w'->(execOp (ev a env) ⟨d,.call ⟨.builtin .append,#[x,y],#[t,su]⟩,ty,pos,af,g⟩).run P w= .ok (.value v') w':=fun h=>by
  simp only [E5,resolve,invoke,builtin,SD,Ek,Kf,hx a,hy a,Sem.run_bind,Sem.run_pure,Result.andThen_ok,h]
 have I:∀(n cap:Nat) (cells:AH) (w1:AD),w1={w with drawn:=n,heap:=w.heap.push (.cells cells e)}->Sat u ([(w.heap.size,.cells cells e (0,0))]::R) w1:=fun n cap cells w1 h=>by
  subst h;exact (kv.drawn n).alloc _
 rcases d9 with⟨rfl,rfl,rfl⟩|⟨gb,cap,cur,zz,rfl,rfl,hle,hcm,hcs,htk,hfr⟩
 · have hr:=run_append_nil_string (P:=P) w t su ty e i z ht ax hi j3 (str l) (by omega) (by rw [G];simp only [LI,DM]at U;omega) (by rw [bn,G];simp only [LI,DM]at hb;omega)
   rw [B hr,G];have W:=grownCap_ge w l.length 0 e
   have J:grownCap w l.length 0 e<=maxLen:=grownCap_le_maxLen w l.length 0 e (by simpa using U);refine hK _ _ _ ⟨[(w.heap.size,.cells ((str l).data.map (fun b=>Value.int .u8 b.toNat)++Builtin.zeroCells z.cells (grownCap w l.length 0 e -l.length)) e (0,0))],.inr ⟨w.heap.size,grownCap w l.length 0 e,_,(0,0),?_,rfl,?_,J,?_,?_,BC _⟩,rfl⟩ (I _ 0 _ _ rfl);· simp
   · simpa using W
   · simp [size_zeroCells,ic,str];omega
   · have:((str l).data.map (fun b=>Value.int .u8 b.toNat)).toList=l.map u8v:=by rw [Array.toList_map];rfl
     simp only [Ln,cS,this];exact Hb rfl
 · have hg:=Z.get (gb,.cells cur e zz) (by simp)
   by_cases O:xs.length+l.length<=cap
   · have hf:=Lib.run_firstCells_string (P:=P) w 1 (str l)
     rw [G,gm]at hf;have gq:=Cg (P:=P) gb xs.length e zz (l.map u8v) 0 cur w hg hfr (by rw [hl,hcs];omega) (pF l)
     simp only [Rg]at gq;have hr:(Builtin.append_ #[t,su] ty #[I6 gb xs.length cap,.string (str l)]).run P w= .ok (I6 gb (xs.length+l.length) cap) (w.setRow gb (EO cur xs.length (l.map u8v))):=by
      simp [Builtin.append_,run_underlying ht,run_underlying ax,Go.sizeOf,typeInfo,hi,gy,Builtin.lenOf,G,O,hf,CW,gq,EO]
     rw [B hr];have cO:(EO cur xs.length (l.map u8v)).size=cap:=by
      unfold EO;simp;omega
     refine hK _ _ _ ⟨[(gb,.cells (EO cur xs.length (l.map u8v)) e zz)],.inr ⟨gb,cap,_,zz,by simp,rfl,by simpa using O,hcm,cO,?_,by rw [cO,<-hcs];exact hfr⟩,rfl⟩
      (Z.upd (.here _) rfl rfl rfl (setRow_heap w gb cur _ e zz hg) fun k hk=>setRow_other w gb k _ hk)
     unfold EO;rw [htk];simp only [D3];rw [<-D3];exact Hb B4
   · have X:∀j v,xs[j]?=some v->w.cell? ((⟨gb,0,none⟩:Addr).add j)=some v:=fun j v hj=>by
      rw [CW];refine Ck hg ?_;have j5:j<xs.length:=(C4.1 hj).1
      have:(cur.toList.take xs.length)[j]?=some v:=by rw [htk];exact hj
      rw [HJ,Ax j5]at this;simpa using this
     have hr:=Lib.run_append_grow_string (P:=P) w t su ty e i z ht ax hi j3 ⟨gb,0,none⟩ xs.length cap xs (by rw [gy];omega) X (str l) A1 A1 (growslice_fits A1 (by rw [bn,G];exact hb));rw [B hr,G,gm];have W:=grownCap_ge w (xs.length+l.length) cap e
     have J:grownCap w (xs.length+l.length) cap e<=maxLen:=grownCap_le_maxLen w (xs.length+l.length) cap e U;refine hK _ _ _ ⟨[(w.heap.size,.cells (xs.toArray++(l.map u8v).toArray++Builtin.zeroCells z.cells (grownCap w (xs.length+l.length) cap e -(xs.length+l.length))) e (0,0))],.inr ⟨w.heap.size,grownCap w (xs.length+l.length) cap e,_,(0,0),?_,V,?_,J,?_,?_,BC _⟩,V⟩ (I _ 0 _ _ V);· simp
     · simpa using W
     · simp [size_zeroCells,ic];omega
     · simp only [cS]
       exact Hb B4
theorem ZN{s t q e:AK}{x:Operand}{j:TypeInfo}{b:Nat}{c:AH}{z:Nat×Nat}(U:P.underlying s=some (.pointer q))(I:P.underlying t=some .unsafePointer)(O:P.info? q=some j)(J:j.size≠0)(hc:0<c.size)(hx:∀a,ev a env x=I5 b):
 OpP P ⟨d,.convert s t x,ty,pos,af,g⟩ env [(b,.cells c e z)] (I5 b):=fun a w h=>by
 have G:=h (b,.cells c e z) B4;have B:w.shape? b=some (e,c.size):=by simp [World.shape?,G]
 have:=Lib.run_to_unsafe (P:=P) (w:=w) ⟨b,0,none⟩ U I O J B hc;simp [K7,hx a,this]
theorem Uq{s t q e:AK}{x:Operand}{j:TypeInfo}{b:Nat}{c:AH}{z:Nat×Nat}(U:P.underlying s=some .unsafePointer)(I:P.underlying t=some (.pointer q))(O:P.info? q=some j)(J:liesAt P P.depth e (c.size/P.cellsOf e) 0 q 1=true)(hx:∀a,ev a env x=I5 b):
 OpP P ⟨d,.convert s t x,ty,pos,af,g⟩ env [(b,.cells c e z)] (I5 b):=fun a w h=>by
 have G:=h (b,.cells c e z) B4;have B:w.shape? b=some (e,c.size):=by simp [World.shape?,G]
 have:=Lib.run_from_unsafe (P:=P) (w:=w) ⟨b,0,none⟩ U I O B J;simp [K7,hx a,this]
theorem TU{t q:AK}{x y:Operand}{yt:AK}{j:TypeInfo}{p:Addr}(G:P.underlying t=some (.pointer q))(B:P.info? q=some j)(hx:∀a,ev a env x= .pointer (some p))(hy:∀a,ev a env y= .pointer (some p)):
 OpP P ⟨d,.binOp .neq t x y yt,ty,pos,af,g⟩ env [] (.bool false):=fun a w _=>by
 have:=Lib.run_neq_ptr_same (P:=P) w p G B;simp [Cc,hx a,hy a,eqGuard,this]
theorem sP{f:FuncId}{fn:Func}{e:AH→Sem A3}{ax:Array Operand}{ats:Array AK}{vs:List A3}{v:A3}(hf:P.funcs[f]?=some fn)(hname:(fn.name== "runtime.NumGoroutine")=false)(hb:fn.body.isNone=true)(hn:Extern.findNext fn=none)(he:Extern.find fn=some e)
 (ha:∀a,ax.toList.map (ev a env)=vs)(hr:∀w:AD,(e vs.toArray).run P w= .ok v w):
 OpP P ⟨d,.call ⟨.value (.func f),ax,ats⟩,ty,pos,af,g⟩ env [] v:=fun a w _=>by
 have h1:ax.map (ev a env)=vs.toArray:=by rw [<-ha a];exact JN _ ax
 have h2:=run_callFunc_extern hf hname hb hn he vs.toArray w;rw [hr w]at h2;have h3:ev a env (.func f)= .func (.func f) #[] #[]:=rfl
 simp [E5,resolve,h3,Deferred.ofValue,invoke,h1,h2,Result.andThen]
theorem YP{t:AK}{x:Operand}{p:Addr}{n c:Nat}(hx:∀a,ev a env x= .slice (some p) n c)(hc:c≠0):
 OpW P u ⟨d,.call ⟨.builtin .unsafeSliceData,#[x],#[t]⟩,ty,pos,af,g⟩ env H (fun v H1=>v= .pointer (some p)/\H1=H) (fun _ _=>False):=fun a w B K I G _=>by
 have h:=Lib.run_unsafeSliceData_row (P:=P) (w:=w) #[t] ty p n c hc;have:(execOp (ev a env) ⟨d,.call ⟨.builtin .unsafeSliceData,#[x],#[t]⟩,ty,pos,af,g⟩).run P w= .ok (.value (.pointer (some p))) w:=by
  simp only [E5,resolve,invoke,builtin,SD,Ek,Kf,hx a,Sem.run_bind,Sem.run_pure,Result.andThen_ok,h]
 rw [this];exact G _ _ _ ⟨V,V⟩ B
theorem Rz{t it e:AK}{x y:Operand}{b:Nat}{c:AH}{z:Nat×Nat}{l:List UInt8}(ht:P.underlying t=some (.pointer e))(W:P.cellsOf e=1)(hx:∀a,ev a env x=I5 b)(hy:∀a,ev a env y=I4 (l.length:Int))(h0:l≠[])(U:l.length<=9223372036854775807)
 (J:One [(b,.cells c e z)] H R)(hc:c.toList.take l.length=l.map u8v):
 OpW P u ⟨d,.call ⟨.builtin .unsafeString,#[x,y],#[t,it]⟩,ty,pos,af,g⟩ env H (fun v H1=>v= .string (str l)/\H1=R) (fun _ _=>False):=fun a w O K Kp hK _=>by
 have G:Sat u ([(b,.cells c e z)]::R) w:=O.perm (by simpa using J.perm);have B:Sat u R w:=G.sub ⟨[(b,.cells c e z)],by simp only [CA];exact Ly⟩
 have hb:=G.get (b,.cells c e z) (by simp);have cu:w.shape? b=some (e,c.size):=by simp [World.shape?,hb]
 have ax:l.length<=c.size:=by
  have h1:(c.toList.take l.length).length=l.length:=by rw [hc,B8]
  rw [CC]at h1;have h2:=pZ l.length c.toList.length
  rw [h1]at h2;exact My h2 (Nat.le_of_eq (show c.toList.length=c.size from TO))
 have X:C9 c 0 (l.map u8v):=by unfold C9;rw [RW,B8];exact hc
 have h:=Lib.run_unsafeString_row (P:=P) w t it ty e ht W b c.size cu l h0 ax U (fun j x hx=>H9 hb X j (.int .u8 x.toNat) (by rw [E0,hx];rfl));have:(execOp (ev a env) ⟨d,.call ⟨.builtin .unsafeString,#[x,y],#[t,it]⟩,ty,pos,af,g⟩).run P w= .ok (.value (.string (str l))) (w.freeze ⟨b,0,none⟩ l.length):=by
  simp only [E5,resolve,invoke,builtin,SD,Ek,Kf,hx a,hy a,Sem.run_bind,Sem.run_pure,Result.andThen_ok,h];rfl
 rw [this];refine hK _ _ _ ⟨V,V⟩ ?_;have Z:l.length≠0:=by simpa using h0
 have I:=G.nodup;simp only [CA,Mb,Ek,Hc]at I;unfold World.freeze;rw [An Z];refine ⟨B.os,B.tape,B.output,B.nodup,fun p hp=>?_⟩;have bn:p.1≠b:=fun h=>I.1 (C3.2 ⟨p,hp,h⟩)
 show(w.heap.modify b _)[p.1]?=some p.2;rw [T7,An (fun h=>bn h.symm)];exact B.get p hp
end
section
variable{P:Program}{ops:Array Oper}{l:List Oper}{cx:Cx}{Q:Exit->Act->AD->Prop}{env:Env}{H:Hp}
theorem mV{I:Operand}{fv:Fn}{caps:AH}{ty:AK}{pos:String}{af:Array Edge}(U:cx.r=none)(O:∀a,ev a env I= .func fv #[] caps)
 (k:Ops P ops l ⟨cx.N,⟨.fn fv caps,#[]⟩::cx.D,cx.u,cx.r⟩ Q env H):Ops P ops (⟨none,.defer ⟨.value I,#[],#[]⟩,ty,pos,af,none⟩::l) cx Q env H:=fun a w G=>by
 have B:Fit a.tmps.size env:=by rw [G.size];exact G.fit
 simp only [wpL];rw [Fw ops _ a env B,show wantedE ops a env (⟨none,.defer ⟨.value I,#[],#[]⟩,ty,pos,af,none⟩:Oper).guard=true from rfl,Ax rfl];refine ⟨fun _ _=>trivial,?_⟩;have J:(Fx cx.r).round=none:=U
 rw [J,Oper.semAt_none,FX a env B];have:(execOp (ev a env) ⟨none,.defer ⟨.value I,#[],#[]⟩,ty,pos,af,none⟩).run P w= .ok (.defer ⟨.fn fv caps,#[]⟩) w:=by
  simp [execOp,resolve,O a,Deferred.ofValue]
 rw [this,Oper.uponIn_defer];have h:=k {a with defers:=⟨.fn fv caps,#[]⟩::cx.D} w ⟨G.size,rfl,G.fit,G.sat⟩
 have e:puts env {a with defers:=⟨.fn fv caps,#[]⟩::cx.D}={puts env a with defers:=⟨.fn fv caps,#[]⟩::(puts env a).defers}:=by
  rw [FI,Fp,G.defers]
 rw [e]at h;exact h
end
def Pv(P:Program)(f:FuncId)(args:AH)(m m':FrameMode)(H:Hp)(Q:Hp->Prop):Prop:=
 ∀(u:AD) (R:Hp) (w:AD),Sat u (H++R) w->CallsDIn Fence.wide 0 P f args m w fun e m2 w'=>∃v H',e= .returned v/\m2=m'/\Q H'/\Sat u (H'++R) w'
theorem RI{P:Program}{f:FuncId}{args:AH}{m:FrameMode}{w:AD}{G R2:Ending->FrameMode->AD->Prop}(h:CallsDIn Fence.wide 0 P f args m w G)(O:∀e I B,G e I B->R2 e I B):CallsDIn Fence.wide 0 P f args m w R2:=
 ⟨h.1,fun c cs hc U=>by
   obtain ⟨e,W,B,fr,J,h2⟩:=h.2 c cs hc U;exact ⟨e,W,B,fr,O _ _ _ J,h2⟩⟩
theorem gQ{P:Program}{fn:Func}{tmps:AH}{f:FuncId}{caps:AH}{m m':FrameMode}{w u:AD}{Hd Rr R:Hp}{Qd:Hp->Prop}{Q:A3->Hp->Prop}{Pn:List PanicEntry->Hp->Prop}
 (Z:m≠ .run)(J:settle m'= .returning)(hc:∀(args:AH) (w:AD),(callFunc f args).run P w= .ok (.enter f args) w)(X:Pv P f caps m m' Hd Qd)(hs:Sat u (Hd++Rr) w)
 (G:∀H1 B,Qd H1->Sat u (H1++Rr) B->∃v H',(results fn tmps).run P B= .ok v B/\Q v H'/\Sat u (H'++R) B):
 LeavesInM Fence.wide 0 P fn tmps (GY u R Q Pn) [⟨.fn (.func f) caps,#[]⟩] m w:=by
 refine ⟨Z,.inr ⟨fun h=>by simp [Fence.wide]at h,.func f,caps,f,caps,V,?_,fun _ _=>trivial,?_⟩⟩;· simp [invoke,hc]
 · refine RI (X u Rr w hs) ?_
   rintro e m2 B ⟨v,H1,rfl,rfl,hq,I⟩;obtain ⟨O,H',U,h2,W⟩:=G H1 B hq I;show LeavesInM Fence.wide 0 P fn tmps (GY u R Q Pn) [] (settle m2) B
   rw [J];exact ⟨O,U,.inl ⟨O,H',V,h2,W⟩⟩
section
variable{P:Program}{N:Nat}{u:AD}{fn:Func}{R H Hd Rr:Hp}{Q:A3->Hp->Prop}{Pn:List PanicEntry->Hp->Prop}{env:Env}{e:Exit}{f:FuncId}{caps:AH}{Qd:Hp->Prop}{m':FrameMode}
end
def pW(P:Program)(ops:Array Oper)(l:List Nat)(cx:Cx)(cs:List Frame)(Q:Exit->Act->List Frame->AD->Prop)(env:Env)(H:Hp):Prop:=∀a w,St cx env H a w->wpOpsSIn Fence.wide 0 P ops Q l (puts env a) cs w
section
variable{P:Program}{ops:Array Oper}{l:List Nat}{i:Nat}{cx:Cx}{cs:List Frame}{Q:Exit->Act->List Frame->AD->Prop}{env:Env}{H:Hp}
theorem QV{d:Nat}{I:Op}{ty:AK}{pos:String}{af:Array Edge}{v:A3}(O:ops[i]?=some ⟨some d,I,ty,pos,af,none⟩)(h:OpP P ⟨some d,I,ty,pos,af,none⟩ env [] v)(J:Nat.blt d cx.N=true)
 (k:pW P ops l cx cs Q ((d,v)::env) H):pW P ops (i::l) cx cs Q env H:=fun a w G=>by
 have B:Fit a.tmps.size env:=by rw [G.size];exact G.fit
 simp only [wpOpsSIn,O];refine ⟨fun _ _=>trivial,?_⟩;rw [Fw ops _ a env B,show wantedE ops a env (⟨some d,I,ty,pos,af,none⟩:Oper).guard=true from rfl,Ax rfl,FX a env B,h a w B4];exact k a w ⟨G.size,G.defers,G.fit.cons J v,G.sat⟩
theorem gB{d:Nat}{ty:AK}{pos:String}{af:Array Edge}(J:ops[i]?=some ⟨some d,.call ⟨.builtin .recover,#[],#[]⟩,ty,pos,af,none⟩)(O:recoverD cs=none)(I:Nat.blt d cx.N=true)
 (k:pW P ops l cx cs Q ((d,.nilIface)::env) H):pW P ops (i::l) cx cs Q env H:=fun a w G=>by
 have B:Fit a.tmps.size env:=by rw [G.size];exact G.fit
 simp only [wpOpsSIn,J];refine ⟨fun _ _=>trivial,?_⟩;rw [Fw ops _ a env B,show wantedE ops a env (⟨some d,.call ⟨.builtin .recover,#[],#[]⟩,ty,pos,af,none⟩:Oper).guard=true from rfl,Ax rfl,FX a env B];have:(execOp (ev a env) ⟨some d,.call ⟨.builtin .recover,#[],#[]⟩,ty,pos,af,none⟩).run P w= .ok .recover w:=by
  simp [E5,resolve,invoke,builtin]
 rw [this];simp only [O];exact k a w ⟨G.size,G.defers,G.fit.cons I _,G.sat⟩
end
theorem YZ{P:Program}{f:FuncId}{fn:Func}{id:Nat}{ops:Array Oper}{y:Code}{args:AH}{N:Nat}{m m':FrameMode}{H:Hp}{Qd:Hp->Prop}{env1:Env}(hf:P.funcs[f]?=some fn)(hb:fn.body=some (.seq (.region id ops false) y))(hN:fn.ntmps=N)(hs:Nat.ble args.size N=true)(bn:fn.results=#[])
 (O:∀(u:AD) (R:Hp) (c:Frame) (cs:List Frame) (Q:Exit->Act->List Frame->AD->Prop),c.mode=m->(∀a w,St ⟨N,[],u,none⟩ env1 (H++R) a w->Q .normal (puts env1 a) ({c with mode:=m'}::cs) w)->pW P ops (List.range ops.size) ⟨N,[],u,none⟩ (c::cs) Q (Fa 0 args.toList) (H++R))
 (h:∀u R,At P ⟨N,[],u,none⟩ y (bodyPost P fn (GY u R (fun _ H'=>Qd H') (fun _ _=>False))) env1 (H++R)):Pv P f args m m' H Qd:=fun u R w U=>by
 have Z:args.size<=N:=eC hs;have J:puts (Fa 0 args.toList) {tmps:=args++Array.replicate (fn.ntmps -args.size) undef,defers:=[]}={tmps:=args++Array.replicate (fn.ntmps -args.size) undef,defers:=[]}:=by
  refine KM _ fun p hp=>?_;obtain ⟨_,h2⟩:=FO _ _ _ hp;simp only [SU,HR]at h2;have af:p.1<args.size:=by
   rcases E4 p.1 args.size with h|h
   · exact h
   · simp [IF h]at h2
  rw [fR af];exact h2
 refine callsDIn_of_wpSIn (F:=Fence.wide) hf hb trivial fun c₀ cs hm=>?_;rw [<-J];refine wpSIn_seq (wpSIn_region ?_);refine O u R c₀ cs _ hm (fun a w1 ax=>?_) _ w ⟨by simp [hN];omega,V,fun p hp=>?_,U⟩
 · refine wpSIn_of_wpIn rfl (wpIn_mono (h u R a w1 ax) ?_)
   intro e a2 w2 B;cases e with
   |normal=>
    obtain ⟨W,v,hr,I⟩:=B;rcases I with⟨v',H',G,h2,X⟩|⟨_,_,_,h4,_⟩
    · exact ⟨W,m',rfl,v,hr,v',H',G,rfl,h2,X⟩
    · exact h4.elim
   |ret=>
    obtain ⟨W,v,hr,I⟩:=B;rcases I with⟨v',H',G,h2,X⟩|⟨_,_,_,h4,_⟩
    · exact ⟨W,m',rfl,v,hr,v',H',G,rfl,h2,X⟩
    · exact h4.elim
   |panic ch=>
    obtain ⟨W,I⟩:=B;rcases I with⟨_,_,G,_⟩|⟨_,_,_,h4,_⟩
    · cases G
    · exact h4.elim
   |outgrown=>
    rcases B with⟨_,_,G,_⟩|⟨_,_,_,h4,_⟩
    · cases G
    · exact h4.elim
   |exit i=>exact B.elim
   |goto i=>exact B.elim
 · obtain ⟨_,h2⟩:=FO _ _ _ hp
   simp only [SU,HR]at h2;rcases E4 p.1 args.size with h|h
   · exact mm h Z
   · simp [IF h]at h2
section
variable{P:Program}{ops:Array Oper}{l:List Oper}{cx:Cx}{Q:Exit->Act->AD->Prop}{env:Env}{H:Hp}
theorem fw{f:FuncId}{x:Operand}{v:A3}{G:Array AK}{ty:AK}{pos:String}{af:Array Edge}(U:cx.r=none)(hx:∀a,ev a env x=v)
 (k:Ops P ops l ⟨cx.N,⟨.fn (.func f) #[],#[v]⟩::cx.D,cx.u,cx.r⟩ Q env H):Ops P ops (⟨none,.defer ⟨.value (.func f),#[x],G⟩,ty,pos,af,none⟩::l) cx Q env H:=fun a w I=>by
 have B:Fit a.tmps.size env:=by rw [I.size];exact I.fit
 simp only [wpL];rw [Fw ops _ a env B,show wantedE ops a env (⟨none,.defer ⟨.value (.func f),#[x],G⟩,ty,pos,af,none⟩:Oper).guard=true from rfl,Ax rfl];refine ⟨fun _ _=>trivial,?_⟩;have J:(Fx cx.r).round=none:=U
 rw [J,Oper.semAt_none,FX a env B];have O:ev a env (.func f)= .func (.func f) #[] #[]:=rfl
 have:(execOp (ev a env) ⟨none,.defer ⟨.value (.func f),#[x],G⟩,ty,pos,af,none⟩).run P w= .ok (.defer ⟨.fn (.func f) #[],#[v]⟩) w:=by
  simp [execOp,resolve,O,hx a,Deferred.ofValue]
 rw [this,Oper.uponIn_defer];have h:=k {a with defers:=⟨.fn (.func f) #[],#[v]⟩::cx.D} w ⟨I.size,rfl,I.fit,I.sat⟩
 have e:puts env {a with defers:=⟨.fn (.func f) #[],#[v]⟩::cx.D}={puts env a with defers:=⟨.fn (.func f) #[],#[v]⟩::(puts env a).defers}:=by
  rw [FI,Fp,I.defers]
 rw [e]at h;exact h
end
theorem gP{P:Program}{fn:Func}{tmps:AH}{fa f:FuncId}{va caps:AH}{ma m':FrameMode}{w u:AD}{Hd Rr R:Hp}{Qd:Hp->Prop}{Q:A3->Hp->Prop}{Pn:List PanicEntry->Hp->Prop}
 (W:settle ma= .returning)(J:∀(args:AH) (w:AD),(callFunc fa args).run P w= .ok (.enter fa args) w)(O:Pv P fa va .returning ma [] (fun H'=>H'=[]))
 (U:settle m'= .returning)(hc:∀(args:AH) (w:AD),(callFunc f args).run P w= .ok (.enter f args) w)(X:Pv P f caps .returning m' Hd Qd)(Z:Sat u (Hd++Rr) w)
 (G:∀H1 B,Qd H1->Sat u (H1++Rr) B->∃v H',(results fn tmps).run P B= .ok v B/\Q v H'/\Sat u (H'++R) B):
 LeavesInM Fence.wide 0 P fn tmps (GY u R Q Pn) [⟨.fn (.func fa) #[],va⟩,⟨.fn (.func f) caps,#[]⟩] .returning w:=by
 refine ⟨by simp,.inr ⟨fun h=>by simp [Fence.wide]at h,.func fa,#[],fa,va,V,?_,fun _ _=>trivial,?_⟩⟩;· simp [invoke,J]
 · refine RI (O u (Hd++Rr) w Z) ?_
   rintro e m2 B ⟨v,H1,rfl,rfl,rfl,I⟩;show LeavesInM Fence.wide 0 P fn tmps (GY u R Q Pn) [⟨.fn (.func f) caps,#[]⟩] (settle m2) B
   rw [W];exact gQ B4 U hc X I G
section
variable{P:Program}{N:Nat}{u:AD}{fn:Func}{R H Hd Rr:Hp}{Q:A3->Hp->Prop}{Pn:List PanicEntry->Hp->Prop}{env:Env}{e:Exit}{fa f:FuncId}{va caps:AH}{Qd:Hp->Prop}{ma m':FrameMode}
theorem tL(he:Fb e=true)(X:settle ma= .returning)(O:∀(args:AH) (w:AD),(callFunc fa args).run P w= .ok (.enter fa args) w)(U:Pv P fa va .returning ma [] (fun H'=>H'=[]))
 (W:settle m'= .returning)(hc:∀(args:AH) (w:AD),(callFunc f args).run P w= .ok (.enter f args) w)(hd:Pv P f caps .returning m' Hd Qd)(hp:Ev Hd H Rr)
 (I:∀H1,Qd H1->∃v H',(∀(a:Act) (w:AD),Fit a.tmps.size env->Sat u (H1++Rr) w->(results fn (puts env a).tmps).run P w= .ok v w)/\Q v H'/\wW (H'++R) (H1++Rr)):
 Nx ⟨N,[⟨.fn (.func fa) #[],va⟩,⟨.fn (.func f) caps,#[]⟩],u,none⟩ (bodyPostM Fence.wide 0 P fn (GY u R Q Pn) e) env H:=fun a w J=>by
 have Z:(puts env a).defers=[⟨.fn (.func fa) #[],va⟩,⟨.fn (.func f) caps,#[]⟩]:=by rw [Fp];exact J.defers
 have G:LeavesInM Fence.wide 0 P fn (puts env a).tmps (GY u R Q Pn) (puts env a).defers .returning w:=by
  rw [Z];refine gP X O U W hc hd (J.sat.perm hp.perm) fun H1 w' hq B=>?_;obtain ⟨v,H',h2,h3,h4⟩:=I H1 hq;exact ⟨v,H',h2 a w' (by rw [J.size];exact J.fit) B,h3,B.sub h4⟩
 cases e<;>first|exact G|simp [Fb]at he
end
theorem bQ{P:Program}{f:FuncId}{fn:Func}{y:Code}{args:AH}{N:Nat}{m:FrameMode}{H:Hp}{Qd:Hp->Prop}(hf:P.funcs[f]?=some fn)(hb:fn.body=some y)(hN:fn.ntmps=N)(hs:Nat.ble args.size N=true)
 (h:∀u R,At P ⟨N,[],u,none⟩ y (bodyPost P fn (GY u R (fun _ H'=>Qd H') (fun _ _=>False))) (Fa 0 args.toList) (H++R)):Pv P f args m m H Qd:=fun u R w U=>by
 have af:args.size<=N:=eC hs;have O:puts (Fa 0 args.toList) {tmps:=args++Array.replicate (fn.ntmps -args.size) undef,defers:=[]}={tmps:=args++Array.replicate (fn.ntmps -args.size) undef,defers:=[]}:=by
  refine KM _ fun p hp=>?_;obtain ⟨_,h2⟩:=FO _ _ _ hp;simp only [SU,HR]at h2;have ax:p.1<args.size:=by
   rcases E4 p.1 args.size with h|h
   · exact h
   · simp [IF h]at h2
  rw [fR ax];exact h2
 refine callsDIn_of_wpSIn (F:=Fence.wide) hf hb trivial fun X cs hm=>?_;have J:({X with mode:=m}:Frame)=X:=by cases X;simp only at hm;subst hm;rfl
 rw [<-O];refine wpSIn_of_wpIn V (wpIn_mono (h u R _ w ⟨by simp [hN];omega,V,fun p hp=>?_,U⟩) ?_)
 · obtain ⟨_,h2⟩:=FO _ _ _ hp
   simp only [SU,HR]at h2;rcases E4 p.1 args.size with h|h
   · exact mm h af
   · simp [IF h]at h2
 · intro e a2 w2 B
   cases e with
   |normal=>
    obtain ⟨W,v,hr,I⟩:=B;rcases I with⟨v',H',G,h2,Z⟩|⟨_,_,_,h4,_⟩
    · exact ⟨W,m,by rw [J],v,hr,v',H',G,rfl,h2,Z⟩
    · exact h4.elim
   |ret=>
    obtain ⟨W,v,hr,I⟩:=B;rcases I with⟨v',H',G,h2,Z⟩|⟨_,_,_,h4,_⟩
    · exact ⟨W,m,by rw [J],v,hr,v',H',G,rfl,h2,Z⟩
    · exact h4.elim
   |panic ch=>
    obtain ⟨W,I⟩:=B;rcases I with⟨_,_,G,_⟩|⟨_,_,_,h4,_⟩
    · cases G
    · exact h4.elim
   |outgrown=>
    rcases B with⟨_,_,G,_⟩|⟨_,_,_,h4,_⟩
    · cases G
    · exact h4.elim
   |exit i=>exact B.elim
   |goto i=>exact B.elim
section
variable{P:Program}{u:AD}{env:Env}{H R:Hp}{d:Option Nat}{ty:AK}{pos:String}{af:Array Edge}{g:Option (Nat×Bool)}
theorem vJ{t e:AK}{f0 f1 f2 f3:Field}(w:AD)(n:Nat)(x0 x1 x2 x3 y0 y1 y2 y3:Int)(hu:P.underlying t=some (.struct #[f0,f1,f2,f3]))(hst:P.stoodInHeld t=false)
 (h0:f0.name≠ "_"∧f0.type=e∧f0.offset=0)(h1:f1.name≠ "_"∧f1.type=e∧f1.offset=1)(h2:f2.name≠ "_"∧f2.type=e∧f2.offset=2)(h3:f3.name≠ "_"∧f3.type=e∧f3.offset=3)
 (he:P.underlying e=some (.int .i64))(ha:∀w:AD,(isAgg e).run P w= .ok false w):
 (Op.equalIn (n+2) t (.agg #[I4 x0,I4 x1,I4 x2,I4 x3]) (.agg #[I4 y0,I4 y1,I4 y2,I4 y3])).run P w= .ok (decide (x0=y0/\x1=y1/\x2=y2/\x3=y3)) w:=by
 obtain ⟨n0,e0,o0⟩:=h0;obtain ⟨n1,e1,o1⟩:=h1;obtain ⟨n2,e2,o2⟩:=h2;obtain ⟨n3,e3,o3⟩:=h3;have ei:∀(m k:Int) (w:AD),(Op.equalIn (n+1) e (I4 m) (I4 k)).run P w= .ok (decide (m=k)) w:=fun m k w=>Pf n w he m k
 have p0:∀(v0 v1 v2 v3:A3) (w:AD),(part e #[v0,v1,v2,v3] 0).run P w= .ok v0 w:=fun _ _ _ _ w=>F4 w (ha w) _ _ rfl;have p1:∀(v0 v1 v2 v3:A3) (w:AD),(part e #[v0,v1,v2,v3] 1).run P w= .ok v1 w:=fun _ _ _ _ w=>F4 w (ha w) _ _ rfl
 have p2:∀(v0 v1 v2 v3:A3) (w:AD),(part e #[v0,v1,v2,v3] 2).run P w= .ok v2 w:=fun _ _ _ _ w=>F4 w (ha w) _ _ rfl;have p3:∀(v0 v1 v2 v3:A3) (w:AD),(part e #[v0,v1,v2,v3] 3).run P w= .ok v3 w:=fun _ _ _ _ w=>F4 w (ha w) _ _ rfl
 rw [show n+2=(n+1)+1 from rfl,Op.equalIn];generalize n+1=m at*;simp only [Sem.run_bind,run_underlying hu,Result.andThen_ok,run_program,hst,Mn,HO];rw [<-pP];simp only [kA,nd,n0,n1,n2,n3,e0,e1,e2,e3,o0,o1,o2,o3,ne_eq,ie,Hj];simp only [Sem.run_bind,p0,p1,p2,p3,ei,Result.andThen_ok];by_cases c0:x0=y0
 · by_cases c1:x1=y1
   · by_cases c2:x2=y2
     · by_cases c3:x3=y3<;>simp [c0,c1,c2,c3,p0,p1,p2,p3,ei,n1,n2,n3]
     · simp [c0,c1,c2,p0,p1,p2,p3,ei,n1,n2,n3]
   · simp [c0,c1,p0,p1,p2,p3,ei,n1,n2,n3]
 · simp [c0,p0,p1,p2,p3,ei,n1,n2,n3]
theorem ZO{t yt e:AK}{f0 f1 f2 f3:Field}{x y:Operand}{x0 x1 x2 x3 y0 y1 y2 y3:Int}(hg:P.eqGuardType P.depth t=false)(hu:P.underlying t=some (.struct #[f0,f1,f2,f3]))(hst:P.stoodInHeld t=false)
 (h0:f0.name≠ "_"∧f0.type=e∧f0.offset=0)(h1:f1.name≠ "_"∧f1.type=e∧f1.offset=1)(h2:f2.name≠ "_"∧f2.type=e∧f2.offset=2)(h3:f3.name≠ "_"∧f3.type=e∧f3.offset=3)
 (he:P.underlying e=some (.int .i64))(ha:∀w:AD,(isAgg e).run P w= .ok false w)
 (hx:∀a,ev a env x= .agg #[I4 x0,I4 x1,I4 x2,I4 x3])(hy:∀a,ev a env y= .agg #[I4 y0,I4 y1,I4 y2,I4 y3]):OpP P ⟨d,.binOp .eql t x y yt,ty,pos,af,g⟩ env [] (.bool (decide (x0=y0/\x1=y1/\x2=y2/\x3=y3))):=fun a w _=>by
 simp [Cc,hx a,hy a,go_sem,run_eqGuard_agg w _ t _ _ _ _ hg,Js,Op.equal,Op.maxDepth,vJ w 9998 x0 x1 x2 x3 y0 y1 y2 y3 hu hst h0 h1 h2 h3 he ha]
end
def IU(b:Nat)(o:Obj)(s:List A9):List A9:=s.map fun p=>if p.1=b then(b,o)else p
theorem ku(b:Nat)(o:Obj)(s:List A9):(IU b o s).map (·.1)=s.map (·.1):=by
 unfold IU;rw [LN];apply W7;intro p _;show(if p.1=b then(b,o)else p).1=p.1
 split;· rename_i h;exact h.symm
 · rfl
theorem qH{b:Nat}{o:Obj}{s:List A9}{p:A9}(h:p∈IU b o s):p=(b,o)\/(p.1≠b/\p∈s):=by
 obtain ⟨q,B,e⟩:=C3.1 h;split at e;· exact .inl e.symm
 · rename_i hn;subst e;exact .inr ⟨hn,B⟩
theorem Yh{u w G:AD}{H R:Hp}{s:List A9}{b:Nat}{o o':Obj}(B:Sat u H w)(X:One s H R)(hm:(b,o)∈s)(e1:G.os=w.os)(e2:G.tape=w.tape)(W:G.output=w.output)
 (Z:G.heap[b]?=some o')(U:∀k,k≠b->G.heap[k]?=w.heap[k]?):Sat u (IU b o' s::R) G:=by
 have O:=X.perm;have hn:((s++R.flatten).map (·.1)).Nodup:=(O.map _).nodup_iff.1 B.nodup
 refine ⟨e1.trans B.os,e2.trans B.tape,W.trans B.output,?_,fun p I=>?_⟩;· rw [CA,C2,ku,<-C2];exact hn
 · rw [CA]at I
   rcases Bm.1 I with h|h
   · rcases qH h with rfl|⟨h2,h3⟩
     · exact Z
     · rw [U _ h2];exact B.get p (O.mem_iff.2 (E7 _ h3))
   · have J:p.1≠b:=fun e=>by
      rw [C2,HA]at hn;exact hn.2.2 b (C3.2 ⟨_,hm,V⟩) p.1 (DS h) e.symm
     rw [U _ J];exact B.get p (O.mem_iff.2 (GB _ h))
theorem FB{P:Program}{cx:Cx}{c:Code}{Q:Exit->Act->AD->Prop}{env:Env}{H R:Hp}{s:List A9}(G:One s H R)(k:(s.map (·.1)).Nodup->At P cx c Q env H):At P cx c Q env H:=fun a w B=>k (by
 have:=B.sat.nodup;rw [(G.perm.map (·.1)).nodup_iff,C2]at this;exact (HA.1 this).1) a w B
theorem wF{P:Program}{cx:Cx}{c:Code}{Q:Exit->Act->AD->Prop}{env:Env}{H R R2:Hp}{s:List A9}{b:Nat}{y:Obj}(G:One [(b,y)] H R)(h2:One s R R2)(k:b∉s.map (·.1)->At P cx c Q env H):At P cx c Q env H:=fun a w B=>k (fun I=>by
 have:=B.sat.nodup;rw [((G.perm.trans (PJ _ h2.perm)).map (·.1)).nodup_iff,C2,C2]at this;exact (HA.1 this).2.2 b B4 b (E7 _ I) V) a w B
theorem FR{s:List A9}{H R:Hp}(h:One s H R){b:Nat}{x:Obj}(B:(b,x)∈s):(b,x)∈H.flatten:=h.perm.mem_iff.2 (E7 _ B)
theorem Gd{s:List A9}{H R:Hp}(h:One s H R){p:A9}(B:p∈s):∀c∈[p],c∈H.flatten:=fun c hc=>by
 rw [C1.1 hc];exact h.perm.mem_iff.2 (E7 _ B)
section
variable{P:Program}{u:AD}{env:Env}{H R:Hp}{d:Option Nat}{ty:AK}{pos:String}{af:Array Edge}{g:Option (Nat×Bool)}
theorem Gr{t:AK}{x y:Operand}{b i:Nat}{c:AH}{T:AK}{z:Nat×Nat}{v:A3}{s X:List A9}(hs:∀w:AD,(Go.sizeOf t).run P w= .ok 1 w)(hx:∀a,ev a env x= .pointer (some ⟨b,i,none⟩))(hy:∀a,ev a env y=v)(J:v.oneCell'=true)
 (W:One s H R)(U:(b,.cells c T z)∈s)(hc:IU b (.cells (c.setIfInBounds i v) T z) s=X)(hi:i<c.size)(hz:Ik z c.size):
 OpW P u ⟨d,.store t x y,ty,pos,af,g⟩ env H (fun v' H1=>v'=undef/\H1=X::R) (fun _ _=>False):=fun a w G K Kp Z _=>by
 have O:=G.get _ (W.perm.mem_iff.2 (E7 _ U));have B:v.cells=#[v]:=by cases v<;>first|rfl|simp [Value.oneCell']at J
 have I:=Jy (P:=P) O hi hz J;have:(execOp (ev a env) ⟨d,.store t x y,ty,pos,af,g⟩).run P w= .ok .skip (w.setCell ⟨b,i,none⟩ v):=by
  simp [Rj,hx a,hy a,Instr.storeAt,Instr.sureAddr,storeVar,hs,B,storeCells,Addr.add_zero',I]
 rw [this];exact Z _ _ _ ⟨V,V⟩ (hc▸Yh G W U V rfl V (PW v O) fun k hk=>La v hk)
theorem OV{t:AK}{x y:Operand}{b i n:Nat}{c cs:AH}{T:AK}{z:Nat×Nat}{s U:List A9}(hs:∀w:AD,(Go.sizeOf t).run P w= .ok n w)(hx:∀a,ev a env x= .pointer (some ⟨b,i,none⟩))(hy:∀a,ev a env y= .agg cs)(W:∀v∈cs.toList,v.oneCell'=true)
 (O:One s H R)(J:(b,.cells c T z)∈s)(hc:IU b (.cells (EO c i cs.toList) T z) s=U)(hn:cs.size=n)(hi:i+n<=c.size)(hz:Ik z c.size):
 OpW P u ⟨d,.store t x y,ty,pos,af,g⟩ env H (fun v' H1=>v'=undef/\H1=U::R) (fun _ _=>False):=fun a w B K Kp X _=>by
 have I:=B.get _ (O.perm.mem_iff.2 (E7 _ J));have G:=Cg (P:=P) b i T z cs.toList 0 c w I hz (by simp;omega) W
 simp only [Rg]at G;have:(execOp (ev a env) ⟨d,.store t x y,ty,pos,af,g⟩).run P w= .ok .skip (w.setRow b (EO c i cs.toList)):=by
  simp [Rj,hx a,hy a,Instr.storeAt,Instr.sureAddr,storeVar,hs,Value.cells,hn,G,EO]
 rw [this];exact X _ _ _ ⟨rfl,rfl⟩ (hc▸Yh B O J rfl rfl rfl (by rw [setRow_heap w b c _ T z I]) fun k Z=>setRow_other w b k _ Z)
end
end Gw
namespace Gw
open Go Go.RowKit
open Go.ChangeMaps (setBlock)
section
variable{α:Type}{P:Program}{κ:α->A3}{D:α->Prop}{u:AD}{env:Env}{H R:Hp}{d:Option Nat}{ty:AK}{pos:String}{af:Array Edge}{g:Option (Nat×Bool)}{t kt et:AK}{m x y:Operand}{r:Nat}{es:Array MapEntry}{clock:Nat}{l:List (α×A3)}{k:α}{z v:A3}
def zM(es:Array MapEntry)(j st:Nat):Prop:=∃e,es.toList[j]?=some e/\e.born=st
theorem tT{es:Array MapEntry}{j:Nat}{e0:MapEntry}{kv:A3}(h:es[j]?=some e0)(G:e0.key=kv):(es.modify j fun e=>{e with key:=kv})=es:=by
 obtain ⟨J,B⟩:=HU.1 h;apply kh B4;intro i I h2;rw [Array.getElem_modify];split
 · rename_i e;subst e
   rw [B];subst G;rfl
 · rfl
theorem Kk [DecidableEq α]{v0:A3}(hK:Fv P kt κ D)(ht:P.underlying t=some (.map kt et))(hz:∀w:AD,(zeroValue et).run P w= .ok z w)(I:Cm κ es clock l)(hl:∀p∈l,D p.1)(hk:D k)(hv:(EK k l).getD z=v0)(hx:∀a,ev a env m= .map (some r))(hy:∀a,ev a env x=κ k)(U:One [(r,.map es clock)] H R):
 OpW P u ⟨d,.mapEntry t m x,ty,pos,af,g⟩ env H (fun v' H1=>∃G B O j st,v'= .tuple #[v0,I4 ((st:Nat):Int)]/\Cm κ G B O/\O[j]?=some (k,v0)/\zM G j st/\(∀p,p∈O↔p=(k,v0)\/(p∈l/\p.1≠k))/\H1=[(r,.map G B)]::R) (fun _ _=>False):=fun a w W K Kp d9 _=>by
 obtain ⟨hb,_⟩:=Jd U W (.map es clock)
 suffices hrun:∃G B O j st,(Instr.mapEntry t (.map (some r)) (κ k)).run P w= .ok (.tuple #[v0,I4 ((st:Nat):Int)]) (setBlock w r (.map G B))/\Cm κ G B O/\O[j]?=some (k,v0)/\zM G j st/\∀p,p∈O↔p=(k,v0)\/(p∈l/\p.1≠k) by
  obtain ⟨G,B,O,j,st,h1,h2,h3,h4,h5⟩:=hrun;have:(execOp (ev a env) ⟨d,.mapEntry t m x,ty,pos,af,g⟩).run P w= .ok (.value (.tuple #[v0,I4 ((st:Nat):Int)])) (setBlock w r (.map G B)):=by
   show((do pure (Next.value (<-Instr.mapEntry t (ev a env m) (ev a env x))):Sem Next)).run P w=_;rw [hx a,hy a,Sem.run_bind,h1];rfl
  rw [this];exact d9 _ _ _ ⟨G,B,O,j,st,V,h2,h3,h4,h5,V⟩ (Jd U W _).2
 rcases IB hK I hl w k hk with⟨h1,h2⟩|⟨j,q,h1,h2⟩
 · rw [Da h2]at hv
   subst hv;refine ⟨es.push {key:=κ k,val:=z,born:=clock},clock+1,l++[(k,z)],l.length,clock,?_,⟨?_,?_,?_,?_⟩,by simp,⟨{key:=κ k,val:=z,born:=clock},by rw [<-I.size];simp,rfl⟩,?_⟩
   · simp only [Instr.mapEntry,Sem.run_bind,run_underlying ht,Result.andThen,MapKept.run_getObj_map hb,F3 hK hk,h1,hz,Fh hb,Sem.run_pure]
     rfl
   · simp [I.pairs]
   · simp only [mx,C2,Ek,Kf]
     rw [HA];refine ⟨I.born,by simp,?_⟩;intro a ha b J ax;simp only [C3,C1]at ha J;obtain ⟨e,Z,rfl⟩:=ha;have:=I.old e Z
     omega
   · intro e Z
     simp only [mx,Bm,C1]at Z;rcases Z with Z|rfl
     · have:=I.old e Z;omega
     · simp
   · rw [C2,HA]
     refine ⟨I.keys,by simp,?_⟩;intro a ha b J ax;simp only [Ek,Kf,C1]at J;obtain ⟨p,hp,rfl⟩:=C3.1 ha;exact h2 p hp (by rw [ax,J])
   · intro p
     rw [Bm,C1];constructor
     · rintro (h|rfl)
       · exact .inr ⟨h,h2 p h⟩
       · exact .inl rfl
     · rintro (rfl|⟨h,_⟩)
       · exact .inr rfl
       · exact .inl h
 · obtain ⟨e0,bn,cu,gm⟩:=I.of h2
   have hq:EK k l=some q:=Cy I.keys (Dg h2);rw [hq]at hv;subst hv;have X:es[j]?=some e0:=by simpa using bn
   have ek:(Instr.keyThatStays (((es[j]?).map (·.key)).getD (κ k)) (κ k)).run P w= .ok (κ k) w:=by
    rw [X];show(Instr.keyThatStays e0.key (κ k)).run P w=_
    rw [cu];exact hK.stays w k hk
   refine ⟨es,clock,l,j,e0.born,?_,I,h2,⟨e0,bn,V⟩,fun p=>⟨fun h=>?_,fun h=>?_⟩⟩
   · simp only [Instr.mapEntry,Sem.run_bind,run_underlying ht,Result.andThen,MapKept.run_getObj_map hb,F3 hK hk,h1,ek,Fh hb,Sem.run_pure]
     rw [tT X cu,X];rfl
   · by_cases cO:p.1=k
     · refine .inl ?_
       obtain ⟨i,hi⟩:=HE h;obtain rfl:=LU I.keys hi h2 cO;rw [h2]at hi;exact (SO hi).symm
     · exact .inr ⟨h,cO⟩
   · rcases h with rfl|⟨h,_⟩
     · exact Dg h2
     · exact h
theorem pG{es:Array MapEntry}{j st:Nat}(hn:(es.toList.map (·.born)).Nodup)(h:zM es j st):es.findIdx? (fun e=>(e.born:Int)==(st:Int))=some j:=by
 obtain ⟨e,I,U⟩:=h;have J:=(C4.1 I).1
 rw [show es.findIdx? (fun e=>(e.born:Int)==(st:Int))=es.toList.findIdx? (fun e=>(e.born:Int)==(st:Int)) from by rw [<-List.findIdx?_toArray,Array.toArray_toList],ab];refine ⟨J,?_,fun i hi=>?_⟩
 · have G:es.toList[j]=e:=(C4.1 I).2
   rw [G,U];simp
 · have B:i<es.toList.length:=by omega
   intro G;have W:(es.toList[i]).born=st:=by have O:=beq_iff_eq.1 G;omega
   have O:(es.toList.map (·.born))[i]?=(es.toList.map (·.born))[j]?:=by
    rw [E0,E0,I,B7 B];show some (es.toList[i]).born=some e.born
    rw [W,U]
   have:=(pS (by simpa using B) hn).1 O;omega
theorem J4{j st:Nat}{v0:A3}(O:Cm κ es clock l)(Z:l[j]?=some (k,v0))(hb:zM es j st)(hx:∀a,ev a env m= .map (some r))(hs:∀a,ev a env x=I4 ((st:Nat):Int))(hy:∀a,ev a env y=v)(I:One [(r,.map es clock)] H R):
 OpW P u ⟨d,.entryStore t m x y,ty,pos,af,g⟩ env H (fun v' H1=>v'=undef/\∃U G l',Cm κ U G l'/\(∀p,p∈l'↔p=(k,v)\/(p∈l/\p.1≠k))/\H1=[(r,.map U G)]::R) (fun _ _=>False):=fun a w J K Kp ax _=>by
 obtain ⟨W,_⟩:=Jd I J (.map es clock);obtain ⟨e0,bn,cu,cO⟩:=O.of Z;have X:(Instr.entryStore t (.map (some r)) (I4 ((st:Nat):Int)) v).run P w= .ok () (setBlock w r (.map (es.modify j fun e=>{e with val:=v}) clock)):=by
  simp only [Instr.entryStore,Sem.run_bind,Result.andThen,MapKept.run_getObj_map W,asInt,asIntOf,Sem.run_pure,pG O.born hb,Fh W]
 have:(execOp (ev a env) ⟨d,.entryStore t m x y,ty,pos,af,g⟩).run P w= .ok .skip (setBlock w r (.map (es.modify j fun e=>{e with val:=v}) clock)):=by
  show((do Instr.entryStore t (ev a env m) (ev a env x) (ev a env y);pure Next.skip):Sem Next).run P w=_;rw [hx a,hs a,hy a,Sem.run_bind,X];rfl
 rw [this];refine ax _ _ _ ⟨V,_,clock,l.set j (k,v),⟨?_,?_,?_,?_⟩,jo O.keys Z v,V⟩ (Jd I J _).2
 · rw [fc]
   apply Mu;intro i;have hj:(es.toList.map (fun e=>(e.key,e.val)))[i]?=(l.map (fun p=>(κ p.1,p.2)))[i]?:=by rw [O.pairs]
   rw [E0,E0]at hj;rw [E0,E0,fY,Th];by_cases B:j=i
   · subst B
     rw [Ax rfl,Ax (C4.1 Z).1,bn];simp [cu]
   · simpa [B]using hj
 · have:(es.modify j fun e=>{e with val:=v}).toList.map (·.born)=es.toList.map (·.born):=by
    rw [fc];apply Mu;intro i;simp only [E0,fY];by_cases B:j=i;· subst B;cases es.toList[j]?<;>simp
    · simp [B]
   rw [this];exact O.born
 · intro e he
   rw [fc]at he;obtain ⟨i,hi⟩:=HE he;simp only [fY]at hi;cases h9:es.toList[i]?with
   |none=>simp [h9]at hi
   |some e1=>
    have:=O.old e1 (Dg h9);by_cases B:j=i
    · subst B
      simp only [h9,Hj,Option.map_eq_map,NX,WD]at hi;subst hi;exact this
    · simp [h9,B]at hi
      subst hi;exact this
 · rw [aG Z v];exact O.keys
end
end Gw
namespace Gw
open Go Go.RowKit
def Kg{α:Type}(P:Program)(gf:FuncId)(lb:AH)(Hit:Hp)(A:List α->List A9->Prop)(encs:α->AH)(Adm Full:List α->Prop):Prop:=
 ∀(l:Nat) (J:List α->List A9->Prop),(∀pre s,J pre s->A pre s)->(∀pre x s,Adm (pre++[x])->J pre s->GD P l (encs x) [s] (fun v H'=>∃s',v= .bool true/\H'=[s']/\J (pre++[x]) s'))->
  ∀s,J [] s->BZ P gf (#[.func (.yield l) #[] #[]]++lb) (Hit++[s]) (fun _ H'=>∃ys s',Full ys/\H'=[s']/\J ys s')
theorem FD.toC{α:Type}{P:Program}{O:FuncId}{U:AH}{I:Hp}{A:List A9->Prop}{G:α->AH}{xs:List α}(h:FD P O U I A G xs):Kg P O U I (fun _=>A) G (fun p=>∃B,xs=p++B) (fun ys=>ys=xs):=fun l J X hy s h0=>
 (h l J X (fun pre x B s hx Z=>hy pre x s ⟨B,by rw [hx,D3];rfl⟩ Z) s h0).mono (by
   rintro v H' ⟨s',W,h2⟩;exact ⟨xs,s',V,W,h2⟩)
theorem JB{α:Type}{A:List α->List A9->Prop}{Adm Full:List α->Prop}{P:Program}{cx:Cx}{Q:Exit->Act->AD->Prop}{env:Env}{H af H0 R:Hp}{g:Operand}{ps:Array Tmp}{B U:Code}{gf:FuncId}{lb:AH}{G:α->AH}
 (I:List α->Hp->Prop)(E:α->Env->Hp->Prop)(hr:cx.r=none)(hg:∀a,ev a env g= .func (.func gf) #[] lb)(X:∀(args:AH) (w:AD),(callFunc gf args).run P w= .ok (.enter gf args) w)
 (Z:Kg P gf lb af A G Adm Full)(hA:∀pre H1 c d,I pre H1->A pre ([c,d]++H1.flatten))(cu:∀x,(G x).size=ps.size)(bn:(ps.toList.all fun t=>Nat.blt t cx.N)=true)(hp:Ev (af++H0) H R)(h0:I [] H0)
 (O:∀(l:Nat) (x:α) (u:AD) (H:Hp),At P ⟨cx.N,[],u,some l⟩ B (Exit.then (fun a w=>∃e Hn,E x e Hn/\Is ⟨cx.N,[],u,some l⟩ (e++env) (Hn++H) a w) (fun _ _ _=>False)) ((ps.toList.zip (G x).toList).reverse++env) H)
 (W:∀(l:Nat) (pre:List α) (x:α) (u:AD) (e:Env) (Hn H1 R1:Hp) (r0:Loop),Adm (pre++[x])->I pre H1->E x e Hn->At P ⟨cx.N,[],u,some l⟩ U (Ij u I (pre++[x]) ([(l,.loop r0)]::R1)) (e++env) (H1++(Hn++([(l,.loop r0)]::R1))))
 (hk:∀(D:Nat) (ys:List α) (H2:Hp),Full ys->I ys H2->Nx ⟨cx.N,⟨.collected D,#[]⟩::cx.D,cx.u,none⟩ (Q .normal) env ([(D,.deferred (some []))]::(H2++R))):At P cx (.rangeFunc g ps B U) Q env H:=
 NG (Hk:=[]) (St:=False) (Enc:=zB G) I (fun _ _=>False) (fun x _ _ e Hn=>E x e Hn) hr hg X (fun l J Jx ax hX hy s h9=>(Z l J ax (fun pre x s ha hj=>Ni (hy pre x s _ [] ha hj ⟨rfl,rfl⟩) fun v H' ⟨s',h1,h2⟩=>h2.elim (fun h=>⟨s',h.1,h1,h.2⟩) fun h=>(hX _ _ h.2).elim) s h9).mono (by rintro v H' ⟨ys,s',h1,h2,h3⟩;exact ⟨s',h2,.inl ⟨ys,h1,h3⟩⟩)) (fun _ _ h=>h) hA (fun x vs sx he=>by rw [he.1];exact cu x) bn hp h0
  (fun l x vs sx u H he=>by obtain ⟨rfl,rfl⟩:=he;exact O l x u H)
  (fun l pre x u vs sx e Hn H1 R1 r0 hx hI he hE=>by
    obtain ⟨rfl,rfl⟩:=he;exact UT (QF (W l pre x u e Hn H1 R1 r0 hx hI hE)) fun f h h1 h2=>by simp only [CA,HC,Fi,h,h1,h2];omega) (fun D ys H2 hf hI=>hk D ys H2 hf hI) fun _ _ _ h=>h.elim
theorem Pp{α:Type}{A:List A9->Prop}{P:Program}{cx:Cx}{Q:Exit->Act->AD->Prop}{env:Env}{H af H0 R:Hp}{g:Operand}{ps:Array Tmp}{B U:Code}{gf:FuncId}{lb:AH}{G:α->AH}{xs:List α}
 (I:List α->Hp->Prop)(E:α->Env->Hp->Prop)(hr:cx.r=none)(hg:∀a,ev a env g= .func (.func gf) #[] lb)(X:∀(args:AH) (w:AD),(callFunc gf args).run P w= .ok (.enter gf args) w)
 (Z:FD P gf lb af A G xs)(hA:∀pre H1 c d,I pre H1->A ([c,d]++H1.flatten))(bn:∀x,(G x).size=ps.size)(ax:(ps.toList.all fun t=>Nat.blt t cx.N)=true)(hp:Ev (af++H0) H R)(h0:I [] H0)
 (J:∀(l:Nat) (x:α) (u:AD) (H:Hp),At P ⟨cx.N,[],u,some l⟩ B (Exit.then (fun a w=>∃e Hn,E x e Hn/\Is ⟨cx.N,[],u,some l⟩ (e++env) (Hn++H) a w) (fun _ _ _=>False)) ((ps.toList.zip (G x).toList).reverse++env) H)
 (W:∀(l:Nat) (pre:List α) (x:α) (O:List α) (u:AD) (e:Env) (Hn H1 R1:Hp) (r0:Loop),xs=pre++x::O->I pre H1->E x e Hn->At P ⟨cx.N,[],u,some l⟩ U (Ij u I (pre++[x]) ([(l,.loop r0)]::R1)) (e++env) (H1++(Hn++([(l,.loop r0)]::R1))))
 (hk:∀(D:Nat) (H2:Hp),I xs H2->Nx ⟨cx.N,⟨.collected D,#[]⟩::cx.D,cx.u,none⟩ (Q .normal) env ([(D,.deferred (some []))]::(H2++R))):At P cx (.rangeFunc g ps B U) Q env H:=
 JB I E hr hg X Z.toC hA bn ax hp h0 J (fun l pre x u e Hn H1 R1 r0 ⟨O,h⟩=>W l pre x O u e Hn H1 R1 r0 (by rw [h,D3];rfl)) fun D ys H2 h hI=>hk D H2 (h▸hI)
theorem jB{α:Type}{A:List A9->Prop}{P:Program}{cx:Cx}{Q:Exit->Act->AD->Prop}{env:Env}{H O H0 R:Hp}{g:Operand}{ps:Array Tmp}{assign body:Code}{gf:FuncId}{lb:AH}{G:α->AH}{xs:List α}{l0:Nat}{r0:Loop}
 (I:List α->Hp->Prop)(E:α->Env->Hp->Prop)(hr:cx.r=some l0)(j5:Has l0 (.loop r0) H)(hg:∀a,ev a env g= .func (.func gf) #[] lb)(gm:∀(args:AH) (w:AD),(callFunc gf args).run P w= .ok (.enter gf args) w)
 (ic:FD P gf lb O A G xs)(hA:∀pre H1 c,I pre H1->A ([c]++H1.flatten))(qb:∀x,(G x).size=ps.size)(qa:(ps.toList.all fun t=>Nat.blt t cx.N)=true)(hp:Ev (O++H0) H R)(h0:I [] H0)
 (U:∀(l:Nat) (x:α) (u:AD) (H:Hp),At P ⟨cx.N,[],u,some l⟩ assign (Exit.then (fun a w=>∃e Hn,E x e Hn/\Is ⟨cx.N,[],u,some l⟩ (e++env) (Hn++H) a w) (fun _ _ _=>False)) ((ps.toList.zip (G x).toList).reverse++env) H)
 (ek:∀(l:Nat) (pre:List α) (x:α) (af:List α) (u:AD) (e:Env) (Hn H1 R1:Hp) (r1:Loop),xs=pre++x::af->I pre H1->E x e Hn->At P ⟨cx.N,[],u,some l⟩ body (Ij u I (pre++[x]) ([(l,.loop r1)]::R1)) (e++env) (H1++(Hn++([(l,.loop r1)]::R1))))
 (hk:∀(H2:Hp),I xs H2->Nx cx (Q .normal) env (H2++R)):At P cx (.rangeFunc g ps assign body) Q env H:=by
 intro a w hs;refine wpIn_rangeFunc ?_;intro fn qz;have qj:(Fx cx.r).round=some l0:=hr
 have pg:=hs.sat.get _ j5.mem;rw [qj];obtain ⟨B,J⟩:∃B:LoopState->Option Code->Loop,B=fun st pe=>{state:=st,pending:=pe,fn,tmps:=(puts env a).tmps,params:=ps,assign,body,defers:=r0.defers}:=⟨_,rfl⟩;have o9:Sat cx.u ((O++H0)++R) w:=hs.sat.perm hp.perm
 have l5:Sat cx.u ([(w.heap.size,.loop (B .ready none))]::(O++H0++R)) (w.alloc (.loop (B .ready none))):=o9.alloc (.loop (B .ready none));have gy:Fit a.tmps.size env:=by rw [hs.size];exact hs.fit
 refine ⟨w.heap.size,[],w.alloc (.loop (B .ready none)),⟨.fn (.func gf) lb,#[.func (.yield (w.heap.size)) #[] #[]]⟩,w.alloc (.loop (B .ready none)),gf,
  #[.func (.yield (w.heap.size)) #[] #[]]++lb,w.alloc (.loop (B .ready none)),?_,?_,fun _ _=>trivial,?_,fun h=>by simp [Fx,Fence.wide]at h,?_⟩
 · rw [J];exact run_enterLoop_inner pg _ _ _ _ _
 · simp only [resolve,FX a env gy,hg a]
   simp [Deferred.ofValue,ev,Act.eval]
 · simp [invoke,gm]
 · refine Y5 ?_
   have hJ:=ic (w.heap.size) (fun pre s=>∃H1,I pre H1/\s=[(w.heap.size,.loop (B .ready none))]++H1.flatten) (by rintro pre _ ⟨H1,h1,rfl⟩;exact hA pre H1 _ h1) ?_ _ ⟨H0,h0,rfl⟩
   · have j3:([(w.heap.size,Obj.loop (B .ready none))]::(O++H0++R)).flatten.Perm ((O++[[(w.heap.size,Obj.loop (B .ready none))]++H0.flatten])++R).flatten:=by
      simp only [CA,HC,Mb,RM,Ln,Fi,DG,D3];exact SJ.symm
     refine Calls.mono (hJ cx.u R _ (l5.perm j3)) fun e w2 he=>?_;rcases he with⟨v,H',rfl,⟨s',rfl,H2,d9,rfl⟩,l8⟩|⟨_,_,_,h,_⟩
     · have Z:Sat cx.u ([(w.heap.size,Obj.loop (B .ready none))]::(H2++R)) w2:=by
        refine l8.perm ?_;simp
       have hl:=Z.get (w.heap.size,Obj.loop (B .ready none)) B4;have X:=run_endLoop (P:=P) hl (by rw [J];simp)
       have q9:(B .ready none).pending=none:=by rw [J]
       have p9:=hk H2 d9 a (w2.putObj w.heap.size (.loop {B .ready none with state:= .exhausted}))
        ⟨hs.size,hs.defers,hs.fit,(Z.turn (o':= .loop {B .ready none with state:= .exhausted})).sub ⟨[(w.heap.size,.loop {B .ready none with state:= .exhausted})],by
          simp only [CA];exact Ly⟩⟩
       refine ⟨_,_,X,?_⟩;have key:∀(p:Option Code) (A:Act) (W:AD),p=none->Q .normal A W->(match p with|none=>Q .normal A W|some c=>c.wpIn (Fx cx.r) 0 P Q A W):=fun p A W h1 h2=>by subst h1;exact h2
       refine key _ _ _ q9 ?_;exact p9
     · exact h.elim
   · rintro pre x af s qx ⟨H1,hI,rfl⟩ u R1 w1 qw K Kp hK
     have cO:Sat u ([(w.heap.size,Obj.loop (B .ready none))]::(H1++R1)) w1:=by
      refine qw.perm ?_;simp
     have hl:=cO.get (w.heap.size,Obj.loop (B .ready none)) B4;have hy:=run_yield (P:=P) (args:=G x) hl (by rw [J];exact qb x)
     rw [hy];show RoundIn Fence.wide 0 P (w.heap.size) _ _ _ _ w1 _
     rw [J];refine roundIn_of_wpIn (F:=Fence.wide) trivial ?_;have qo:({tmps:=(ps.zip (G x)).foldl (fun tmps x=>match x with|(t,a)=>tmps.setIfInBounds t a) (puts env a).tmps,defers:=[]}:Act)=puts ((ps.toList.zip (G x).toList).reverse++env) {a with defers:=[]}:=by
      rw [Jh,FI [] env a];have h1:(ps.zip (G x)).foldl (fun tmps x=>match x with|(t,a)=>tmps.setIfInBounds t a) (puts env a).tmps=(puts (ps.toList.zip (G x).toList).reverse (puts env a)).tmps:=by
       rw [<-O6,<-pL,Array.toList_zip]
      rw [h1,FI [] _ (puts env a)]
     have gq:Fit cx.N ((ps.toList.zip (G x).toList).reverse++env):=by
      intro q hq;rcases Bm.1 hq with hq|hq
      · have:=cW.1 hq
        have h2:=NO.1 qa q.1 (List.of_mem_zip this).1;simpa using h2
      · exact hs.fit q hq
     have ha:=U (w.heap.size) x u ([(w.heap.size,Obj.loop (B .ready none))]::(H1++R1)) {a with defers:=[]} w1 ⟨hs.size,rfl,gq,cO⟩;rw [<-qo]at ha;refine wpIn_mono ha fun e a1 w2 he=>?_;cases e<;>first|exact he|skip
     obtain ⟨e9,Hn,hE,a2,ax,rfl⟩:=he;have cu:Sat u ([(w.heap.size,Obj.loop (B .ready none))]::(H1++(Hn++R1))) w2:=by
      refine ax.sat.perm ?_;simp only [CA,HC,Mb];refine SJ.trans (List.Perm.cons _ ?_);rw [<-D3,<-D3];exact Ly.append_right _
     have pq:=cu.get (w.heap.size,Obj.loop (B .ready none)) B4;refine ⟨_,run_beginRound pq (by rw [J]),?_⟩;have p8:Sat u (H1++(Hn++([(w.heap.size,Obj.loop {B .ready none with state:= .busy})]::R1))) (w2.putObj (w.heap.size) (.loop {B .ready none with state:= .busy})):=by
      refine (cu.turn (o':= .loop {B .ready none with state:= .busy})).perm ?_;simp only [CA,HC,Mb];rw [<-D3,<-D3];exact SJ.symm
     have hb:=ek (w.heap.size) pre x af u e9 Hn H1 R1 _ qx hI hE a2 _ ⟨ax.size,ax.defers,ax.fit,p8⟩;refine wpIn_mono hb fun e a3 w3 l9=>?_;cases e<;>first|exact l9.elim|skip
     obtain ⟨H2,d9,ql⟩:=l9;have bn:Sat u ([(w.heap.size,Obj.loop {B .ready none with state:= .busy})]::(H2++R1)) w3:=by
      refine ql.perm ?_;simp only [CA,HC,Mb];exact SJ
     have pz:=bn.get (w.heap.size,Obj.loop {B .ready none with state:= .busy}) B4;have X:=run_endRound (P:=P) none pz
     refine ⟨_,_,X,?_⟩;refine hK _ _ _ ⟨[(w.heap.size,.loop (B .ready none))]++H2.flatten,V,V,H2,d9,V⟩ ?_;have o8:=bn.turn (o':= .loop (B .ready none))
     have kv:({{B .ready none with state:=LoopState.busy}with state:=if(none:Option Code).isNone=true then LoopState.ready else .done,pending:=none}:Loop)=B .ready none:=by rw [J];rfl
     rw [kv];refine o8.perm ?_;simp
def NI{α:Type}(P:Program)(gf:FuncId)(lb:AH)(Hit:Hp)(A:List A9->Prop)(encs:α->AH)(xs:List α):Prop:=
 ∀(l:Nat) (J Jx:List α->List A9->Prop),(∀pre s,J pre s->A s)->(∀pre x post s,xs=pre++x::post->J pre s->GD P l (encs x) [s] (fun v H'=>∃s',H'=[s']/\((v= .bool true/\J (pre++[x]) s')\/(v= .bool false/\Jx (pre++[x]) s'))))->
  ∀s,J [] s->BZ P gf (#[.func (.yield l) #[] #[]]++lb) (Hit++[s]) (fun _ H'=>∃s',H'=[s']/\(J xs s'\/∃pre,Jx pre s'))
theorem NI.all{α:Type}{P:Program}{X:FuncId}{Z:AH}{G:Hp}{A:List A9->Prop}{B:α->AH}{xs:List α}(h:NI P X Z G A B xs):FD P X Z G A B xs:=fun l J hA hy s h0=>by
 refine (h l J (fun _ _=>False) hA (fun pre x O s hx hj=>?_) s h0).mono ?_
 · intro u R w hs K Kp hK
   refine hy pre x O s hx hj u R w hs K Kp fun v H' w' hq I=>hK v H' w' ?_ I;obtain ⟨W,U,h2,h3⟩:=hq;exact ⟨W,h2,.inl ⟨U,h3⟩⟩
 · rintro v H' ⟨W,U,h2|⟨_,h2⟩⟩
   · exact ⟨W,U,h2⟩
   · exact h2.elim
theorem YB{α:Type}{A:List A9->Prop}{P:Program}{cx:Cx}{Q:Exit->Act->AD->Prop}{env:Env}{H bn H0 R:Hp}{g:Operand}{ps:Array Tmp}{G W:Code}{gf:FuncId}{lb:AH}{O:α->AH}{xs:List α}
 (I Ix:List α->Hp->Prop)(E:α->Env->Hp->Prop)(hr:cx.r=none)(hg:∀a,ev a env g= .func (.func gf) #[] lb)(af:∀(args:AH) (w:AD),(callFunc gf args).run P w= .ok (.enter gf args) w)
 (ax:NI P gf lb bn A O xs)(hA:∀pre H1 c d,I pre H1->A ([c,d]++H1.flatten))(ek:∀x,(O x).size=ps.size)(d9:(ps.toList.all fun t=>Nat.blt t cx.N)=true)(hp:Ev (bn++H0) H R)(h0:I [] H0)
 (U:∀(l:Nat) (x:α) (u:AD) (H:Hp),At P ⟨cx.N,[],u,some l⟩ G (Exit.then (fun a w=>∃e Hn,E x e Hn/\Is ⟨cx.N,[],u,some l⟩ (e++env) (Hn++H) a w) (fun _ _ _=>False)) ((ps.toList.zip (O x).toList).reverse++env) H)
 (Z:∀(l:Nat) (pre:List α) (x:α) (B:List α) (u:AD) (e:Env) (Hn H1 R1:Hp) (r0:Loop),xs=pre++x::B->I pre H1->E x e Hn->At P ⟨cx.N,[],u,some l⟩ W (Ke u I Ix (pre++[x]) ([(l,.loop r0)]::R1)) (e++env) (H1++(Hn++([(l,.loop r0)]::R1))))
 (hk:∀(D:Nat) (X:Hp),I xs X->Nx ⟨cx.N,⟨.collected D,#[]⟩::cx.D,cx.u,none⟩ (Q .normal) env ([(D,.deferred (some []))]::(X++R)))
 (cO:∀(D:Nat) (pre:List α) (X:Hp),Ix pre X->Nx ⟨cx.N,⟨.collected D,#[]⟩::cx.D,cx.u,none⟩ (Q .ret) env ([(D,.deferred (some []))]::(X++R))):At P cx (.rangeFunc g ps G W) Q env H:=
 NG (Hk:=[]) (A:=fun _=>A) (St:=True) (Adm:=fun p=>∃B,xs=p++B) (Full:=fun ys=>ys=xs) (Enc:=zB O) I Ix (fun x _ _ e Hn=>E x e Hn) hr hg af (fun l J Jx cu _ hy s h9=>(ax l J Jx cu (fun pre x B s hx hj=>Ni (hy pre x s _ [] ⟨B,by rw [hx,D3];rfl⟩ hj ⟨rfl,rfl⟩) fun _ _ h=>h) s h9).mono (by rintro v H' ⟨s',h1,h2⟩;exact ⟨s',h1,h2.imp (fun h=>⟨xs,rfl,h⟩) id⟩)) (fun _ _ _=>trivial) hA (fun x vs sx he=>by rw [he.1];exact ek x) d9 hp h0
  (fun l x vs sx u H he=>by obtain ⟨rfl,rfl⟩:=he;exact U l x u H)
  (fun l pre x u vs sx e Hn H1 R1 r0 ⟨B,hx⟩ hI he hE=>by
    obtain ⟨rfl,rfl⟩:=he;exact UT (Z l pre x B u e Hn H1 R1 r0 (by rw [hx,D3];rfl) hI hE) fun f h h1 h2=>by simp only [CA,HC,Fi,h,h1,h2];omega) (fun D ys X hf hI=>by rw [hf]at hI;exact hk D X hI) cO
theorem UQ{P:Program}{cx:Cx}{G:Code}{Q:Exit->Act->AD->Prop}{env:Env}{M s1 s2:List A9}{H R:Hp}(I:One M H R)(J:M.Perm (s1++s2))(k:At P cx G Q env (s1::s2::R)):At P cx G Q env H:=fun a w B=>
 k a w ⟨B.size,B.defers,B.fit,B.sat.perm (by
   have:=I.perm.trans (oc R.flatten J);simpa only [CA,D3]using this)⟩
def Ud{κ:Type} [DecidableEq κ](sz:Nat)(e:AK)(lm:List (κ×A3))(n:κ->Nat)(xs:κ->List A3)(M:List A9):Prop:=
 ∃seg:κ->List A9,(∀k,Bd sz e ((EK k lm).getD (.slice none 0 0)) (n k) (xs k) (seg k))/\M.Perm ((lm.map (·.1)).flatMap seg)
theorem bC{κ:Type} [DecidableEq κ](sz:Nat)(e:AK):Ud sz e ([]:List (κ×A3)) (fun _=>0) (fun _=>[]) []:=⟨fun _=>[],fun _=>Bf _ _,.refl _⟩
theorem Qc{κ:Type} [DecidableEq κ]{sz:Nat}{e:AK}{lm:List (κ×A3)}{n:κ->Nat}{xs:κ->List A3}{M:List A9}(hk:(lm.map (·.1)).Nodup)(h:Ud sz e lm n xs M)(k:κ):
 ∃s M',Bd sz e ((EK k lm).getD (.slice none 0 0)) (n k) (xs k) s/\M.Perm (s++M')/\∀(v':A3) (s':List A9) (n':Nat) (xs':List A3) (B:List (κ×A3)),(B.map (·.1)).Nodup->(∀p,p∈B↔p=(k,v')\/(p∈lm/\p.1≠k))->Bd sz e v' n' xs' s'->
  Ud sz e B (fun x=>if x=k then n' else n x) (fun x=>if x=k then xs' else xs x) (s'++M'):=by
 obtain ⟨G,hr,hM⟩:=h;refine ⟨G k,((lm.map (·.1)).filter fun x=>decide (x≠k)).flatMap G,hr k,hM.trans ?_,?_⟩
 · by_cases W:k∈lm.map (·.1)
   · have J:(lm.map (·.1)).Perm (k::(lm.map (·.1)).filter fun x=>decide (x≠k)):=(S7 hk (Hc.2 ⟨by simp,hk.sublist Up⟩)).2 fun a=>by
      by_cases X:a=k
      · subst X;simp only [DB,true_or,iff_true];exact W
      · simp only [DB,FF,X,false_or,G3,ne_eq,ie,fL]
     have h2:=J.flatMap_right G;rwa [HW]at h2
   · have h0:=hr k
     rw [Da fun p O Z=>W (C3.2 ⟨p,O,Z⟩)]at h0;have hs:G k=[]:=by
      rcases h0 with⟨_,⟨_,_,h⟩|⟨g,cap,cur,z,h,_⟩⟩
      · exact h
      · simp at h
     have hf:((lm.map (·.1)).filter fun x=>decide (x≠k))=lm.map (·.1):=mT.2 fun a X=>by
      simp only [G3];intro h;subst h;exact W X
     rw [hs,hf];exact .refl _
 · intro v' s' n' xs' B U O af
   refine ⟨fun x=>if x=k then s' else G x,fun x=>?_,?_⟩
   · by_cases hx:x=k
     · subst hx
       simp only [Hj];rw [Cy U ((O _).2 (.inl rfl))];exact af
     · simp only [An hx]
       have hg:EK x B=EK x lm:=by
        by_cases W:∃v,(x,v)∈lm
        · obtain ⟨v,hv⟩:=W
          rw [Cy hk hv,Cy U ((O _).2 (.inr ⟨hv,hx⟩))]
        · rw [Da (l:=lm) fun p I Z=>W ⟨p.2,by rw [<-Z];exact I⟩,Da (l:=B) fun p I Z=>by
           rcases (O p).1 I with rfl|⟨J,_⟩
           · exact hx Z.symm
           · exact W ⟨p.2,by rw [<-Z];exact J⟩]
       rw [hg];exact hr x
   · have J:(B.map (·.1)).Perm (k::(lm.map (·.1)).filter fun x=>decide (x≠k)):=(S7 U (Hc.2 ⟨by simp,hk.sublist Up⟩)).2 fun a=>by
      simp only [DB,FF,C3,G3];constructor
      · rintro ⟨p,I,rfl⟩
        rcases (O p).1 I with rfl|⟨J,h2⟩
        · exact .inl rfl
        · exact .inr ⟨⟨p,J,rfl⟩,h2⟩
      · rintro (rfl|⟨⟨p,J,rfl⟩,h2⟩)
        · exact ⟨_,(O _).2 (.inl rfl),rfl⟩
        · exact ⟨p,(O p).2 (.inr ⟨J,h2⟩),rfl⟩
     have h2:=J.flatMap_right fun x=>if x=k then s' else G x
     rw [HW,Ax rfl]at h2;refine List.Perm.symm (h2.trans ?_);rw [List.flatMap_def,List.flatMap_def,W7 (g:=G) fun a X=>?_];rw [An (by simpa using(FF.1 X).2)]
theorem Ud.row{κ:Type} [DecidableEq κ]{sz:Nat}{e:AK}{lm:List (κ×A3)}{n:κ->Nat}{xs:κ->List A3}{M:List A9}(h:Ud sz e lm n xs M)(k:κ):∃s,Bd sz e ((EK k lm).getD (.slice none 0 0)) (n k) (xs k) s/\∀c∈s,c∈M:=by
 obtain ⟨B,I,J⟩:=h;refine ⟨B k,I k,fun c hc=>J.mem_iff.2 ?_⟩;by_cases G:k∈lm.map (·.1);· exact SM.2 ⟨k,G,hc⟩
 · have h0:=I k
   rw [Da fun p U O=>G (C3.2 ⟨p,U,O⟩)]at h0;rcases h0 with⟨_,⟨_,_,h⟩|⟨g,cap,cur,z,h,_⟩⟩
   · rw [h]at hc;cases hc
   · simp at h
def LY(D:Nat):A9:=(D,.deferred (some []))
def wX(N:Nat)(u:AD)(I:Nat->Env->Hp->Prop)(B:Env)(R:Hp)(n:Nat)(a:Act)(w:AD):Prop:=∃m e H Ds a0,m<n/\I m e H/\St ⟨N,Jl Ds,u,none⟩ (e++B) (Ds.map LY::(H++R)) a0 w/\a=puts (e++B) a0
theorem wG{P:Program}{N:Nat}{u:AD}{Q:Exit->Act->AD->Prop}{c:Code}{e0 B:Env}{H H0 R:Hp}(I:Nat->Env->Hp->Prop){n:Nat}(h0:I n e0 H0)(hp:Ev H0 H R)(U:∀(Ds:List Nat) n e H,I n e H->At P ⟨N,Jl Ds,u,none⟩ c (Exit.then (wX N u I B R n) Q) (e++B) (Ds.map LY::(H++R))):At P ⟨N,[],u,none⟩ (.loop c) Q (e0++B) H:=by
 intro a w W b k cs cO hb hr;have key:∀n Ds e H a w,I n e H->St ⟨N,Jl Ds,u,none⟩ (e++B) (Ds.map LY::(H++R)) a w->
  ∃x a' w',Q x a' w'/\ArrivesIn (Machine.fenced P (Fx none)) P (lone (b.atR (puts (e++B) a) (.code c:: .inLoop c::k)) cs w) b k cs x a' w':=by
  intro n;induction n using Nat.strongRecOn with
  |_ n ih=>
   intro Ds e H a w hI W;obtain ⟨x,Z,X,J,G⟩:=U Ds n e H hI a w W b (.inLoop c::k) cs cO hb hr;cases x with
   |normal=>
    obtain ⟨m,e',H',af,a0,bn,ax,d9,rfl⟩:=J;obtain ⟨e₂,a₂,w₂,cu,O⟩:=ih m bn af e' H' a0 X ax d9;exact ⟨e₂,a₂,w₂,cu,.of_steps (StepsIn.trans G (.one (fenced_calm hb hr V) stepR_inLoop)) O⟩
   |exit id=>exact ⟨_,Z,X,J,.pass (x:= .inLoop c) rfl (fun _ _=> .inl B4) G⟩
   |goto l=>exact ⟨_,Z,X,J,.pass (x:= .inLoop c) rfl (fun _ _=> .inl B4) G⟩
   |ret=>exact ⟨_,Z,X,J,.pass (x:= .inLoop c) rfl (fun _ _=> .inl B4) G⟩
   |panic ch=>exact ⟨_,Z,X,J,.pass (x:= .inLoop c) rfl (fun _ _=> .inl B4) G⟩
   |outgrown=>exact ⟨_,Z,X,J,.pass (x:= .inLoop c) rfl (fun _ _=> .inl B4) G⟩
 obtain ⟨x,a',w',J,G⟩:=key n [] e0 H0 a w h0 ⟨W.size,W.defers,W.fit,W.sat.perm (by simpa using hp.perm)⟩;exact ⟨x,a',w',J,.of_steps (.one (fenced_calm hb hr V) stepR_loop) G⟩
theorem gD{N:Nat}{u:AD}{Q:Exit->Act->AD->Prop}{I:Nat->Env->Hp->Prop}{B e':Env}{R H H1 O H':Hp}{n m D:Nat}{Ds:List Nat}(h:I m e' H')(U:One [(D,.deferred (some []))] H H1)(h2:One (Ds.map LY) H1 O)(X:m<n:=by omega)(hp:Sub (H'++R) O:=by repeat(first|exact Sub.refl _|exact Sub.nil _|(apply Sub.cons;(focus (repeat(first|exact One.here _ _|apply One.there))))|refine Sub.drop _ ?_)):
 Nx ⟨N,⟨.collected D,#[]⟩::Jl Ds,u,none⟩ ((Exit.then (wX N u I B R n) Q) .normal) (e'++B) H:=fun a w J=>by
 have G:Sat u (((D::Ds).map LY)::O) w:=J.sat.perm (by
  refine U.perm.trans ?_;have:=h2.perm
  simp only [CA,Ek,RM,Mb]at this⊢;exact this.cons _)
 refine ⟨m,e',H',D::Ds,a,X,h,⟨J.size,J.defers,J.fit,G.sub ?_⟩,V⟩;obtain ⟨Z,W⟩:=hp.amid;exact ⟨Z,by simp only [CA,D3];exact PJ _ W⟩
theorem tK{P:Program}{N:Nat}{u:AD}{fn:Func}{R H H0 H':Hp}{Q:A3->Hp->Prop}{Pn:List PanicEntry->Hp->Prop}{env:Env}{e:Exit}{Ds:List Nat}{v:A3}(he:Fb e=true)(hr:Res P fn env v)(hd:One (Ds.map LY) H H0)(hq:Q v H')(hp:Sub (H'++R) H0:=by repeat(first|exact Sub.refl _|exact Sub.nil _|(apply Sub.cons;(focus (repeat(first|exact One.here _ _|apply One.there))))|refine Sub.drop _ ?_)):
 Nx ⟨N,Jl Ds,u,none⟩ (bodyPostM Fence.wide 0 P fn (GY u R Q Pn) e) env H:=fun a w U=>by
 have h1:(puts env a).defers=Jl Ds:=by rw [Fp];exact U.defers
 have J:Sat u (Ds.map LY::(H'++R)) w:=by
  refine (U.sat.perm (by simpa using hd.perm):Sat u (Ds.map LY::H0) w).sub ?_;obtain ⟨Z,hZ⟩:=hp.amid;exact ⟨Z,by simp only [CA,D3];exact PJ _ hZ⟩
 have G:∀(Ds:List Nat) (w:AD),Sat u (Ds.map LY::(H'++R)) w->LeavesInM Fence.wide 0 P fn (puts env a).tmps (GY u R Q Pn) (Jl Ds) .returning w:=by
  intro Ds;induction Ds with
  |nil=>intro w W;exact ⟨v,hr a w (by rw [U.size];exact U.fit),.inl ⟨v,H',rfl,hq,W.perm B4⟩⟩
  |cons D Ds ih=>
   intro w W;have O:Sat u ([(D,.deferred (some []))]::(Ds.map LY::(H'++R))) w:=by
    refine W.perm ?_;simp [LY]
   have I:=O.get (D,.deferred (some [])) B4;have X:Sat u (Ds.map LY::(H'++R)) (w.putObj D (.deferred none)):=(O.turn (o':= .deferred none)).sub ⟨[(D,.deferred none)],by simp only [CA];exact Ly⟩
   refine ⟨by simp [Jl],.inl ⟨D,_,V,Ym I,?_⟩⟩;exact ih _ X
 have B:=G Ds w J;rw [<-h1]at B;cases e<;>first|exact B|simp [Fb]at he
section
variable{P:Program}{u:AD}{env:Env}{H:Hp}{d:Option Nat}{ty:AK}{pos:String}{af:Array Edge}{g:Option (Nat×Bool)}
theorem X4{t e l c by_ sz:Nat}{x y:Operand}{z:A3}{i:TypeInfo}{k k':IntKind}(hu:P.underlying t=some (.slice e))(hi:P.info? e=some i)(hs:i.size=sz)(O:i.bytes=by_)(U:i.zero=some z)
 (hx:∀a,ev a env x= .int k (l:Int))(hy:∀a,ev a env y= .int k' (c:Int))(ax:l<=c)(hc:c<=9223372036854775807)(hb:by_*c<=281474976710656):
 OpW P u ⟨d,.makeSlice t x y,ty,pos,af,g⟩ env H (fun v' H1=>∃b cur,v'=I6 b l c/\cur.size=c*sz/\H1=[(b,.cells cur e (0,0))]::H) (fun _ _=>False):=fun a w I K Kp hK _=>by
 have w1:IntKind.i64.wrap (l:Int)=(l:Int):=EF _ (by omega);have w2:IntKind.i64.wrap (c:Int)=(c:Int):=EF _ hc
 have J:¬((281474976710656:Int)<(by_:Int)*(c:Int)):=by
  rw [<-nB];omega
 have X:¬((c:Int)<0):=by omega
 have Z:¬((l:Int)<0):=by omega
 have h5:¬((c:Int)<(l:Int)):=by omega
 have B:∃cur:AH,cur.size=c*sz/\(Instr.makeSlice t (ev a env x) (ev a env y)).run P w= .ok (.slice (some ⟨w.heap.size,0,none⟩) l c) {w with heap:=w.heap.push (.cells cur e)}:=by
  refine ⟨(Array.range (c*sz)).map ((if c*sz=0 then(#[]:AH)else z.cells)[·%(if c*sz=0 then(#[]:AH)else z.cells).size]!),by simp,?_⟩;rw [hx a,hy a];unfold Instr.makeSlice;simp only [Sem.run_bind,run_underlying hu,Result.andThen_ok,asInt,asIntOf,Sem.run_pure,typeInfo,run_program,hi,O,w1,w2];simp only [X,Z,h5,J,gt_iff_lt,Nat.reducePow,aE,fk,Mn,HO,Int.reducePow,Int.cast_ofNat_Int];simp only [Sem.run_bind,run_askRoom,Result.andThen_ok,Go.sizeOf,typeInfo,run_program,hi,Sem.run_pure,hs,W8];by_cases h0:c*sz=0;· simp [h0,newRow]
  · have W:(zeroValue e).run P w= .ok z w:=by simp [zeroValue,typeInfo,hi,U]
    simp only [h0,HO,Sem.run_bind,W,Result.andThen_ok,Sem.run_pure,newRow,run_newObj]
 obtain ⟨cur,G,B⟩:=B;have:(execOp (ev a env) ⟨d,.makeSlice t x y,ty,pos,af,g⟩).run P w= .ok (.value (.slice (some ⟨w.heap.size,0,none⟩) l c)) {w with heap:=w.heap.push (.cells cur e)}:=by
  rw [Qo,Sem.run_bind,B];rfl
 rw [this];exact hK _ _ _ ⟨_,cur,V,G,V⟩ (I.alloc _)
theorem lQ{sz:Nat}{e:AK}{g c:Nat}{cur:AH}(h:c<=maxLen)(B:cur.size=c*sz):Bd sz e (I6 g 0 c) 0 [] [(g,.cells cur e (0,0))]:=
 ⟨by simp,.inr ⟨g,c,cur,(0,0),rfl,rfl,C5 _,h,B,by simp,BC _⟩⟩
end
def EqT(P:Program)(k:Nat)(t:AK)(v u:A3)(b:Bool):Prop:=∀(n:Nat) (w:AD),(Op.equalIn (n+k) t v u).run P w= .ok b w
section
variable{P:Program}{t e:AK}
theorem J8(B:P.underlying e=some (.int .i64))(m k:Int):EqT P 2 e (I4 m) (I4 k) (decide (m=k)):=fun n w=>Pf (n+1) w B m k
theorem bK(B:P.underlying e=some .bool)(a b:Bool):EqT P 2 e (.bool a) (.bool b) (decide (a=b)):=fun n w=>by
 show(Op.equalIn ((n+1)+1) e _ _).run P w=_;simp [Op.equalIn,run_underlying B];cases a<;>cases b<;>rfl
theorem bL(J:P.underlying t=some (.array 3 e))(G:P.underlying e=some (.int .i64))(B:∀w:AD,(isAgg e).run P w= .ok false w)(I:∀w:AD,(Go.sizeOf e).run P w= .ok 1 w)(x y:V3):
 EqT P 2 t (.agg #[I4 x.a,I4 x.b,I4 x.c]) (.agg #[I4 y.a,I4 y.b,I4 y.c]) (decide (x=y)):=fun n w=>Rp w n x y J G B I
def Xv(d:Nat)(xs ys:AH)(L:List Field):Sem Bool:=do
 for f in L do
  if f.name≠ "_" then
   if !(<-Op.equalIn d f.type (<-part f.type xs f.offset) (<-part f.type ys f.offset))then return false
 pure true
inductive FEq(P:Program)(xs ys:AH):List Field->List Bool->Prop
 |nil:FEq P xs ys [] []
 |cons {f:Field} {v u:A3} {b:Bool} {fs:List Field} {bs:List Bool} (hn:f.name≠ "_") (hx:∀w:AD,(part f.type xs f.offset).run P w= .ok v w) (hy:∀w:AD,(part f.type ys f.offset).run P w= .ok u w) (h:EqT P 2 f.type v u b) (k:FEq P xs ys fs bs):FEq P xs ys (f::fs) (b::bs)
theorem iL{xs ys:AH}{fs:List Field}{bs:List Bool}(h:FEq P xs ys fs bs)(n:Nat)(w:AD):(Xv (n+2) xs ys fs).run P w= .ok (bs.all id) w:=by
 induction h with
 |nil=>simp [Xv]
 |cons hn hx hy h k ih=>
  unfold Xv at*;rw [kA];simp only [hn,ne_eq,ie,Hj,Sem.run_bind,hx,hy,h n w,Result.andThen_ok,List.all_cons,id];rename_i b _ _;cases b;· simp
  · simpa using ih
theorem UG{fs:Array Field}{xs ys:AH}{bs:List Bool}{b:Bool}(J:P.underlying t=some (.struct fs))(B:P.stoodInHeld t=false)(h:FEq P xs ys fs.toList bs)(I:bs.all id=b):EqT P 3 t (.agg xs) (.agg ys) b:=fun n w=>by
 show(Op.equalIn ((n+2)+1) t _ _).run P w=_;rw [Op.equalIn];simp only [Sem.run_bind,run_underlying J,Result.andThen_ok,run_program,B,Mn,HO];rw [<-pP,<-I];have G:=iL h n w
 unfold Xv at G;simpa only [Sem.run_bind]using G
theorem DR{xs:AH}{j:Nat}{v:A3}(B:∀w:AD,(isAgg e).run P w= .ok false w)(h:xs[j]?=some v):∀w:AD,(part e xs j).run P w= .ok v w:=fun w=>F4 w (B w) _ _ h
theorem PD{xs:AH}{j n:Nat}{cs:AH}(B:∀w:AD,(isAgg e).run P w= .ok true w)(G:∀w:AD,(Go.sizeOf e).run P w= .ok n w)(h:xs.extract j (j+n)=cs)(hn:j+n<=xs.size):∀w:AD,(part e xs j).run P w= .ok (.agg cs) w:=fun w=>by
 simp [part,B,G,h]
end
section
variable{P:Program}{u:AD}{env:Env}{H R:Hp}{d:Option Nat}{ty:AK}{pos:String}{af:Array Edge}{g:Option (Nat×Bool)}
theorem tj{t yt:AK}{x y:Operand}{p q:AH}{b:Bool}(B:P.eqGuardType P.depth t=false)(hx:∀a,ev a env x= .agg p)(hy:∀a,ev a env y= .agg q)(h:EqT P 3 t (.agg p) (.agg q) b):OpP P ⟨d,.binOp .eql t x y yt,ty,pos,af,g⟩ env [] (.bool b):=fun a w _=>by
 simp [Cc,hx a,hy a,go_sem,run_eqGuard_agg w _ t _ _ _ _ B,Js,Op.equal,Op.maxDepth,h 9997 w]
theorem tg{t yt:AK}{x y:Operand}{p q:AH}{b:Bool}(B:P.eqGuardType P.depth t=false)(hx:∀a,ev a env x= .agg p)(hy:∀a,ev a env y= .agg q)(h:EqT P 3 t (.agg p) (.agg q) b):OpP P ⟨d,.binOp .neq t x y yt,ty,pos,af,g⟩ env [] (.bool (!b)):=fun a w _=>by
 simp [Cc,hx a,hy a,go_sem,run_eqGuard_agg w _ t _ _ _ _ B,Mc,Op.equal,Op.maxDepth,h 9997 w]
end
end Gw
