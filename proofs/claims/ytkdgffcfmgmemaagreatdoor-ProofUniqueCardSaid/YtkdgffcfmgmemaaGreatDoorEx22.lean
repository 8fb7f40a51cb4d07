/- Walking by chunks: rows and lists of six numbers compared. No function of the program is named. -/
import Derived.Test.YtkdgffcfmgmemaaGreatDoorEz
import Derived.Test.YtkdgffcfmgmemaaGreatDoorEx21
import Derived.Test.YtkdgffcfmgmemaaGreatDoorEx5
set_option linter.unusedVariables false
set_option linter.unusedSimpArgs false
namespace Gw
open Go Go.RowKit
section
variable{P:Program}{u:World}{env:Env}{H R:Hp}{d:Option Nat}{ty:TypeId}{pos:String}{af:Array Edge}{g:Option (Nat×Bool)}
def RI(t1 t2 k1 k2:Int)(x y:V3):Prop:=t1=t2∧k1=k2∧x=y
instance(t1 t2 k1 k2:Int)(x y:V3):Decidable (RI t1 t2 k1 k2 x y):=inferInstanceAs(Decidable (_∧_∧_))
theorem pX{t e ta:TypeId}{f0 f1 f2:Field}(w:World)(n:Nat)(t1 t2 k1 k2:Int)(x y:V3)(hu:P.underlying t=some (.struct #[f0,f1,f2]))(hst:P.stoodInHeld t=false)
 (h0:f0.name≠ "_"∧f0.type=e∧f0.offset=0)(h1:f1.name≠ "_"∧f1.type=e∧f1.offset=1)(h2:f2.name≠ "_"∧f2.type=ta∧f2.offset=2)
 (he:P.underlying e=some (.int .i64))(hta:P.underlying ta=some (.array 3 e))(ha:∀w:World,(isAgg e).run P w= .ok false w)(hs:∀w:World,(Go.sizeOf e).run P w= .ok 1 w)
 (haa:∀w:World,(isAgg ta).run P w= .ok true w)(hsa:∀w:World,(Go.sizeOf ta).run P w= .ok 3 w):
 (Op.equalIn (n+3) t (.agg #[I4 t1,I4 k1,I4 x.a,I4 x.b,I4 x.c]) (.agg #[I4 t2,I4 k2,I4 y.a,I4 y.b,I4 y.c])).run P w= .ok (decide (RI t1 t2 k1 k2 x y)) w:=by
 obtain ⟨n0,e0,o0⟩:=h0;obtain ⟨n1,e1,o1⟩:=h1;obtain ⟨n2,e2,o2⟩:=h2;have ei:∀(m k:Int) (w:World),(Op.equalIn (n+2) e (I4 m) (I4 k)).run P w= .ok (decide (m=k)) w:=fun m k w=>NY (n+1) w he m k
 have ea:∀(w:World),(Op.equalIn (n+2) ta (.agg #[I4 x.a,I4 x.b,I4 x.c]) (.agg #[I4 y.a,I4 y.b,I4 y.c])).run P w= .ok (decide (x=y)) w:=fun w=>PU w n x y hta he ha hs;have p0:∀(v0 v1 v2 v3 v4:Value) (w:World),(part e #[v0,v1,v2,v3,v4] 0).run P w= .ok v0 w:=fun _ _ _ _ _ w=>Em w (ha w) _ _ rfl
 have p1:∀(v0 v1 v2 v3 v4:Value) (w:World),(part e #[v0,v1,v2,v3,v4] 1).run P w= .ok v1 w:=fun _ _ _ _ _ w=>Em w (ha w) _ _ rfl;have p2:∀(v0 v1 v2 v3 v4:Value) (w:World),(part ta #[v0,v1,v2,v3,v4] 2).run P w= .ok (.agg #[v2,v3,v4]) w:=fun _ _ _ _ _ w=>by simp [part,haa,hsa]
 rw [show n+3=(n+2)+1 from rfl,Op.equalIn];generalize n+2=m at*;simp only [Sem.run_bind,run_underlying hu,Result.andThen_ok,run_program,hst,vH,if_false];rw [←zV];simp only [yT,zQ,n0,n1,n2,e0,e1,e2,o0,o1,o2,ne_eq,not_false_eq_true,if_true];simp only [Sem.run_bind,p0,p1,p2,ei,ea,Result.andThen_ok];have hd:decide (RI t1 t2 k1 k2 x y)=(decide (t1=t2)&&(decide (k1=k2)&&decide (x=y))):=by
  by_cases h:RI t1 t2 k1 k2 x y
  · rw [decide_eq_true h,decide_eq_true h.1,decide_eq_true h.2.1,decide_eq_true h.2.2];rfl
  · rw [decide_eq_false h]
    by_cases c1:t1=t2<;>by_cases c2:k1=k2<;>by_cases c3:x=y<;>simp [c1,c2,c3]
    exact h ⟨c1,c2,c3⟩
 rw [hd];generalize decide (x=y)=b3 at*;by_cases c1:t1=t2<;>by_cases c2:k1=k2<;>cases b3<;>simp [c1,c2,p0,p1,p2,ei,ea,n1,n2]
section
variable{t yt e ta:TypeId}{f0 f1 f2:Field}{x y:Operand}{t1 t2 k1 k2:Int}{p q:V3}
theorem bY(hg:P.eqGuardType P.depth t=false)(hu:P.underlying t=some (.struct #[f0,f1,f2]))(hst:P.stoodInHeld t=false)
 (h0:f0.name≠ "_"∧f0.type=e∧f0.offset=0)(h1:f1.name≠ "_"∧f1.type=e∧f1.offset=1)(h2:f2.name≠ "_"∧f2.type=ta∧f2.offset=2)
 (he:P.underlying e=some (.int .i64))(hta:P.underlying ta=some (.array 3 e))(ha:∀w:World,(isAgg e).run P w= .ok false w)(hs:∀w:World,(Go.sizeOf e).run P w= .ok 1 w)
 (haa:∀w:World,(isAgg ta).run P w= .ok true w)(hsa:∀w:World,(Go.sizeOf ta).run P w= .ok 3 w)
 (hx:∀a,ev a env x= .agg #[I4 t1,I4 k1,I4 p.a,I4 p.b,I4 p.c])(hy:∀a,ev a env y= .agg #[I4 t2,I4 k2,I4 q.a,I4 q.b,I4 q.c]):OpP P ⟨d,.binOp .neq t x y yt,ty,pos,af,g⟩ env [] (.bool (decide (¬RI t1 t2 k1 k2 p q))):=fun a w _=>by
 simp [Cb,hx a,hy a,go_sem,run_eqGuard_agg w _ t _ _ _ _ hg,LC,Op.equal,Op.maxDepth,pX w 9997 t1 t2 k1 k2 p q hu hst h0 h1 h2 he hta ha hs haa hsa]
end
theorem nP{t e:TypeId}(w:World)(n:Nat)(x0 x1 x2 x3 x4 x5 y0 y1 y2 y3 y4 y5:Int)(hu:P.underlying t=some (.array 6 e))(he:P.underlying e=some (.int .i64))(ha:∀w:World,(isAgg e).run P w= .ok false w)(hs:∀w:World,(Go.sizeOf e).run P w= .ok 1 w):
 (Op.equalIn (n+2) t (.agg #[I4 x0,I4 x1,I4 x2,I4 x3,I4 x4,I4 x5]) (.agg #[I4 y0,I4 y1,I4 y2,I4 y3,I4 y4,I4 y5])).run P w= .ok (decide (x0=y0∧x1=y1∧x2=y2∧x3=y3∧x4=y4∧x5=y5)) w:=by
 have ei:∀(m k:Int) (w:World),(Op.equalIn (n+1) e (I4 m) (I4 k)).run P w= .ok (decide (m=k)) w:=fun m k w=>NY n w he m k;have pt:∀(vs:Array Value) (j:Nat) (v:Value) (w:World),vs[j]?=some v→(part e vs j).run P w= .ok v w:=fun vs j v w h=>Em w (ha w) _ _ h
 have p0:∀(v0 v1 v2 v3 v4 v5:Value) (w:World),(part e #[v0,v1,v2,v3,v4,v5] 0).run P w= .ok v0 w:=fun _ _ _ _ _ _ w=>pt _ _ _ w rfl;have p1:∀(v0 v1 v2 v3 v4 v5:Value) (w:World),(part e #[v0,v1,v2,v3,v4,v5] 1).run P w= .ok v1 w:=fun _ _ _ _ _ _ w=>pt _ _ _ w rfl
 have p2:∀(v0 v1 v2 v3 v4 v5:Value) (w:World),(part e #[v0,v1,v2,v3,v4,v5] 2).run P w= .ok v2 w:=fun _ _ _ _ _ _ w=>pt _ _ _ w rfl;have p3:∀(v0 v1 v2 v3 v4 v5:Value) (w:World),(part e #[v0,v1,v2,v3,v4,v5] 3).run P w= .ok v3 w:=fun _ _ _ _ _ _ w=>pt _ _ _ w rfl
 have p4:∀(v0 v1 v2 v3 v4 v5:Value) (w:World),(part e #[v0,v1,v2,v3,v4,v5] 4).run P w= .ok v4 w:=fun _ _ _ _ _ _ w=>pt _ _ _ w rfl;have p5:∀(v0 v1 v2 v3 v4 v5:Value) (w:World),(part e #[v0,v1,v2,v3,v4,v5] 5).run P w= .ok v5 w:=fun _ _ _ _ _ _ w=>pt _ _ _ w rfl
 rw [show n+2=(n+1)+1 from rfl,Op.equalIn];generalize n+1=m at*;simp only [Sem.run_bind,run_underlying hu,Result.andThen_ok,hs];simp only [yG,Std.Legacy.Range.size,xA,vk,Nat.div_one,yw,List.range'_zero,yT,zQ];simp only [Sem.run_bind,p0,p1,p2,p3,p4,p5,ei,Result.andThen_ok,uL,wP,AA7,yA];by_cases h0:x0=y0
 · by_cases h1:x1=y1
   · by_cases h2:x2=y2
     · by_cases h3:x3=y3
       · by_cases h4:x4=y4
         · by_cases h5:x5=y5<;>simp [h0,h1,h2,h3,h4,h5,p0,p1,p2,p3,p4,p5,ei]
         · simp [h0,h1,h2,h3,h4,p0,p1,p2,p3,p4,p5,ei]
       · simp [h0,h1,h2,h3,p0,p1,p2,p3,p4,p5,ei]
     · simp [h0,h1,h2,p0,p1,p2,p3,p4,p5,ei]
   · simp [h0,h1,p0,p1,p2,p3,p4,p5,ei]
 · simp [h0,p0,p1,p2,p3,p4,p5,ei]
theorem Xy{t yt e:TypeId}{x y:Operand}{x0 x1 x2 x3 x4 x5 y0 y1 y2 y3 y4 y5:Int}(hg:P.eqGuardType P.depth t=false)(hu:P.underlying t=some (.array 6 e))(he:P.underlying e=some (.int .i64))(ha:∀w:World,(isAgg e).run P w= .ok false w)(hs:∀w:World,(Go.sizeOf e).run P w= .ok 1 w)
 (hx:∀a,ev a env x= .agg #[I4 x0,I4 x1,I4 x2,I4 x3,I4 x4,I4 x5])(hy:∀a,ev a env y= .agg #[I4 y0,I4 y1,I4 y2,I4 y3,I4 y4,I4 y5]):OpP P ⟨d,.binOp .eql t x y yt,ty,pos,af,g⟩ env [] (.bool (decide (x0=y0∧x1=y1∧x2=y2∧x3=y3∧x4=y4∧x5=y5))):=fun a w _=>by
 simp [Cb,hx a,hy a,go_sem,run_eqGuard_agg w _ t _ _ _ _ hg,JP,Op.equal,Op.maxDepth,nP w 9998 x0 x1 x2 x3 x4 x5 y0 y1 y2 y3 y4 y5 hu he ha hs]
end
theorem EB{P:Program}{f:FuncId}{args:Array Value}{H H1:Hp}{Q Q1:Value→Hp→Prop}(h:CO P f args H Q)(hf:H1.flatten=H.flatten)(hq:∀v H',Q v H'→∃H2,Q1 v H2∧H2.flatten.Perm H'.flatten):CO P f args H1 Q1:=fun u R w hs=>
 Calls.mono (h u R w (hs.sub ⟨[],by simp [hf]⟩)) fun e w' he=>by
  rcases he with⟨v,H',rfl,h1,h2⟩|⟨ch,H',rfl,h1,h2⟩
  · obtain ⟨H2,h3,h4⟩:=hq v H' h1
    refine .inl ⟨v,H2,rfl,h3,h2.perm ?_⟩;rw [uW,uW];exact h4.symm.append_right _
  · exact h1.elim
end Gw
