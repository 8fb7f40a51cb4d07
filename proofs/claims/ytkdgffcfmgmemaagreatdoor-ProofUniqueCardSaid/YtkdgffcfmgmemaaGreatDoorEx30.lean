/- Walking by chunks: structs compared, of fields of any types that can be compared. No function of the program is named. -/
import Derived.Test.YtkdgffcfmgmemaaGreatDoorEz
import Derived.Test.YtkdgffcfmgmemaaGreatDoorEx22
set_option linter.unusedVariables false
set_option linter.unusedSimpArgs false
namespace Gw
open Go Go.RowKit
def EqT(P:Program)(k:Nat)(t:TypeId)(v u:Value)(b:Bool):Prop:=∀(n:Nat) (w:World),(Op.equalIn (n+k) t v u).run P w= .ok b w
section
variable{P:Program}{t e:TypeId}
theorem H6(he:P.underlying e=some (.int .i64))(m k:Int):EqT P 2 e (I4 m) (I4 k) (decide (m=k)):=fun n w=>NY (n+1) w he m k
theorem Ws(he:P.underlying e=some .bool)(a b:Bool):EqT P 2 e (.bool a) (.bool b) (decide (a=b)):=fun n w=>by
 show(Op.equalIn ((n+1)+1) e _ _).run P w=_;simp [Op.equalIn,run_underlying he];cases a<;>cases b<;>rfl
theorem aN(he:P.underlying e=some .string)(a b:ByteArray):EqT P 2 e (.string a) (.string b) (decide (a=b)):=fun n w=>by
 show(Op.equalIn ((n+1)+1) e _ _).run P w=_;simp [Op.equalIn,run_underlying he];cases a with|mk a=>cases b with|mk b=>
 by_cases h:a=b
 · subst h
   have:(({data:=a}:ByteArray)=={data:=a})=true:=by show(a==a)=true;simp
   simp [this]
 · have:(({data:=a}:ByteArray)=={data:=b})=false:=by show(a==b)=false;simpa using h
   simp [this,h]
theorem Wt(hu:P.underlying t=some (.array 3 e))(he:P.underlying e=some (.int .i64))(ha:∀w:World,(isAgg e).run P w= .ok false w)(hs:∀w:World,(Go.sizeOf e).run P w= .ok 1 w)(x y:V3):
 EqT P 2 t (.agg #[I4 x.a,I4 x.b,I4 x.c]) (.agg #[I4 y.a,I4 y.b,I4 y.c]) (decide (x=y)):=fun n w=>PU w n x y hu he ha hs
def Ue(d:Nat)(xs ys:Array Value)(L:List Field):Sem Bool:=do
 for f in L do
  if f.name≠ "_" then
   if !(←Op.equalIn d f.type (←part f.type xs f.offset) (←part f.type ys f.offset))then return false
 pure true
inductive FEq(P:Program)(xs ys:Array Value):List Field→List Bool→Prop
 |nil:FEq P xs ys [] []
 |cons {f:Field} {v u:Value} {b:Bool} {fs:List Field} {bs:List Bool} (hn:f.name≠ "_") (hx:∀w:World,(part f.type xs f.offset).run P w= .ok v w) (hy:∀w:World,(part f.type ys f.offset).run P w= .ok u w) (h:EqT P 2 f.type v u b) (k:FEq P xs ys fs bs):FEq P xs ys (f::fs) (b::bs)
theorem YV{xs ys:Array Value}{fs:List Field}{bs:List Bool}(h:FEq P xs ys fs bs)(n:Nat)(w:World):(Ue (n+2) xs ys fs).run P w= .ok (bs.all id) w:=by
 induction h with
 |nil=>simp [Ue]
 |cons hn hx hy h k ih=>
  unfold Ue at*;rw [yT];simp only [hn,ne_eq,not_false_eq_true,if_true,Sem.run_bind,hx,hy,h n w,Result.andThen_ok,zf,id];rename_i b _ _;cases b
  · simp
  · simpa using ih
theorem Ma{fs:Array Field}{xs ys:Array Value}{bs:List Bool}{b:Bool}(hu:P.underlying t=some (.struct fs))(hst:P.stoodInHeld t=false)(h:FEq P xs ys fs.toList bs)(hb:bs.all id=b):EqT P 3 t (.agg xs) (.agg ys) b:=fun n w=>by
 show(Op.equalIn ((n+2)+1) t _ _).run P w=_;rw [Op.equalIn];simp only [Sem.run_bind,run_underlying hu,Result.andThen_ok,run_program,hst,vH,if_false];rw [←zV,←hb];have h9:=YV h n w
 unfold Ue at h9;simpa only [Sem.run_bind]using h9
theorem CY{xs:Array Value}{j:Nat}{v:Value}(ha:∀w:World,(isAgg e).run P w= .ok false w)(h:xs[j]?=some v):∀w:World,(part e xs j).run P w= .ok v w:=fun w=>Em w (ha w) _ _ h
theorem NG{xs:Array Value}{j n:Nat}{cs:Array Value}(ha:∀w:World,(isAgg e).run P w= .ok true w)(hs:∀w:World,(Go.sizeOf e).run P w= .ok n w)(h:xs.extract j (j+n)=cs)(hn:j+n≤xs.size):∀w:World,(part e xs j).run P w= .ok (.agg cs) w:=fun w=>by
 simp [part,ha,hs,h]
end
section
variable{P:Program}{u:World}{env:Env}{H R:Hp}{d:Option Nat}{ty:TypeId}{pos:String}{af:Array Edge}{g:Option (Nat×Bool)}
theorem ig{t yt:TypeId}{x y:Operand}{p q:Array Value}{b:Bool}(hg:P.eqGuardType P.depth t=false)(hx:∀a,ev a env x= .agg p)(hy:∀a,ev a env y= .agg q)(h:EqT P 3 t (.agg p) (.agg q) b):OpP P ⟨d,.binOp .eql t x y yt,ty,pos,af,g⟩ env [] (.bool b):=fun a w _=>by
 simp [Cb,hx a,hy a,go_sem,run_eqGuard_agg w _ t _ _ _ _ hg,JP,Op.equal,Op.maxDepth,h 9997 w]
theorem pE{t yt:TypeId}{x y:Operand}{p q:Array Value}{b:Bool}(hg:P.eqGuardType P.depth t=false)(hx:∀a,ev a env x= .agg p)(hy:∀a,ev a env y= .agg q)(h:EqT P 3 t (.agg p) (.agg q) b):OpP P ⟨d,.binOp .neq t x y yt,ty,pos,af,g⟩ env [] (.bool (!b)):=fun a w _=>by
 simp [Cb,hx a,hy a,go_sem,run_eqGuard_agg w _ t _ _ _ _ hg,LC,Op.equal,Op.maxDepth,h 9997 w]
end
end Gw
