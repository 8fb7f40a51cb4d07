/- Walking by chunks: entries of a map literal; pointers that may be nil, compared with nil. No function of the program is named. -/
import Derived.Test.YtkdgffcfmgmemaaGreatDoorEx20
set_option linter.unusedVariables false
set_option linter.unusedSimpArgs false
namespace Gw
open Go Go.RowKit
section
variable{α:Type}{κ:α→Value}{D:α→Prop}{P:Program}{es:Array MapEntry}{clock r:Nat}{l:List (α×Value)}{kt et:TypeId}
variable{u:World}{env:Env}{H R:Hp}{d:Option Nat}{ty:TypeId}{pos:String}{af:Array Edge}{g:Option (Nat×Bool)}{t:TypeId}{m x y:Operand}{k:α}{v:Value}
theorem Il(hK:I8 P kt κ D)(ht:P.underlying t=some (.map kt et))(hm:Ex κ es clock l)(hl:∀p∈l,D p.1)(hk:D k)(hx:∀a,ev a env m= .map (some r))(hy:∀a,ev a env x=κ k)(hv:∀a,ev a env y=v)(hone:One [(r,.map es clock)] H R):
 OpW P u ⟨d,.insert t m x y,ty,pos,af,g⟩ env H (fun v' H1=>v'=undef∧∃es' clock' l',Ex κ es' clock' l'∧(∀p,p∈l'↔p=(k,v)∨(p∈l∧p.1≠k))∧H1=[(r,.map es' clock')]::R) (fun _ _=>False):=fun a w hs K Kp hK2 hp=>
 KZ (d:=d) (ty:=ty) (pos:=pos) (af:=af) (g:=g) hK ht hm hl hk hx hy hv hone a w hs K Kp hK2 hp
theorem OH [DecidableEq α]{et:TypeId}{z v0:Value}(hK:I8 P kt κ D)(ht:P.underlying t=some (.map kt et))(hz:∀w:World,(zeroValue et).run P w= .ok z w)(hm:Ex κ es clock l)(hl:∀p∈l,D p.1)(hk:D k)(hv:(IX k l).getD z=v0)(hx:∀a,ev a env m= .map (some r))(hy:∀a,ev a env x=κ k):
 OpP P ⟨d,.lookup t m x false,ty,pos,af,g⟩ env [(r,.map es clock)] v0:=fun a w hs=>by
 have hb:=hs (r,.map es clock) (by simp);show((do pure (Next.value (←Instr.lookup t (ev a env m) (ev a env x) false))):Sem Next).run P w=_
 rw [hx a,hy a,←hv];rcases KH hK hm hl w k hk with⟨h1,h2⟩|⟨j,v,h1,h2⟩
 · rw [OO h2]
   simp only [Instr.lookup,Sem.run_bind,run_underlying ht,Result.andThen,MapKept.run_getObj_map hb,G6 hK hk,Sem.run_pure,h1,hz];rfl
 · rw [Ht hm.keys (tV h2)]
   simp only [Instr.lookup,Sem.run_bind,run_underlying ht,Result.andThen,MapKept.run_getObj_map hb,G6 hK hk,Sem.run_pure,h1];rfl
theorem MO{d:Nat}{x y:Operand}{t yt e:TypeId}{p:Option Addr}(hu:P.underlying t=some (.pointer e))(hx:∀a,ev a env x= .pointer p)(hy:∀a,ev a env y= .pointer none):OpP P ⟨some d,.binOp .eql t x y yt,ty,pos,af,g⟩ env [] (.bool p.isNone):=by
 cases p with
 |none=>exact Rf hu hx hy
 |some a=>exact F7 hu hx hy
theorem EZ{d:Nat}{x y:Operand}{t yt e:TypeId}{p:Option Addr}(hu:P.underlying t=some (.pointer e))(hx:∀a,ev a env x= .pointer p)(hy:∀a,ev a env y= .pointer none):OpP P ⟨some d,.binOp .neq t x y yt,ty,pos,af,g⟩ env [] (.bool p.isSome):=by
 cases p with
 |none=>exact Re hu hx hy
 |some a=>exact Rc hu hx hy
theorem DU{c cs:Array Value}(h:cs.size=c.size):Ed c 0 cs.toList=cs:=by
 rw [Vr c cs.toList (by simpa using h)]
theorem Au{c:Array Value}{n:Nat}(h:c.size=n):c.extract 0 (0+n)=c:=by
 subst h;simp
end
end Gw
