/- Short forms of the laws of the chunk walk: what every step repeats is a default here. No function of the program is named. -/
import Derived.Test.YtjeepldonhgohaaGreatDoorEx5
import Derived.Test.YtjeepldonhgohaaGreatDoorEx4
namespace Gw
open Go Go.RowKit
theorem Y {α β : Type} {f : α → β} : ∀ a, f a = f a := fun _ => rfl
def Slots (env : Env) (sl : List Nat) (e : Env) : Prop := ∀ a, slotsOf a env sl = e
theorem slots_nil {env : Env} : Slots env [] [] := fun _ => rfl
theorem slots_cons {env : Env} {t : Nat} {v : Value} {l : List Nat} {e : Env} (h : ∀ a, look a env t = v) (h2 : Slots env l e) : Slots env (t :: l) ((t, v) :: e) := fun a => by
  simp only [slotsOf]; rw [h a, h2 a]
theorem Zb {P : Program} {cx : Cx} {c : Code} {Q : Exit → Act → World → Prop} {env env' : Env} {H : Hp} (sl : List Nat) (h : At P cx c Q env' H) (hn : sl.all (fun t => Nat.blt t cx.N) = true := by exact rfl) (he : Slots env sl env' := by repeat (first | exact slots_nil | (apply slots_cons; exact fun _ => rfl))) : At P cx c Q env H := at_slots sl hn he h
theorem Zn {cx : Cx} {Q : Act → World → Prop} {env env' : Env} {H : Hp} (sl : List Nat) (h : Nx cx Q env' H) (hn : sl.all (fun t => Nat.blt t cx.N) = true := by exact rfl) (he : Slots env sl env' := by repeat (first | exact slots_nil | (apply slots_cons; exact fun _ => rfl))) : Nx cx Q env H := nx_slots sl hn he h
section
variable {P : Program} {cx : Cx} {Q : Exit → Act → World → Prop} {env : Env} {H : Hp}
theorem Zq {x y : Code} (h : At P cx x (Exit.then (y.wpIn (Fx cx.r) 0 P Q) Q) env H) : At P cx (.seq x y) Q env H := at_seq h
theorem Zx {y : Code} (h : At P cx y Q env H) : Nx cx ((Exit.then (y.wpIn (Fx cx.r) 0 P Q) Q) .normal) env H := nx_next h
theorem Zt {K : Act → World → Prop} {e : Exit} (h : Nx cx (Q e) env H) (he : e ≠ .normal := by (intro h; cases h)) : Nx cx (Exit.then K Q e) env H := nx_thru he h
theorem Zg {id : Nat} {ops : Array Oper} (h : Ops P ops ops.toList cx Q env H) : At P cx (.region id ops false) Q env H := at_region h
end
section
variable {P : Program} {ops : Array Oper} {l : List Oper} {cx : Cx} {Q : Exit → Act → World → Prop} {env : Env} {H : Hp} {ty : TypeId} {pos : String} {af : Array Edge}
theorem Z0 (h : Nx cx (Q .normal) env H) : Ops P ops [] cx Q env H := ops_nil h
theorem Zm {d : Nat} {x : Operand} {v : Value} (hx : ∀ a, ev a env x = v) (k : Ops P ops l cx Q ((d, v) :: env) H) (hd : Nat.blt d cx.N = true := by exact rfl) : Ops P ops (⟨some d, .move x, ty, pos, af, none⟩ :: l) cx Q env H := op_w (p_move hx) rfl hd k
theorem Za {d : Nat} {x : Operand} {v : Value} (hx : ∀ a, ev a env x = v) (k : Ops P ops l cx Q ((d, v) :: env) H) (hd : Nat.blt d cx.N = true := by exact rfl) : Ops P ops (⟨some d, .assign x, ty, pos, af, none⟩ :: l) cx Q env H := op_w (p_assign hx) rfl hd k
theorem Zp {d : Nat} {x : Operand} {v : Value} (hx : ∀ a, ev a env x = v) (hv : nilOk v = true) (k : Ops P ops l cx Q ((d, v) :: env) H) (hd : Nat.blt d cx.N = true := by exact rfl) : Ops P ops (⟨some d, .nilCheck x, ty, pos, af, none⟩ :: l) cx Q env H := op_w (p_nilChk hx hv) rfl hd k
theorem Zd {d : Nat} {x : Operand} {i : Nat} {vs : Array Value} {v : Value} (hx : ∀ a, ev a env x = .tuple vs) (hv : vs[i]? = some v) (k : Ops P ops l cx Q ((d, v) :: env) H) (hd : Nat.blt d cx.N = true := by exact rfl) : Ops P ops (⟨some d, .extract x i, ty, pos, af, none⟩ :: l) cx Q env H := op_w (p_extract hx hv) rfl hd k
theorem Zv {d : Nat} {op : Op} {v : Value} (h : OpP P ⟨some d, op, ty, pos, af, none⟩ env [] v) (k : Ops P ops l cx Q ((d, v) :: env) H) (hn : notDefer op = true := by exact rfl) (hd : Nat.blt d cx.N = true := by exact rfl) : Ops P ops (⟨some d, op, ty, pos, af, none⟩ :: l) cx Q env H := op_w h hn hd k
theorem Zf {d : Nat} {g : Nat × Bool} {x : Operand} {v : Value} (hg : ∀ a, wantedE ops a env (some g) = true) (hx : ∀ a, ev a env x = v) (k : Ops P ops l cx Q ((d, v) :: env) H) (hd : Nat.blt d cx.N = true := by exact rfl) : Ops P ops (⟨some d, .move x, ty, pos, af, some g⟩ :: l) cx Q env H := op_wg hg (p_move hx) rfl hd k
theorem Zh {d : Nat} {fs : Array Field} {fl : Field} {t : TypeId} {x : Operand} {f b m : Nat} (off : Nat) (hu : P.underlying t = some (.struct fs)) (hf : fs[f]? = some fl) (ho : fl.offset = off) (hs : ∀ w : World, (Go.sizeOf fl.type).run P w = .ok (m + 1) w) (hx : ∀ a, ev a env x = .pointer (some ⟨b, 0, none⟩)) (k : Ops P ops l cx Q ((d, .pointer (some ⟨b, off, none⟩)) :: env) H) (hd : Nat.blt d cx.N = true := by exact rfl) : Ops P ops (⟨some d, .fieldAddr t x f, ty, pos, af, none⟩ :: l) cx Q env H := op_w (p_fieldAddr0 hu hf ho hs hx) rfl hd k
theorem Zl {d : Nat} {t : TypeId} {x : Operand} {b i : Nat} {c : Array Value} {T : TypeId} {z : Nat × Nat} {v : Value} (ha : ∀ w : World, (isAgg t).run P w = .ok false w) (hx : ∀ a, ev a env x = .pointer (some ⟨b, i, none⟩)) (k : Ops P ops l cx Q ((d, v) :: env) H) (hb : Has b (.cells c T z) H := by repeat (first | exact Has.here _ | apply Has.there)) (hv : c[i]? = some v := by rfl) (hd : Nat.blt d cx.N = true := by exact rfl) : Ops P ops (⟨some d, .load t x, ty, pos, af, none⟩ :: l) cx Q env H := op_r hb (p_load ha hx hv) rfl hd k
/-- The same, the value told by a tactic of the text. -/
theorem Zo {d : Nat} {op : Op} {v : Value} {b : Nat} {o : Obj} (hb : Has b o H) (h : OpP P ⟨some d, op, ty, pos, af, none⟩ env [(b, o)] v) (k : Ops P ops l cx Q ((d, v) :: env) H) (hn : notDefer op = true := by exact rfl) (hd : Nat.blt d cx.N = true := by exact rfl) : Ops P ops (⟨some d, op, ty, pos, af, none⟩ :: l) cx Q env H := op_r hb h hn hd k
end
section
variable {P : Program} {u : World} {ops : Array Oper} {l : List Oper} {cx : Cx} {Qe : Exit → Act → World → Prop} {env : Env} {H H' R : Hp} {d : Option Nat} {ty : TypeId} {pos : String} {af : Array Edge} {g : Option (Nat × Bool)}
theorem Ze {op : Op} {Ps : Value → Hp → Prop} (h : OpW P cx.u ⟨d, op, ty, pos, af, g⟩ env H Ps (fun _ _ => False)) (k : ∀ v H', Ps v H' → Ops P ops l cx Qe (putE d v env) H') (hg : ∀ a, wantedE ops a env g = true := by exact fun _ => rfl) (hn : notDefer op = true := by exact rfl) (hd : fits cx.N d = true := by exact rfl) : Ops P ops (⟨d, op, ty, pos, af, g⟩ :: l) cx Qe env H := op_e h hg hn hd k
theorem Zw (vs : List Value) {fx : Operand} {as : Array Operand} {ats : Array TypeId} {f : FuncId} {first caps args : Array Value} {Hf : Hp} {Q : Value → Hp → Prop} {Pn : List PanicEntry → Hp → Prop}
    (hf : ∀ a, ev a env fx = .func (.func f) first caps) (hc : ∀ (args : Array Value) (w : World), (callFunc f args).run P w = .ok (.enter f args) w) (ha : ∀ a, as.toList.map (ev a env) = vs) (hA : (first.toList ++ vs ++ caps.toList).toArray = args)
    (hsp : DoesE P f args Hf Q Pn) (hp : Pull Hf H R := by repeat (first | exact Pull.nil _ | (apply Pull.cons; (focus (repeat (first | exact One.here _ _ | apply One.there)))))) :
    OpW P u ⟨d, .call ⟨.value fx, as, ats⟩, ty, pos, af, g⟩ env H (fun v H' => ∃ H1, Q v H1 ∧ H' = H1 ++ R) (fun ch H' => ∃ H1, Pn ch H1 ∧ H' = H1 ++ R) := w_call hf hc ha hA hsp hp
theorem Zu (vs : List Value) {fx : Operand} {as : Array Operand} {ats : Array TypeId} {f : FuncId} {first caps args : Array Value} {Hf : Hp} {v : Value}
    (hf : ∀ a, ev a env fx = .func (.func f) first caps) (hc : ∀ (args : Array Value) (w : World), (callFunc f args).run P w = .ok (.enter f args) w) (ha : ∀ a, as.toList.map (ev a env) = vs) (hA : (first.toList ++ vs ++ caps.toList).toArray = args)
    (hsp : DoesR P f args Hf v) (hp : Pull Hf H R := by repeat (first | exact Pull.nil _ | (apply Pull.cons; (focus (repeat (first | exact One.here _ _ | apply One.there)))))) :
    OpW P u ⟨d, .call ⟨.value fx, as, ats⟩, ty, pos, af, g⟩ env H (fun v' H' => v' = v ∧ H' = H) (fun _ _ => False) := w_callR hf hc ha hA hsp hp
theorem Zc (vs : List Value) {fx : Operand} {as : Array Operand} {ats : Array TypeId} {f : FuncId} {first caps args : Array Value} {Hf : Hp} {Q : Value → Hp → Prop}
    (hf : ∀ a, ev a env fx = .func (.func f) first caps) (hc : ∀ (args : Array Value) (w : World), (callFunc f args).run P w = .ok (.enter f args) w) (ha : ∀ a, as.toList.map (ev a env) = vs) (hA : (first.toList ++ vs ++ caps.toList).toArray = args)
    (hsp : DoesE P f args Hf Q fun _ _ => False) (k : ∀ v H', (∃ H1, Q v H1 ∧ H' = H1 ++ R) → Ops P ops l cx Qe (putE d v env) H') (hp : Pull Hf H R := by repeat (first | exact Pull.nil _ | (apply Pull.cons; (focus (repeat (first | exact One.here _ _ | apply One.there)))))) (hg : ∀ a, wantedE ops a env g = true := by exact fun _ => rfl) (hd : fits cx.N d = true := by exact rfl) :
    Ops P ops (⟨d, .call ⟨.value fx, as, ats⟩, ty, pos, af, g⟩ :: l) cx Qe env H := ops_eff hg (fits_of hd) rfl (w_call hf hc ha hA hsp hp) k no_pan
theorem Zr (vs : List Value) {fx : Operand} {as : Array Operand} {ats : Array TypeId} {f : FuncId} {first caps args : Array Value} {Hf : Hp} {v : Value}
    (hf : ∀ a, ev a env fx = .func (.func f) first caps) (hc : ∀ (args : Array Value) (w : World), (callFunc f args).run P w = .ok (.enter f args) w) (ha : ∀ a, as.toList.map (ev a env) = vs) (hA : (first.toList ++ vs ++ caps.toList).toArray = args)
    (hsp : DoesR P f args Hf v) (k : ∀ v' H', v' = v ∧ H' = H → Ops P ops l cx Qe (putE d v' env) H') (hp : Pull Hf H R := by repeat (first | exact Pull.nil _ | (apply Pull.cons; (focus (repeat (first | exact One.here _ _ | apply One.there)))))) (hg : ∀ a, wantedE ops a env g = true := by exact fun _ => rfl) (hd : fits cx.N d = true := by exact rfl) :
    Ops P ops (⟨d, .call ⟨.value fx, as, ats⟩, ty, pos, af, g⟩ :: l) cx Qe env H := op_e (w_callR hf hc ha hA hsp hp) hg rfl hd k
theorem Zs {t : TypeId} {x y : Operand} {b i : Nat} {c c' : Array Value} {T : TypeId} {z : Nat × Nat} {v : Value} (hs : ∀ w : World, (Go.sizeOf t).run P w = .ok 1 w) (hx : ∀ a, ev a env x = .pointer (some ⟨b, i, none⟩)) (hy : ∀ a, ev a env y = v) (h1 : v.oneCell' = true)
    (hu : Upd b (.cells c T z) (.cells c' T z) H H' := by repeat (first | exact Upd.here _ | apply Upd.there)) (hc : c.setIfInBounds i v = c' := by rfl) (hi : i < c.size := by first | decide | exact Nat.le_refl _ | (simp; done) | (simp; omega)) (hz : Free z c.size := by exact free_zero _) :
    OpW P u ⟨d, .store t x y, ty, pos, af, g⟩ env H (fun v' H1 => v' = undef ∧ H1 = H') (fun _ _ => False) := w_store hs hx hy h1 hu hc hi hz
end
section
variable {P : Program} {ops : Array Oper} {A : List Nat} {F : Nat} {cx : Cx} {Q : Exit → Act → World → Prop} {n D : Nat} {T : List (Nat × Chunk)} {env : Env} {H : Hp} {ty : TypeId} {pos : String} {af : Array Edge}
theorem Zi {d : Nat} {op : Op} {v : Value} (D' i : Nat) (ho : ops[i]? = some ⟨some d, op, ty, pos, af, none⟩) (hop : OpP P ⟨some d, op, ty, pos, af, none⟩ env [] v) (k : Lin P ops A F cx Q n D' T ((d, v) :: env) H) (h1 : (!bit F i && !bit D i && within (A.getD i 0) D) = true := by exact rfl) (hD : D ||| (1 <<< i) = D' := by exact rfl) : Lin P ops A F cx Q (n + 1) D T env H := lin_w i ho h1 hD hop k
theorem Zj {d : Nat} {t : TypeId} {x : Operand} {b j : Nat} {c : Array Value} {U : TypeId} {z : Nat × Nat} {v : Value} (D' i : Nat) (ho : ops[i]? = some ⟨some d, .load t x, ty, pos, af, none⟩) (ha : ∀ w : World, (isAgg t).run P w = .ok false w) (hx : ∀ a, ev a env x = .pointer (some ⟨b, j, none⟩)) (k : Lin P ops A F cx Q n D' ((i, (b, .cells c U z)) :: T) ((d, v) :: env) H)
    (hb : Has b (.cells c U z) H := by repeat (first | exact Has.here _ | apply Has.there)) (hv : c[j]? = some v := by rfl) (h1 : (!bit F i && !bit D i && within (A.getD i 0) D) = true := by exact rfl) (hD : D ||| (1 <<< i) = D' := by exact rfl) : Lin P ops A F cx Q (n + 1) D T env H := lin_r i ho h1 hD hb (p_load ha hx hv) k
theorem Zk {H : Hp} {i b : Nat} {x : Obj} {T : List (Nat × Chunk)} (ht : ∀ p ∈ T, p.2 ∈ H.flatten) (h : Has b x H := by repeat (first | exact Has.here _ | apply Has.there)) : ∀ p ∈ ((i, (b, x)) :: T), p.2 ∈ H.flatten := keep_cons h ht
theorem Zy {f : Nat} {l : List Nat} {o : Oper} {Ps : Value → Hp → Prop} {Pn : List PanicEntry → Hp → Prop} (m D' : Nat) (is : List Nat) (bs : List Bool) (T' : List (Nat × Chunk)) (ho : ops[f]? = some o) (hg : ∀ a, wantedE ops a env o.guard = true) (hD : D ||| (1 <<< f) = D') (hm : A[f]? = some m) (his : T.map (·.1) = is) (hT : sel bs T = T') (hw : OpW P cx.u o env H Ps Pn)
    (k : ∀ v H', Ps v H' → (∀ p ∈ T', p.2 ∈ H'.flatten) ∧ Lin P ops A F cx Q n D' T' (putE o.dst v env) H') (kp : ∀ ch H', Pn ch H' → ∀ env, Nx cx (Q (.panic ch)) env H') (hl : Each P ops A F cx Q n D T env H l) (hok : selOk m bs is = true := by kernel_rfl) : Each P ops A F cx Q n D T env H (f :: l) := each_cons ho hg hD hm his hok hT hw k kp hl
theorem Zz {l : List Nat} (h : Each P ops A F cx Q n D T env H l) (h1 : full ops A F D = true := by kernel_rfl) (h2 : nextEff ops A F D = l := by kernel_rfl) : Lin P ops A F cx Q (n + 1) D T env H := lin_eff h1 h2 h
end
end Gw
