/- The reference table of layer 16: Ask, joined. -/
import Derived.Test.YtgflkhifphpgpaaRefD1
import Derived.Test.YtgflkhifphpgpaaRefD2
import Derived.Test.YtgflkhifphpgpaaRefD3
namespace Go.Proofs.Ytgflkhifphpgpaa
open Go Go.RowKit Gw
set_option maxHeartbeats 1000000

theorem rask_calls (B : Nat) (k : ByteArray) (now : Int) (b : Nat) (sv : Value) (R : RL) (n : Int) (w : World) (hT : RefT B w b sv R n) (hn : n < 1000000) (hl : R.length < 1000000) :
    Calls Try.prog 14 #[.pointer (some ⟨b, 0, none⟩), .string k, .int .i64 now] w (RAskPost B k now b sv R n w) := by
  by_cases hc : mlook k R ≠ none ∨ isTimeB now = false
  · exact rask_old B k now b sv R n w hT hn hc
  · simp only [not_or, ne_eq, Decidable.not_not, Bool.not_eq_false] at hc
    obtain ⟨hno, ht⟩ := hc
    rcases hT.row with ⟨rfl, rfl⟩ | ⟨g, cap, c, rfl, hcap, _⟩
    · exact rput_nil B k now b n w hT hn hno ht
    · -- how many keys are less
      have hex : ∀ (m : Nat), m ≤ R.length → (∀ q ∈ R.take m, q.1.data.toList < k.data.toList) ∨ ∃ j, j < R.length ∧ (∀ q ∈ R.take j, q.1.data.toList < k.data.toList) ∧ ∀ q, R[j]? = some q → ¬ q.1.data.toList < k.data.toList := by
        intro m
        induction m with
        | zero => intro _; exact .inl fun q hq => by simp at hq
        | succ m ih =>
          intro hm
          rcases ih (by omega) with h | h
          · have hq : R[m]? = some R[m] := List.getElem?_eq_getElem (by omega)
            by_cases hlt : R[m].1.data.toList < k.data.toList
            · left
              intro q' hq'
              rw [List.take_add_one, hq] at hq'
              simp only [Option.toList, List.mem_append, List.mem_singleton] at hq'
              rcases hq' with hq' | rfl
              · exact h q' hq'
              · exact hlt
            · exact .inr ⟨m, by omega, h, fun q hq' => by rw [hq] at hq'; cases hq'; exact hlt⟩
          · exact .inr h
      rcases hex R.length (Nat.le_refl _) with h | ⟨j, hj, h1, h2⟩
      · exact rput_end B k now b g cap R n w hT hn hl hcap hno ht h
      · exact rput_mid B k now b g cap R n w hT hn hl hcap hno ht j hj h1 h2
end Go.Proofs.Ytgflkhifphpgpaa
