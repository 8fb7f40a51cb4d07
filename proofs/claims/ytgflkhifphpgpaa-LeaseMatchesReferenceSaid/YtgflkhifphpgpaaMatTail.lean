/- The tail of a round of LeaseMatchesReference. -/
import Derived.Test.YtgflkhifphpgpaaMatCode
import Derived.Test.YtgflkhifphpgpaaLin
namespace Go.Proofs.Ytgflkhifphpgpaa
open Go Go.RowKit Gw
open Go.ChangeMaps (setBlock)
set_option maxHeartbeats 4000000
set_option linter.unusedVariables false
set_option maxRecDepth 1000000
attribute [local go_sem] evalE lookE linUpon wantedE yieldE putE

theorem arm_tail (B : Nat) (w wr : World) (X b mb rb k : Nat) (nw x0 x1 x2 x3 n2 : Int) (kk : ByteArray) (A2 : Ents) (sv2 : Value) (R2 : RL) (c : Nat → Value) (Q0 : Exit → Act → World → Prop)
    (T5 : Hid (Mt B w wr X (xc4 x0 x1 x2 x3) 30 b mb A2 n2 rb sv2 R2 n2)) (HP : Hid (MP A2 n2 R2 nw (k + 1))) (HO2 : Hid (okI x2))
    (hmeet : ∀ (v174 v175 v176 v177 v178 v179 v180 v181 v182 v183 v184 v185 v186 v187 v188 v189 v190 v191 v192 v193 v194 v195 v196 v197 v198 v199 v200 v201 v202 v203 : Value) (wx : World), MLoop B w b mb rb (k + 1) nw wx → Q0 .normal ⟨#[c 0, c 1, c 2, c 3, c 4, c 5, c 6, c 7, .pointer (some ⟨b, 0, none⟩), .pointer (some ⟨rb, 0, none⟩), c 10, c 11, .pointer (some ⟨X, 0, none⟩), .string kk, c 14, c 15, c 16, c 17, c 18, c 19, c 20, c 21, c 22, c 23, c 24, c 25, c 26, c 27, c 28, c 29, c 30, c 31, c 32, c 33, c 34, c 35, c 36, c 37, c 38, c 39, c 40, c 41, c 42, c 43, c 44, c 45, c 46, c 47, c 48, c 49, c 50, c 51, c 52, c 53, c 54, c 55, c 56, c 57, c 58, c 59, c 60, c 61, c 62, c 63, c 64, c 65, c 66, c 67, c 68, c 69, c 70, c 71, c 72, c 73, c 74, c 75, c 76, c 77, c 78, c 79, c 80, c 81, c 82, c 83, c 84, c 85, c 86, c 87, c 88, c 89, c 90, c 91, c 92, c 93, c 94, c 95, c 96, c 97, c 98, c 99, c 100, c 101, c 102, c 103, c 104, c 105, c 106, c 107, c 108, c 109, c 110, c 111, c 112, c 113, c 114, c 115, c 116, c 117, c 118, c 119, c 120, c 121, c 122, c 123, c 124, c 125, c 126, c 127, c 128, c 129, c 130, c 131, c 132, c 133, c 134, c 135, c 136, c 137, c 138, c 139, c 140, c 141, c 142, c 143, c 144, c 145, c 146, c 147, c 148, c 149, c 150, c 151, c 152, c 153, c 154, c 155, c 156, c 157, c 158, c 159, c 160, c 161, c 162, c 163, c 164, c 165, c 166, c 167, c 168, c 169, c 170, c 171, c 172, c 173, v174, v175, v176, v177, v178, v179, v180, v181, v182, v183, v184, v185, v186, v187, v188, v189, v190, v191, v192, v193, v194, v195, v196, v197, v198, v199, v200, v201, v202, v203, c 204], []⟩ wx) :
    Code.wp Try.prog tail42 Q0 ⟨#[c 0, c 1, c 2, c 3, c 4, c 5, c 6, c 7, .pointer (some ⟨b, 0, none⟩), .pointer (some ⟨rb, 0, none⟩), c 10, c 11, .pointer (some ⟨X, 0, none⟩), .string kk, c 14, c 15, c 16, c 17, c 18, c 19, c 20, c 21, c 22, c 23, c 24, c 25, c 26, c 27, c 28, c 29, c 30, c 31, c 32, c 33, c 34, c 35, c 36, c 37, c 38, c 39, c 40, c 41, c 42, c 43, c 44, c 45, c 46, c 47, c 48, c 49, c 50, c 51, c 52, c 53, c 54, c 55, c 56, c 57, c 58, c 59, c 60, c 61, c 62, c 63, c 64, c 65, c 66, c 67, c 68, c 69, c 70, c 71, c 72, c 73, c 74, c 75, c 76, c 77, c 78, c 79, c 80, c 81, c 82, c 83, c 84, c 85, c 86, c 87, c 88, c 89, c 90, c 91, c 92, c 93, c 94, c 95, c 96, c 97, c 98, c 99, c 100, c 101, c 102, c 103, c 104, c 105, c 106, c 107, c 108, c 109, c 110, c 111, c 112, c 113, c 114, c 115, c 116, c 117, c 118, c 119, c 120, c 121, c 122, c 123, c 124, c 125, c 126, c 127, c 128, c 129, c 130, c 131, c 132, c 133, c 134, c 135, c 136, c 137, c 138, c 139, c 140, c 141, c 142, c 143, c 144, c 145, c 146, c 147, c 148, c 149, c 150, c 151, c 152, c 153, c 154, c 155, c 156, c 157, c 158, c 159, c 160, c 161, c 162, c 163, c 164, c 165, c 166, c 167, c 168, c 169, c 170, c 171, c 172, c 173, c 174, c 175, c 176, c 177, c 178, c 179, c 180, c 181, c 182, c 183, c 184, c 185, c 186, c 187, c 188, c 189, c 190, c 191, c 192, c 193, c 194, c 195, c 196, c 197, c 198, c 199, c 200, c 201, c 202, c 203, c 204], []⟩ wr := by
  have HMEET := Lib.hid hmeet
  clear hmeet
  conv => arg 2; whnf
  have hx2 : World.cell? _ ⟨X, 2, none⟩ = some (.int .i64 x2) := cell_of_block T5.out.x rfl
  obtain ⟨ao5, cap5, hsv5, -, -, -⟩ := T5.out.l.r.row.form
  subst hsv5
  have HKEYS := Lib.hid T5.out.l.t.tab.keys
  have T5D := Lib.hid (T5.out.grow ((Below.refl _ _).drew))
  clear hx2
  go_wp2_with fail
  refine wp_region_lin (List.replicate 30 false) (fun _ w' => Hid (Mt B w w' X (xc4 x0 x1 x2 x3) 30 b mb A2 n2 rb (.slice ao5 R2.length cap5) R2 n2)) 205 rfl (by kernel_rfl) (by kernel_rfl) T5D ?_
  intro fr hfr
  have HFR := Lib.hid hfr
  have e8 : fr.tmps.getD 8 undef = .pointer (some ⟨b, 0, none⟩) := by rw [hfr]; rfl
  have e9 : fr.tmps.getD 9 undef = .pointer (some ⟨rb, 0, none⟩) := by rw [hfr]; rfl
  have e12 : fr.tmps.getD 12 undef = .pointer (some ⟨X, 0, none⟩) := by rw [hfr]; rfl
  have e13 : fr.tmps.getD 13 undef = .string kk := by rw [hfr]; rfl
  clear hfr
  apply wpLin_keep
  · intro j wj hj K hK
    go_simp
    exact hK _ hj
  apply wpLin_keep
  · intro j wj hj K hK
    go_simp
    exact (len_calls b mb A2 n2 _ hj.out.l.t.tab).mono (by rintro e w' ⟨rfl, rfl⟩; rw [sim_len HP.out.sim]; exact ⟨_, rfl, hK _ hj⟩)
  apply wpLin_keep
  · intro j wj hj K hK
    go_simp
    exact hK _ hj
  apply wpLin_keep
  · intro j wj hj K hK
    go_simp
    exact hK _ hj
  apply wpLin_keep
  · intro j wj hj K hK
    go_simp
    exact hK _ hj
  apply wpLin_keep
  · intro j wj hj K hK
    have hc := cell_of_block (i := 0) (v := .slice ao5 R2.length cap5) hj.out.l.r.hd rfl
    go_simp
    exact hK _ hj
  apply wpLin_keep
  · intro j wj hj K hK
    go_simp
    exact hK _ hj
  apply wpLin_keep
  · intro j wj hj K hK
    go_simp
    exact hK _ hj
  apply wpLin_keep
  · intro j wj hj K hK
    go_simp
    exact hK _ hj
  apply wpLin_keep
  · intro j wj hj K hK
    go_simp
    exact hK _ hj
  apply wpLin_keep
  · intro j wj hj K hK
    go_simp
    exact hK _ hj
  apply wpLin_keep
  · intro j wj hj K hK
    go_simp
    exact (current_calls kk b mb A2 n2 _ hj.out.l.t.tab).mono (by rintro e w' ⟨rfl, rfl⟩; exact ⟨_, rfl, hK _ hj⟩)
  apply wpLin_keep
  · intro j wj hj K hK
    go_simp
    exact hK _ hj
  apply wpLin_keep
  · intro j wj hj K hK
    go_simp
    exact hK _ hj
  apply wpLin_keep
  · intro j wj hj K hK
    go_simp
    exact (rcurrent_calls B kk rb _ R2 n2 _ hj.out.l.r).mono (by rintro e w' ⟨rfl, rfl⟩; rw [sim_tok HP.out.sim HKEYS.out]; exact ⟨_, rfl, hK _ hj⟩)
  apply wpLin_keep
  · intro j wj hj K hK
    go_simp
    exact hK _ hj
  apply wpLin_keep
  · intro j wj hj K hK
    go_simp
    exact hK _ hj
  apply wpLin_keep
  · intro j wj hj K hK
    go_simp
    exact hK _ hj
  apply wpLin_keep
  · intro j wj hj K hK
    go_simp
    exact hK _ hj
  apply wpLin_keep
  · intro j wj hj K hK
    go_simp
    exact hK _ hj
  apply wpLin_keep
  · intro j wj hj K hK
    have hc := cell_of_block (i := 2) (v := .int .i64 x2) hj.out.x rfl
    go_simp
    exact hK _ hj
  apply wpLin_keep
  · intro j wj hj K hK
    go_simp
    exact (key_calls x2 _ HO2.out).mono (by rintro e w' ⟨rfl, hb⟩; exact ⟨_, rfl, hK _ (Lib.hid (hj.out.grow hb))⟩)
  apply wpLin_keep
  · intro j wj hj K hK
    go_simp
    exact (current_calls (keyB (pickN x2 4)) b mb A2 n2 _ hj.out.l.t.tab).mono (by rintro e w' ⟨rfl, rfl⟩; exact ⟨_, rfl, hK _ hj⟩)
  apply wpLin_keep
  · intro j wj hj K hK
    go_simp
    exact hK _ hj
  apply wpLin_keep
  · intro j wj hj K hK
    go_simp
    exact hK _ hj
  apply wpLin_keep
  · intro j wj hj K hK
    have hc := cell_of_block (i := 2) (v := .int .i64 x2) hj.out.x rfl
    go_simp
    exact hK _ hj
  apply wpLin_keep
  · intro j wj hj K hK
    go_simp
    exact (key_calls x2 _ HO2.out).mono (by rintro e w' ⟨rfl, hb⟩; exact ⟨_, rfl, hK _ (Lib.hid (hj.out.grow hb))⟩)
  apply wpLin_keep
  · intro j wj hj K hK
    go_simp
    exact (rcurrent_calls B (keyB (pickN x2 4)) rb _ R2 n2 _ hj.out.l.r).mono (by rintro e w' ⟨rfl, rfl⟩; rw [sim_tok HP.out.sim HKEYS.out]; exact ⟨_, rfl, hK _ hj⟩)
  apply wpLin_keep
  · intro j wj hj K hK
    go_simp
    exact hK _ hj
  apply wpLin_keep
  · intro j wj hj K hK
    go_simp
    exact hK _ hj
  apply wpLin_done
  intro wz hz
  rw [HFR.out]
  simp only [putE, putsE, Act.put, List.setIfInBounds_toArray, List.set_cons_zero, List.set_cons_succ]
  have HL8 : Hid (MLoop B w b mb rb (k + 1) nw wz) := ⟨_, _, _, _, HP.out, hz.out.l⟩
  clear HFR
  go_wp2_with fail
  exact HMEET.out _ _ _ _ _ _ _ _ _ _ _ _ _ _ _ _ _ _ _ _ _ _ _ _ _ _ _ _ _ _ _ HL8.out
end Go.Proofs.Ytgflkhifphpgpaa
