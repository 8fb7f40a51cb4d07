/- The arm Fill of LeaseMatchesReference, once more. -/
import Derived.Test.YtgflkhifphpgpaaMatCode
import Derived.Test.YtgflkhifphpgpaaLin
namespace Go.Proofs.Ytgflkhifphpgpaa
open Go Go.RowKit Gw
open Go.ChangeMaps (setBlock)
set_option maxHeartbeats 4000000
set_option linter.unusedVariables false
set_option maxRecDepth 1000000
attribute [local go_sem] evalE lookE linUpon wantedE yieldE putE

theorem arm_4 (B : Nat) (w wr : World) (X b mb rb k d : Nat) (nw x0 x1 x2 x3 n at_ : Int) (kk : ByteArray) (A : Ents) (sv : Value) (R : RL) (c : Nat → Value) (Q0 : Exit → Act → World → Prop)
    (T4 : Hid (Mt B w wr X (xc4 x0 x1 x2 x3) 30 b mb A n rb sv R n)) (HP : Hid (MP A n R nw k)) (hd : d < 9) (hk2 : k < 60) (HO2 : Hid (okI x2)) (HO3 : Hid (okI x3)) (HAT : Hid (okI at_))
    (hmeet : ∀ (v6 v15 v16 v17 v18 v19 v20 v21 v22 v80 v81 v82 v83 v84 v85 v86 v87 v88 v89 v90 v91 v92 v93 v94 v95 v96 v97 v98 v99 v100 v101 v102 v103 v104 v105 v106 v107 v108 v109 v110 v111 v112 v113 v114 v115 v116 v117 v118 v119 v120 v121 v122 v123 v124 v125 v126 v127 v128 v129 v130 v131 v132 v133 v134 v135 v136 v137 v138 v139 v140 v141 v142 v143 v144 v145 v146 v147 v148 v149 v150 v151 v152 v153 v154 v155 v156 v157 v158 v159 v160 v161 v162 v163 v164 v165 v166 v167 v168 v169 v170 v171 v172 v173 : Value) (wx : World), MState B w X (xc4 x0 x1 x2 x3) b mb rb (k + 1) (nw + d) wx → Q0 .normal ⟨#[c 0, c 1, c 2, c 3, c 4, c 5, v6, c 7, .pointer (some ⟨b, 0, none⟩), .pointer (some ⟨rb, 0, none⟩), c 10, c 11, .pointer (some ⟨X, 0, none⟩), .string kk, .int .i64 at_, v15, v16, v17, v18, v19, v20, v21, v22, c 23, c 24, c 25, c 26, c 27, c 28, c 29, c 30, c 31, c 32, c 33, c 34, c 35, c 36, c 37, c 38, c 39, c 40, c 41, c 42, c 43, c 44, c 45, c 46, c 47, c 48, c 49, c 50, c 51, c 52, c 53, c 54, c 55, c 56, c 57, c 58, c 59, c 60, c 61, c 62, c 63, c 64, c 65, c 66, c 67, c 68, c 69, c 70, c 71, c 72, c 73, c 74, c 75, c 76, c 77, c 78, .int .i64 4, v80, v81, v82, v83, v84, v85, v86, v87, v88, v89, v90, v91, v92, v93, v94, v95, v96, v97, v98, v99, v100, v101, v102, v103, v104, v105, v106, v107, v108, v109, v110, v111, v112, v113, v114, v115, v116, v117, v118, v119, v120, v121, v122, v123, v124, v125, v126, v127, v128, v129, v130, v131, v132, v133, v134, v135, v136, v137, v138, v139, v140, v141, v142, v143, v144, v145, v146, v147, v148, v149, v150, v151, v152, v153, v154, v155, v156, v157, v158, v159, v160, v161, v162, v163, v164, v165, v166, v167, v168, v169, v170, v171, v172, v173, c 174, c 175, c 176, c 177, c 178, c 179, c 180, c 181, c 182, c 183, c 184, c 185, c 186, c 187, c 188, c 189, c 190, c 191, c 192, c 193, c 194, c 195, c 196, c 197, c 198, c 199, c 200, c 201, c 202, c 203, c 204], []⟩ wx) :
    Code.wp Try.prog blk2 Q0 ⟨#[c 0, c 1, c 2, c 3, c 4, c 5, c 6, c 7, .pointer (some ⟨b, 0, none⟩), .pointer (some ⟨rb, 0, none⟩), c 10, c 11, .pointer (some ⟨X, 0, none⟩), .string kk, .int .i64 at_, c 15, c 16, c 17, c 18, c 19, c 20, c 21, c 22, c 23, c 24, c 25, c 26, c 27, c 28, c 29, c 30, c 31, c 32, c 33, c 34, c 35, c 36, c 37, c 38, c 39, c 40, c 41, c 42, c 43, c 44, c 45, c 46, c 47, c 48, c 49, c 50, c 51, c 52, c 53, c 54, c 55, c 56, c 57, c 58, c 59, c 60, c 61, c 62, c 63, c 64, c 65, c 66, c 67, c 68, c 69, c 70, c 71, c 72, c 73, c 74, c 75, c 76, c 77, c 78, .int .i64 4, c 80, c 81, c 82, c 83, c 84, c 85, c 86, c 87, c 88, c 89, c 90, c 91, c 92, c 93, c 94, c 95, c 96, c 97, c 98, c 99, c 100, c 101, c 102, c 103, c 104, c 105, c 106, c 107, c 108, c 109, c 110, c 111, c 112, c 113, c 114, c 115, c 116, c 117, c 118, c 119, c 120, c 121, c 122, c 123, c 124, c 125, c 126, c 127, c 128, c 129, c 130, c 131, c 132, c 133, c 134, c 135, c 136, c 137, c 138, c 139, c 140, c 141, c 142, c 143, c 144, c 145, c 146, c 147, c 148, c 149, c 150, c 151, c 152, c 153, c 154, c 155, c 156, c 157, c 158, c 159, c 160, c 161, c 162, c 163, c 164, c 165, c 166, c 167, c 168, c 169, c 170, c 171, c 172, c 173, c 174, c 175, c 176, c 177, c 178, c 179, c 180, c 181, c 182, c 183, c 184, c 185, c 186, c 187, c 188, c 189, c 190, c 191, c 192, c 193, c 194, c 195, c 196, c 197, c 198, c 199, c 200, c 201, c 202, c 203, c 204], []⟩ wr := by
  have HKEYS := Lib.hid T4.out.l.t.tab.keys
  have hn6 : Hid (n < 1000000) := by show n < 1000000; have := HP.out.le; omega
  have hl6 : Hid (R.length < 1000000) := by show R.length < 1000000; have := HP.out.len; omega
  have HMEET := Lib.hid hmeet
  clear hmeet
  conv => arg 2; whnf
  have hx2 : World.cell? _ ⟨X, 2, none⟩ = some (.int .i64 x2) := cell_of_block T4.out.x rfl
  have hrn : World.cell? _ ⟨rb, 1, none⟩ = some (.int .i64 n) := cell_of_block T4.out.l.r.hd rfl
  have hn60 : n ≤ 60 := by have := HP.out.le; omega
  have hn00 : 0 ≤ n := T4.out.l.r.n0
  go_wp2_with fail
  go_still_tail 7, (by kernel_rfl)
  change wpList _ _ _ _ _ wr.drew
  have T4D := Lib.hid (T4.out.grow ((Below.refl _ _).drew))
  generalize wr.drew = wq at *
  go_upto_if 157 with (first | (go_at_call 12; first | (with_reducible refine (pick_calls x2 (n.toNat + 2) (n + 2) _ (by omega) (by omega) (by omega) HO2.out).mono ?_; rintro e w' ⟨rfl, rfl⟩; have hx3 : World.cell? _ ⟨X, 3, none⟩ = some (.int .i64 x3) := cell_of_block T4D.out.x rfl) | (refine (pick_calls x3 2 2 _ (by omega) (by omega) (by omega) HO3.out).mono ?_; rintro e w' ⟨rfl, rfl⟩)))
  clear hx2 hrn T4
  go_cut [19] from 80 to 173 (fun s wx => ∃ tok : Int, s = .int .i64 tok ∧ Hid (Mt B w wx X (xc4 x0 x1 x2 x3) 30 b mb A n rb sv R n))
  case first =>
    go_wp2_with (first | (go_at_call 17; refine (rcurrent_calls B kk rb sv R n _ T4D.out.l.r).mono ?_; rintro e w' ⟨rfl, rfl⟩))
    all_goals go_meet
    all_goals exact ⟨_, rfl, T4D⟩
  case rest =>
    clear T4D hx3
    obtain ⟨tok, rfl, T4⟩ := hcut
    have hx2 : World.cell? _ ⟨X, 2, none⟩ = some (.int .i64 x2) := cell_of_block T4.out.x rfl
    clear hx2
    go_wp2_with fail
    have T4D := Lib.hid (T4.out.grow ((Below.refl _ _).drew))
    obtain ⟨SS, hSS⟩ : ∃ SS : Nat → World → Prop, SS = fun j w' => match j with | 0 => Mt B w w' X (xc4 x0 x1 x2 x3) 30 b mb A n rb sv R n | 1 => Mt B w w' X (xc4 x0 x1 x2 x3) 30 b mb (if fitsA kk tok A then mdel kk A else A) n rb sv R n | _ => ∃ sv7, Mt B w w' X (xc4 x0 x1 x2 x3) 30 b mb (if fitsA kk tok A then mdel kk A else A) n rb sv7 (rfillR kk tok R) n := ⟨_, rfl⟩
    have S0 : Hid (∀ w', SS 0 w' ↔ Mt B w w' X (xc4 x0 x1 x2 x3) 30 b mb A n rb sv R n) := by intro w'; rw [hSS]; exact Iff.rfl
    have S1 : Hid (∀ w', SS 1 w' ↔ Mt B w w' X (xc4 x0 x1 x2 x3) 30 b mb (if fitsA kk tok A then mdel kk A else A) n rb sv R n) := by intro w'; rw [hSS]; exact Iff.rfl
    have S2 : Hid (∀ w', SS 2 w' ↔ ∃ sv7, Mt B w w' X (xc4 x0 x1 x2 x3) 30 b mb (if fitsA kk tok A then mdel kk A else A) n rb sv7 (rfillR kk tok R) n) := by intro w'; rw [hSS]; exact Iff.rfl
    have SC : Hid (∀ j w', SS j w' → w'.cell? ⟨X, 2, none⟩ = some (.int .i64 x2)) := by
      intro j w' h
      rw [hSS] at h
      rcases j with _ | _ | j
      · exact cell_of_block (show Mt B w w' X (xc4 x0 x1 x2 x3) 30 b mb A n rb sv R n from h).x rfl
      · exact cell_of_block (show Mt B w w' X (xc4 x0 x1 x2 x3) 30 b mb (if fitsA kk tok A then mdel kk A else A) n rb sv R n from h).x rfl
      · obtain ⟨sv7, h⟩ := (show ∃ sv7, Mt B w w' X (xc4 x0 x1 x2 x3) 30 b mb (if fitsA kk tok A then mdel kk A else A) n rb sv7 (rfillR kk tok R) n from h); exact cell_of_block h.x rfl
    clear hSS
    refine wp_region_lin [false, false, false, false, false, true, false, false, false, false, false, true, false] SS 205 rfl (by kernel_rfl) (by kernel_rfl) ((S0.out _).2 T4D.out) ?_
    intro fr hfr
    have HFR := Lib.hid hfr
    have e8 : fr.tmps.getD 8 undef = .pointer (some ⟨b, 0, none⟩) := by rw [hfr]; rfl
    have e9 : fr.tmps.getD 9 undef = .pointer (some ⟨rb, 0, none⟩) := by rw [hfr]; rfl
    have e12 : fr.tmps.getD 12 undef = .pointer (some ⟨X, 0, none⟩) := by rw [hfr]; rfl
    have e13 : fr.tmps.getD 13 undef = .string kk := by rw [hfr]; rfl
    have e19 : fr.tmps.getD 19 undef = .int .i64 tok := by rw [hfr]; rfl
    clear hfr
    apply wpLin_keep
    · intro j wj hj K hK
      go_simp
      exact hK _ hj
    apply wpLin_keep
    · intro j wj hj K hK
      go_simp
      exact hK _ hj
    apply wpLin_keep
    · intro j wj hj K hK
      go_simp
      exact hK _ hj
    apply wpLin_keep
    · intro j wj hj K hK
      go_simp
      exact hK _ hj
    apply wpLin_keep
    · intro j wj hj K hK
      have hc := SC.out j wj hj
      go_simp
      exact hK _ hj
    apply wpLin_move
    · intro wj hj K hK
      go_simp
      exact (fill_any B kk tok x2 b mb A n _ ((S0.out _).1 hj).l.t).mono (by rintro e w6 ⟨rfl, hT6, hK6⟩; exact ⟨_, rfl, hK _ ((S1.out _).2 (((S0.out _).1 hj).op1 hT6 hK6 (fun i hi => .inl (foot_fill i hi))))⟩)
    apply wpLin_keep
    · intro j wj hj K hK
      go_simp
      exact hK _ hj
    apply wpLin_keep
    · intro j wj hj K hK
      go_simp
      exact hK _ hj
    apply wpLin_keep
    · intro j wj hj K hK
      go_simp
      exact hK _ hj
    apply wpLin_keep
    · intro j wj hj K hK
      go_simp
      exact hK _ hj
    apply wpLin_keep
    · intro j wj hj K hK
      have hc := SC.out j wj hj
      go_simp
      exact hK _ hj
    apply wpLin_move
    · intro wj hj K hK
      go_simp
      exact (rfill_calls B kk tok x2 rb sv R n _ ((S1.out _).1 hj).l.r).mono (by rintro e w7 ⟨rfl, hPost⟩; rw [sim_fillB HP.out.sim HKEYS.out]; obtain ⟨sv7, hT7, _⟩ := ((S1.out _).1 hj).op2 hPost; exact ⟨_, rfl, hK _ ((S2.out _).2 ⟨_, hT7⟩)⟩)
    apply wpLin_keep
    · intro j wj hj K hK
      go_simp
      exact hK _ hj
    apply wpLin_done
    intro wz hz
    rw [HFR.out]
    simp only [putE, putsE, Act.put, List.setIfInBounds_toArray, List.set_cons_zero, List.set_cons_succ]
    have HM : Hid (MState B w X (xc4 x0 x1 x2 x3) b mb rb (k + 1) (nw + d) wz) := by obtain ⟨sv7, hT7⟩ := (S2.out _).1 hz; exact ⟨_, _, _, _, mp_fill HP.out hd HKEYS.out, hT7⟩
    clear HFR hz S0 S1 S2 SC T4D T4
    go_wp2_with fail
    exact HMEET.out _ _ _ _ _ _ _ _ _ _ _ _ _ _ _ _ _ _ _ _ _ _ _ _ _ _ _ _ _ _ _ _ _ _ _ _ _ _ _ _ _ _ _ _ _ _ _ _ _ _ _ _ _ _ _ _ _ _ _ _ _ _ _ _ _ _ _ _ _ _ _ _ _ _ _ _ _ _ _ _ _ _ _ _ _ _ _ _ _ _ _ _ _ _ _ _ _ _ _ _ _ _ _ _ HM.out
end Go.Proofs.Ytgflkhifphpgpaa
