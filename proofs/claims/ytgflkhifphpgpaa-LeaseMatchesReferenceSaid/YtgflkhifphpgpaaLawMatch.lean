/- The law LeaseMatchesReference. -/
import Derived.Test.YtgflkhifphpgpaaRefH
import Derived.Deep.RegionHeld3
import Derived.Test.YtgflkhifphpgpaaOpenS
import Derived.Deep.DeepCutAuto
import Derived.Deep.CutBlock
import Derived.BigQuiet
import Derived.Test.YtgflkhifphpgpaaMatArms
namespace Go.Proofs.Ytgflkhifphpgpaa
open Go Go.RowKit Gw
open Go.ChangeMaps (setBlock)
set_option maxHeartbeats 1000000
set_option maxRecDepth 100000

theorem match_calls (B : Nat) (a : Option Addr) (g off len cap : Nat) (f : Nat → Nat → Int) (ka : Option Addr) (kg koff klen kcap : Nat) (kf : Nat → ByteArray) (ta : Option Addr) (tg toff tlen tcap : Nat) (tf : Nat → Nat → Int) (w : World)
    (hx : ArgN w a g off len 4 f) (_hl : len ≤ 9223372036854775807) (hk : ArgS w ka kg koff klen kf) (_hkl : klen ≤ 9223372036854775807) (ht : ArgN w ta tg toff tlen 1 tf) (_htl : tlen ≤ 9223372036854775807) (hB : B ≤ w.heap.size) (hg : len = 0 ∨ g < B) (hkg : klen = 0 ∨ kg < B) (htg : tlen = 0 ∨ tg < B) :
    Calls Try.prog 3 #[.slice a len cap, .slice ka klen kcap, .slice ta tlen tcap] w fun e w' => e = .returned (.bool true) ∧ Below B w w' := by
  have HX := Lib.hid hx
  have HK := Lib.hid hk
  have HTI := Lib.hid ht
  have HB := Lib.hid hB
  have HG := Lib.hid hg
  have HKG := Lib.hid hkg
  have HTG := Lib.hid htg
  clear hx hB hg hk ht hkg htg
  go_enter Try.func3, Try.ntmps3
  go_wp2_with (first | (go_at_call 8; refine (sane_calls _).mono ?_; rintro e w1 ⟨rfl, hb1⟩; have HB1 := Lib.hid (hb1.mono HB.out); clear hb1) | (go_at_call 9; refine (new_b B _ (Nat.le_trans HB.out HB1.out.size)).mono ?_; rintro e w2 ⟨b, mb, rfl, hT, hb2⟩; have HT := Lib.hid hT; have HB2 := Lib.hid (HB1.out.trans hb2); clear hT hb2 HB1) | (go_at_call 10; refine (rnew_calls B _ (Nat.le_trans HB.out HB2.out.size)).mono ?_; rintro e w3 ⟨rb, rfl, hR, hb3, hrb⟩; have HS := Lib.hid (MtL.start HT.out HB2.out hR hb3 hrb); clear hR hb3 hrb HT HB2))
  go_loopw [10, 11] (fun now i wr => ∃ (k : Nat) (nw : Int), i = .int .i64 k ∧ now = .int .i64 nw ∧ k ≤ 60 ∧ MLoop B w b mb rb k nw wr) (fun _ i _ => 60 - (intOf i).toNat)
  case atStart => exact ⟨0, 0, rfl, rfl, by omega, _, _, _, _, mp_start, HS.out⟩
  case round =>
    obtain ⟨k, nw, rfl, rfl, hk60, A, n, sv, R, hP, hI⟩ := hrel
    have HP := Lib.hid hP
    have HI := Lib.hid hI
    clear HS hP hI
    by_cases hk : k < len ∧ k < 60
    · obtain ⟨hk1, hk2⟩ := hk
      have hX := HX.out.below HI.out.below HG.out
      obtain rfl : a = some ⟨g, off, none⟩ := hX.ad.resolve_left (by omega)
      have hc0 := hX.cell k 0 hk1 (by omega)
      rw [Nat.add_zero] at hc0
      have hc1 := hX.cell k 1 hk1 (by omega)
      have hc2 := hX.cell k 2 hk1 (by omega)
      have hc3 := hX.cell k 3 hk1 (by omega)
      have ho0 := hX.ok k 0 hk1 (by omega)
      have ho1 := hX.ok k 1 hk1 (by omega)
      have ho2 := hX.ok k 2 hk1 (by omega)
      have ho3 := hX.ok k 3 hk1 (by omega)
      clear hX
      generalize f k 0 = x0 at *
      generalize f k 1 = x1 at *
      generalize f k 2 = x2 at *
      generalize f k 3 = x3 at *
      have HO0 := Lib.hid ho0
      have HO1 := Lib.hid ho1
      have HO2 := Lib.hid ho2
      have HO3 := Lib.hid ho3
      clear ho0 ho1 ho2 ho3
      have hnow0 := HP.out.now0
      have hnow1 := HP.out.now1
      have T1 := Lib.hid (HI.out.with (xc4 x0 x1 x2 x3) 30)
      go_upto_region 10 with (first | (go_at_call 11; refine (key_calls x1 _ HO1.out).mono ?_; rintro e w4 ⟨rfl, hb4⟩; have T4 := Lib.hid (T1.out.grow hb4); clear hb4))
      generalize hXX : wr.heap.size = X at *
      have HXX := Lib.hid hXX
      clear hXX hc0 hc1 hc2 hc3
      have hx1 : w4.cell? ⟨X, 1, none⟩ = some (.int .i64 x1) := cell_of_block T4.out.x rfl
      go_cut [52] (fun s wx => ∃ c : Bool, s = .bool c ∧ Hid (c = true → k < klen) ∧ wx = w4)
      case first =>
        as_aux_lemma =>
        by_cases hkl : k < klen
        · go_wp2_with (first | (go_at_call 12; refine (pick_calls x1 9 9 _ (by omega) (by omega) (by omega) HO1.out).mono ?_; rintro e w' ⟨rfl, rfl⟩))
          go_meet
          exact ⟨_, rfl, fun _ => hkl, rfl⟩
        · go_wp2_with fail
          go_meet
          exact ⟨_, rfl, fun h => (by cases h), rfl⟩
      case rest =>
        as_aux_lemma =>
        obtain ⟨c, rfl, hc, rfl⟩ := hcut
        go_upto_if 52 with fail
        go_cut [13] (fun s wx => ∃ kk : ByteArray, s = .string kk ∧ wx = wc)
        case first =>
          as_aux_lemma =>
          cases c with
          | true =>
            have hkl : k < klen := hc.out rfl
            have hX := HK.out.below T4.out.l.below HKG.out
            obtain rfl : ka = some ⟨kg, koff, none⟩ := hX.ad.resolve_left (by omega)
            have hck := hX.cell k hkl
            clear hX
            go_wp2_with fail
            go_meet
            exact ⟨_, rfl, rfl⟩
          | false =>
            go_wp2_with fail
            go_meet
            exact ⟨_, rfl, rfl⟩
        case rest =>
          as_aux_lemma =>
          obtain ⟨kk, rfl, hww⟩ := hcut
          subst hww
          clear hx1
          have hx3 : World.cell? _ ⟨X, 3, none⟩ = some (.int .i64 x3) := cell_of_block T4.out.x rfl
          go_upto_region 14 with (first | (go_at_call 12; refine (pick_calls x3 9 9 _ (by omega) (by omega) (by omega) HO3.out).mono ?_; rintro e w' ⟨rfl, rfl⟩; have hd := pickN_lt x3 9 (by omega); generalize pickN x3 9 = d at hd ⊢))
          go_cut [72] (fun s wx => ∃ c : Bool, s = .bool c ∧ Hid (c = true → k < tlen) ∧ Hid (Mt B w wx X (xc4 x0 x1 x2 x3) 30 b mb A n rb sv R n))
          case first =>
            as_aux_lemma =>
            by_cases hkl : k < tlen
            · go_wp2_with (first | (go_at_call 12; refine (pick_calls x3 11 11 _ (by omega) (by omega) (by omega) HO3.out).mono ?_; rintro e w' ⟨rfl, rfl⟩))
              go_meet
              exact ⟨_, rfl, fun _ => hkl, T4⟩
            · go_wp2_with fail
              go_meet
              exact ⟨_, rfl, fun h => (by cases h), T4⟩
          case rest =>
            as_aux_lemma =>
            clear T4 hx3
            obtain ⟨c2, rfl, hc2, T4⟩ := hcut
            go_upto_if 72 with fail
            go_cut [14] (fun s wx => ∃ at_ : Int, s = .int .i64 at_ ∧ Hid (okI at_) ∧ Hid (Mt B w wx X (xc4 x0 x1 x2 x3) 30 b mb A n rb sv R n))
            case first =>
              as_aux_lemma =>
              cases c2 with
              | true =>
                have hkl : k < tlen := hc2.out rfl
                have hX := HTI.out.below T4.out.l.below HTG.out
                obtain rfl : ta = some ⟨tg, toff, none⟩ := hX.ad.resolve_left (by omega)
                have hck := hX.cell k 0 hkl (by omega)
                have HOT := Lib.hid (hX.ok k 0 hkl (by omega))
                rw [Nat.add_zero, Nat.mul_one] at hck
                clear hX
                go_wp2_with fail
                go_meet
                exact ⟨_, rfl, HOT, T4⟩
              | false =>
                have HOT : Hid (okI (nw + d)) := ⟨by omega, by omega⟩
                go_wp2_with fail
                go_meet
                exact ⟨_, rfl, HOT, T4⟩
            case rest =>
              as_aux_lemma =>
              clear T4
              obtain ⟨at_, rfl, HAT, T4⟩ := hcut
              have hx0 : World.cell? _ ⟨X, 0, none⟩ = some (.int .i64 x0) := cell_of_block T4.out.x rfl
              go_upto_block 2 with (first | (go_at_call 12; refine (pick_calls x0 6 6 _ (by omega) (by omega) (by omega) HO0.out).mono ?_; rintro e w' ⟨rfl, rfl⟩; have hc6 := pickN_lt x0 6 (by omega); generalize pickN x0 6 = c6 at hc6 ⊢))
              go_cut [15] (fun _ wx => Hid (MState B w X (xc4 x0 x1 x2 x3) b mb rb (k + 1) (nw + d) wx))
              case first =>
                as_aux_lemma =>
                clear hx0
                have h6 : c6 = 0 ∨ c6 = 1 ∨ c6 = 2 ∨ c6 = 3 ∨ c6 = 4 ∨ c6 = 5 := by omega
                clear hc6
                rcases h6 with rfl | rfl | rfl | rfl | rfl | rfl
                · refine armc_0 B w _ X b mb rb k d nw x0 x1 x2 x3 n at_ kk A sv R _ _ _ _ _ _ _ _ _ _ _ _ _ _ _ _ _ _ _ _ _ _ _ _ _ _ _ _ _ _ _ _ _ _ _ _ _ _ _ _ _ _ _ _ _ _ _ _ _ _ _ _ _ _ _ _ _ _ _ _ _ _ _ _ _ _ _ _ _ _ _ _ _ _ _ _ _ _ _ _ _ _ _ _ _ _ _ _ _ _ _ _ _ _ _ _ _ _ _ _ _ _ _ _ _ _ _ _ _ _ _ _ _ _ _ _ _ _ _ _ _ _ _ _ _ _ _ _ _ _ _ _ _ _ _ _ _ _ _ _ _ _ _ _ _ _ _ _ _ _ _ _ _ _ _ _ _ _ _ _ _ _ _ _ _ _ _ _ _ _ _ _ _ _ _ _ _ _ _ _ _ _ _ _ _ _ _ _ _ _ _ _ _ _ _ _ _ _ _ _ (by as_aux_lemma => kernel_rfl) _ T4 HP hd hk2 HO2 HO3 HAT ?_
                  intro v0 v1 v2 v3 v4 v5 v6 v7 v8 v9 v10 v11 v12 v13 v14 v15 v16 v17 v18 v19 v20 v21 v22 v23 v24 v25 v26 v27 v28 v29 v30 v31 v32 v33 v34 v35 v36 v37 v38 v39 v40 v41 v42 v43 v44 v45 v46 v47 v48 v49 v50 v51 v52 v53 v54 v55 v56 v57 v58 v59 v60 v61 v62 v63 v64 v65 v66 v67 v68 v69 v70 v71 v72 v73 v74 v75 v76 v77 v78 v79 v80 v81 v82 v83 v84 v85 v86 v87 v88 v89 v90 v91 v92 v93 v94 v95 v96 v97 v98 v99 v100 v101 v102 wx HM
                  dsimp only
                  go_wp2_with fail
                  go_meet
                  exact HM
                · refine armc_1 B w _ X b mb rb k d nw x0 x1 x2 x3 n at_ kk A sv R _ _ _ _ _ _ _ _ _ _ _ _ _ _ _ _ _ _ _ _ _ _ _ _ _ _ _ _ _ _ _ _ _ _ _ _ _ _ _ _ _ _ _ _ _ _ _ _ _ _ _ _ _ _ _ _ _ _ _ _ _ _ _ _ _ _ _ _ _ _ _ _ _ _ _ _ _ _ _ _ _ _ _ _ _ _ _ _ _ _ _ _ _ _ _ _ _ _ _ _ _ _ _ _ _ _ _ _ _ _ _ _ _ _ _ _ _ _ _ _ _ _ _ _ _ _ _ _ _ _ _ _ _ _ _ _ _ _ _ _ _ _ _ _ _ _ _ _ _ _ _ _ _ _ _ _ _ _ _ _ _ _ _ _ _ _ _ _ _ _ _ _ _ _ _ _ _ _ _ _ _ _ _ _ _ _ _ _ _ _ _ _ _ _ _ _ _ _ _ _ (by as_aux_lemma => kernel_rfl) _ T4 HP hd hk2 HO2 HO3 HAT ?_
                  intro v0 v1 v2 v3 v4 v5 v6 v7 v8 v9 v10 v11 v12 v13 v14 v15 v16 v17 v18 v19 v20 v21 v22 v23 v24 v25 v26 v27 v28 v29 v30 v31 v32 v33 v34 v35 v36 v37 v38 v39 v40 v41 v42 v43 v44 v45 v46 v47 v48 v49 v50 v51 v52 v53 v54 v55 v56 v57 v58 v59 v60 v61 v62 v63 v64 v65 v66 v67 v68 v69 v70 v71 v72 v73 v74 v75 v76 v77 v78 v79 v80 v81 v82 v83 v84 v85 v86 v87 v88 v89 v90 v91 v92 v93 v94 v95 v96 v97 v98 v99 v100 v101 v102 wx HM
                  dsimp only
                  go_wp2_with fail
                  go_meet
                  exact HM
                · refine armc_2 B w _ X b mb rb k d nw x0 x1 x2 x3 n at_ kk A sv R _ _ _ _ _ _ _ _ _ _ _ _ _ _ _ _ _ _ _ _ _ _ _ _ _ _ _ _ _ _ _ _ _ _ _ _ _ _ _ _ _ _ _ _ _ _ _ _ _ _ _ _ _ _ _ _ _ _ _ _ _ _ _ _ _ _ _ _ _ _ _ _ _ _ _ _ _ _ _ _ _ _ _ _ _ _ _ _ _ _ _ _ _ _ _ _ _ _ _ _ _ _ _ _ _ _ _ _ _ _ _ _ _ _ _ _ _ _ _ _ _ _ _ _ _ _ _ _ _ _ _ _ _ _ _ _ _ _ _ _ _ _ _ _ _ _ _ _ _ _ _ _ _ _ _ _ _ _ _ _ _ _ _ _ _ _ _ _ _ _ _ _ _ _ _ _ _ _ _ _ _ _ _ _ _ _ _ _ _ _ _ _ _ _ _ _ _ _ _ _ (by as_aux_lemma => kernel_rfl) _ T4 HP hd hk2 HO2 HO3 HAT ?_
                  intro v0 v1 v2 v3 v4 v5 v6 v7 v8 v9 v10 v11 v12 v13 v14 v15 v16 v17 v18 v19 v20 v21 v22 v23 v24 v25 v26 v27 v28 v29 v30 v31 v32 v33 v34 v35 v36 v37 v38 v39 v40 v41 v42 v43 v44 v45 v46 v47 v48 v49 v50 v51 v52 v53 v54 v55 v56 v57 v58 v59 v60 v61 v62 v63 v64 v65 v66 v67 v68 v69 v70 v71 v72 v73 v74 v75 v76 v77 v78 v79 v80 v81 v82 v83 v84 v85 v86 v87 v88 v89 v90 v91 v92 v93 v94 v95 v96 v97 v98 v99 v100 v101 v102 wx HM
                  dsimp only
                  go_wp2_with fail
                  go_meet
                  exact HM
                · refine armc_3 B w _ X b mb rb k d nw x0 x1 x2 x3 n at_ kk A sv R _ _ _ _ _ _ _ _ _ _ _ _ _ _ _ _ _ _ _ _ _ _ _ _ _ _ _ _ _ _ _ _ _ _ _ _ _ _ _ _ _ _ _ _ _ _ _ _ _ _ _ _ _ _ _ _ _ _ _ _ _ _ _ _ _ _ _ _ _ _ _ _ _ _ _ _ _ _ _ _ _ _ _ _ _ _ _ _ _ _ _ _ _ _ _ _ _ _ _ _ _ _ _ _ _ _ _ _ _ _ _ _ _ _ _ _ _ _ _ _ _ _ _ _ _ _ _ _ _ _ _ _ _ _ _ _ _ _ _ _ _ _ _ _ _ _ _ _ _ _ _ _ _ _ _ _ _ _ _ _ _ _ _ _ _ _ _ _ _ _ _ _ _ _ _ _ _ _ _ _ _ _ _ _ _ _ _ _ _ _ _ _ _ _ _ _ _ _ _ _ (by as_aux_lemma => kernel_rfl) _ T4 HP hd hk2 HO2 HO3 HAT ?_
                  intro v0 v1 v2 v3 v4 v5 v6 v7 v8 v9 v10 v11 v12 v13 v14 v15 v16 v17 v18 v19 v20 v21 v22 v23 v24 v25 v26 v27 v28 v29 v30 v31 v32 v33 v34 v35 v36 v37 v38 v39 v40 v41 v42 v43 v44 v45 v46 v47 v48 v49 v50 v51 v52 v53 v54 v55 v56 v57 v58 v59 v60 v61 v62 v63 v64 v65 v66 v67 v68 v69 v70 v71 v72 v73 v74 v75 v76 v77 v78 v79 v80 v81 v82 v83 v84 v85 v86 v87 v88 v89 v90 v91 v92 v93 v94 v95 v96 v97 v98 v99 v100 v101 v102 wx HM
                  dsimp only
                  go_wp2_with fail
                  go_meet
                  exact HM
                · refine armc_4 B w _ X b mb rb k d nw x0 x1 x2 x3 n at_ kk A sv R _ _ _ _ _ _ _ _ _ _ _ _ _ _ _ _ _ _ _ _ _ _ _ _ _ _ _ _ _ _ _ _ _ _ _ _ _ _ _ _ _ _ _ _ _ _ _ _ _ _ _ _ _ _ _ _ _ _ _ _ _ _ _ _ _ _ _ _ _ _ _ _ _ _ _ _ _ _ _ _ _ _ _ _ _ _ _ _ _ _ _ _ _ _ _ _ _ _ _ _ _ _ _ _ _ _ _ _ _ _ _ _ _ _ _ _ _ _ _ _ _ _ _ _ _ _ _ _ _ _ _ _ _ _ _ _ _ _ _ _ _ _ _ _ _ _ _ _ _ _ _ _ _ _ _ _ _ _ _ _ _ _ _ _ _ _ _ _ _ _ _ _ _ _ _ _ _ _ _ _ _ _ _ _ _ _ _ _ _ _ _ _ _ _ _ _ _ _ _ _ (by as_aux_lemma => kernel_rfl) _ T4 HP hd hk2 HO2 HO3 HAT ?_
                  intro v0 v1 v2 v3 v4 v5 v6 v7 v8 v9 v10 v11 v12 v13 v14 v15 v16 v17 v18 v19 v20 v21 v22 v23 v24 v25 v26 v27 v28 v29 v30 v31 v32 v33 v34 v35 v36 v37 v38 v39 v40 v41 v42 v43 v44 v45 v46 v47 v48 v49 v50 v51 v52 v53 v54 v55 v56 v57 v58 v59 v60 v61 v62 v63 v64 v65 v66 v67 v68 v69 v70 v71 v72 v73 v74 v75 v76 v77 v78 v79 v80 v81 v82 v83 v84 v85 v86 v87 v88 v89 v90 v91 v92 v93 v94 v95 v96 v97 v98 v99 v100 v101 v102 wx HM
                  dsimp only
                  go_wp2_with fail
                  go_meet
                  exact HM
                · refine armc_5 B w _ X b mb rb k d nw x0 x1 x2 x3 n at_ kk A sv R _ _ _ _ _ _ _ _ _ _ _ _ _ _ _ _ _ _ _ _ _ _ _ _ _ _ _ _ _ _ _ _ _ _ _ _ _ _ _ _ _ _ _ _ _ _ _ _ _ _ _ _ _ _ _ _ _ _ _ _ _ _ _ _ _ _ _ _ _ _ _ _ _ _ _ _ _ _ _ _ _ _ _ _ _ _ _ _ _ _ _ _ _ _ _ _ _ _ _ _ _ _ _ _ _ _ _ _ _ _ _ _ _ _ _ _ _ _ _ _ _ _ _ _ _ _ _ _ _ _ _ _ _ _ _ _ _ _ _ _ _ _ _ _ _ _ _ _ _ _ _ _ _ _ _ _ _ _ _ _ _ _ _ _ _ _ _ _ _ _ _ _ _ _ _ _ _ _ _ _ _ _ _ _ _ _ _ _ _ _ _ _ _ _ _ _ _ _ _ _ (by as_aux_lemma => kernel_rfl) _ T4 HP hd hk2 HO2 HO3 HAT ?_
                  intro v0 v1 v2 v3 v4 v5 v6 v7 v8 v9 v10 v11 v12 v13 v14 v15 v16 v17 v18 v19 v20 v21 v22 v23 v24 v25 v26 v27 v28 v29 v30 v31 v32 v33 v34 v35 v36 v37 v38 v39 v40 v41 v42 v43 v44 v45 v46 v47 v48 v49 v50 v51 v52 v53 v54 v55 v56 v57 v58 v59 v60 v61 v62 v63 v64 v65 v66 v67 v68 v69 v70 v71 v72 v73 v74 v75 v76 v77 v78 v79 v80 v81 v82 v83 v84 v85 v86 v87 v88 v89 v90 v91 v92 v93 v94 v95 v96 v97 v98 v99 v100 v101 v102 wx HM
                  dsimp only
                  go_wp2_with fail
                  go_meet
                  exact HM
              case rest =>
                as_aux_lemma =>
                clear T4 HP hx0
                obtain ⟨A2, n2, sv2, R2, hP2, hT2⟩ := hcut.out
                have HP := Lib.hid hP2
                have T5 := Lib.hid hT2
                clear hP2 hT2 hcut
                go_step
                refine armc_tail B w _ X b mb rb k (nw + d) x0 x1 x2 x3 n2 kk A2 sv2 R2 _ _ _ _ _ _ _ _ _ _ _ _ _ _ _ _ _ _ _ _ _ _ _ _ _ _ _ _ _ _ _ _ _ _ _ _ _ _ _ _ _ _ _ _ _ _ _ _ _ _ _ _ _ _ _ _ _ _ _ _ _ _ _ _ _ _ _ _ _ _ _ _ _ _ _ _ _ _ _ _ _ _ _ _ _ _ _ _ _ _ _ _ _ _ _ _ _ _ _ _ _ _ _ _ _ _ _ _ _ _ _ _ _ _ _ _ _ _ _ _ _ _ _ _ _ _ _ _ _ _ _ _ _ _ _ _ _ _ _ _ _ _ _ _ _ _ _ _ _ _ _ _ _ _ _ _ _ _ _ _ _ _ _ _ _ _ _ _ _ _ _ _ _ _ _ _ _ _ _ _ _ _ _ _ _ _ _ _ _ _ _ _ _ _ _ _ _ _ _ _ _ _ (by as_aux_lemma => kernel_rfl) _ T5 HP HO2 ?_
                intro v0 v1 v2 v3 v4 v5 v6 v7 v8 v9 v10 v11 v12 v13 v14 v15 v16 v17 v18 v19 v20 v21 v22 v23 v24 v25 v26 v27 v28 v29 wx HM
                dsimp only
                have HL8 := Lib.hid HM
                clear HM T5
                go_wp2
                go_roundw
                case rel => exact ⟨k + 1, nw + d, by go_num, rfl, by omega, HL8.out⟩
                case measure => simp [intOf]; omega
    · have h2 : len ≤ k ∨ (k < len ∧ 60 ≤ k) := by omega
      have HBW := Lib.hid HI.out.below
      rcases h2 with h2 | ⟨h2, h3⟩
      all_goals
        go_wp2
        go_ret
        exact ⟨rfl, HBW.out⟩
end Go.Proofs.Ytgflkhifphpgpaa
