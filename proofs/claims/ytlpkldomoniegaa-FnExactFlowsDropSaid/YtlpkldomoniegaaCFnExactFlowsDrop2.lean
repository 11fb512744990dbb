/- Texts that the row of FnExactFlowsDrop stands on: functions of the program and of the reference, each as a Lean function with the same answers, and the plain lemmas. Conditions: none beside those that each theorem names. -/
import Derived.Test.YtlpkldomoniegaaCFnExactFlowsDrop1
namespace Go.Proofs.Ytlpkldomoniegaa.X
open Go.RowKit Go.Proofs.YtlpkldomoniegaaW.PrintWords Go.Proofs.YtlpkldomoniegaaW.PrintLast Go.Proofs.YtlpkldomoniegaaW.PrintMore
attribute [local go_sem] max2_int min2_int max_two min_two max_three min_three max_four min_four   -- for this text's walks alone
set_option linter.unusedVariables false
set_option linter.unusedSimpArgs false
section
/-! ### laws_heldFlowS: function 48 -/
def laws_heldFlowS.l0 : Nat → List (S71) → Int → Int → Option (Int)
  | 0, _, _, _ => none
  | k + 1, x0, x1, x5 => if x5 < (x0.length : Int) then (if 0 ≤ x5 then (if ((rd_T71 x0 x5).f0) = x1 then ((laws_markText.f k (wrap64 (x1 + 1))).bind fun t874 => (if ((rd_T71 x0 x5).f1).toList = t874.toList then (if ((rd_T71 x0 x5).f2) = (wrap64 ((wrap64 (x1 + 1)) + 1)) then (if ((rd_T71 x0 x5).f3) = (wrap64 ((wrap64 ((wrap64 (x1 + 1)) + 1)) + 1)) then (if ((rd_T71 x0 x5).f4) = (wrap64 ((wrap64 ((wrap64 ((wrap64 (x1 + 1)) + 1)) + 1)) + 1)) then (if ((rd_T71 x0 x5).f5) = (wrap64 ((wrap64 ((wrap64 ((wrap64 ((wrap64 (x1 + 1)) + 1)) + 1)) + 1)) + 1)) then (if ((rd_T71 x0 x5).f6) = (wrap64 ((wrap64 ((wrap64 ((wrap64 ((wrap64 ((wrap64 (x1 + 1)) + 1)) + 1)) + 1)) + 1)) + 1)) then (if ((rd_T71 x0 x5).f7) = (wrap64 ((wrap64 ((wrap64 ((wrap64 ((wrap64 ((wrap64 ((wrap64 (x1 + 1)) + 1)) + 1)) + 1)) + 1)) + 1)) + 1)) then (if ((rd_T71 x0 x5).f8) = (wrap64 ((wrap64 ((wrap64 ((wrap64 ((wrap64 ((wrap64 ((wrap64 ((wrap64 (x1 + 1)) + 1)) + 1)) + 1)) + 1)) + 1)) + 1)) + 1)) then (laws_heldFlowS.l0 k x0 (wrap64 ((wrap64 ((wrap64 ((wrap64 ((wrap64 ((wrap64 ((wrap64 ((wrap64 ((wrap64 (x1 + 1)) + 1)) + 1)) + 1)) + 1)) + 1)) + 1)) + 1)) + 1)) (wrap64 (x5 + 1))) else (some (-1))) else (some (-1))) else (some (-1))) else (some (-1))) else (some (-1))) else (some (-1))) else (some (-1))) else (some (-1)))) else (some (-1))) else (none)) else (some x1)
def laws_heldFlowS.f (k : Nat) (l0 : List (S71)) (a1 : Int) : Option (Int) := laws_heldFlowS.l0 k l0 a1 0
theorem laws_heldFlowS.mono_l : ∀ k, (∀ y0 y1 y2, LeO (laws_heldFlowS.l0 k y0 y1 y2) (laws_heldFlowS.l0 (k + 1) y0 y1 y2))
  | 0 => fun _ _ _ r h => by simp [laws_heldFlowS.l0] at h
  | k + 1 => by
    have ih0 := laws_heldFlowS.mono_l k
    · intro y0 y1 y2
      unfold laws_heldFlowS.l0
      repeat' first
      | (with_reducible exact ih0 _ _ _)
      | (with_reducible exact laws_markText.mono ..)
      | (with_reducible exact LeO.refl _)
      | (with_reducible exact LeO.none _)
      | (with_reducible refine LeO.ite ?_ ?_)
      | (with_reducible refine LeO.bind ?_ (fun _ => ?_))
      | exact ih0 _ _ _
      | exact laws_markText.mono ..
      | exact LeO.none _
      | refine LeO.ite ?_ ?_
      | refine LeO.bind ?_ (fun _ => ?_)
theorem laws_heldFlowS.mono : ∀ a0 a1 k, LeO (laws_heldFlowS.f k a0 a1) (laws_heldFlowS.f (k + 1) a0 a1) := by
  intro a0 a1 k
  have ih0 := laws_heldFlowS.mono_l k
  unfold laws_heldFlowS.f
  repeat' first
      | (with_reducible exact ih0 _ _ _)
      | (with_reducible exact laws_markText.mono ..)
      | (with_reducible exact LeO.refl _)
      | (with_reducible exact LeO.none _)
      | (with_reducible refine LeO.ite ?_ ?_)
      | (with_reducible refine LeO.bind ?_ (fun _ => ?_))
      | exact ih0 _ _ _
      | exact laws_markText.mono ..
      | exact LeO.none _
      | refine LeO.ite ?_ ?_
      | refine LeO.bind ?_ (fun _ => ?_)
def laws_heldFlowS.T7 : Bool × List (List Nat × List Nat) := (true, [([], []), ([], []), ([0, 1], [0, 1]), ([2], [2]), ([3], [3]), ([], []), ([5], [5]), ([4, 6], [4, 6])])
def laws_heldFlowS.B7 : List Nat := [0, 0, 3, 7, 15, 0, 32, 127]
theorem laws_heldFlowS.tab7 : rtab .any (opsOf Try.f48 7) = laws_heldFlowS.T7 := by kernel_rfl
theorem laws_heldFlowS.bits7 : waitsOk laws_heldFlowS.T7.2 laws_heldFlowS.B7 = true := by kernel_rfl
set_option maxHeartbeats 8000000 in
set_option maxRecDepth 100000 in
theorem laws_heldFlowS.calls (k : Nat) (A0 : Option Addr) (c0 : Nat) (l0 : List (S71)) (a1 : Int) (r : Int) (w : World) (hr0 : Kd.C k71 w A0 l0.length l0) (hc0 : l0.length ≤ c0) (h : laws_heldFlowS.f k l0 a1 = some r) :
    Calls Try.prog 48 #[.slice A0 l0.length c0, .int .i64 a1] w fun e w' => e = .returned (.int .i64 r) ∧ Below w.heap.size w w' := by
  have HR0 := Aside0.mk hr0
  have HC0 := Aside0.mk hc0
  clear hr0 hc0
  have HB := Aside0.mk (Below.refl w.heap.size w)
  have H : (laws_heldFlowS.l0 k l0 a1 0) = some r := h
  clear h
  have H' := Aside0.mk H
  clear H
  go_enter Try.func48, Try.ntmps48
  go_wp2
  go_loopg [1, 5] k (fun kq v1 v5 w' => ∃ (x1_1 : Int) (x5_1 : Int), v1 = .int .i64 x1_1 ∧ v5 = .int .i64 x5_1 ∧ Aside0 (laws_heldFlowS.l0 kq l0 x1_1 x5_1 = some r) ∧ Aside0 (kq ≤ k) ∧ Aside0 (Below w.heap.size w w'))
  case atStart => exact ⟨(a1), (0), (by first | rfl | (simp; done) | (simp [*]; done) | (simp [ne_nil_b]; done) | (simp [ne_nil_b, *]; done)), (by first | rfl | (simp; done) | (simp [*]; done) | (simp [ne_nil_b]; done) | (simp [ne_nil_b, *]; done)), H', ⟨Nat.le_refl _⟩, ⟨by repeat (first | (with_reducible first | exact HB.out | apply below_alloc | apply pw_below_drewN | apply below_drew1) | exact HB.out)⟩⟩
  case round =>
    clear H'
    try clear p2
    obtain ⟨x1_1, x5_1, rfl, rfl, HA, HK1, HB⟩ := hrel
    cases gk with
    | zero => exact absurd HA.out (by simp [laws_heldFlowS.l0])
    | succ k1 =>
      have H := HA.out
      clear HA
      simp only [laws_heldFlowS.l0] at H
      by_cases c3 : x5_1 < (l0.length : Int)
      · rw [if_pos c3] at H
        have c3b0 : decide (x5_1 < (l0.length : Int)) = true := decide_eq_true c3
        clear c3
        by_cases c4 : 0 ≤ x5_1
        · rw [if_pos c4] at H
          have c4b0 : decide (0 ≤ x5_1) = true := decide_eq_true c4
          clear c4
          by_cases c5 : ((rd_T71 l0 x5_1).f0) = x1_1
          · rw [if_pos c5] at H
            have c5b0 : (((rd_T71 l0 x5_1).f0) == x1_1) = true := beq_iff_eq.mpr c5
            have c5b1 : (((rd_T71 l0 x5_1).f0) != x1_1) = false := bne_eq_false_iff_eq.mpr c5
            clear c5
            replace H := Option.bind_eq_some_iff.mp H
            obtain ⟨t874, A60, H⟩ := H
            replace H : (if ((rd_T71 l0 x5_1).f1).toList = t874.toList then (if ((rd_T71 l0 x5_1).f2) = (wrap64 ((wrap64 (x1_1 + 1)) + 1)) then (if ((rd_T71 l0 x5_1).f3) = (wrap64 ((wrap64 ((wrap64 (x1_1 + 1)) + 1)) + 1)) then (if ((rd_T71 l0 x5_1).f4) = (wrap64 ((wrap64 ((wrap64 ((wrap64 (x1_1 + 1)) + 1)) + 1)) + 1)) then (if ((rd_T71 l0 x5_1).f5) = (wrap64 ((wrap64 ((wrap64 ((wrap64 ((wrap64 (x1_1 + 1)) + 1)) + 1)) + 1)) + 1)) then (if ((rd_T71 l0 x5_1).f6) = (wrap64 ((wrap64 ((wrap64 ((wrap64 ((wrap64 ((wrap64 (x1_1 + 1)) + 1)) + 1)) + 1)) + 1)) + 1)) then (if ((rd_T71 l0 x5_1).f7) = (wrap64 ((wrap64 ((wrap64 ((wrap64 ((wrap64 ((wrap64 ((wrap64 (x1_1 + 1)) + 1)) + 1)) + 1)) + 1)) + 1)) + 1)) then (if ((rd_T71 l0 x5_1).f8) = (wrap64 ((wrap64 ((wrap64 ((wrap64 ((wrap64 ((wrap64 ((wrap64 ((wrap64 (x1_1 + 1)) + 1)) + 1)) + 1)) + 1)) + 1)) + 1)) + 1)) then (laws_heldFlowS.l0 k1 l0 (wrap64 ((wrap64 ((wrap64 ((wrap64 ((wrap64 ((wrap64 ((wrap64 ((wrap64 ((wrap64 (x1_1 + 1)) + 1)) + 1)) + 1)) + 1)) + 1)) + 1)) + 1)) + 1)) (wrap64 (x5_1 + 1))) else (some (-1))) else (some (-1))) else (some (-1))) else (some (-1))) else (some (-1))) else (some (-1))) else (some (-1))) else (some (-1))) = some r := H
            have A6 := Aside0.mk A60
            clear A60
            by_cases c7 : ((rd_T71 l0 x5_1).f1).toList = t874.toList
            · rw [if_pos c7] at H
              have c7b0 : (((rd_T71 l0 x5_1).f1).toList == t874.toList) = true := beq_iff_eq.mpr c7
              have c7b1 : (((rd_T71 l0 x5_1).f1).toList != t874.toList) = false := bne_eq_false_iff_eq.mpr c7
              clear c7
              by_cases c8 : ((rd_T71 l0 x5_1).f2) = (wrap64 ((wrap64 (x1_1 + 1)) + 1))
              · rw [if_pos c8] at H
                have c8b0 : (((rd_T71 l0 x5_1).f2) == (wrap64 ((wrap64 (x1_1 + 1)) + 1))) = true := beq_iff_eq.mpr c8
                have c8b1 : (((rd_T71 l0 x5_1).f2) != (wrap64 ((wrap64 (x1_1 + 1)) + 1))) = false := bne_eq_false_iff_eq.mpr c8
                clear c8
                by_cases c9 : ((rd_T71 l0 x5_1).f3) = (wrap64 ((wrap64 ((wrap64 (x1_1 + 1)) + 1)) + 1))
                · rw [if_pos c9] at H
                  have c9b0 : (((rd_T71 l0 x5_1).f3) == (wrap64 ((wrap64 ((wrap64 (x1_1 + 1)) + 1)) + 1))) = true := beq_iff_eq.mpr c9
                  have c9b1 : (((rd_T71 l0 x5_1).f3) != (wrap64 ((wrap64 ((wrap64 (x1_1 + 1)) + 1)) + 1))) = false := bne_eq_false_iff_eq.mpr c9
                  clear c9
                  by_cases c10 : ((rd_T71 l0 x5_1).f4) = (wrap64 ((wrap64 ((wrap64 ((wrap64 (x1_1 + 1)) + 1)) + 1)) + 1))
                  · rw [if_pos c10] at H
                    have c10b0 : (((rd_T71 l0 x5_1).f4) == (wrap64 ((wrap64 ((wrap64 ((wrap64 (x1_1 + 1)) + 1)) + 1)) + 1))) = true := beq_iff_eq.mpr c10
                    have c10b1 : (((rd_T71 l0 x5_1).f4) != (wrap64 ((wrap64 ((wrap64 ((wrap64 (x1_1 + 1)) + 1)) + 1)) + 1))) = false := bne_eq_false_iff_eq.mpr c10
                    clear c10
                    by_cases c11 : ((rd_T71 l0 x5_1).f5) = (wrap64 ((wrap64 ((wrap64 ((wrap64 ((wrap64 (x1_1 + 1)) + 1)) + 1)) + 1)) + 1))
                    · rw [if_pos c11] at H
                      have c11b0 : (((rd_T71 l0 x5_1).f5) == (wrap64 ((wrap64 ((wrap64 ((wrap64 ((wrap64 (x1_1 + 1)) + 1)) + 1)) + 1)) + 1))) = true := beq_iff_eq.mpr c11
                      have c11b1 : (((rd_T71 l0 x5_1).f5) != (wrap64 ((wrap64 ((wrap64 ((wrap64 ((wrap64 (x1_1 + 1)) + 1)) + 1)) + 1)) + 1))) = false := bne_eq_false_iff_eq.mpr c11
                      clear c11
                      by_cases c12 : ((rd_T71 l0 x5_1).f6) = (wrap64 ((wrap64 ((wrap64 ((wrap64 ((wrap64 ((wrap64 (x1_1 + 1)) + 1)) + 1)) + 1)) + 1)) + 1))
                      · rw [if_pos c12] at H
                        have c12b0 : (((rd_T71 l0 x5_1).f6) == (wrap64 ((wrap64 ((wrap64 ((wrap64 ((wrap64 ((wrap64 (x1_1 + 1)) + 1)) + 1)) + 1)) + 1)) + 1))) = true := beq_iff_eq.mpr c12
                        have c12b1 : (((rd_T71 l0 x5_1).f6) != (wrap64 ((wrap64 ((wrap64 ((wrap64 ((wrap64 ((wrap64 (x1_1 + 1)) + 1)) + 1)) + 1)) + 1)) + 1))) = false := bne_eq_false_iff_eq.mpr c12
                        clear c12
                        by_cases c13 : ((rd_T71 l0 x5_1).f7) = (wrap64 ((wrap64 ((wrap64 ((wrap64 ((wrap64 ((wrap64 ((wrap64 (x1_1 + 1)) + 1)) + 1)) + 1)) + 1)) + 1)) + 1))
                        · rw [if_pos c13] at H
                          have c13b0 : (((rd_T71 l0 x5_1).f7) == (wrap64 ((wrap64 ((wrap64 ((wrap64 ((wrap64 ((wrap64 ((wrap64 (x1_1 + 1)) + 1)) + 1)) + 1)) + 1)) + 1)) + 1))) = true := beq_iff_eq.mpr c13
                          have c13b1 : (((rd_T71 l0 x5_1).f7) != (wrap64 ((wrap64 ((wrap64 ((wrap64 ((wrap64 ((wrap64 ((wrap64 (x1_1 + 1)) + 1)) + 1)) + 1)) + 1)) + 1)) + 1))) = false := bne_eq_false_iff_eq.mpr c13
                          clear c13
                          by_cases c14 : ((rd_T71 l0 x5_1).f8) = (wrap64 ((wrap64 ((wrap64 ((wrap64 ((wrap64 ((wrap64 ((wrap64 ((wrap64 (x1_1 + 1)) + 1)) + 1)) + 1)) + 1)) + 1)) + 1)) + 1))
                          · rw [if_pos c14] at H
                            have c14b0 : (((rd_T71 l0 x5_1).f8) == (wrap64 ((wrap64 ((wrap64 ((wrap64 ((wrap64 ((wrap64 ((wrap64 ((wrap64 (x1_1 + 1)) + 1)) + 1)) + 1)) + 1)) + 1)) + 1)) + 1))) = true := beq_iff_eq.mpr c14
                            have c14b1 : (((rd_T71 l0 x5_1).f8) != (wrap64 ((wrap64 ((wrap64 ((wrap64 ((wrap64 ((wrap64 ((wrap64 ((wrap64 (x1_1 + 1)) + 1)) + 1)) + 1)) + 1)) + 1)) + 1)) + 1))) = false := bne_eq_false_iff_eq.mpr c14
                            clear c14
                            have H' := Aside0.mk H
                            clear H
                            have p872 : 0 ≤ (x5_1 : Int) := of_decide_eq_true (by first | (with_reducible assumption) | assumption)
                            have q872 : x5_1 < (l0.length : Int) := of_decide_eq_true (by first | (with_reducible assumption) | assumption)
                            obtain ⟨ad872, e872, hx872_0, hx872_1, hx872_2, hx872_3, hx872_4, hx872_5, hx872_6, hx872_7, hx872_8⟩ := at_T71 HR0.out x5_1 p872 q872
                            cases e872
                            replace hx872_0 := (HB.out.cell (World.block_lt_of_cell? w _ hx872_0)).trans hx872_0
                            replace hx872_1 := (HB.out.cell (World.block_lt_of_cell? w _ hx872_1)).trans hx872_1
                            replace hx872_2 := (HB.out.cell (World.block_lt_of_cell? w _ hx872_2)).trans hx872_2
                            replace hx872_3 := (HB.out.cell (World.block_lt_of_cell? w _ hx872_3)).trans hx872_3
                            replace hx872_4 := (HB.out.cell (World.block_lt_of_cell? w _ hx872_4)).trans hx872_4
                            replace hx872_5 := (HB.out.cell (World.block_lt_of_cell? w _ hx872_5)).trans hx872_5
                            replace hx872_6 := (HB.out.cell (World.block_lt_of_cell? w _ hx872_6)).trans hx872_6
                            replace hx872_7 := (HB.out.cell (World.block_lt_of_cell? w _ hx872_7)).trans hx872_7
                            replace hx872_8 := (HB.out.cell (World.block_lt_of_cell? w _ hx872_8)).trans hx872_8
                            replace p872 := eq_true p872
                            replace q872 := eq_true q872
                            try go_wp2
                            have n0_ := Aside0.mk (below_drew1 HB.out)
                            clear HB
                            have HB := n0_
                            clear n0_
                            have p873 : 0 ≤ (x5_1 : Int) := of_decide_eq_true (by first | (with_reducible assumption) | assumption)
                            have q873 : x5_1 < (l0.length : Int) := of_decide_eq_true (by first | (with_reducible assumption) | assumption)
                            obtain ⟨ad873, e873, hx873_0, hx873_1, hx873_2, hx873_3, hx873_4, hx873_5, hx873_6, hx873_7, hx873_8⟩ := at_T71 HR0.out x5_1 p873 q873
                            have hw873_8 := hx873_8
                            have hw873_7 := hx873_7
                            have hw873_6 := hx873_6
                            have hw873_5 := hx873_5
                            have hw873_4 := hx873_4
                            have hw873_3 := hx873_3
                            have hw873_2 := hx873_2
                            have hw873_1 := hx873_1
                            have hw873_0 := hx873_0
                            obtain rfl : ad872 = ad873 := (by injection e873)
                            replace hx873_0 := (HB.out.cell (World.block_lt_of_cell? w _ hx873_0)).trans hx873_0
                            replace hx873_1 := (HB.out.cell (World.block_lt_of_cell? w _ hx873_1)).trans hx873_1
                            replace hx873_2 := (HB.out.cell (World.block_lt_of_cell? w _ hx873_2)).trans hx873_2
                            replace hx873_3 := (HB.out.cell (World.block_lt_of_cell? w _ hx873_3)).trans hx873_3
                            replace hx873_4 := (HB.out.cell (World.block_lt_of_cell? w _ hx873_4)).trans hx873_4
                            replace hx873_5 := (HB.out.cell (World.block_lt_of_cell? w _ hx873_5)).trans hx873_5
                            replace hx873_6 := (HB.out.cell (World.block_lt_of_cell? w _ hx873_6)).trans hx873_6
                            replace hx873_7 := (HB.out.cell (World.block_lt_of_cell? w _ hx873_7)).trans hx873_7
                            replace hx873_8 := (HB.out.cell (World.block_lt_of_cell? w _ hx873_8)).trans hx873_8
                            replace p873 := eq_true p873
                            replace q873 := eq_true q873
                            refine start_ (n := 8) (S := fun w' => w'.cell? (ad872.add ((x5_1).toNat * 9)) = some (.int .i64 ((rd_T71 l0 x5_1).f0)) ∧ w'.cell? ⟨(ad872.add ((x5_1).toNat * 9)).block, (ad872.add ((x5_1).toNat * 9)).off + 1, none⟩ = some (.string ((rd_T71 l0 x5_1).f1)) ∧ w'.cell? ⟨(ad872.add ((x5_1).toNat * 9)).block, (ad872.add ((x5_1).toNat * 9)).off + 2, none⟩ = some (.int .i64 ((rd_T71 l0 x5_1).f2)) ∧ w'.cell? ⟨(ad872.add ((x5_1).toNat * 9)).block, (ad872.add ((x5_1).toNat * 9)).off + 3, none⟩ = some (.int .i64 ((rd_T71 l0 x5_1).f3)) ∧ w'.cell? ⟨(ad872.add ((x5_1).toNat * 9)).block, (ad872.add ((x5_1).toNat * 9)).off + 4, none⟩ = some (.int .i64 ((rd_T71 l0 x5_1).f4)) ∧ w'.cell? ⟨(ad872.add ((x5_1).toNat * 9)).block, (ad872.add ((x5_1).toNat * 9)).off + 5, none⟩ = some (.int .i64 ((rd_T71 l0 x5_1).f5)) ∧ w'.cell? ⟨(ad872.add ((x5_1).toNat * 9)).block, (ad872.add ((x5_1).toNat * 9)).off + 6, none⟩ = some (.int .i64 ((rd_T71 l0 x5_1).f6)) ∧ w'.cell? ⟨(ad872.add ((x5_1).toNat * 9)).block, (ad872.add ((x5_1).toNat * 9)).off + 7, none⟩ = some (.int .i64 ((rd_T71 l0 x5_1).f7)) ∧ w'.cell? ⟨(ad872.add ((x5_1).toNat * 9)).block, (ad872.add ((x5_1).toNat * 9)).off + 8, none⟩ = some (.int .i64 ((rd_T71 l0 x5_1).f8))) (ds := []) #[false, false, false, false, false, false, false, false] (by kernel_rfl) rfl rfl ⟨((HB.out.cell (World.block_lt_of_cell? w _ hw873_0)).trans hw873_0), ((HB.out.cell (World.block_lt_of_cell? w _ hw873_1)).trans hw873_1), ((HB.out.cell (World.block_lt_of_cell? w _ hw873_2)).trans hw873_2), ((HB.out.cell (World.block_lt_of_cell? w _ hw873_3)).trans hw873_3), ((HB.out.cell (World.block_lt_of_cell? w _ hw873_4)).trans hw873_4), ((HB.out.cell (World.block_lt_of_cell? w _ hw873_5)).trans hw873_5), ((HB.out.cell (World.block_lt_of_cell? w _ hw873_6)).trans hw873_6), ((HB.out.cell (World.block_lt_of_cell? w _ hw873_7)).trans hw873_7), ((HB.out.cell (World.block_lt_of_cell? w _ hw873_8)).trans hw873_8)⟩ (fun hHeld => ?_); refine with_tabW laws_heldFlowS.tab7 laws_heldFlowS.bits7 (fun HT_ HW_ => ?_)
                            generalize wr.drew = w15 at HB hx873_0 hx873_1 hx873_2 hx873_3 hx873_4 hx873_5 hx873_6 hx873_7 hx873_8 hHeld ⊢
                            refine pure_ (i := 0) (N := some 21) (v := ?_) (a' := ?_) #[true, false, false, false, false, false, false, false] rfl rfl (any_of HT_.out (by kernel_rfl)) (fun _ _ _ h => h) (Or.inl ⟨by rfl, ?_⟩) ?_ ?_
                            rotate_left
                            · intro w'
                              go_simp
                              with_reducible rfl
                            rotate_left
                            · simp only [Act.put, List.setIfInBounds_toArray, List.set_cons_zero, List.set_cons_succ, i64_w, i32_w]
                              rfl
                            refine pure_ (i := 1) (N := some 22) (v := ?_) (a' := ?_) #[true, true, false, false, false, false, false, false] rfl rfl (any_of HT_.out (by kernel_rfl)) (fun _ _ _ h => h) (Or.inl ⟨by rfl, ?_⟩) ?_ ?_
                            rotate_left
                            · intro w'
                              go_simp
                              with_reducible rfl
                            rotate_left
                            · simp only [Act.put, List.setIfInBounds_toArray, List.set_cons_zero, List.set_cons_succ, i64_w, i32_w]
                              rfl
                            refine pure_ (i := 2) (N := some 23) (v := ?_) (a' := ?_) #[true, true, true, false, false, false, false, false] rfl rfl (any_of HT_.out (by kernel_rfl)) (fun _ _ _ h => h) (Or.inl ⟨by rfl, ?_⟩) ?_ ?_
                            rotate_left
                            · intro w'
                              go_simp
                              with_reducible rfl
                            rotate_left
                            · simp only [Act.put, List.setIfInBounds_toArray, List.set_cons_zero, List.set_cons_succ, i64_w, i32_w]
                              rfl
                            refine pure_ (i := 3) (N := some 24) (v := ?_) (a' := ?_) #[true, true, true, true, false, false, false, false] rfl rfl (any_of HT_.out (by kernel_rfl)) (fun _ _ _ h => h) (Or.inl ⟨by rfl, ?_⟩) ?_ ?_
                            rotate_left
                            · intro w'
                              go_simp
                              with_reducible rfl
                            rotate_left
                            · simp only [Act.put, List.setIfInBounds_toArray, List.set_cons_zero, List.set_cons_succ, i64_w, i32_w]
                              rfl
                            refine pure_ (i := 5) (N := some 26) (v := ?_) (a' := ?_) #[true, true, true, true, false, true, false, false] rfl rfl (any_of HT_.out (by kernel_rfl)) (fun _ _ _ h => h) (Or.inl ⟨by rfl, ?_⟩) ?_ ?_
                            rotate_left
                            · intro w'
                              go_simp
                              with_reducible rfl
                            rotate_left
                            · simp only [Act.put, List.setIfInBounds_toArray, List.set_cons_zero, List.set_cons_succ, i64_w, i32_w]
                              rfl
                            refine take_ (i := 4) (N := some 25) (v := ?_) (a' := ?_) #[true, true, true, true, true, true, false, false] rfl rfl (take_ofW HT_.out HW_.out (by kernel_rfl)) (fun _ _ _ h => h) (Or.inl ⟨by rfl, ?_⟩) hHeld ?_ ?_
                            rotate_left
                            · rintro w' ⟨s0, s1, s2, s3, s4, s5, s6, s7, s8⟩
                              go_simp
                              with_reducible rfl
                            rotate_left
                            · simp only [Act.put, List.setIfInBounds_toArray, List.set_cons_zero, List.set_cons_succ, i64_w, i32_w]
                              rfl
                            refine one_ (i := 6) (N := some 27) #[true, true, true, true, true, true, true, false] rfl rfl (one_of HT_.out (by kernel_rfl)) (by decide) (fun K hK => ?_)
                            refine goes_ Try.func89 (by kernel_rfl) rfl #[.int .i64 (wrap64 (x1_1 + 1))] (by rfl) rfl rfl (by (try simp only [List.map_toArray, List.map_cons, List.map_nil]); first | done | rfl | (simp only [List.length_drop, List.length_take]; rfl)) ?_
                            with_reducible refine (laws_markText.calls k1 (wrap64 (x1_1 + 1)) t874 _ A6.out).mono ?_
                            rintro e w16 ⟨rfl, hb⟩
                            refine ⟨_, rfl, ?_⟩
                            have n0_ := Aside0.mk (below_step (by repeat (first | (with_reducible first | exact HB.out | apply below_alloc | apply pw_below_drewN | apply below_drew1) | exact HB.out)) hb)
                            clear HB
                            have HB := n0_
                            clear n0_
                            (try clear hb)
                            (try clear hb2)
                            (try clear hk)
                            (try clear hi)
                            refine hK.out _ _ ⟨((HB.out.cell (World.block_lt_of_cell? w _ hw873_0)).trans hw873_0), ((HB.out.cell (World.block_lt_of_cell? w _ hw873_1)).trans hw873_1), ((HB.out.cell (World.block_lt_of_cell? w _ hw873_2)).trans hw873_2), ((HB.out.cell (World.block_lt_of_cell? w _ hw873_3)).trans hw873_3), ((HB.out.cell (World.block_lt_of_cell? w _ hw873_4)).trans hw873_4), ((HB.out.cell (World.block_lt_of_cell? w _ hw873_5)).trans hw873_5), ((HB.out.cell (World.block_lt_of_cell? w _ hw873_6)).trans hw873_6), ((HB.out.cell (World.block_lt_of_cell? w _ hw873_7)).trans hw873_7), ((HB.out.cell (World.block_lt_of_cell? w _ hw873_8)).trans hw873_8)⟩ (fun hHeld => ?_)
                            clear hK K
                            refine norm_ (a' := ?_) ?_ ?_
                            rotate_left
                            · show Act.put _ (some 27) _ = _
                              simp only [Act.put, List.setIfInBounds_toArray, List.set_cons_zero, List.set_cons_succ, i64_w, i32_w]
                              rfl
                            refine pure_ (i := 7) (N := some 28) (v := ?_) (a' := ?_) #[true, true, true, true, true, true, true, true] rfl rfl (any_of HT_.out (by kernel_rfl)) (fun _ _ _ h => h) (Or.inl ⟨by rfl, ?_⟩) ?_ ?_
                            rotate_left
                            · intro w'
                              go_simp
                              with_reducible rfl
                            rotate_left
                            · simp only [Act.put, List.setIfInBounds_toArray, List.set_cons_zero, List.set_cons_succ, i64_w, i32_w]
                              rfl
                            refine done_ (done_of HT_.out (by kernel_rfl)) ?_
                            have p875 : 0 ≤ (x5_1 : Int) := of_decide_eq_true (by first | (with_reducible assumption) | assumption)
                            have q875 : x5_1 < (l0.length : Int) := of_decide_eq_true (by first | (with_reducible assumption) | assumption)
                            obtain ⟨ad875, e875, hx875_0, hx875_1, hx875_2, hx875_3, hx875_4, hx875_5, hx875_6, hx875_7, hx875_8⟩ := at_T71 HR0.out x5_1 p875 q875
                            obtain rfl : ad872 = ad875 := (by injection e875)
                            replace hx875_0 := (HB.out.cell (World.block_lt_of_cell? w _ hx875_0)).trans hx875_0
                            replace hx875_1 := (HB.out.cell (World.block_lt_of_cell? w _ hx875_1)).trans hx875_1
                            replace hx875_2 := (HB.out.cell (World.block_lt_of_cell? w _ hx875_2)).trans hx875_2
                            replace hx875_3 := (HB.out.cell (World.block_lt_of_cell? w _ hx875_3)).trans hx875_3
                            replace hx875_4 := (HB.out.cell (World.block_lt_of_cell? w _ hx875_4)).trans hx875_4
                            replace hx875_5 := (HB.out.cell (World.block_lt_of_cell? w _ hx875_5)).trans hx875_5
                            replace hx875_6 := (HB.out.cell (World.block_lt_of_cell? w _ hx875_6)).trans hx875_6
                            replace hx875_7 := (HB.out.cell (World.block_lt_of_cell? w _ hx875_7)).trans hx875_7
                            replace hx875_8 := (HB.out.cell (World.block_lt_of_cell? w _ hx875_8)).trans hx875_8
                            replace p875 := eq_true p875
                            replace q875 := eq_true q875
                            have p876 : 0 ≤ (x5_1 : Int) := of_decide_eq_true (by first | (with_reducible assumption) | assumption)
                            have q876 : x5_1 < (l0.length : Int) := of_decide_eq_true (by first | (with_reducible assumption) | assumption)
                            obtain ⟨ad876, e876, hx876_0, hx876_1, hx876_2, hx876_3, hx876_4, hx876_5, hx876_6, hx876_7, hx876_8⟩ := at_T71 HR0.out x5_1 p876 q876
                            obtain rfl : ad872 = ad876 := (by injection e876)
                            replace hx876_0 := (HB.out.cell (World.block_lt_of_cell? w _ hx876_0)).trans hx876_0
                            replace hx876_1 := (HB.out.cell (World.block_lt_of_cell? w _ hx876_1)).trans hx876_1
                            replace hx876_2 := (HB.out.cell (World.block_lt_of_cell? w _ hx876_2)).trans hx876_2
                            replace hx876_3 := (HB.out.cell (World.block_lt_of_cell? w _ hx876_3)).trans hx876_3
                            replace hx876_4 := (HB.out.cell (World.block_lt_of_cell? w _ hx876_4)).trans hx876_4
                            replace hx876_5 := (HB.out.cell (World.block_lt_of_cell? w _ hx876_5)).trans hx876_5
                            replace hx876_6 := (HB.out.cell (World.block_lt_of_cell? w _ hx876_6)).trans hx876_6
                            replace hx876_7 := (HB.out.cell (World.block_lt_of_cell? w _ hx876_7)).trans hx876_7
                            replace hx876_8 := (HB.out.cell (World.block_lt_of_cell? w _ hx876_8)).trans hx876_8
                            replace p876 := eq_true p876
                            replace q876 := eq_true q876
                            have p877 : 0 ≤ (x5_1 : Int) := of_decide_eq_true (by first | (with_reducible assumption) | assumption)
                            have q877 : x5_1 < (l0.length : Int) := of_decide_eq_true (by first | (with_reducible assumption) | assumption)
                            obtain ⟨ad877, e877, hx877_0, hx877_1, hx877_2, hx877_3, hx877_4, hx877_5, hx877_6, hx877_7, hx877_8⟩ := at_T71 HR0.out x5_1 p877 q877
                            obtain rfl : ad872 = ad877 := (by injection e877)
                            replace hx877_0 := (HB.out.cell (World.block_lt_of_cell? w _ hx877_0)).trans hx877_0
                            replace hx877_1 := (HB.out.cell (World.block_lt_of_cell? w _ hx877_1)).trans hx877_1
                            replace hx877_2 := (HB.out.cell (World.block_lt_of_cell? w _ hx877_2)).trans hx877_2
                            replace hx877_3 := (HB.out.cell (World.block_lt_of_cell? w _ hx877_3)).trans hx877_3
                            replace hx877_4 := (HB.out.cell (World.block_lt_of_cell? w _ hx877_4)).trans hx877_4
                            replace hx877_5 := (HB.out.cell (World.block_lt_of_cell? w _ hx877_5)).trans hx877_5
                            replace hx877_6 := (HB.out.cell (World.block_lt_of_cell? w _ hx877_6)).trans hx877_6
                            replace hx877_7 := (HB.out.cell (World.block_lt_of_cell? w _ hx877_7)).trans hx877_7
                            replace hx877_8 := (HB.out.cell (World.block_lt_of_cell? w _ hx877_8)).trans hx877_8
                            replace p877 := eq_true p877
                            replace q877 := eq_true q877
                            have p878 : 0 ≤ (x5_1 : Int) := of_decide_eq_true (by first | (with_reducible assumption) | assumption)
                            have q878 : x5_1 < (l0.length : Int) := of_decide_eq_true (by first | (with_reducible assumption) | assumption)
                            obtain ⟨ad878, e878, hx878_0, hx878_1, hx878_2, hx878_3, hx878_4, hx878_5, hx878_6, hx878_7, hx878_8⟩ := at_T71 HR0.out x5_1 p878 q878
                            obtain rfl : ad872 = ad878 := (by injection e878)
                            replace hx878_0 := (HB.out.cell (World.block_lt_of_cell? w _ hx878_0)).trans hx878_0
                            replace hx878_1 := (HB.out.cell (World.block_lt_of_cell? w _ hx878_1)).trans hx878_1
                            replace hx878_2 := (HB.out.cell (World.block_lt_of_cell? w _ hx878_2)).trans hx878_2
                            replace hx878_3 := (HB.out.cell (World.block_lt_of_cell? w _ hx878_3)).trans hx878_3
                            replace hx878_4 := (HB.out.cell (World.block_lt_of_cell? w _ hx878_4)).trans hx878_4
                            replace hx878_5 := (HB.out.cell (World.block_lt_of_cell? w _ hx878_5)).trans hx878_5
                            replace hx878_6 := (HB.out.cell (World.block_lt_of_cell? w _ hx878_6)).trans hx878_6
                            replace hx878_7 := (HB.out.cell (World.block_lt_of_cell? w _ hx878_7)).trans hx878_7
                            replace hx878_8 := (HB.out.cell (World.block_lt_of_cell? w _ hx878_8)).trans hx878_8
                            replace p878 := eq_true p878
                            replace q878 := eq_true q878
                            have p879 : 0 ≤ (x5_1 : Int) := of_decide_eq_true (by first | (with_reducible assumption) | assumption)
                            have q879 : x5_1 < (l0.length : Int) := of_decide_eq_true (by first | (with_reducible assumption) | assumption)
                            obtain ⟨ad879, e879, hx879_0, hx879_1, hx879_2, hx879_3, hx879_4, hx879_5, hx879_6, hx879_7, hx879_8⟩ := at_T71 HR0.out x5_1 p879 q879
                            obtain rfl : ad872 = ad879 := (by injection e879)
                            replace hx879_0 := (HB.out.cell (World.block_lt_of_cell? w _ hx879_0)).trans hx879_0
                            replace hx879_1 := (HB.out.cell (World.block_lt_of_cell? w _ hx879_1)).trans hx879_1
                            replace hx879_2 := (HB.out.cell (World.block_lt_of_cell? w _ hx879_2)).trans hx879_2
                            replace hx879_3 := (HB.out.cell (World.block_lt_of_cell? w _ hx879_3)).trans hx879_3
                            replace hx879_4 := (HB.out.cell (World.block_lt_of_cell? w _ hx879_4)).trans hx879_4
                            replace hx879_5 := (HB.out.cell (World.block_lt_of_cell? w _ hx879_5)).trans hx879_5
                            replace hx879_6 := (HB.out.cell (World.block_lt_of_cell? w _ hx879_6)).trans hx879_6
                            replace hx879_7 := (HB.out.cell (World.block_lt_of_cell? w _ hx879_7)).trans hx879_7
                            replace hx879_8 := (HB.out.cell (World.block_lt_of_cell? w _ hx879_8)).trans hx879_8
                            replace p879 := eq_true p879
                            replace q879 := eq_true q879
                            have p880 : 0 ≤ (x5_1 : Int) := of_decide_eq_true (by first | (with_reducible assumption) | assumption)
                            have q880 : x5_1 < (l0.length : Int) := of_decide_eq_true (by first | (with_reducible assumption) | assumption)
                            obtain ⟨ad880, e880, hx880_0, hx880_1, hx880_2, hx880_3, hx880_4, hx880_5, hx880_6, hx880_7, hx880_8⟩ := at_T71 HR0.out x5_1 p880 q880
                            obtain rfl : ad872 = ad880 := (by injection e880)
                            replace hx880_0 := (HB.out.cell (World.block_lt_of_cell? w _ hx880_0)).trans hx880_0
                            replace hx880_1 := (HB.out.cell (World.block_lt_of_cell? w _ hx880_1)).trans hx880_1
                            replace hx880_2 := (HB.out.cell (World.block_lt_of_cell? w _ hx880_2)).trans hx880_2
                            replace hx880_3 := (HB.out.cell (World.block_lt_of_cell? w _ hx880_3)).trans hx880_3
                            replace hx880_4 := (HB.out.cell (World.block_lt_of_cell? w _ hx880_4)).trans hx880_4
                            replace hx880_5 := (HB.out.cell (World.block_lt_of_cell? w _ hx880_5)).trans hx880_5
                            replace hx880_6 := (HB.out.cell (World.block_lt_of_cell? w _ hx880_6)).trans hx880_6
                            replace hx880_7 := (HB.out.cell (World.block_lt_of_cell? w _ hx880_7)).trans hx880_7
                            replace hx880_8 := (HB.out.cell (World.block_lt_of_cell? w _ hx880_8)).trans hx880_8
                            replace p880 := eq_true p880
                            replace q880 := eq_true q880
                            have p881 : 0 ≤ (x5_1 : Int) := of_decide_eq_true (by first | (with_reducible assumption) | assumption)
                            have q881 : x5_1 < (l0.length : Int) := of_decide_eq_true (by first | (with_reducible assumption) | assumption)
                            obtain ⟨ad881, e881, hx881_0, hx881_1, hx881_2, hx881_3, hx881_4, hx881_5, hx881_6, hx881_7, hx881_8⟩ := at_T71 HR0.out x5_1 p881 q881
                            obtain rfl : ad872 = ad881 := (by injection e881)
                            replace hx881_0 := (HB.out.cell (World.block_lt_of_cell? w _ hx881_0)).trans hx881_0
                            replace hx881_1 := (HB.out.cell (World.block_lt_of_cell? w _ hx881_1)).trans hx881_1
                            replace hx881_2 := (HB.out.cell (World.block_lt_of_cell? w _ hx881_2)).trans hx881_2
                            replace hx881_3 := (HB.out.cell (World.block_lt_of_cell? w _ hx881_3)).trans hx881_3
                            replace hx881_4 := (HB.out.cell (World.block_lt_of_cell? w _ hx881_4)).trans hx881_4
                            replace hx881_5 := (HB.out.cell (World.block_lt_of_cell? w _ hx881_5)).trans hx881_5
                            replace hx881_6 := (HB.out.cell (World.block_lt_of_cell? w _ hx881_6)).trans hx881_6
                            replace hx881_7 := (HB.out.cell (World.block_lt_of_cell? w _ hx881_7)).trans hx881_7
                            replace hx881_8 := (HB.out.cell (World.block_lt_of_cell? w _ hx881_8)).trans hx881_8
                            replace p881 := eq_true p881
                            replace q881 := eq_true q881
                            try go_wp2
                            go_roundg k1
                            case measure => have := HK1.out; omega
                            case rel => exact ⟨(wrap64 ((wrap64 ((wrap64 ((wrap64 ((wrap64 ((wrap64 ((wrap64 ((wrap64 ((wrap64 (x1_1 + 1)) + 1)) + 1)) + 1)) + 1)) + 1)) + 1)) + 1)) + 1)), (wrap64 (x5_1 + 1)), (by first | rfl | (simp; done) | (simp [*]; done) | (simp [ne_nil_b]; done) | (simp [ne_nil_b, *]; done)), (by first | rfl | (simp; done) | (simp [*]; done) | (simp [ne_nil_b]; done) | (simp [ne_nil_b, *]; done)), H', ⟨by have := HK1.out; omega⟩, ⟨by repeat (first | (with_reducible first | exact HB.out | apply below_alloc | apply pw_below_drewN | apply below_drew1) | exact HB.out)⟩⟩
                          · rw [if_neg c14] at H
                            have c14b0 : (((rd_T71 l0 x5_1).f8) == (wrap64 ((wrap64 ((wrap64 ((wrap64 ((wrap64 ((wrap64 ((wrap64 ((wrap64 (x1_1 + 1)) + 1)) + 1)) + 1)) + 1)) + 1)) + 1)) + 1))) = false := beq_eq_false_iff_ne.mpr c14
                            have c14b1 : (((rd_T71 l0 x5_1).f8) != (wrap64 ((wrap64 ((wrap64 ((wrap64 ((wrap64 ((wrap64 ((wrap64 ((wrap64 (x1_1 + 1)) + 1)) + 1)) + 1)) + 1)) + 1)) + 1)) + 1))) = true := bne_iff_ne.mpr c14
                            obtain rfl := Option.some.inj H
                            have p872 : 0 ≤ (x5_1 : Int) := of_decide_eq_true (by first | (with_reducible assumption) | assumption)
                            have q872 : x5_1 < (l0.length : Int) := of_decide_eq_true (by first | (with_reducible assumption) | assumption)
                            obtain ⟨ad872, e872, hx872_0, hx872_1, hx872_2, hx872_3, hx872_4, hx872_5, hx872_6, hx872_7, hx872_8⟩ := at_T71 HR0.out x5_1 p872 q872
                            cases e872
                            replace hx872_0 := (HB.out.cell (World.block_lt_of_cell? w _ hx872_0)).trans hx872_0
                            replace hx872_1 := (HB.out.cell (World.block_lt_of_cell? w _ hx872_1)).trans hx872_1
                            replace hx872_2 := (HB.out.cell (World.block_lt_of_cell? w _ hx872_2)).trans hx872_2
                            replace hx872_3 := (HB.out.cell (World.block_lt_of_cell? w _ hx872_3)).trans hx872_3
                            replace hx872_4 := (HB.out.cell (World.block_lt_of_cell? w _ hx872_4)).trans hx872_4
                            replace hx872_5 := (HB.out.cell (World.block_lt_of_cell? w _ hx872_5)).trans hx872_5
                            replace hx872_6 := (HB.out.cell (World.block_lt_of_cell? w _ hx872_6)).trans hx872_6
                            replace hx872_7 := (HB.out.cell (World.block_lt_of_cell? w _ hx872_7)).trans hx872_7
                            replace hx872_8 := (HB.out.cell (World.block_lt_of_cell? w _ hx872_8)).trans hx872_8
                            replace p872 := eq_true p872
                            replace q872 := eq_true q872
                            try go_wp2
                            have n0_ := Aside0.mk (below_drew1 HB.out)
                            clear HB
                            have HB := n0_
                            clear n0_
                            have p873 : 0 ≤ (x5_1 : Int) := of_decide_eq_true (by first | (with_reducible assumption) | assumption)
                            have q873 : x5_1 < (l0.length : Int) := of_decide_eq_true (by first | (with_reducible assumption) | assumption)
                            obtain ⟨ad873, e873, hx873_0, hx873_1, hx873_2, hx873_3, hx873_4, hx873_5, hx873_6, hx873_7, hx873_8⟩ := at_T71 HR0.out x5_1 p873 q873
                            have hw873_8 := hx873_8
                            have hw873_7 := hx873_7
                            have hw873_6 := hx873_6
                            have hw873_5 := hx873_5
                            have hw873_4 := hx873_4
                            have hw873_3 := hx873_3
                            have hw873_2 := hx873_2
                            have hw873_1 := hx873_1
                            have hw873_0 := hx873_0
                            obtain rfl : ad872 = ad873 := (by injection e873)
                            replace hx873_0 := (HB.out.cell (World.block_lt_of_cell? w _ hx873_0)).trans hx873_0
                            replace hx873_1 := (HB.out.cell (World.block_lt_of_cell? w _ hx873_1)).trans hx873_1
                            replace hx873_2 := (HB.out.cell (World.block_lt_of_cell? w _ hx873_2)).trans hx873_2
                            replace hx873_3 := (HB.out.cell (World.block_lt_of_cell? w _ hx873_3)).trans hx873_3
                            replace hx873_4 := (HB.out.cell (World.block_lt_of_cell? w _ hx873_4)).trans hx873_4
                            replace hx873_5 := (HB.out.cell (World.block_lt_of_cell? w _ hx873_5)).trans hx873_5
                            replace hx873_6 := (HB.out.cell (World.block_lt_of_cell? w _ hx873_6)).trans hx873_6
                            replace hx873_7 := (HB.out.cell (World.block_lt_of_cell? w _ hx873_7)).trans hx873_7
                            replace hx873_8 := (HB.out.cell (World.block_lt_of_cell? w _ hx873_8)).trans hx873_8
                            replace p873 := eq_true p873
                            replace q873 := eq_true q873
                            refine start_ (n := 8) (S := fun w' => w'.cell? (ad872.add ((x5_1).toNat * 9)) = some (.int .i64 ((rd_T71 l0 x5_1).f0)) ∧ w'.cell? ⟨(ad872.add ((x5_1).toNat * 9)).block, (ad872.add ((x5_1).toNat * 9)).off + 1, none⟩ = some (.string ((rd_T71 l0 x5_1).f1)) ∧ w'.cell? ⟨(ad872.add ((x5_1).toNat * 9)).block, (ad872.add ((x5_1).toNat * 9)).off + 2, none⟩ = some (.int .i64 ((rd_T71 l0 x5_1).f2)) ∧ w'.cell? ⟨(ad872.add ((x5_1).toNat * 9)).block, (ad872.add ((x5_1).toNat * 9)).off + 3, none⟩ = some (.int .i64 ((rd_T71 l0 x5_1).f3)) ∧ w'.cell? ⟨(ad872.add ((x5_1).toNat * 9)).block, (ad872.add ((x5_1).toNat * 9)).off + 4, none⟩ = some (.int .i64 ((rd_T71 l0 x5_1).f4)) ∧ w'.cell? ⟨(ad872.add ((x5_1).toNat * 9)).block, (ad872.add ((x5_1).toNat * 9)).off + 5, none⟩ = some (.int .i64 ((rd_T71 l0 x5_1).f5)) ∧ w'.cell? ⟨(ad872.add ((x5_1).toNat * 9)).block, (ad872.add ((x5_1).toNat * 9)).off + 6, none⟩ = some (.int .i64 ((rd_T71 l0 x5_1).f6)) ∧ w'.cell? ⟨(ad872.add ((x5_1).toNat * 9)).block, (ad872.add ((x5_1).toNat * 9)).off + 7, none⟩ = some (.int .i64 ((rd_T71 l0 x5_1).f7)) ∧ w'.cell? ⟨(ad872.add ((x5_1).toNat * 9)).block, (ad872.add ((x5_1).toNat * 9)).off + 8, none⟩ = some (.int .i64 ((rd_T71 l0 x5_1).f8))) (ds := []) #[false, false, false, false, false, false, false, false] (by kernel_rfl) rfl rfl ⟨((HB.out.cell (World.block_lt_of_cell? w _ hw873_0)).trans hw873_0), ((HB.out.cell (World.block_lt_of_cell? w _ hw873_1)).trans hw873_1), ((HB.out.cell (World.block_lt_of_cell? w _ hw873_2)).trans hw873_2), ((HB.out.cell (World.block_lt_of_cell? w _ hw873_3)).trans hw873_3), ((HB.out.cell (World.block_lt_of_cell? w _ hw873_4)).trans hw873_4), ((HB.out.cell (World.block_lt_of_cell? w _ hw873_5)).trans hw873_5), ((HB.out.cell (World.block_lt_of_cell? w _ hw873_6)).trans hw873_6), ((HB.out.cell (World.block_lt_of_cell? w _ hw873_7)).trans hw873_7), ((HB.out.cell (World.block_lt_of_cell? w _ hw873_8)).trans hw873_8)⟩ (fun hHeld => ?_); refine with_tabW laws_heldFlowS.tab7 laws_heldFlowS.bits7 (fun HT_ HW_ => ?_)
                            generalize wr.drew = w17 at HB hx873_0 hx873_1 hx873_2 hx873_3 hx873_4 hx873_5 hx873_6 hx873_7 hx873_8 hHeld ⊢
                            refine pure_ (i := 0) (N := some 21) (v := ?_) (a' := ?_) #[true, false, false, false, false, false, false, false] rfl rfl (any_of HT_.out (by kernel_rfl)) (fun _ _ _ h => h) (Or.inl ⟨by rfl, ?_⟩) ?_ ?_
                            rotate_left
                            · intro w'
                              go_simp
                              with_reducible rfl
                            rotate_left
                            · simp only [Act.put, List.setIfInBounds_toArray, List.set_cons_zero, List.set_cons_succ, i64_w, i32_w]
                              rfl
                            refine pure_ (i := 1) (N := some 22) (v := ?_) (a' := ?_) #[true, true, false, false, false, false, false, false] rfl rfl (any_of HT_.out (by kernel_rfl)) (fun _ _ _ h => h) (Or.inl ⟨by rfl, ?_⟩) ?_ ?_
                            rotate_left
                            · intro w'
                              go_simp
                              with_reducible rfl
                            rotate_left
                            · simp only [Act.put, List.setIfInBounds_toArray, List.set_cons_zero, List.set_cons_succ, i64_w, i32_w]
                              rfl
                            refine pure_ (i := 2) (N := some 23) (v := ?_) (a' := ?_) #[true, true, true, false, false, false, false, false] rfl rfl (any_of HT_.out (by kernel_rfl)) (fun _ _ _ h => h) (Or.inl ⟨by rfl, ?_⟩) ?_ ?_
                            rotate_left
                            · intro w'
                              go_simp
                              with_reducible rfl
                            rotate_left
                            · simp only [Act.put, List.setIfInBounds_toArray, List.set_cons_zero, List.set_cons_succ, i64_w, i32_w]
                              rfl
                            refine pure_ (i := 3) (N := some 24) (v := ?_) (a' := ?_) #[true, true, true, true, false, false, false, false] rfl rfl (any_of HT_.out (by kernel_rfl)) (fun _ _ _ h => h) (Or.inl ⟨by rfl, ?_⟩) ?_ ?_
                            rotate_left
                            · intro w'
                              go_simp
                              with_reducible rfl
                            rotate_left
                            · simp only [Act.put, List.setIfInBounds_toArray, List.set_cons_zero, List.set_cons_succ, i64_w, i32_w]
                              rfl
                            refine pure_ (i := 5) (N := some 26) (v := ?_) (a' := ?_) #[true, true, true, true, false, true, false, false] rfl rfl (any_of HT_.out (by kernel_rfl)) (fun _ _ _ h => h) (Or.inl ⟨by rfl, ?_⟩) ?_ ?_
                            rotate_left
                            · intro w'
                              go_simp
                              with_reducible rfl
                            rotate_left
                            · simp only [Act.put, List.setIfInBounds_toArray, List.set_cons_zero, List.set_cons_succ, i64_w, i32_w]
                              rfl
                            refine take_ (i := 4) (N := some 25) (v := ?_) (a' := ?_) #[true, true, true, true, true, true, false, false] rfl rfl (take_ofW HT_.out HW_.out (by kernel_rfl)) (fun _ _ _ h => h) (Or.inl ⟨by rfl, ?_⟩) hHeld ?_ ?_
                            rotate_left
                            · rintro w' ⟨s0, s1, s2, s3, s4, s5, s6, s7, s8⟩
                              go_simp
                              with_reducible rfl
                            rotate_left
                            · simp only [Act.put, List.setIfInBounds_toArray, List.set_cons_zero, List.set_cons_succ, i64_w, i32_w]
                              rfl
                            refine one_ (i := 6) (N := some 27) #[true, true, true, true, true, true, true, false] rfl rfl (one_of HT_.out (by kernel_rfl)) (by decide) (fun K hK => ?_)
                            refine goes_ Try.func89 (by kernel_rfl) rfl #[.int .i64 (wrap64 (x1_1 + 1))] (by rfl) rfl rfl (by (try simp only [List.map_toArray, List.map_cons, List.map_nil]); first | done | rfl | (simp only [List.length_drop, List.length_take]; rfl)) ?_
                            with_reducible refine (laws_markText.calls k1 (wrap64 (x1_1 + 1)) t874 _ A6.out).mono ?_
                            rintro e w18 ⟨rfl, hb⟩
                            refine ⟨_, rfl, ?_⟩
                            have n0_ := Aside0.mk (below_step (by repeat (first | (with_reducible first | exact HB.out | apply below_alloc | apply pw_below_drewN | apply below_drew1) | exact HB.out)) hb)
                            clear HB
                            have HB := n0_
                            clear n0_
                            (try clear hb)
                            (try clear hb2)
                            (try clear hk)
                            (try clear hi)
                            refine hK.out _ _ ⟨((HB.out.cell (World.block_lt_of_cell? w _ hw873_0)).trans hw873_0), ((HB.out.cell (World.block_lt_of_cell? w _ hw873_1)).trans hw873_1), ((HB.out.cell (World.block_lt_of_cell? w _ hw873_2)).trans hw873_2), ((HB.out.cell (World.block_lt_of_cell? w _ hw873_3)).trans hw873_3), ((HB.out.cell (World.block_lt_of_cell? w _ hw873_4)).trans hw873_4), ((HB.out.cell (World.block_lt_of_cell? w _ hw873_5)).trans hw873_5), ((HB.out.cell (World.block_lt_of_cell? w _ hw873_6)).trans hw873_6), ((HB.out.cell (World.block_lt_of_cell? w _ hw873_7)).trans hw873_7), ((HB.out.cell (World.block_lt_of_cell? w _ hw873_8)).trans hw873_8)⟩ (fun hHeld => ?_)
                            clear hK K
                            refine norm_ (a' := ?_) ?_ ?_
                            rotate_left
                            · show Act.put _ (some 27) _ = _
                              simp only [Act.put, List.setIfInBounds_toArray, List.set_cons_zero, List.set_cons_succ, i64_w, i32_w]
                              rfl
                            refine pure_ (i := 7) (N := some 28) (v := ?_) (a' := ?_) #[true, true, true, true, true, true, true, true] rfl rfl (any_of HT_.out (by kernel_rfl)) (fun _ _ _ h => h) (Or.inl ⟨by rfl, ?_⟩) ?_ ?_
                            rotate_left
                            · intro w'
                              go_simp
                              with_reducible rfl
                            rotate_left
                            · simp only [Act.put, List.setIfInBounds_toArray, List.set_cons_zero, List.set_cons_succ, i64_w, i32_w]
                              rfl
                            refine done_ (done_of HT_.out (by kernel_rfl)) ?_
                            have p875 : 0 ≤ (x5_1 : Int) := of_decide_eq_true (by first | (with_reducible assumption) | assumption)
                            have q875 : x5_1 < (l0.length : Int) := of_decide_eq_true (by first | (with_reducible assumption) | assumption)
                            obtain ⟨ad875, e875, hx875_0, hx875_1, hx875_2, hx875_3, hx875_4, hx875_5, hx875_6, hx875_7, hx875_8⟩ := at_T71 HR0.out x5_1 p875 q875
                            obtain rfl : ad872 = ad875 := (by injection e875)
                            replace hx875_0 := (HB.out.cell (World.block_lt_of_cell? w _ hx875_0)).trans hx875_0
                            replace hx875_1 := (HB.out.cell (World.block_lt_of_cell? w _ hx875_1)).trans hx875_1
                            replace hx875_2 := (HB.out.cell (World.block_lt_of_cell? w _ hx875_2)).trans hx875_2
                            replace hx875_3 := (HB.out.cell (World.block_lt_of_cell? w _ hx875_3)).trans hx875_3
                            replace hx875_4 := (HB.out.cell (World.block_lt_of_cell? w _ hx875_4)).trans hx875_4
                            replace hx875_5 := (HB.out.cell (World.block_lt_of_cell? w _ hx875_5)).trans hx875_5
                            replace hx875_6 := (HB.out.cell (World.block_lt_of_cell? w _ hx875_6)).trans hx875_6
                            replace hx875_7 := (HB.out.cell (World.block_lt_of_cell? w _ hx875_7)).trans hx875_7
                            replace hx875_8 := (HB.out.cell (World.block_lt_of_cell? w _ hx875_8)).trans hx875_8
                            replace p875 := eq_true p875
                            replace q875 := eq_true q875
                            have p876 : 0 ≤ (x5_1 : Int) := of_decide_eq_true (by first | (with_reducible assumption) | assumption)
                            have q876 : x5_1 < (l0.length : Int) := of_decide_eq_true (by first | (with_reducible assumption) | assumption)
                            obtain ⟨ad876, e876, hx876_0, hx876_1, hx876_2, hx876_3, hx876_4, hx876_5, hx876_6, hx876_7, hx876_8⟩ := at_T71 HR0.out x5_1 p876 q876
                            obtain rfl : ad872 = ad876 := (by injection e876)
                            replace hx876_0 := (HB.out.cell (World.block_lt_of_cell? w _ hx876_0)).trans hx876_0
                            replace hx876_1 := (HB.out.cell (World.block_lt_of_cell? w _ hx876_1)).trans hx876_1
                            replace hx876_2 := (HB.out.cell (World.block_lt_of_cell? w _ hx876_2)).trans hx876_2
                            replace hx876_3 := (HB.out.cell (World.block_lt_of_cell? w _ hx876_3)).trans hx876_3
                            replace hx876_4 := (HB.out.cell (World.block_lt_of_cell? w _ hx876_4)).trans hx876_4
                            replace hx876_5 := (HB.out.cell (World.block_lt_of_cell? w _ hx876_5)).trans hx876_5
                            replace hx876_6 := (HB.out.cell (World.block_lt_of_cell? w _ hx876_6)).trans hx876_6
                            replace hx876_7 := (HB.out.cell (World.block_lt_of_cell? w _ hx876_7)).trans hx876_7
                            replace hx876_8 := (HB.out.cell (World.block_lt_of_cell? w _ hx876_8)).trans hx876_8
                            replace p876 := eq_true p876
                            replace q876 := eq_true q876
                            have p877 : 0 ≤ (x5_1 : Int) := of_decide_eq_true (by first | (with_reducible assumption) | assumption)
                            have q877 : x5_1 < (l0.length : Int) := of_decide_eq_true (by first | (with_reducible assumption) | assumption)
                            obtain ⟨ad877, e877, hx877_0, hx877_1, hx877_2, hx877_3, hx877_4, hx877_5, hx877_6, hx877_7, hx877_8⟩ := at_T71 HR0.out x5_1 p877 q877
                            obtain rfl : ad872 = ad877 := (by injection e877)
                            replace hx877_0 := (HB.out.cell (World.block_lt_of_cell? w _ hx877_0)).trans hx877_0
                            replace hx877_1 := (HB.out.cell (World.block_lt_of_cell? w _ hx877_1)).trans hx877_1
                            replace hx877_2 := (HB.out.cell (World.block_lt_of_cell? w _ hx877_2)).trans hx877_2
                            replace hx877_3 := (HB.out.cell (World.block_lt_of_cell? w _ hx877_3)).trans hx877_3
                            replace hx877_4 := (HB.out.cell (World.block_lt_of_cell? w _ hx877_4)).trans hx877_4
                            replace hx877_5 := (HB.out.cell (World.block_lt_of_cell? w _ hx877_5)).trans hx877_5
                            replace hx877_6 := (HB.out.cell (World.block_lt_of_cell? w _ hx877_6)).trans hx877_6
                            replace hx877_7 := (HB.out.cell (World.block_lt_of_cell? w _ hx877_7)).trans hx877_7
                            replace hx877_8 := (HB.out.cell (World.block_lt_of_cell? w _ hx877_8)).trans hx877_8
                            replace p877 := eq_true p877
                            replace q877 := eq_true q877
                            have p878 : 0 ≤ (x5_1 : Int) := of_decide_eq_true (by first | (with_reducible assumption) | assumption)
                            have q878 : x5_1 < (l0.length : Int) := of_decide_eq_true (by first | (with_reducible assumption) | assumption)
                            obtain ⟨ad878, e878, hx878_0, hx878_1, hx878_2, hx878_3, hx878_4, hx878_5, hx878_6, hx878_7, hx878_8⟩ := at_T71 HR0.out x5_1 p878 q878
                            obtain rfl : ad872 = ad878 := (by injection e878)
                            replace hx878_0 := (HB.out.cell (World.block_lt_of_cell? w _ hx878_0)).trans hx878_0
                            replace hx878_1 := (HB.out.cell (World.block_lt_of_cell? w _ hx878_1)).trans hx878_1
                            replace hx878_2 := (HB.out.cell (World.block_lt_of_cell? w _ hx878_2)).trans hx878_2
                            replace hx878_3 := (HB.out.cell (World.block_lt_of_cell? w _ hx878_3)).trans hx878_3
                            replace hx878_4 := (HB.out.cell (World.block_lt_of_cell? w _ hx878_4)).trans hx878_4
                            replace hx878_5 := (HB.out.cell (World.block_lt_of_cell? w _ hx878_5)).trans hx878_5
                            replace hx878_6 := (HB.out.cell (World.block_lt_of_cell? w _ hx878_6)).trans hx878_6
                            replace hx878_7 := (HB.out.cell (World.block_lt_of_cell? w _ hx878_7)).trans hx878_7
                            replace hx878_8 := (HB.out.cell (World.block_lt_of_cell? w _ hx878_8)).trans hx878_8
                            replace p878 := eq_true p878
                            replace q878 := eq_true q878
                            have p879 : 0 ≤ (x5_1 : Int) := of_decide_eq_true (by first | (with_reducible assumption) | assumption)
                            have q879 : x5_1 < (l0.length : Int) := of_decide_eq_true (by first | (with_reducible assumption) | assumption)
                            obtain ⟨ad879, e879, hx879_0, hx879_1, hx879_2, hx879_3, hx879_4, hx879_5, hx879_6, hx879_7, hx879_8⟩ := at_T71 HR0.out x5_1 p879 q879
                            obtain rfl : ad872 = ad879 := (by injection e879)
                            replace hx879_0 := (HB.out.cell (World.block_lt_of_cell? w _ hx879_0)).trans hx879_0
                            replace hx879_1 := (HB.out.cell (World.block_lt_of_cell? w _ hx879_1)).trans hx879_1
                            replace hx879_2 := (HB.out.cell (World.block_lt_of_cell? w _ hx879_2)).trans hx879_2
                            replace hx879_3 := (HB.out.cell (World.block_lt_of_cell? w _ hx879_3)).trans hx879_3
                            replace hx879_4 := (HB.out.cell (World.block_lt_of_cell? w _ hx879_4)).trans hx879_4
                            replace hx879_5 := (HB.out.cell (World.block_lt_of_cell? w _ hx879_5)).trans hx879_5
                            replace hx879_6 := (HB.out.cell (World.block_lt_of_cell? w _ hx879_6)).trans hx879_6
                            replace hx879_7 := (HB.out.cell (World.block_lt_of_cell? w _ hx879_7)).trans hx879_7
                            replace hx879_8 := (HB.out.cell (World.block_lt_of_cell? w _ hx879_8)).trans hx879_8
                            replace p879 := eq_true p879
                            replace q879 := eq_true q879
                            have p880 : 0 ≤ (x5_1 : Int) := of_decide_eq_true (by first | (with_reducible assumption) | assumption)
                            have q880 : x5_1 < (l0.length : Int) := of_decide_eq_true (by first | (with_reducible assumption) | assumption)
                            obtain ⟨ad880, e880, hx880_0, hx880_1, hx880_2, hx880_3, hx880_4, hx880_5, hx880_6, hx880_7, hx880_8⟩ := at_T71 HR0.out x5_1 p880 q880
                            obtain rfl : ad872 = ad880 := (by injection e880)
                            replace hx880_0 := (HB.out.cell (World.block_lt_of_cell? w _ hx880_0)).trans hx880_0
                            replace hx880_1 := (HB.out.cell (World.block_lt_of_cell? w _ hx880_1)).trans hx880_1
                            replace hx880_2 := (HB.out.cell (World.block_lt_of_cell? w _ hx880_2)).trans hx880_2
                            replace hx880_3 := (HB.out.cell (World.block_lt_of_cell? w _ hx880_3)).trans hx880_3
                            replace hx880_4 := (HB.out.cell (World.block_lt_of_cell? w _ hx880_4)).trans hx880_4
                            replace hx880_5 := (HB.out.cell (World.block_lt_of_cell? w _ hx880_5)).trans hx880_5
                            replace hx880_6 := (HB.out.cell (World.block_lt_of_cell? w _ hx880_6)).trans hx880_6
                            replace hx880_7 := (HB.out.cell (World.block_lt_of_cell? w _ hx880_7)).trans hx880_7
                            replace hx880_8 := (HB.out.cell (World.block_lt_of_cell? w _ hx880_8)).trans hx880_8
                            replace p880 := eq_true p880
                            replace q880 := eq_true q880
                            have p881 : 0 ≤ (x5_1 : Int) := of_decide_eq_true (by first | (with_reducible assumption) | assumption)
                            have q881 : x5_1 < (l0.length : Int) := of_decide_eq_true (by first | (with_reducible assumption) | assumption)
                            obtain ⟨ad881, e881, hx881_0, hx881_1, hx881_2, hx881_3, hx881_4, hx881_5, hx881_6, hx881_7, hx881_8⟩ := at_T71 HR0.out x5_1 p881 q881
                            obtain rfl : ad872 = ad881 := (by injection e881)
                            replace hx881_0 := (HB.out.cell (World.block_lt_of_cell? w _ hx881_0)).trans hx881_0
                            replace hx881_1 := (HB.out.cell (World.block_lt_of_cell? w _ hx881_1)).trans hx881_1
                            replace hx881_2 := (HB.out.cell (World.block_lt_of_cell? w _ hx881_2)).trans hx881_2
                            replace hx881_3 := (HB.out.cell (World.block_lt_of_cell? w _ hx881_3)).trans hx881_3
                            replace hx881_4 := (HB.out.cell (World.block_lt_of_cell? w _ hx881_4)).trans hx881_4
                            replace hx881_5 := (HB.out.cell (World.block_lt_of_cell? w _ hx881_5)).trans hx881_5
                            replace hx881_6 := (HB.out.cell (World.block_lt_of_cell? w _ hx881_6)).trans hx881_6
                            replace hx881_7 := (HB.out.cell (World.block_lt_of_cell? w _ hx881_7)).trans hx881_7
                            replace hx881_8 := (HB.out.cell (World.block_lt_of_cell? w _ hx881_8)).trans hx881_8
                            replace p881 := eq_true p881
                            replace q881 := eq_true q881
                            try go_wp2
                            go_ret
                            exact ⟨by first | rfl | (simp [errW_none, errW_some] <;> rfl) | (simp [*, errW_none, errW_some] <;> rfl), by repeat (first | (with_reducible first | exact HB.out | apply below_alloc | apply pw_below_drewN | apply below_drew1) | exact HB.out)⟩
                        · rw [if_neg c13] at H
                          have c13b0 : (((rd_T71 l0 x5_1).f7) == (wrap64 ((wrap64 ((wrap64 ((wrap64 ((wrap64 ((wrap64 ((wrap64 (x1_1 + 1)) + 1)) + 1)) + 1)) + 1)) + 1)) + 1))) = false := beq_eq_false_iff_ne.mpr c13
                          have c13b1 : (((rd_T71 l0 x5_1).f7) != (wrap64 ((wrap64 ((wrap64 ((wrap64 ((wrap64 ((wrap64 ((wrap64 (x1_1 + 1)) + 1)) + 1)) + 1)) + 1)) + 1)) + 1))) = true := bne_iff_ne.mpr c13
                          obtain rfl := Option.some.inj H
                          have p872 : 0 ≤ (x5_1 : Int) := of_decide_eq_true (by first | (with_reducible assumption) | assumption)
                          have q872 : x5_1 < (l0.length : Int) := of_decide_eq_true (by first | (with_reducible assumption) | assumption)
                          obtain ⟨ad872, e872, hx872_0, hx872_1, hx872_2, hx872_3, hx872_4, hx872_5, hx872_6, hx872_7, hx872_8⟩ := at_T71 HR0.out x5_1 p872 q872
                          cases e872
                          replace hx872_0 := (HB.out.cell (World.block_lt_of_cell? w _ hx872_0)).trans hx872_0
                          replace hx872_1 := (HB.out.cell (World.block_lt_of_cell? w _ hx872_1)).trans hx872_1
                          replace hx872_2 := (HB.out.cell (World.block_lt_of_cell? w _ hx872_2)).trans hx872_2
                          replace hx872_3 := (HB.out.cell (World.block_lt_of_cell? w _ hx872_3)).trans hx872_3
                          replace hx872_4 := (HB.out.cell (World.block_lt_of_cell? w _ hx872_4)).trans hx872_4
                          replace hx872_5 := (HB.out.cell (World.block_lt_of_cell? w _ hx872_5)).trans hx872_5
                          replace hx872_6 := (HB.out.cell (World.block_lt_of_cell? w _ hx872_6)).trans hx872_6
                          replace hx872_7 := (HB.out.cell (World.block_lt_of_cell? w _ hx872_7)).trans hx872_7
                          replace hx872_8 := (HB.out.cell (World.block_lt_of_cell? w _ hx872_8)).trans hx872_8
                          replace p872 := eq_true p872
                          replace q872 := eq_true q872
                          try go_wp2
                          have n0_ := Aside0.mk (below_drew1 HB.out)
                          clear HB
                          have HB := n0_
                          clear n0_
                          have p873 : 0 ≤ (x5_1 : Int) := of_decide_eq_true (by first | (with_reducible assumption) | assumption)
                          have q873 : x5_1 < (l0.length : Int) := of_decide_eq_true (by first | (with_reducible assumption) | assumption)
                          obtain ⟨ad873, e873, hx873_0, hx873_1, hx873_2, hx873_3, hx873_4, hx873_5, hx873_6, hx873_7, hx873_8⟩ := at_T71 HR0.out x5_1 p873 q873
                          have hw873_8 := hx873_8
                          have hw873_7 := hx873_7
                          have hw873_6 := hx873_6
                          have hw873_5 := hx873_5
                          have hw873_4 := hx873_4
                          have hw873_3 := hx873_3
                          have hw873_2 := hx873_2
                          have hw873_1 := hx873_1
                          have hw873_0 := hx873_0
                          obtain rfl : ad872 = ad873 := (by injection e873)
                          replace hx873_0 := (HB.out.cell (World.block_lt_of_cell? w _ hx873_0)).trans hx873_0
                          replace hx873_1 := (HB.out.cell (World.block_lt_of_cell? w _ hx873_1)).trans hx873_1
                          replace hx873_2 := (HB.out.cell (World.block_lt_of_cell? w _ hx873_2)).trans hx873_2
                          replace hx873_3 := (HB.out.cell (World.block_lt_of_cell? w _ hx873_3)).trans hx873_3
                          replace hx873_4 := (HB.out.cell (World.block_lt_of_cell? w _ hx873_4)).trans hx873_4
                          replace hx873_5 := (HB.out.cell (World.block_lt_of_cell? w _ hx873_5)).trans hx873_5
                          replace hx873_6 := (HB.out.cell (World.block_lt_of_cell? w _ hx873_6)).trans hx873_6
                          replace hx873_7 := (HB.out.cell (World.block_lt_of_cell? w _ hx873_7)).trans hx873_7
                          replace hx873_8 := (HB.out.cell (World.block_lt_of_cell? w _ hx873_8)).trans hx873_8
                          replace p873 := eq_true p873
                          replace q873 := eq_true q873
                          refine start_ (n := 8) (S := fun w' => w'.cell? (ad872.add ((x5_1).toNat * 9)) = some (.int .i64 ((rd_T71 l0 x5_1).f0)) ∧ w'.cell? ⟨(ad872.add ((x5_1).toNat * 9)).block, (ad872.add ((x5_1).toNat * 9)).off + 1, none⟩ = some (.string ((rd_T71 l0 x5_1).f1)) ∧ w'.cell? ⟨(ad872.add ((x5_1).toNat * 9)).block, (ad872.add ((x5_1).toNat * 9)).off + 2, none⟩ = some (.int .i64 ((rd_T71 l0 x5_1).f2)) ∧ w'.cell? ⟨(ad872.add ((x5_1).toNat * 9)).block, (ad872.add ((x5_1).toNat * 9)).off + 3, none⟩ = some (.int .i64 ((rd_T71 l0 x5_1).f3)) ∧ w'.cell? ⟨(ad872.add ((x5_1).toNat * 9)).block, (ad872.add ((x5_1).toNat * 9)).off + 4, none⟩ = some (.int .i64 ((rd_T71 l0 x5_1).f4)) ∧ w'.cell? ⟨(ad872.add ((x5_1).toNat * 9)).block, (ad872.add ((x5_1).toNat * 9)).off + 5, none⟩ = some (.int .i64 ((rd_T71 l0 x5_1).f5)) ∧ w'.cell? ⟨(ad872.add ((x5_1).toNat * 9)).block, (ad872.add ((x5_1).toNat * 9)).off + 6, none⟩ = some (.int .i64 ((rd_T71 l0 x5_1).f6)) ∧ w'.cell? ⟨(ad872.add ((x5_1).toNat * 9)).block, (ad872.add ((x5_1).toNat * 9)).off + 7, none⟩ = some (.int .i64 ((rd_T71 l0 x5_1).f7)) ∧ w'.cell? ⟨(ad872.add ((x5_1).toNat * 9)).block, (ad872.add ((x5_1).toNat * 9)).off + 8, none⟩ = some (.int .i64 ((rd_T71 l0 x5_1).f8))) (ds := []) #[false, false, false, false, false, false, false, false] (by kernel_rfl) rfl rfl ⟨((HB.out.cell (World.block_lt_of_cell? w _ hw873_0)).trans hw873_0), ((HB.out.cell (World.block_lt_of_cell? w _ hw873_1)).trans hw873_1), ((HB.out.cell (World.block_lt_of_cell? w _ hw873_2)).trans hw873_2), ((HB.out.cell (World.block_lt_of_cell? w _ hw873_3)).trans hw873_3), ((HB.out.cell (World.block_lt_of_cell? w _ hw873_4)).trans hw873_4), ((HB.out.cell (World.block_lt_of_cell? w _ hw873_5)).trans hw873_5), ((HB.out.cell (World.block_lt_of_cell? w _ hw873_6)).trans hw873_6), ((HB.out.cell (World.block_lt_of_cell? w _ hw873_7)).trans hw873_7), ((HB.out.cell (World.block_lt_of_cell? w _ hw873_8)).trans hw873_8)⟩ (fun hHeld => ?_); refine with_tabW laws_heldFlowS.tab7 laws_heldFlowS.bits7 (fun HT_ HW_ => ?_)
                          generalize wr.drew = w19 at HB hx873_0 hx873_1 hx873_2 hx873_3 hx873_4 hx873_5 hx873_6 hx873_7 hx873_8 hHeld ⊢
                          refine pure_ (i := 0) (N := some 21) (v := ?_) (a' := ?_) #[true, false, false, false, false, false, false, false] rfl rfl (any_of HT_.out (by kernel_rfl)) (fun _ _ _ h => h) (Or.inl ⟨by rfl, ?_⟩) ?_ ?_
                          rotate_left
                          · intro w'
                            go_simp
                            with_reducible rfl
                          rotate_left
                          · simp only [Act.put, List.setIfInBounds_toArray, List.set_cons_zero, List.set_cons_succ, i64_w, i32_w]
                            rfl
                          refine pure_ (i := 1) (N := some 22) (v := ?_) (a' := ?_) #[true, true, false, false, false, false, false, false] rfl rfl (any_of HT_.out (by kernel_rfl)) (fun _ _ _ h => h) (Or.inl ⟨by rfl, ?_⟩) ?_ ?_
                          rotate_left
                          · intro w'
                            go_simp
                            with_reducible rfl
                          rotate_left
                          · simp only [Act.put, List.setIfInBounds_toArray, List.set_cons_zero, List.set_cons_succ, i64_w, i32_w]
                            rfl
                          refine pure_ (i := 2) (N := some 23) (v := ?_) (a' := ?_) #[true, true, true, false, false, false, false, false] rfl rfl (any_of HT_.out (by kernel_rfl)) (fun _ _ _ h => h) (Or.inl ⟨by rfl, ?_⟩) ?_ ?_
                          rotate_left
                          · intro w'
                            go_simp
                            with_reducible rfl
                          rotate_left
                          · simp only [Act.put, List.setIfInBounds_toArray, List.set_cons_zero, List.set_cons_succ, i64_w, i32_w]
                            rfl
                          refine pure_ (i := 3) (N := some 24) (v := ?_) (a' := ?_) #[true, true, true, true, false, false, false, false] rfl rfl (any_of HT_.out (by kernel_rfl)) (fun _ _ _ h => h) (Or.inl ⟨by rfl, ?_⟩) ?_ ?_
                          rotate_left
                          · intro w'
                            go_simp
                            with_reducible rfl
                          rotate_left
                          · simp only [Act.put, List.setIfInBounds_toArray, List.set_cons_zero, List.set_cons_succ, i64_w, i32_w]
                            rfl
                          refine pure_ (i := 5) (N := some 26) (v := ?_) (a' := ?_) #[true, true, true, true, false, true, false, false] rfl rfl (any_of HT_.out (by kernel_rfl)) (fun _ _ _ h => h) (Or.inl ⟨by rfl, ?_⟩) ?_ ?_
                          rotate_left
                          · intro w'
                            go_simp
                            with_reducible rfl
                          rotate_left
                          · simp only [Act.put, List.setIfInBounds_toArray, List.set_cons_zero, List.set_cons_succ, i64_w, i32_w]
                            rfl
                          refine take_ (i := 4) (N := some 25) (v := ?_) (a' := ?_) #[true, true, true, true, true, true, false, false] rfl rfl (take_ofW HT_.out HW_.out (by kernel_rfl)) (fun _ _ _ h => h) (Or.inl ⟨by rfl, ?_⟩) hHeld ?_ ?_
                          rotate_left
                          · rintro w' ⟨s0, s1, s2, s3, s4, s5, s6, s7, s8⟩
                            go_simp
                            with_reducible rfl
                          rotate_left
                          · simp only [Act.put, List.setIfInBounds_toArray, List.set_cons_zero, List.set_cons_succ, i64_w, i32_w]
                            rfl
                          refine one_ (i := 6) (N := some 27) #[true, true, true, true, true, true, true, false] rfl rfl (one_of HT_.out (by kernel_rfl)) (by decide) (fun K hK => ?_)
                          refine goes_ Try.func89 (by kernel_rfl) rfl #[.int .i64 (wrap64 (x1_1 + 1))] (by rfl) rfl rfl (by (try simp only [List.map_toArray, List.map_cons, List.map_nil]); first | done | rfl | (simp only [List.length_drop, List.length_take]; rfl)) ?_
                          with_reducible refine (laws_markText.calls k1 (wrap64 (x1_1 + 1)) t874 _ A6.out).mono ?_
                          rintro e w20 ⟨rfl, hb⟩
                          refine ⟨_, rfl, ?_⟩
                          have n0_ := Aside0.mk (below_step (by repeat (first | (with_reducible first | exact HB.out | apply below_alloc | apply pw_below_drewN | apply below_drew1) | exact HB.out)) hb)
                          clear HB
                          have HB := n0_
                          clear n0_
                          (try clear hb)
                          (try clear hb2)
                          (try clear hk)
                          (try clear hi)
                          refine hK.out _ _ ⟨((HB.out.cell (World.block_lt_of_cell? w _ hw873_0)).trans hw873_0), ((HB.out.cell (World.block_lt_of_cell? w _ hw873_1)).trans hw873_1), ((HB.out.cell (World.block_lt_of_cell? w _ hw873_2)).trans hw873_2), ((HB.out.cell (World.block_lt_of_cell? w _ hw873_3)).trans hw873_3), ((HB.out.cell (World.block_lt_of_cell? w _ hw873_4)).trans hw873_4), ((HB.out.cell (World.block_lt_of_cell? w _ hw873_5)).trans hw873_5), ((HB.out.cell (World.block_lt_of_cell? w _ hw873_6)).trans hw873_6), ((HB.out.cell (World.block_lt_of_cell? w _ hw873_7)).trans hw873_7), ((HB.out.cell (World.block_lt_of_cell? w _ hw873_8)).trans hw873_8)⟩ (fun hHeld => ?_)
                          clear hK K
                          refine norm_ (a' := ?_) ?_ ?_
                          rotate_left
                          · show Act.put _ (some 27) _ = _
                            simp only [Act.put, List.setIfInBounds_toArray, List.set_cons_zero, List.set_cons_succ, i64_w, i32_w]
                            rfl
                          refine pure_ (i := 7) (N := some 28) (v := ?_) (a' := ?_) #[true, true, true, true, true, true, true, true] rfl rfl (any_of HT_.out (by kernel_rfl)) (fun _ _ _ h => h) (Or.inl ⟨by rfl, ?_⟩) ?_ ?_
                          rotate_left
                          · intro w'
                            go_simp
                            with_reducible rfl
                          rotate_left
                          · simp only [Act.put, List.setIfInBounds_toArray, List.set_cons_zero, List.set_cons_succ, i64_w, i32_w]
                            rfl
                          refine done_ (done_of HT_.out (by kernel_rfl)) ?_
                          have p875 : 0 ≤ (x5_1 : Int) := of_decide_eq_true (by first | (with_reducible assumption) | assumption)
                          have q875 : x5_1 < (l0.length : Int) := of_decide_eq_true (by first | (with_reducible assumption) | assumption)
                          obtain ⟨ad875, e875, hx875_0, hx875_1, hx875_2, hx875_3, hx875_4, hx875_5, hx875_6, hx875_7, hx875_8⟩ := at_T71 HR0.out x5_1 p875 q875
                          obtain rfl : ad872 = ad875 := (by injection e875)
                          replace hx875_0 := (HB.out.cell (World.block_lt_of_cell? w _ hx875_0)).trans hx875_0
                          replace hx875_1 := (HB.out.cell (World.block_lt_of_cell? w _ hx875_1)).trans hx875_1
                          replace hx875_2 := (HB.out.cell (World.block_lt_of_cell? w _ hx875_2)).trans hx875_2
                          replace hx875_3 := (HB.out.cell (World.block_lt_of_cell? w _ hx875_3)).trans hx875_3
                          replace hx875_4 := (HB.out.cell (World.block_lt_of_cell? w _ hx875_4)).trans hx875_4
                          replace hx875_5 := (HB.out.cell (World.block_lt_of_cell? w _ hx875_5)).trans hx875_5
                          replace hx875_6 := (HB.out.cell (World.block_lt_of_cell? w _ hx875_6)).trans hx875_6
                          replace hx875_7 := (HB.out.cell (World.block_lt_of_cell? w _ hx875_7)).trans hx875_7
                          replace hx875_8 := (HB.out.cell (World.block_lt_of_cell? w _ hx875_8)).trans hx875_8
                          replace p875 := eq_true p875
                          replace q875 := eq_true q875
                          have p876 : 0 ≤ (x5_1 : Int) := of_decide_eq_true (by first | (with_reducible assumption) | assumption)
                          have q876 : x5_1 < (l0.length : Int) := of_decide_eq_true (by first | (with_reducible assumption) | assumption)
                          obtain ⟨ad876, e876, hx876_0, hx876_1, hx876_2, hx876_3, hx876_4, hx876_5, hx876_6, hx876_7, hx876_8⟩ := at_T71 HR0.out x5_1 p876 q876
                          obtain rfl : ad872 = ad876 := (by injection e876)
                          replace hx876_0 := (HB.out.cell (World.block_lt_of_cell? w _ hx876_0)).trans hx876_0
                          replace hx876_1 := (HB.out.cell (World.block_lt_of_cell? w _ hx876_1)).trans hx876_1
                          replace hx876_2 := (HB.out.cell (World.block_lt_of_cell? w _ hx876_2)).trans hx876_2
                          replace hx876_3 := (HB.out.cell (World.block_lt_of_cell? w _ hx876_3)).trans hx876_3
                          replace hx876_4 := (HB.out.cell (World.block_lt_of_cell? w _ hx876_4)).trans hx876_4
                          replace hx876_5 := (HB.out.cell (World.block_lt_of_cell? w _ hx876_5)).trans hx876_5
                          replace hx876_6 := (HB.out.cell (World.block_lt_of_cell? w _ hx876_6)).trans hx876_6
                          replace hx876_7 := (HB.out.cell (World.block_lt_of_cell? w _ hx876_7)).trans hx876_7
                          replace hx876_8 := (HB.out.cell (World.block_lt_of_cell? w _ hx876_8)).trans hx876_8
                          replace p876 := eq_true p876
                          replace q876 := eq_true q876
                          have p877 : 0 ≤ (x5_1 : Int) := of_decide_eq_true (by first | (with_reducible assumption) | assumption)
                          have q877 : x5_1 < (l0.length : Int) := of_decide_eq_true (by first | (with_reducible assumption) | assumption)
                          obtain ⟨ad877, e877, hx877_0, hx877_1, hx877_2, hx877_3, hx877_4, hx877_5, hx877_6, hx877_7, hx877_8⟩ := at_T71 HR0.out x5_1 p877 q877
                          obtain rfl : ad872 = ad877 := (by injection e877)
                          replace hx877_0 := (HB.out.cell (World.block_lt_of_cell? w _ hx877_0)).trans hx877_0
                          replace hx877_1 := (HB.out.cell (World.block_lt_of_cell? w _ hx877_1)).trans hx877_1
                          replace hx877_2 := (HB.out.cell (World.block_lt_of_cell? w _ hx877_2)).trans hx877_2
                          replace hx877_3 := (HB.out.cell (World.block_lt_of_cell? w _ hx877_3)).trans hx877_3
                          replace hx877_4 := (HB.out.cell (World.block_lt_of_cell? w _ hx877_4)).trans hx877_4
                          replace hx877_5 := (HB.out.cell (World.block_lt_of_cell? w _ hx877_5)).trans hx877_5
                          replace hx877_6 := (HB.out.cell (World.block_lt_of_cell? w _ hx877_6)).trans hx877_6
                          replace hx877_7 := (HB.out.cell (World.block_lt_of_cell? w _ hx877_7)).trans hx877_7
                          replace hx877_8 := (HB.out.cell (World.block_lt_of_cell? w _ hx877_8)).trans hx877_8
                          replace p877 := eq_true p877
                          replace q877 := eq_true q877
                          have p878 : 0 ≤ (x5_1 : Int) := of_decide_eq_true (by first | (with_reducible assumption) | assumption)
                          have q878 : x5_1 < (l0.length : Int) := of_decide_eq_true (by first | (with_reducible assumption) | assumption)
                          obtain ⟨ad878, e878, hx878_0, hx878_1, hx878_2, hx878_3, hx878_4, hx878_5, hx878_6, hx878_7, hx878_8⟩ := at_T71 HR0.out x5_1 p878 q878
                          obtain rfl : ad872 = ad878 := (by injection e878)
                          replace hx878_0 := (HB.out.cell (World.block_lt_of_cell? w _ hx878_0)).trans hx878_0
                          replace hx878_1 := (HB.out.cell (World.block_lt_of_cell? w _ hx878_1)).trans hx878_1
                          replace hx878_2 := (HB.out.cell (World.block_lt_of_cell? w _ hx878_2)).trans hx878_2
                          replace hx878_3 := (HB.out.cell (World.block_lt_of_cell? w _ hx878_3)).trans hx878_3
                          replace hx878_4 := (HB.out.cell (World.block_lt_of_cell? w _ hx878_4)).trans hx878_4
                          replace hx878_5 := (HB.out.cell (World.block_lt_of_cell? w _ hx878_5)).trans hx878_5
                          replace hx878_6 := (HB.out.cell (World.block_lt_of_cell? w _ hx878_6)).trans hx878_6
                          replace hx878_7 := (HB.out.cell (World.block_lt_of_cell? w _ hx878_7)).trans hx878_7
                          replace hx878_8 := (HB.out.cell (World.block_lt_of_cell? w _ hx878_8)).trans hx878_8
                          replace p878 := eq_true p878
                          replace q878 := eq_true q878
                          have p879 : 0 ≤ (x5_1 : Int) := of_decide_eq_true (by first | (with_reducible assumption) | assumption)
                          have q879 : x5_1 < (l0.length : Int) := of_decide_eq_true (by first | (with_reducible assumption) | assumption)
                          obtain ⟨ad879, e879, hx879_0, hx879_1, hx879_2, hx879_3, hx879_4, hx879_5, hx879_6, hx879_7, hx879_8⟩ := at_T71 HR0.out x5_1 p879 q879
                          obtain rfl : ad872 = ad879 := (by injection e879)
                          replace hx879_0 := (HB.out.cell (World.block_lt_of_cell? w _ hx879_0)).trans hx879_0
                          replace hx879_1 := (HB.out.cell (World.block_lt_of_cell? w _ hx879_1)).trans hx879_1
                          replace hx879_2 := (HB.out.cell (World.block_lt_of_cell? w _ hx879_2)).trans hx879_2
                          replace hx879_3 := (HB.out.cell (World.block_lt_of_cell? w _ hx879_3)).trans hx879_3
                          replace hx879_4 := (HB.out.cell (World.block_lt_of_cell? w _ hx879_4)).trans hx879_4
                          replace hx879_5 := (HB.out.cell (World.block_lt_of_cell? w _ hx879_5)).trans hx879_5
                          replace hx879_6 := (HB.out.cell (World.block_lt_of_cell? w _ hx879_6)).trans hx879_6
                          replace hx879_7 := (HB.out.cell (World.block_lt_of_cell? w _ hx879_7)).trans hx879_7
                          replace hx879_8 := (HB.out.cell (World.block_lt_of_cell? w _ hx879_8)).trans hx879_8
                          replace p879 := eq_true p879
                          replace q879 := eq_true q879
                          have p880 : 0 ≤ (x5_1 : Int) := of_decide_eq_true (by first | (with_reducible assumption) | assumption)
                          have q880 : x5_1 < (l0.length : Int) := of_decide_eq_true (by first | (with_reducible assumption) | assumption)
                          obtain ⟨ad880, e880, hx880_0, hx880_1, hx880_2, hx880_3, hx880_4, hx880_5, hx880_6, hx880_7, hx880_8⟩ := at_T71 HR0.out x5_1 p880 q880
                          obtain rfl : ad872 = ad880 := (by injection e880)
                          replace hx880_0 := (HB.out.cell (World.block_lt_of_cell? w _ hx880_0)).trans hx880_0
                          replace hx880_1 := (HB.out.cell (World.block_lt_of_cell? w _ hx880_1)).trans hx880_1
                          replace hx880_2 := (HB.out.cell (World.block_lt_of_cell? w _ hx880_2)).trans hx880_2
                          replace hx880_3 := (HB.out.cell (World.block_lt_of_cell? w _ hx880_3)).trans hx880_3
                          replace hx880_4 := (HB.out.cell (World.block_lt_of_cell? w _ hx880_4)).trans hx880_4
                          replace hx880_5 := (HB.out.cell (World.block_lt_of_cell? w _ hx880_5)).trans hx880_5
                          replace hx880_6 := (HB.out.cell (World.block_lt_of_cell? w _ hx880_6)).trans hx880_6
                          replace hx880_7 := (HB.out.cell (World.block_lt_of_cell? w _ hx880_7)).trans hx880_7
                          replace hx880_8 := (HB.out.cell (World.block_lt_of_cell? w _ hx880_8)).trans hx880_8
                          replace p880 := eq_true p880
                          replace q880 := eq_true q880
                          try go_wp2
                          go_ret
                          exact ⟨by first | rfl | (simp [errW_none, errW_some] <;> rfl) | (simp [*, errW_none, errW_some] <;> rfl), by repeat (first | (with_reducible first | exact HB.out | apply below_alloc | apply pw_below_drewN | apply below_drew1) | exact HB.out)⟩
                      · rw [if_neg c12] at H
                        have c12b0 : (((rd_T71 l0 x5_1).f6) == (wrap64 ((wrap64 ((wrap64 ((wrap64 ((wrap64 ((wrap64 (x1_1 + 1)) + 1)) + 1)) + 1)) + 1)) + 1))) = false := beq_eq_false_iff_ne.mpr c12
                        have c12b1 : (((rd_T71 l0 x5_1).f6) != (wrap64 ((wrap64 ((wrap64 ((wrap64 ((wrap64 ((wrap64 (x1_1 + 1)) + 1)) + 1)) + 1)) + 1)) + 1))) = true := bne_iff_ne.mpr c12
                        obtain rfl := Option.some.inj H
                        have p872 : 0 ≤ (x5_1 : Int) := of_decide_eq_true (by first | (with_reducible assumption) | assumption)
                        have q872 : x5_1 < (l0.length : Int) := of_decide_eq_true (by first | (with_reducible assumption) | assumption)
                        obtain ⟨ad872, e872, hx872_0, hx872_1, hx872_2, hx872_3, hx872_4, hx872_5, hx872_6, hx872_7, hx872_8⟩ := at_T71 HR0.out x5_1 p872 q872
                        cases e872
                        replace hx872_0 := (HB.out.cell (World.block_lt_of_cell? w _ hx872_0)).trans hx872_0
                        replace hx872_1 := (HB.out.cell (World.block_lt_of_cell? w _ hx872_1)).trans hx872_1
                        replace hx872_2 := (HB.out.cell (World.block_lt_of_cell? w _ hx872_2)).trans hx872_2
                        replace hx872_3 := (HB.out.cell (World.block_lt_of_cell? w _ hx872_3)).trans hx872_3
                        replace hx872_4 := (HB.out.cell (World.block_lt_of_cell? w _ hx872_4)).trans hx872_4
                        replace hx872_5 := (HB.out.cell (World.block_lt_of_cell? w _ hx872_5)).trans hx872_5
                        replace hx872_6 := (HB.out.cell (World.block_lt_of_cell? w _ hx872_6)).trans hx872_6
                        replace hx872_7 := (HB.out.cell (World.block_lt_of_cell? w _ hx872_7)).trans hx872_7
                        replace hx872_8 := (HB.out.cell (World.block_lt_of_cell? w _ hx872_8)).trans hx872_8
                        replace p872 := eq_true p872
                        replace q872 := eq_true q872
                        try go_wp2
                        have n0_ := Aside0.mk (below_drew1 HB.out)
                        clear HB
                        have HB := n0_
                        clear n0_
                        have p873 : 0 ≤ (x5_1 : Int) := of_decide_eq_true (by first | (with_reducible assumption) | assumption)
                        have q873 : x5_1 < (l0.length : Int) := of_decide_eq_true (by first | (with_reducible assumption) | assumption)
                        obtain ⟨ad873, e873, hx873_0, hx873_1, hx873_2, hx873_3, hx873_4, hx873_5, hx873_6, hx873_7, hx873_8⟩ := at_T71 HR0.out x5_1 p873 q873
                        have hw873_8 := hx873_8
                        have hw873_7 := hx873_7
                        have hw873_6 := hx873_6
                        have hw873_5 := hx873_5
                        have hw873_4 := hx873_4
                        have hw873_3 := hx873_3
                        have hw873_2 := hx873_2
                        have hw873_1 := hx873_1
                        have hw873_0 := hx873_0
                        obtain rfl : ad872 = ad873 := (by injection e873)
                        replace hx873_0 := (HB.out.cell (World.block_lt_of_cell? w _ hx873_0)).trans hx873_0
                        replace hx873_1 := (HB.out.cell (World.block_lt_of_cell? w _ hx873_1)).trans hx873_1
                        replace hx873_2 := (HB.out.cell (World.block_lt_of_cell? w _ hx873_2)).trans hx873_2
                        replace hx873_3 := (HB.out.cell (World.block_lt_of_cell? w _ hx873_3)).trans hx873_3
                        replace hx873_4 := (HB.out.cell (World.block_lt_of_cell? w _ hx873_4)).trans hx873_4
                        replace hx873_5 := (HB.out.cell (World.block_lt_of_cell? w _ hx873_5)).trans hx873_5
                        replace hx873_6 := (HB.out.cell (World.block_lt_of_cell? w _ hx873_6)).trans hx873_6
                        replace hx873_7 := (HB.out.cell (World.block_lt_of_cell? w _ hx873_7)).trans hx873_7
                        replace hx873_8 := (HB.out.cell (World.block_lt_of_cell? w _ hx873_8)).trans hx873_8
                        replace p873 := eq_true p873
                        replace q873 := eq_true q873
                        refine start_ (n := 8) (S := fun w' => w'.cell? (ad872.add ((x5_1).toNat * 9)) = some (.int .i64 ((rd_T71 l0 x5_1).f0)) ∧ w'.cell? ⟨(ad872.add ((x5_1).toNat * 9)).block, (ad872.add ((x5_1).toNat * 9)).off + 1, none⟩ = some (.string ((rd_T71 l0 x5_1).f1)) ∧ w'.cell? ⟨(ad872.add ((x5_1).toNat * 9)).block, (ad872.add ((x5_1).toNat * 9)).off + 2, none⟩ = some (.int .i64 ((rd_T71 l0 x5_1).f2)) ∧ w'.cell? ⟨(ad872.add ((x5_1).toNat * 9)).block, (ad872.add ((x5_1).toNat * 9)).off + 3, none⟩ = some (.int .i64 ((rd_T71 l0 x5_1).f3)) ∧ w'.cell? ⟨(ad872.add ((x5_1).toNat * 9)).block, (ad872.add ((x5_1).toNat * 9)).off + 4, none⟩ = some (.int .i64 ((rd_T71 l0 x5_1).f4)) ∧ w'.cell? ⟨(ad872.add ((x5_1).toNat * 9)).block, (ad872.add ((x5_1).toNat * 9)).off + 5, none⟩ = some (.int .i64 ((rd_T71 l0 x5_1).f5)) ∧ w'.cell? ⟨(ad872.add ((x5_1).toNat * 9)).block, (ad872.add ((x5_1).toNat * 9)).off + 6, none⟩ = some (.int .i64 ((rd_T71 l0 x5_1).f6)) ∧ w'.cell? ⟨(ad872.add ((x5_1).toNat * 9)).block, (ad872.add ((x5_1).toNat * 9)).off + 7, none⟩ = some (.int .i64 ((rd_T71 l0 x5_1).f7)) ∧ w'.cell? ⟨(ad872.add ((x5_1).toNat * 9)).block, (ad872.add ((x5_1).toNat * 9)).off + 8, none⟩ = some (.int .i64 ((rd_T71 l0 x5_1).f8))) (ds := []) #[false, false, false, false, false, false, false, false] (by kernel_rfl) rfl rfl ⟨((HB.out.cell (World.block_lt_of_cell? w _ hw873_0)).trans hw873_0), ((HB.out.cell (World.block_lt_of_cell? w _ hw873_1)).trans hw873_1), ((HB.out.cell (World.block_lt_of_cell? w _ hw873_2)).trans hw873_2), ((HB.out.cell (World.block_lt_of_cell? w _ hw873_3)).trans hw873_3), ((HB.out.cell (World.block_lt_of_cell? w _ hw873_4)).trans hw873_4), ((HB.out.cell (World.block_lt_of_cell? w _ hw873_5)).trans hw873_5), ((HB.out.cell (World.block_lt_of_cell? w _ hw873_6)).trans hw873_6), ((HB.out.cell (World.block_lt_of_cell? w _ hw873_7)).trans hw873_7), ((HB.out.cell (World.block_lt_of_cell? w _ hw873_8)).trans hw873_8)⟩ (fun hHeld => ?_); refine with_tabW laws_heldFlowS.tab7 laws_heldFlowS.bits7 (fun HT_ HW_ => ?_)
                        generalize wr.drew = w21 at HB hx873_0 hx873_1 hx873_2 hx873_3 hx873_4 hx873_5 hx873_6 hx873_7 hx873_8 hHeld ⊢
                        refine pure_ (i := 0) (N := some 21) (v := ?_) (a' := ?_) #[true, false, false, false, false, false, false, false] rfl rfl (any_of HT_.out (by kernel_rfl)) (fun _ _ _ h => h) (Or.inl ⟨by rfl, ?_⟩) ?_ ?_
                        rotate_left
                        · intro w'
                          go_simp
                          with_reducible rfl
                        rotate_left
                        · simp only [Act.put, List.setIfInBounds_toArray, List.set_cons_zero, List.set_cons_succ, i64_w, i32_w]
                          rfl
                        refine pure_ (i := 1) (N := some 22) (v := ?_) (a' := ?_) #[true, true, false, false, false, false, false, false] rfl rfl (any_of HT_.out (by kernel_rfl)) (fun _ _ _ h => h) (Or.inl ⟨by rfl, ?_⟩) ?_ ?_
                        rotate_left
                        · intro w'
                          go_simp
                          with_reducible rfl
                        rotate_left
                        · simp only [Act.put, List.setIfInBounds_toArray, List.set_cons_zero, List.set_cons_succ, i64_w, i32_w]
                          rfl
                        refine pure_ (i := 2) (N := some 23) (v := ?_) (a' := ?_) #[true, true, true, false, false, false, false, false] rfl rfl (any_of HT_.out (by kernel_rfl)) (fun _ _ _ h => h) (Or.inl ⟨by rfl, ?_⟩) ?_ ?_
                        rotate_left
                        · intro w'
                          go_simp
                          with_reducible rfl
                        rotate_left
                        · simp only [Act.put, List.setIfInBounds_toArray, List.set_cons_zero, List.set_cons_succ, i64_w, i32_w]
                          rfl
                        refine pure_ (i := 3) (N := some 24) (v := ?_) (a' := ?_) #[true, true, true, true, false, false, false, false] rfl rfl (any_of HT_.out (by kernel_rfl)) (fun _ _ _ h => h) (Or.inl ⟨by rfl, ?_⟩) ?_ ?_
                        rotate_left
                        · intro w'
                          go_simp
                          with_reducible rfl
                        rotate_left
                        · simp only [Act.put, List.setIfInBounds_toArray, List.set_cons_zero, List.set_cons_succ, i64_w, i32_w]
                          rfl
                        refine pure_ (i := 5) (N := some 26) (v := ?_) (a' := ?_) #[true, true, true, true, false, true, false, false] rfl rfl (any_of HT_.out (by kernel_rfl)) (fun _ _ _ h => h) (Or.inl ⟨by rfl, ?_⟩) ?_ ?_
                        rotate_left
                        · intro w'
                          go_simp
                          with_reducible rfl
                        rotate_left
                        · simp only [Act.put, List.setIfInBounds_toArray, List.set_cons_zero, List.set_cons_succ, i64_w, i32_w]
                          rfl
                        refine take_ (i := 4) (N := some 25) (v := ?_) (a' := ?_) #[true, true, true, true, true, true, false, false] rfl rfl (take_ofW HT_.out HW_.out (by kernel_rfl)) (fun _ _ _ h => h) (Or.inl ⟨by rfl, ?_⟩) hHeld ?_ ?_
                        rotate_left
                        · rintro w' ⟨s0, s1, s2, s3, s4, s5, s6, s7, s8⟩
                          go_simp
                          with_reducible rfl
                        rotate_left
                        · simp only [Act.put, List.setIfInBounds_toArray, List.set_cons_zero, List.set_cons_succ, i64_w, i32_w]
                          rfl
                        refine one_ (i := 6) (N := some 27) #[true, true, true, true, true, true, true, false] rfl rfl (one_of HT_.out (by kernel_rfl)) (by decide) (fun K hK => ?_)
                        refine goes_ Try.func89 (by kernel_rfl) rfl #[.int .i64 (wrap64 (x1_1 + 1))] (by rfl) rfl rfl (by (try simp only [List.map_toArray, List.map_cons, List.map_nil]); first | done | rfl | (simp only [List.length_drop, List.length_take]; rfl)) ?_
                        with_reducible refine (laws_markText.calls k1 (wrap64 (x1_1 + 1)) t874 _ A6.out).mono ?_
                        rintro e w22 ⟨rfl, hb⟩
                        refine ⟨_, rfl, ?_⟩
                        have n0_ := Aside0.mk (below_step (by repeat (first | (with_reducible first | exact HB.out | apply below_alloc | apply pw_below_drewN | apply below_drew1) | exact HB.out)) hb)
                        clear HB
                        have HB := n0_
                        clear n0_
                        (try clear hb)
                        (try clear hb2)
                        (try clear hk)
                        (try clear hi)
                        refine hK.out _ _ ⟨((HB.out.cell (World.block_lt_of_cell? w _ hw873_0)).trans hw873_0), ((HB.out.cell (World.block_lt_of_cell? w _ hw873_1)).trans hw873_1), ((HB.out.cell (World.block_lt_of_cell? w _ hw873_2)).trans hw873_2), ((HB.out.cell (World.block_lt_of_cell? w _ hw873_3)).trans hw873_3), ((HB.out.cell (World.block_lt_of_cell? w _ hw873_4)).trans hw873_4), ((HB.out.cell (World.block_lt_of_cell? w _ hw873_5)).trans hw873_5), ((HB.out.cell (World.block_lt_of_cell? w _ hw873_6)).trans hw873_6), ((HB.out.cell (World.block_lt_of_cell? w _ hw873_7)).trans hw873_7), ((HB.out.cell (World.block_lt_of_cell? w _ hw873_8)).trans hw873_8)⟩ (fun hHeld => ?_)
                        clear hK K
                        refine norm_ (a' := ?_) ?_ ?_
                        rotate_left
                        · show Act.put _ (some 27) _ = _
                          simp only [Act.put, List.setIfInBounds_toArray, List.set_cons_zero, List.set_cons_succ, i64_w, i32_w]
                          rfl
                        refine pure_ (i := 7) (N := some 28) (v := ?_) (a' := ?_) #[true, true, true, true, true, true, true, true] rfl rfl (any_of HT_.out (by kernel_rfl)) (fun _ _ _ h => h) (Or.inl ⟨by rfl, ?_⟩) ?_ ?_
                        rotate_left
                        · intro w'
                          go_simp
                          with_reducible rfl
                        rotate_left
                        · simp only [Act.put, List.setIfInBounds_toArray, List.set_cons_zero, List.set_cons_succ, i64_w, i32_w]
                          rfl
                        refine done_ (done_of HT_.out (by kernel_rfl)) ?_
                        have p875 : 0 ≤ (x5_1 : Int) := of_decide_eq_true (by first | (with_reducible assumption) | assumption)
                        have q875 : x5_1 < (l0.length : Int) := of_decide_eq_true (by first | (with_reducible assumption) | assumption)
                        obtain ⟨ad875, e875, hx875_0, hx875_1, hx875_2, hx875_3, hx875_4, hx875_5, hx875_6, hx875_7, hx875_8⟩ := at_T71 HR0.out x5_1 p875 q875
                        obtain rfl : ad872 = ad875 := (by injection e875)
                        replace hx875_0 := (HB.out.cell (World.block_lt_of_cell? w _ hx875_0)).trans hx875_0
                        replace hx875_1 := (HB.out.cell (World.block_lt_of_cell? w _ hx875_1)).trans hx875_1
                        replace hx875_2 := (HB.out.cell (World.block_lt_of_cell? w _ hx875_2)).trans hx875_2
                        replace hx875_3 := (HB.out.cell (World.block_lt_of_cell? w _ hx875_3)).trans hx875_3
                        replace hx875_4 := (HB.out.cell (World.block_lt_of_cell? w _ hx875_4)).trans hx875_4
                        replace hx875_5 := (HB.out.cell (World.block_lt_of_cell? w _ hx875_5)).trans hx875_5
                        replace hx875_6 := (HB.out.cell (World.block_lt_of_cell? w _ hx875_6)).trans hx875_6
                        replace hx875_7 := (HB.out.cell (World.block_lt_of_cell? w _ hx875_7)).trans hx875_7
                        replace hx875_8 := (HB.out.cell (World.block_lt_of_cell? w _ hx875_8)).trans hx875_8
                        replace p875 := eq_true p875
                        replace q875 := eq_true q875
                        have p876 : 0 ≤ (x5_1 : Int) := of_decide_eq_true (by first | (with_reducible assumption) | assumption)
                        have q876 : x5_1 < (l0.length : Int) := of_decide_eq_true (by first | (with_reducible assumption) | assumption)
                        obtain ⟨ad876, e876, hx876_0, hx876_1, hx876_2, hx876_3, hx876_4, hx876_5, hx876_6, hx876_7, hx876_8⟩ := at_T71 HR0.out x5_1 p876 q876
                        obtain rfl : ad872 = ad876 := (by injection e876)
                        replace hx876_0 := (HB.out.cell (World.block_lt_of_cell? w _ hx876_0)).trans hx876_0
                        replace hx876_1 := (HB.out.cell (World.block_lt_of_cell? w _ hx876_1)).trans hx876_1
                        replace hx876_2 := (HB.out.cell (World.block_lt_of_cell? w _ hx876_2)).trans hx876_2
                        replace hx876_3 := (HB.out.cell (World.block_lt_of_cell? w _ hx876_3)).trans hx876_3
                        replace hx876_4 := (HB.out.cell (World.block_lt_of_cell? w _ hx876_4)).trans hx876_4
                        replace hx876_5 := (HB.out.cell (World.block_lt_of_cell? w _ hx876_5)).trans hx876_5
                        replace hx876_6 := (HB.out.cell (World.block_lt_of_cell? w _ hx876_6)).trans hx876_6
                        replace hx876_7 := (HB.out.cell (World.block_lt_of_cell? w _ hx876_7)).trans hx876_7
                        replace hx876_8 := (HB.out.cell (World.block_lt_of_cell? w _ hx876_8)).trans hx876_8
                        replace p876 := eq_true p876
                        replace q876 := eq_true q876
                        have p877 : 0 ≤ (x5_1 : Int) := of_decide_eq_true (by first | (with_reducible assumption) | assumption)
                        have q877 : x5_1 < (l0.length : Int) := of_decide_eq_true (by first | (with_reducible assumption) | assumption)
                        obtain ⟨ad877, e877, hx877_0, hx877_1, hx877_2, hx877_3, hx877_4, hx877_5, hx877_6, hx877_7, hx877_8⟩ := at_T71 HR0.out x5_1 p877 q877
                        obtain rfl : ad872 = ad877 := (by injection e877)
                        replace hx877_0 := (HB.out.cell (World.block_lt_of_cell? w _ hx877_0)).trans hx877_0
                        replace hx877_1 := (HB.out.cell (World.block_lt_of_cell? w _ hx877_1)).trans hx877_1
                        replace hx877_2 := (HB.out.cell (World.block_lt_of_cell? w _ hx877_2)).trans hx877_2
                        replace hx877_3 := (HB.out.cell (World.block_lt_of_cell? w _ hx877_3)).trans hx877_3
                        replace hx877_4 := (HB.out.cell (World.block_lt_of_cell? w _ hx877_4)).trans hx877_4
                        replace hx877_5 := (HB.out.cell (World.block_lt_of_cell? w _ hx877_5)).trans hx877_5
                        replace hx877_6 := (HB.out.cell (World.block_lt_of_cell? w _ hx877_6)).trans hx877_6
                        replace hx877_7 := (HB.out.cell (World.block_lt_of_cell? w _ hx877_7)).trans hx877_7
                        replace hx877_8 := (HB.out.cell (World.block_lt_of_cell? w _ hx877_8)).trans hx877_8
                        replace p877 := eq_true p877
                        replace q877 := eq_true q877
                        have p878 : 0 ≤ (x5_1 : Int) := of_decide_eq_true (by first | (with_reducible assumption) | assumption)
                        have q878 : x5_1 < (l0.length : Int) := of_decide_eq_true (by first | (with_reducible assumption) | assumption)
                        obtain ⟨ad878, e878, hx878_0, hx878_1, hx878_2, hx878_3, hx878_4, hx878_5, hx878_6, hx878_7, hx878_8⟩ := at_T71 HR0.out x5_1 p878 q878
                        obtain rfl : ad872 = ad878 := (by injection e878)
                        replace hx878_0 := (HB.out.cell (World.block_lt_of_cell? w _ hx878_0)).trans hx878_0
                        replace hx878_1 := (HB.out.cell (World.block_lt_of_cell? w _ hx878_1)).trans hx878_1
                        replace hx878_2 := (HB.out.cell (World.block_lt_of_cell? w _ hx878_2)).trans hx878_2
                        replace hx878_3 := (HB.out.cell (World.block_lt_of_cell? w _ hx878_3)).trans hx878_3
                        replace hx878_4 := (HB.out.cell (World.block_lt_of_cell? w _ hx878_4)).trans hx878_4
                        replace hx878_5 := (HB.out.cell (World.block_lt_of_cell? w _ hx878_5)).trans hx878_5
                        replace hx878_6 := (HB.out.cell (World.block_lt_of_cell? w _ hx878_6)).trans hx878_6
                        replace hx878_7 := (HB.out.cell (World.block_lt_of_cell? w _ hx878_7)).trans hx878_7
                        replace hx878_8 := (HB.out.cell (World.block_lt_of_cell? w _ hx878_8)).trans hx878_8
                        replace p878 := eq_true p878
                        replace q878 := eq_true q878
                        have p879 : 0 ≤ (x5_1 : Int) := of_decide_eq_true (by first | (with_reducible assumption) | assumption)
                        have q879 : x5_1 < (l0.length : Int) := of_decide_eq_true (by first | (with_reducible assumption) | assumption)
                        obtain ⟨ad879, e879, hx879_0, hx879_1, hx879_2, hx879_3, hx879_4, hx879_5, hx879_6, hx879_7, hx879_8⟩ := at_T71 HR0.out x5_1 p879 q879
                        obtain rfl : ad872 = ad879 := (by injection e879)
                        replace hx879_0 := (HB.out.cell (World.block_lt_of_cell? w _ hx879_0)).trans hx879_0
                        replace hx879_1 := (HB.out.cell (World.block_lt_of_cell? w _ hx879_1)).trans hx879_1
                        replace hx879_2 := (HB.out.cell (World.block_lt_of_cell? w _ hx879_2)).trans hx879_2
                        replace hx879_3 := (HB.out.cell (World.block_lt_of_cell? w _ hx879_3)).trans hx879_3
                        replace hx879_4 := (HB.out.cell (World.block_lt_of_cell? w _ hx879_4)).trans hx879_4
                        replace hx879_5 := (HB.out.cell (World.block_lt_of_cell? w _ hx879_5)).trans hx879_5
                        replace hx879_6 := (HB.out.cell (World.block_lt_of_cell? w _ hx879_6)).trans hx879_6
                        replace hx879_7 := (HB.out.cell (World.block_lt_of_cell? w _ hx879_7)).trans hx879_7
                        replace hx879_8 := (HB.out.cell (World.block_lt_of_cell? w _ hx879_8)).trans hx879_8
                        replace p879 := eq_true p879
                        replace q879 := eq_true q879
                        try go_wp2
                        go_ret
                        exact ⟨by first | rfl | (simp [errW_none, errW_some] <;> rfl) | (simp [*, errW_none, errW_some] <;> rfl), by repeat (first | (with_reducible first | exact HB.out | apply below_alloc | apply pw_below_drewN | apply below_drew1) | exact HB.out)⟩
                    · rw [if_neg c11] at H
                      have c11b0 : (((rd_T71 l0 x5_1).f5) == (wrap64 ((wrap64 ((wrap64 ((wrap64 ((wrap64 (x1_1 + 1)) + 1)) + 1)) + 1)) + 1))) = false := beq_eq_false_iff_ne.mpr c11
                      have c11b1 : (((rd_T71 l0 x5_1).f5) != (wrap64 ((wrap64 ((wrap64 ((wrap64 ((wrap64 (x1_1 + 1)) + 1)) + 1)) + 1)) + 1))) = true := bne_iff_ne.mpr c11
                      obtain rfl := Option.some.inj H
                      have p872 : 0 ≤ (x5_1 : Int) := of_decide_eq_true (by first | (with_reducible assumption) | assumption)
                      have q872 : x5_1 < (l0.length : Int) := of_decide_eq_true (by first | (with_reducible assumption) | assumption)
                      obtain ⟨ad872, e872, hx872_0, hx872_1, hx872_2, hx872_3, hx872_4, hx872_5, hx872_6, hx872_7, hx872_8⟩ := at_T71 HR0.out x5_1 p872 q872
                      cases e872
                      replace hx872_0 := (HB.out.cell (World.block_lt_of_cell? w _ hx872_0)).trans hx872_0
                      replace hx872_1 := (HB.out.cell (World.block_lt_of_cell? w _ hx872_1)).trans hx872_1
                      replace hx872_2 := (HB.out.cell (World.block_lt_of_cell? w _ hx872_2)).trans hx872_2
                      replace hx872_3 := (HB.out.cell (World.block_lt_of_cell? w _ hx872_3)).trans hx872_3
                      replace hx872_4 := (HB.out.cell (World.block_lt_of_cell? w _ hx872_4)).trans hx872_4
                      replace hx872_5 := (HB.out.cell (World.block_lt_of_cell? w _ hx872_5)).trans hx872_5
                      replace hx872_6 := (HB.out.cell (World.block_lt_of_cell? w _ hx872_6)).trans hx872_6
                      replace hx872_7 := (HB.out.cell (World.block_lt_of_cell? w _ hx872_7)).trans hx872_7
                      replace hx872_8 := (HB.out.cell (World.block_lt_of_cell? w _ hx872_8)).trans hx872_8
                      replace p872 := eq_true p872
                      replace q872 := eq_true q872
                      try go_wp2
                      have n0_ := Aside0.mk (below_drew1 HB.out)
                      clear HB
                      have HB := n0_
                      clear n0_
                      have p873 : 0 ≤ (x5_1 : Int) := of_decide_eq_true (by first | (with_reducible assumption) | assumption)
                      have q873 : x5_1 < (l0.length : Int) := of_decide_eq_true (by first | (with_reducible assumption) | assumption)
                      obtain ⟨ad873, e873, hx873_0, hx873_1, hx873_2, hx873_3, hx873_4, hx873_5, hx873_6, hx873_7, hx873_8⟩ := at_T71 HR0.out x5_1 p873 q873
                      have hw873_8 := hx873_8
                      have hw873_7 := hx873_7
                      have hw873_6 := hx873_6
                      have hw873_5 := hx873_5
                      have hw873_4 := hx873_4
                      have hw873_3 := hx873_3
                      have hw873_2 := hx873_2
                      have hw873_1 := hx873_1
                      have hw873_0 := hx873_0
                      obtain rfl : ad872 = ad873 := (by injection e873)
                      replace hx873_0 := (HB.out.cell (World.block_lt_of_cell? w _ hx873_0)).trans hx873_0
                      replace hx873_1 := (HB.out.cell (World.block_lt_of_cell? w _ hx873_1)).trans hx873_1
                      replace hx873_2 := (HB.out.cell (World.block_lt_of_cell? w _ hx873_2)).trans hx873_2
                      replace hx873_3 := (HB.out.cell (World.block_lt_of_cell? w _ hx873_3)).trans hx873_3
                      replace hx873_4 := (HB.out.cell (World.block_lt_of_cell? w _ hx873_4)).trans hx873_4
                      replace hx873_5 := (HB.out.cell (World.block_lt_of_cell? w _ hx873_5)).trans hx873_5
                      replace hx873_6 := (HB.out.cell (World.block_lt_of_cell? w _ hx873_6)).trans hx873_6
                      replace hx873_7 := (HB.out.cell (World.block_lt_of_cell? w _ hx873_7)).trans hx873_7
                      replace hx873_8 := (HB.out.cell (World.block_lt_of_cell? w _ hx873_8)).trans hx873_8
                      replace p873 := eq_true p873
                      replace q873 := eq_true q873
                      refine start_ (n := 8) (S := fun w' => w'.cell? (ad872.add ((x5_1).toNat * 9)) = some (.int .i64 ((rd_T71 l0 x5_1).f0)) ∧ w'.cell? ⟨(ad872.add ((x5_1).toNat * 9)).block, (ad872.add ((x5_1).toNat * 9)).off + 1, none⟩ = some (.string ((rd_T71 l0 x5_1).f1)) ∧ w'.cell? ⟨(ad872.add ((x5_1).toNat * 9)).block, (ad872.add ((x5_1).toNat * 9)).off + 2, none⟩ = some (.int .i64 ((rd_T71 l0 x5_1).f2)) ∧ w'.cell? ⟨(ad872.add ((x5_1).toNat * 9)).block, (ad872.add ((x5_1).toNat * 9)).off + 3, none⟩ = some (.int .i64 ((rd_T71 l0 x5_1).f3)) ∧ w'.cell? ⟨(ad872.add ((x5_1).toNat * 9)).block, (ad872.add ((x5_1).toNat * 9)).off + 4, none⟩ = some (.int .i64 ((rd_T71 l0 x5_1).f4)) ∧ w'.cell? ⟨(ad872.add ((x5_1).toNat * 9)).block, (ad872.add ((x5_1).toNat * 9)).off + 5, none⟩ = some (.int .i64 ((rd_T71 l0 x5_1).f5)) ∧ w'.cell? ⟨(ad872.add ((x5_1).toNat * 9)).block, (ad872.add ((x5_1).toNat * 9)).off + 6, none⟩ = some (.int .i64 ((rd_T71 l0 x5_1).f6)) ∧ w'.cell? ⟨(ad872.add ((x5_1).toNat * 9)).block, (ad872.add ((x5_1).toNat * 9)).off + 7, none⟩ = some (.int .i64 ((rd_T71 l0 x5_1).f7)) ∧ w'.cell? ⟨(ad872.add ((x5_1).toNat * 9)).block, (ad872.add ((x5_1).toNat * 9)).off + 8, none⟩ = some (.int .i64 ((rd_T71 l0 x5_1).f8))) (ds := []) #[false, false, false, false, false, false, false, false] (by kernel_rfl) rfl rfl ⟨((HB.out.cell (World.block_lt_of_cell? w _ hw873_0)).trans hw873_0), ((HB.out.cell (World.block_lt_of_cell? w _ hw873_1)).trans hw873_1), ((HB.out.cell (World.block_lt_of_cell? w _ hw873_2)).trans hw873_2), ((HB.out.cell (World.block_lt_of_cell? w _ hw873_3)).trans hw873_3), ((HB.out.cell (World.block_lt_of_cell? w _ hw873_4)).trans hw873_4), ((HB.out.cell (World.block_lt_of_cell? w _ hw873_5)).trans hw873_5), ((HB.out.cell (World.block_lt_of_cell? w _ hw873_6)).trans hw873_6), ((HB.out.cell (World.block_lt_of_cell? w _ hw873_7)).trans hw873_7), ((HB.out.cell (World.block_lt_of_cell? w _ hw873_8)).trans hw873_8)⟩ (fun hHeld => ?_); refine with_tabW laws_heldFlowS.tab7 laws_heldFlowS.bits7 (fun HT_ HW_ => ?_)
                      generalize wr.drew = w23 at HB hx873_0 hx873_1 hx873_2 hx873_3 hx873_4 hx873_5 hx873_6 hx873_7 hx873_8 hHeld ⊢
                      refine pure_ (i := 0) (N := some 21) (v := ?_) (a' := ?_) #[true, false, false, false, false, false, false, false] rfl rfl (any_of HT_.out (by kernel_rfl)) (fun _ _ _ h => h) (Or.inl ⟨by rfl, ?_⟩) ?_ ?_
                      rotate_left
                      · intro w'
                        go_simp
                        with_reducible rfl
                      rotate_left
                      · simp only [Act.put, List.setIfInBounds_toArray, List.set_cons_zero, List.set_cons_succ, i64_w, i32_w]
                        rfl
                      refine pure_ (i := 1) (N := some 22) (v := ?_) (a' := ?_) #[true, true, false, false, false, false, false, false] rfl rfl (any_of HT_.out (by kernel_rfl)) (fun _ _ _ h => h) (Or.inl ⟨by rfl, ?_⟩) ?_ ?_
                      rotate_left
                      · intro w'
                        go_simp
                        with_reducible rfl
                      rotate_left
                      · simp only [Act.put, List.setIfInBounds_toArray, List.set_cons_zero, List.set_cons_succ, i64_w, i32_w]
                        rfl
                      refine pure_ (i := 2) (N := some 23) (v := ?_) (a' := ?_) #[true, true, true, false, false, false, false, false] rfl rfl (any_of HT_.out (by kernel_rfl)) (fun _ _ _ h => h) (Or.inl ⟨by rfl, ?_⟩) ?_ ?_
                      rotate_left
                      · intro w'
                        go_simp
                        with_reducible rfl
                      rotate_left
                      · simp only [Act.put, List.setIfInBounds_toArray, List.set_cons_zero, List.set_cons_succ, i64_w, i32_w]
                        rfl
                      refine pure_ (i := 3) (N := some 24) (v := ?_) (a' := ?_) #[true, true, true, true, false, false, false, false] rfl rfl (any_of HT_.out (by kernel_rfl)) (fun _ _ _ h => h) (Or.inl ⟨by rfl, ?_⟩) ?_ ?_
                      rotate_left
                      · intro w'
                        go_simp
                        with_reducible rfl
                      rotate_left
                      · simp only [Act.put, List.setIfInBounds_toArray, List.set_cons_zero, List.set_cons_succ, i64_w, i32_w]
                        rfl
                      refine pure_ (i := 5) (N := some 26) (v := ?_) (a' := ?_) #[true, true, true, true, false, true, false, false] rfl rfl (any_of HT_.out (by kernel_rfl)) (fun _ _ _ h => h) (Or.inl ⟨by rfl, ?_⟩) ?_ ?_
                      rotate_left
                      · intro w'
                        go_simp
                        with_reducible rfl
                      rotate_left
                      · simp only [Act.put, List.setIfInBounds_toArray, List.set_cons_zero, List.set_cons_succ, i64_w, i32_w]
                        rfl
                      refine take_ (i := 4) (N := some 25) (v := ?_) (a' := ?_) #[true, true, true, true, true, true, false, false] rfl rfl (take_ofW HT_.out HW_.out (by kernel_rfl)) (fun _ _ _ h => h) (Or.inl ⟨by rfl, ?_⟩) hHeld ?_ ?_
                      rotate_left
                      · rintro w' ⟨s0, s1, s2, s3, s4, s5, s6, s7, s8⟩
                        go_simp
                        with_reducible rfl
                      rotate_left
                      · simp only [Act.put, List.setIfInBounds_toArray, List.set_cons_zero, List.set_cons_succ, i64_w, i32_w]
                        rfl
                      refine one_ (i := 6) (N := some 27) #[true, true, true, true, true, true, true, false] rfl rfl (one_of HT_.out (by kernel_rfl)) (by decide) (fun K hK => ?_)
                      refine goes_ Try.func89 (by kernel_rfl) rfl #[.int .i64 (wrap64 (x1_1 + 1))] (by rfl) rfl rfl (by (try simp only [List.map_toArray, List.map_cons, List.map_nil]); first | done | rfl | (simp only [List.length_drop, List.length_take]; rfl)) ?_
                      with_reducible refine (laws_markText.calls k1 (wrap64 (x1_1 + 1)) t874 _ A6.out).mono ?_
                      rintro e w24 ⟨rfl, hb⟩
                      refine ⟨_, rfl, ?_⟩
                      have n0_ := Aside0.mk (below_step (by repeat (first | (with_reducible first | exact HB.out | apply below_alloc | apply pw_below_drewN | apply below_drew1) | exact HB.out)) hb)
                      clear HB
                      have HB := n0_
                      clear n0_
                      (try clear hb)
                      (try clear hb2)
                      (try clear hk)
                      (try clear hi)
                      refine hK.out _ _ ⟨((HB.out.cell (World.block_lt_of_cell? w _ hw873_0)).trans hw873_0), ((HB.out.cell (World.block_lt_of_cell? w _ hw873_1)).trans hw873_1), ((HB.out.cell (World.block_lt_of_cell? w _ hw873_2)).trans hw873_2), ((HB.out.cell (World.block_lt_of_cell? w _ hw873_3)).trans hw873_3), ((HB.out.cell (World.block_lt_of_cell? w _ hw873_4)).trans hw873_4), ((HB.out.cell (World.block_lt_of_cell? w _ hw873_5)).trans hw873_5), ((HB.out.cell (World.block_lt_of_cell? w _ hw873_6)).trans hw873_6), ((HB.out.cell (World.block_lt_of_cell? w _ hw873_7)).trans hw873_7), ((HB.out.cell (World.block_lt_of_cell? w _ hw873_8)).trans hw873_8)⟩ (fun hHeld => ?_)
                      clear hK K
                      refine norm_ (a' := ?_) ?_ ?_
                      rotate_left
                      · show Act.put _ (some 27) _ = _
                        simp only [Act.put, List.setIfInBounds_toArray, List.set_cons_zero, List.set_cons_succ, i64_w, i32_w]
                        rfl
                      refine pure_ (i := 7) (N := some 28) (v := ?_) (a' := ?_) #[true, true, true, true, true, true, true, true] rfl rfl (any_of HT_.out (by kernel_rfl)) (fun _ _ _ h => h) (Or.inl ⟨by rfl, ?_⟩) ?_ ?_
                      rotate_left
                      · intro w'
                        go_simp
                        with_reducible rfl
                      rotate_left
                      · simp only [Act.put, List.setIfInBounds_toArray, List.set_cons_zero, List.set_cons_succ, i64_w, i32_w]
                        rfl
                      refine done_ (done_of HT_.out (by kernel_rfl)) ?_
                      have p875 : 0 ≤ (x5_1 : Int) := of_decide_eq_true (by first | (with_reducible assumption) | assumption)
                      have q875 : x5_1 < (l0.length : Int) := of_decide_eq_true (by first | (with_reducible assumption) | assumption)
                      obtain ⟨ad875, e875, hx875_0, hx875_1, hx875_2, hx875_3, hx875_4, hx875_5, hx875_6, hx875_7, hx875_8⟩ := at_T71 HR0.out x5_1 p875 q875
                      obtain rfl : ad872 = ad875 := (by injection e875)
                      replace hx875_0 := (HB.out.cell (World.block_lt_of_cell? w _ hx875_0)).trans hx875_0
                      replace hx875_1 := (HB.out.cell (World.block_lt_of_cell? w _ hx875_1)).trans hx875_1
                      replace hx875_2 := (HB.out.cell (World.block_lt_of_cell? w _ hx875_2)).trans hx875_2
                      replace hx875_3 := (HB.out.cell (World.block_lt_of_cell? w _ hx875_3)).trans hx875_3
                      replace hx875_4 := (HB.out.cell (World.block_lt_of_cell? w _ hx875_4)).trans hx875_4
                      replace hx875_5 := (HB.out.cell (World.block_lt_of_cell? w _ hx875_5)).trans hx875_5
                      replace hx875_6 := (HB.out.cell (World.block_lt_of_cell? w _ hx875_6)).trans hx875_6
                      replace hx875_7 := (HB.out.cell (World.block_lt_of_cell? w _ hx875_7)).trans hx875_7
                      replace hx875_8 := (HB.out.cell (World.block_lt_of_cell? w _ hx875_8)).trans hx875_8
                      replace p875 := eq_true p875
                      replace q875 := eq_true q875
                      have p876 : 0 ≤ (x5_1 : Int) := of_decide_eq_true (by first | (with_reducible assumption) | assumption)
                      have q876 : x5_1 < (l0.length : Int) := of_decide_eq_true (by first | (with_reducible assumption) | assumption)
                      obtain ⟨ad876, e876, hx876_0, hx876_1, hx876_2, hx876_3, hx876_4, hx876_5, hx876_6, hx876_7, hx876_8⟩ := at_T71 HR0.out x5_1 p876 q876
                      obtain rfl : ad872 = ad876 := (by injection e876)
                      replace hx876_0 := (HB.out.cell (World.block_lt_of_cell? w _ hx876_0)).trans hx876_0
                      replace hx876_1 := (HB.out.cell (World.block_lt_of_cell? w _ hx876_1)).trans hx876_1
                      replace hx876_2 := (HB.out.cell (World.block_lt_of_cell? w _ hx876_2)).trans hx876_2
                      replace hx876_3 := (HB.out.cell (World.block_lt_of_cell? w _ hx876_3)).trans hx876_3
                      replace hx876_4 := (HB.out.cell (World.block_lt_of_cell? w _ hx876_4)).trans hx876_4
                      replace hx876_5 := (HB.out.cell (World.block_lt_of_cell? w _ hx876_5)).trans hx876_5
                      replace hx876_6 := (HB.out.cell (World.block_lt_of_cell? w _ hx876_6)).trans hx876_6
                      replace hx876_7 := (HB.out.cell (World.block_lt_of_cell? w _ hx876_7)).trans hx876_7
                      replace hx876_8 := (HB.out.cell (World.block_lt_of_cell? w _ hx876_8)).trans hx876_8
                      replace p876 := eq_true p876
                      replace q876 := eq_true q876
                      have p877 : 0 ≤ (x5_1 : Int) := of_decide_eq_true (by first | (with_reducible assumption) | assumption)
                      have q877 : x5_1 < (l0.length : Int) := of_decide_eq_true (by first | (with_reducible assumption) | assumption)
                      obtain ⟨ad877, e877, hx877_0, hx877_1, hx877_2, hx877_3, hx877_4, hx877_5, hx877_6, hx877_7, hx877_8⟩ := at_T71 HR0.out x5_1 p877 q877
                      obtain rfl : ad872 = ad877 := (by injection e877)
                      replace hx877_0 := (HB.out.cell (World.block_lt_of_cell? w _ hx877_0)).trans hx877_0
                      replace hx877_1 := (HB.out.cell (World.block_lt_of_cell? w _ hx877_1)).trans hx877_1
                      replace hx877_2 := (HB.out.cell (World.block_lt_of_cell? w _ hx877_2)).trans hx877_2
                      replace hx877_3 := (HB.out.cell (World.block_lt_of_cell? w _ hx877_3)).trans hx877_3
                      replace hx877_4 := (HB.out.cell (World.block_lt_of_cell? w _ hx877_4)).trans hx877_4
                      replace hx877_5 := (HB.out.cell (World.block_lt_of_cell? w _ hx877_5)).trans hx877_5
                      replace hx877_6 := (HB.out.cell (World.block_lt_of_cell? w _ hx877_6)).trans hx877_6
                      replace hx877_7 := (HB.out.cell (World.block_lt_of_cell? w _ hx877_7)).trans hx877_7
                      replace hx877_8 := (HB.out.cell (World.block_lt_of_cell? w _ hx877_8)).trans hx877_8
                      replace p877 := eq_true p877
                      replace q877 := eq_true q877
                      have p878 : 0 ≤ (x5_1 : Int) := of_decide_eq_true (by first | (with_reducible assumption) | assumption)
                      have q878 : x5_1 < (l0.length : Int) := of_decide_eq_true (by first | (with_reducible assumption) | assumption)
                      obtain ⟨ad878, e878, hx878_0, hx878_1, hx878_2, hx878_3, hx878_4, hx878_5, hx878_6, hx878_7, hx878_8⟩ := at_T71 HR0.out x5_1 p878 q878
                      obtain rfl : ad872 = ad878 := (by injection e878)
                      replace hx878_0 := (HB.out.cell (World.block_lt_of_cell? w _ hx878_0)).trans hx878_0
                      replace hx878_1 := (HB.out.cell (World.block_lt_of_cell? w _ hx878_1)).trans hx878_1
                      replace hx878_2 := (HB.out.cell (World.block_lt_of_cell? w _ hx878_2)).trans hx878_2
                      replace hx878_3 := (HB.out.cell (World.block_lt_of_cell? w _ hx878_3)).trans hx878_3
                      replace hx878_4 := (HB.out.cell (World.block_lt_of_cell? w _ hx878_4)).trans hx878_4
                      replace hx878_5 := (HB.out.cell (World.block_lt_of_cell? w _ hx878_5)).trans hx878_5
                      replace hx878_6 := (HB.out.cell (World.block_lt_of_cell? w _ hx878_6)).trans hx878_6
                      replace hx878_7 := (HB.out.cell (World.block_lt_of_cell? w _ hx878_7)).trans hx878_7
                      replace hx878_8 := (HB.out.cell (World.block_lt_of_cell? w _ hx878_8)).trans hx878_8
                      replace p878 := eq_true p878
                      replace q878 := eq_true q878
                      try go_wp2
                      go_ret
                      exact ⟨by first | rfl | (simp [errW_none, errW_some] <;> rfl) | (simp [*, errW_none, errW_some] <;> rfl), by repeat (first | (with_reducible first | exact HB.out | apply below_alloc | apply pw_below_drewN | apply below_drew1) | exact HB.out)⟩
                  · rw [if_neg c10] at H
                    have c10b0 : (((rd_T71 l0 x5_1).f4) == (wrap64 ((wrap64 ((wrap64 ((wrap64 (x1_1 + 1)) + 1)) + 1)) + 1))) = false := beq_eq_false_iff_ne.mpr c10
                    have c10b1 : (((rd_T71 l0 x5_1).f4) != (wrap64 ((wrap64 ((wrap64 ((wrap64 (x1_1 + 1)) + 1)) + 1)) + 1))) = true := bne_iff_ne.mpr c10
                    obtain rfl := Option.some.inj H
                    have p872 : 0 ≤ (x5_1 : Int) := of_decide_eq_true (by first | (with_reducible assumption) | assumption)
                    have q872 : x5_1 < (l0.length : Int) := of_decide_eq_true (by first | (with_reducible assumption) | assumption)
                    obtain ⟨ad872, e872, hx872_0, hx872_1, hx872_2, hx872_3, hx872_4, hx872_5, hx872_6, hx872_7, hx872_8⟩ := at_T71 HR0.out x5_1 p872 q872
                    cases e872
                    replace hx872_0 := (HB.out.cell (World.block_lt_of_cell? w _ hx872_0)).trans hx872_0
                    replace hx872_1 := (HB.out.cell (World.block_lt_of_cell? w _ hx872_1)).trans hx872_1
                    replace hx872_2 := (HB.out.cell (World.block_lt_of_cell? w _ hx872_2)).trans hx872_2
                    replace hx872_3 := (HB.out.cell (World.block_lt_of_cell? w _ hx872_3)).trans hx872_3
                    replace hx872_4 := (HB.out.cell (World.block_lt_of_cell? w _ hx872_4)).trans hx872_4
                    replace hx872_5 := (HB.out.cell (World.block_lt_of_cell? w _ hx872_5)).trans hx872_5
                    replace hx872_6 := (HB.out.cell (World.block_lt_of_cell? w _ hx872_6)).trans hx872_6
                    replace hx872_7 := (HB.out.cell (World.block_lt_of_cell? w _ hx872_7)).trans hx872_7
                    replace hx872_8 := (HB.out.cell (World.block_lt_of_cell? w _ hx872_8)).trans hx872_8
                    replace p872 := eq_true p872
                    replace q872 := eq_true q872
                    try go_wp2
                    have n0_ := Aside0.mk (below_drew1 HB.out)
                    clear HB
                    have HB := n0_
                    clear n0_
                    have p873 : 0 ≤ (x5_1 : Int) := of_decide_eq_true (by first | (with_reducible assumption) | assumption)
                    have q873 : x5_1 < (l0.length : Int) := of_decide_eq_true (by first | (with_reducible assumption) | assumption)
                    obtain ⟨ad873, e873, hx873_0, hx873_1, hx873_2, hx873_3, hx873_4, hx873_5, hx873_6, hx873_7, hx873_8⟩ := at_T71 HR0.out x5_1 p873 q873
                    have hw873_8 := hx873_8
                    have hw873_7 := hx873_7
                    have hw873_6 := hx873_6
                    have hw873_5 := hx873_5
                    have hw873_4 := hx873_4
                    have hw873_3 := hx873_3
                    have hw873_2 := hx873_2
                    have hw873_1 := hx873_1
                    have hw873_0 := hx873_0
                    obtain rfl : ad872 = ad873 := (by injection e873)
                    replace hx873_0 := (HB.out.cell (World.block_lt_of_cell? w _ hx873_0)).trans hx873_0
                    replace hx873_1 := (HB.out.cell (World.block_lt_of_cell? w _ hx873_1)).trans hx873_1
                    replace hx873_2 := (HB.out.cell (World.block_lt_of_cell? w _ hx873_2)).trans hx873_2
                    replace hx873_3 := (HB.out.cell (World.block_lt_of_cell? w _ hx873_3)).trans hx873_3
                    replace hx873_4 := (HB.out.cell (World.block_lt_of_cell? w _ hx873_4)).trans hx873_4
                    replace hx873_5 := (HB.out.cell (World.block_lt_of_cell? w _ hx873_5)).trans hx873_5
                    replace hx873_6 := (HB.out.cell (World.block_lt_of_cell? w _ hx873_6)).trans hx873_6
                    replace hx873_7 := (HB.out.cell (World.block_lt_of_cell? w _ hx873_7)).trans hx873_7
                    replace hx873_8 := (HB.out.cell (World.block_lt_of_cell? w _ hx873_8)).trans hx873_8
                    replace p873 := eq_true p873
                    replace q873 := eq_true q873
                    refine start_ (n := 8) (S := fun w' => w'.cell? (ad872.add ((x5_1).toNat * 9)) = some (.int .i64 ((rd_T71 l0 x5_1).f0)) ∧ w'.cell? ⟨(ad872.add ((x5_1).toNat * 9)).block, (ad872.add ((x5_1).toNat * 9)).off + 1, none⟩ = some (.string ((rd_T71 l0 x5_1).f1)) ∧ w'.cell? ⟨(ad872.add ((x5_1).toNat * 9)).block, (ad872.add ((x5_1).toNat * 9)).off + 2, none⟩ = some (.int .i64 ((rd_T71 l0 x5_1).f2)) ∧ w'.cell? ⟨(ad872.add ((x5_1).toNat * 9)).block, (ad872.add ((x5_1).toNat * 9)).off + 3, none⟩ = some (.int .i64 ((rd_T71 l0 x5_1).f3)) ∧ w'.cell? ⟨(ad872.add ((x5_1).toNat * 9)).block, (ad872.add ((x5_1).toNat * 9)).off + 4, none⟩ = some (.int .i64 ((rd_T71 l0 x5_1).f4)) ∧ w'.cell? ⟨(ad872.add ((x5_1).toNat * 9)).block, (ad872.add ((x5_1).toNat * 9)).off + 5, none⟩ = some (.int .i64 ((rd_T71 l0 x5_1).f5)) ∧ w'.cell? ⟨(ad872.add ((x5_1).toNat * 9)).block, (ad872.add ((x5_1).toNat * 9)).off + 6, none⟩ = some (.int .i64 ((rd_T71 l0 x5_1).f6)) ∧ w'.cell? ⟨(ad872.add ((x5_1).toNat * 9)).block, (ad872.add ((x5_1).toNat * 9)).off + 7, none⟩ = some (.int .i64 ((rd_T71 l0 x5_1).f7)) ∧ w'.cell? ⟨(ad872.add ((x5_1).toNat * 9)).block, (ad872.add ((x5_1).toNat * 9)).off + 8, none⟩ = some (.int .i64 ((rd_T71 l0 x5_1).f8))) (ds := []) #[false, false, false, false, false, false, false, false] (by kernel_rfl) rfl rfl ⟨((HB.out.cell (World.block_lt_of_cell? w _ hw873_0)).trans hw873_0), ((HB.out.cell (World.block_lt_of_cell? w _ hw873_1)).trans hw873_1), ((HB.out.cell (World.block_lt_of_cell? w _ hw873_2)).trans hw873_2), ((HB.out.cell (World.block_lt_of_cell? w _ hw873_3)).trans hw873_3), ((HB.out.cell (World.block_lt_of_cell? w _ hw873_4)).trans hw873_4), ((HB.out.cell (World.block_lt_of_cell? w _ hw873_5)).trans hw873_5), ((HB.out.cell (World.block_lt_of_cell? w _ hw873_6)).trans hw873_6), ((HB.out.cell (World.block_lt_of_cell? w _ hw873_7)).trans hw873_7), ((HB.out.cell (World.block_lt_of_cell? w _ hw873_8)).trans hw873_8)⟩ (fun hHeld => ?_); refine with_tabW laws_heldFlowS.tab7 laws_heldFlowS.bits7 (fun HT_ HW_ => ?_)
                    generalize wr.drew = w25 at HB hx873_0 hx873_1 hx873_2 hx873_3 hx873_4 hx873_5 hx873_6 hx873_7 hx873_8 hHeld ⊢
                    refine pure_ (i := 0) (N := some 21) (v := ?_) (a' := ?_) #[true, false, false, false, false, false, false, false] rfl rfl (any_of HT_.out (by kernel_rfl)) (fun _ _ _ h => h) (Or.inl ⟨by rfl, ?_⟩) ?_ ?_
                    rotate_left
                    · intro w'
                      go_simp
                      with_reducible rfl
                    rotate_left
                    · simp only [Act.put, List.setIfInBounds_toArray, List.set_cons_zero, List.set_cons_succ, i64_w, i32_w]
                      rfl
                    refine pure_ (i := 1) (N := some 22) (v := ?_) (a' := ?_) #[true, true, false, false, false, false, false, false] rfl rfl (any_of HT_.out (by kernel_rfl)) (fun _ _ _ h => h) (Or.inl ⟨by rfl, ?_⟩) ?_ ?_
                    rotate_left
                    · intro w'
                      go_simp
                      with_reducible rfl
                    rotate_left
                    · simp only [Act.put, List.setIfInBounds_toArray, List.set_cons_zero, List.set_cons_succ, i64_w, i32_w]
                      rfl
                    refine pure_ (i := 2) (N := some 23) (v := ?_) (a' := ?_) #[true, true, true, false, false, false, false, false] rfl rfl (any_of HT_.out (by kernel_rfl)) (fun _ _ _ h => h) (Or.inl ⟨by rfl, ?_⟩) ?_ ?_
                    rotate_left
                    · intro w'
                      go_simp
                      with_reducible rfl
                    rotate_left
                    · simp only [Act.put, List.setIfInBounds_toArray, List.set_cons_zero, List.set_cons_succ, i64_w, i32_w]
                      rfl
                    refine pure_ (i := 3) (N := some 24) (v := ?_) (a' := ?_) #[true, true, true, true, false, false, false, false] rfl rfl (any_of HT_.out (by kernel_rfl)) (fun _ _ _ h => h) (Or.inl ⟨by rfl, ?_⟩) ?_ ?_
                    rotate_left
                    · intro w'
                      go_simp
                      with_reducible rfl
                    rotate_left
                    · simp only [Act.put, List.setIfInBounds_toArray, List.set_cons_zero, List.set_cons_succ, i64_w, i32_w]
                      rfl
                    refine pure_ (i := 5) (N := some 26) (v := ?_) (a' := ?_) #[true, true, true, true, false, true, false, false] rfl rfl (any_of HT_.out (by kernel_rfl)) (fun _ _ _ h => h) (Or.inl ⟨by rfl, ?_⟩) ?_ ?_
                    rotate_left
                    · intro w'
                      go_simp
                      with_reducible rfl
                    rotate_left
                    · simp only [Act.put, List.setIfInBounds_toArray, List.set_cons_zero, List.set_cons_succ, i64_w, i32_w]
                      rfl
                    refine take_ (i := 4) (N := some 25) (v := ?_) (a' := ?_) #[true, true, true, true, true, true, false, false] rfl rfl (take_ofW HT_.out HW_.out (by kernel_rfl)) (fun _ _ _ h => h) (Or.inl ⟨by rfl, ?_⟩) hHeld ?_ ?_
                    rotate_left
                    · rintro w' ⟨s0, s1, s2, s3, s4, s5, s6, s7, s8⟩
                      go_simp
                      with_reducible rfl
                    rotate_left
                    · simp only [Act.put, List.setIfInBounds_toArray, List.set_cons_zero, List.set_cons_succ, i64_w, i32_w]
                      rfl
                    refine one_ (i := 6) (N := some 27) #[true, true, true, true, true, true, true, false] rfl rfl (one_of HT_.out (by kernel_rfl)) (by decide) (fun K hK => ?_)
                    refine goes_ Try.func89 (by kernel_rfl) rfl #[.int .i64 (wrap64 (x1_1 + 1))] (by rfl) rfl rfl (by (try simp only [List.map_toArray, List.map_cons, List.map_nil]); first | done | rfl | (simp only [List.length_drop, List.length_take]; rfl)) ?_
                    with_reducible refine (laws_markText.calls k1 (wrap64 (x1_1 + 1)) t874 _ A6.out).mono ?_
                    rintro e w26 ⟨rfl, hb⟩
                    refine ⟨_, rfl, ?_⟩
                    have n0_ := Aside0.mk (below_step (by repeat (first | (with_reducible first | exact HB.out | apply below_alloc | apply pw_below_drewN | apply below_drew1) | exact HB.out)) hb)
                    clear HB
                    have HB := n0_
                    clear n0_
                    (try clear hb)
                    (try clear hb2)
                    (try clear hk)
                    (try clear hi)
                    refine hK.out _ _ ⟨((HB.out.cell (World.block_lt_of_cell? w _ hw873_0)).trans hw873_0), ((HB.out.cell (World.block_lt_of_cell? w _ hw873_1)).trans hw873_1), ((HB.out.cell (World.block_lt_of_cell? w _ hw873_2)).trans hw873_2), ((HB.out.cell (World.block_lt_of_cell? w _ hw873_3)).trans hw873_3), ((HB.out.cell (World.block_lt_of_cell? w _ hw873_4)).trans hw873_4), ((HB.out.cell (World.block_lt_of_cell? w _ hw873_5)).trans hw873_5), ((HB.out.cell (World.block_lt_of_cell? w _ hw873_6)).trans hw873_6), ((HB.out.cell (World.block_lt_of_cell? w _ hw873_7)).trans hw873_7), ((HB.out.cell (World.block_lt_of_cell? w _ hw873_8)).trans hw873_8)⟩ (fun hHeld => ?_)
                    clear hK K
                    refine norm_ (a' := ?_) ?_ ?_
                    rotate_left
                    · show Act.put _ (some 27) _ = _
                      simp only [Act.put, List.setIfInBounds_toArray, List.set_cons_zero, List.set_cons_succ, i64_w, i32_w]
                      rfl
                    refine pure_ (i := 7) (N := some 28) (v := ?_) (a' := ?_) #[true, true, true, true, true, true, true, true] rfl rfl (any_of HT_.out (by kernel_rfl)) (fun _ _ _ h => h) (Or.inl ⟨by rfl, ?_⟩) ?_ ?_
                    rotate_left
                    · intro w'
                      go_simp
                      with_reducible rfl
                    rotate_left
                    · simp only [Act.put, List.setIfInBounds_toArray, List.set_cons_zero, List.set_cons_succ, i64_w, i32_w]
                      rfl
                    refine done_ (done_of HT_.out (by kernel_rfl)) ?_
                    have p875 : 0 ≤ (x5_1 : Int) := of_decide_eq_true (by first | (with_reducible assumption) | assumption)
                    have q875 : x5_1 < (l0.length : Int) := of_decide_eq_true (by first | (with_reducible assumption) | assumption)
                    obtain ⟨ad875, e875, hx875_0, hx875_1, hx875_2, hx875_3, hx875_4, hx875_5, hx875_6, hx875_7, hx875_8⟩ := at_T71 HR0.out x5_1 p875 q875
                    obtain rfl : ad872 = ad875 := (by injection e875)
                    replace hx875_0 := (HB.out.cell (World.block_lt_of_cell? w _ hx875_0)).trans hx875_0
                    replace hx875_1 := (HB.out.cell (World.block_lt_of_cell? w _ hx875_1)).trans hx875_1
                    replace hx875_2 := (HB.out.cell (World.block_lt_of_cell? w _ hx875_2)).trans hx875_2
                    replace hx875_3 := (HB.out.cell (World.block_lt_of_cell? w _ hx875_3)).trans hx875_3
                    replace hx875_4 := (HB.out.cell (World.block_lt_of_cell? w _ hx875_4)).trans hx875_4
                    replace hx875_5 := (HB.out.cell (World.block_lt_of_cell? w _ hx875_5)).trans hx875_5
                    replace hx875_6 := (HB.out.cell (World.block_lt_of_cell? w _ hx875_6)).trans hx875_6
                    replace hx875_7 := (HB.out.cell (World.block_lt_of_cell? w _ hx875_7)).trans hx875_7
                    replace hx875_8 := (HB.out.cell (World.block_lt_of_cell? w _ hx875_8)).trans hx875_8
                    replace p875 := eq_true p875
                    replace q875 := eq_true q875
                    have p876 : 0 ≤ (x5_1 : Int) := of_decide_eq_true (by first | (with_reducible assumption) | assumption)
                    have q876 : x5_1 < (l0.length : Int) := of_decide_eq_true (by first | (with_reducible assumption) | assumption)
                    obtain ⟨ad876, e876, hx876_0, hx876_1, hx876_2, hx876_3, hx876_4, hx876_5, hx876_6, hx876_7, hx876_8⟩ := at_T71 HR0.out x5_1 p876 q876
                    obtain rfl : ad872 = ad876 := (by injection e876)
                    replace hx876_0 := (HB.out.cell (World.block_lt_of_cell? w _ hx876_0)).trans hx876_0
                    replace hx876_1 := (HB.out.cell (World.block_lt_of_cell? w _ hx876_1)).trans hx876_1
                    replace hx876_2 := (HB.out.cell (World.block_lt_of_cell? w _ hx876_2)).trans hx876_2
                    replace hx876_3 := (HB.out.cell (World.block_lt_of_cell? w _ hx876_3)).trans hx876_3
                    replace hx876_4 := (HB.out.cell (World.block_lt_of_cell? w _ hx876_4)).trans hx876_4
                    replace hx876_5 := (HB.out.cell (World.block_lt_of_cell? w _ hx876_5)).trans hx876_5
                    replace hx876_6 := (HB.out.cell (World.block_lt_of_cell? w _ hx876_6)).trans hx876_6
                    replace hx876_7 := (HB.out.cell (World.block_lt_of_cell? w _ hx876_7)).trans hx876_7
                    replace hx876_8 := (HB.out.cell (World.block_lt_of_cell? w _ hx876_8)).trans hx876_8
                    replace p876 := eq_true p876
                    replace q876 := eq_true q876
                    have p877 : 0 ≤ (x5_1 : Int) := of_decide_eq_true (by first | (with_reducible assumption) | assumption)
                    have q877 : x5_1 < (l0.length : Int) := of_decide_eq_true (by first | (with_reducible assumption) | assumption)
                    obtain ⟨ad877, e877, hx877_0, hx877_1, hx877_2, hx877_3, hx877_4, hx877_5, hx877_6, hx877_7, hx877_8⟩ := at_T71 HR0.out x5_1 p877 q877
                    obtain rfl : ad872 = ad877 := (by injection e877)
                    replace hx877_0 := (HB.out.cell (World.block_lt_of_cell? w _ hx877_0)).trans hx877_0
                    replace hx877_1 := (HB.out.cell (World.block_lt_of_cell? w _ hx877_1)).trans hx877_1
                    replace hx877_2 := (HB.out.cell (World.block_lt_of_cell? w _ hx877_2)).trans hx877_2
                    replace hx877_3 := (HB.out.cell (World.block_lt_of_cell? w _ hx877_3)).trans hx877_3
                    replace hx877_4 := (HB.out.cell (World.block_lt_of_cell? w _ hx877_4)).trans hx877_4
                    replace hx877_5 := (HB.out.cell (World.block_lt_of_cell? w _ hx877_5)).trans hx877_5
                    replace hx877_6 := (HB.out.cell (World.block_lt_of_cell? w _ hx877_6)).trans hx877_6
                    replace hx877_7 := (HB.out.cell (World.block_lt_of_cell? w _ hx877_7)).trans hx877_7
                    replace hx877_8 := (HB.out.cell (World.block_lt_of_cell? w _ hx877_8)).trans hx877_8
                    replace p877 := eq_true p877
                    replace q877 := eq_true q877
                    try go_wp2
                    go_ret
                    exact ⟨by first | rfl | (simp [errW_none, errW_some] <;> rfl) | (simp [*, errW_none, errW_some] <;> rfl), by repeat (first | (with_reducible first | exact HB.out | apply below_alloc | apply pw_below_drewN | apply below_drew1) | exact HB.out)⟩
                · rw [if_neg c9] at H
                  have c9b0 : (((rd_T71 l0 x5_1).f3) == (wrap64 ((wrap64 ((wrap64 (x1_1 + 1)) + 1)) + 1))) = false := beq_eq_false_iff_ne.mpr c9
                  have c9b1 : (((rd_T71 l0 x5_1).f3) != (wrap64 ((wrap64 ((wrap64 (x1_1 + 1)) + 1)) + 1))) = true := bne_iff_ne.mpr c9
                  obtain rfl := Option.some.inj H
                  have p872 : 0 ≤ (x5_1 : Int) := of_decide_eq_true (by first | (with_reducible assumption) | assumption)
                  have q872 : x5_1 < (l0.length : Int) := of_decide_eq_true (by first | (with_reducible assumption) | assumption)
                  obtain ⟨ad872, e872, hx872_0, hx872_1, hx872_2, hx872_3, hx872_4, hx872_5, hx872_6, hx872_7, hx872_8⟩ := at_T71 HR0.out x5_1 p872 q872
                  cases e872
                  replace hx872_0 := (HB.out.cell (World.block_lt_of_cell? w _ hx872_0)).trans hx872_0
                  replace hx872_1 := (HB.out.cell (World.block_lt_of_cell? w _ hx872_1)).trans hx872_1
                  replace hx872_2 := (HB.out.cell (World.block_lt_of_cell? w _ hx872_2)).trans hx872_2
                  replace hx872_3 := (HB.out.cell (World.block_lt_of_cell? w _ hx872_3)).trans hx872_3
                  replace hx872_4 := (HB.out.cell (World.block_lt_of_cell? w _ hx872_4)).trans hx872_4
                  replace hx872_5 := (HB.out.cell (World.block_lt_of_cell? w _ hx872_5)).trans hx872_5
                  replace hx872_6 := (HB.out.cell (World.block_lt_of_cell? w _ hx872_6)).trans hx872_6
                  replace hx872_7 := (HB.out.cell (World.block_lt_of_cell? w _ hx872_7)).trans hx872_7
                  replace hx872_8 := (HB.out.cell (World.block_lt_of_cell? w _ hx872_8)).trans hx872_8
                  replace p872 := eq_true p872
                  replace q872 := eq_true q872
                  try go_wp2
                  have n0_ := Aside0.mk (below_drew1 HB.out)
                  clear HB
                  have HB := n0_
                  clear n0_
                  have p873 : 0 ≤ (x5_1 : Int) := of_decide_eq_true (by first | (with_reducible assumption) | assumption)
                  have q873 : x5_1 < (l0.length : Int) := of_decide_eq_true (by first | (with_reducible assumption) | assumption)
                  obtain ⟨ad873, e873, hx873_0, hx873_1, hx873_2, hx873_3, hx873_4, hx873_5, hx873_6, hx873_7, hx873_8⟩ := at_T71 HR0.out x5_1 p873 q873
                  have hw873_8 := hx873_8
                  have hw873_7 := hx873_7
                  have hw873_6 := hx873_6
                  have hw873_5 := hx873_5
                  have hw873_4 := hx873_4
                  have hw873_3 := hx873_3
                  have hw873_2 := hx873_2
                  have hw873_1 := hx873_1
                  have hw873_0 := hx873_0
                  obtain rfl : ad872 = ad873 := (by injection e873)
                  replace hx873_0 := (HB.out.cell (World.block_lt_of_cell? w _ hx873_0)).trans hx873_0
                  replace hx873_1 := (HB.out.cell (World.block_lt_of_cell? w _ hx873_1)).trans hx873_1
                  replace hx873_2 := (HB.out.cell (World.block_lt_of_cell? w _ hx873_2)).trans hx873_2
                  replace hx873_3 := (HB.out.cell (World.block_lt_of_cell? w _ hx873_3)).trans hx873_3
                  replace hx873_4 := (HB.out.cell (World.block_lt_of_cell? w _ hx873_4)).trans hx873_4
                  replace hx873_5 := (HB.out.cell (World.block_lt_of_cell? w _ hx873_5)).trans hx873_5
                  replace hx873_6 := (HB.out.cell (World.block_lt_of_cell? w _ hx873_6)).trans hx873_6
                  replace hx873_7 := (HB.out.cell (World.block_lt_of_cell? w _ hx873_7)).trans hx873_7
                  replace hx873_8 := (HB.out.cell (World.block_lt_of_cell? w _ hx873_8)).trans hx873_8
                  replace p873 := eq_true p873
                  replace q873 := eq_true q873
                  refine start_ (n := 8) (S := fun w' => w'.cell? (ad872.add ((x5_1).toNat * 9)) = some (.int .i64 ((rd_T71 l0 x5_1).f0)) ∧ w'.cell? ⟨(ad872.add ((x5_1).toNat * 9)).block, (ad872.add ((x5_1).toNat * 9)).off + 1, none⟩ = some (.string ((rd_T71 l0 x5_1).f1)) ∧ w'.cell? ⟨(ad872.add ((x5_1).toNat * 9)).block, (ad872.add ((x5_1).toNat * 9)).off + 2, none⟩ = some (.int .i64 ((rd_T71 l0 x5_1).f2)) ∧ w'.cell? ⟨(ad872.add ((x5_1).toNat * 9)).block, (ad872.add ((x5_1).toNat * 9)).off + 3, none⟩ = some (.int .i64 ((rd_T71 l0 x5_1).f3)) ∧ w'.cell? ⟨(ad872.add ((x5_1).toNat * 9)).block, (ad872.add ((x5_1).toNat * 9)).off + 4, none⟩ = some (.int .i64 ((rd_T71 l0 x5_1).f4)) ∧ w'.cell? ⟨(ad872.add ((x5_1).toNat * 9)).block, (ad872.add ((x5_1).toNat * 9)).off + 5, none⟩ = some (.int .i64 ((rd_T71 l0 x5_1).f5)) ∧ w'.cell? ⟨(ad872.add ((x5_1).toNat * 9)).block, (ad872.add ((x5_1).toNat * 9)).off + 6, none⟩ = some (.int .i64 ((rd_T71 l0 x5_1).f6)) ∧ w'.cell? ⟨(ad872.add ((x5_1).toNat * 9)).block, (ad872.add ((x5_1).toNat * 9)).off + 7, none⟩ = some (.int .i64 ((rd_T71 l0 x5_1).f7)) ∧ w'.cell? ⟨(ad872.add ((x5_1).toNat * 9)).block, (ad872.add ((x5_1).toNat * 9)).off + 8, none⟩ = some (.int .i64 ((rd_T71 l0 x5_1).f8))) (ds := []) #[false, false, false, false, false, false, false, false] (by kernel_rfl) rfl rfl ⟨((HB.out.cell (World.block_lt_of_cell? w _ hw873_0)).trans hw873_0), ((HB.out.cell (World.block_lt_of_cell? w _ hw873_1)).trans hw873_1), ((HB.out.cell (World.block_lt_of_cell? w _ hw873_2)).trans hw873_2), ((HB.out.cell (World.block_lt_of_cell? w _ hw873_3)).trans hw873_3), ((HB.out.cell (World.block_lt_of_cell? w _ hw873_4)).trans hw873_4), ((HB.out.cell (World.block_lt_of_cell? w _ hw873_5)).trans hw873_5), ((HB.out.cell (World.block_lt_of_cell? w _ hw873_6)).trans hw873_6), ((HB.out.cell (World.block_lt_of_cell? w _ hw873_7)).trans hw873_7), ((HB.out.cell (World.block_lt_of_cell? w _ hw873_8)).trans hw873_8)⟩ (fun hHeld => ?_); refine with_tabW laws_heldFlowS.tab7 laws_heldFlowS.bits7 (fun HT_ HW_ => ?_)
                  generalize wr.drew = w27 at HB hx873_0 hx873_1 hx873_2 hx873_3 hx873_4 hx873_5 hx873_6 hx873_7 hx873_8 hHeld ⊢
                  refine pure_ (i := 0) (N := some 21) (v := ?_) (a' := ?_) #[true, false, false, false, false, false, false, false] rfl rfl (any_of HT_.out (by kernel_rfl)) (fun _ _ _ h => h) (Or.inl ⟨by rfl, ?_⟩) ?_ ?_
                  rotate_left
                  · intro w'
                    go_simp
                    with_reducible rfl
                  rotate_left
                  · simp only [Act.put, List.setIfInBounds_toArray, List.set_cons_zero, List.set_cons_succ, i64_w, i32_w]
                    rfl
                  refine pure_ (i := 1) (N := some 22) (v := ?_) (a' := ?_) #[true, true, false, false, false, false, false, false] rfl rfl (any_of HT_.out (by kernel_rfl)) (fun _ _ _ h => h) (Or.inl ⟨by rfl, ?_⟩) ?_ ?_
                  rotate_left
                  · intro w'
                    go_simp
                    with_reducible rfl
                  rotate_left
                  · simp only [Act.put, List.setIfInBounds_toArray, List.set_cons_zero, List.set_cons_succ, i64_w, i32_w]
                    rfl
                  refine pure_ (i := 2) (N := some 23) (v := ?_) (a' := ?_) #[true, true, true, false, false, false, false, false] rfl rfl (any_of HT_.out (by kernel_rfl)) (fun _ _ _ h => h) (Or.inl ⟨by rfl, ?_⟩) ?_ ?_
                  rotate_left
                  · intro w'
                    go_simp
                    with_reducible rfl
                  rotate_left
                  · simp only [Act.put, List.setIfInBounds_toArray, List.set_cons_zero, List.set_cons_succ, i64_w, i32_w]
                    rfl
                  refine pure_ (i := 3) (N := some 24) (v := ?_) (a' := ?_) #[true, true, true, true, false, false, false, false] rfl rfl (any_of HT_.out (by kernel_rfl)) (fun _ _ _ h => h) (Or.inl ⟨by rfl, ?_⟩) ?_ ?_
                  rotate_left
                  · intro w'
                    go_simp
                    with_reducible rfl
                  rotate_left
                  · simp only [Act.put, List.setIfInBounds_toArray, List.set_cons_zero, List.set_cons_succ, i64_w, i32_w]
                    rfl
                  refine pure_ (i := 5) (N := some 26) (v := ?_) (a' := ?_) #[true, true, true, true, false, true, false, false] rfl rfl (any_of HT_.out (by kernel_rfl)) (fun _ _ _ h => h) (Or.inl ⟨by rfl, ?_⟩) ?_ ?_
                  rotate_left
                  · intro w'
                    go_simp
                    with_reducible rfl
                  rotate_left
                  · simp only [Act.put, List.setIfInBounds_toArray, List.set_cons_zero, List.set_cons_succ, i64_w, i32_w]
                    rfl
                  refine take_ (i := 4) (N := some 25) (v := ?_) (a' := ?_) #[true, true, true, true, true, true, false, false] rfl rfl (take_ofW HT_.out HW_.out (by kernel_rfl)) (fun _ _ _ h => h) (Or.inl ⟨by rfl, ?_⟩) hHeld ?_ ?_
                  rotate_left
                  · rintro w' ⟨s0, s1, s2, s3, s4, s5, s6, s7, s8⟩
                    go_simp
                    with_reducible rfl
                  rotate_left
                  · simp only [Act.put, List.setIfInBounds_toArray, List.set_cons_zero, List.set_cons_succ, i64_w, i32_w]
                    rfl
                  refine one_ (i := 6) (N := some 27) #[true, true, true, true, true, true, true, false] rfl rfl (one_of HT_.out (by kernel_rfl)) (by decide) (fun K hK => ?_)
                  refine goes_ Try.func89 (by kernel_rfl) rfl #[.int .i64 (wrap64 (x1_1 + 1))] (by rfl) rfl rfl (by (try simp only [List.map_toArray, List.map_cons, List.map_nil]); first | done | rfl | (simp only [List.length_drop, List.length_take]; rfl)) ?_
                  with_reducible refine (laws_markText.calls k1 (wrap64 (x1_1 + 1)) t874 _ A6.out).mono ?_
                  rintro e w28 ⟨rfl, hb⟩
                  refine ⟨_, rfl, ?_⟩
                  have n0_ := Aside0.mk (below_step (by repeat (first | (with_reducible first | exact HB.out | apply below_alloc | apply pw_below_drewN | apply below_drew1) | exact HB.out)) hb)
                  clear HB
                  have HB := n0_
                  clear n0_
                  (try clear hb)
                  (try clear hb2)
                  (try clear hk)
                  (try clear hi)
                  refine hK.out _ _ ⟨((HB.out.cell (World.block_lt_of_cell? w _ hw873_0)).trans hw873_0), ((HB.out.cell (World.block_lt_of_cell? w _ hw873_1)).trans hw873_1), ((HB.out.cell (World.block_lt_of_cell? w _ hw873_2)).trans hw873_2), ((HB.out.cell (World.block_lt_of_cell? w _ hw873_3)).trans hw873_3), ((HB.out.cell (World.block_lt_of_cell? w _ hw873_4)).trans hw873_4), ((HB.out.cell (World.block_lt_of_cell? w _ hw873_5)).trans hw873_5), ((HB.out.cell (World.block_lt_of_cell? w _ hw873_6)).trans hw873_6), ((HB.out.cell (World.block_lt_of_cell? w _ hw873_7)).trans hw873_7), ((HB.out.cell (World.block_lt_of_cell? w _ hw873_8)).trans hw873_8)⟩ (fun hHeld => ?_)
                  clear hK K
                  refine norm_ (a' := ?_) ?_ ?_
                  rotate_left
                  · show Act.put _ (some 27) _ = _
                    simp only [Act.put, List.setIfInBounds_toArray, List.set_cons_zero, List.set_cons_succ, i64_w, i32_w]
                    rfl
                  refine pure_ (i := 7) (N := some 28) (v := ?_) (a' := ?_) #[true, true, true, true, true, true, true, true] rfl rfl (any_of HT_.out (by kernel_rfl)) (fun _ _ _ h => h) (Or.inl ⟨by rfl, ?_⟩) ?_ ?_
                  rotate_left
                  · intro w'
                    go_simp
                    with_reducible rfl
                  rotate_left
                  · simp only [Act.put, List.setIfInBounds_toArray, List.set_cons_zero, List.set_cons_succ, i64_w, i32_w]
                    rfl
                  refine done_ (done_of HT_.out (by kernel_rfl)) ?_
                  have p875 : 0 ≤ (x5_1 : Int) := of_decide_eq_true (by first | (with_reducible assumption) | assumption)
                  have q875 : x5_1 < (l0.length : Int) := of_decide_eq_true (by first | (with_reducible assumption) | assumption)
                  obtain ⟨ad875, e875, hx875_0, hx875_1, hx875_2, hx875_3, hx875_4, hx875_5, hx875_6, hx875_7, hx875_8⟩ := at_T71 HR0.out x5_1 p875 q875
                  obtain rfl : ad872 = ad875 := (by injection e875)
                  replace hx875_0 := (HB.out.cell (World.block_lt_of_cell? w _ hx875_0)).trans hx875_0
                  replace hx875_1 := (HB.out.cell (World.block_lt_of_cell? w _ hx875_1)).trans hx875_1
                  replace hx875_2 := (HB.out.cell (World.block_lt_of_cell? w _ hx875_2)).trans hx875_2
                  replace hx875_3 := (HB.out.cell (World.block_lt_of_cell? w _ hx875_3)).trans hx875_3
                  replace hx875_4 := (HB.out.cell (World.block_lt_of_cell? w _ hx875_4)).trans hx875_4
                  replace hx875_5 := (HB.out.cell (World.block_lt_of_cell? w _ hx875_5)).trans hx875_5
                  replace hx875_6 := (HB.out.cell (World.block_lt_of_cell? w _ hx875_6)).trans hx875_6
                  replace hx875_7 := (HB.out.cell (World.block_lt_of_cell? w _ hx875_7)).trans hx875_7
                  replace hx875_8 := (HB.out.cell (World.block_lt_of_cell? w _ hx875_8)).trans hx875_8
                  replace p875 := eq_true p875
                  replace q875 := eq_true q875
                  have p876 : 0 ≤ (x5_1 : Int) := of_decide_eq_true (by first | (with_reducible assumption) | assumption)
                  have q876 : x5_1 < (l0.length : Int) := of_decide_eq_true (by first | (with_reducible assumption) | assumption)
                  obtain ⟨ad876, e876, hx876_0, hx876_1, hx876_2, hx876_3, hx876_4, hx876_5, hx876_6, hx876_7, hx876_8⟩ := at_T71 HR0.out x5_1 p876 q876
                  obtain rfl : ad872 = ad876 := (by injection e876)
                  replace hx876_0 := (HB.out.cell (World.block_lt_of_cell? w _ hx876_0)).trans hx876_0
                  replace hx876_1 := (HB.out.cell (World.block_lt_of_cell? w _ hx876_1)).trans hx876_1
                  replace hx876_2 := (HB.out.cell (World.block_lt_of_cell? w _ hx876_2)).trans hx876_2
                  replace hx876_3 := (HB.out.cell (World.block_lt_of_cell? w _ hx876_3)).trans hx876_3
                  replace hx876_4 := (HB.out.cell (World.block_lt_of_cell? w _ hx876_4)).trans hx876_4
                  replace hx876_5 := (HB.out.cell (World.block_lt_of_cell? w _ hx876_5)).trans hx876_5
                  replace hx876_6 := (HB.out.cell (World.block_lt_of_cell? w _ hx876_6)).trans hx876_6
                  replace hx876_7 := (HB.out.cell (World.block_lt_of_cell? w _ hx876_7)).trans hx876_7
                  replace hx876_8 := (HB.out.cell (World.block_lt_of_cell? w _ hx876_8)).trans hx876_8
                  replace p876 := eq_true p876
                  replace q876 := eq_true q876
                  try go_wp2
                  go_ret
                  exact ⟨by first | rfl | (simp [errW_none, errW_some] <;> rfl) | (simp [*, errW_none, errW_some] <;> rfl), by repeat (first | (with_reducible first | exact HB.out | apply below_alloc | apply pw_below_drewN | apply below_drew1) | exact HB.out)⟩
              · rw [if_neg c8] at H
                have c8b0 : (((rd_T71 l0 x5_1).f2) == (wrap64 ((wrap64 (x1_1 + 1)) + 1))) = false := beq_eq_false_iff_ne.mpr c8
                have c8b1 : (((rd_T71 l0 x5_1).f2) != (wrap64 ((wrap64 (x1_1 + 1)) + 1))) = true := bne_iff_ne.mpr c8
                obtain rfl := Option.some.inj H
                have p872 : 0 ≤ (x5_1 : Int) := of_decide_eq_true (by first | (with_reducible assumption) | assumption)
                have q872 : x5_1 < (l0.length : Int) := of_decide_eq_true (by first | (with_reducible assumption) | assumption)
                obtain ⟨ad872, e872, hx872_0, hx872_1, hx872_2, hx872_3, hx872_4, hx872_5, hx872_6, hx872_7, hx872_8⟩ := at_T71 HR0.out x5_1 p872 q872
                cases e872
                replace hx872_0 := (HB.out.cell (World.block_lt_of_cell? w _ hx872_0)).trans hx872_0
                replace hx872_1 := (HB.out.cell (World.block_lt_of_cell? w _ hx872_1)).trans hx872_1
                replace hx872_2 := (HB.out.cell (World.block_lt_of_cell? w _ hx872_2)).trans hx872_2
                replace hx872_3 := (HB.out.cell (World.block_lt_of_cell? w _ hx872_3)).trans hx872_3
                replace hx872_4 := (HB.out.cell (World.block_lt_of_cell? w _ hx872_4)).trans hx872_4
                replace hx872_5 := (HB.out.cell (World.block_lt_of_cell? w _ hx872_5)).trans hx872_5
                replace hx872_6 := (HB.out.cell (World.block_lt_of_cell? w _ hx872_6)).trans hx872_6
                replace hx872_7 := (HB.out.cell (World.block_lt_of_cell? w _ hx872_7)).trans hx872_7
                replace hx872_8 := (HB.out.cell (World.block_lt_of_cell? w _ hx872_8)).trans hx872_8
                replace p872 := eq_true p872
                replace q872 := eq_true q872
                try go_wp2
                have n0_ := Aside0.mk (below_drew1 HB.out)
                clear HB
                have HB := n0_
                clear n0_
                have p873 : 0 ≤ (x5_1 : Int) := of_decide_eq_true (by first | (with_reducible assumption) | assumption)
                have q873 : x5_1 < (l0.length : Int) := of_decide_eq_true (by first | (with_reducible assumption) | assumption)
                obtain ⟨ad873, e873, hx873_0, hx873_1, hx873_2, hx873_3, hx873_4, hx873_5, hx873_6, hx873_7, hx873_8⟩ := at_T71 HR0.out x5_1 p873 q873
                have hw873_8 := hx873_8
                have hw873_7 := hx873_7
                have hw873_6 := hx873_6
                have hw873_5 := hx873_5
                have hw873_4 := hx873_4
                have hw873_3 := hx873_3
                have hw873_2 := hx873_2
                have hw873_1 := hx873_1
                have hw873_0 := hx873_0
                obtain rfl : ad872 = ad873 := (by injection e873)
                replace hx873_0 := (HB.out.cell (World.block_lt_of_cell? w _ hx873_0)).trans hx873_0
                replace hx873_1 := (HB.out.cell (World.block_lt_of_cell? w _ hx873_1)).trans hx873_1
                replace hx873_2 := (HB.out.cell (World.block_lt_of_cell? w _ hx873_2)).trans hx873_2
                replace hx873_3 := (HB.out.cell (World.block_lt_of_cell? w _ hx873_3)).trans hx873_3
                replace hx873_4 := (HB.out.cell (World.block_lt_of_cell? w _ hx873_4)).trans hx873_4
                replace hx873_5 := (HB.out.cell (World.block_lt_of_cell? w _ hx873_5)).trans hx873_5
                replace hx873_6 := (HB.out.cell (World.block_lt_of_cell? w _ hx873_6)).trans hx873_6
                replace hx873_7 := (HB.out.cell (World.block_lt_of_cell? w _ hx873_7)).trans hx873_7
                replace hx873_8 := (HB.out.cell (World.block_lt_of_cell? w _ hx873_8)).trans hx873_8
                replace p873 := eq_true p873
                replace q873 := eq_true q873
                refine start_ (n := 8) (S := fun w' => w'.cell? (ad872.add ((x5_1).toNat * 9)) = some (.int .i64 ((rd_T71 l0 x5_1).f0)) ∧ w'.cell? ⟨(ad872.add ((x5_1).toNat * 9)).block, (ad872.add ((x5_1).toNat * 9)).off + 1, none⟩ = some (.string ((rd_T71 l0 x5_1).f1)) ∧ w'.cell? ⟨(ad872.add ((x5_1).toNat * 9)).block, (ad872.add ((x5_1).toNat * 9)).off + 2, none⟩ = some (.int .i64 ((rd_T71 l0 x5_1).f2)) ∧ w'.cell? ⟨(ad872.add ((x5_1).toNat * 9)).block, (ad872.add ((x5_1).toNat * 9)).off + 3, none⟩ = some (.int .i64 ((rd_T71 l0 x5_1).f3)) ∧ w'.cell? ⟨(ad872.add ((x5_1).toNat * 9)).block, (ad872.add ((x5_1).toNat * 9)).off + 4, none⟩ = some (.int .i64 ((rd_T71 l0 x5_1).f4)) ∧ w'.cell? ⟨(ad872.add ((x5_1).toNat * 9)).block, (ad872.add ((x5_1).toNat * 9)).off + 5, none⟩ = some (.int .i64 ((rd_T71 l0 x5_1).f5)) ∧ w'.cell? ⟨(ad872.add ((x5_1).toNat * 9)).block, (ad872.add ((x5_1).toNat * 9)).off + 6, none⟩ = some (.int .i64 ((rd_T71 l0 x5_1).f6)) ∧ w'.cell? ⟨(ad872.add ((x5_1).toNat * 9)).block, (ad872.add ((x5_1).toNat * 9)).off + 7, none⟩ = some (.int .i64 ((rd_T71 l0 x5_1).f7)) ∧ w'.cell? ⟨(ad872.add ((x5_1).toNat * 9)).block, (ad872.add ((x5_1).toNat * 9)).off + 8, none⟩ = some (.int .i64 ((rd_T71 l0 x5_1).f8))) (ds := []) #[false, false, false, false, false, false, false, false] (by kernel_rfl) rfl rfl ⟨((HB.out.cell (World.block_lt_of_cell? w _ hw873_0)).trans hw873_0), ((HB.out.cell (World.block_lt_of_cell? w _ hw873_1)).trans hw873_1), ((HB.out.cell (World.block_lt_of_cell? w _ hw873_2)).trans hw873_2), ((HB.out.cell (World.block_lt_of_cell? w _ hw873_3)).trans hw873_3), ((HB.out.cell (World.block_lt_of_cell? w _ hw873_4)).trans hw873_4), ((HB.out.cell (World.block_lt_of_cell? w _ hw873_5)).trans hw873_5), ((HB.out.cell (World.block_lt_of_cell? w _ hw873_6)).trans hw873_6), ((HB.out.cell (World.block_lt_of_cell? w _ hw873_7)).trans hw873_7), ((HB.out.cell (World.block_lt_of_cell? w _ hw873_8)).trans hw873_8)⟩ (fun hHeld => ?_); refine with_tabW laws_heldFlowS.tab7 laws_heldFlowS.bits7 (fun HT_ HW_ => ?_)
                generalize wr.drew = w29 at HB hx873_0 hx873_1 hx873_2 hx873_3 hx873_4 hx873_5 hx873_6 hx873_7 hx873_8 hHeld ⊢
                refine pure_ (i := 0) (N := some 21) (v := ?_) (a' := ?_) #[true, false, false, false, false, false, false, false] rfl rfl (any_of HT_.out (by kernel_rfl)) (fun _ _ _ h => h) (Or.inl ⟨by rfl, ?_⟩) ?_ ?_
                rotate_left
                · intro w'
                  go_simp
                  with_reducible rfl
                rotate_left
                · simp only [Act.put, List.setIfInBounds_toArray, List.set_cons_zero, List.set_cons_succ, i64_w, i32_w]
                  rfl
                refine pure_ (i := 1) (N := some 22) (v := ?_) (a' := ?_) #[true, true, false, false, false, false, false, false] rfl rfl (any_of HT_.out (by kernel_rfl)) (fun _ _ _ h => h) (Or.inl ⟨by rfl, ?_⟩) ?_ ?_
                rotate_left
                · intro w'
                  go_simp
                  with_reducible rfl
                rotate_left
                · simp only [Act.put, List.setIfInBounds_toArray, List.set_cons_zero, List.set_cons_succ, i64_w, i32_w]
                  rfl
                refine pure_ (i := 2) (N := some 23) (v := ?_) (a' := ?_) #[true, true, true, false, false, false, false, false] rfl rfl (any_of HT_.out (by kernel_rfl)) (fun _ _ _ h => h) (Or.inl ⟨by rfl, ?_⟩) ?_ ?_
                rotate_left
                · intro w'
                  go_simp
                  with_reducible rfl
                rotate_left
                · simp only [Act.put, List.setIfInBounds_toArray, List.set_cons_zero, List.set_cons_succ, i64_w, i32_w]
                  rfl
                refine pure_ (i := 3) (N := some 24) (v := ?_) (a' := ?_) #[true, true, true, true, false, false, false, false] rfl rfl (any_of HT_.out (by kernel_rfl)) (fun _ _ _ h => h) (Or.inl ⟨by rfl, ?_⟩) ?_ ?_
                rotate_left
                · intro w'
                  go_simp
                  with_reducible rfl
                rotate_left
                · simp only [Act.put, List.setIfInBounds_toArray, List.set_cons_zero, List.set_cons_succ, i64_w, i32_w]
                  rfl
                refine pure_ (i := 5) (N := some 26) (v := ?_) (a' := ?_) #[true, true, true, true, false, true, false, false] rfl rfl (any_of HT_.out (by kernel_rfl)) (fun _ _ _ h => h) (Or.inl ⟨by rfl, ?_⟩) ?_ ?_
                rotate_left
                · intro w'
                  go_simp
                  with_reducible rfl
                rotate_left
                · simp only [Act.put, List.setIfInBounds_toArray, List.set_cons_zero, List.set_cons_succ, i64_w, i32_w]
                  rfl
                refine take_ (i := 4) (N := some 25) (v := ?_) (a' := ?_) #[true, true, true, true, true, true, false, false] rfl rfl (take_ofW HT_.out HW_.out (by kernel_rfl)) (fun _ _ _ h => h) (Or.inl ⟨by rfl, ?_⟩) hHeld ?_ ?_
                rotate_left
                · rintro w' ⟨s0, s1, s2, s3, s4, s5, s6, s7, s8⟩
                  go_simp
                  with_reducible rfl
                rotate_left
                · simp only [Act.put, List.setIfInBounds_toArray, List.set_cons_zero, List.set_cons_succ, i64_w, i32_w]
                  rfl
                refine one_ (i := 6) (N := some 27) #[true, true, true, true, true, true, true, false] rfl rfl (one_of HT_.out (by kernel_rfl)) (by decide) (fun K hK => ?_)
                refine goes_ Try.func89 (by kernel_rfl) rfl #[.int .i64 (wrap64 (x1_1 + 1))] (by rfl) rfl rfl (by (try simp only [List.map_toArray, List.map_cons, List.map_nil]); first | done | rfl | (simp only [List.length_drop, List.length_take]; rfl)) ?_
                with_reducible refine (laws_markText.calls k1 (wrap64 (x1_1 + 1)) t874 _ A6.out).mono ?_
                rintro e w30 ⟨rfl, hb⟩
                refine ⟨_, rfl, ?_⟩
                have n0_ := Aside0.mk (below_step (by repeat (first | (with_reducible first | exact HB.out | apply below_alloc | apply pw_below_drewN | apply below_drew1) | exact HB.out)) hb)
                clear HB
                have HB := n0_
                clear n0_
                (try clear hb)
                (try clear hb2)
                (try clear hk)
                (try clear hi)
                refine hK.out _ _ ⟨((HB.out.cell (World.block_lt_of_cell? w _ hw873_0)).trans hw873_0), ((HB.out.cell (World.block_lt_of_cell? w _ hw873_1)).trans hw873_1), ((HB.out.cell (World.block_lt_of_cell? w _ hw873_2)).trans hw873_2), ((HB.out.cell (World.block_lt_of_cell? w _ hw873_3)).trans hw873_3), ((HB.out.cell (World.block_lt_of_cell? w _ hw873_4)).trans hw873_4), ((HB.out.cell (World.block_lt_of_cell? w _ hw873_5)).trans hw873_5), ((HB.out.cell (World.block_lt_of_cell? w _ hw873_6)).trans hw873_6), ((HB.out.cell (World.block_lt_of_cell? w _ hw873_7)).trans hw873_7), ((HB.out.cell (World.block_lt_of_cell? w _ hw873_8)).trans hw873_8)⟩ (fun hHeld => ?_)
                clear hK K
                refine norm_ (a' := ?_) ?_ ?_
                rotate_left
                · show Act.put _ (some 27) _ = _
                  simp only [Act.put, List.setIfInBounds_toArray, List.set_cons_zero, List.set_cons_succ, i64_w, i32_w]
                  rfl
                refine pure_ (i := 7) (N := some 28) (v := ?_) (a' := ?_) #[true, true, true, true, true, true, true, true] rfl rfl (any_of HT_.out (by kernel_rfl)) (fun _ _ _ h => h) (Or.inl ⟨by rfl, ?_⟩) ?_ ?_
                rotate_left
                · intro w'
                  go_simp
                  with_reducible rfl
                rotate_left
                · simp only [Act.put, List.setIfInBounds_toArray, List.set_cons_zero, List.set_cons_succ, i64_w, i32_w]
                  rfl
                refine done_ (done_of HT_.out (by kernel_rfl)) ?_
                have p875 : 0 ≤ (x5_1 : Int) := of_decide_eq_true (by first | (with_reducible assumption) | assumption)
                have q875 : x5_1 < (l0.length : Int) := of_decide_eq_true (by first | (with_reducible assumption) | assumption)
                obtain ⟨ad875, e875, hx875_0, hx875_1, hx875_2, hx875_3, hx875_4, hx875_5, hx875_6, hx875_7, hx875_8⟩ := at_T71 HR0.out x5_1 p875 q875
                obtain rfl : ad872 = ad875 := (by injection e875)
                replace hx875_0 := (HB.out.cell (World.block_lt_of_cell? w _ hx875_0)).trans hx875_0
                replace hx875_1 := (HB.out.cell (World.block_lt_of_cell? w _ hx875_1)).trans hx875_1
                replace hx875_2 := (HB.out.cell (World.block_lt_of_cell? w _ hx875_2)).trans hx875_2
                replace hx875_3 := (HB.out.cell (World.block_lt_of_cell? w _ hx875_3)).trans hx875_3
                replace hx875_4 := (HB.out.cell (World.block_lt_of_cell? w _ hx875_4)).trans hx875_4
                replace hx875_5 := (HB.out.cell (World.block_lt_of_cell? w _ hx875_5)).trans hx875_5
                replace hx875_6 := (HB.out.cell (World.block_lt_of_cell? w _ hx875_6)).trans hx875_6
                replace hx875_7 := (HB.out.cell (World.block_lt_of_cell? w _ hx875_7)).trans hx875_7
                replace hx875_8 := (HB.out.cell (World.block_lt_of_cell? w _ hx875_8)).trans hx875_8
                replace p875 := eq_true p875
                replace q875 := eq_true q875
                try go_wp2
                go_ret
                exact ⟨by first | rfl | (simp [errW_none, errW_some] <;> rfl) | (simp [*, errW_none, errW_some] <;> rfl), by repeat (first | (with_reducible first | exact HB.out | apply below_alloc | apply pw_below_drewN | apply below_drew1) | exact HB.out)⟩
            · rw [if_neg c7] at H
              have c7b0 : (((rd_T71 l0 x5_1).f1).toList == t874.toList) = false := beq_eq_false_iff_ne.mpr c7
              have c7b1 : (((rd_T71 l0 x5_1).f1).toList != t874.toList) = true := bne_iff_ne.mpr c7
              obtain rfl := Option.some.inj H
              have p872 : 0 ≤ (x5_1 : Int) := of_decide_eq_true (by first | (with_reducible assumption) | assumption)
              have q872 : x5_1 < (l0.length : Int) := of_decide_eq_true (by first | (with_reducible assumption) | assumption)
              obtain ⟨ad872, e872, hx872_0, hx872_1, hx872_2, hx872_3, hx872_4, hx872_5, hx872_6, hx872_7, hx872_8⟩ := at_T71 HR0.out x5_1 p872 q872
              cases e872
              replace hx872_0 := (HB.out.cell (World.block_lt_of_cell? w _ hx872_0)).trans hx872_0
              replace hx872_1 := (HB.out.cell (World.block_lt_of_cell? w _ hx872_1)).trans hx872_1
              replace hx872_2 := (HB.out.cell (World.block_lt_of_cell? w _ hx872_2)).trans hx872_2
              replace hx872_3 := (HB.out.cell (World.block_lt_of_cell? w _ hx872_3)).trans hx872_3
              replace hx872_4 := (HB.out.cell (World.block_lt_of_cell? w _ hx872_4)).trans hx872_4
              replace hx872_5 := (HB.out.cell (World.block_lt_of_cell? w _ hx872_5)).trans hx872_5
              replace hx872_6 := (HB.out.cell (World.block_lt_of_cell? w _ hx872_6)).trans hx872_6
              replace hx872_7 := (HB.out.cell (World.block_lt_of_cell? w _ hx872_7)).trans hx872_7
              replace hx872_8 := (HB.out.cell (World.block_lt_of_cell? w _ hx872_8)).trans hx872_8
              replace p872 := eq_true p872
              replace q872 := eq_true q872
              try go_wp2
              have n0_ := Aside0.mk (below_drew1 HB.out)
              clear HB
              have HB := n0_
              clear n0_
              have p873 : 0 ≤ (x5_1 : Int) := of_decide_eq_true (by first | (with_reducible assumption) | assumption)
              have q873 : x5_1 < (l0.length : Int) := of_decide_eq_true (by first | (with_reducible assumption) | assumption)
              obtain ⟨ad873, e873, hx873_0, hx873_1, hx873_2, hx873_3, hx873_4, hx873_5, hx873_6, hx873_7, hx873_8⟩ := at_T71 HR0.out x5_1 p873 q873
              have hw873_8 := hx873_8
              have hw873_7 := hx873_7
              have hw873_6 := hx873_6
              have hw873_5 := hx873_5
              have hw873_4 := hx873_4
              have hw873_3 := hx873_3
              have hw873_2 := hx873_2
              have hw873_1 := hx873_1
              have hw873_0 := hx873_0
              obtain rfl : ad872 = ad873 := (by injection e873)
              replace hx873_0 := (HB.out.cell (World.block_lt_of_cell? w _ hx873_0)).trans hx873_0
              replace hx873_1 := (HB.out.cell (World.block_lt_of_cell? w _ hx873_1)).trans hx873_1
              replace hx873_2 := (HB.out.cell (World.block_lt_of_cell? w _ hx873_2)).trans hx873_2
              replace hx873_3 := (HB.out.cell (World.block_lt_of_cell? w _ hx873_3)).trans hx873_3
              replace hx873_4 := (HB.out.cell (World.block_lt_of_cell? w _ hx873_4)).trans hx873_4
              replace hx873_5 := (HB.out.cell (World.block_lt_of_cell? w _ hx873_5)).trans hx873_5
              replace hx873_6 := (HB.out.cell (World.block_lt_of_cell? w _ hx873_6)).trans hx873_6
              replace hx873_7 := (HB.out.cell (World.block_lt_of_cell? w _ hx873_7)).trans hx873_7
              replace hx873_8 := (HB.out.cell (World.block_lt_of_cell? w _ hx873_8)).trans hx873_8
              replace p873 := eq_true p873
              replace q873 := eq_true q873
              refine start_ (n := 8) (S := fun w' => w'.cell? (ad872.add ((x5_1).toNat * 9)) = some (.int .i64 ((rd_T71 l0 x5_1).f0)) ∧ w'.cell? ⟨(ad872.add ((x5_1).toNat * 9)).block, (ad872.add ((x5_1).toNat * 9)).off + 1, none⟩ = some (.string ((rd_T71 l0 x5_1).f1)) ∧ w'.cell? ⟨(ad872.add ((x5_1).toNat * 9)).block, (ad872.add ((x5_1).toNat * 9)).off + 2, none⟩ = some (.int .i64 ((rd_T71 l0 x5_1).f2)) ∧ w'.cell? ⟨(ad872.add ((x5_1).toNat * 9)).block, (ad872.add ((x5_1).toNat * 9)).off + 3, none⟩ = some (.int .i64 ((rd_T71 l0 x5_1).f3)) ∧ w'.cell? ⟨(ad872.add ((x5_1).toNat * 9)).block, (ad872.add ((x5_1).toNat * 9)).off + 4, none⟩ = some (.int .i64 ((rd_T71 l0 x5_1).f4)) ∧ w'.cell? ⟨(ad872.add ((x5_1).toNat * 9)).block, (ad872.add ((x5_1).toNat * 9)).off + 5, none⟩ = some (.int .i64 ((rd_T71 l0 x5_1).f5)) ∧ w'.cell? ⟨(ad872.add ((x5_1).toNat * 9)).block, (ad872.add ((x5_1).toNat * 9)).off + 6, none⟩ = some (.int .i64 ((rd_T71 l0 x5_1).f6)) ∧ w'.cell? ⟨(ad872.add ((x5_1).toNat * 9)).block, (ad872.add ((x5_1).toNat * 9)).off + 7, none⟩ = some (.int .i64 ((rd_T71 l0 x5_1).f7)) ∧ w'.cell? ⟨(ad872.add ((x5_1).toNat * 9)).block, (ad872.add ((x5_1).toNat * 9)).off + 8, none⟩ = some (.int .i64 ((rd_T71 l0 x5_1).f8))) (ds := []) #[false, false, false, false, false, false, false, false] (by kernel_rfl) rfl rfl ⟨((HB.out.cell (World.block_lt_of_cell? w _ hw873_0)).trans hw873_0), ((HB.out.cell (World.block_lt_of_cell? w _ hw873_1)).trans hw873_1), ((HB.out.cell (World.block_lt_of_cell? w _ hw873_2)).trans hw873_2), ((HB.out.cell (World.block_lt_of_cell? w _ hw873_3)).trans hw873_3), ((HB.out.cell (World.block_lt_of_cell? w _ hw873_4)).trans hw873_4), ((HB.out.cell (World.block_lt_of_cell? w _ hw873_5)).trans hw873_5), ((HB.out.cell (World.block_lt_of_cell? w _ hw873_6)).trans hw873_6), ((HB.out.cell (World.block_lt_of_cell? w _ hw873_7)).trans hw873_7), ((HB.out.cell (World.block_lt_of_cell? w _ hw873_8)).trans hw873_8)⟩ (fun hHeld => ?_); refine with_tabW laws_heldFlowS.tab7 laws_heldFlowS.bits7 (fun HT_ HW_ => ?_)
              generalize wr.drew = w31 at HB hx873_0 hx873_1 hx873_2 hx873_3 hx873_4 hx873_5 hx873_6 hx873_7 hx873_8 hHeld ⊢
              refine pure_ (i := 0) (N := some 21) (v := ?_) (a' := ?_) #[true, false, false, false, false, false, false, false] rfl rfl (any_of HT_.out (by kernel_rfl)) (fun _ _ _ h => h) (Or.inl ⟨by rfl, ?_⟩) ?_ ?_
              rotate_left
              · intro w'
                go_simp
                with_reducible rfl
              rotate_left
              · simp only [Act.put, List.setIfInBounds_toArray, List.set_cons_zero, List.set_cons_succ, i64_w, i32_w]
                rfl
              refine pure_ (i := 1) (N := some 22) (v := ?_) (a' := ?_) #[true, true, false, false, false, false, false, false] rfl rfl (any_of HT_.out (by kernel_rfl)) (fun _ _ _ h => h) (Or.inl ⟨by rfl, ?_⟩) ?_ ?_
              rotate_left
              · intro w'
                go_simp
                with_reducible rfl
              rotate_left
              · simp only [Act.put, List.setIfInBounds_toArray, List.set_cons_zero, List.set_cons_succ, i64_w, i32_w]
                rfl
              refine pure_ (i := 2) (N := some 23) (v := ?_) (a' := ?_) #[true, true, true, false, false, false, false, false] rfl rfl (any_of HT_.out (by kernel_rfl)) (fun _ _ _ h => h) (Or.inl ⟨by rfl, ?_⟩) ?_ ?_
              rotate_left
              · intro w'
                go_simp
                with_reducible rfl
              rotate_left
              · simp only [Act.put, List.setIfInBounds_toArray, List.set_cons_zero, List.set_cons_succ, i64_w, i32_w]
                rfl
              refine pure_ (i := 3) (N := some 24) (v := ?_) (a' := ?_) #[true, true, true, true, false, false, false, false] rfl rfl (any_of HT_.out (by kernel_rfl)) (fun _ _ _ h => h) (Or.inl ⟨by rfl, ?_⟩) ?_ ?_
              rotate_left
              · intro w'
                go_simp
                with_reducible rfl
              rotate_left
              · simp only [Act.put, List.setIfInBounds_toArray, List.set_cons_zero, List.set_cons_succ, i64_w, i32_w]
                rfl
              refine pure_ (i := 5) (N := some 26) (v := ?_) (a' := ?_) #[true, true, true, true, false, true, false, false] rfl rfl (any_of HT_.out (by kernel_rfl)) (fun _ _ _ h => h) (Or.inl ⟨by rfl, ?_⟩) ?_ ?_
              rotate_left
              · intro w'
                go_simp
                with_reducible rfl
              rotate_left
              · simp only [Act.put, List.setIfInBounds_toArray, List.set_cons_zero, List.set_cons_succ, i64_w, i32_w]
                rfl
              refine take_ (i := 4) (N := some 25) (v := ?_) (a' := ?_) #[true, true, true, true, true, true, false, false] rfl rfl (take_ofW HT_.out HW_.out (by kernel_rfl)) (fun _ _ _ h => h) (Or.inl ⟨by rfl, ?_⟩) hHeld ?_ ?_
              rotate_left
              · rintro w' ⟨s0, s1, s2, s3, s4, s5, s6, s7, s8⟩
                go_simp
                with_reducible rfl
              rotate_left
              · simp only [Act.put, List.setIfInBounds_toArray, List.set_cons_zero, List.set_cons_succ, i64_w, i32_w]
                rfl
              refine one_ (i := 6) (N := some 27) #[true, true, true, true, true, true, true, false] rfl rfl (one_of HT_.out (by kernel_rfl)) (by decide) (fun K hK => ?_)
              refine goes_ Try.func89 (by kernel_rfl) rfl #[.int .i64 (wrap64 (x1_1 + 1))] (by rfl) rfl rfl (by (try simp only [List.map_toArray, List.map_cons, List.map_nil]); first | done | rfl | (simp only [List.length_drop, List.length_take]; rfl)) ?_
              with_reducible refine (laws_markText.calls k1 (wrap64 (x1_1 + 1)) t874 _ A6.out).mono ?_
              rintro e w32 ⟨rfl, hb⟩
              refine ⟨_, rfl, ?_⟩
              have n0_ := Aside0.mk (below_step (by repeat (first | (with_reducible first | exact HB.out | apply below_alloc | apply pw_below_drewN | apply below_drew1) | exact HB.out)) hb)
              clear HB
              have HB := n0_
              clear n0_
              (try clear hb)
              (try clear hb2)
              (try clear hk)
              (try clear hi)
              refine hK.out _ _ ⟨((HB.out.cell (World.block_lt_of_cell? w _ hw873_0)).trans hw873_0), ((HB.out.cell (World.block_lt_of_cell? w _ hw873_1)).trans hw873_1), ((HB.out.cell (World.block_lt_of_cell? w _ hw873_2)).trans hw873_2), ((HB.out.cell (World.block_lt_of_cell? w _ hw873_3)).trans hw873_3), ((HB.out.cell (World.block_lt_of_cell? w _ hw873_4)).trans hw873_4), ((HB.out.cell (World.block_lt_of_cell? w _ hw873_5)).trans hw873_5), ((HB.out.cell (World.block_lt_of_cell? w _ hw873_6)).trans hw873_6), ((HB.out.cell (World.block_lt_of_cell? w _ hw873_7)).trans hw873_7), ((HB.out.cell (World.block_lt_of_cell? w _ hw873_8)).trans hw873_8)⟩ (fun hHeld => ?_)
              clear hK K
              refine norm_ (a' := ?_) ?_ ?_
              rotate_left
              · show Act.put _ (some 27) _ = _
                simp only [Act.put, List.setIfInBounds_toArray, List.set_cons_zero, List.set_cons_succ, i64_w, i32_w]
                rfl
              refine pure_ (i := 7) (N := some 28) (v := ?_) (a' := ?_) #[true, true, true, true, true, true, true, true] rfl rfl (any_of HT_.out (by kernel_rfl)) (fun _ _ _ h => h) (Or.inl ⟨by rfl, ?_⟩) ?_ ?_
              rotate_left
              · intro w'
                go_simp
                with_reducible rfl
              rotate_left
              · simp only [Act.put, List.setIfInBounds_toArray, List.set_cons_zero, List.set_cons_succ, i64_w, i32_w]
                rfl
              refine done_ (done_of HT_.out (by kernel_rfl)) ?_
              try go_wp2
              go_ret
              exact ⟨by first | rfl | (simp [errW_none, errW_some] <;> rfl) | (simp [*, errW_none, errW_some] <;> rfl), by repeat (first | (with_reducible first | exact HB.out | apply below_alloc | apply pw_below_drewN | apply below_drew1) | exact HB.out)⟩
          · rw [if_neg c5] at H
            have c5b0 : (((rd_T71 l0 x5_1).f0) == x1_1) = false := beq_eq_false_iff_ne.mpr c5
            have c5b1 : (((rd_T71 l0 x5_1).f0) != x1_1) = true := bne_iff_ne.mpr c5
            obtain rfl := Option.some.inj H
            have p872 : 0 ≤ (x5_1 : Int) := of_decide_eq_true (by first | (with_reducible assumption) | assumption)
            have q872 : x5_1 < (l0.length : Int) := of_decide_eq_true (by first | (with_reducible assumption) | assumption)
            obtain ⟨ad872, e872, hx872_0, hx872_1, hx872_2, hx872_3, hx872_4, hx872_5, hx872_6, hx872_7, hx872_8⟩ := at_T71 HR0.out x5_1 p872 q872
            cases e872
            replace hx872_0 := (HB.out.cell (World.block_lt_of_cell? w _ hx872_0)).trans hx872_0
            replace hx872_1 := (HB.out.cell (World.block_lt_of_cell? w _ hx872_1)).trans hx872_1
            replace hx872_2 := (HB.out.cell (World.block_lt_of_cell? w _ hx872_2)).trans hx872_2
            replace hx872_3 := (HB.out.cell (World.block_lt_of_cell? w _ hx872_3)).trans hx872_3
            replace hx872_4 := (HB.out.cell (World.block_lt_of_cell? w _ hx872_4)).trans hx872_4
            replace hx872_5 := (HB.out.cell (World.block_lt_of_cell? w _ hx872_5)).trans hx872_5
            replace hx872_6 := (HB.out.cell (World.block_lt_of_cell? w _ hx872_6)).trans hx872_6
            replace hx872_7 := (HB.out.cell (World.block_lt_of_cell? w _ hx872_7)).trans hx872_7
            replace hx872_8 := (HB.out.cell (World.block_lt_of_cell? w _ hx872_8)).trans hx872_8
            replace p872 := eq_true p872
            replace q872 := eq_true q872
            go_wp2
            go_ret
            exact ⟨by first | rfl | (simp [errW_none, errW_some] <;> rfl) | (simp [*, errW_none, errW_some] <;> rfl), by repeat (first | (with_reducible first | exact HB.out | apply below_alloc | apply pw_below_drewN | apply below_drew1) | exact HB.out)⟩
        · rw [if_neg c4] at H
          exact absurd H (by simp)
      · rw [if_neg c3] at H
        have c3b0 : decide (x5_1 < (l0.length : Int)) = false := decide_eq_false c3
        clear c3
        obtain rfl := Option.some.inj H
        go_wp2
        go_ret
        exact ⟨by first | rfl | (simp [errW_none, errW_some] <;> rfl) | (simp [*, errW_none, errW_some] <;> rfl), by repeat (first | (with_reducible first | exact HB.out | apply below_alloc | apply pw_below_drewN | apply below_drew1) | exact HB.out)⟩
end
section
/-! ### spec_l01In: function 64 -/
def spec_l01In.f (a0 : Int) (a1 : Int) (a2 : Int) : Option (Bool) := if a1 ≤ a0 then (some (decide (a0 ≤ a2))) else (some false)
set_option maxHeartbeats 8000000 in
set_option maxRecDepth 100000 in
theorem spec_l01In.calls (a0 : Int) (a1 : Int) (a2 : Int) (r : Bool) (w : World) (h : spec_l01In.f a0 a1 a2 = some r) :
    Calls Try.prog 64 #[.int .i64 a0, .int .i64 a1, .int .i64 a2] w fun e w' => e = .returned (.bool r) ∧ Drawn0 w w' := by
  have H : (if a1 ≤ a0 then (some (decide (a0 ≤ a2))) else (some false)) = some r := h
  clear h
  by_cases c4 : a1 ≤ a0
  · rw [if_pos c4] at H
    have c4b0 : decide (a1 ≤ a0) = true := decide_eq_true c4
    clear c4
    obtain rfl := Option.some.inj H
    go_enter Try.func64, Try.ntmps64
    go_wp2
    go_ret
    exact ⟨by first | rfl | (simp; done) | (simp [*]; done) | (simp [ne_nil_b]; done) | (simp [ne_nil_b, *]; done), by repeat (first | exact Drawn0.refl _ | apply Drawn0.step)⟩
  · rw [if_neg c4] at H
    have c4b0 : decide (a1 ≤ a0) = false := decide_eq_false c4
    clear c4
    obtain rfl := Option.some.inj H
    go_enter Try.func64, Try.ntmps64
    go_wp2
    go_ret
    exact ⟨by first | rfl | (simp; done) | (simp [*]; done) | (simp [ne_nil_b]; done) | (simp [ne_nil_b, *]; done), by repeat (first | exact Drawn0.refl _ | apply Drawn0.step)⟩
end
section
/-! ### spec_l02Port: function 105 -/
def spec_l02Port.f (a0 : Int) : Option (Bool) := (spec_l01In.f a0 0 65535).bind fun t146 => (some t146)
set_option maxHeartbeats 8000000 in
set_option maxRecDepth 100000 in
theorem spec_l02Port.calls (a0 : Int) (r : Bool) (w : World) (h : spec_l02Port.f a0 = some r) :
    Calls Try.prog 105 #[.int .i64 a0] w fun e w' => e = .returned (.bool r) ∧ Drawn0 w w' := by
  have H : ((spec_l01In.f a0 0 65535).bind fun t146 => (some t146)) = some r := h
  clear h
  replace H := Option.bind_eq_some_iff.mp H
  obtain ⟨t146, A20, H⟩ := H
  replace H : (some t146) = some r := H
  have A2 := Aside0.mk A20
  clear A20
  obtain rfl := Option.some.inj H
  go_enter Try.func105, Try.ntmps105
  go_wp2_with (first | ((with_reducible refine gate_callee (f := 64) rfl ?_); refine goesL_ (some 4) rfl rfl Try.func64 (by kernel_rfl) rfl #[.int .i64 a0, .int .i64 0, .int .i64 65535] rfl (by (try simp only [List.map_toArray, List.map_cons, List.map_nil]); first | done | rfl | (simp only [List.length_drop, List.length_take]; rfl)) ?_; (with_reducible refine (spec_l01In.calls a0 0 65535 t146 _ A2.out).mono ?_); rintro e w' ⟨rfl, ⟨nd, rfl⟩⟩; refine ⟨_, rfl, ?_⟩))
  go_ret
  exact ⟨by first | rfl | (simp; done) | (simp [*]; done) | (simp [ne_nil_b]; done) | (simp [ne_nil_b, *]; done), by repeat (first | exact Drawn0.refl _ | apply Drawn0.step)⟩
end
section
/-! ### spec_l01Ip: function 59 -/
def spec_l01Ip.f (a0 : Int) : Option (Bool) := (spec_l01In.f a0 0 4294967295).bind fun t101 => (some t101)
set_option maxHeartbeats 8000000 in
set_option maxRecDepth 100000 in
theorem spec_l01Ip.calls (a0 : Int) (r : Bool) (w : World) (h : spec_l01Ip.f a0 = some r) :
    Calls Try.prog 59 #[.int .i64 a0] w fun e w' => e = .returned (.bool r) ∧ Drawn0 w w' := by
  have H : ((spec_l01In.f a0 0 4294967295).bind fun t101 => (some t101)) = some r := h
  clear h
  replace H := Option.bind_eq_some_iff.mp H
  obtain ⟨t101, A20, H⟩ := H
  replace H : (some t101) = some r := H
  have A2 := Aside0.mk A20
  clear A20
  obtain rfl := Option.some.inj H
  go_enter Try.func59, Try.ntmps59
  go_wp2_with (first | ((with_reducible refine gate_callee (f := 64) rfl ?_); refine goesL_ (some 4) rfl rfl Try.func64 (by kernel_rfl) rfl #[.int .i64 a0, .int .i64 0, .int .i64 4294967295] rfl (by (try simp only [List.map_toArray, List.map_cons, List.map_nil]); first | done | rfl | (simp only [List.length_drop, List.length_take]; rfl)) ?_; (with_reducible refine (spec_l01In.calls a0 0 4294967295 t101 _ A2.out).mono ?_); rintro e w' ⟨rfl, ⟨nd, rfl⟩⟩; refine ⟨_, rfl, ?_⟩))
  go_ret
  exact ⟨by first | rfl | (simp; done) | (simp [*]; done) | (simp [ne_nil_b]; done) | (simp [ne_nil_b, *]; done), by repeat (first | exact Drawn0.refl _ | apply Drawn0.step)⟩
end
section
/-! ### spec_l01Mac: function 68 -/
def spec_l01Mac.f (a0 : ByteArray) : Option (Bool) := some ((a0.size : Int) == 6)
set_option maxHeartbeats 8000000 in
set_option maxRecDepth 100000 in
theorem spec_l01Mac.calls (a0 : ByteArray) (r : Bool) (w : World) (h : spec_l01Mac.f a0 = some r) :
    Calls Try.prog 68 #[.string a0] w fun e w' => e = .returned (.bool r) ∧ Drawn0 w w' := by
  have H : (some ((a0.size : Int) == 6)) = some r := h
  clear h
  obtain rfl := Option.some.inj H
  go_enter Try.func68, Try.ntmps68
  go_wp2
  go_ret
  exact ⟨by first | rfl | (simp; done) | (simp [*]; done) | (simp [ne_nil_b]; done) | (simp [ne_nil_b, *]; done), by repeat (first | exact Drawn0.refl _ | apply Drawn0.step)⟩
end
section
/-! ### spec_l09Flow: function 75 -/
def spec_l09Flow.f (a0_0 : Int) (a0_1 : ByteArray) (a0_2 : Int) (a0_3 : Int) (a0_4 : Int) (a0_5 : Int) (a0_6 : Int) (a0_7 : Int) (a0_8 : Int) : Option (Bool) := (spec_l01In.f a0_0 0 255).bind fun t208 => (if t208 = true then ((spec_l01Mac.f a0_1).bind fun t209 => (if t209 = true then ((spec_l01Ip.f a0_2).bind fun t210 => (if t210 = true then ((spec_l01Ip.f a0_4).bind fun t211 => (if t211 = true then ((spec_l02Port.f a0_3).bind fun t212 => (if t212 = true then ((spec_l02Port.f a0_5).bind fun t213 => (if t213 = true then ((spec_l01In.f a0_6 1 3).bind fun t214 => (if t214 = true then ((spec_l01In.f a0_7 0 100100).bind fun t215 => (if t215 = true then ((spec_l01In.f a0_8 0 10000).bind fun t216 => (some t216)) else (some false))) else (some false))) else (some false))) else (some false))) else (some false))) else (some false))) else (some false))) else (some false))
set_option maxHeartbeats 8000000 in
set_option maxRecDepth 100000 in
theorem spec_l09Flow.calls (a0_0 : Int) (a0_1 : ByteArray) (a0_2 : Int) (a0_3 : Int) (a0_4 : Int) (a0_5 : Int) (a0_6 : Int) (a0_7 : Int) (a0_8 : Int) (r : Bool) (w : World) (h : spec_l09Flow.f a0_0 a0_1 a0_2 a0_3 a0_4 a0_5 a0_6 a0_7 a0_8 = some r) :
    Calls Try.prog 75 #[.agg #[.int .i64 a0_0, .string a0_1, .int .i64 a0_2, .int .i64 a0_3, .int .i64 a0_4, .int .i64 a0_5, .int .i64 a0_6, .int .i64 a0_7, .int .i64 a0_8]] w fun e w' => e = .returned (.bool r) ∧ Below w.heap.size w w' := by
  have hu71 := Try.underlying71
  have HB := Aside0.mk (Below.refl w.heap.size w)
  have H : ((spec_l01In.f a0_0 0 255).bind fun t208 => (if t208 = true then ((spec_l01Mac.f a0_1).bind fun t209 => (if t209 = true then ((spec_l01Ip.f a0_2).bind fun t210 => (if t210 = true then ((spec_l01Ip.f a0_4).bind fun t211 => (if t211 = true then ((spec_l02Port.f a0_3).bind fun t212 => (if t212 = true then ((spec_l02Port.f a0_5).bind fun t213 => (if t213 = true then ((spec_l01In.f a0_6 1 3).bind fun t214 => (if t214 = true then ((spec_l01In.f a0_7 0 100100).bind fun t215 => (if t215 = true then ((spec_l01In.f a0_8 0 10000).bind fun t216 => (some t216)) else (some false))) else (some false))) else (some false))) else (some false))) else (some false))) else (some false))) else (some false))) else (some false))) = some r := h
  clear h
  replace H := Option.bind_eq_some_iff.mp H
  obtain ⟨t208, A20, H⟩ := H
  replace H : (if t208 = true then ((spec_l01Mac.f a0_1).bind fun t209 => (if t209 = true then ((spec_l01Ip.f a0_2).bind fun t210 => (if t210 = true then ((spec_l01Ip.f a0_4).bind fun t211 => (if t211 = true then ((spec_l02Port.f a0_3).bind fun t212 => (if t212 = true then ((spec_l02Port.f a0_5).bind fun t213 => (if t213 = true then ((spec_l01In.f a0_6 1 3).bind fun t214 => (if t214 = true then ((spec_l01In.f a0_7 0 100100).bind fun t215 => (if t215 = true then ((spec_l01In.f a0_8 0 10000).bind fun t216 => (some t216)) else (some false))) else (some false))) else (some false))) else (some false))) else (some false))) else (some false))) else (some false))) else (some false)) = some r := H
  have A2 := Aside0.mk A20
  clear A20
  by_cases c3 : t208 = true
  · subst c3
    have H1 : ((spec_l01Mac.f a0_1).bind fun t209 => (if t209 = true then ((spec_l01Ip.f a0_2).bind fun t210 => (if t210 = true then ((spec_l01Ip.f a0_4).bind fun t211 => (if t211 = true then ((spec_l02Port.f a0_3).bind fun t212 => (if t212 = true then ((spec_l02Port.f a0_5).bind fun t213 => (if t213 = true then ((spec_l01In.f a0_6 1 3).bind fun t214 => (if t214 = true then ((spec_l01In.f a0_7 0 100100).bind fun t215 => (if t215 = true then ((spec_l01In.f a0_8 0 10000).bind fun t216 => (some t216)) else (some false))) else (some false))) else (some false))) else (some false))) else (some false))) else (some false))) else (some false))) = some r := by rw [if_pos rfl] at H; exact H
    clear H
    have H := H1
    clear H1
    replace H := Option.bind_eq_some_iff.mp H
    obtain ⟨t209, A40, H⟩ := H
    replace H : (if t209 = true then ((spec_l01Ip.f a0_2).bind fun t210 => (if t210 = true then ((spec_l01Ip.f a0_4).bind fun t211 => (if t211 = true then ((spec_l02Port.f a0_3).bind fun t212 => (if t212 = true then ((spec_l02Port.f a0_5).bind fun t213 => (if t213 = true then ((spec_l01In.f a0_6 1 3).bind fun t214 => (if t214 = true then ((spec_l01In.f a0_7 0 100100).bind fun t215 => (if t215 = true then ((spec_l01In.f a0_8 0 10000).bind fun t216 => (some t216)) else (some false))) else (some false))) else (some false))) else (some false))) else (some false))) else (some false))) else (some false)) = some r := H
    have A4 := Aside0.mk A40
    clear A40
    by_cases c5 : t209 = true
    · subst c5
      have H1 : ((spec_l01Ip.f a0_2).bind fun t210 => (if t210 = true then ((spec_l01Ip.f a0_4).bind fun t211 => (if t211 = true then ((spec_l02Port.f a0_3).bind fun t212 => (if t212 = true then ((spec_l02Port.f a0_5).bind fun t213 => (if t213 = true then ((spec_l01In.f a0_6 1 3).bind fun t214 => (if t214 = true then ((spec_l01In.f a0_7 0 100100).bind fun t215 => (if t215 = true then ((spec_l01In.f a0_8 0 10000).bind fun t216 => (some t216)) else (some false))) else (some false))) else (some false))) else (some false))) else (some false))) else (some false))) = some r := by rw [if_pos rfl] at H; exact H
      clear H
      have H := H1
      clear H1
      replace H := Option.bind_eq_some_iff.mp H
      obtain ⟨t210, A60, H⟩ := H
      replace H : (if t210 = true then ((spec_l01Ip.f a0_4).bind fun t211 => (if t211 = true then ((spec_l02Port.f a0_3).bind fun t212 => (if t212 = true then ((spec_l02Port.f a0_5).bind fun t213 => (if t213 = true then ((spec_l01In.f a0_6 1 3).bind fun t214 => (if t214 = true then ((spec_l01In.f a0_7 0 100100).bind fun t215 => (if t215 = true then ((spec_l01In.f a0_8 0 10000).bind fun t216 => (some t216)) else (some false))) else (some false))) else (some false))) else (some false))) else (some false))) else (some false)) = some r := H
      have A6 := Aside0.mk A60
      clear A60
      by_cases c7 : t210 = true
      · subst c7
        have H1 : ((spec_l01Ip.f a0_4).bind fun t211 => (if t211 = true then ((spec_l02Port.f a0_3).bind fun t212 => (if t212 = true then ((spec_l02Port.f a0_5).bind fun t213 => (if t213 = true then ((spec_l01In.f a0_6 1 3).bind fun t214 => (if t214 = true then ((spec_l01In.f a0_7 0 100100).bind fun t215 => (if t215 = true then ((spec_l01In.f a0_8 0 10000).bind fun t216 => (some t216)) else (some false))) else (some false))) else (some false))) else (some false))) else (some false))) = some r := by rw [if_pos rfl] at H; exact H
        clear H
        have H := H1
        clear H1
        replace H := Option.bind_eq_some_iff.mp H
        obtain ⟨t211, A80, H⟩ := H
        replace H : (if t211 = true then ((spec_l02Port.f a0_3).bind fun t212 => (if t212 = true then ((spec_l02Port.f a0_5).bind fun t213 => (if t213 = true then ((spec_l01In.f a0_6 1 3).bind fun t214 => (if t214 = true then ((spec_l01In.f a0_7 0 100100).bind fun t215 => (if t215 = true then ((spec_l01In.f a0_8 0 10000).bind fun t216 => (some t216)) else (some false))) else (some false))) else (some false))) else (some false))) else (some false)) = some r := H
        have A8 := Aside0.mk A80
        clear A80
        by_cases c9 : t211 = true
        · subst c9
          have H1 : ((spec_l02Port.f a0_3).bind fun t212 => (if t212 = true then ((spec_l02Port.f a0_5).bind fun t213 => (if t213 = true then ((spec_l01In.f a0_6 1 3).bind fun t214 => (if t214 = true then ((spec_l01In.f a0_7 0 100100).bind fun t215 => (if t215 = true then ((spec_l01In.f a0_8 0 10000).bind fun t216 => (some t216)) else (some false))) else (some false))) else (some false))) else (some false))) = some r := by rw [if_pos rfl] at H; exact H
          clear H
          have H := H1
          clear H1
          replace H := Option.bind_eq_some_iff.mp H
          obtain ⟨t212, A100, H⟩ := H
          replace H : (if t212 = true then ((spec_l02Port.f a0_5).bind fun t213 => (if t213 = true then ((spec_l01In.f a0_6 1 3).bind fun t214 => (if t214 = true then ((spec_l01In.f a0_7 0 100100).bind fun t215 => (if t215 = true then ((spec_l01In.f a0_8 0 10000).bind fun t216 => (some t216)) else (some false))) else (some false))) else (some false))) else (some false)) = some r := H
          have A10 := Aside0.mk A100
          clear A100
          by_cases c11 : t212 = true
          · subst c11
            have H1 : ((spec_l02Port.f a0_5).bind fun t213 => (if t213 = true then ((spec_l01In.f a0_6 1 3).bind fun t214 => (if t214 = true then ((spec_l01In.f a0_7 0 100100).bind fun t215 => (if t215 = true then ((spec_l01In.f a0_8 0 10000).bind fun t216 => (some t216)) else (some false))) else (some false))) else (some false))) = some r := by rw [if_pos rfl] at H; exact H
            clear H
            have H := H1
            clear H1
            replace H := Option.bind_eq_some_iff.mp H
            obtain ⟨t213, A120, H⟩ := H
            replace H : (if t213 = true then ((spec_l01In.f a0_6 1 3).bind fun t214 => (if t214 = true then ((spec_l01In.f a0_7 0 100100).bind fun t215 => (if t215 = true then ((spec_l01In.f a0_8 0 10000).bind fun t216 => (some t216)) else (some false))) else (some false))) else (some false)) = some r := H
            have A12 := Aside0.mk A120
            clear A120
            by_cases c13 : t213 = true
            · subst c13
              have H1 : ((spec_l01In.f a0_6 1 3).bind fun t214 => (if t214 = true then ((spec_l01In.f a0_7 0 100100).bind fun t215 => (if t215 = true then ((spec_l01In.f a0_8 0 10000).bind fun t216 => (some t216)) else (some false))) else (some false))) = some r := by rw [if_pos rfl] at H; exact H
              clear H
              have H := H1
              clear H1
              replace H := Option.bind_eq_some_iff.mp H
              obtain ⟨t214, A140, H⟩ := H
              replace H : (if t214 = true then ((spec_l01In.f a0_7 0 100100).bind fun t215 => (if t215 = true then ((spec_l01In.f a0_8 0 10000).bind fun t216 => (some t216)) else (some false))) else (some false)) = some r := H
              have A14 := Aside0.mk A140
              clear A140
              by_cases c15 : t214 = true
              · subst c15
                have H1 : ((spec_l01In.f a0_7 0 100100).bind fun t215 => (if t215 = true then ((spec_l01In.f a0_8 0 10000).bind fun t216 => (some t216)) else (some false))) = some r := by rw [if_pos rfl] at H; exact H
                clear H
                have H := H1
                clear H1
                replace H := Option.bind_eq_some_iff.mp H
                obtain ⟨t215, A160, H⟩ := H
                replace H : (if t215 = true then ((spec_l01In.f a0_8 0 10000).bind fun t216 => (some t216)) else (some false)) = some r := H
                have A16 := Aside0.mk A160
                clear A160
                by_cases c17 : t215 = true
                · subst c17
                  have H1 : ((spec_l01In.f a0_8 0 10000).bind fun t216 => (some t216)) = some r := by rw [if_pos rfl] at H; exact H
                  clear H
                  have H := H1
                  clear H1
                  replace H := Option.bind_eq_some_iff.mp H
                  obtain ⟨t216, A180, H⟩ := H
                  replace H : (some t216) = some r := H
                  have A18 := Aside0.mk A180
                  clear A180
                  obtain rfl := Option.some.inj H
                  go_enter Try.func75, Try.ntmps75
                  go_wp2_with (first | ((with_reducible refine gate_dst (N := 1) rfl ?_); refine box_event ?hg (N := 1) ?hd (cs := #[.int .i64 a0_0, .string a0_1, .int .i64 a0_2, .int .i64 a0_3, .int .i64 a0_4, .int .i64 a0_5, .int .i64 a0_6, .int .i64 a0_7, .int .i64 a0_8]) (t := 71) ?hr ?_; (case hd => rfl); (case hg => rfl); (case hr => first | (go_simp; done) | (go_simp; rfl)); intro gb207 hg w19 hbox hb; have n0_ := Aside0.mk (below_step (by repeat (first | (with_reducible first | exact HB.out | apply below_alloc | apply pw_below_drewN | apply below_drew1) | exact HB.out)) hb); have n1_ := Aside0.mk (hbox); have n2_ := Aside0.mk ((by rw [hg]; exact (below_size (by repeat (first | (with_reducible first | exact HB.out | apply below_alloc | apply pw_below_drewN | apply below_drew1) | exact HB.out))) : w.heap.size ≤ gb207)); have n3_ := Aside0.mk ((by rw [hg]; exact (below_size (by repeat (first | (with_reducible first | exact HB.out | apply below_alloc | apply pw_below_drewN | apply below_drew1) | exact HB.out))) : w.heap.size ≤ gb207)); clear HB; have HB := n0_; have BK207 := n1_; have GW207 := n2_; have GE207 := n3_; clear n0_ n1_ n2_ n3_; clear hb hbox hg; have hcz20_0 : w19.cell? ⟨gb207, 0, none⟩ = some (.int .i64 a0_0) := (blk_cell BK207.out 0).trans rfl; have hcz20_1 : w19.cell? ⟨gb207, 1, none⟩ = some (.string a0_1) := (blk_cell BK207.out 1).trans rfl; have hcz20_2 : w19.cell? ⟨gb207, 2, none⟩ = some (.int .i64 a0_2) := (blk_cell BK207.out 2).trans rfl; have hcz20_3 : w19.cell? ⟨gb207, 3, none⟩ = some (.int .i64 a0_3) := (blk_cell BK207.out 3).trans rfl; have hcz20_4 : w19.cell? ⟨gb207, 4, none⟩ = some (.int .i64 a0_4) := (blk_cell BK207.out 4).trans rfl; have hcz20_5 : w19.cell? ⟨gb207, 5, none⟩ = some (.int .i64 a0_5) := (blk_cell BK207.out 5).trans rfl; have hcz20_6 : w19.cell? ⟨gb207, 6, none⟩ = some (.int .i64 a0_6) := (blk_cell BK207.out 6).trans rfl; have hcz20_7 : w19.cell? ⟨gb207, 7, none⟩ = some (.int .i64 a0_7) := (blk_cell BK207.out 7).trans rfl; have hcz20_8 : w19.cell? ⟨gb207, 8, none⟩ = some (.int .i64 a0_8) := (blk_cell BK207.out 8).trans rfl; have hfz20_0 := blk_frozen BK207.out 0; have hfz20_1 := blk_frozen BK207.out 1; have hfz20_2 := blk_frozen BK207.out 2; have hfz20_3 := blk_frozen BK207.out 3; have hfz20_4 := blk_frozen BK207.out 4; have hfz20_5 := blk_frozen BK207.out 5; have hfz20_6 := blk_frozen BK207.out 6; have hfz20_7 := blk_frozen BK207.out 7; have hfz20_8 := blk_frozen BK207.out 8) | ((with_reducible refine gate_callee (f := 64) rfl ?_); refine goesL_ (some 5) rfl rfl Try.func64 (by kernel_rfl) rfl #[.int .i64 a0_0, .int .i64 0, .int .i64 255] rfl (by (try simp only [List.map_toArray, List.map_cons, List.map_nil]); first | done | rfl | (simp only [List.length_drop, List.length_take]; rfl)) ?_; (with_reducible refine (spec_l01In.calls a0_0 0 255 true _ A2.out).mono ?_); rintro e w' ⟨rfl, ⟨nd, rfl⟩⟩; refine ⟨_, rfl, ?_⟩) | (go_at_call 68; (with_reducible refine (spec_l01Mac.calls a0_1 true _ A4.out).mono ?_); rintro e w' ⟨rfl, ⟨nd, rfl⟩⟩) | (go_at_call 59; (with_reducible refine (spec_l01Ip.calls a0_2 true _ A6.out).mono ?_); rintro e w' ⟨rfl, ⟨nd, rfl⟩⟩) | (go_at_call 59; (with_reducible refine (spec_l01Ip.calls a0_4 true _ A8.out).mono ?_); rintro e w' ⟨rfl, ⟨nd, rfl⟩⟩) | (go_at_call 105; (with_reducible refine (spec_l02Port.calls a0_3 true _ A10.out).mono ?_); rintro e w' ⟨rfl, ⟨nd, rfl⟩⟩) | (go_at_call 105; (with_reducible refine (spec_l02Port.calls a0_5 true _ A12.out).mono ?_); rintro e w' ⟨rfl, ⟨nd, rfl⟩⟩) | (go_at_call 64; (with_reducible refine (spec_l01In.calls a0_6 1 3 true _ A14.out).mono ?_); rintro e w' ⟨rfl, ⟨nd, rfl⟩⟩) | (go_at_call 64; (with_reducible refine (spec_l01In.calls a0_7 0 100100 true _ A16.out).mono ?_); rintro e w' ⟨rfl, ⟨nd, rfl⟩⟩) | (go_at_call 64; (with_reducible refine (spec_l01In.calls a0_8 0 10000 t216 _ A18.out).mono ?_); rintro e w' ⟨rfl, ⟨nd, rfl⟩⟩))
                  go_ret
                  exact ⟨by first | rfl | (simp [errW_none, errW_some] <;> rfl) | (simp [*, errW_none, errW_some] <;> rfl), by repeat (first | (with_reducible first | exact HB.out | apply below_alloc | apply pw_below_drewN | apply below_drew1 | refine below_set ?_ GE207.out) | exact HB.out)⟩
                · replace c17 := Bool.eq_false_iff.mpr c17
                  subst c17
                  have H1 : (some false) = some r := by rw [if_neg (show ¬ (false = true) by decide)] at H; exact H
                  clear H
                  have H := H1
                  clear H1
                  obtain rfl := Option.some.inj H
                  go_enter Try.func75, Try.ntmps75
                  go_wp2_with (first | ((with_reducible refine gate_dst (N := 1) rfl ?_); refine box_event ?hg (N := 1) ?hd (cs := #[.int .i64 a0_0, .string a0_1, .int .i64 a0_2, .int .i64 a0_3, .int .i64 a0_4, .int .i64 a0_5, .int .i64 a0_6, .int .i64 a0_7, .int .i64 a0_8]) (t := 71) ?hr ?_; (case hd => rfl); (case hg => rfl); (case hr => first | (go_simp; done) | (go_simp; rfl)); intro gb207 hg w21 hbox hb; have n0_ := Aside0.mk (below_step (by repeat (first | (with_reducible first | exact HB.out | apply below_alloc | apply pw_below_drewN | apply below_drew1) | exact HB.out)) hb); have n1_ := Aside0.mk (hbox); have n2_ := Aside0.mk ((by rw [hg]; exact (below_size (by repeat (first | (with_reducible first | exact HB.out | apply below_alloc | apply pw_below_drewN | apply below_drew1) | exact HB.out))) : w.heap.size ≤ gb207)); have n3_ := Aside0.mk ((by rw [hg]; exact (below_size (by repeat (first | (with_reducible first | exact HB.out | apply below_alloc | apply pw_below_drewN | apply below_drew1) | exact HB.out))) : w.heap.size ≤ gb207)); clear HB; have HB := n0_; have BK207 := n1_; have GW207 := n2_; have GE207 := n3_; clear n0_ n1_ n2_ n3_; clear hb hbox hg; have hcz22_0 : w21.cell? ⟨gb207, 0, none⟩ = some (.int .i64 a0_0) := (blk_cell BK207.out 0).trans rfl; have hcz22_1 : w21.cell? ⟨gb207, 1, none⟩ = some (.string a0_1) := (blk_cell BK207.out 1).trans rfl; have hcz22_2 : w21.cell? ⟨gb207, 2, none⟩ = some (.int .i64 a0_2) := (blk_cell BK207.out 2).trans rfl; have hcz22_3 : w21.cell? ⟨gb207, 3, none⟩ = some (.int .i64 a0_3) := (blk_cell BK207.out 3).trans rfl; have hcz22_4 : w21.cell? ⟨gb207, 4, none⟩ = some (.int .i64 a0_4) := (blk_cell BK207.out 4).trans rfl; have hcz22_5 : w21.cell? ⟨gb207, 5, none⟩ = some (.int .i64 a0_5) := (blk_cell BK207.out 5).trans rfl; have hcz22_6 : w21.cell? ⟨gb207, 6, none⟩ = some (.int .i64 a0_6) := (blk_cell BK207.out 6).trans rfl; have hcz22_7 : w21.cell? ⟨gb207, 7, none⟩ = some (.int .i64 a0_7) := (blk_cell BK207.out 7).trans rfl; have hcz22_8 : w21.cell? ⟨gb207, 8, none⟩ = some (.int .i64 a0_8) := (blk_cell BK207.out 8).trans rfl; have hfz22_0 := blk_frozen BK207.out 0; have hfz22_1 := blk_frozen BK207.out 1; have hfz22_2 := blk_frozen BK207.out 2; have hfz22_3 := blk_frozen BK207.out 3; have hfz22_4 := blk_frozen BK207.out 4; have hfz22_5 := blk_frozen BK207.out 5; have hfz22_6 := blk_frozen BK207.out 6; have hfz22_7 := blk_frozen BK207.out 7; have hfz22_8 := blk_frozen BK207.out 8) | ((with_reducible refine gate_callee (f := 64) rfl ?_); refine goesL_ (some 5) rfl rfl Try.func64 (by kernel_rfl) rfl #[.int .i64 a0_0, .int .i64 0, .int .i64 255] rfl (by (try simp only [List.map_toArray, List.map_cons, List.map_nil]); first | done | rfl | (simp only [List.length_drop, List.length_take]; rfl)) ?_; (with_reducible refine (spec_l01In.calls a0_0 0 255 true _ A2.out).mono ?_); rintro e w' ⟨rfl, ⟨nd, rfl⟩⟩; refine ⟨_, rfl, ?_⟩) | (go_at_call 68; (with_reducible refine (spec_l01Mac.calls a0_1 true _ A4.out).mono ?_); rintro e w' ⟨rfl, ⟨nd, rfl⟩⟩) | (go_at_call 59; (with_reducible refine (spec_l01Ip.calls a0_2 true _ A6.out).mono ?_); rintro e w' ⟨rfl, ⟨nd, rfl⟩⟩) | (go_at_call 59; (with_reducible refine (spec_l01Ip.calls a0_4 true _ A8.out).mono ?_); rintro e w' ⟨rfl, ⟨nd, rfl⟩⟩) | (go_at_call 105; (with_reducible refine (spec_l02Port.calls a0_3 true _ A10.out).mono ?_); rintro e w' ⟨rfl, ⟨nd, rfl⟩⟩) | (go_at_call 105; (with_reducible refine (spec_l02Port.calls a0_5 true _ A12.out).mono ?_); rintro e w' ⟨rfl, ⟨nd, rfl⟩⟩) | (go_at_call 64; (with_reducible refine (spec_l01In.calls a0_6 1 3 true _ A14.out).mono ?_); rintro e w' ⟨rfl, ⟨nd, rfl⟩⟩) | (go_at_call 64; (with_reducible refine (spec_l01In.calls a0_7 0 100100 false _ A16.out).mono ?_); rintro e w' ⟨rfl, ⟨nd, rfl⟩⟩))
                  go_ret
                  exact ⟨by first | rfl | (simp [errW_none, errW_some] <;> rfl) | (simp [*, errW_none, errW_some] <;> rfl), by repeat (first | (with_reducible first | exact HB.out | apply below_alloc | apply pw_below_drewN | apply below_drew1 | refine below_set ?_ GE207.out) | exact HB.out)⟩
              · replace c15 := Bool.eq_false_iff.mpr c15
                subst c15
                have H1 : (some false) = some r := by rw [if_neg (show ¬ (false = true) by decide)] at H; exact H
                clear H
                have H := H1
                clear H1
                obtain rfl := Option.some.inj H
                go_enter Try.func75, Try.ntmps75
                go_wp2_with (first | ((with_reducible refine gate_dst (N := 1) rfl ?_); refine box_event ?hg (N := 1) ?hd (cs := #[.int .i64 a0_0, .string a0_1, .int .i64 a0_2, .int .i64 a0_3, .int .i64 a0_4, .int .i64 a0_5, .int .i64 a0_6, .int .i64 a0_7, .int .i64 a0_8]) (t := 71) ?hr ?_; (case hd => rfl); (case hg => rfl); (case hr => first | (go_simp; done) | (go_simp; rfl)); intro gb207 hg w23 hbox hb; have n0_ := Aside0.mk (below_step (by repeat (first | (with_reducible first | exact HB.out | apply below_alloc | apply pw_below_drewN | apply below_drew1) | exact HB.out)) hb); have n1_ := Aside0.mk (hbox); have n2_ := Aside0.mk ((by rw [hg]; exact (below_size (by repeat (first | (with_reducible first | exact HB.out | apply below_alloc | apply pw_below_drewN | apply below_drew1) | exact HB.out))) : w.heap.size ≤ gb207)); have n3_ := Aside0.mk ((by rw [hg]; exact (below_size (by repeat (first | (with_reducible first | exact HB.out | apply below_alloc | apply pw_below_drewN | apply below_drew1) | exact HB.out))) : w.heap.size ≤ gb207)); clear HB; have HB := n0_; have BK207 := n1_; have GW207 := n2_; have GE207 := n3_; clear n0_ n1_ n2_ n3_; clear hb hbox hg; have hcz24_0 : w23.cell? ⟨gb207, 0, none⟩ = some (.int .i64 a0_0) := (blk_cell BK207.out 0).trans rfl; have hcz24_1 : w23.cell? ⟨gb207, 1, none⟩ = some (.string a0_1) := (blk_cell BK207.out 1).trans rfl; have hcz24_2 : w23.cell? ⟨gb207, 2, none⟩ = some (.int .i64 a0_2) := (blk_cell BK207.out 2).trans rfl; have hcz24_3 : w23.cell? ⟨gb207, 3, none⟩ = some (.int .i64 a0_3) := (blk_cell BK207.out 3).trans rfl; have hcz24_4 : w23.cell? ⟨gb207, 4, none⟩ = some (.int .i64 a0_4) := (blk_cell BK207.out 4).trans rfl; have hcz24_5 : w23.cell? ⟨gb207, 5, none⟩ = some (.int .i64 a0_5) := (blk_cell BK207.out 5).trans rfl; have hcz24_6 : w23.cell? ⟨gb207, 6, none⟩ = some (.int .i64 a0_6) := (blk_cell BK207.out 6).trans rfl; have hcz24_7 : w23.cell? ⟨gb207, 7, none⟩ = some (.int .i64 a0_7) := (blk_cell BK207.out 7).trans rfl; have hcz24_8 : w23.cell? ⟨gb207, 8, none⟩ = some (.int .i64 a0_8) := (blk_cell BK207.out 8).trans rfl; have hfz24_0 := blk_frozen BK207.out 0; have hfz24_1 := blk_frozen BK207.out 1; have hfz24_2 := blk_frozen BK207.out 2; have hfz24_3 := blk_frozen BK207.out 3; have hfz24_4 := blk_frozen BK207.out 4; have hfz24_5 := blk_frozen BK207.out 5; have hfz24_6 := blk_frozen BK207.out 6; have hfz24_7 := blk_frozen BK207.out 7; have hfz24_8 := blk_frozen BK207.out 8) | ((with_reducible refine gate_callee (f := 64) rfl ?_); refine goesL_ (some 5) rfl rfl Try.func64 (by kernel_rfl) rfl #[.int .i64 a0_0, .int .i64 0, .int .i64 255] rfl (by (try simp only [List.map_toArray, List.map_cons, List.map_nil]); first | done | rfl | (simp only [List.length_drop, List.length_take]; rfl)) ?_; (with_reducible refine (spec_l01In.calls a0_0 0 255 true _ A2.out).mono ?_); rintro e w' ⟨rfl, ⟨nd, rfl⟩⟩; refine ⟨_, rfl, ?_⟩) | (go_at_call 68; (with_reducible refine (spec_l01Mac.calls a0_1 true _ A4.out).mono ?_); rintro e w' ⟨rfl, ⟨nd, rfl⟩⟩) | (go_at_call 59; (with_reducible refine (spec_l01Ip.calls a0_2 true _ A6.out).mono ?_); rintro e w' ⟨rfl, ⟨nd, rfl⟩⟩) | (go_at_call 59; (with_reducible refine (spec_l01Ip.calls a0_4 true _ A8.out).mono ?_); rintro e w' ⟨rfl, ⟨nd, rfl⟩⟩) | (go_at_call 105; (with_reducible refine (spec_l02Port.calls a0_3 true _ A10.out).mono ?_); rintro e w' ⟨rfl, ⟨nd, rfl⟩⟩) | (go_at_call 105; (with_reducible refine (spec_l02Port.calls a0_5 true _ A12.out).mono ?_); rintro e w' ⟨rfl, ⟨nd, rfl⟩⟩) | (go_at_call 64; (with_reducible refine (spec_l01In.calls a0_6 1 3 false _ A14.out).mono ?_); rintro e w' ⟨rfl, ⟨nd, rfl⟩⟩))
                go_ret
                exact ⟨by first | rfl | (simp [errW_none, errW_some] <;> rfl) | (simp [*, errW_none, errW_some] <;> rfl), by repeat (first | (with_reducible first | exact HB.out | apply below_alloc | apply pw_below_drewN | apply below_drew1 | refine below_set ?_ GE207.out) | exact HB.out)⟩
            · replace c13 := Bool.eq_false_iff.mpr c13
              subst c13
              have H1 : (some false) = some r := by rw [if_neg (show ¬ (false = true) by decide)] at H; exact H
              clear H
              have H := H1
              clear H1
              obtain rfl := Option.some.inj H
              go_enter Try.func75, Try.ntmps75
              go_wp2_with (first | ((with_reducible refine gate_dst (N := 1) rfl ?_); refine box_event ?hg (N := 1) ?hd (cs := #[.int .i64 a0_0, .string a0_1, .int .i64 a0_2, .int .i64 a0_3, .int .i64 a0_4, .int .i64 a0_5, .int .i64 a0_6, .int .i64 a0_7, .int .i64 a0_8]) (t := 71) ?hr ?_; (case hd => rfl); (case hg => rfl); (case hr => first | (go_simp; done) | (go_simp; rfl)); intro gb207 hg w25 hbox hb; have n0_ := Aside0.mk (below_step (by repeat (first | (with_reducible first | exact HB.out | apply below_alloc | apply pw_below_drewN | apply below_drew1) | exact HB.out)) hb); have n1_ := Aside0.mk (hbox); have n2_ := Aside0.mk ((by rw [hg]; exact (below_size (by repeat (first | (with_reducible first | exact HB.out | apply below_alloc | apply pw_below_drewN | apply below_drew1) | exact HB.out))) : w.heap.size ≤ gb207)); have n3_ := Aside0.mk ((by rw [hg]; exact (below_size (by repeat (first | (with_reducible first | exact HB.out | apply below_alloc | apply pw_below_drewN | apply below_drew1) | exact HB.out))) : w.heap.size ≤ gb207)); clear HB; have HB := n0_; have BK207 := n1_; have GW207 := n2_; have GE207 := n3_; clear n0_ n1_ n2_ n3_; clear hb hbox hg; have hcz26_0 : w25.cell? ⟨gb207, 0, none⟩ = some (.int .i64 a0_0) := (blk_cell BK207.out 0).trans rfl; have hcz26_1 : w25.cell? ⟨gb207, 1, none⟩ = some (.string a0_1) := (blk_cell BK207.out 1).trans rfl; have hcz26_2 : w25.cell? ⟨gb207, 2, none⟩ = some (.int .i64 a0_2) := (blk_cell BK207.out 2).trans rfl; have hcz26_3 : w25.cell? ⟨gb207, 3, none⟩ = some (.int .i64 a0_3) := (blk_cell BK207.out 3).trans rfl; have hcz26_4 : w25.cell? ⟨gb207, 4, none⟩ = some (.int .i64 a0_4) := (blk_cell BK207.out 4).trans rfl; have hcz26_5 : w25.cell? ⟨gb207, 5, none⟩ = some (.int .i64 a0_5) := (blk_cell BK207.out 5).trans rfl; have hcz26_6 : w25.cell? ⟨gb207, 6, none⟩ = some (.int .i64 a0_6) := (blk_cell BK207.out 6).trans rfl; have hcz26_7 : w25.cell? ⟨gb207, 7, none⟩ = some (.int .i64 a0_7) := (blk_cell BK207.out 7).trans rfl; have hcz26_8 : w25.cell? ⟨gb207, 8, none⟩ = some (.int .i64 a0_8) := (blk_cell BK207.out 8).trans rfl; have hfz26_0 := blk_frozen BK207.out 0; have hfz26_1 := blk_frozen BK207.out 1; have hfz26_2 := blk_frozen BK207.out 2; have hfz26_3 := blk_frozen BK207.out 3; have hfz26_4 := blk_frozen BK207.out 4; have hfz26_5 := blk_frozen BK207.out 5; have hfz26_6 := blk_frozen BK207.out 6; have hfz26_7 := blk_frozen BK207.out 7; have hfz26_8 := blk_frozen BK207.out 8) | ((with_reducible refine gate_callee (f := 64) rfl ?_); refine goesL_ (some 5) rfl rfl Try.func64 (by kernel_rfl) rfl #[.int .i64 a0_0, .int .i64 0, .int .i64 255] rfl (by (try simp only [List.map_toArray, List.map_cons, List.map_nil]); first | done | rfl | (simp only [List.length_drop, List.length_take]; rfl)) ?_; (with_reducible refine (spec_l01In.calls a0_0 0 255 true _ A2.out).mono ?_); rintro e w' ⟨rfl, ⟨nd, rfl⟩⟩; refine ⟨_, rfl, ?_⟩) | (go_at_call 68; (with_reducible refine (spec_l01Mac.calls a0_1 true _ A4.out).mono ?_); rintro e w' ⟨rfl, ⟨nd, rfl⟩⟩) | (go_at_call 59; (with_reducible refine (spec_l01Ip.calls a0_2 true _ A6.out).mono ?_); rintro e w' ⟨rfl, ⟨nd, rfl⟩⟩) | (go_at_call 59; (with_reducible refine (spec_l01Ip.calls a0_4 true _ A8.out).mono ?_); rintro e w' ⟨rfl, ⟨nd, rfl⟩⟩) | (go_at_call 105; (with_reducible refine (spec_l02Port.calls a0_3 true _ A10.out).mono ?_); rintro e w' ⟨rfl, ⟨nd, rfl⟩⟩) | (go_at_call 105; (with_reducible refine (spec_l02Port.calls a0_5 false _ A12.out).mono ?_); rintro e w' ⟨rfl, ⟨nd, rfl⟩⟩))
              go_ret
              exact ⟨by first | rfl | (simp [errW_none, errW_some] <;> rfl) | (simp [*, errW_none, errW_some] <;> rfl), by repeat (first | (with_reducible first | exact HB.out | apply below_alloc | apply pw_below_drewN | apply below_drew1 | refine below_set ?_ GE207.out) | exact HB.out)⟩
          · replace c11 := Bool.eq_false_iff.mpr c11
            subst c11
            have H1 : (some false) = some r := by rw [if_neg (show ¬ (false = true) by decide)] at H; exact H
            clear H
            have H := H1
            clear H1
            obtain rfl := Option.some.inj H
            go_enter Try.func75, Try.ntmps75
            go_wp2_with (first | ((with_reducible refine gate_dst (N := 1) rfl ?_); refine box_event ?hg (N := 1) ?hd (cs := #[.int .i64 a0_0, .string a0_1, .int .i64 a0_2, .int .i64 a0_3, .int .i64 a0_4, .int .i64 a0_5, .int .i64 a0_6, .int .i64 a0_7, .int .i64 a0_8]) (t := 71) ?hr ?_; (case hd => rfl); (case hg => rfl); (case hr => first | (go_simp; done) | (go_simp; rfl)); intro gb207 hg w27 hbox hb; have n0_ := Aside0.mk (below_step (by repeat (first | (with_reducible first | exact HB.out | apply below_alloc | apply pw_below_drewN | apply below_drew1) | exact HB.out)) hb); have n1_ := Aside0.mk (hbox); have n2_ := Aside0.mk ((by rw [hg]; exact (below_size (by repeat (first | (with_reducible first | exact HB.out | apply below_alloc | apply pw_below_drewN | apply below_drew1) | exact HB.out))) : w.heap.size ≤ gb207)); have n3_ := Aside0.mk ((by rw [hg]; exact (below_size (by repeat (first | (with_reducible first | exact HB.out | apply below_alloc | apply pw_below_drewN | apply below_drew1) | exact HB.out))) : w.heap.size ≤ gb207)); clear HB; have HB := n0_; have BK207 := n1_; have GW207 := n2_; have GE207 := n3_; clear n0_ n1_ n2_ n3_; clear hb hbox hg; have hcz28_0 : w27.cell? ⟨gb207, 0, none⟩ = some (.int .i64 a0_0) := (blk_cell BK207.out 0).trans rfl; have hcz28_1 : w27.cell? ⟨gb207, 1, none⟩ = some (.string a0_1) := (blk_cell BK207.out 1).trans rfl; have hcz28_2 : w27.cell? ⟨gb207, 2, none⟩ = some (.int .i64 a0_2) := (blk_cell BK207.out 2).trans rfl; have hcz28_3 : w27.cell? ⟨gb207, 3, none⟩ = some (.int .i64 a0_3) := (blk_cell BK207.out 3).trans rfl; have hcz28_4 : w27.cell? ⟨gb207, 4, none⟩ = some (.int .i64 a0_4) := (blk_cell BK207.out 4).trans rfl; have hcz28_5 : w27.cell? ⟨gb207, 5, none⟩ = some (.int .i64 a0_5) := (blk_cell BK207.out 5).trans rfl; have hcz28_6 : w27.cell? ⟨gb207, 6, none⟩ = some (.int .i64 a0_6) := (blk_cell BK207.out 6).trans rfl; have hcz28_7 : w27.cell? ⟨gb207, 7, none⟩ = some (.int .i64 a0_7) := (blk_cell BK207.out 7).trans rfl; have hcz28_8 : w27.cell? ⟨gb207, 8, none⟩ = some (.int .i64 a0_8) := (blk_cell BK207.out 8).trans rfl; have hfz28_0 := blk_frozen BK207.out 0; have hfz28_1 := blk_frozen BK207.out 1; have hfz28_2 := blk_frozen BK207.out 2; have hfz28_3 := blk_frozen BK207.out 3; have hfz28_4 := blk_frozen BK207.out 4; have hfz28_5 := blk_frozen BK207.out 5; have hfz28_6 := blk_frozen BK207.out 6; have hfz28_7 := blk_frozen BK207.out 7; have hfz28_8 := blk_frozen BK207.out 8) | ((with_reducible refine gate_callee (f := 64) rfl ?_); refine goesL_ (some 5) rfl rfl Try.func64 (by kernel_rfl) rfl #[.int .i64 a0_0, .int .i64 0, .int .i64 255] rfl (by (try simp only [List.map_toArray, List.map_cons, List.map_nil]); first | done | rfl | (simp only [List.length_drop, List.length_take]; rfl)) ?_; (with_reducible refine (spec_l01In.calls a0_0 0 255 true _ A2.out).mono ?_); rintro e w' ⟨rfl, ⟨nd, rfl⟩⟩; refine ⟨_, rfl, ?_⟩) | (go_at_call 68; (with_reducible refine (spec_l01Mac.calls a0_1 true _ A4.out).mono ?_); rintro e w' ⟨rfl, ⟨nd, rfl⟩⟩) | (go_at_call 59; (with_reducible refine (spec_l01Ip.calls a0_2 true _ A6.out).mono ?_); rintro e w' ⟨rfl, ⟨nd, rfl⟩⟩) | (go_at_call 59; (with_reducible refine (spec_l01Ip.calls a0_4 true _ A8.out).mono ?_); rintro e w' ⟨rfl, ⟨nd, rfl⟩⟩) | (go_at_call 105; (with_reducible refine (spec_l02Port.calls a0_3 false _ A10.out).mono ?_); rintro e w' ⟨rfl, ⟨nd, rfl⟩⟩))
            go_ret
            exact ⟨by first | rfl | (simp [errW_none, errW_some] <;> rfl) | (simp [*, errW_none, errW_some] <;> rfl), by repeat (first | (with_reducible first | exact HB.out | apply below_alloc | apply pw_below_drewN | apply below_drew1 | refine below_set ?_ GE207.out) | exact HB.out)⟩
        · replace c9 := Bool.eq_false_iff.mpr c9
          subst c9
          have H1 : (some false) = some r := by rw [if_neg (show ¬ (false = true) by decide)] at H; exact H
          clear H
          have H := H1
          clear H1
          obtain rfl := Option.some.inj H
          go_enter Try.func75, Try.ntmps75
          go_wp2_with (first | ((with_reducible refine gate_dst (N := 1) rfl ?_); refine box_event ?hg (N := 1) ?hd (cs := #[.int .i64 a0_0, .string a0_1, .int .i64 a0_2, .int .i64 a0_3, .int .i64 a0_4, .int .i64 a0_5, .int .i64 a0_6, .int .i64 a0_7, .int .i64 a0_8]) (t := 71) ?hr ?_; (case hd => rfl); (case hg => rfl); (case hr => first | (go_simp; done) | (go_simp; rfl)); intro gb207 hg w29 hbox hb; have n0_ := Aside0.mk (below_step (by repeat (first | (with_reducible first | exact HB.out | apply below_alloc | apply pw_below_drewN | apply below_drew1) | exact HB.out)) hb); have n1_ := Aside0.mk (hbox); have n2_ := Aside0.mk ((by rw [hg]; exact (below_size (by repeat (first | (with_reducible first | exact HB.out | apply below_alloc | apply pw_below_drewN | apply below_drew1) | exact HB.out))) : w.heap.size ≤ gb207)); have n3_ := Aside0.mk ((by rw [hg]; exact (below_size (by repeat (first | (with_reducible first | exact HB.out | apply below_alloc | apply pw_below_drewN | apply below_drew1) | exact HB.out))) : w.heap.size ≤ gb207)); clear HB; have HB := n0_; have BK207 := n1_; have GW207 := n2_; have GE207 := n3_; clear n0_ n1_ n2_ n3_; clear hb hbox hg; have hcz30_0 : w29.cell? ⟨gb207, 0, none⟩ = some (.int .i64 a0_0) := (blk_cell BK207.out 0).trans rfl; have hcz30_1 : w29.cell? ⟨gb207, 1, none⟩ = some (.string a0_1) := (blk_cell BK207.out 1).trans rfl; have hcz30_2 : w29.cell? ⟨gb207, 2, none⟩ = some (.int .i64 a0_2) := (blk_cell BK207.out 2).trans rfl; have hcz30_3 : w29.cell? ⟨gb207, 3, none⟩ = some (.int .i64 a0_3) := (blk_cell BK207.out 3).trans rfl; have hcz30_4 : w29.cell? ⟨gb207, 4, none⟩ = some (.int .i64 a0_4) := (blk_cell BK207.out 4).trans rfl; have hcz30_5 : w29.cell? ⟨gb207, 5, none⟩ = some (.int .i64 a0_5) := (blk_cell BK207.out 5).trans rfl; have hcz30_6 : w29.cell? ⟨gb207, 6, none⟩ = some (.int .i64 a0_6) := (blk_cell BK207.out 6).trans rfl; have hcz30_7 : w29.cell? ⟨gb207, 7, none⟩ = some (.int .i64 a0_7) := (blk_cell BK207.out 7).trans rfl; have hcz30_8 : w29.cell? ⟨gb207, 8, none⟩ = some (.int .i64 a0_8) := (blk_cell BK207.out 8).trans rfl; have hfz30_0 := blk_frozen BK207.out 0; have hfz30_1 := blk_frozen BK207.out 1; have hfz30_2 := blk_frozen BK207.out 2; have hfz30_3 := blk_frozen BK207.out 3; have hfz30_4 := blk_frozen BK207.out 4; have hfz30_5 := blk_frozen BK207.out 5; have hfz30_6 := blk_frozen BK207.out 6; have hfz30_7 := blk_frozen BK207.out 7; have hfz30_8 := blk_frozen BK207.out 8) | ((with_reducible refine gate_callee (f := 64) rfl ?_); refine goesL_ (some 5) rfl rfl Try.func64 (by kernel_rfl) rfl #[.int .i64 a0_0, .int .i64 0, .int .i64 255] rfl (by (try simp only [List.map_toArray, List.map_cons, List.map_nil]); first | done | rfl | (simp only [List.length_drop, List.length_take]; rfl)) ?_; (with_reducible refine (spec_l01In.calls a0_0 0 255 true _ A2.out).mono ?_); rintro e w' ⟨rfl, ⟨nd, rfl⟩⟩; refine ⟨_, rfl, ?_⟩) | (go_at_call 68; (with_reducible refine (spec_l01Mac.calls a0_1 true _ A4.out).mono ?_); rintro e w' ⟨rfl, ⟨nd, rfl⟩⟩) | (go_at_call 59; (with_reducible refine (spec_l01Ip.calls a0_2 true _ A6.out).mono ?_); rintro e w' ⟨rfl, ⟨nd, rfl⟩⟩) | (go_at_call 59; (with_reducible refine (spec_l01Ip.calls a0_4 false _ A8.out).mono ?_); rintro e w' ⟨rfl, ⟨nd, rfl⟩⟩))
          go_ret
          exact ⟨by first | rfl | (simp [errW_none, errW_some] <;> rfl) | (simp [*, errW_none, errW_some] <;> rfl), by repeat (first | (with_reducible first | exact HB.out | apply below_alloc | apply pw_below_drewN | apply below_drew1 | refine below_set ?_ GE207.out) | exact HB.out)⟩
      · replace c7 := Bool.eq_false_iff.mpr c7
        subst c7
        have H1 : (some false) = some r := by rw [if_neg (show ¬ (false = true) by decide)] at H; exact H
        clear H
        have H := H1
        clear H1
        obtain rfl := Option.some.inj H
        go_enter Try.func75, Try.ntmps75
        go_wp2_with (first | ((with_reducible refine gate_dst (N := 1) rfl ?_); refine box_event ?hg (N := 1) ?hd (cs := #[.int .i64 a0_0, .string a0_1, .int .i64 a0_2, .int .i64 a0_3, .int .i64 a0_4, .int .i64 a0_5, .int .i64 a0_6, .int .i64 a0_7, .int .i64 a0_8]) (t := 71) ?hr ?_; (case hd => rfl); (case hg => rfl); (case hr => first | (go_simp; done) | (go_simp; rfl)); intro gb207 hg w31 hbox hb; have n0_ := Aside0.mk (below_step (by repeat (first | (with_reducible first | exact HB.out | apply below_alloc | apply pw_below_drewN | apply below_drew1) | exact HB.out)) hb); have n1_ := Aside0.mk (hbox); have n2_ := Aside0.mk ((by rw [hg]; exact (below_size (by repeat (first | (with_reducible first | exact HB.out | apply below_alloc | apply pw_below_drewN | apply below_drew1) | exact HB.out))) : w.heap.size ≤ gb207)); have n3_ := Aside0.mk ((by rw [hg]; exact (below_size (by repeat (first | (with_reducible first | exact HB.out | apply below_alloc | apply pw_below_drewN | apply below_drew1) | exact HB.out))) : w.heap.size ≤ gb207)); clear HB; have HB := n0_; have BK207 := n1_; have GW207 := n2_; have GE207 := n3_; clear n0_ n1_ n2_ n3_; clear hb hbox hg; have hcz32_0 : w31.cell? ⟨gb207, 0, none⟩ = some (.int .i64 a0_0) := (blk_cell BK207.out 0).trans rfl; have hcz32_1 : w31.cell? ⟨gb207, 1, none⟩ = some (.string a0_1) := (blk_cell BK207.out 1).trans rfl; have hcz32_2 : w31.cell? ⟨gb207, 2, none⟩ = some (.int .i64 a0_2) := (blk_cell BK207.out 2).trans rfl; have hcz32_3 : w31.cell? ⟨gb207, 3, none⟩ = some (.int .i64 a0_3) := (blk_cell BK207.out 3).trans rfl; have hcz32_4 : w31.cell? ⟨gb207, 4, none⟩ = some (.int .i64 a0_4) := (blk_cell BK207.out 4).trans rfl; have hcz32_5 : w31.cell? ⟨gb207, 5, none⟩ = some (.int .i64 a0_5) := (blk_cell BK207.out 5).trans rfl; have hcz32_6 : w31.cell? ⟨gb207, 6, none⟩ = some (.int .i64 a0_6) := (blk_cell BK207.out 6).trans rfl; have hcz32_7 : w31.cell? ⟨gb207, 7, none⟩ = some (.int .i64 a0_7) := (blk_cell BK207.out 7).trans rfl; have hcz32_8 : w31.cell? ⟨gb207, 8, none⟩ = some (.int .i64 a0_8) := (blk_cell BK207.out 8).trans rfl; have hfz32_0 := blk_frozen BK207.out 0; have hfz32_1 := blk_frozen BK207.out 1; have hfz32_2 := blk_frozen BK207.out 2; have hfz32_3 := blk_frozen BK207.out 3; have hfz32_4 := blk_frozen BK207.out 4; have hfz32_5 := blk_frozen BK207.out 5; have hfz32_6 := blk_frozen BK207.out 6; have hfz32_7 := blk_frozen BK207.out 7; have hfz32_8 := blk_frozen BK207.out 8) | ((with_reducible refine gate_callee (f := 64) rfl ?_); refine goesL_ (some 5) rfl rfl Try.func64 (by kernel_rfl) rfl #[.int .i64 a0_0, .int .i64 0, .int .i64 255] rfl (by (try simp only [List.map_toArray, List.map_cons, List.map_nil]); first | done | rfl | (simp only [List.length_drop, List.length_take]; rfl)) ?_; (with_reducible refine (spec_l01In.calls a0_0 0 255 true _ A2.out).mono ?_); rintro e w' ⟨rfl, ⟨nd, rfl⟩⟩; refine ⟨_, rfl, ?_⟩) | (go_at_call 68; (with_reducible refine (spec_l01Mac.calls a0_1 true _ A4.out).mono ?_); rintro e w' ⟨rfl, ⟨nd, rfl⟩⟩) | (go_at_call 59; (with_reducible refine (spec_l01Ip.calls a0_2 false _ A6.out).mono ?_); rintro e w' ⟨rfl, ⟨nd, rfl⟩⟩))
        go_ret
        exact ⟨by first | rfl | (simp [errW_none, errW_some] <;> rfl) | (simp [*, errW_none, errW_some] <;> rfl), by repeat (first | (with_reducible first | exact HB.out | apply below_alloc | apply pw_below_drewN | apply below_drew1 | refine below_set ?_ GE207.out) | exact HB.out)⟩
    · replace c5 := Bool.eq_false_iff.mpr c5
      subst c5
      have H1 : (some false) = some r := by rw [if_neg (show ¬ (false = true) by decide)] at H; exact H
      clear H
      have H := H1
      clear H1
      obtain rfl := Option.some.inj H
      go_enter Try.func75, Try.ntmps75
      go_wp2_with (first | ((with_reducible refine gate_dst (N := 1) rfl ?_); refine box_event ?hg (N := 1) ?hd (cs := #[.int .i64 a0_0, .string a0_1, .int .i64 a0_2, .int .i64 a0_3, .int .i64 a0_4, .int .i64 a0_5, .int .i64 a0_6, .int .i64 a0_7, .int .i64 a0_8]) (t := 71) ?hr ?_; (case hd => rfl); (case hg => rfl); (case hr => first | (go_simp; done) | (go_simp; rfl)); intro gb207 hg w33 hbox hb; have n0_ := Aside0.mk (below_step (by repeat (first | (with_reducible first | exact HB.out | apply below_alloc | apply pw_below_drewN | apply below_drew1) | exact HB.out)) hb); have n1_ := Aside0.mk (hbox); have n2_ := Aside0.mk ((by rw [hg]; exact (below_size (by repeat (first | (with_reducible first | exact HB.out | apply below_alloc | apply pw_below_drewN | apply below_drew1) | exact HB.out))) : w.heap.size ≤ gb207)); have n3_ := Aside0.mk ((by rw [hg]; exact (below_size (by repeat (first | (with_reducible first | exact HB.out | apply below_alloc | apply pw_below_drewN | apply below_drew1) | exact HB.out))) : w.heap.size ≤ gb207)); clear HB; have HB := n0_; have BK207 := n1_; have GW207 := n2_; have GE207 := n3_; clear n0_ n1_ n2_ n3_; clear hb hbox hg; have hcz34_0 : w33.cell? ⟨gb207, 0, none⟩ = some (.int .i64 a0_0) := (blk_cell BK207.out 0).trans rfl; have hcz34_1 : w33.cell? ⟨gb207, 1, none⟩ = some (.string a0_1) := (blk_cell BK207.out 1).trans rfl; have hcz34_2 : w33.cell? ⟨gb207, 2, none⟩ = some (.int .i64 a0_2) := (blk_cell BK207.out 2).trans rfl; have hcz34_3 : w33.cell? ⟨gb207, 3, none⟩ = some (.int .i64 a0_3) := (blk_cell BK207.out 3).trans rfl; have hcz34_4 : w33.cell? ⟨gb207, 4, none⟩ = some (.int .i64 a0_4) := (blk_cell BK207.out 4).trans rfl; have hcz34_5 : w33.cell? ⟨gb207, 5, none⟩ = some (.int .i64 a0_5) := (blk_cell BK207.out 5).trans rfl; have hcz34_6 : w33.cell? ⟨gb207, 6, none⟩ = some (.int .i64 a0_6) := (blk_cell BK207.out 6).trans rfl; have hcz34_7 : w33.cell? ⟨gb207, 7, none⟩ = some (.int .i64 a0_7) := (blk_cell BK207.out 7).trans rfl; have hcz34_8 : w33.cell? ⟨gb207, 8, none⟩ = some (.int .i64 a0_8) := (blk_cell BK207.out 8).trans rfl; have hfz34_0 := blk_frozen BK207.out 0; have hfz34_1 := blk_frozen BK207.out 1; have hfz34_2 := blk_frozen BK207.out 2; have hfz34_3 := blk_frozen BK207.out 3; have hfz34_4 := blk_frozen BK207.out 4; have hfz34_5 := blk_frozen BK207.out 5; have hfz34_6 := blk_frozen BK207.out 6; have hfz34_7 := blk_frozen BK207.out 7; have hfz34_8 := blk_frozen BK207.out 8) | ((with_reducible refine gate_callee (f := 64) rfl ?_); refine goesL_ (some 5) rfl rfl Try.func64 (by kernel_rfl) rfl #[.int .i64 a0_0, .int .i64 0, .int .i64 255] rfl (by (try simp only [List.map_toArray, List.map_cons, List.map_nil]); first | done | rfl | (simp only [List.length_drop, List.length_take]; rfl)) ?_; (with_reducible refine (spec_l01In.calls a0_0 0 255 true _ A2.out).mono ?_); rintro e w' ⟨rfl, ⟨nd, rfl⟩⟩; refine ⟨_, rfl, ?_⟩) | (go_at_call 68; (with_reducible refine (spec_l01Mac.calls a0_1 false _ A4.out).mono ?_); rintro e w' ⟨rfl, ⟨nd, rfl⟩⟩))
      go_ret
      exact ⟨by first | rfl | (simp [errW_none, errW_some] <;> rfl) | (simp [*, errW_none, errW_some] <;> rfl), by repeat (first | (with_reducible first | exact HB.out | apply below_alloc | apply pw_below_drewN | apply below_drew1 | refine below_set ?_ GE207.out) | exact HB.out)⟩
  · replace c3 := Bool.eq_false_iff.mpr c3
    subst c3
    have H1 : (some false) = some r := by rw [if_neg (show ¬ (false = true) by decide)] at H; exact H
    clear H
    have H := H1
    clear H1
    obtain rfl := Option.some.inj H
    go_enter Try.func75, Try.ntmps75
    go_wp2_with (first | ((with_reducible refine gate_dst (N := 1) rfl ?_); refine box_event ?hg (N := 1) ?hd (cs := #[.int .i64 a0_0, .string a0_1, .int .i64 a0_2, .int .i64 a0_3, .int .i64 a0_4, .int .i64 a0_5, .int .i64 a0_6, .int .i64 a0_7, .int .i64 a0_8]) (t := 71) ?hr ?_; (case hd => rfl); (case hg => rfl); (case hr => first | (go_simp; done) | (go_simp; rfl)); intro gb207 hg w35 hbox hb; have n0_ := Aside0.mk (below_step (by repeat (first | (with_reducible first | exact HB.out | apply below_alloc | apply pw_below_drewN | apply below_drew1) | exact HB.out)) hb); have n1_ := Aside0.mk (hbox); have n2_ := Aside0.mk ((by rw [hg]; exact (below_size (by repeat (first | (with_reducible first | exact HB.out | apply below_alloc | apply pw_below_drewN | apply below_drew1) | exact HB.out))) : w.heap.size ≤ gb207)); have n3_ := Aside0.mk ((by rw [hg]; exact (below_size (by repeat (first | (with_reducible first | exact HB.out | apply below_alloc | apply pw_below_drewN | apply below_drew1) | exact HB.out))) : w.heap.size ≤ gb207)); clear HB; have HB := n0_; have BK207 := n1_; have GW207 := n2_; have GE207 := n3_; clear n0_ n1_ n2_ n3_; clear hb hbox hg; have hcz36_0 : w35.cell? ⟨gb207, 0, none⟩ = some (.int .i64 a0_0) := (blk_cell BK207.out 0).trans rfl; have hcz36_1 : w35.cell? ⟨gb207, 1, none⟩ = some (.string a0_1) := (blk_cell BK207.out 1).trans rfl; have hcz36_2 : w35.cell? ⟨gb207, 2, none⟩ = some (.int .i64 a0_2) := (blk_cell BK207.out 2).trans rfl; have hcz36_3 : w35.cell? ⟨gb207, 3, none⟩ = some (.int .i64 a0_3) := (blk_cell BK207.out 3).trans rfl; have hcz36_4 : w35.cell? ⟨gb207, 4, none⟩ = some (.int .i64 a0_4) := (blk_cell BK207.out 4).trans rfl; have hcz36_5 : w35.cell? ⟨gb207, 5, none⟩ = some (.int .i64 a0_5) := (blk_cell BK207.out 5).trans rfl; have hcz36_6 : w35.cell? ⟨gb207, 6, none⟩ = some (.int .i64 a0_6) := (blk_cell BK207.out 6).trans rfl; have hcz36_7 : w35.cell? ⟨gb207, 7, none⟩ = some (.int .i64 a0_7) := (blk_cell BK207.out 7).trans rfl; have hcz36_8 : w35.cell? ⟨gb207, 8, none⟩ = some (.int .i64 a0_8) := (blk_cell BK207.out 8).trans rfl; have hfz36_0 := blk_frozen BK207.out 0; have hfz36_1 := blk_frozen BK207.out 1; have hfz36_2 := blk_frozen BK207.out 2; have hfz36_3 := blk_frozen BK207.out 3; have hfz36_4 := blk_frozen BK207.out 4; have hfz36_5 := blk_frozen BK207.out 5; have hfz36_6 := blk_frozen BK207.out 6; have hfz36_7 := blk_frozen BK207.out 7; have hfz36_8 := blk_frozen BK207.out 8) | ((with_reducible refine gate_callee (f := 64) rfl ?_); refine goesL_ (some 5) rfl rfl Try.func64 (by kernel_rfl) rfl #[.int .i64 a0_0, .int .i64 0, .int .i64 255] rfl (by (try simp only [List.map_toArray, List.map_cons, List.map_nil]); first | done | rfl | (simp only [List.length_drop, List.length_take]; rfl)) ?_; (with_reducible refine (spec_l01In.calls a0_0 0 255 false _ A2.out).mono ?_); rintro e w' ⟨rfl, ⟨nd, rfl⟩⟩; refine ⟨_, rfl, ?_⟩))
    go_ret
    exact ⟨by first | rfl | (simp [errW_none, errW_some] <;> rfl) | (simp [*, errW_none, errW_some] <;> rfl), by repeat (first | (with_reducible first | exact HB.out | apply below_alloc | apply pw_below_drewN | apply below_drew1 | refine below_set ?_ GE207.out) | exact HB.out)⟩
end
section
/-! ### spec_l09Same: function 76 -/
def spec_l09Same.f (a0_0 : Int) (a0_1 : ByteArray) (a0_2 : Int) (a0_3 : Int) (a0_4 : Int) (a0_5 : Int) (a0_6 : Int) (a0_7 : Int) (a0_8 : Int) (a1 : Int) (a2 : Int) (a3 : Int) (a4 : Int) (a5 : Int) : Option (Bool) := if a0_0 = a1 then (if a0_2 = a2 then (if a0_3 = a3 then (if a0_4 = a4 then (some (a0_5 == a5)) else (some false)) else (some false)) else (some false)) else (some false)
set_option maxHeartbeats 8000000 in
set_option maxRecDepth 100000 in
theorem spec_l09Same.calls (a0_0 : Int) (a0_1 : ByteArray) (a0_2 : Int) (a0_3 : Int) (a0_4 : Int) (a0_5 : Int) (a0_6 : Int) (a0_7 : Int) (a0_8 : Int) (a1 : Int) (a2 : Int) (a3 : Int) (a4 : Int) (a5 : Int) (r : Bool) (w : World) (h : spec_l09Same.f a0_0 a0_1 a0_2 a0_3 a0_4 a0_5 a0_6 a0_7 a0_8 a1 a2 a3 a4 a5 = some r) :
    Calls Try.prog 76 #[.agg #[.int .i64 a0_0, .string a0_1, .int .i64 a0_2, .int .i64 a0_3, .int .i64 a0_4, .int .i64 a0_5, .int .i64 a0_6, .int .i64 a0_7, .int .i64 a0_8], .int .i64 a1, .int .i64 a2, .int .i64 a3, .int .i64 a4, .int .i64 a5] w fun e w' => e = .returned (.bool r) ∧ Below w.heap.size w w' := by
  have hu71 := Try.underlying71
  have HB := Aside0.mk (Below.refl w.heap.size w)
  have H : (if a0_0 = a1 then (if a0_2 = a2 then (if a0_3 = a3 then (if a0_4 = a4 then (some (a0_5 == a5)) else (some false)) else (some false)) else (some false)) else (some false)) = some r := h
  clear h
  by_cases c7 : a0_0 = a1
  · rw [if_pos c7] at H
    have c7b0 : (a0_0 == a1) = true := beq_iff_eq.mpr c7
    have c7b1 : (a0_0 != a1) = false := bne_eq_false_iff_eq.mpr c7
    clear c7
    by_cases c8 : a0_2 = a2
    · rw [if_pos c8] at H
      have c8b0 : (a0_2 == a2) = true := beq_iff_eq.mpr c8
      have c8b1 : (a0_2 != a2) = false := bne_eq_false_iff_eq.mpr c8
      clear c8
      by_cases c9 : a0_3 = a3
      · rw [if_pos c9] at H
        have c9b0 : (a0_3 == a3) = true := beq_iff_eq.mpr c9
        have c9b1 : (a0_3 != a3) = false := bne_eq_false_iff_eq.mpr c9
        clear c9
        by_cases c10 : a0_4 = a4
        · rw [if_pos c10] at H
          have c10b0 : (a0_4 == a4) = true := beq_iff_eq.mpr c10
          have c10b1 : (a0_4 != a4) = false := bne_eq_false_iff_eq.mpr c10
          clear c10
          obtain rfl := Option.some.inj H
          go_enter Try.func76, Try.ntmps76
          go_wp2_with (first | ((with_reducible refine gate_dst (N := 6) rfl ?_); refine box_event ?hg (N := 6) ?hd (cs := #[.int .i64 a0_0, .string a0_1, .int .i64 a0_2, .int .i64 a0_3, .int .i64 a0_4, .int .i64 a0_5, .int .i64 a0_6, .int .i64 a0_7, .int .i64 a0_8]) (t := 71) ?hr ?_; (case hd => rfl); (case hg => rfl); (case hr => first | (go_simp; done) | (go_simp; rfl)); intro gb217 hg w11 hbox hb; have n0_ := Aside0.mk (below_step (by repeat (first | (with_reducible first | exact HB.out | apply below_alloc | apply pw_below_drewN | apply below_drew1) | exact HB.out)) hb); have n1_ := Aside0.mk (hbox); have n2_ := Aside0.mk ((by rw [hg]; exact (below_size (by repeat (first | (with_reducible first | exact HB.out | apply below_alloc | apply pw_below_drewN | apply below_drew1) | exact HB.out))) : w.heap.size ≤ gb217)); have n3_ := Aside0.mk ((by rw [hg]; exact (below_size (by repeat (first | (with_reducible first | exact HB.out | apply below_alloc | apply pw_below_drewN | apply below_drew1) | exact HB.out))) : w.heap.size ≤ gb217)); clear HB; have HB := n0_; have BK217 := n1_; have GW217 := n2_; have GE217 := n3_; clear n0_ n1_ n2_ n3_; clear hb hbox hg; have hcz12_0 : w11.cell? ⟨gb217, 0, none⟩ = some (.int .i64 a0_0) := (blk_cell BK217.out 0).trans rfl; have hcz12_1 : w11.cell? ⟨gb217, 1, none⟩ = some (.string a0_1) := (blk_cell BK217.out 1).trans rfl; have hcz12_2 : w11.cell? ⟨gb217, 2, none⟩ = some (.int .i64 a0_2) := (blk_cell BK217.out 2).trans rfl; have hcz12_3 : w11.cell? ⟨gb217, 3, none⟩ = some (.int .i64 a0_3) := (blk_cell BK217.out 3).trans rfl; have hcz12_4 : w11.cell? ⟨gb217, 4, none⟩ = some (.int .i64 a0_4) := (blk_cell BK217.out 4).trans rfl; have hcz12_5 : w11.cell? ⟨gb217, 5, none⟩ = some (.int .i64 a0_5) := (blk_cell BK217.out 5).trans rfl; have hcz12_6 : w11.cell? ⟨gb217, 6, none⟩ = some (.int .i64 a0_6) := (blk_cell BK217.out 6).trans rfl; have hcz12_7 : w11.cell? ⟨gb217, 7, none⟩ = some (.int .i64 a0_7) := (blk_cell BK217.out 7).trans rfl; have hcz12_8 : w11.cell? ⟨gb217, 8, none⟩ = some (.int .i64 a0_8) := (blk_cell BK217.out 8).trans rfl; have hfz12_0 := blk_frozen BK217.out 0; have hfz12_1 := blk_frozen BK217.out 1; have hfz12_2 := blk_frozen BK217.out 2; have hfz12_3 := blk_frozen BK217.out 3; have hfz12_4 := blk_frozen BK217.out 4; have hfz12_5 := blk_frozen BK217.out 5; have hfz12_6 := blk_frozen BK217.out 6; have hfz12_7 := blk_frozen BK217.out 7; have hfz12_8 := blk_frozen BK217.out 8))
          go_ret
          exact ⟨by first | rfl | (simp [errW_none, errW_some] <;> rfl) | (simp [*, errW_none, errW_some] <;> rfl), by repeat (first | (with_reducible first | exact HB.out | apply below_alloc | apply pw_below_drewN | apply below_drew1 | refine below_set ?_ GE217.out) | exact HB.out)⟩
        · rw [if_neg c10] at H
          have c10b0 : (a0_4 == a4) = false := beq_eq_false_iff_ne.mpr c10
          have c10b1 : (a0_4 != a4) = true := bne_iff_ne.mpr c10
          obtain rfl := Option.some.inj H
          go_enter Try.func76, Try.ntmps76
          go_wp2_with (first | ((with_reducible refine gate_dst (N := 6) rfl ?_); refine box_event ?hg (N := 6) ?hd (cs := #[.int .i64 a0_0, .string a0_1, .int .i64 a0_2, .int .i64 a0_3, .int .i64 a0_4, .int .i64 a0_5, .int .i64 a0_6, .int .i64 a0_7, .int .i64 a0_8]) (t := 71) ?hr ?_; (case hd => rfl); (case hg => rfl); (case hr => first | (go_simp; done) | (go_simp; rfl)); intro gb217 hg w13 hbox hb; have n0_ := Aside0.mk (below_step (by repeat (first | (with_reducible first | exact HB.out | apply below_alloc | apply pw_below_drewN | apply below_drew1) | exact HB.out)) hb); have n1_ := Aside0.mk (hbox); have n2_ := Aside0.mk ((by rw [hg]; exact (below_size (by repeat (first | (with_reducible first | exact HB.out | apply below_alloc | apply pw_below_drewN | apply below_drew1) | exact HB.out))) : w.heap.size ≤ gb217)); have n3_ := Aside0.mk ((by rw [hg]; exact (below_size (by repeat (first | (with_reducible first | exact HB.out | apply below_alloc | apply pw_below_drewN | apply below_drew1) | exact HB.out))) : w.heap.size ≤ gb217)); clear HB; have HB := n0_; have BK217 := n1_; have GW217 := n2_; have GE217 := n3_; clear n0_ n1_ n2_ n3_; clear hb hbox hg; have hcz14_0 : w13.cell? ⟨gb217, 0, none⟩ = some (.int .i64 a0_0) := (blk_cell BK217.out 0).trans rfl; have hcz14_1 : w13.cell? ⟨gb217, 1, none⟩ = some (.string a0_1) := (blk_cell BK217.out 1).trans rfl; have hcz14_2 : w13.cell? ⟨gb217, 2, none⟩ = some (.int .i64 a0_2) := (blk_cell BK217.out 2).trans rfl; have hcz14_3 : w13.cell? ⟨gb217, 3, none⟩ = some (.int .i64 a0_3) := (blk_cell BK217.out 3).trans rfl; have hcz14_4 : w13.cell? ⟨gb217, 4, none⟩ = some (.int .i64 a0_4) := (blk_cell BK217.out 4).trans rfl; have hcz14_5 : w13.cell? ⟨gb217, 5, none⟩ = some (.int .i64 a0_5) := (blk_cell BK217.out 5).trans rfl; have hcz14_6 : w13.cell? ⟨gb217, 6, none⟩ = some (.int .i64 a0_6) := (blk_cell BK217.out 6).trans rfl; have hcz14_7 : w13.cell? ⟨gb217, 7, none⟩ = some (.int .i64 a0_7) := (blk_cell BK217.out 7).trans rfl; have hcz14_8 : w13.cell? ⟨gb217, 8, none⟩ = some (.int .i64 a0_8) := (blk_cell BK217.out 8).trans rfl; have hfz14_0 := blk_frozen BK217.out 0; have hfz14_1 := blk_frozen BK217.out 1; have hfz14_2 := blk_frozen BK217.out 2; have hfz14_3 := blk_frozen BK217.out 3; have hfz14_4 := blk_frozen BK217.out 4; have hfz14_5 := blk_frozen BK217.out 5; have hfz14_6 := blk_frozen BK217.out 6; have hfz14_7 := blk_frozen BK217.out 7; have hfz14_8 := blk_frozen BK217.out 8))
          go_ret
          exact ⟨by first | rfl | (simp [errW_none, errW_some] <;> rfl) | (simp [*, errW_none, errW_some] <;> rfl), by repeat (first | (with_reducible first | exact HB.out | apply below_alloc | apply pw_below_drewN | apply below_drew1 | refine below_set ?_ GE217.out) | exact HB.out)⟩
      · rw [if_neg c9] at H
        have c9b0 : (a0_3 == a3) = false := beq_eq_false_iff_ne.mpr c9
        have c9b1 : (a0_3 != a3) = true := bne_iff_ne.mpr c9
        obtain rfl := Option.some.inj H
        go_enter Try.func76, Try.ntmps76
        go_wp2_with (first | ((with_reducible refine gate_dst (N := 6) rfl ?_); refine box_event ?hg (N := 6) ?hd (cs := #[.int .i64 a0_0, .string a0_1, .int .i64 a0_2, .int .i64 a0_3, .int .i64 a0_4, .int .i64 a0_5, .int .i64 a0_6, .int .i64 a0_7, .int .i64 a0_8]) (t := 71) ?hr ?_; (case hd => rfl); (case hg => rfl); (case hr => first | (go_simp; done) | (go_simp; rfl)); intro gb217 hg w15 hbox hb; have n0_ := Aside0.mk (below_step (by repeat (first | (with_reducible first | exact HB.out | apply below_alloc | apply pw_below_drewN | apply below_drew1) | exact HB.out)) hb); have n1_ := Aside0.mk (hbox); have n2_ := Aside0.mk ((by rw [hg]; exact (below_size (by repeat (first | (with_reducible first | exact HB.out | apply below_alloc | apply pw_below_drewN | apply below_drew1) | exact HB.out))) : w.heap.size ≤ gb217)); have n3_ := Aside0.mk ((by rw [hg]; exact (below_size (by repeat (first | (with_reducible first | exact HB.out | apply below_alloc | apply pw_below_drewN | apply below_drew1) | exact HB.out))) : w.heap.size ≤ gb217)); clear HB; have HB := n0_; have BK217 := n1_; have GW217 := n2_; have GE217 := n3_; clear n0_ n1_ n2_ n3_; clear hb hbox hg; have hcz16_0 : w15.cell? ⟨gb217, 0, none⟩ = some (.int .i64 a0_0) := (blk_cell BK217.out 0).trans rfl; have hcz16_1 : w15.cell? ⟨gb217, 1, none⟩ = some (.string a0_1) := (blk_cell BK217.out 1).trans rfl; have hcz16_2 : w15.cell? ⟨gb217, 2, none⟩ = some (.int .i64 a0_2) := (blk_cell BK217.out 2).trans rfl; have hcz16_3 : w15.cell? ⟨gb217, 3, none⟩ = some (.int .i64 a0_3) := (blk_cell BK217.out 3).trans rfl; have hcz16_4 : w15.cell? ⟨gb217, 4, none⟩ = some (.int .i64 a0_4) := (blk_cell BK217.out 4).trans rfl; have hcz16_5 : w15.cell? ⟨gb217, 5, none⟩ = some (.int .i64 a0_5) := (blk_cell BK217.out 5).trans rfl; have hcz16_6 : w15.cell? ⟨gb217, 6, none⟩ = some (.int .i64 a0_6) := (blk_cell BK217.out 6).trans rfl; have hcz16_7 : w15.cell? ⟨gb217, 7, none⟩ = some (.int .i64 a0_7) := (blk_cell BK217.out 7).trans rfl; have hcz16_8 : w15.cell? ⟨gb217, 8, none⟩ = some (.int .i64 a0_8) := (blk_cell BK217.out 8).trans rfl; have hfz16_0 := blk_frozen BK217.out 0; have hfz16_1 := blk_frozen BK217.out 1; have hfz16_2 := blk_frozen BK217.out 2; have hfz16_3 := blk_frozen BK217.out 3; have hfz16_4 := blk_frozen BK217.out 4; have hfz16_5 := blk_frozen BK217.out 5; have hfz16_6 := blk_frozen BK217.out 6; have hfz16_7 := blk_frozen BK217.out 7; have hfz16_8 := blk_frozen BK217.out 8))
        go_ret
        exact ⟨by first | rfl | (simp [errW_none, errW_some] <;> rfl) | (simp [*, errW_none, errW_some] <;> rfl), by repeat (first | (with_reducible first | exact HB.out | apply below_alloc | apply pw_below_drewN | apply below_drew1 | refine below_set ?_ GE217.out) | exact HB.out)⟩
    · rw [if_neg c8] at H
      have c8b0 : (a0_2 == a2) = false := beq_eq_false_iff_ne.mpr c8
      have c8b1 : (a0_2 != a2) = true := bne_iff_ne.mpr c8
      obtain rfl := Option.some.inj H
      go_enter Try.func76, Try.ntmps76
      go_wp2_with (first | ((with_reducible refine gate_dst (N := 6) rfl ?_); refine box_event ?hg (N := 6) ?hd (cs := #[.int .i64 a0_0, .string a0_1, .int .i64 a0_2, .int .i64 a0_3, .int .i64 a0_4, .int .i64 a0_5, .int .i64 a0_6, .int .i64 a0_7, .int .i64 a0_8]) (t := 71) ?hr ?_; (case hd => rfl); (case hg => rfl); (case hr => first | (go_simp; done) | (go_simp; rfl)); intro gb217 hg w17 hbox hb; have n0_ := Aside0.mk (below_step (by repeat (first | (with_reducible first | exact HB.out | apply below_alloc | apply pw_below_drewN | apply below_drew1) | exact HB.out)) hb); have n1_ := Aside0.mk (hbox); have n2_ := Aside0.mk ((by rw [hg]; exact (below_size (by repeat (first | (with_reducible first | exact HB.out | apply below_alloc | apply pw_below_drewN | apply below_drew1) | exact HB.out))) : w.heap.size ≤ gb217)); have n3_ := Aside0.mk ((by rw [hg]; exact (below_size (by repeat (first | (with_reducible first | exact HB.out | apply below_alloc | apply pw_below_drewN | apply below_drew1) | exact HB.out))) : w.heap.size ≤ gb217)); clear HB; have HB := n0_; have BK217 := n1_; have GW217 := n2_; have GE217 := n3_; clear n0_ n1_ n2_ n3_; clear hb hbox hg; have hcz18_0 : w17.cell? ⟨gb217, 0, none⟩ = some (.int .i64 a0_0) := (blk_cell BK217.out 0).trans rfl; have hcz18_1 : w17.cell? ⟨gb217, 1, none⟩ = some (.string a0_1) := (blk_cell BK217.out 1).trans rfl; have hcz18_2 : w17.cell? ⟨gb217, 2, none⟩ = some (.int .i64 a0_2) := (blk_cell BK217.out 2).trans rfl; have hcz18_3 : w17.cell? ⟨gb217, 3, none⟩ = some (.int .i64 a0_3) := (blk_cell BK217.out 3).trans rfl; have hcz18_4 : w17.cell? ⟨gb217, 4, none⟩ = some (.int .i64 a0_4) := (blk_cell BK217.out 4).trans rfl; have hcz18_5 : w17.cell? ⟨gb217, 5, none⟩ = some (.int .i64 a0_5) := (blk_cell BK217.out 5).trans rfl; have hcz18_6 : w17.cell? ⟨gb217, 6, none⟩ = some (.int .i64 a0_6) := (blk_cell BK217.out 6).trans rfl; have hcz18_7 : w17.cell? ⟨gb217, 7, none⟩ = some (.int .i64 a0_7) := (blk_cell BK217.out 7).trans rfl; have hcz18_8 : w17.cell? ⟨gb217, 8, none⟩ = some (.int .i64 a0_8) := (blk_cell BK217.out 8).trans rfl; have hfz18_0 := blk_frozen BK217.out 0; have hfz18_1 := blk_frozen BK217.out 1; have hfz18_2 := blk_frozen BK217.out 2; have hfz18_3 := blk_frozen BK217.out 3; have hfz18_4 := blk_frozen BK217.out 4; have hfz18_5 := blk_frozen BK217.out 5; have hfz18_6 := blk_frozen BK217.out 6; have hfz18_7 := blk_frozen BK217.out 7; have hfz18_8 := blk_frozen BK217.out 8))
      go_ret
      exact ⟨by first | rfl | (simp [errW_none, errW_some] <;> rfl) | (simp [*, errW_none, errW_some] <;> rfl), by repeat (first | (with_reducible first | exact HB.out | apply below_alloc | apply pw_below_drewN | apply below_drew1 | refine below_set ?_ GE217.out) | exact HB.out)⟩
  · rw [if_neg c7] at H
    have c7b0 : (a0_0 == a1) = false := beq_eq_false_iff_ne.mpr c7
    have c7b1 : (a0_0 != a1) = true := bne_iff_ne.mpr c7
    obtain rfl := Option.some.inj H
    go_enter Try.func76, Try.ntmps76
    go_wp2_with (first | ((with_reducible refine gate_dst (N := 6) rfl ?_); refine box_event ?hg (N := 6) ?hd (cs := #[.int .i64 a0_0, .string a0_1, .int .i64 a0_2, .int .i64 a0_3, .int .i64 a0_4, .int .i64 a0_5, .int .i64 a0_6, .int .i64 a0_7, .int .i64 a0_8]) (t := 71) ?hr ?_; (case hd => rfl); (case hg => rfl); (case hr => first | (go_simp; done) | (go_simp; rfl)); intro gb217 hg w19 hbox hb; have n0_ := Aside0.mk (below_step (by repeat (first | (with_reducible first | exact HB.out | apply below_alloc | apply pw_below_drewN | apply below_drew1) | exact HB.out)) hb); have n1_ := Aside0.mk (hbox); have n2_ := Aside0.mk ((by rw [hg]; exact (below_size (by repeat (first | (with_reducible first | exact HB.out | apply below_alloc | apply pw_below_drewN | apply below_drew1) | exact HB.out))) : w.heap.size ≤ gb217)); have n3_ := Aside0.mk ((by rw [hg]; exact (below_size (by repeat (first | (with_reducible first | exact HB.out | apply below_alloc | apply pw_below_drewN | apply below_drew1) | exact HB.out))) : w.heap.size ≤ gb217)); clear HB; have HB := n0_; have BK217 := n1_; have GW217 := n2_; have GE217 := n3_; clear n0_ n1_ n2_ n3_; clear hb hbox hg; have hcz20_0 : w19.cell? ⟨gb217, 0, none⟩ = some (.int .i64 a0_0) := (blk_cell BK217.out 0).trans rfl; have hcz20_1 : w19.cell? ⟨gb217, 1, none⟩ = some (.string a0_1) := (blk_cell BK217.out 1).trans rfl; have hcz20_2 : w19.cell? ⟨gb217, 2, none⟩ = some (.int .i64 a0_2) := (blk_cell BK217.out 2).trans rfl; have hcz20_3 : w19.cell? ⟨gb217, 3, none⟩ = some (.int .i64 a0_3) := (blk_cell BK217.out 3).trans rfl; have hcz20_4 : w19.cell? ⟨gb217, 4, none⟩ = some (.int .i64 a0_4) := (blk_cell BK217.out 4).trans rfl; have hcz20_5 : w19.cell? ⟨gb217, 5, none⟩ = some (.int .i64 a0_5) := (blk_cell BK217.out 5).trans rfl; have hcz20_6 : w19.cell? ⟨gb217, 6, none⟩ = some (.int .i64 a0_6) := (blk_cell BK217.out 6).trans rfl; have hcz20_7 : w19.cell? ⟨gb217, 7, none⟩ = some (.int .i64 a0_7) := (blk_cell BK217.out 7).trans rfl; have hcz20_8 : w19.cell? ⟨gb217, 8, none⟩ = some (.int .i64 a0_8) := (blk_cell BK217.out 8).trans rfl; have hfz20_0 := blk_frozen BK217.out 0; have hfz20_1 := blk_frozen BK217.out 1; have hfz20_2 := blk_frozen BK217.out 2; have hfz20_3 := blk_frozen BK217.out 3; have hfz20_4 := blk_frozen BK217.out 4; have hfz20_5 := blk_frozen BK217.out 5; have hfz20_6 := blk_frozen BK217.out 6; have hfz20_7 := blk_frozen BK217.out 7; have hfz20_8 := blk_frozen BK217.out 8))
    go_ret
    exact ⟨by first | rfl | (simp [errW_none, errW_some] <;> rfl) | (simp [*, errW_none, errW_some] <;> rfl), by repeat (first | (with_reducible first | exact HB.out | apply below_alloc | apply pw_below_drewN | apply below_drew1 | refine below_set ?_ GE217.out) | exact HB.out)⟩
end
end Go.Proofs.Ytlpkldomoniegaa.X
