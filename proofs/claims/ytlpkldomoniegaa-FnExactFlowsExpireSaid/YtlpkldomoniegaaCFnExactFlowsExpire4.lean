/- Texts that the row of FnExactFlowsExpire stands on: functions of the program and of the reference, each as a Lean function with the same answers, and the plain lemmas. Conditions: none beside those that each theorem names. -/
import Derived.Test.YtlpkldomoniegaaCFnExactFlowsExpire3
namespace Go.Proofs.Ytlpkldomoniegaa.X
open Go.RowKit Go.Proofs.YtlpkldomoniegaaW.PrintWords Go.Proofs.YtlpkldomoniegaaW.PrintLast Go.Proofs.YtlpkldomoniegaaW.PrintMore
attribute [local go_sem] max2_int min2_int max_two min_two max_three min_three max_four min_four   -- for this text's walks alone
set_option linter.unusedVariables false
set_option linter.unusedSimpArgs false
section
/-! ### laws_heldFlowS: function 48 -/
def laws_heldFlowS.l0 : Nat → List (S71) → Int → Int → Option (Int)
  | 0, _, _, _ => none
  | k + 1, x0, x1, x5 => if x5 < (x0.length : Int) then (if 0 ≤ x5 then (if ((rd_T71 x0 x5).f0) = x1 then ((laws_markText.f k (wrap64 (x1 + 1))).bind fun t874 => (if ((rd_T71 x0 x5).f1).toList = t874.toList then (if ((rd_T71 x0 x5).f2) = (wrap64 ((wrap64 (x1 + 1)) + 1)) then (if ((rd_T71 x0 x5).f3) = (wrap64 ((wrap64 ((wrap64 (x1 + 1)) + 1)) + 1)) then (if ((rd_T71 x0 x5).f4) = (wrap64 ((wrap64 ((wrap64 ((wrap64 (x1 + 1)) + 1)) + 1)) + 1)) then (if ((rd_T71 x0 x5).f5) = (wrap64 ((wrap64 ((wrap64 ((wrap64 ((wrap64 (x1 + 1)) + 1)) + 1)) + 1)) + 1)) then (if ((rd_T71 x0 x5).f6) = (wrap64 ((wrap64 ((wrap64 ((wrap64 ((wrap64 ((wrap64 (x1 + 1)) + 1)) + 1)) + 1)) + 1)) + 1)) then (if ((rd_T71 x0 x5).f7) = (wrap64 ((wrap64 ((wrap64 ((wrap64 ((wrap64 ((wrap64 ((wrap64 (x1 + 1)) + 1)) + 1)) + 1)) + 1)) + 1)) + 1)) then (if ((rd_T71 x0 x5).f8) = (wrap64 ((wrap64 ((wrap64 ((wrap64 ((wrap64 ((wrap64 ((wrap64 ((wrap64 (x1 + 1)) + 1)) + 1)) + 1)) + 1)) + 1)) + 1)) + 1)) then (laws_heldFlowS.l0 k x0 (wrap64 ((wrap64 ((wrap64 ((wrap64 ((wrap64 ((wrap64 ((wrap64 ((wrap64 ((wrap64 (x1 + 1)) + 1)) + 1)) + 1)) + 1)) + 1)) + 1)) + 1)) + 1)) (wrap64 (x5 + 1))) else (some (-1))) else (some (-1))) else (some (-1))) else (some (-1))) else (some (-1))) else (some (-1))) else (some (-1))) else (some (-1)))) else (some (-1))) else (none)) else (some x1)
def laws_heldFlowS.f (k : Nat) (l0 : List (S71)) (a1 : Int) : Option (Int) := laws_heldFlowS.l0 k l0 a1 0
theorem laws_heldFlowS.mono_l : ∀ k, (∀ y0 y1 y2, LeO (laws_heldFlowS.l0 k y0 y1 y2) (laws_heldFlowS.l0 (k + 1) y0 y1 y2))
  | 0 => fun _ _ _ r h => by simp [laws_heldFlowS.l0] at h
  | k + 1 => by
    have ih0 := laws_heldFlowS.mono_l k
    · intro y0 y1 y2
      unfold laws_heldFlowS.l0
      repeat' first
      | (with_reducible exact ih0 _ _ _)
      | (with_reducible exact laws_markText.mono ..)
      | (with_reducible exact LeO.refl _)
      | (with_reducible exact LeO.none _)
      | (with_reducible refine LeO.ite ?_ ?_)
      | (with_reducible refine LeO.bind ?_ (fun _ => ?_))
      | exact ih0 _ _ _
      | exact laws_markText.mono ..
      | exact LeO.none _
      | refine LeO.ite ?_ ?_
      | refine LeO.bind ?_ (fun _ => ?_)
theorem laws_heldFlowS.mono : ∀ a0 a1 k, LeO (laws_heldFlowS.f k a0 a1) (laws_heldFlowS.f (k + 1) a0 a1) := by
  intro a0 a1 k
  have ih0 := laws_heldFlowS.mono_l k
  unfold laws_heldFlowS.f
  repeat' first
      | (with_reducible exact ih0 _ _ _)
      | (with_reducible exact laws_markText.mono ..)
      | (with_reducible exact LeO.refl _)
      | (with_reducible exact LeO.none _)
      | (with_reducible refine LeO.ite ?_ ?_)
      | (with_reducible refine LeO.bind ?_ (fun _ => ?_))
      | exact ih0 _ _ _
      | exact laws_markText.mono ..
      | exact LeO.none _
      | refine LeO.ite ?_ ?_
      | refine LeO.bind ?_ (fun _ => ?_)
def laws_heldFlowS.T7 : Bool × List (List Nat × List Nat) := (true, [([], []), ([], []), ([0, 1], [0, 1]), ([2], [2]), ([3], [3]), ([], []), ([5], [5]), ([4, 6], [4, 6])])
def laws_heldFlowS.B7 : List Nat := [0, 0, 3, 7, 15, 0, 32, 127]
theorem laws_heldFlowS.tab7 : rtab .any (opsOf Try.f48 7) = laws_heldFlowS.T7 := by kernel_rfl
theorem laws_heldFlowS.bits7 : waitsOk laws_heldFlowS.T7.2 laws_heldFlowS.B7 = true := by kernel_rfl
set_option maxHeartbeats 8000000 in
set_option maxRecDepth 100000 in
theorem laws_heldFlowS.calls (k : Nat) (A0 : Option Addr) (c0 : Nat) (l0 : List (S71)) (a1 : Int) (r : Int) (w : World) (hr0 : Kd.C k71 w A0 l0.length l0) (hc0 : l0.length ≤ c0) (h : laws_heldFlowS.f k l0 a1 = some r) :
    Calls Try.prog 48 #[.slice A0 l0.length c0, .int .i64 a1] w fun e w' => e = .returned (.int .i64 r) ∧ Below w.heap.size w w' := by
  have HR0 := Aside0.mk hr0
  have HC0 := Aside0.mk hc0
  clear hr0 hc0
  have HB := Aside0.mk (Below.refl w.heap.size w)
  have H : (laws_heldFlowS.l0 k l0 a1 0) = some r := h
  clear h
  have H' := Aside0.mk H
  clear H
  go_enter Try.func48, Try.ntmps48
  go_wp2
  go_loopg [1, 5] k (fun kq v1 v5 w' => ∃ (x1_1 : Int) (x5_1 : Int), v1 = .int .i64 x1_1 ∧ v5 = .int .i64 x5_1 ∧ Aside0 (laws_heldFlowS.l0 kq l0 x1_1 x5_1 = some r) ∧ Aside0 (kq ≤ k) ∧ Aside0 (Below w.heap.size w w'))
  case atStart => exact ⟨(a1), (0), (by first | rfl | (simp; done) | (simp [*]; done) | (simp [ne_nil_b]; done) | (simp [ne_nil_b, *]; done)), (by first | rfl | (simp; done) | (simp [*]; done) | (simp [ne_nil_b]; done) | (simp [ne_nil_b, *]; done)), H', ⟨Nat.le_refl _⟩, ⟨by repeat (first | (with_reducible first | exact HB.out | apply below_alloc | apply pw_below_drewN | apply below_drew1) | exact HB.out)⟩⟩
  case round =>
    clear H'
    try clear p2
    obtain ⟨x1_1, x5_1, rfl, rfl, HA, HK1, HB⟩ := hrel
    cases gk with
    | zero => exact absurd HA.out (by simp [laws_heldFlowS.l0])
    | succ k1 =>
      have H := HA.out
      clear HA
      simp only [laws_heldFlowS.l0] at H
      by_cases c3 : x5_1 < (l0.length : Int)
      · rw [if_pos c3] at H
        have c3b0 : decide (x5_1 < (l0.length : Int)) = true := decide_eq_true c3
        clear c3
        by_cases c4 : 0 ≤ x5_1
        · rw [if_pos c4] at H
          have c4b0 : decide (0 ≤ x5_1) = true := decide_eq_true c4
          clear c4
          by_cases c5 : ((rd_T71 l0 x5_1).f0) = x1_1
          · rw [if_pos c5] at H
            have c5b0 : (((rd_T71 l0 x5_1).f0) == x1_1) = true := beq_iff_eq.mpr c5
            have c5b1 : (((rd_T71 l0 x5_1).f0) != x1_1) = false := bne_eq_false_iff_eq.mpr c5
            clear c5
            replace H := Option.bind_eq_some_iff.mp H
            obtain ⟨t874, A60, H⟩ := H
            replace H : (if ((rd_T71 l0 x5_1).f1).toList = t874.toList then (if ((rd_T71 l0 x5_1).f2) = (wrap64 ((wrap64 (x1_1 + 1)) + 1)) then (if ((rd_T71 l0 x5_1).f3) = (wrap64 ((wrap64 ((wrap64 (x1_1 + 1)) + 1)) + 1)) then (if ((rd_T71 l0 x5_1).f4) = (wrap64 ((wrap64 ((wrap64 ((wrap64 (x1_1 + 1)) + 1)) + 1)) + 1)) then (if ((rd_T71 l0 x5_1).f5) = (wrap64 ((wrap64 ((wrap64 ((wrap64 ((wrap64 (x1_1 + 1)) + 1)) + 1)) + 1)) + 1)) then (if ((rd_T71 l0 x5_1).f6) = (wrap64 ((wrap64 ((wrap64 ((wrap64 ((wrap64 ((wrap64 (x1_1 + 1)) + 1)) + 1)) + 1)) + 1)) + 1)) then (if ((rd_T71 l0 x5_1).f7) = (wrap64 ((wrap64 ((wrap64 ((wrap64 ((wrap64 ((wrap64 ((wrap64 (x1_1 + 1)) + 1)) + 1)) + 1)) + 1)) + 1)) + 1)) then (if ((rd_T71 l0 x5_1).f8) = (wrap64 ((wrap64 ((wrap64 ((wrap64 ((wrap64 ((wrap64 ((wrap64 ((wrap64 (x1_1 + 1)) + 1)) + 1)) + 1)) + 1)) + 1)) + 1)) + 1)) then (laws_heldFlowS.l0 k1 l0 (wrap64 ((wrap64 ((wrap64 ((wrap64 ((wrap64 ((wrap64 ((wrap64 ((wrap64 ((wrap64 (x1_1 + 1)) + 1)) + 1)) + 1)) + 1)) + 1)) + 1)) + 1)) + 1)) (wrap64 (x5_1 + 1))) else (some (-1))) else (some (-1))) else (some (-1))) else (some (-1))) else (some (-1))) else (some (-1))) else (some (-1))) else (some (-1))) = some r := H
            have A6 := Aside0.mk A60
            clear A60
            by_cases c7 : ((rd_T71 l0 x5_1).f1).toList = t874.toList
            · rw [if_pos c7] at H
              have c7b0 : (((rd_T71 l0 x5_1).f1).toList == t874.toList) = true := beq_iff_eq.mpr c7
              have c7b1 : (((rd_T71 l0 x5_1).f1).toList != t874.toList) = false := bne_eq_false_iff_eq.mpr c7
              clear c7
              by_cases c8 : ((rd_T71 l0 x5_1).f2) = (wrap64 ((wrap64 (x1_1 + 1)) + 1))
              · rw [if_pos c8] at H
                have c8b0 : (((rd_T71 l0 x5_1).f2) == (wrap64 ((wrap64 (x1_1 + 1)) + 1))) = true := beq_iff_eq.mpr c8
                have c8b1 : (((rd_T71 l0 x5_1).f2) != (wrap64 ((wrap64 (x1_1 + 1)) + 1))) = false := bne_eq_false_iff_eq.mpr c8
                clear c8
                by_cases c9 : ((rd_T71 l0 x5_1).f3) = (wrap64 ((wrap64 ((wrap64 (x1_1 + 1)) + 1)) + 1))
                · rw [if_pos c9] at H
                  have c9b0 : (((rd_T71 l0 x5_1).f3) == (wrap64 ((wrap64 ((wrap64 (x1_1 + 1)) + 1)) + 1))) = true := beq_iff_eq.mpr c9
                  have c9b1 : (((rd_T71 l0 x5_1).f3) != (wrap64 ((wrap64 ((wrap64 (x1_1 + 1)) + 1)) + 1))) = false := bne_eq_false_iff_eq.mpr c9
                  clear c9
                  by_cases c10 : ((rd_T71 l0 x5_1).f4) = (wrap64 ((wrap64 ((wrap64 ((wrap64 (x1_1 + 1)) + 1)) + 1)) + 1))
                  · rw [if_pos c10] at H
                    have c10b0 : (((rd_T71 l0 x5_1).f4) == (wrap64 ((wrap64 ((wrap64 ((wrap64 (x1_1 + 1)) + 1)) + 1)) + 1))) = true := beq_iff_eq.mpr c10
                    have c10b1 : (((rd_T71 l0 x5_1).f4) != (wrap64 ((wrap64 ((wrap64 ((wrap64 (x1_1 + 1)) + 1)) + 1)) + 1))) = false := bne_eq_false_iff_eq.mpr c10
                    clear c10
                    by_cases c11 : ((rd_T71 l0 x5_1).f5) = (wrap64 ((wrap64 ((wrap64 ((wrap64 ((wrap64 (x1_1 + 1)) + 1)) + 1)) + 1)) + 1))
                    · rw [if_pos c11] at H
                      have c11b0 : (((rd_T71 l0 x5_1).f5) == (wrap64 ((wrap64 ((wrap64 ((wrap64 ((wrap64 (x1_1 + 1)) + 1)) + 1)) + 1)) + 1))) = true := beq_iff_eq.mpr c11
                      have c11b1 : (((rd_T71 l0 x5_1).f5) != (wrap64 ((wrap64 ((wrap64 ((wrap64 ((wrap64 (x1_1 + 1)) + 1)) + 1)) + 1)) + 1))) = false := bne_eq_false_iff_eq.mpr c11
                      clear c11
                      by_cases c12 : ((rd_T71 l0 x5_1).f6) = (wrap64 ((wrap64 ((wrap64 ((wrap64 ((wrap64 ((wrap64 (x1_1 + 1)) + 1)) + 1)) + 1)) + 1)) + 1))
                      · rw [if_pos c12] at H
                        have c12b0 : (((rd_T71 l0 x5_1).f6) == (wrap64 ((wrap64 ((wrap64 ((wrap64 ((wrap64 ((wrap64 (x1_1 + 1)) + 1)) + 1)) + 1)) + 1)) + 1))) = true := beq_iff_eq.mpr c12
                        have c12b1 : (((rd_T71 l0 x5_1).f6) != (wrap64 ((wrap64 ((wrap64 ((wrap64 ((wrap64 ((wrap64 (x1_1 + 1)) + 1)) + 1)) + 1)) + 1)) + 1))) = false := bne_eq_false_iff_eq.mpr c12
                        clear c12
                        by_cases c13 : ((rd_T71 l0 x5_1).f7) = (wrap64 ((wrap64 ((wrap64 ((wrap64 ((wrap64 ((wrap64 ((wrap64 (x1_1 + 1)) + 1)) + 1)) + 1)) + 1)) + 1)) + 1))
                        · rw [if_pos c13] at H
                          have c13b0 : (((rd_T71 l0 x5_1).f7) == (wrap64 ((wrap64 ((wrap64 ((wrap64 ((wrap64 ((wrap64 ((wrap64 (x1_1 + 1)) + 1)) + 1)) + 1)) + 1)) + 1)) + 1))) = true := beq_iff_eq.mpr c13
                          have c13b1 : (((rd_T71 l0 x5_1).f7) != (wrap64 ((wrap64 ((wrap64 ((wrap64 ((wrap64 ((wrap64 ((wrap64 (x1_1 + 1)) + 1)) + 1)) + 1)) + 1)) + 1)) + 1))) = false := bne_eq_false_iff_eq.mpr c13
                          clear c13
                          by_cases c14 : ((rd_T71 l0 x5_1).f8) = (wrap64 ((wrap64 ((wrap64 ((wrap64 ((wrap64 ((wrap64 ((wrap64 ((wrap64 (x1_1 + 1)) + 1)) + 1)) + 1)) + 1)) + 1)) + 1)) + 1))
                          · rw [if_pos c14] at H
                            have c14b0 : (((rd_T71 l0 x5_1).f8) == (wrap64 ((wrap64 ((wrap64 ((wrap64 ((wrap64 ((wrap64 ((wrap64 ((wrap64 (x1_1 + 1)) + 1)) + 1)) + 1)) + 1)) + 1)) + 1)) + 1))) = true := beq_iff_eq.mpr c14
                            have c14b1 : (((rd_T71 l0 x5_1).f8) != (wrap64 ((wrap64 ((wrap64 ((wrap64 ((wrap64 ((wrap64 ((wrap64 ((wrap64 (x1_1 + 1)) + 1)) + 1)) + 1)) + 1)) + 1)) + 1)) + 1))) = false := bne_eq_false_iff_eq.mpr c14
                            clear c14
                            have H' := Aside0.mk H
                            clear H
                            have p872 : 0 ≤ (x5_1 : Int) := of_decide_eq_true (by first | (with_reducible assumption) | assumption)
                            have q872 : x5_1 < (l0.length : Int) := of_decide_eq_true (by first | (with_reducible assumption) | assumption)
                            obtain ⟨ad872, e872, hx872_0, hx872_1, hx872_2, hx872_3, hx872_4, hx872_5, hx872_6, hx872_7, hx872_8⟩ := at_T71 HR0.out x5_1 p872 q872
                            cases e872
                            replace hx872_0 := (HB.out.cell (World.block_lt_of_cell? w _ hx872_0)).trans hx872_0
                            replace hx872_1 := (HB.out.cell (World.block_lt_of_cell? w _ hx872_1)).trans hx872_1
                            replace hx872_2 := (HB.out.cell (World.block_lt_of_cell? w _ hx872_2)).trans hx872_2
                            replace hx872_3 := (HB.out.cell (World.block_lt_of_cell? w _ hx872_3)).trans hx872_3
                            replace hx872_4 := (HB.out.cell (World.block_lt_of_cell? w _ hx872_4)).trans hx872_4
                            replace hx872_5 := (HB.out.cell (World.block_lt_of_cell? w _ hx872_5)).trans hx872_5
                            replace hx872_6 := (HB.out.cell (World.block_lt_of_cell? w _ hx872_6)).trans hx872_6
                            replace hx872_7 := (HB.out.cell (World.block_lt_of_cell? w _ hx872_7)).trans hx872_7
                            replace hx872_8 := (HB.out.cell (World.block_lt_of_cell? w _ hx872_8)).trans hx872_8
                            replace p872 := eq_true p872
                            replace q872 := eq_true q872
                            try go_wp2
                            have n0_ := Aside0.mk (below_drew1 HB.out)
                            clear HB
                            have HB := n0_
                            clear n0_
                            have p873 : 0 ≤ (x5_1 : Int) := of_decide_eq_true (by first | (with_reducible assumption) | assumption)
                            have q873 : x5_1 < (l0.length : Int) := of_decide_eq_true (by first | (with_reducible assumption) | assumption)
                            obtain ⟨ad873, e873, hx873_0, hx873_1, hx873_2, hx873_3, hx873_4, hx873_5, hx873_6, hx873_7, hx873_8⟩ := at_T71 HR0.out x5_1 p873 q873
                            have hw873_8 := hx873_8
                            have hw873_7 := hx873_7
                            have hw873_6 := hx873_6
                            have hw873_5 := hx873_5
                            have hw873_4 := hx873_4
                            have hw873_3 := hx873_3
                            have hw873_2 := hx873_2
                            have hw873_1 := hx873_1
                            have hw873_0 := hx873_0
                            obtain rfl : ad872 = ad873 := (by injection e873)
                            replace hx873_0 := (HB.out.cell (World.block_lt_of_cell? w _ hx873_0)).trans hx873_0
                            replace hx873_1 := (HB.out.cell (World.block_lt_of_cell? w _ hx873_1)).trans hx873_1
                            replace hx873_2 := (HB.out.cell (World.block_lt_of_cell? w _ hx873_2)).trans hx873_2
                            replace hx873_3 := (HB.out.cell (World.block_lt_of_cell? w _ hx873_3)).trans hx873_3
                            replace hx873_4 := (HB.out.cell (World.block_lt_of_cell? w _ hx873_4)).trans hx873_4
                            replace hx873_5 := (HB.out.cell (World.block_lt_of_cell? w _ hx873_5)).trans hx873_5
                            replace hx873_6 := (HB.out.cell (World.block_lt_of_cell? w _ hx873_6)).trans hx873_6
                            replace hx873_7 := (HB.out.cell (World.block_lt_of_cell? w _ hx873_7)).trans hx873_7
                            replace hx873_8 := (HB.out.cell (World.block_lt_of_cell? w _ hx873_8)).trans hx873_8
                            replace p873 := eq_true p873
                            replace q873 := eq_true q873
                            refine start_ (n := 8) (S := fun w' => w'.cell? (ad872.add ((x5_1).toNat * 9)) = some (.int .i64 ((rd_T71 l0 x5_1).f0)) ∧ w'.cell? ⟨(ad872.add ((x5_1).toNat * 9)).block, (ad872.add ((x5_1).toNat * 9)).off + 1, none⟩ = some (.string ((rd_T71 l0 x5_1).f1)) ∧ w'.cell? ⟨(ad872.add ((x5_1).toNat * 9)).block, (ad872.add ((x5_1).toNat * 9)).off + 2, none⟩ = some (.int .i64 ((rd_T71 l0 x5_1).f2)) ∧ w'.cell? ⟨(ad872.add ((x5_1).toNat * 9)).block, (ad872.add ((x5_1).toNat * 9)).off + 3, none⟩ = some (.int .i64 ((rd_T71 l0 x5_1).f3)) ∧ w'.cell? ⟨(ad872.add ((x5_1).toNat * 9)).block, (ad872.add ((x5_1).toNat * 9)).off + 4, none⟩ = some (.int .i64 ((rd_T71 l0 x5_1).f4)) ∧ w'.cell? ⟨(ad872.add ((x5_1).toNat * 9)).block, (ad872.add ((x5_1).toNat * 9)).off + 5, none⟩ = some (.int .i64 ((rd_T71 l0 x5_1).f5)) ∧ w'.cell? ⟨(ad872.add ((x5_1).toNat * 9)).block, (ad872.add ((x5_1).toNat * 9)).off + 6, none⟩ = some (.int .i64 ((rd_T71 l0 x5_1).f6)) ∧ w'.cell? ⟨(ad872.add ((x5_1).toNat * 9)).block, (ad872.add ((x5_1).toNat * 9)).off + 7, none⟩ = some (.int .i64 ((rd_T71 l0 x5_1).f7)) ∧ w'.cell? ⟨(ad872.add ((x5_1).toNat * 9)).block, (ad872.add ((x5_1).toNat * 9)).off + 8, none⟩ = some (.int .i64 ((rd_T71 l0 x5_1).f8))) (ds := []) #[false, false, false, false, false, false, false, false] (by kernel_rfl) rfl rfl ⟨((HB.out.cell (World.block_lt_of_cell? w _ hw873_0)).trans hw873_0), ((HB.out.cell (World.block_lt_of_cell? w _ hw873_1)).trans hw873_1), ((HB.out.cell (World.block_lt_of_cell? w _ hw873_2)).trans hw873_2), ((HB.out.cell (World.block_lt_of_cell? w _ hw873_3)).trans hw873_3), ((HB.out.cell (World.block_lt_of_cell? w _ hw873_4)).trans hw873_4), ((HB.out.cell (World.block_lt_of_cell? w _ hw873_5)).trans hw873_5), ((HB.out.cell (World.block_lt_of_cell? w _ hw873_6)).trans hw873_6), ((HB.out.cell (World.block_lt_of_cell? w _ hw873_7)).trans hw873_7), ((HB.out.cell (World.block_lt_of_cell? w _ hw873_8)).trans hw873_8)⟩ (fun hHeld => ?_); refine with_tabW laws_heldFlowS.tab7 laws_heldFlowS.bits7 (fun HT_ HW_ => ?_)
                            generalize wr.drew = w15 at HB hx873_0 hx873_1 hx873_2 hx873_3 hx873_4 hx873_5 hx873_6 hx873_7 hx873_8 hHeld ⊢
                            refine pure_ (i := 0) (N := some 21) (v := ?_) (a' := ?_) #[true, false, false, false, false, false, false, false] rfl rfl (any_of HT_.out (by kernel_rfl)) (fun _ _ _ h => h) (Or.inl ⟨by rfl, ?_⟩) ?_ ?_
                            rotate_left
                            · intro w'
                              go_simp
                              with_reducible rfl
                            rotate_left
                            · simp only [Act.put, List.setIfInBounds_toArray, List.set_cons_zero, List.set_cons_succ, i64_w, i32_w]
                              rfl
                            refine pure_ (i := 1) (N := some 22) (v := ?_) (a' := ?_) #[true, true, false, false, false, false, false, false] rfl rfl (any_of HT_.out (by kernel_rfl)) (fun _ _ _ h => h) (Or.inl ⟨by rfl, ?_⟩) ?_ ?_
                            rotate_left
                            · intro w'
                              go_simp
                              with_reducible rfl
                            rotate_left
                            · simp only [Act.put, List.setIfInBounds_toArray, List.set_cons_zero, List.set_cons_succ, i64_w, i32_w]
                              rfl
                            refine pure_ (i := 2) (N := some 23) (v := ?_) (a' := ?_) #[true, true, true, false, false, false, false, false] rfl rfl (any_of HT_.out (by kernel_rfl)) (fun _ _ _ h => h) (Or.inl ⟨by rfl, ?_⟩) ?_ ?_
                            rotate_left
                            · intro w'
                              go_simp
                              with_reducible rfl
                            rotate_left
                            · simp only [Act.put, List.setIfInBounds_toArray, List.set_cons_zero, List.set_cons_succ, i64_w, i32_w]
                              rfl
                            refine pure_ (i := 3) (N := some 24) (v := ?_) (a' := ?_) #[true, true, true, true, false, false, false, false] rfl rfl (any_of HT_.out (by kernel_rfl)) (fun _ _ _ h => h) (Or.inl ⟨by rfl, ?_⟩) ?_ ?_
                            rotate_left
                            · intro w'
                              go_simp
                              with_reducible rfl
                            rotate_left
                            · simp only [Act.put, List.setIfInBounds_toArray, List.set_cons_zero, List.set_cons_succ, i64_w, i32_w]
                              rfl
                            refine pure_ (i := 5) (N := some 26) (v := ?_) (a' := ?_) #[true, true, true, true, false, true, false, false] rfl rfl (any_of HT_.out (by kernel_rfl)) (fun _ _ _ h => h) (Or.inl ⟨by rfl, ?_⟩) ?_ ?_
                            rotate_left
                            · intro w'
                              go_simp
                              with_reducible rfl
                            rotate_left
                            · simp only [Act.put, List.setIfInBounds_toArray, List.set_cons_zero, List.set_cons_succ, i64_w, i32_w]
                              rfl
                            refine take_ (i := 4) (N := some 25) (v := ?_) (a' := ?_) #[true, true, true, true, true, true, false, false] rfl rfl (take_ofW HT_.out HW_.out (by kernel_rfl)) (fun _ _ _ h => h) (Or.inl ⟨by rfl, ?_⟩) hHeld ?_ ?_
                            rotate_left
                            · rintro w' ⟨s0, s1, s2, s3, s4, s5, s6, s7, s8⟩
                              go_simp
                              with_reducible rfl
                            rotate_left
                            · simp only [Act.put, List.setIfInBounds_toArray, List.set_cons_zero, List.set_cons_succ, i64_w, i32_w]
                              rfl
                            refine one_ (i := 6) (N := some 27) #[true, true, true, true, true, true, true, false] rfl rfl (one_of HT_.out (by kernel_rfl)) (by decide) (fun K hK => ?_)
                            refine goes_ Try.func89 (by kernel_rfl) rfl #[.int .i64 (wrap64 (x1_1 + 1))] (by rfl) rfl rfl (by (try simp only [List.map_toArray, List.map_cons, List.map_nil]); first | done | rfl | (simp only [List.length_drop, List.length_take]; rfl)) ?_
                            with_reducible refine (laws_markText.calls k1 (wrap64 (x1_1 + 1)) t874 _ A6.out).mono ?_
                            rintro e w16 ⟨rfl, hb⟩
                            refine ⟨_, rfl, ?_⟩
                            have n0_ := Aside0.mk (below_step (by repeat (first | (with_reducible first | exact HB.out | apply below_alloc | apply pw_below_drewN | apply below_drew1) | exact HB.out)) hb)
                            clear HB
                            have HB := n0_
                            clear n0_
                            (try clear hb)
                            (try clear hb2)
                            (try clear hk)
                            (try clear hi)
                            refine hK.out _ _ ⟨((HB.out.cell (World.block_lt_of_cell? w _ hw873_0)).trans hw873_0), ((HB.out.cell (World.block_lt_of_cell? w _ hw873_1)).trans hw873_1), ((HB.out.cell (World.block_lt_of_cell? w _ hw873_2)).trans hw873_2), ((HB.out.cell (World.block_lt_of_cell? w _ hw873_3)).trans hw873_3), ((HB.out.cell (World.block_lt_of_cell? w _ hw873_4)).trans hw873_4), ((HB.out.cell (World.block_lt_of_cell? w _ hw873_5)).trans hw873_5), ((HB.out.cell (World.block_lt_of_cell? w _ hw873_6)).trans hw873_6), ((HB.out.cell (World.block_lt_of_cell? w _ hw873_7)).trans hw873_7), ((HB.out.cell (World.block_lt_of_cell? w _ hw873_8)).trans hw873_8)⟩ (fun hHeld => ?_)
                            clear hK K
                            refine norm_ (a' := ?_) ?_ ?_
                            rotate_left
                            · show Act.put _ (some 27) _ = _
                              simp only [Act.put, List.setIfInBounds_toArray, List.set_cons_zero, List.set_cons_succ, i64_w, i32_w]
                              rfl
                            refine pure_ (i := 7) (N := some 28) (v := ?_) (a' := ?_) #[true, true, true, true, true, true, true, true] rfl rfl (any_of HT_.out (by kernel_rfl)) (fun _ _ _ h => h) (Or.inl ⟨by rfl, ?_⟩) ?_ ?_
                            rotate_left
                            · intro w'
                              go_simp
                              with_reducible rfl
                            rotate_left
                            · simp only [Act.put, List.setIfInBounds_toArray, List.set_cons_zero, List.set_cons_succ, i64_w, i32_w]
                              rfl
                            refine done_ (done_of HT_.out (by kernel_rfl)) ?_
                            have p875 : 0 ≤ (x5_1 : Int) := of_decide_eq_true (by first | (with_reducible assumption) | assumption)
                            have q875 : x5_1 < (l0.length : Int) := of_decide_eq_true (by first | (with_reducible assumption) | assumption)
                            obtain ⟨ad875, e875, hx875_0, hx875_1, hx875_2, hx875_3, hx875_4, hx875_5, hx875_6, hx875_7, hx875_8⟩ := at_T71 HR0.out x5_1 p875 q875
                            obtain rfl : ad872 = ad875 := (by injection e875)
                            replace hx875_0 := (HB.out.cell (World.block_lt_of_cell? w _ hx875_0)).trans hx875_0
                            replace hx875_1 := (HB.out.cell (World.block_lt_of_cell? w _ hx875_1)).trans hx875_1
                            replace hx875_2 := (HB.out.cell (World.block_lt_of_cell? w _ hx875_2)).trans hx875_2
                            replace hx875_3 := (HB.out.cell (World.block_lt_of_cell? w _ hx875_3)).trans hx875_3
                            replace hx875_4 := (HB.out.cell (World.block_lt_of_cell? w _ hx875_4)).trans hx875_4
                            replace hx875_5 := (HB.out.cell (World.block_lt_of_cell? w _ hx875_5)).trans hx875_5
                            replace hx875_6 := (HB.out.cell (World.block_lt_of_cell? w _ hx875_6)).trans hx875_6
                            replace hx875_7 := (HB.out.cell (World.block_lt_of_cell? w _ hx875_7)).trans hx875_7
                            replace hx875_8 := (HB.out.cell (World.block_lt_of_cell? w _ hx875_8)).trans hx875_8
                            replace p875 := eq_true p875
                            replace q875 := eq_true q875
                            have p876 : 0 ≤ (x5_1 : Int) := of_decide_eq_true (by first | (with_reducible assumption) | assumption)
                            have q876 : x5_1 < (l0.length : Int) := of_decide_eq_true (by first | (with_reducible assumption) | assumption)
                            obtain ⟨ad876, e876, hx876_0, hx876_1, hx876_2, hx876_3, hx876_4, hx876_5, hx876_6, hx876_7, hx876_8⟩ := at_T71 HR0.out x5_1 p876 q876
                            obtain rfl : ad872 = ad876 := (by injection e876)
                            replace hx876_0 := (HB.out.cell (World.block_lt_of_cell? w _ hx876_0)).trans hx876_0
                            replace hx876_1 := (HB.out.cell (World.block_lt_of_cell? w _ hx876_1)).trans hx876_1
                            replace hx876_2 := (HB.out.cell (World.block_lt_of_cell? w _ hx876_2)).trans hx876_2
                            replace hx876_3 := (HB.out.cell (World.block_lt_of_cell? w _ hx876_3)).trans hx876_3
                            replace hx876_4 := (HB.out.cell (World.block_lt_of_cell? w _ hx876_4)).trans hx876_4
                            replace hx876_5 := (HB.out.cell (World.block_lt_of_cell? w _ hx876_5)).trans hx876_5
                            replace hx876_6 := (HB.out.cell (World.block_lt_of_cell? w _ hx876_6)).trans hx876_6
                            replace hx876_7 := (HB.out.cell (World.block_lt_of_cell? w _ hx876_7)).trans hx876_7
                            replace hx876_8 := (HB.out.cell (World.block_lt_of_cell? w _ hx876_8)).trans hx876_8
                            replace p876 := eq_true p876
                            replace q876 := eq_true q876
                            have p877 : 0 ≤ (x5_1 : Int) := of_decide_eq_true (by first | (with_reducible assumption) | assumption)
                            have q877 : x5_1 < (l0.length : Int) := of_decide_eq_true (by first | (with_reducible assumption) | assumption)
                            obtain ⟨ad877, e877, hx877_0, hx877_1, hx877_2, hx877_3, hx877_4, hx877_5, hx877_6, hx877_7, hx877_8⟩ := at_T71 HR0.out x5_1 p877 q877
                            obtain rfl : ad872 = ad877 := (by injection e877)
                            replace hx877_0 := (HB.out.cell (World.block_lt_of_cell? w _ hx877_0)).trans hx877_0
                            replace hx877_1 := (HB.out.cell (World.block_lt_of_cell? w _ hx877_1)).trans hx877_1
                            replace hx877_2 := (HB.out.cell (World.block_lt_of_cell? w _ hx877_2)).trans hx877_2
                            replace hx877_3 := (HB.out.cell (World.block_lt_of_cell? w _ hx877_3)).trans hx877_3
                            replace hx877_4 := (HB.out.cell (World.block_lt_of_cell? w _ hx877_4)).trans hx877_4
                            replace hx877_5 := (HB.out.cell (World.block_lt_of_cell? w _ hx877_5)).trans hx877_5
                            replace hx877_6 := (HB.out.cell (World.block_lt_of_cell? w _ hx877_6)).trans hx877_6
                            replace hx877_7 := (HB.out.cell (World.block_lt_of_cell? w _ hx877_7)).trans hx877_7
                            replace hx877_8 := (HB.out.cell (World.block_lt_of_cell? w _ hx877_8)).trans hx877_8
                            replace p877 := eq_true p877
                            replace q877 := eq_true q877
                            have p878 : 0 ≤ (x5_1 : Int) := of_decide_eq_true (by first | (with_reducible assumption) | assumption)
                            have q878 : x5_1 < (l0.length : Int) := of_decide_eq_true (by first | (with_reducible assumption) | assumption)
                            obtain ⟨ad878, e878, hx878_0, hx878_1, hx878_2, hx878_3, hx878_4, hx878_5, hx878_6, hx878_7, hx878_8⟩ := at_T71 HR0.out x5_1 p878 q878
                            obtain rfl : ad872 = ad878 := (by injection e878)
                            replace hx878_0 := (HB.out.cell (World.block_lt_of_cell? w _ hx878_0)).trans hx878_0
                            replace hx878_1 := (HB.out.cell (World.block_lt_of_cell? w _ hx878_1)).trans hx878_1
                            replace hx878_2 := (HB.out.cell (World.block_lt_of_cell? w _ hx878_2)).trans hx878_2
                            replace hx878_3 := (HB.out.cell (World.block_lt_of_cell? w _ hx878_3)).trans hx878_3
                            replace hx878_4 := (HB.out.cell (World.block_lt_of_cell? w _ hx878_4)).trans hx878_4
                            replace hx878_5 := (HB.out.cell (World.block_lt_of_cell? w _ hx878_5)).trans hx878_5
                            replace hx878_6 := (HB.out.cell (World.block_lt_of_cell? w _ hx878_6)).trans hx878_6
                            replace hx878_7 := (HB.out.cell (World.block_lt_of_cell? w _ hx878_7)).trans hx878_7
                            replace hx878_8 := (HB.out.cell (World.block_lt_of_cell? w _ hx878_8)).trans hx878_8
                            replace p878 := eq_true p878
                            replace q878 := eq_true q878
                            have p879 : 0 ≤ (x5_1 : Int) := of_decide_eq_true (by first | (with_reducible assumption) | assumption)
                            have q879 : x5_1 < (l0.length : Int) := of_decide_eq_true (by first | (with_reducible assumption) | assumption)
                            obtain ⟨ad879, e879, hx879_0, hx879_1, hx879_2, hx879_3, hx879_4, hx879_5, hx879_6, hx879_7, hx879_8⟩ := at_T71 HR0.out x5_1 p879 q879
                            obtain rfl : ad872 = ad879 := (by injection e879)
                            replace hx879_0 := (HB.out.cell (World.block_lt_of_cell? w _ hx879_0)).trans hx879_0
                            replace hx879_1 := (HB.out.cell (World.block_lt_of_cell? w _ hx879_1)).trans hx879_1
                            replace hx879_2 := (HB.out.cell (World.block_lt_of_cell? w _ hx879_2)).trans hx879_2
                            replace hx879_3 := (HB.out.cell (World.block_lt_of_cell? w _ hx879_3)).trans hx879_3
                            replace hx879_4 := (HB.out.cell (World.block_lt_of_cell? w _ hx879_4)).trans hx879_4
                            replace hx879_5 := (HB.out.cell (World.block_lt_of_cell? w _ hx879_5)).trans hx879_5
                            replace hx879_6 := (HB.out.cell (World.block_lt_of_cell? w _ hx879_6)).trans hx879_6
                            replace hx879_7 := (HB.out.cell (World.block_lt_of_cell? w _ hx879_7)).trans hx879_7
                            replace hx879_8 := (HB.out.cell (World.block_lt_of_cell? w _ hx879_8)).trans hx879_8
                            replace p879 := eq_true p879
                            replace q879 := eq_true q879
                            have p880 : 0 ≤ (x5_1 : Int) := of_decide_eq_true (by first | (with_reducible assumption) | assumption)
                            have q880 : x5_1 < (l0.length : Int) := of_decide_eq_true (by first | (with_reducible assumption) | assumption)
                            obtain ⟨ad880, e880, hx880_0, hx880_1, hx880_2, hx880_3, hx880_4, hx880_5, hx880_6, hx880_7, hx880_8⟩ := at_T71 HR0.out x5_1 p880 q880
                            obtain rfl : ad872 = ad880 := (by injection e880)
                            replace hx880_0 := (HB.out.cell (World.block_lt_of_cell? w _ hx880_0)).trans hx880_0
                            replace hx880_1 := (HB.out.cell (World.block_lt_of_cell? w _ hx880_1)).trans hx880_1
                            replace hx880_2 := (HB.out.cell (World.block_lt_of_cell? w _ hx880_2)).trans hx880_2
                            replace hx880_3 := (HB.out.cell (World.block_lt_of_cell? w _ hx880_3)).trans hx880_3
                            replace hx880_4 := (HB.out.cell (World.block_lt_of_cell? w _ hx880_4)).trans hx880_4
                            replace hx880_5 := (HB.out.cell (World.block_lt_of_cell? w _ hx880_5)).trans hx880_5
                            replace hx880_6 := (HB.out.cell (World.block_lt_of_cell? w _ hx880_6)).trans hx880_6
                            replace hx880_7 := (HB.out.cell (World.block_lt_of_cell? w _ hx880_7)).trans hx880_7
                            replace hx880_8 := (HB.out.cell (World.block_lt_of_cell? w _ hx880_8)).trans hx880_8
                            replace p880 := eq_true p880
                            replace q880 := eq_true q880
                            have p881 : 0 ≤ (x5_1 : Int) := of_decide_eq_true (by first | (with_reducible assumption) | assumption)
                            have q881 : x5_1 < (l0.length : Int) := of_decide_eq_true (by first | (with_reducible assumption) | assumption)
                            obtain ⟨ad881, e881, hx881_0, hx881_1, hx881_2, hx881_3, hx881_4, hx881_5, hx881_6, hx881_7, hx881_8⟩ := at_T71 HR0.out x5_1 p881 q881
                            obtain rfl : ad872 = ad881 := (by injection e881)
                            replace hx881_0 := (HB.out.cell (World.block_lt_of_cell? w _ hx881_0)).trans hx881_0
                            replace hx881_1 := (HB.out.cell (World.block_lt_of_cell? w _ hx881_1)).trans hx881_1
                            replace hx881_2 := (HB.out.cell (World.block_lt_of_cell? w _ hx881_2)).trans hx881_2
                            replace hx881_3 := (HB.out.cell (World.block_lt_of_cell? w _ hx881_3)).trans hx881_3
                            replace hx881_4 := (HB.out.cell (World.block_lt_of_cell? w _ hx881_4)).trans hx881_4
                            replace hx881_5 := (HB.out.cell (World.block_lt_of_cell? w _ hx881_5)).trans hx881_5
                            replace hx881_6 := (HB.out.cell (World.block_lt_of_cell? w _ hx881_6)).trans hx881_6
                            replace hx881_7 := (HB.out.cell (World.block_lt_of_cell? w _ hx881_7)).trans hx881_7
                            replace hx881_8 := (HB.out.cell (World.block_lt_of_cell? w _ hx881_8)).trans hx881_8
                            replace p881 := eq_true p881
                            replace q881 := eq_true q881
                            try go_wp2
                            go_roundg k1
                            case measure => have := HK1.out; omega
                            case rel => exact ⟨(wrap64 ((wrap64 ((wrap64 ((wrap64 ((wrap64 ((wrap64 ((wrap64 ((wrap64 ((wrap64 (x1_1 + 1)) + 1)) + 1)) + 1)) + 1)) + 1)) + 1)) + 1)) + 1)), (wrap64 (x5_1 + 1)), (by first | rfl | (simp; done) | (simp [*]; done) | (simp [ne_nil_b]; done) | (simp [ne_nil_b, *]; done)), (by first | rfl | (simp; done) | (simp [*]; done) | (simp [ne_nil_b]; done) | (simp [ne_nil_b, *]; done)), H', ⟨by have := HK1.out; omega⟩, ⟨by repeat (first | (with_reducible first | exact HB.out | apply below_alloc | apply pw_below_drewN | apply below_drew1) | exact HB.out)⟩⟩
                          · rw [if_neg c14] at H
                            have c14b0 : (((rd_T71 l0 x5_1).f8) == (wrap64 ((wrap64 ((wrap64 ((wrap64 ((wrap64 ((wrap64 ((wrap64 ((wrap64 (x1_1 + 1)) + 1)) + 1)) + 1)) + 1)) + 1)) + 1)) + 1))) = false := beq_eq_false_iff_ne.mpr c14
                            have c14b1 : (((rd_T71 l0 x5_1).f8) != (wrap64 ((wrap64 ((wrap64 ((wrap64 ((wrap64 ((wrap64 ((wrap64 ((wrap64 (x1_1 + 1)) + 1)) + 1)) + 1)) + 1)) + 1)) + 1)) + 1))) = true := bne_iff_ne.mpr c14
                            obtain rfl := Option.some.inj H
                            have p872 : 0 ≤ (x5_1 : Int) := of_decide_eq_true (by first | (with_reducible assumption) | assumption)
                            have q872 : x5_1 < (l0.length : Int) := of_decide_eq_true (by first | (with_reducible assumption) | assumption)
                            obtain ⟨ad872, e872, hx872_0, hx872_1, hx872_2, hx872_3, hx872_4, hx872_5, hx872_6, hx872_7, hx872_8⟩ := at_T71 HR0.out x5_1 p872 q872
                            cases e872
                            replace hx872_0 := (HB.out.cell (World.block_lt_of_cell? w _ hx872_0)).trans hx872_0
                            replace hx872_1 := (HB.out.cell (World.block_lt_of_cell? w _ hx872_1)).trans hx872_1
                            replace hx872_2 := (HB.out.cell (World.block_lt_of_cell? w _ hx872_2)).trans hx872_2
                            replace hx872_3 := (HB.out.cell (World.block_lt_of_cell? w _ hx872_3)).trans hx872_3
                            replace hx872_4 := (HB.out.cell (World.block_lt_of_cell? w _ hx872_4)).trans hx872_4
                            replace hx872_5 := (HB.out.cell (World.block_lt_of_cell? w _ hx872_5)).trans hx872_5
                            replace hx872_6 := (HB.out.cell (World.block_lt_of_cell? w _ hx872_6)).trans hx872_6
                            replace hx872_7 := (HB.out.cell (World.block_lt_of_cell? w _ hx872_7)).trans hx872_7
                            replace hx872_8 := (HB.out.cell (World.block_lt_of_cell? w _ hx872_8)).trans hx872_8
                            replace p872 := eq_true p872
                            replace q872 := eq_true q872
                            try go_wp2
                            have n0_ := Aside0.mk (below_drew1 HB.out)
                            clear HB
                            have HB := n0_
                            clear n0_
                            have p873 : 0 ≤ (x5_1 : Int) := of_decide_eq_true (by first | (with_reducible assumption) | assumption)
                            have q873 : x5_1 < (l0.length : Int) := of_decide_eq_true (by first | (with_reducible assumption) | assumption)
                            obtain ⟨ad873, e873, hx873_0, hx873_1, hx873_2, hx873_3, hx873_4, hx873_5, hx873_6, hx873_7, hx873_8⟩ := at_T71 HR0.out x5_1 p873 q873
                            have hw873_8 := hx873_8
                            have hw873_7 := hx873_7
                            have hw873_6 := hx873_6
                            have hw873_5 := hx873_5
                            have hw873_4 := hx873_4
                            have hw873_3 := hx873_3
                            have hw873_2 := hx873_2
                            have hw873_1 := hx873_1
                            have hw873_0 := hx873_0
                            obtain rfl : ad872 = ad873 := (by injection e873)
                            replace hx873_0 := (HB.out.cell (World.block_lt_of_cell? w _ hx873_0)).trans hx873_0
                            replace hx873_1 := (HB.out.cell (World.block_lt_of_cell? w _ hx873_1)).trans hx873_1
                            replace hx873_2 := (HB.out.cell (World.block_lt_of_cell? w _ hx873_2)).trans hx873_2
                            replace hx873_3 := (HB.out.cell (World.block_lt_of_cell? w _ hx873_3)).trans hx873_3
                            replace hx873_4 := (HB.out.cell (World.block_lt_of_cell? w _ hx873_4)).trans hx873_4
                            replace hx873_5 := (HB.out.cell (World.block_lt_of_cell? w _ hx873_5)).trans hx873_5
                            replace hx873_6 := (HB.out.cell (World.block_lt_of_cell? w _ hx873_6)).trans hx873_6
                            replace hx873_7 := (HB.out.cell (World.block_lt_of_cell? w _ hx873_7)).trans hx873_7
                            replace hx873_8 := (HB.out.cell (World.block_lt_of_cell? w _ hx873_8)).trans hx873_8
                            replace p873 := eq_true p873
                            replace q873 := eq_true q873
                            refine start_ (n := 8) (S := fun w' => w'.cell? (ad872.add ((x5_1).toNat * 9)) = some (.int .i64 ((rd_T71 l0 x5_1).f0)) ∧ w'.cell? ⟨(ad872.add ((x5_1).toNat * 9)).block, (ad872.add ((x5_1).toNat * 9)).off + 1, none⟩ = some (.string ((rd_T71 l0 x5_1).f1)) ∧ w'.cell? ⟨(ad872.add ((x5_1).toNat * 9)).block, (ad872.add ((x5_1).toNat * 9)).off + 2, none⟩ = some (.int .i64 ((rd_T71 l0 x5_1).f2)) ∧ w'.cell? ⟨(ad872.add ((x5_1).toNat * 9)).block, (ad872.add ((x5_1).toNat * 9)).off + 3, none⟩ = some (.int .i64 ((rd_T71 l0 x5_1).f3)) ∧ w'.cell? ⟨(ad872.add ((x5_1).toNat * 9)).block, (ad872.add ((x5_1).toNat * 9)).off + 4, none⟩ = some (.int .i64 ((rd_T71 l0 x5_1).f4)) ∧ w'.cell? ⟨(ad872.add ((x5_1).toNat * 9)).block, (ad872.add ((x5_1).toNat * 9)).off + 5, none⟩ = some (.int .i64 ((rd_T71 l0 x5_1).f5)) ∧ w'.cell? ⟨(ad872.add ((x5_1).toNat * 9)).block, (ad872.add ((x5_1).toNat * 9)).off + 6, none⟩ = some (.int .i64 ((rd_T71 l0 x5_1).f6)) ∧ w'.cell? ⟨(ad872.add ((x5_1).toNat * 9)).block, (ad872.add ((x5_1).toNat * 9)).off + 7, none⟩ = some (.int .i64 ((rd_T71 l0 x5_1).f7)) ∧ w'.cell? ⟨(ad872.add ((x5_1).toNat * 9)).block, (ad872.add ((x5_1).toNat * 9)).off + 8, none⟩ = some (.int .i64 ((rd_T71 l0 x5_1).f8))) (ds := []) #[false, false, false, false, false, false, false, false] (by kernel_rfl) rfl rfl ⟨((HB.out.cell (World.block_lt_of_cell? w _ hw873_0)).trans hw873_0), ((HB.out.cell (World.block_lt_of_cell? w _ hw873_1)).trans hw873_1), ((HB.out.cell (World.block_lt_of_cell? w _ hw873_2)).trans hw873_2), ((HB.out.cell (World.block_lt_of_cell? w _ hw873_3)).trans hw873_3), ((HB.out.cell (World.block_lt_of_cell? w _ hw873_4)).trans hw873_4), ((HB.out.cell (World.block_lt_of_cell? w _ hw873_5)).trans hw873_5), ((HB.out.cell (World.block_lt_of_cell? w _ hw873_6)).trans hw873_6), ((HB.out.cell (World.block_lt_of_cell? w _ hw873_7)).trans hw873_7), ((HB.out.cell (World.block_lt_of_cell? w _ hw873_8)).trans hw873_8)⟩ (fun hHeld => ?_); refine with_tabW laws_heldFlowS.tab7 laws_heldFlowS.bits7 (fun HT_ HW_ => ?_)
                            generalize wr.drew = w17 at HB hx873_0 hx873_1 hx873_2 hx873_3 hx873_4 hx873_5 hx873_6 hx873_7 hx873_8 hHeld ⊢
                            refine pure_ (i := 0) (N := some 21) (v := ?_) (a' := ?_) #[true, false, false, false, false, false, false, false] rfl rfl (any_of HT_.out (by kernel_rfl)) (fun _ _ _ h => h) (Or.inl ⟨by rfl, ?_⟩) ?_ ?_
                            rotate_left
                            · intro w'
                              go_simp
                              with_reducible rfl
                            rotate_left
                            · simp only [Act.put, List.setIfInBounds_toArray, List.set_cons_zero, List.set_cons_succ, i64_w, i32_w]
                              rfl
                            refine pure_ (i := 1) (N := some 22) (v := ?_) (a' := ?_) #[true, true, false, false, false, false, false, false] rfl rfl (any_of HT_.out (by kernel_rfl)) (fun _ _ _ h => h) (Or.inl ⟨by rfl, ?_⟩) ?_ ?_
                            rotate_left
                            · intro w'
                              go_simp
                              with_reducible rfl
                            rotate_left
                            · simp only [Act.put, List.setIfInBounds_toArray, List.set_cons_zero, List.set_cons_succ, i64_w, i32_w]
                              rfl
                            refine pure_ (i := 2) (N := some 23) (v := ?_) (a' := ?_) #[true, true, true, false, false, false, false, false] rfl rfl (any_of HT_.out (by kernel_rfl)) (fun _ _ _ h => h) (Or.inl ⟨by rfl, ?_⟩) ?_ ?_
                            rotate_left
                            · intro w'
                              go_simp
                              with_reducible rfl
                            rotate_left
                            · simp only [Act.put, List.setIfInBounds_toArray, List.set_cons_zero, List.set_cons_succ, i64_w, i32_w]
                              rfl
                            refine pure_ (i := 3) (N := some 24) (v := ?_) (a' := ?_) #[true, true, true, true, false, false, false, false] rfl rfl (any_of HT_.out (by kernel_rfl)) (fun _ _ _ h => h) (Or.inl ⟨by rfl, ?_⟩) ?_ ?_
                            rotate_left
                            · intro w'
                              go_simp
                              with_reducible rfl
                            rotate_left
                            · simp only [Act.put, List.setIfInBounds_toArray, List.set_cons_zero, List.set_cons_succ, i64_w, i32_w]
                              rfl
                            refine pure_ (i := 5) (N := some 26) (v := ?_) (a' := ?_) #[true, true, true, true, false, true, false, false] rfl rfl (any_of HT_.out (by kernel_rfl)) (fun _ _ _ h => h) (Or.inl ⟨by rfl, ?_⟩) ?_ ?_
                            rotate_left
                            · intro w'
                              go_simp
                              with_reducible rfl
                            rotate_left
                            · simp only [Act.put, List.setIfInBounds_toArray, List.set_cons_zero, List.set_cons_succ, i64_w, i32_w]
                              rfl
                            refine take_ (i := 4) (N := some 25) (v := ?_) (a' := ?_) #[true, true, true, true, true, true, false, false] rfl rfl (take_ofW HT_.out HW_.out (by kernel_rfl)) (fun _ _ _ h => h) (Or.inl ⟨by rfl, ?_⟩) hHeld ?_ ?_
                            rotate_left
                            · rintro w' ⟨s0, s1, s2, s3, s4, s5, s6, s7, s8⟩
                              go_simp
                              with_reducible rfl
                            rotate_left
                            · simp only [Act.put, List.setIfInBounds_toArray, List.set_cons_zero, List.set_cons_succ, i64_w, i32_w]
                              rfl
                            refine one_ (i := 6) (N := some 27) #[true, true, true, true, true, true, true, false] rfl rfl (one_of HT_.out (by kernel_rfl)) (by decide) (fun K hK => ?_)
                            refine goes_ Try.func89 (by kernel_rfl) rfl #[.int .i64 (wrap64 (x1_1 + 1))] (by rfl) rfl rfl (by (try simp only [List.map_toArray, List.map_cons, List.map_nil]); first | done | rfl | (simp only [List.length_drop, List.length_take]; rfl)) ?_
                            with_reducible refine (laws_markText.calls k1 (wrap64 (x1_1 + 1)) t874 _ A6.out).mono ?_
                            rintro e w18 ⟨rfl, hb⟩
                            refine ⟨_, rfl, ?_⟩
                            have n0_ := Aside0.mk (below_step (by repeat (first | (with_reducible first | exact HB.out | apply below_alloc | apply pw_below_drewN | apply below_drew1) | exact HB.out)) hb)
                            clear HB
                            have HB := n0_
                            clear n0_
                            (try clear hb)
                            (try clear hb2)
                            (try clear hk)
                            (try clear hi)
                            refine hK.out _ _ ⟨((HB.out.cell (World.block_lt_of_cell? w _ hw873_0)).trans hw873_0), ((HB.out.cell (World.block_lt_of_cell? w _ hw873_1)).trans hw873_1), ((HB.out.cell (World.block_lt_of_cell? w _ hw873_2)).trans hw873_2), ((HB.out.cell (World.block_lt_of_cell? w _ hw873_3)).trans hw873_3), ((HB.out.cell (World.block_lt_of_cell? w _ hw873_4)).trans hw873_4), ((HB.out.cell (World.block_lt_of_cell? w _ hw873_5)).trans hw873_5), ((HB.out.cell (World.block_lt_of_cell? w _ hw873_6)).trans hw873_6), ((HB.out.cell (World.block_lt_of_cell? w _ hw873_7)).trans hw873_7), ((HB.out.cell (World.block_lt_of_cell? w _ hw873_8)).trans hw873_8)⟩ (fun hHeld => ?_)
                            clear hK K
                            refine norm_ (a' := ?_) ?_ ?_
                            rotate_left
                            · show Act.put _ (some 27) _ = _
                              simp only [Act.put, List.setIfInBounds_toArray, List.set_cons_zero, List.set_cons_succ, i64_w, i32_w]
                              rfl
                            refine pure_ (i := 7) (N := some 28) (v := ?_) (a' := ?_) #[true, true, true, true, true, true, true, true] rfl rfl (any_of HT_.out (by kernel_rfl)) (fun _ _ _ h => h) (Or.inl ⟨by rfl, ?_⟩) ?_ ?_
                            rotate_left
                            · intro w'
                              go_simp
                              with_reducible rfl
                            rotate_left
                            · simp only [Act.put, List.setIfInBounds_toArray, List.set_cons_zero, List.set_cons_succ, i64_w, i32_w]
                              rfl
                            refine done_ (done_of HT_.out (by kernel_rfl)) ?_
                            have p875 : 0 ≤ (x5_1 : Int) := of_decide_eq_true (by first | (with_reducible assumption) | assumption)
                            have q875 : x5_1 < (l0.length : Int) := of_decide_eq_true (by first | (with_reducible assumption) | assumption)
                            obtain ⟨ad875, e875, hx875_0, hx875_1, hx875_2, hx875_3, hx875_4, hx875_5, hx875_6, hx875_7, hx875_8⟩ := at_T71 HR0.out x5_1 p875 q875
                            obtain rfl : ad872 = ad875 := (by injection e875)
                            replace hx875_0 := (HB.out.cell (World.block_lt_of_cell? w _ hx875_0)).trans hx875_0
                            replace hx875_1 := (HB.out.cell (World.block_lt_of_cell? w _ hx875_1)).trans hx875_1
                            replace hx875_2 := (HB.out.cell (World.block_lt_of_cell? w _ hx875_2)).trans hx875_2
                            replace hx875_3 := (HB.out.cell (World.block_lt_of_cell? w _ hx875_3)).trans hx875_3
                            replace hx875_4 := (HB.out.cell (World.block_lt_of_cell? w _ hx875_4)).trans hx875_4
                            replace hx875_5 := (HB.out.cell (World.block_lt_of_cell? w _ hx875_5)).trans hx875_5
                            replace hx875_6 := (HB.out.cell (World.block_lt_of_cell? w _ hx875_6)).trans hx875_6
                            replace hx875_7 := (HB.out.cell (World.block_lt_of_cell? w _ hx875_7)).trans hx875_7
                            replace hx875_8 := (HB.out.cell (World.block_lt_of_cell? w _ hx875_8)).trans hx875_8
                            replace p875 := eq_true p875
                            replace q875 := eq_true q875
                            have p876 : 0 ≤ (x5_1 : Int) := of_decide_eq_true (by first | (with_reducible assumption) | assumption)
                            have q876 : x5_1 < (l0.length : Int) := of_decide_eq_true (by first | (with_reducible assumption) | assumption)
                            obtain ⟨ad876, e876, hx876_0, hx876_1, hx876_2, hx876_3, hx876_4, hx876_5, hx876_6, hx876_7, hx876_8⟩ := at_T71 HR0.out x5_1 p876 q876
                            obtain rfl : ad872 = ad876 := (by injection e876)
                            replace hx876_0 := (HB.out.cell (World.block_lt_of_cell? w _ hx876_0)).trans hx876_0
                            replace hx876_1 := (HB.out.cell (World.block_lt_of_cell? w _ hx876_1)).trans hx876_1
                            replace hx876_2 := (HB.out.cell (World.block_lt_of_cell? w _ hx876_2)).trans hx876_2
                            replace hx876_3 := (HB.out.cell (World.block_lt_of_cell? w _ hx876_3)).trans hx876_3
                            replace hx876_4 := (HB.out.cell (World.block_lt_of_cell? w _ hx876_4)).trans hx876_4
                            replace hx876_5 := (HB.out.cell (World.block_lt_of_cell? w _ hx876_5)).trans hx876_5
                            replace hx876_6 := (HB.out.cell (World.block_lt_of_cell? w _ hx876_6)).trans hx876_6
                            replace hx876_7 := (HB.out.cell (World.block_lt_of_cell? w _ hx876_7)).trans hx876_7
                            replace hx876_8 := (HB.out.cell (World.block_lt_of_cell? w _ hx876_8)).trans hx876_8
                            replace p876 := eq_true p876
                            replace q876 := eq_true q876
                            have p877 : 0 ≤ (x5_1 : Int) := of_decide_eq_true (by first | (with_reducible assumption) | assumption)
                            have q877 : x5_1 < (l0.length : Int) := of_decide_eq_true (by first | (with_reducible assumption) | assumption)
                            obtain ⟨ad877, e877, hx877_0, hx877_1, hx877_2, hx877_3, hx877_4, hx877_5, hx877_6, hx877_7, hx877_8⟩ := at_T71 HR0.out x5_1 p877 q877
                            obtain rfl : ad872 = ad877 := (by injection e877)
                            replace hx877_0 := (HB.out.cell (World.block_lt_of_cell? w _ hx877_0)).trans hx877_0
                            replace hx877_1 := (HB.out.cell (World.block_lt_of_cell? w _ hx877_1)).trans hx877_1
                            replace hx877_2 := (HB.out.cell (World.block_lt_of_cell? w _ hx877_2)).trans hx877_2
                            replace hx877_3 := (HB.out.cell (World.block_lt_of_cell? w _ hx877_3)).trans hx877_3
                            replace hx877_4 := (HB.out.cell (World.block_lt_of_cell? w _ hx877_4)).trans hx877_4
                            replace hx877_5 := (HB.out.cell (World.block_lt_of_cell? w _ hx877_5)).trans hx877_5
                            replace hx877_6 := (HB.out.cell (World.block_lt_of_cell? w _ hx877_6)).trans hx877_6
                            replace hx877_7 := (HB.out.cell (World.block_lt_of_cell? w _ hx877_7)).trans hx877_7
                            replace hx877_8 := (HB.out.cell (World.block_lt_of_cell? w _ hx877_8)).trans hx877_8
                            replace p877 := eq_true p877
                            replace q877 := eq_true q877
                            have p878 : 0 ≤ (x5_1 : Int) := of_decide_eq_true (by first | (with_reducible assumption) | assumption)
                            have q878 : x5_1 < (l0.length : Int) := of_decide_eq_true (by first | (with_reducible assumption) | assumption)
                            obtain ⟨ad878, e878, hx878_0, hx878_1, hx878_2, hx878_3, hx878_4, hx878_5, hx878_6, hx878_7, hx878_8⟩ := at_T71 HR0.out x5_1 p878 q878
                            obtain rfl : ad872 = ad878 := (by injection e878)
                            replace hx878_0 := (HB.out.cell (World.block_lt_of_cell? w _ hx878_0)).trans hx878_0
                            replace hx878_1 := (HB.out.cell (World.block_lt_of_cell? w _ hx878_1)).trans hx878_1
                            replace hx878_2 := (HB.out.cell (World.block_lt_of_cell? w _ hx878_2)).trans hx878_2
                            replace hx878_3 := (HB.out.cell (World.block_lt_of_cell? w _ hx878_3)).trans hx878_3
                            replace hx878_4 := (HB.out.cell (World.block_lt_of_cell? w _ hx878_4)).trans hx878_4
                            replace hx878_5 := (HB.out.cell (World.block_lt_of_cell? w _ hx878_5)).trans hx878_5
                            replace hx878_6 := (HB.out.cell (World.block_lt_of_cell? w _ hx878_6)).trans hx878_6
                            replace hx878_7 := (HB.out.cell (World.block_lt_of_cell? w _ hx878_7)).trans hx878_7
                            replace hx878_8 := (HB.out.cell (World.block_lt_of_cell? w _ hx878_8)).trans hx878_8
                            replace p878 := eq_true p878
                            replace q878 := eq_true q878
                            have p879 : 0 ≤ (x5_1 : Int) := of_decide_eq_true (by first | (with_reducible assumption) | assumption)
                            have q879 : x5_1 < (l0.length : Int) := of_decide_eq_true (by first | (with_reducible assumption) | assumption)
                            obtain ⟨ad879, e879, hx879_0, hx879_1, hx879_2, hx879_3, hx879_4, hx879_5, hx879_6, hx879_7, hx879_8⟩ := at_T71 HR0.out x5_1 p879 q879
                            obtain rfl : ad872 = ad879 := (by injection e879)
                            replace hx879_0 := (HB.out.cell (World.block_lt_of_cell? w _ hx879_0)).trans hx879_0
                            replace hx879_1 := (HB.out.cell (World.block_lt_of_cell? w _ hx879_1)).trans hx879_1
                            replace hx879_2 := (HB.out.cell (World.block_lt_of_cell? w _ hx879_2)).trans hx879_2
                            replace hx879_3 := (HB.out.cell (World.block_lt_of_cell? w _ hx879_3)).trans hx879_3
                            replace hx879_4 := (HB.out.cell (World.block_lt_of_cell? w _ hx879_4)).trans hx879_4
                            replace hx879_5 := (HB.out.cell (World.block_lt_of_cell? w _ hx879_5)).trans hx879_5
                            replace hx879_6 := (HB.out.cell (World.block_lt_of_cell? w _ hx879_6)).trans hx879_6
                            replace hx879_7 := (HB.out.cell (World.block_lt_of_cell? w _ hx879_7)).trans hx879_7
                            replace hx879_8 := (HB.out.cell (World.block_lt_of_cell? w _ hx879_8)).trans hx879_8
                            replace p879 := eq_true p879
                            replace q879 := eq_true q879
                            have p880 : 0 ≤ (x5_1 : Int) := of_decide_eq_true (by first | (with_reducible assumption) | assumption)
                            have q880 : x5_1 < (l0.length : Int) := of_decide_eq_true (by first | (with_reducible assumption) | assumption)
                            obtain ⟨ad880, e880, hx880_0, hx880_1, hx880_2, hx880_3, hx880_4, hx880_5, hx880_6, hx880_7, hx880_8⟩ := at_T71 HR0.out x5_1 p880 q880
                            obtain rfl : ad872 = ad880 := (by injection e880)
                            replace hx880_0 := (HB.out.cell (World.block_lt_of_cell? w _ hx880_0)).trans hx880_0
                            replace hx880_1 := (HB.out.cell (World.block_lt_of_cell? w _ hx880_1)).trans hx880_1
                            replace hx880_2 := (HB.out.cell (World.block_lt_of_cell? w _ hx880_2)).trans hx880_2
                            replace hx880_3 := (HB.out.cell (World.block_lt_of_cell? w _ hx880_3)).trans hx880_3
                            replace hx880_4 := (HB.out.cell (World.block_lt_of_cell? w _ hx880_4)).trans hx880_4
                            replace hx880_5 := (HB.out.cell (World.block_lt_of_cell? w _ hx880_5)).trans hx880_5
                            replace hx880_6 := (HB.out.cell (World.block_lt_of_cell? w _ hx880_6)).trans hx880_6
                            replace hx880_7 := (HB.out.cell (World.block_lt_of_cell? w _ hx880_7)).trans hx880_7
                            replace hx880_8 := (HB.out.cell (World.block_lt_of_cell? w _ hx880_8)).trans hx880_8
                            replace p880 := eq_true p880
                            replace q880 := eq_true q880
                            have p881 : 0 ≤ (x5_1 : Int) := of_decide_eq_true (by first | (with_reducible assumption) | assumption)
                            have q881 : x5_1 < (l0.length : Int) := of_decide_eq_true (by first | (with_reducible assumption) | assumption)
                            obtain ⟨ad881, e881, hx881_0, hx881_1, hx881_2, hx881_3, hx881_4, hx881_5, hx881_6, hx881_7, hx881_8⟩ := at_T71 HR0.out x5_1 p881 q881
                            obtain rfl : ad872 = ad881 := (by injection e881)
                            replace hx881_0 := (HB.out.cell (World.block_lt_of_cell? w _ hx881_0)).trans hx881_0
                            replace hx881_1 := (HB.out.cell (World.block_lt_of_cell? w _ hx881_1)).trans hx881_1
                            replace hx881_2 := (HB.out.cell (World.block_lt_of_cell? w _ hx881_2)).trans hx881_2
                            replace hx881_3 := (HB.out.cell (World.block_lt_of_cell? w _ hx881_3)).trans hx881_3
                            replace hx881_4 := (HB.out.cell (World.block_lt_of_cell? w _ hx881_4)).trans hx881_4
                            replace hx881_5 := (HB.out.cell (World.block_lt_of_cell? w _ hx881_5)).trans hx881_5
                            replace hx881_6 := (HB.out.cell (World.block_lt_of_cell? w _ hx881_6)).trans hx881_6
                            replace hx881_7 := (HB.out.cell (World.block_lt_of_cell? w _ hx881_7)).trans hx881_7
                            replace hx881_8 := (HB.out.cell (World.block_lt_of_cell? w _ hx881_8)).trans hx881_8
                            replace p881 := eq_true p881
                            replace q881 := eq_true q881
                            try go_wp2
                            go_ret
                            exact ⟨by first | rfl | (simp [errW_none, errW_some] <;> rfl) | (simp [*, errW_none, errW_some] <;> rfl), by repeat (first | (with_reducible first | exact HB.out | apply below_alloc | apply pw_below_drewN | apply below_drew1) | exact HB.out)⟩
                        · rw [if_neg c13] at H
                          have c13b0 : (((rd_T71 l0 x5_1).f7) == (wrap64 ((wrap64 ((wrap64 ((wrap64 ((wrap64 ((wrap64 ((wrap64 (x1_1 + 1)) + 1)) + 1)) + 1)) + 1)) + 1)) + 1))) = false := beq_eq_false_iff_ne.mpr c13
                          have c13b1 : (((rd_T71 l0 x5_1).f7) != (wrap64 ((wrap64 ((wrap64 ((wrap64 ((wrap64 ((wrap64 ((wrap64 (x1_1 + 1)) + 1)) + 1)) + 1)) + 1)) + 1)) + 1))) = true := bne_iff_ne.mpr c13
                          obtain rfl := Option.some.inj H
                          have p872 : 0 ≤ (x5_1 : Int) := of_decide_eq_true (by first | (with_reducible assumption) | assumption)
                          have q872 : x5_1 < (l0.length : Int) := of_decide_eq_true (by first | (with_reducible assumption) | assumption)
                          obtain ⟨ad872, e872, hx872_0, hx872_1, hx872_2, hx872_3, hx872_4, hx872_5, hx872_6, hx872_7, hx872_8⟩ := at_T71 HR0.out x5_1 p872 q872
                          cases e872
                          replace hx872_0 := (HB.out.cell (World.block_lt_of_cell? w _ hx872_0)).trans hx872_0
                          replace hx872_1 := (HB.out.cell (World.block_lt_of_cell? w _ hx872_1)).trans hx872_1
                          replace hx872_2 := (HB.out.cell (World.block_lt_of_cell? w _ hx872_2)).trans hx872_2
                          replace hx872_3 := (HB.out.cell (World.block_lt_of_cell? w _ hx872_3)).trans hx872_3
                          replace hx872_4 := (HB.out.cell (World.block_lt_of_cell? w _ hx872_4)).trans hx872_4
                          replace hx872_5 := (HB.out.cell (World.block_lt_of_cell? w _ hx872_5)).trans hx872_5
                          replace hx872_6 := (HB.out.cell (World.block_lt_of_cell? w _ hx872_6)).trans hx872_6
                          replace hx872_7 := (HB.out.cell (World.block_lt_of_cell? w _ hx872_7)).trans hx872_7
                          replace hx872_8 := (HB.out.cell (World.block_lt_of_cell? w _ hx872_8)).trans hx872_8
                          replace p872 := eq_true p872
                          replace q872 := eq_true q872
                          try go_wp2
                          have n0_ := Aside0.mk (below_drew1 HB.out)
                          clear HB
                          have HB := n0_
                          clear n0_
                          have p873 : 0 ≤ (x5_1 : Int) := of_decide_eq_true (by first | (with_reducible assumption) | assumption)
                          have q873 : x5_1 < (l0.length : Int) := of_decide_eq_true (by first | (with_reducible assumption) | assumption)
                          obtain ⟨ad873, e873, hx873_0, hx873_1, hx873_2, hx873_3, hx873_4, hx873_5, hx873_6, hx873_7, hx873_8⟩ := at_T71 HR0.out x5_1 p873 q873
                          have hw873_8 := hx873_8
                          have hw873_7 := hx873_7
                          have hw873_6 := hx873_6
                          have hw873_5 := hx873_5
                          have hw873_4 := hx873_4
                          have hw873_3 := hx873_3
                          have hw873_2 := hx873_2
                          have hw873_1 := hx873_1
                          have hw873_0 := hx873_0
                          obtain rfl : ad872 = ad873 := (by injection e873)
                          replace hx873_0 := (HB.out.cell (World.block_lt_of_cell? w _ hx873_0)).trans hx873_0
                          replace hx873_1 := (HB.out.cell (World.block_lt_of_cell? w _ hx873_1)).trans hx873_1
                          replace hx873_2 := (HB.out.cell (World.block_lt_of_cell? w _ hx873_2)).trans hx873_2
                          replace hx873_3 := (HB.out.cell (World.block_lt_of_cell? w _ hx873_3)).trans hx873_3
                          replace hx873_4 := (HB.out.cell (World.block_lt_of_cell? w _ hx873_4)).trans hx873_4
                          replace hx873_5 := (HB.out.cell (World.block_lt_of_cell? w _ hx873_5)).trans hx873_5
                          replace hx873_6 := (HB.out.cell (World.block_lt_of_cell? w _ hx873_6)).trans hx873_6
                          replace hx873_7 := (HB.out.cell (World.block_lt_of_cell? w _ hx873_7)).trans hx873_7
                          replace hx873_8 := (HB.out.cell (World.block_lt_of_cell? w _ hx873_8)).trans hx873_8
                          replace p873 := eq_true p873
                          replace q873 := eq_true q873
                          refine start_ (n := 8) (S := fun w' => w'.cell? (ad872.add ((x5_1).toNat * 9)) = some (.int .i64 ((rd_T71 l0 x5_1).f0)) ∧ w'.cell? ⟨(ad872.add ((x5_1).toNat * 9)).block, (ad872.add ((x5_1).toNat * 9)).off + 1, none⟩ = some (.string ((rd_T71 l0 x5_1).f1)) ∧ w'.cell? ⟨(ad872.add ((x5_1).toNat * 9)).block, (ad872.add ((x5_1).toNat * 9)).off + 2, none⟩ = some (.int .i64 ((rd_T71 l0 x5_1).f2)) ∧ w'.cell? ⟨(ad872.add ((x5_1).toNat * 9)).block, (ad872.add ((x5_1).toNat * 9)).off + 3, none⟩ = some (.int .i64 ((rd_T71 l0 x5_1).f3)) ∧ w'.cell? ⟨(ad872.add ((x5_1).toNat * 9)).block, (ad872.add ((x5_1).toNat * 9)).off + 4, none⟩ = some (.int .i64 ((rd_T71 l0 x5_1).f4)) ∧ w'.cell? ⟨(ad872.add ((x5_1).toNat * 9)).block, (ad872.add ((x5_1).toNat * 9)).off + 5, none⟩ = some (.int .i64 ((rd_T71 l0 x5_1).f5)) ∧ w'.cell? ⟨(ad872.add ((x5_1).toNat * 9)).block, (ad872.add ((x5_1).toNat * 9)).off + 6, none⟩ = some (.int .i64 ((rd_T71 l0 x5_1).f6)) ∧ w'.cell? ⟨(ad872.add ((x5_1).toNat * 9)).block, (ad872.add ((x5_1).toNat * 9)).off + 7, none⟩ = some (.int .i64 ((rd_T71 l0 x5_1).f7)) ∧ w'.cell? ⟨(ad872.add ((x5_1).toNat * 9)).block, (ad872.add ((x5_1).toNat * 9)).off + 8, none⟩ = some (.int .i64 ((rd_T71 l0 x5_1).f8))) (ds := []) #[false, false, false, false, false, false, false, false] (by kernel_rfl) rfl rfl ⟨((HB.out.cell (World.block_lt_of_cell? w _ hw873_0)).trans hw873_0), ((HB.out.cell (World.block_lt_of_cell? w _ hw873_1)).trans hw873_1), ((HB.out.cell (World.block_lt_of_cell? w _ hw873_2)).trans hw873_2), ((HB.out.cell (World.block_lt_of_cell? w _ hw873_3)).trans hw873_3), ((HB.out.cell (World.block_lt_of_cell? w _ hw873_4)).trans hw873_4), ((HB.out.cell (World.block_lt_of_cell? w _ hw873_5)).trans hw873_5), ((HB.out.cell (World.block_lt_of_cell? w _ hw873_6)).trans hw873_6), ((HB.out.cell (World.block_lt_of_cell? w _ hw873_7)).trans hw873_7), ((HB.out.cell (World.block_lt_of_cell? w _ hw873_8)).trans hw873_8)⟩ (fun hHeld => ?_); refine with_tabW laws_heldFlowS.tab7 laws_heldFlowS.bits7 (fun HT_ HW_ => ?_)
                          generalize wr.drew = w19 at HB hx873_0 hx873_1 hx873_2 hx873_3 hx873_4 hx873_5 hx873_6 hx873_7 hx873_8 hHeld ⊢
                          refine pure_ (i := 0) (N := some 21) (v := ?_) (a' := ?_) #[true, false, false, false, false, false, false, false] rfl rfl (any_of HT_.out (by kernel_rfl)) (fun _ _ _ h => h) (Or.inl ⟨by rfl, ?_⟩) ?_ ?_
                          rotate_left
                          · intro w'
                            go_simp
                            with_reducible rfl
                          rotate_left
                          · simp only [Act.put, List.setIfInBounds_toArray, List.set_cons_zero, List.set_cons_succ, i64_w, i32_w]
                            rfl
                          refine pure_ (i := 1) (N := some 22) (v := ?_) (a' := ?_) #[true, true, false, false, false, false, false, false] rfl rfl (any_of HT_.out (by kernel_rfl)) (fun _ _ _ h => h) (Or.inl ⟨by rfl, ?_⟩) ?_ ?_
                          rotate_left
                          · intro w'
                            go_simp
                            with_reducible rfl
                          rotate_left
                          · simp only [Act.put, List.setIfInBounds_toArray, List.set_cons_zero, List.set_cons_succ, i64_w, i32_w]
                            rfl
                          refine pure_ (i := 2) (N := some 23) (v := ?_) (a' := ?_) #[true, true, true, false, false, false, false, false] rfl rfl (any_of HT_.out (by kernel_rfl)) (fun _ _ _ h => h) (Or.inl ⟨by rfl, ?_⟩) ?_ ?_
                          rotate_left
                          · intro w'
                            go_simp
                            with_reducible rfl
                          rotate_left
                          · simp only [Act.put, List.setIfInBounds_toArray, List.set_cons_zero, List.set_cons_succ, i64_w, i32_w]
                            rfl
                          refine pure_ (i := 3) (N := some 24) (v := ?_) (a' := ?_) #[true, true, true, true, false, false, false, false] rfl rfl (any_of HT_.out (by kernel_rfl)) (fun _ _ _ h => h) (Or.inl ⟨by rfl, ?_⟩) ?_ ?_
                          rotate_left
                          · intro w'
                            go_simp
                            with_reducible rfl
                          rotate_left
                          · simp only [Act.put, List.setIfInBounds_toArray, List.set_cons_zero, List.set_cons_succ, i64_w, i32_w]
                            rfl
                          refine pure_ (i := 5) (N := some 26) (v := ?_) (a' := ?_) #[true, true, true, true, false, true, false, false] rfl rfl (any_of HT_.out (by kernel_rfl)) (fun _ _ _ h => h) (Or.inl ⟨by rfl, ?_⟩) ?_ ?_
                          rotate_left
                          · intro w'
                            go_simp
                            with_reducible rfl
                          rotate_left
                          · simp only [Act.put, List.setIfInBounds_toArray, List.set_cons_zero, List.set_cons_succ, i64_w, i32_w]
                            rfl
                          refine take_ (i := 4) (N := some 25) (v := ?_) (a' := ?_) #[true, true, true, true, true, true, false, false] rfl rfl (take_ofW HT_.out HW_.out (by kernel_rfl)) (fun _ _ _ h => h) (Or.inl ⟨by rfl, ?_⟩) hHeld ?_ ?_
                          rotate_left
                          · rintro w' ⟨s0, s1, s2, s3, s4, s5, s6, s7, s8⟩
                            go_simp
                            with_reducible rfl
                          rotate_left
                          · simp only [Act.put, List.setIfInBounds_toArray, List.set_cons_zero, List.set_cons_succ, i64_w, i32_w]
                            rfl
                          refine one_ (i := 6) (N := some 27) #[true, true, true, true, true, true, true, false] rfl rfl (one_of HT_.out (by kernel_rfl)) (by decide) (fun K hK => ?_)
                          refine goes_ Try.func89 (by kernel_rfl) rfl #[.int .i64 (wrap64 (x1_1 + 1))] (by rfl) rfl rfl (by (try simp only [List.map_toArray, List.map_cons, List.map_nil]); first | done | rfl | (simp only [List.length_drop, List.length_take]; rfl)) ?_
                          with_reducible refine (laws_markText.calls k1 (wrap64 (x1_1 + 1)) t874 _ A6.out).mono ?_
                          rintro e w20 ⟨rfl, hb⟩
                          refine ⟨_, rfl, ?_⟩
                          have n0_ := Aside0.mk (below_step (by repeat (first | (with_reducible first | exact HB.out | apply below_alloc | apply pw_below_drewN | apply below_drew1) | exact HB.out)) hb)
                          clear HB
                          have HB := n0_
                          clear n0_
                          (try clear hb)
                          (try clear hb2)
                          (try clear hk)
                          (try clear hi)
                          refine hK.out _ _ ⟨((HB.out.cell (World.block_lt_of_cell? w _ hw873_0)).trans hw873_0), ((HB.out.cell (World.block_lt_of_cell? w _ hw873_1)).trans hw873_1), ((HB.out.cell (World.block_lt_of_cell? w _ hw873_2)).trans hw873_2), ((HB.out.cell (World.block_lt_of_cell? w _ hw873_3)).trans hw873_3), ((HB.out.cell (World.block_lt_of_cell? w _ hw873_4)).trans hw873_4), ((HB.out.cell (World.block_lt_of_cell? w _ hw873_5)).trans hw873_5), ((HB.out.cell (World.block_lt_of_cell? w _ hw873_6)).trans hw873_6), ((HB.out.cell (World.block_lt_of_cell? w _ hw873_7)).trans hw873_7), ((HB.out.cell (World.block_lt_of_cell? w _ hw873_8)).trans hw873_8)⟩ (fun hHeld => ?_)
                          clear hK K
                          refine norm_ (a' := ?_) ?_ ?_
                          rotate_left
                          · show Act.put _ (some 27) _ = _
                            simp only [Act.put, List.setIfInBounds_toArray, List.set_cons_zero, List.set_cons_succ, i64_w, i32_w]
                            rfl
                          refine pure_ (i := 7) (N := some 28) (v := ?_) (a' := ?_) #[true, true, true, true, true, true, true, true] rfl rfl (any_of HT_.out (by kernel_rfl)) (fun _ _ _ h => h) (Or.inl ⟨by rfl, ?_⟩) ?_ ?_
                          rotate_left
                          · intro w'
                            go_simp
                            with_reducible rfl
                          rotate_left
                          · simp only [Act.put, List.setIfInBounds_toArray, List.set_cons_zero, List.set_cons_succ, i64_w, i32_w]
                            rfl
                          refine done_ (done_of HT_.out (by kernel_rfl)) ?_
                          have p875 : 0 ≤ (x5_1 : Int) := of_decide_eq_true (by first | (with_reducible assumption) | assumption)
                          have q875 : x5_1 < (l0.length : Int) := of_decide_eq_true (by first | (with_reducible assumption) | assumption)
                          obtain ⟨ad875, e875, hx875_0, hx875_1, hx875_2, hx875_3, hx875_4, hx875_5, hx875_6, hx875_7, hx875_8⟩ := at_T71 HR0.out x5_1 p875 q875
                          obtain rfl : ad872 = ad875 := (by injection e875)
                          replace hx875_0 := (HB.out.cell (World.block_lt_of_cell? w _ hx875_0)).trans hx875_0
                          replace hx875_1 := (HB.out.cell (World.block_lt_of_cell? w _ hx875_1)).trans hx875_1
                          replace hx875_2 := (HB.out.cell (World.block_lt_of_cell? w _ hx875_2)).trans hx875_2
                          replace hx875_3 := (HB.out.cell (World.block_lt_of_cell? w _ hx875_3)).trans hx875_3
                          replace hx875_4 := (HB.out.cell (World.block_lt_of_cell? w _ hx875_4)).trans hx875_4
                          replace hx875_5 := (HB.out.cell (World.block_lt_of_cell? w _ hx875_5)).trans hx875_5
                          replace hx875_6 := (HB.out.cell (World.block_lt_of_cell? w _ hx875_6)).trans hx875_6
                          replace hx875_7 := (HB.out.cell (World.block_lt_of_cell? w _ hx875_7)).trans hx875_7
                          replace hx875_8 := (HB.out.cell (World.block_lt_of_cell? w _ hx875_8)).trans hx875_8
                          replace p875 := eq_true p875
                          replace q875 := eq_true q875
                          have p876 : 0 ≤ (x5_1 : Int) := of_decide_eq_true (by first | (with_reducible assumption) | assumption)
                          have q876 : x5_1 < (l0.length : Int) := of_decide_eq_true (by first | (with_reducible assumption) | assumption)
                          obtain ⟨ad876, e876, hx876_0, hx876_1, hx876_2, hx876_3, hx876_4, hx876_5, hx876_6, hx876_7, hx876_8⟩ := at_T71 HR0.out x5_1 p876 q876
                          obtain rfl : ad872 = ad876 := (by injection e876)
                          replace hx876_0 := (HB.out.cell (World.block_lt_of_cell? w _ hx876_0)).trans hx876_0
                          replace hx876_1 := (HB.out.cell (World.block_lt_of_cell? w _ hx876_1)).trans hx876_1
                          replace hx876_2 := (HB.out.cell (World.block_lt_of_cell? w _ hx876_2)).trans hx876_2
                          replace hx876_3 := (HB.out.cell (World.block_lt_of_cell? w _ hx876_3)).trans hx876_3
                          replace hx876_4 := (HB.out.cell (World.block_lt_of_cell? w _ hx876_4)).trans hx876_4
                          replace hx876_5 := (HB.out.cell (World.block_lt_of_cell? w _ hx876_5)).trans hx876_5
                          replace hx876_6 := (HB.out.cell (World.block_lt_of_cell? w _ hx876_6)).trans hx876_6
                          replace hx876_7 := (HB.out.cell (World.block_lt_of_cell? w _ hx876_7)).trans hx876_7
                          replace hx876_8 := (HB.out.cell (World.block_lt_of_cell? w _ hx876_8)).trans hx876_8
                          replace p876 := eq_true p876
                          replace q876 := eq_true q876
                          have p877 : 0 ≤ (x5_1 : Int) := of_decide_eq_true (by first | (with_reducible assumption) | assumption)
                          have q877 : x5_1 < (l0.length : Int) := of_decide_eq_true (by first | (with_reducible assumption) | assumption)
                          obtain ⟨ad877, e877, hx877_0, hx877_1, hx877_2, hx877_3, hx877_4, hx877_5, hx877_6, hx877_7, hx877_8⟩ := at_T71 HR0.out x5_1 p877 q877
                          obtain rfl : ad872 = ad877 := (by injection e877)
                          replace hx877_0 := (HB.out.cell (World.block_lt_of_cell? w _ hx877_0)).trans hx877_0
                          replace hx877_1 := (HB.out.cell (World.block_lt_of_cell? w _ hx877_1)).trans hx877_1
                          replace hx877_2 := (HB.out.cell (World.block_lt_of_cell? w _ hx877_2)).trans hx877_2
                          replace hx877_3 := (HB.out.cell (World.block_lt_of_cell? w _ hx877_3)).trans hx877_3
                          replace hx877_4 := (HB.out.cell (World.block_lt_of_cell? w _ hx877_4)).trans hx877_4
                          replace hx877_5 := (HB.out.cell (World.block_lt_of_cell? w _ hx877_5)).trans hx877_5
                          replace hx877_6 := (HB.out.cell (World.block_lt_of_cell? w _ hx877_6)).trans hx877_6
                          replace hx877_7 := (HB.out.cell (World.block_lt_of_cell? w _ hx877_7)).trans hx877_7
                          replace hx877_8 := (HB.out.cell (World.block_lt_of_cell? w _ hx877_8)).trans hx877_8
                          replace p877 := eq_true p877
                          replace q877 := eq_true q877
                          have p878 : 0 ≤ (x5_1 : Int) := of_decide_eq_true (by first | (with_reducible assumption) | assumption)
                          have q878 : x5_1 < (l0.length : Int) := of_decide_eq_true (by first | (with_reducible assumption) | assumption)
                          obtain ⟨ad878, e878, hx878_0, hx878_1, hx878_2, hx878_3, hx878_4, hx878_5, hx878_6, hx878_7, hx878_8⟩ := at_T71 HR0.out x5_1 p878 q878
                          obtain rfl : ad872 = ad878 := (by injection e878)
                          replace hx878_0 := (HB.out.cell (World.block_lt_of_cell? w _ hx878_0)).trans hx878_0
                          replace hx878_1 := (HB.out.cell (World.block_lt_of_cell? w _ hx878_1)).trans hx878_1
                          replace hx878_2 := (HB.out.cell (World.block_lt_of_cell? w _ hx878_2)).trans hx878_2
                          replace hx878_3 := (HB.out.cell (World.block_lt_of_cell? w _ hx878_3)).trans hx878_3
                          replace hx878_4 := (HB.out.cell (World.block_lt_of_cell? w _ hx878_4)).trans hx878_4
                          replace hx878_5 := (HB.out.cell (World.block_lt_of_cell? w _ hx878_5)).trans hx878_5
                          replace hx878_6 := (HB.out.cell (World.block_lt_of_cell? w _ hx878_6)).trans hx878_6
                          replace hx878_7 := (HB.out.cell (World.block_lt_of_cell? w _ hx878_7)).trans hx878_7
                          replace hx878_8 := (HB.out.cell (World.block_lt_of_cell? w _ hx878_8)).trans hx878_8
                          replace p878 := eq_true p878
                          replace q878 := eq_true q878
                          have p879 : 0 ≤ (x5_1 : Int) := of_decide_eq_true (by first | (with_reducible assumption) | assumption)
                          have q879 : x5_1 < (l0.length : Int) := of_decide_eq_true (by first | (with_reducible assumption) | assumption)
                          obtain ⟨ad879, e879, hx879_0, hx879_1, hx879_2, hx879_3, hx879_4, hx879_5, hx879_6, hx879_7, hx879_8⟩ := at_T71 HR0.out x5_1 p879 q879
                          obtain rfl : ad872 = ad879 := (by injection e879)
                          replace hx879_0 := (HB.out.cell (World.block_lt_of_cell? w _ hx879_0)).trans hx879_0
                          replace hx879_1 := (HB.out.cell (World.block_lt_of_cell? w _ hx879_1)).trans hx879_1
                          replace hx879_2 := (HB.out.cell (World.block_lt_of_cell? w _ hx879_2)).trans hx879_2
                          replace hx879_3 := (HB.out.cell (World.block_lt_of_cell? w _ hx879_3)).trans hx879_3
                          replace hx879_4 := (HB.out.cell (World.block_lt_of_cell? w _ hx879_4)).trans hx879_4
                          replace hx879_5 := (HB.out.cell (World.block_lt_of_cell? w _ hx879_5)).trans hx879_5
                          replace hx879_6 := (HB.out.cell (World.block_lt_of_cell? w _ hx879_6)).trans hx879_6
                          replace hx879_7 := (HB.out.cell (World.block_lt_of_cell? w _ hx879_7)).trans hx879_7
                          replace hx879_8 := (HB.out.cell (World.block_lt_of_cell? w _ hx879_8)).trans hx879_8
                          replace p879 := eq_true p879
                          replace q879 := eq_true q879
                          have p880 : 0 ≤ (x5_1 : Int) := of_decide_eq_true (by first | (with_reducible assumption) | assumption)
                          have q880 : x5_1 < (l0.length : Int) := of_decide_eq_true (by first | (with_reducible assumption) | assumption)
                          obtain ⟨ad880, e880, hx880_0, hx880_1, hx880_2, hx880_3, hx880_4, hx880_5, hx880_6, hx880_7, hx880_8⟩ := at_T71 HR0.out x5_1 p880 q880
                          obtain rfl : ad872 = ad880 := (by injection e880)
                          replace hx880_0 := (HB.out.cell (World.block_lt_of_cell? w _ hx880_0)).trans hx880_0
                          replace hx880_1 := (HB.out.cell (World.block_lt_of_cell? w _ hx880_1)).trans hx880_1
                          replace hx880_2 := (HB.out.cell (World.block_lt_of_cell? w _ hx880_2)).trans hx880_2
                          replace hx880_3 := (HB.out.cell (World.block_lt_of_cell? w _ hx880_3)).trans hx880_3
                          replace hx880_4 := (HB.out.cell (World.block_lt_of_cell? w _ hx880_4)).trans hx880_4
                          replace hx880_5 := (HB.out.cell (World.block_lt_of_cell? w _ hx880_5)).trans hx880_5
                          replace hx880_6 := (HB.out.cell (World.block_lt_of_cell? w _ hx880_6)).trans hx880_6
                          replace hx880_7 := (HB.out.cell (World.block_lt_of_cell? w _ hx880_7)).trans hx880_7
                          replace hx880_8 := (HB.out.cell (World.block_lt_of_cell? w _ hx880_8)).trans hx880_8
                          replace p880 := eq_true p880
                          replace q880 := eq_true q880
                          try go_wp2
                          go_ret
                          exact ⟨by first | rfl | (simp [errW_none, errW_some] <;> rfl) | (simp [*, errW_none, errW_some] <;> rfl), by repeat (first | (with_reducible first | exact HB.out | apply below_alloc | apply pw_below_drewN | apply below_drew1) | exact HB.out)⟩
                      · rw [if_neg c12] at H
                        have c12b0 : (((rd_T71 l0 x5_1).f6) == (wrap64 ((wrap64 ((wrap64 ((wrap64 ((wrap64 ((wrap64 (x1_1 + 1)) + 1)) + 1)) + 1)) + 1)) + 1))) = false := beq_eq_false_iff_ne.mpr c12
                        have c12b1 : (((rd_T71 l0 x5_1).f6) != (wrap64 ((wrap64 ((wrap64 ((wrap64 ((wrap64 ((wrap64 (x1_1 + 1)) + 1)) + 1)) + 1)) + 1)) + 1))) = true := bne_iff_ne.mpr c12
                        obtain rfl := Option.some.inj H
                        have p872 : 0 ≤ (x5_1 : Int) := of_decide_eq_true (by first | (with_reducible assumption) | assumption)
                        have q872 : x5_1 < (l0.length : Int) := of_decide_eq_true (by first | (with_reducible assumption) | assumption)
                        obtain ⟨ad872, e872, hx872_0, hx872_1, hx872_2, hx872_3, hx872_4, hx872_5, hx872_6, hx872_7, hx872_8⟩ := at_T71 HR0.out x5_1 p872 q872
                        cases e872
                        replace hx872_0 := (HB.out.cell (World.block_lt_of_cell? w _ hx872_0)).trans hx872_0
                        replace hx872_1 := (HB.out.cell (World.block_lt_of_cell? w _ hx872_1)).trans hx872_1
                        replace hx872_2 := (HB.out.cell (World.block_lt_of_cell? w _ hx872_2)).trans hx872_2
                        replace hx872_3 := (HB.out.cell (World.block_lt_of_cell? w _ hx872_3)).trans hx872_3
                        replace hx872_4 := (HB.out.cell (World.block_lt_of_cell? w _ hx872_4)).trans hx872_4
                        replace hx872_5 := (HB.out.cell (World.block_lt_of_cell? w _ hx872_5)).trans hx872_5
                        replace hx872_6 := (HB.out.cell (World.block_lt_of_cell? w _ hx872_6)).trans hx872_6
                        replace hx872_7 := (HB.out.cell (World.block_lt_of_cell? w _ hx872_7)).trans hx872_7
                        replace hx872_8 := (HB.out.cell (World.block_lt_of_cell? w _ hx872_8)).trans hx872_8
                        replace p872 := eq_true p872
                        replace q872 := eq_true q872
                        try go_wp2
                        have n0_ := Aside0.mk (below_drew1 HB.out)
                        clear HB
                        have HB := n0_
                        clear n0_
                        have p873 : 0 ≤ (x5_1 : Int) := of_decide_eq_true (by first | (with_reducible assumption) | assumption)
                        have q873 : x5_1 < (l0.length : Int) := of_decide_eq_true (by first | (with_reducible assumption) | assumption)
                        obtain ⟨ad873, e873, hx873_0, hx873_1, hx873_2, hx873_3, hx873_4, hx873_5, hx873_6, hx873_7, hx873_8⟩ := at_T71 HR0.out x5_1 p873 q873
                        have hw873_8 := hx873_8
                        have hw873_7 := hx873_7
                        have hw873_6 := hx873_6
                        have hw873_5 := hx873_5
                        have hw873_4 := hx873_4
                        have hw873_3 := hx873_3
                        have hw873_2 := hx873_2
                        have hw873_1 := hx873_1
                        have hw873_0 := hx873_0
                        obtain rfl : ad872 = ad873 := (by injection e873)
                        replace hx873_0 := (HB.out.cell (World.block_lt_of_cell? w _ hx873_0)).trans hx873_0
                        replace hx873_1 := (HB.out.cell (World.block_lt_of_cell? w _ hx873_1)).trans hx873_1
                        replace hx873_2 := (HB.out.cell (World.block_lt_of_cell? w _ hx873_2)).trans hx873_2
                        replace hx873_3 := (HB.out.cell (World.block_lt_of_cell? w _ hx873_3)).trans hx873_3
                        replace hx873_4 := (HB.out.cell (World.block_lt_of_cell? w _ hx873_4)).trans hx873_4
                        replace hx873_5 := (HB.out.cell (World.block_lt_of_cell? w _ hx873_5)).trans hx873_5
                        replace hx873_6 := (HB.out.cell (World.block_lt_of_cell? w _ hx873_6)).trans hx873_6
                        replace hx873_7 := (HB.out.cell (World.block_lt_of_cell? w _ hx873_7)).trans hx873_7
                        replace hx873_8 := (HB.out.cell (World.block_lt_of_cell? w _ hx873_8)).trans hx873_8
                        replace p873 := eq_true p873
                        replace q873 := eq_true q873
                        refine start_ (n := 8) (S := fun w' => w'.cell? (ad872.add ((x5_1).toNat * 9)) = some (.int .i64 ((rd_T71 l0 x5_1).f0)) ∧ w'.cell? ⟨(ad872.add ((x5_1).toNat * 9)).block, (ad872.add ((x5_1).toNat * 9)).off + 1, none⟩ = some (.string ((rd_T71 l0 x5_1).f1)) ∧ w'.cell? ⟨(ad872.add ((x5_1).toNat * 9)).block, (ad872.add ((x5_1).toNat * 9)).off + 2, none⟩ = some (.int .i64 ((rd_T71 l0 x5_1).f2)) ∧ w'.cell? ⟨(ad872.add ((x5_1).toNat * 9)).block, (ad872.add ((x5_1).toNat * 9)).off + 3, none⟩ = some (.int .i64 ((rd_T71 l0 x5_1).f3)) ∧ w'.cell? ⟨(ad872.add ((x5_1).toNat * 9)).block, (ad872.add ((x5_1).toNat * 9)).off + 4, none⟩ = some (.int .i64 ((rd_T71 l0 x5_1).f4)) ∧ w'.cell? ⟨(ad872.add ((x5_1).toNat * 9)).block, (ad872.add ((x5_1).toNat * 9)).off + 5, none⟩ = some (.int .i64 ((rd_T71 l0 x5_1).f5)) ∧ w'.cell? ⟨(ad872.add ((x5_1).toNat * 9)).block, (ad872.add ((x5_1).toNat * 9)).off + 6, none⟩ = some (.int .i64 ((rd_T71 l0 x5_1).f6)) ∧ w'.cell? ⟨(ad872.add ((x5_1).toNat * 9)).block, (ad872.add ((x5_1).toNat * 9)).off + 7, none⟩ = some (.int .i64 ((rd_T71 l0 x5_1).f7)) ∧ w'.cell? ⟨(ad872.add ((x5_1).toNat * 9)).block, (ad872.add ((x5_1).toNat * 9)).off + 8, none⟩ = some (.int .i64 ((rd_T71 l0 x5_1).f8))) (ds := []) #[false, false, false, false, false, false, false, false] (by kernel_rfl) rfl rfl ⟨((HB.out.cell (World.block_lt_of_cell? w _ hw873_0)).trans hw873_0), ((HB.out.cell (World.block_lt_of_cell? w _ hw873_1)).trans hw873_1), ((HB.out.cell (World.block_lt_of_cell? w _ hw873_2)).trans hw873_2), ((HB.out.cell (World.block_lt_of_cell? w _ hw873_3)).trans hw873_3), ((HB.out.cell (World.block_lt_of_cell? w _ hw873_4)).trans hw873_4), ((HB.out.cell (World.block_lt_of_cell? w _ hw873_5)).trans hw873_5), ((HB.out.cell (World.block_lt_of_cell? w _ hw873_6)).trans hw873_6), ((HB.out.cell (World.block_lt_of_cell? w _ hw873_7)).trans hw873_7), ((HB.out.cell (World.block_lt_of_cell? w _ hw873_8)).trans hw873_8)⟩ (fun hHeld => ?_); refine with_tabW laws_heldFlowS.tab7 laws_heldFlowS.bits7 (fun HT_ HW_ => ?_)
                        generalize wr.drew = w21 at HB hx873_0 hx873_1 hx873_2 hx873_3 hx873_4 hx873_5 hx873_6 hx873_7 hx873_8 hHeld ⊢
                        refine pure_ (i := 0) (N := some 21) (v := ?_) (a' := ?_) #[true, false, false, false, false, false, false, false] rfl rfl (any_of HT_.out (by kernel_rfl)) (fun _ _ _ h => h) (Or.inl ⟨by rfl, ?_⟩) ?_ ?_
                        rotate_left
                        · intro w'
                          go_simp
                          with_reducible rfl
                        rotate_left
                        · simp only [Act.put, List.setIfInBounds_toArray, List.set_cons_zero, List.set_cons_succ, i64_w, i32_w]
                          rfl
                        refine pure_ (i := 1) (N := some 22) (v := ?_) (a' := ?_) #[true, true, false, false, false, false, false, false] rfl rfl (any_of HT_.out (by kernel_rfl)) (fun _ _ _ h => h) (Or.inl ⟨by rfl, ?_⟩) ?_ ?_
                        rotate_left
                        · intro w'
                          go_simp
                          with_reducible rfl
                        rotate_left
                        · simp only [Act.put, List.setIfInBounds_toArray, List.set_cons_zero, List.set_cons_succ, i64_w, i32_w]
                          rfl
                        refine pure_ (i := 2) (N := some 23) (v := ?_) (a' := ?_) #[true, true, true, false, false, false, false, false] rfl rfl (any_of HT_.out (by kernel_rfl)) (fun _ _ _ h => h) (Or.inl ⟨by rfl, ?_⟩) ?_ ?_
                        rotate_left
                        · intro w'
                          go_simp
                          with_reducible rfl
                        rotate_left
                        · simp only [Act.put, List.setIfInBounds_toArray, List.set_cons_zero, List.set_cons_succ, i64_w, i32_w]
                          rfl
                        refine pure_ (i := 3) (N := some 24) (v := ?_) (a' := ?_) #[true, true, true, true, false, false, false, false] rfl rfl (any_of HT_.out (by kernel_rfl)) (fun _ _ _ h => h) (Or.inl ⟨by rfl, ?_⟩) ?_ ?_
                        rotate_left
                        · intro w'
                          go_simp
                          with_reducible rfl
                        rotate_left
                        · simp only [Act.put, List.setIfInBounds_toArray, List.set_cons_zero, List.set_cons_succ, i64_w, i32_w]
                          rfl
                        refine pure_ (i := 5) (N := some 26) (v := ?_) (a' := ?_) #[true, true, true, true, false, true, false, false] rfl rfl (any_of HT_.out (by kernel_rfl)) (fun _ _ _ h => h) (Or.inl ⟨by rfl, ?_⟩) ?_ ?_
                        rotate_left
                        · intro w'
                          go_simp
                          with_reducible rfl
                        rotate_left
                        · simp only [Act.put, List.setIfInBounds_toArray, List.set_cons_zero, List.set_cons_succ, i64_w, i32_w]
                          rfl
                        refine take_ (i := 4) (N := some 25) (v := ?_) (a' := ?_) #[true, true, true, true, true, true, false, false] rfl rfl (take_ofW HT_.out HW_.out (by kernel_rfl)) (fun _ _ _ h => h) (Or.inl ⟨by rfl, ?_⟩) hHeld ?_ ?_
                        rotate_left
                        · rintro w' ⟨s0, s1, s2, s3, s4, s5, s6, s7, s8⟩
                          go_simp
                          with_reducible rfl
                        rotate_left
                        · simp only [Act.put, List.setIfInBounds_toArray, List.set_cons_zero, List.set_cons_succ, i64_w, i32_w]
                          rfl
                        refine one_ (i := 6) (N := some 27) #[true, true, true, true, true, true, true, false] rfl rfl (one_of HT_.out (by kernel_rfl)) (by decide) (fun K hK => ?_)
                        refine goes_ Try.func89 (by kernel_rfl) rfl #[.int .i64 (wrap64 (x1_1 + 1))] (by rfl) rfl rfl (by (try simp only [List.map_toArray, List.map_cons, List.map_nil]); first | done | rfl | (simp only [List.length_drop, List.length_take]; rfl)) ?_
                        with_reducible refine (laws_markText.calls k1 (wrap64 (x1_1 + 1)) t874 _ A6.out).mono ?_
                        rintro e w22 ⟨rfl, hb⟩
                        refine ⟨_, rfl, ?_⟩
                        have n0_ := Aside0.mk (below_step (by repeat (first | (with_reducible first | exact HB.out | apply below_alloc | apply pw_below_drewN | apply below_drew1) | exact HB.out)) hb)
                        clear HB
                        have HB := n0_
                        clear n0_
                        (try clear hb)
                        (try clear hb2)
                        (try clear hk)
                        (try clear hi)
                        refine hK.out _ _ ⟨((HB.out.cell (World.block_lt_of_cell? w _ hw873_0)).trans hw873_0), ((HB.out.cell (World.block_lt_of_cell? w _ hw873_1)).trans hw873_1), ((HB.out.cell (World.block_lt_of_cell? w _ hw873_2)).trans hw873_2), ((HB.out.cell (World.block_lt_of_cell? w _ hw873_3)).trans hw873_3), ((HB.out.cell (World.block_lt_of_cell? w _ hw873_4)).trans hw873_4), ((HB.out.cell (World.block_lt_of_cell? w _ hw873_5)).trans hw873_5), ((HB.out.cell (World.block_lt_of_cell? w _ hw873_6)).trans hw873_6), ((HB.out.cell (World.block_lt_of_cell? w _ hw873_7)).trans hw873_7), ((HB.out.cell (World.block_lt_of_cell? w _ hw873_8)).trans hw873_8)⟩ (fun hHeld => ?_)
                        clear hK K
                        refine norm_ (a' := ?_) ?_ ?_
                        rotate_left
                        · show Act.put _ (some 27) _ = _
                          simp only [Act.put, List.setIfInBounds_toArray, List.set_cons_zero, List.set_cons_succ, i64_w, i32_w]
                          rfl
                        refine pure_ (i := 7) (N := some 28) (v := ?_) (a' := ?_) #[true, true, true, true, true, true, true, true] rfl rfl (any_of HT_.out (by kernel_rfl)) (fun _ _ _ h => h) (Or.inl ⟨by rfl, ?_⟩) ?_ ?_
                        rotate_left
                        · intro w'
                          go_simp
                          with_reducible rfl
                        rotate_left
                        · simp only [Act.put, List.setIfInBounds_toArray, List.set_cons_zero, List.set_cons_succ, i64_w, i32_w]
                          rfl
                        refine done_ (done_of HT_.out (by kernel_rfl)) ?_
                        have p875 : 0 ≤ (x5_1 : Int) := of_decide_eq_true (by first | (with_reducible assumption) | assumption)
                        have q875 : x5_1 < (l0.length : Int) := of_decide_eq_true (by first | (with_reducible assumption) | assumption)
                        obtain ⟨ad875, e875, hx875_0, hx875_1, hx875_2, hx875_3, hx875_4, hx875_5, hx875_6, hx875_7, hx875_8⟩ := at_T71 HR0.out x5_1 p875 q875
                        obtain rfl : ad872 = ad875 := (by injection e875)
                        replace hx875_0 := (HB.out.cell (World.block_lt_of_cell? w _ hx875_0)).trans hx875_0
                        replace hx875_1 := (HB.out.cell (World.block_lt_of_cell? w _ hx875_1)).trans hx875_1
                        replace hx875_2 := (HB.out.cell (World.block_lt_of_cell? w _ hx875_2)).trans hx875_2
                        replace hx875_3 := (HB.out.cell (World.block_lt_of_cell? w _ hx875_3)).trans hx875_3
                        replace hx875_4 := (HB.out.cell (World.block_lt_of_cell? w _ hx875_4)).trans hx875_4
                        replace hx875_5 := (HB.out.cell (World.block_lt_of_cell? w _ hx875_5)).trans hx875_5
                        replace hx875_6 := (HB.out.cell (World.block_lt_of_cell? w _ hx875_6)).trans hx875_6
                        replace hx875_7 := (HB.out.cell (World.block_lt_of_cell? w _ hx875_7)).trans hx875_7
                        replace hx875_8 := (HB.out.cell (World.block_lt_of_cell? w _ hx875_8)).trans hx875_8
                        replace p875 := eq_true p875
                        replace q875 := eq_true q875
                        have p876 : 0 ≤ (x5_1 : Int) := of_decide_eq_true (by first | (with_reducible assumption) | assumption)
                        have q876 : x5_1 < (l0.length : Int) := of_decide_eq_true (by first | (with_reducible assumption) | assumption)
                        obtain ⟨ad876, e876, hx876_0, hx876_1, hx876_2, hx876_3, hx876_4, hx876_5, hx876_6, hx876_7, hx876_8⟩ := at_T71 HR0.out x5_1 p876 q876
                        obtain rfl : ad872 = ad876 := (by injection e876)
                        replace hx876_0 := (HB.out.cell (World.block_lt_of_cell? w _ hx876_0)).trans hx876_0
                        replace hx876_1 := (HB.out.cell (World.block_lt_of_cell? w _ hx876_1)).trans hx876_1
                        replace hx876_2 := (HB.out.cell (World.block_lt_of_cell? w _ hx876_2)).trans hx876_2
                        replace hx876_3 := (HB.out.cell (World.block_lt_of_cell? w _ hx876_3)).trans hx876_3
                        replace hx876_4 := (HB.out.cell (World.block_lt_of_cell? w _ hx876_4)).trans hx876_4
                        replace hx876_5 := (HB.out.cell (World.block_lt_of_cell? w _ hx876_5)).trans hx876_5
                        replace hx876_6 := (HB.out.cell (World.block_lt_of_cell? w _ hx876_6)).trans hx876_6
                        replace hx876_7 := (HB.out.cell (World.block_lt_of_cell? w _ hx876_7)).trans hx876_7
                        replace hx876_8 := (HB.out.cell (World.block_lt_of_cell? w _ hx876_8)).trans hx876_8
                        replace p876 := eq_true p876
                        replace q876 := eq_true q876
                        have p877 : 0 ≤ (x5_1 : Int) := of_decide_eq_true (by first | (with_reducible assumption) | assumption)
                        have q877 : x5_1 < (l0.length : Int) := of_decide_eq_true (by first | (with_reducible assumption) | assumption)
                        obtain ⟨ad877, e877, hx877_0, hx877_1, hx877_2, hx877_3, hx877_4, hx877_5, hx877_6, hx877_7, hx877_8⟩ := at_T71 HR0.out x5_1 p877 q877
                        obtain rfl : ad872 = ad877 := (by injection e877)
                        replace hx877_0 := (HB.out.cell (World.block_lt_of_cell? w _ hx877_0)).trans hx877_0
                        replace hx877_1 := (HB.out.cell (World.block_lt_of_cell? w _ hx877_1)).trans hx877_1
                        replace hx877_2 := (HB.out.cell (World.block_lt_of_cell? w _ hx877_2)).trans hx877_2
                        replace hx877_3 := (HB.out.cell (World.block_lt_of_cell? w _ hx877_3)).trans hx877_3
                        replace hx877_4 := (HB.out.cell (World.block_lt_of_cell? w _ hx877_4)).trans hx877_4
                        replace hx877_5 := (HB.out.cell (World.block_lt_of_cell? w _ hx877_5)).trans hx877_5
                        replace hx877_6 := (HB.out.cell (World.block_lt_of_cell? w _ hx877_6)).trans hx877_6
                        replace hx877_7 := (HB.out.cell (World.block_lt_of_cell? w _ hx877_7)).trans hx877_7
                        replace hx877_8 := (HB.out.cell (World.block_lt_of_cell? w _ hx877_8)).trans hx877_8
                        replace p877 := eq_true p877
                        replace q877 := eq_true q877
                        have p878 : 0 ≤ (x5_1 : Int) := of_decide_eq_true (by first | (with_reducible assumption) | assumption)
                        have q878 : x5_1 < (l0.length : Int) := of_decide_eq_true (by first | (with_reducible assumption) | assumption)
                        obtain ⟨ad878, e878, hx878_0, hx878_1, hx878_2, hx878_3, hx878_4, hx878_5, hx878_6, hx878_7, hx878_8⟩ := at_T71 HR0.out x5_1 p878 q878
                        obtain rfl : ad872 = ad878 := (by injection e878)
                        replace hx878_0 := (HB.out.cell (World.block_lt_of_cell? w _ hx878_0)).trans hx878_0
                        replace hx878_1 := (HB.out.cell (World.block_lt_of_cell? w _ hx878_1)).trans hx878_1
                        replace hx878_2 := (HB.out.cell (World.block_lt_of_cell? w _ hx878_2)).trans hx878_2
                        replace hx878_3 := (HB.out.cell (World.block_lt_of_cell? w _ hx878_3)).trans hx878_3
                        replace hx878_4 := (HB.out.cell (World.block_lt_of_cell? w _ hx878_4)).trans hx878_4
                        replace hx878_5 := (HB.out.cell (World.block_lt_of_cell? w _ hx878_5)).trans hx878_5
                        replace hx878_6 := (HB.out.cell (World.block_lt_of_cell? w _ hx878_6)).trans hx878_6
                        replace hx878_7 := (HB.out.cell (World.block_lt_of_cell? w _ hx878_7)).trans hx878_7
                        replace hx878_8 := (HB.out.cell (World.block_lt_of_cell? w _ hx878_8)).trans hx878_8
                        replace p878 := eq_true p878
                        replace q878 := eq_true q878
                        have p879 : 0 ≤ (x5_1 : Int) := of_decide_eq_true (by first | (with_reducible assumption) | assumption)
                        have q879 : x5_1 < (l0.length : Int) := of_decide_eq_true (by first | (with_reducible assumption) | assumption)
                        obtain ⟨ad879, e879, hx879_0, hx879_1, hx879_2, hx879_3, hx879_4, hx879_5, hx879_6, hx879_7, hx879_8⟩ := at_T71 HR0.out x5_1 p879 q879
                        obtain rfl : ad872 = ad879 := (by injection e879)
                        replace hx879_0 := (HB.out.cell (World.block_lt_of_cell? w _ hx879_0)).trans hx879_0
                        replace hx879_1 := (HB.out.cell (World.block_lt_of_cell? w _ hx879_1)).trans hx879_1
                        replace hx879_2 := (HB.out.cell (World.block_lt_of_cell? w _ hx879_2)).trans hx879_2
                        replace hx879_3 := (HB.out.cell (World.block_lt_of_cell? w _ hx879_3)).trans hx879_3
                        replace hx879_4 := (HB.out.cell (World.block_lt_of_cell? w _ hx879_4)).trans hx879_4
                        replace hx879_5 := (HB.out.cell (World.block_lt_of_cell? w _ hx879_5)).trans hx879_5
                        replace hx879_6 := (HB.out.cell (World.block_lt_of_cell? w _ hx879_6)).trans hx879_6
                        replace hx879_7 := (HB.out.cell (World.block_lt_of_cell? w _ hx879_7)).trans hx879_7
                        replace hx879_8 := (HB.out.cell (World.block_lt_of_cell? w _ hx879_8)).trans hx879_8
                        replace p879 := eq_true p879
                        replace q879 := eq_true q879
                        try go_wp2
                        go_ret
                        exact ⟨by first | rfl | (simp [errW_none, errW_some] <;> rfl) | (simp [*, errW_none, errW_some] <;> rfl), by repeat (first | (with_reducible first | exact HB.out | apply below_alloc | apply pw_below_drewN | apply below_drew1) | exact HB.out)⟩
                    · rw [if_neg c11] at H
                      have c11b0 : (((rd_T71 l0 x5_1).f5) == (wrap64 ((wrap64 ((wrap64 ((wrap64 ((wrap64 (x1_1 + 1)) + 1)) + 1)) + 1)) + 1))) = false := beq_eq_false_iff_ne.mpr c11
                      have c11b1 : (((rd_T71 l0 x5_1).f5) != (wrap64 ((wrap64 ((wrap64 ((wrap64 ((wrap64 (x1_1 + 1)) + 1)) + 1)) + 1)) + 1))) = true := bne_iff_ne.mpr c11
                      obtain rfl := Option.some.inj H
                      have p872 : 0 ≤ (x5_1 : Int) := of_decide_eq_true (by first | (with_reducible assumption) | assumption)
                      have q872 : x5_1 < (l0.length : Int) := of_decide_eq_true (by first | (with_reducible assumption) | assumption)
                      obtain ⟨ad872, e872, hx872_0, hx872_1, hx872_2, hx872_3, hx872_4, hx872_5, hx872_6, hx872_7, hx872_8⟩ := at_T71 HR0.out x5_1 p872 q872
                      cases e872
                      replace hx872_0 := (HB.out.cell (World.block_lt_of_cell? w _ hx872_0)).trans hx872_0
                      replace hx872_1 := (HB.out.cell (World.block_lt_of_cell? w _ hx872_1)).trans hx872_1
                      replace hx872_2 := (HB.out.cell (World.block_lt_of_cell? w _ hx872_2)).trans hx872_2
                      replace hx872_3 := (HB.out.cell (World.block_lt_of_cell? w _ hx872_3)).trans hx872_3
                      replace hx872_4 := (HB.out.cell (World.block_lt_of_cell? w _ hx872_4)).trans hx872_4
                      replace hx872_5 := (HB.out.cell (World.block_lt_of_cell? w _ hx872_5)).trans hx872_5
                      replace hx872_6 := (HB.out.cell (World.block_lt_of_cell? w _ hx872_6)).trans hx872_6
                      replace hx872_7 := (HB.out.cell (World.block_lt_of_cell? w _ hx872_7)).trans hx872_7
                      replace hx872_8 := (HB.out.cell (World.block_lt_of_cell? w _ hx872_8)).trans hx872_8
                      replace p872 := eq_true p872
                      replace q872 := eq_true q872
                      try go_wp2
                      have n0_ := Aside0.mk (below_drew1 HB.out)
                      clear HB
                      have HB := n0_
                      clear n0_
                      have p873 : 0 ≤ (x5_1 : Int) := of_decide_eq_true (by first | (with_reducible assumption) | assumption)
                      have q873 : x5_1 < (l0.length : Int) := of_decide_eq_true (by first | (with_reducible assumption) | assumption)
                      obtain ⟨ad873, e873, hx873_0, hx873_1, hx873_2, hx873_3, hx873_4, hx873_5, hx873_6, hx873_7, hx873_8⟩ := at_T71 HR0.out x5_1 p873 q873
                      have hw873_8 := hx873_8
                      have hw873_7 := hx873_7
                      have hw873_6 := hx873_6
                      have hw873_5 := hx873_5
                      have hw873_4 := hx873_4
                      have hw873_3 := hx873_3
                      have hw873_2 := hx873_2
                      have hw873_1 := hx873_1
                      have hw873_0 := hx873_0
                      obtain rfl : ad872 = ad873 := (by injection e873)
                      replace hx873_0 := (HB.out.cell (World.block_lt_of_cell? w _ hx873_0)).trans hx873_0
                      replace hx873_1 := (HB.out.cell (World.block_lt_of_cell? w _ hx873_1)).trans hx873_1
                      replace hx873_2 := (HB.out.cell (World.block_lt_of_cell? w _ hx873_2)).trans hx873_2
                      replace hx873_3 := (HB.out.cell (World.block_lt_of_cell? w _ hx873_3)).trans hx873_3
                      replace hx873_4 := (HB.out.cell (World.block_lt_of_cell? w _ hx873_4)).trans hx873_4
                      replace hx873_5 := (HB.out.cell (World.block_lt_of_cell? w _ hx873_5)).trans hx873_5
                      replace hx873_6 := (HB.out.cell (World.block_lt_of_cell? w _ hx873_6)).trans hx873_6
                      replace hx873_7 := (HB.out.cell (World.block_lt_of_cell? w _ hx873_7)).trans hx873_7
                      replace hx873_8 := (HB.out.cell (World.block_lt_of_cell? w _ hx873_8)).trans hx873_8
                      replace p873 := eq_true p873
                      replace q873 := eq_true q873
                      refine start_ (n := 8) (S := fun w' => w'.cell? (ad872.add ((x5_1).toNat * 9)) = some (.int .i64 ((rd_T71 l0 x5_1).f0)) ∧ w'.cell? ⟨(ad872.add ((x5_1).toNat * 9)).block, (ad872.add ((x5_1).toNat * 9)).off + 1, none⟩ = some (.string ((rd_T71 l0 x5_1).f1)) ∧ w'.cell? ⟨(ad872.add ((x5_1).toNat * 9)).block, (ad872.add ((x5_1).toNat * 9)).off + 2, none⟩ = some (.int .i64 ((rd_T71 l0 x5_1).f2)) ∧ w'.cell? ⟨(ad872.add ((x5_1).toNat * 9)).block, (ad872.add ((x5_1).toNat * 9)).off + 3, none⟩ = some (.int .i64 ((rd_T71 l0 x5_1).f3)) ∧ w'.cell? ⟨(ad872.add ((x5_1).toNat * 9)).block, (ad872.add ((x5_1).toNat * 9)).off + 4, none⟩ = some (.int .i64 ((rd_T71 l0 x5_1).f4)) ∧ w'.cell? ⟨(ad872.add ((x5_1).toNat * 9)).block, (ad872.add ((x5_1).toNat * 9)).off + 5, none⟩ = some (.int .i64 ((rd_T71 l0 x5_1).f5)) ∧ w'.cell? ⟨(ad872.add ((x5_1).toNat * 9)).block, (ad872.add ((x5_1).toNat * 9)).off + 6, none⟩ = some (.int .i64 ((rd_T71 l0 x5_1).f6)) ∧ w'.cell? ⟨(ad872.add ((x5_1).toNat * 9)).block, (ad872.add ((x5_1).toNat * 9)).off + 7, none⟩ = some (.int .i64 ((rd_T71 l0 x5_1).f7)) ∧ w'.cell? ⟨(ad872.add ((x5_1).toNat * 9)).block, (ad872.add ((x5_1).toNat * 9)).off + 8, none⟩ = some (.int .i64 ((rd_T71 l0 x5_1).f8))) (ds := []) #[false, false, false, false, false, false, false, false] (by kernel_rfl) rfl rfl ⟨((HB.out.cell (World.block_lt_of_cell? w _ hw873_0)).trans hw873_0), ((HB.out.cell (World.block_lt_of_cell? w _ hw873_1)).trans hw873_1), ((HB.out.cell (World.block_lt_of_cell? w _ hw873_2)).trans hw873_2), ((HB.out.cell (World.block_lt_of_cell? w _ hw873_3)).trans hw873_3), ((HB.out.cell (World.block_lt_of_cell? w _ hw873_4)).trans hw873_4), ((HB.out.cell (World.block_lt_of_cell? w _ hw873_5)).trans hw873_5), ((HB.out.cell (World.block_lt_of_cell? w _ hw873_6)).trans hw873_6), ((HB.out.cell (World.block_lt_of_cell? w _ hw873_7)).trans hw873_7), ((HB.out.cell (World.block_lt_of_cell? w _ hw873_8)).trans hw873_8)⟩ (fun hHeld => ?_); refine with_tabW laws_heldFlowS.tab7 laws_heldFlowS.bits7 (fun HT_ HW_ => ?_)
                      generalize wr.drew = w23 at HB hx873_0 hx873_1 hx873_2 hx873_3 hx873_4 hx873_5 hx873_6 hx873_7 hx873_8 hHeld ⊢
                      refine pure_ (i := 0) (N := some 21) (v := ?_) (a' := ?_) #[true, false, false, false, false, false, false, false] rfl rfl (any_of HT_.out (by kernel_rfl)) (fun _ _ _ h => h) (Or.inl ⟨by rfl, ?_⟩) ?_ ?_
                      rotate_left
                      · intro w'
                        go_simp
                        with_reducible rfl
                      rotate_left
                      · simp only [Act.put, List.setIfInBounds_toArray, List.set_cons_zero, List.set_cons_succ, i64_w, i32_w]
                        rfl
                      refine pure_ (i := 1) (N := some 22) (v := ?_) (a' := ?_) #[true, true, false, false, false, false, false, false] rfl rfl (any_of HT_.out (by kernel_rfl)) (fun _ _ _ h => h) (Or.inl ⟨by rfl, ?_⟩) ?_ ?_
                      rotate_left
                      · intro w'
                        go_simp
                        with_reducible rfl
                      rotate_left
                      · simp only [Act.put, List.setIfInBounds_toArray, List.set_cons_zero, List.set_cons_succ, i64_w, i32_w]
                        rfl
                      refine pure_ (i := 2) (N := some 23) (v := ?_) (a' := ?_) #[true, true, true, false, false, false, false, false] rfl rfl (any_of HT_.out (by kernel_rfl)) (fun _ _ _ h => h) (Or.inl ⟨by rfl, ?_⟩) ?_ ?_
                      rotate_left
                      · intro w'
                        go_simp
                        with_reducible rfl
                      rotate_left
                      · simp only [Act.put, List.setIfInBounds_toArray, List.set_cons_zero, List.set_cons_succ, i64_w, i32_w]
                        rfl
                      refine pure_ (i := 3) (N := some 24) (v := ?_) (a' := ?_) #[true, true, true, true, false, false, false, false] rfl rfl (any_of HT_.out (by kernel_rfl)) (fun _ _ _ h => h) (Or.inl ⟨by rfl, ?_⟩) ?_ ?_
                      rotate_left
                      · intro w'
                        go_simp
                        with_reducible rfl
                      rotate_left
                      · simp only [Act.put, List.setIfInBounds_toArray, List.set_cons_zero, List.set_cons_succ, i64_w, i32_w]
                        rfl
                      refine pure_ (i := 5) (N := some 26) (v := ?_) (a' := ?_) #[true, true, true, true, false, true, false, false] rfl rfl (any_of HT_.out (by kernel_rfl)) (fun _ _ _ h => h) (Or.inl ⟨by rfl, ?_⟩) ?_ ?_
                      rotate_left
                      · intro w'
                        go_simp
                        with_reducible rfl
                      rotate_left
                      · simp only [Act.put, List.setIfInBounds_toArray, List.set_cons_zero, List.set_cons_succ, i64_w, i32_w]
                        rfl
                      refine take_ (i := 4) (N := some 25) (v := ?_) (a' := ?_) #[true, true, true, true, true, true, false, false] rfl rfl (take_ofW HT_.out HW_.out (by kernel_rfl)) (fun _ _ _ h => h) (Or.inl ⟨by rfl, ?_⟩) hHeld ?_ ?_
                      rotate_left
                      · rintro w' ⟨s0, s1, s2, s3, s4, s5, s6, s7, s8⟩
                        go_simp
                        with_reducible rfl
                      rotate_left
                      · simp only [Act.put, List.setIfInBounds_toArray, List.set_cons_zero, List.set_cons_succ, i64_w, i32_w]
                        rfl
                      refine one_ (i := 6) (N := some 27) #[true, true, true, true, true, true, true, false] rfl rfl (one_of HT_.out (by kernel_rfl)) (by decide) (fun K hK => ?_)
                      refine goes_ Try.func89 (by kernel_rfl) rfl #[.int .i64 (wrap64 (x1_1 + 1))] (by rfl) rfl rfl (by (try simp only [List.map_toArray, List.map_cons, List.map_nil]); first | done | rfl | (simp only [List.length_drop, List.length_take]; rfl)) ?_
                      with_reducible refine (laws_markText.calls k1 (wrap64 (x1_1 + 1)) t874 _ A6.out).mono ?_
                      rintro e w24 ⟨rfl, hb⟩
                      refine ⟨_, rfl, ?_⟩
                      have n0_ := Aside0.mk (below_step (by repeat (first | (with_reducible first | exact HB.out | apply below_alloc | apply pw_below_drewN | apply below_drew1) | exact HB.out)) hb)
                      clear HB
                      have HB := n0_
                      clear n0_
                      (try clear hb)
                      (try clear hb2)
                      (try clear hk)
                      (try clear hi)
                      refine hK.out _ _ ⟨((HB.out.cell (World.block_lt_of_cell? w _ hw873_0)).trans hw873_0), ((HB.out.cell (World.block_lt_of_cell? w _ hw873_1)).trans hw873_1), ((HB.out.cell (World.block_lt_of_cell? w _ hw873_2)).trans hw873_2), ((HB.out.cell (World.block_lt_of_cell? w _ hw873_3)).trans hw873_3), ((HB.out.cell (World.block_lt_of_cell? w _ hw873_4)).trans hw873_4), ((HB.out.cell (World.block_lt_of_cell? w _ hw873_5)).trans hw873_5), ((HB.out.cell (World.block_lt_of_cell? w _ hw873_6)).trans hw873_6), ((HB.out.cell (World.block_lt_of_cell? w _ hw873_7)).trans hw873_7), ((HB.out.cell (World.block_lt_of_cell? w _ hw873_8)).trans hw873_8)⟩ (fun hHeld => ?_)
                      clear hK K
                      refine norm_ (a' := ?_) ?_ ?_
                      rotate_left
                      · show Act.put _ (some 27) _ = _
                        simp only [Act.put, List.setIfInBounds_toArray, List.set_cons_zero, List.set_cons_succ, i64_w, i32_w]
                        rfl
                      refine pure_ (i := 7) (N := some 28) (v := ?_) (a' := ?_) #[true, true, true, true, true, true, true, true] rfl rfl (any_of HT_.out (by kernel_rfl)) (fun _ _ _ h => h) (Or.inl ⟨by rfl, ?_⟩) ?_ ?_
                      rotate_left
                      · intro w'
                        go_simp
                        with_reducible rfl
                      rotate_left
                      · simp only [Act.put, List.setIfInBounds_toArray, List.set_cons_zero, List.set_cons_succ, i64_w, i32_w]
                        rfl
                      refine done_ (done_of HT_.out (by kernel_rfl)) ?_
                      have p875 : 0 ≤ (x5_1 : Int) := of_decide_eq_true (by first | (with_reducible assumption) | assumption)
                      have q875 : x5_1 < (l0.length : Int) := of_decide_eq_true (by first | (with_reducible assumption) | assumption)
                      obtain ⟨ad875, e875, hx875_0, hx875_1, hx875_2, hx875_3, hx875_4, hx875_5, hx875_6, hx875_7, hx875_8⟩ := at_T71 HR0.out x5_1 p875 q875
                      obtain rfl : ad872 = ad875 := (by injection e875)
                      replace hx875_0 := (HB.out.cell (World.block_lt_of_cell? w _ hx875_0)).trans hx875_0
                      replace hx875_1 := (HB.out.cell (World.block_lt_of_cell? w _ hx875_1)).trans hx875_1
                      replace hx875_2 := (HB.out.cell (World.block_lt_of_cell? w _ hx875_2)).trans hx875_2
                      replace hx875_3 := (HB.out.cell (World.block_lt_of_cell? w _ hx875_3)).trans hx875_3
                      replace hx875_4 := (HB.out.cell (World.block_lt_of_cell? w _ hx875_4)).trans hx875_4
                      replace hx875_5 := (HB.out.cell (World.block_lt_of_cell? w _ hx875_5)).trans hx875_5
                      replace hx875_6 := (HB.out.cell (World.block_lt_of_cell? w _ hx875_6)).trans hx875_6
                      replace hx875_7 := (HB.out.cell (World.block_lt_of_cell? w _ hx875_7)).trans hx875_7
                      replace hx875_8 := (HB.out.cell (World.block_lt_of_cell? w _ hx875_8)).trans hx875_8
                      replace p875 := eq_true p875
                      replace q875 := eq_true q875
                      have p876 : 0 ≤ (x5_1 : Int) := of_decide_eq_true (by first | (with_reducible assumption) | assumption)
                      have q876 : x5_1 < (l0.length : Int) := of_decide_eq_true (by first | (with_reducible assumption) | assumption)
                      obtain ⟨ad876, e876, hx876_0, hx876_1, hx876_2, hx876_3, hx876_4, hx876_5, hx876_6, hx876_7, hx876_8⟩ := at_T71 HR0.out x5_1 p876 q876
                      obtain rfl : ad872 = ad876 := (by injection e876)
                      replace hx876_0 := (HB.out.cell (World.block_lt_of_cell? w _ hx876_0)).trans hx876_0
                      replace hx876_1 := (HB.out.cell (World.block_lt_of_cell? w _ hx876_1)).trans hx876_1
                      replace hx876_2 := (HB.out.cell (World.block_lt_of_cell? w _ hx876_2)).trans hx876_2
                      replace hx876_3 := (HB.out.cell (World.block_lt_of_cell? w _ hx876_3)).trans hx876_3
                      replace hx876_4 := (HB.out.cell (World.block_lt_of_cell? w _ hx876_4)).trans hx876_4
                      replace hx876_5 := (HB.out.cell (World.block_lt_of_cell? w _ hx876_5)).trans hx876_5
                      replace hx876_6 := (HB.out.cell (World.block_lt_of_cell? w _ hx876_6)).trans hx876_6
                      replace hx876_7 := (HB.out.cell (World.block_lt_of_cell? w _ hx876_7)).trans hx876_7
                      replace hx876_8 := (HB.out.cell (World.block_lt_of_cell? w _ hx876_8)).trans hx876_8
                      replace p876 := eq_true p876
                      replace q876 := eq_true q876
                      have p877 : 0 ≤ (x5_1 : Int) := of_decide_eq_true (by first | (with_reducible assumption) | assumption)
                      have q877 : x5_1 < (l0.length : Int) := of_decide_eq_true (by first | (with_reducible assumption) | assumption)
                      obtain ⟨ad877, e877, hx877_0, hx877_1, hx877_2, hx877_3, hx877_4, hx877_5, hx877_6, hx877_7, hx877_8⟩ := at_T71 HR0.out x5_1 p877 q877
                      obtain rfl : ad872 = ad877 := (by injection e877)
                      replace hx877_0 := (HB.out.cell (World.block_lt_of_cell? w _ hx877_0)).trans hx877_0
                      replace hx877_1 := (HB.out.cell (World.block_lt_of_cell? w _ hx877_1)).trans hx877_1
                      replace hx877_2 := (HB.out.cell (World.block_lt_of_cell? w _ hx877_2)).trans hx877_2
                      replace hx877_3 := (HB.out.cell (World.block_lt_of_cell? w _ hx877_3)).trans hx877_3
                      replace hx877_4 := (HB.out.cell (World.block_lt_of_cell? w _ hx877_4)).trans hx877_4
                      replace hx877_5 := (HB.out.cell (World.block_lt_of_cell? w _ hx877_5)).trans hx877_5
                      replace hx877_6 := (HB.out.cell (World.block_lt_of_cell? w _ hx877_6)).trans hx877_6
                      replace hx877_7 := (HB.out.cell (World.block_lt_of_cell? w _ hx877_7)).trans hx877_7
                      replace hx877_8 := (HB.out.cell (World.block_lt_of_cell? w _ hx877_8)).trans hx877_8
                      replace p877 := eq_true p877
                      replace q877 := eq_true q877
                      have p878 : 0 ≤ (x5_1 : Int) := of_decide_eq_true (by first | (with_reducible assumption) | assumption)
                      have q878 : x5_1 < (l0.length : Int) := of_decide_eq_true (by first | (with_reducible assumption) | assumption)
                      obtain ⟨ad878, e878, hx878_0, hx878_1, hx878_2, hx878_3, hx878_4, hx878_5, hx878_6, hx878_7, hx878_8⟩ := at_T71 HR0.out x5_1 p878 q878
                      obtain rfl : ad872 = ad878 := (by injection e878)
                      replace hx878_0 := (HB.out.cell (World.block_lt_of_cell? w _ hx878_0)).trans hx878_0
                      replace hx878_1 := (HB.out.cell (World.block_lt_of_cell? w _ hx878_1)).trans hx878_1
                      replace hx878_2 := (HB.out.cell (World.block_lt_of_cell? w _ hx878_2)).trans hx878_2
                      replace hx878_3 := (HB.out.cell (World.block_lt_of_cell? w _ hx878_3)).trans hx878_3
                      replace hx878_4 := (HB.out.cell (World.block_lt_of_cell? w _ hx878_4)).trans hx878_4
                      replace hx878_5 := (HB.out.cell (World.block_lt_of_cell? w _ hx878_5)).trans hx878_5
                      replace hx878_6 := (HB.out.cell (World.block_lt_of_cell? w _ hx878_6)).trans hx878_6
                      replace hx878_7 := (HB.out.cell (World.block_lt_of_cell? w _ hx878_7)).trans hx878_7
                      replace hx878_8 := (HB.out.cell (World.block_lt_of_cell? w _ hx878_8)).trans hx878_8
                      replace p878 := eq_true p878
                      replace q878 := eq_true q878
                      try go_wp2
                      go_ret
                      exact ⟨by first | rfl | (simp [errW_none, errW_some] <;> rfl) | (simp [*, errW_none, errW_some] <;> rfl), by repeat (first | (with_reducible first | exact HB.out | apply below_alloc | apply pw_below_drewN | apply below_drew1) | exact HB.out)⟩
                  · rw [if_neg c10] at H
                    have c10b0 : (((rd_T71 l0 x5_1).f4) == (wrap64 ((wrap64 ((wrap64 ((wrap64 (x1_1 + 1)) + 1)) + 1)) + 1))) = false := beq_eq_false_iff_ne.mpr c10
                    have c10b1 : (((rd_T71 l0 x5_1).f4) != (wrap64 ((wrap64 ((wrap64 ((wrap64 (x1_1 + 1)) + 1)) + 1)) + 1))) = true := bne_iff_ne.mpr c10
                    obtain rfl := Option.some.inj H
                    have p872 : 0 ≤ (x5_1 : Int) := of_decide_eq_true (by first | (with_reducible assumption) | assumption)
                    have q872 : x5_1 < (l0.length : Int) := of_decide_eq_true (by first | (with_reducible assumption) | assumption)
                    obtain ⟨ad872, e872, hx872_0, hx872_1, hx872_2, hx872_3, hx872_4, hx872_5, hx872_6, hx872_7, hx872_8⟩ := at_T71 HR0.out x5_1 p872 q872
                    cases e872
                    replace hx872_0 := (HB.out.cell (World.block_lt_of_cell? w _ hx872_0)).trans hx872_0
                    replace hx872_1 := (HB.out.cell (World.block_lt_of_cell? w _ hx872_1)).trans hx872_1
                    replace hx872_2 := (HB.out.cell (World.block_lt_of_cell? w _ hx872_2)).trans hx872_2
                    replace hx872_3 := (HB.out.cell (World.block_lt_of_cell? w _ hx872_3)).trans hx872_3
                    replace hx872_4 := (HB.out.cell (World.block_lt_of_cell? w _ hx872_4)).trans hx872_4
                    replace hx872_5 := (HB.out.cell (World.block_lt_of_cell? w _ hx872_5)).trans hx872_5
                    replace hx872_6 := (HB.out.cell (World.block_lt_of_cell? w _ hx872_6)).trans hx872_6
                    replace hx872_7 := (HB.out.cell (World.block_lt_of_cell? w _ hx872_7)).trans hx872_7
                    replace hx872_8 := (HB.out.cell (World.block_lt_of_cell? w _ hx872_8)).trans hx872_8
                    replace p872 := eq_true p872
                    replace q872 := eq_true q872
                    try go_wp2
                    have n0_ := Aside0.mk (below_drew1 HB.out)
                    clear HB
                    have HB := n0_
                    clear n0_
                    have p873 : 0 ≤ (x5_1 : Int) := of_decide_eq_true (by first | (with_reducible assumption) | assumption)
                    have q873 : x5_1 < (l0.length : Int) := of_decide_eq_true (by first | (with_reducible assumption) | assumption)
                    obtain ⟨ad873, e873, hx873_0, hx873_1, hx873_2, hx873_3, hx873_4, hx873_5, hx873_6, hx873_7, hx873_8⟩ := at_T71 HR0.out x5_1 p873 q873
                    have hw873_8 := hx873_8
                    have hw873_7 := hx873_7
                    have hw873_6 := hx873_6
                    have hw873_5 := hx873_5
                    have hw873_4 := hx873_4
                    have hw873_3 := hx873_3
                    have hw873_2 := hx873_2
                    have hw873_1 := hx873_1
                    have hw873_0 := hx873_0
                    obtain rfl : ad872 = ad873 := (by injection e873)
                    replace hx873_0 := (HB.out.cell (World.block_lt_of_cell? w _ hx873_0)).trans hx873_0
                    replace hx873_1 := (HB.out.cell (World.block_lt_of_cell? w _ hx873_1)).trans hx873_1
                    replace hx873_2 := (HB.out.cell (World.block_lt_of_cell? w _ hx873_2)).trans hx873_2
                    replace hx873_3 := (HB.out.cell (World.block_lt_of_cell? w _ hx873_3)).trans hx873_3
                    replace hx873_4 := (HB.out.cell (World.block_lt_of_cell? w _ hx873_4)).trans hx873_4
                    replace hx873_5 := (HB.out.cell (World.block_lt_of_cell? w _ hx873_5)).trans hx873_5
                    replace hx873_6 := (HB.out.cell (World.block_lt_of_cell? w _ hx873_6)).trans hx873_6
                    replace hx873_7 := (HB.out.cell (World.block_lt_of_cell? w _ hx873_7)).trans hx873_7
                    replace hx873_8 := (HB.out.cell (World.block_lt_of_cell? w _ hx873_8)).trans hx873_8
                    replace p873 := eq_true p873
                    replace q873 := eq_true q873
                    refine start_ (n := 8) (S := fun w' => w'.cell? (ad872.add ((x5_1).toNat * 9)) = some (.int .i64 ((rd_T71 l0 x5_1).f0)) ∧ w'.cell? ⟨(ad872.add ((x5_1).toNat * 9)).block, (ad872.add ((x5_1).toNat * 9)).off + 1, none⟩ = some (.string ((rd_T71 l0 x5_1).f1)) ∧ w'.cell? ⟨(ad872.add ((x5_1).toNat * 9)).block, (ad872.add ((x5_1).toNat * 9)).off + 2, none⟩ = some (.int .i64 ((rd_T71 l0 x5_1).f2)) ∧ w'.cell? ⟨(ad872.add ((x5_1).toNat * 9)).block, (ad872.add ((x5_1).toNat * 9)).off + 3, none⟩ = some (.int .i64 ((rd_T71 l0 x5_1).f3)) ∧ w'.cell? ⟨(ad872.add ((x5_1).toNat * 9)).block, (ad872.add ((x5_1).toNat * 9)).off + 4, none⟩ = some (.int .i64 ((rd_T71 l0 x5_1).f4)) ∧ w'.cell? ⟨(ad872.add ((x5_1).toNat * 9)).block, (ad872.add ((x5_1).toNat * 9)).off + 5, none⟩ = some (.int .i64 ((rd_T71 l0 x5_1).f5)) ∧ w'.cell? ⟨(ad872.add ((x5_1).toNat * 9)).block, (ad872.add ((x5_1).toNat * 9)).off + 6, none⟩ = some (.int .i64 ((rd_T71 l0 x5_1).f6)) ∧ w'.cell? ⟨(ad872.add ((x5_1).toNat * 9)).block, (ad872.add ((x5_1).toNat * 9)).off + 7, none⟩ = some (.int .i64 ((rd_T71 l0 x5_1).f7)) ∧ w'.cell? ⟨(ad872.add ((x5_1).toNat * 9)).block, (ad872.add ((x5_1).toNat * 9)).off + 8, none⟩ = some (.int .i64 ((rd_T71 l0 x5_1).f8))) (ds := []) #[false, false, false, false, false, false, false, false] (by kernel_rfl) rfl rfl ⟨((HB.out.cell (World.block_lt_of_cell? w _ hw873_0)).trans hw873_0), ((HB.out.cell (World.block_lt_of_cell? w _ hw873_1)).trans hw873_1), ((HB.out.cell (World.block_lt_of_cell? w _ hw873_2)).trans hw873_2), ((HB.out.cell (World.block_lt_of_cell? w _ hw873_3)).trans hw873_3), ((HB.out.cell (World.block_lt_of_cell? w _ hw873_4)).trans hw873_4), ((HB.out.cell (World.block_lt_of_cell? w _ hw873_5)).trans hw873_5), ((HB.out.cell (World.block_lt_of_cell? w _ hw873_6)).trans hw873_6), ((HB.out.cell (World.block_lt_of_cell? w _ hw873_7)).trans hw873_7), ((HB.out.cell (World.block_lt_of_cell? w _ hw873_8)).trans hw873_8)⟩ (fun hHeld => ?_); refine with_tabW laws_heldFlowS.tab7 laws_heldFlowS.bits7 (fun HT_ HW_ => ?_)
                    generalize wr.drew = w25 at HB hx873_0 hx873_1 hx873_2 hx873_3 hx873_4 hx873_5 hx873_6 hx873_7 hx873_8 hHeld ⊢
                    refine pure_ (i := 0) (N := some 21) (v := ?_) (a' := ?_) #[true, false, false, false, false, false, false, false] rfl rfl (any_of HT_.out (by kernel_rfl)) (fun _ _ _ h => h) (Or.inl ⟨by rfl, ?_⟩) ?_ ?_
                    rotate_left
                    · intro w'
                      go_simp
                      with_reducible rfl
                    rotate_left
                    · simp only [Act.put, List.setIfInBounds_toArray, List.set_cons_zero, List.set_cons_succ, i64_w, i32_w]
                      rfl
                    refine pure_ (i := 1) (N := some 22) (v := ?_) (a' := ?_) #[true, true, false, false, false, false, false, false] rfl rfl (any_of HT_.out (by kernel_rfl)) (fun _ _ _ h => h) (Or.inl ⟨by rfl, ?_⟩) ?_ ?_
                    rotate_left
                    · intro w'
                      go_simp
                      with_reducible rfl
                    rotate_left
                    · simp only [Act.put, List.setIfInBounds_toArray, List.set_cons_zero, List.set_cons_succ, i64_w, i32_w]
                      rfl
                    refine pure_ (i := 2) (N := some 23) (v := ?_) (a' := ?_) #[true, true, true, false, false, false, false, false] rfl rfl (any_of HT_.out (by kernel_rfl)) (fun _ _ _ h => h) (Or.inl ⟨by rfl, ?_⟩) ?_ ?_
                    rotate_left
                    · intro w'
                      go_simp
                      with_reducible rfl
                    rotate_left
                    · simp only [Act.put, List.setIfInBounds_toArray, List.set_cons_zero, List.set_cons_succ, i64_w, i32_w]
                      rfl
                    refine pure_ (i := 3) (N := some 24) (v := ?_) (a' := ?_) #[true, true, true, true, false, false, false, false] rfl rfl (any_of HT_.out (by kernel_rfl)) (fun _ _ _ h => h) (Or.inl ⟨by rfl, ?_⟩) ?_ ?_
                    rotate_left
                    · intro w'
                      go_simp
                      with_reducible rfl
                    rotate_left
                    · simp only [Act.put, List.setIfInBounds_toArray, List.set_cons_zero, List.set_cons_succ, i64_w, i32_w]
                      rfl
                    refine pure_ (i := 5) (N := some 26) (v := ?_) (a' := ?_) #[true, true, true, true, false, true, false, false] rfl rfl (any_of HT_.out (by kernel_rfl)) (fun _ _ _ h => h) (Or.inl ⟨by rfl, ?_⟩) ?_ ?_
                    rotate_left
                    · intro w'
                      go_simp
                      with_reducible rfl
                    rotate_left
                    · simp only [Act.put, List.setIfInBounds_toArray, List.set_cons_zero, List.set_cons_succ, i64_w, i32_w]
                      rfl
                    refine take_ (i := 4) (N := some 25) (v := ?_) (a' := ?_) #[true, true, true, true, true, true, false, false] rfl rfl (take_ofW HT_.out HW_.out (by kernel_rfl)) (fun _ _ _ h => h) (Or.inl ⟨by rfl, ?_⟩) hHeld ?_ ?_
                    rotate_left
                    · rintro w' ⟨s0, s1, s2, s3, s4, s5, s6, s7, s8⟩
                      go_simp
                      with_reducible rfl
                    rotate_left
                    · simp only [Act.put, List.setIfInBounds_toArray, List.set_cons_zero, List.set_cons_succ, i64_w, i32_w]
                      rfl
                    refine one_ (i := 6) (N := some 27) #[true, true, true, true, true, true, true, false] rfl rfl (one_of HT_.out (by kernel_rfl)) (by decide) (fun K hK => ?_)
                    refine goes_ Try.func89 (by kernel_rfl) rfl #[.int .i64 (wrap64 (x1_1 + 1))] (by rfl) rfl rfl (by (try simp only [List.map_toArray, List.map_cons, List.map_nil]); first | done | rfl | (simp only [List.length_drop, List.length_take]; rfl)) ?_
                    with_reducible refine (laws_markText.calls k1 (wrap64 (x1_1 + 1)) t874 _ A6.out).mono ?_
                    rintro e w26 ⟨rfl, hb⟩
                    refine ⟨_, rfl, ?_⟩
                    have n0_ := Aside0.mk (below_step (by repeat (first | (with_reducible first | exact HB.out | apply below_alloc | apply pw_below_drewN | apply below_drew1) | exact HB.out)) hb)
                    clear HB
                    have HB := n0_
                    clear n0_
                    (try clear hb)
                    (try clear hb2)
                    (try clear hk)
                    (try clear hi)
                    refine hK.out _ _ ⟨((HB.out.cell (World.block_lt_of_cell? w _ hw873_0)).trans hw873_0), ((HB.out.cell (World.block_lt_of_cell? w _ hw873_1)).trans hw873_1), ((HB.out.cell (World.block_lt_of_cell? w _ hw873_2)).trans hw873_2), ((HB.out.cell (World.block_lt_of_cell? w _ hw873_3)).trans hw873_3), ((HB.out.cell (World.block_lt_of_cell? w _ hw873_4)).trans hw873_4), ((HB.out.cell (World.block_lt_of_cell? w _ hw873_5)).trans hw873_5), ((HB.out.cell (World.block_lt_of_cell? w _ hw873_6)).trans hw873_6), ((HB.out.cell (World.block_lt_of_cell? w _ hw873_7)).trans hw873_7), ((HB.out.cell (World.block_lt_of_cell? w _ hw873_8)).trans hw873_8)⟩ (fun hHeld => ?_)
                    clear hK K
                    refine norm_ (a' := ?_) ?_ ?_
                    rotate_left
                    · show Act.put _ (some 27) _ = _
                      simp only [Act.put, List.setIfInBounds_toArray, List.set_cons_zero, List.set_cons_succ, i64_w, i32_w]
                      rfl
                    refine pure_ (i := 7) (N := some 28) (v := ?_) (a' := ?_) #[true, true, true, true, true, true, true, true] rfl rfl (any_of HT_.out (by kernel_rfl)) (fun _ _ _ h => h) (Or.inl ⟨by rfl, ?_⟩) ?_ ?_
                    rotate_left
                    · intro w'
                      go_simp
                      with_reducible rfl
                    rotate_left
                    · simp only [Act.put, List.setIfInBounds_toArray, List.set_cons_zero, List.set_cons_succ, i64_w, i32_w]
                      rfl
                    refine done_ (done_of HT_.out (by kernel_rfl)) ?_
                    have p875 : 0 ≤ (x5_1 : Int) := of_decide_eq_true (by first | (with_reducible assumption) | assumption)
                    have q875 : x5_1 < (l0.length : Int) := of_decide_eq_true (by first | (with_reducible assumption) | assumption)
                    obtain ⟨ad875, e875, hx875_0, hx875_1, hx875_2, hx875_3, hx875_4, hx875_5, hx875_6, hx875_7, hx875_8⟩ := at_T71 HR0.out x5_1 p875 q875
                    obtain rfl : ad872 = ad875 := (by injection e875)
                    replace hx875_0 := (HB.out.cell (World.block_lt_of_cell? w _ hx875_0)).trans hx875_0
                    replace hx875_1 := (HB.out.cell (World.block_lt_of_cell? w _ hx875_1)).trans hx875_1
                    replace hx875_2 := (HB.out.cell (World.block_lt_of_cell? w _ hx875_2)).trans hx875_2
                    replace hx875_3 := (HB.out.cell (World.block_lt_of_cell? w _ hx875_3)).trans hx875_3
                    replace hx875_4 := (HB.out.cell (World.block_lt_of_cell? w _ hx875_4)).trans hx875_4
                    replace hx875_5 := (HB.out.cell (World.block_lt_of_cell? w _ hx875_5)).trans hx875_5
                    replace hx875_6 := (HB.out.cell (World.block_lt_of_cell? w _ hx875_6)).trans hx875_6
                    replace hx875_7 := (HB.out.cell (World.block_lt_of_cell? w _ hx875_7)).trans hx875_7
                    replace hx875_8 := (HB.out.cell (World.block_lt_of_cell? w _ hx875_8)).trans hx875_8
                    replace p875 := eq_true p875
                    replace q875 := eq_true q875
                    have p876 : 0 ≤ (x5_1 : Int) := of_decide_eq_true (by first | (with_reducible assumption) | assumption)
                    have q876 : x5_1 < (l0.length : Int) := of_decide_eq_true (by first | (with_reducible assumption) | assumption)
                    obtain ⟨ad876, e876, hx876_0, hx876_1, hx876_2, hx876_3, hx876_4, hx876_5, hx876_6, hx876_7, hx876_8⟩ := at_T71 HR0.out x5_1 p876 q876
                    obtain rfl : ad872 = ad876 := (by injection e876)
                    replace hx876_0 := (HB.out.cell (World.block_lt_of_cell? w _ hx876_0)).trans hx876_0
                    replace hx876_1 := (HB.out.cell (World.block_lt_of_cell? w _ hx876_1)).trans hx876_1
                    replace hx876_2 := (HB.out.cell (World.block_lt_of_cell? w _ hx876_2)).trans hx876_2
                    replace hx876_3 := (HB.out.cell (World.block_lt_of_cell? w _ hx876_3)).trans hx876_3
                    replace hx876_4 := (HB.out.cell (World.block_lt_of_cell? w _ hx876_4)).trans hx876_4
                    replace hx876_5 := (HB.out.cell (World.block_lt_of_cell? w _ hx876_5)).trans hx876_5
                    replace hx876_6 := (HB.out.cell (World.block_lt_of_cell? w _ hx876_6)).trans hx876_6
                    replace hx876_7 := (HB.out.cell (World.block_lt_of_cell? w _ hx876_7)).trans hx876_7
                    replace hx876_8 := (HB.out.cell (World.block_lt_of_cell? w _ hx876_8)).trans hx876_8
                    replace p876 := eq_true p876
                    replace q876 := eq_true q876
                    have p877 : 0 ≤ (x5_1 : Int) := of_decide_eq_true (by first | (with_reducible assumption) | assumption)
                    have q877 : x5_1 < (l0.length : Int) := of_decide_eq_true (by first | (with_reducible assumption) | assumption)
                    obtain ⟨ad877, e877, hx877_0, hx877_1, hx877_2, hx877_3, hx877_4, hx877_5, hx877_6, hx877_7, hx877_8⟩ := at_T71 HR0.out x5_1 p877 q877
                    obtain rfl : ad872 = ad877 := (by injection e877)
                    replace hx877_0 := (HB.out.cell (World.block_lt_of_cell? w _ hx877_0)).trans hx877_0
                    replace hx877_1 := (HB.out.cell (World.block_lt_of_cell? w _ hx877_1)).trans hx877_1
                    replace hx877_2 := (HB.out.cell (World.block_lt_of_cell? w _ hx877_2)).trans hx877_2
                    replace hx877_3 := (HB.out.cell (World.block_lt_of_cell? w _ hx877_3)).trans hx877_3
                    replace hx877_4 := (HB.out.cell (World.block_lt_of_cell? w _ hx877_4)).trans hx877_4
                    replace hx877_5 := (HB.out.cell (World.block_lt_of_cell? w _ hx877_5)).trans hx877_5
                    replace hx877_6 := (HB.out.cell (World.block_lt_of_cell? w _ hx877_6)).trans hx877_6
                    replace hx877_7 := (HB.out.cell (World.block_lt_of_cell? w _ hx877_7)).trans hx877_7
                    replace hx877_8 := (HB.out.cell (World.block_lt_of_cell? w _ hx877_8)).trans hx877_8
                    replace p877 := eq_true p877
                    replace q877 := eq_true q877
                    try go_wp2
                    go_ret
                    exact ⟨by first | rfl | (simp [errW_none, errW_some] <;> rfl) | (simp [*, errW_none, errW_some] <;> rfl), by repeat (first | (with_reducible first | exact HB.out | apply below_alloc | apply pw_below_drewN | apply below_drew1) | exact HB.out)⟩
                · rw [if_neg c9] at H
                  have c9b0 : (((rd_T71 l0 x5_1).f3) == (wrap64 ((wrap64 ((wrap64 (x1_1 + 1)) + 1)) + 1))) = false := beq_eq_false_iff_ne.mpr c9
                  have c9b1 : (((rd_T71 l0 x5_1).f3) != (wrap64 ((wrap64 ((wrap64 (x1_1 + 1)) + 1)) + 1))) = true := bne_iff_ne.mpr c9
                  obtain rfl := Option.some.inj H
                  have p872 : 0 ≤ (x5_1 : Int) := of_decide_eq_true (by first | (with_reducible assumption) | assumption)
                  have q872 : x5_1 < (l0.length : Int) := of_decide_eq_true (by first | (with_reducible assumption) | assumption)
                  obtain ⟨ad872, e872, hx872_0, hx872_1, hx872_2, hx872_3, hx872_4, hx872_5, hx872_6, hx872_7, hx872_8⟩ := at_T71 HR0.out x5_1 p872 q872
                  cases e872
                  replace hx872_0 := (HB.out.cell (World.block_lt_of_cell? w _ hx872_0)).trans hx872_0
                  replace hx872_1 := (HB.out.cell (World.block_lt_of_cell? w _ hx872_1)).trans hx872_1
                  replace hx872_2 := (HB.out.cell (World.block_lt_of_cell? w _ hx872_2)).trans hx872_2
                  replace hx872_3 := (HB.out.cell (World.block_lt_of_cell? w _ hx872_3)).trans hx872_3
                  replace hx872_4 := (HB.out.cell (World.block_lt_of_cell? w _ hx872_4)).trans hx872_4
                  replace hx872_5 := (HB.out.cell (World.block_lt_of_cell? w _ hx872_5)).trans hx872_5
                  replace hx872_6 := (HB.out.cell (World.block_lt_of_cell? w _ hx872_6)).trans hx872_6
                  replace hx872_7 := (HB.out.cell (World.block_lt_of_cell? w _ hx872_7)).trans hx872_7
                  replace hx872_8 := (HB.out.cell (World.block_lt_of_cell? w _ hx872_8)).trans hx872_8
                  replace p872 := eq_true p872
                  replace q872 := eq_true q872
                  try go_wp2
                  have n0_ := Aside0.mk (below_drew1 HB.out)
                  clear HB
                  have HB := n0_
                  clear n0_
                  have p873 : 0 ≤ (x5_1 : Int) := of_decide_eq_true (by first | (with_reducible assumption) | assumption)
                  have q873 : x5_1 < (l0.length : Int) := of_decide_eq_true (by first | (with_reducible assumption) | assumption)
                  obtain ⟨ad873, e873, hx873_0, hx873_1, hx873_2, hx873_3, hx873_4, hx873_5, hx873_6, hx873_7, hx873_8⟩ := at_T71 HR0.out x5_1 p873 q873
                  have hw873_8 := hx873_8
                  have hw873_7 := hx873_7
                  have hw873_6 := hx873_6
                  have hw873_5 := hx873_5
                  have hw873_4 := hx873_4
                  have hw873_3 := hx873_3
                  have hw873_2 := hx873_2
                  have hw873_1 := hx873_1
                  have hw873_0 := hx873_0
                  obtain rfl : ad872 = ad873 := (by injection e873)
                  replace hx873_0 := (HB.out.cell (World.block_lt_of_cell? w _ hx873_0)).trans hx873_0
                  replace hx873_1 := (HB.out.cell (World.block_lt_of_cell? w _ hx873_1)).trans hx873_1
                  replace hx873_2 := (HB.out.cell (World.block_lt_of_cell? w _ hx873_2)).trans hx873_2
                  replace hx873_3 := (HB.out.cell (World.block_lt_of_cell? w _ hx873_3)).trans hx873_3
                  replace hx873_4 := (HB.out.cell (World.block_lt_of_cell? w _ hx873_4)).trans hx873_4
                  replace hx873_5 := (HB.out.cell (World.block_lt_of_cell? w _ hx873_5)).trans hx873_5
                  replace hx873_6 := (HB.out.cell (World.block_lt_of_cell? w _ hx873_6)).trans hx873_6
                  replace hx873_7 := (HB.out.cell (World.block_lt_of_cell? w _ hx873_7)).trans hx873_7
                  replace hx873_8 := (HB.out.cell (World.block_lt_of_cell? w _ hx873_8)).trans hx873_8
                  replace p873 := eq_true p873
                  replace q873 := eq_true q873
                  refine start_ (n := 8) (S := fun w' => w'.cell? (ad872.add ((x5_1).toNat * 9)) = some (.int .i64 ((rd_T71 l0 x5_1).f0)) ∧ w'.cell? ⟨(ad872.add ((x5_1).toNat * 9)).block, (ad872.add ((x5_1).toNat * 9)).off + 1, none⟩ = some (.string ((rd_T71 l0 x5_1).f1)) ∧ w'.cell? ⟨(ad872.add ((x5_1).toNat * 9)).block, (ad872.add ((x5_1).toNat * 9)).off + 2, none⟩ = some (.int .i64 ((rd_T71 l0 x5_1).f2)) ∧ w'.cell? ⟨(ad872.add ((x5_1).toNat * 9)).block, (ad872.add ((x5_1).toNat * 9)).off + 3, none⟩ = some (.int .i64 ((rd_T71 l0 x5_1).f3)) ∧ w'.cell? ⟨(ad872.add ((x5_1).toNat * 9)).block, (ad872.add ((x5_1).toNat * 9)).off + 4, none⟩ = some (.int .i64 ((rd_T71 l0 x5_1).f4)) ∧ w'.cell? ⟨(ad872.add ((x5_1).toNat * 9)).block, (ad872.add ((x5_1).toNat * 9)).off + 5, none⟩ = some (.int .i64 ((rd_T71 l0 x5_1).f5)) ∧ w'.cell? ⟨(ad872.add ((x5_1).toNat * 9)).block, (ad872.add ((x5_1).toNat * 9)).off + 6, none⟩ = some (.int .i64 ((rd_T71 l0 x5_1).f6)) ∧ w'.cell? ⟨(ad872.add ((x5_1).toNat * 9)).block, (ad872.add ((x5_1).toNat * 9)).off + 7, none⟩ = some (.int .i64 ((rd_T71 l0 x5_1).f7)) ∧ w'.cell? ⟨(ad872.add ((x5_1).toNat * 9)).block, (ad872.add ((x5_1).toNat * 9)).off + 8, none⟩ = some (.int .i64 ((rd_T71 l0 x5_1).f8))) (ds := []) #[false, false, false, false, false, false, false, false] (by kernel_rfl) rfl rfl ⟨((HB.out.cell (World.block_lt_of_cell? w _ hw873_0)).trans hw873_0), ((HB.out.cell (World.block_lt_of_cell? w _ hw873_1)).trans hw873_1), ((HB.out.cell (World.block_lt_of_cell? w _ hw873_2)).trans hw873_2), ((HB.out.cell (World.block_lt_of_cell? w _ hw873_3)).trans hw873_3), ((HB.out.cell (World.block_lt_of_cell? w _ hw873_4)).trans hw873_4), ((HB.out.cell (World.block_lt_of_cell? w _ hw873_5)).trans hw873_5), ((HB.out.cell (World.block_lt_of_cell? w _ hw873_6)).trans hw873_6), ((HB.out.cell (World.block_lt_of_cell? w _ hw873_7)).trans hw873_7), ((HB.out.cell (World.block_lt_of_cell? w _ hw873_8)).trans hw873_8)⟩ (fun hHeld => ?_); refine with_tabW laws_heldFlowS.tab7 laws_heldFlowS.bits7 (fun HT_ HW_ => ?_)
                  generalize wr.drew = w27 at HB hx873_0 hx873_1 hx873_2 hx873_3 hx873_4 hx873_5 hx873_6 hx873_7 hx873_8 hHeld ⊢
                  refine pure_ (i := 0) (N := some 21) (v := ?_) (a' := ?_) #[true, false, false, false, false, false, false, false] rfl rfl (any_of HT_.out (by kernel_rfl)) (fun _ _ _ h => h) (Or.inl ⟨by rfl, ?_⟩) ?_ ?_
                  rotate_left
                  · intro w'
                    go_simp
                    with_reducible rfl
                  rotate_left
                  · simp only [Act.put, List.setIfInBounds_toArray, List.set_cons_zero, List.set_cons_succ, i64_w, i32_w]
                    rfl
                  refine pure_ (i := 1) (N := some 22) (v := ?_) (a' := ?_) #[true, true, false, false, false, false, false, false] rfl rfl (any_of HT_.out (by kernel_rfl)) (fun _ _ _ h => h) (Or.inl ⟨by rfl, ?_⟩) ?_ ?_
                  rotate_left
                  · intro w'
                    go_simp
                    with_reducible rfl
                  rotate_left
                  · simp only [Act.put, List.setIfInBounds_toArray, List.set_cons_zero, List.set_cons_succ, i64_w, i32_w]
                    rfl
                  refine pure_ (i := 2) (N := some 23) (v := ?_) (a' := ?_) #[true, true, true, false, false, false, false, false] rfl rfl (any_of HT_.out (by kernel_rfl)) (fun _ _ _ h => h) (Or.inl ⟨by rfl, ?_⟩) ?_ ?_
                  rotate_left
                  · intro w'
                    go_simp
                    with_reducible rfl
                  rotate_left
                  · simp only [Act.put, List.setIfInBounds_toArray, List.set_cons_zero, List.set_cons_succ, i64_w, i32_w]
                    rfl
                  refine pure_ (i := 3) (N := some 24) (v := ?_) (a' := ?_) #[true, true, true, true, false, false, false, false] rfl rfl (any_of HT_.out (by kernel_rfl)) (fun _ _ _ h => h) (Or.inl ⟨by rfl, ?_⟩) ?_ ?_
                  rotate_left
                  · intro w'
                    go_simp
                    with_reducible rfl
                  rotate_left
                  · simp only [Act.put, List.setIfInBounds_toArray, List.set_cons_zero, List.set_cons_succ, i64_w, i32_w]
                    rfl
                  refine pure_ (i := 5) (N := some 26) (v := ?_) (a' := ?_) #[true, true, true, true, false, true, false, false] rfl rfl (any_of HT_.out (by kernel_rfl)) (fun _ _ _ h => h) (Or.inl ⟨by rfl, ?_⟩) ?_ ?_
                  rotate_left
                  · intro w'
                    go_simp
                    with_reducible rfl
                  rotate_left
                  · simp only [Act.put, List.setIfInBounds_toArray, List.set_cons_zero, List.set_cons_succ, i64_w, i32_w]
                    rfl
                  refine take_ (i := 4) (N := some 25) (v := ?_) (a' := ?_) #[true, true, true, true, true, true, false, false] rfl rfl (take_ofW HT_.out HW_.out (by kernel_rfl)) (fun _ _ _ h => h) (Or.inl ⟨by rfl, ?_⟩) hHeld ?_ ?_
                  rotate_left
                  · rintro w' ⟨s0, s1, s2, s3, s4, s5, s6, s7, s8⟩
                    go_simp
                    with_reducible rfl
                  rotate_left
                  · simp only [Act.put, List.setIfInBounds_toArray, List.set_cons_zero, List.set_cons_succ, i64_w, i32_w]
                    rfl
                  refine one_ (i := 6) (N := some 27) #[true, true, true, true, true, true, true, false] rfl rfl (one_of HT_.out (by kernel_rfl)) (by decide) (fun K hK => ?_)
                  refine goes_ Try.func89 (by kernel_rfl) rfl #[.int .i64 (wrap64 (x1_1 + 1))] (by rfl) rfl rfl (by (try simp only [List.map_toArray, List.map_cons, List.map_nil]); first | done | rfl | (simp only [List.length_drop, List.length_take]; rfl)) ?_
                  with_reducible refine (laws_markText.calls k1 (wrap64 (x1_1 + 1)) t874 _ A6.out).mono ?_
                  rintro e w28 ⟨rfl, hb⟩
                  refine ⟨_, rfl, ?_⟩
                  have n0_ := Aside0.mk (below_step (by repeat (first | (with_reducible first | exact HB.out | apply below_alloc | apply pw_below_drewN | apply below_drew1) | exact HB.out)) hb)
                  clear HB
                  have HB := n0_
                  clear n0_
                  (try clear hb)
                  (try clear hb2)
                  (try clear hk)
                  (try clear hi)
                  refine hK.out _ _ ⟨((HB.out.cell (World.block_lt_of_cell? w _ hw873_0)).trans hw873_0), ((HB.out.cell (World.block_lt_of_cell? w _ hw873_1)).trans hw873_1), ((HB.out.cell (World.block_lt_of_cell? w _ hw873_2)).trans hw873_2), ((HB.out.cell (World.block_lt_of_cell? w _ hw873_3)).trans hw873_3), ((HB.out.cell (World.block_lt_of_cell? w _ hw873_4)).trans hw873_4), ((HB.out.cell (World.block_lt_of_cell? w _ hw873_5)).trans hw873_5), ((HB.out.cell (World.block_lt_of_cell? w _ hw873_6)).trans hw873_6), ((HB.out.cell (World.block_lt_of_cell? w _ hw873_7)).trans hw873_7), ((HB.out.cell (World.block_lt_of_cell? w _ hw873_8)).trans hw873_8)⟩ (fun hHeld => ?_)
                  clear hK K
                  refine norm_ (a' := ?_) ?_ ?_
                  rotate_left
                  · show Act.put _ (some 27) _ = _
                    simp only [Act.put, List.setIfInBounds_toArray, List.set_cons_zero, List.set_cons_succ, i64_w, i32_w]
                    rfl
                  refine pure_ (i := 7) (N := some 28) (v := ?_) (a' := ?_) #[true, true, true, true, true, true, true, true] rfl rfl (any_of HT_.out (by kernel_rfl)) (fun _ _ _ h => h) (Or.inl ⟨by rfl, ?_⟩) ?_ ?_
                  rotate_left
                  · intro w'
                    go_simp
                    with_reducible rfl
                  rotate_left
                  · simp only [Act.put, List.setIfInBounds_toArray, List.set_cons_zero, List.set_cons_succ, i64_w, i32_w]
                    rfl
                  refine done_ (done_of HT_.out (by kernel_rfl)) ?_
                  have p875 : 0 ≤ (x5_1 : Int) := of_decide_eq_true (by first | (with_reducible assumption) | assumption)
                  have q875 : x5_1 < (l0.length : Int) := of_decide_eq_true (by first | (with_reducible assumption) | assumption)
                  obtain ⟨ad875, e875, hx875_0, hx875_1, hx875_2, hx875_3, hx875_4, hx875_5, hx875_6, hx875_7, hx875_8⟩ := at_T71 HR0.out x5_1 p875 q875
                  obtain rfl : ad872 = ad875 := (by injection e875)
                  replace hx875_0 := (HB.out.cell (World.block_lt_of_cell? w _ hx875_0)).trans hx875_0
                  replace hx875_1 := (HB.out.cell (World.block_lt_of_cell? w _ hx875_1)).trans hx875_1
                  replace hx875_2 := (HB.out.cell (World.block_lt_of_cell? w _ hx875_2)).trans hx875_2
                  replace hx875_3 := (HB.out.cell (World.block_lt_of_cell? w _ hx875_3)).trans hx875_3
                  replace hx875_4 := (HB.out.cell (World.block_lt_of_cell? w _ hx875_4)).trans hx875_4
                  replace hx875_5 := (HB.out.cell (World.block_lt_of_cell? w _ hx875_5)).trans hx875_5
                  replace hx875_6 := (HB.out.cell (World.block_lt_of_cell? w _ hx875_6)).trans hx875_6
                  replace hx875_7 := (HB.out.cell (World.block_lt_of_cell? w _ hx875_7)).trans hx875_7
                  replace hx875_8 := (HB.out.cell (World.block_lt_of_cell? w _ hx875_8)).trans hx875_8
                  replace p875 := eq_true p875
                  replace q875 := eq_true q875
                  have p876 : 0 ≤ (x5_1 : Int) := of_decide_eq_true (by first | (with_reducible assumption) | assumption)
                  have q876 : x5_1 < (l0.length : Int) := of_decide_eq_true (by first | (with_reducible assumption) | assumption)
                  obtain ⟨ad876, e876, hx876_0, hx876_1, hx876_2, hx876_3, hx876_4, hx876_5, hx876_6, hx876_7, hx876_8⟩ := at_T71 HR0.out x5_1 p876 q876
                  obtain rfl : ad872 = ad876 := (by injection e876)
                  replace hx876_0 := (HB.out.cell (World.block_lt_of_cell? w _ hx876_0)).trans hx876_0
                  replace hx876_1 := (HB.out.cell (World.block_lt_of_cell? w _ hx876_1)).trans hx876_1
                  replace hx876_2 := (HB.out.cell (World.block_lt_of_cell? w _ hx876_2)).trans hx876_2
                  replace hx876_3 := (HB.out.cell (World.block_lt_of_cell? w _ hx876_3)).trans hx876_3
                  replace hx876_4 := (HB.out.cell (World.block_lt_of_cell? w _ hx876_4)).trans hx876_4
                  replace hx876_5 := (HB.out.cell (World.block_lt_of_cell? w _ hx876_5)).trans hx876_5
                  replace hx876_6 := (HB.out.cell (World.block_lt_of_cell? w _ hx876_6)).trans hx876_6
                  replace hx876_7 := (HB.out.cell (World.block_lt_of_cell? w _ hx876_7)).trans hx876_7
                  replace hx876_8 := (HB.out.cell (World.block_lt_of_cell? w _ hx876_8)).trans hx876_8
                  replace p876 := eq_true p876
                  replace q876 := eq_true q876
                  try go_wp2
                  go_ret
                  exact ⟨by first | rfl | (simp [errW_none, errW_some] <;> rfl) | (simp [*, errW_none, errW_some] <;> rfl), by repeat (first | (with_reducible first | exact HB.out | apply below_alloc | apply pw_below_drewN | apply below_drew1) | exact HB.out)⟩
              · rw [if_neg c8] at H
                have c8b0 : (((rd_T71 l0 x5_1).f2) == (wrap64 ((wrap64 (x1_1 + 1)) + 1))) = false := beq_eq_false_iff_ne.mpr c8
                have c8b1 : (((rd_T71 l0 x5_1).f2) != (wrap64 ((wrap64 (x1_1 + 1)) + 1))) = true := bne_iff_ne.mpr c8
                obtain rfl := Option.some.inj H
                have p872 : 0 ≤ (x5_1 : Int) := of_decide_eq_true (by first | (with_reducible assumption) | assumption)
                have q872 : x5_1 < (l0.length : Int) := of_decide_eq_true (by first | (with_reducible assumption) | assumption)
                obtain ⟨ad872, e872, hx872_0, hx872_1, hx872_2, hx872_3, hx872_4, hx872_5, hx872_6, hx872_7, hx872_8⟩ := at_T71 HR0.out x5_1 p872 q872
                cases e872
                replace hx872_0 := (HB.out.cell (World.block_lt_of_cell? w _ hx872_0)).trans hx872_0
                replace hx872_1 := (HB.out.cell (World.block_lt_of_cell? w _ hx872_1)).trans hx872_1
                replace hx872_2 := (HB.out.cell (World.block_lt_of_cell? w _ hx872_2)).trans hx872_2
                replace hx872_3 := (HB.out.cell (World.block_lt_of_cell? w _ hx872_3)).trans hx872_3
                replace hx872_4 := (HB.out.cell (World.block_lt_of_cell? w _ hx872_4)).trans hx872_4
                replace hx872_5 := (HB.out.cell (World.block_lt_of_cell? w _ hx872_5)).trans hx872_5
                replace hx872_6 := (HB.out.cell (World.block_lt_of_cell? w _ hx872_6)).trans hx872_6
                replace hx872_7 := (HB.out.cell (World.block_lt_of_cell? w _ hx872_7)).trans hx872_7
                replace hx872_8 := (HB.out.cell (World.block_lt_of_cell? w _ hx872_8)).trans hx872_8
                replace p872 := eq_true p872
                replace q872 := eq_true q872
                try go_wp2
                have n0_ := Aside0.mk (below_drew1 HB.out)
                clear HB
                have HB := n0_
                clear n0_
                have p873 : 0 ≤ (x5_1 : Int) := of_decide_eq_true (by first | (with_reducible assumption) | assumption)
                have q873 : x5_1 < (l0.length : Int) := of_decide_eq_true (by first | (with_reducible assumption) | assumption)
                obtain ⟨ad873, e873, hx873_0, hx873_1, hx873_2, hx873_3, hx873_4, hx873_5, hx873_6, hx873_7, hx873_8⟩ := at_T71 HR0.out x5_1 p873 q873
                have hw873_8 := hx873_8
                have hw873_7 := hx873_7
                have hw873_6 := hx873_6
                have hw873_5 := hx873_5
                have hw873_4 := hx873_4
                have hw873_3 := hx873_3
                have hw873_2 := hx873_2
                have hw873_1 := hx873_1
                have hw873_0 := hx873_0
                obtain rfl : ad872 = ad873 := (by injection e873)
                replace hx873_0 := (HB.out.cell (World.block_lt_of_cell? w _ hx873_0)).trans hx873_0
                replace hx873_1 := (HB.out.cell (World.block_lt_of_cell? w _ hx873_1)).trans hx873_1
                replace hx873_2 := (HB.out.cell (World.block_lt_of_cell? w _ hx873_2)).trans hx873_2
                replace hx873_3 := (HB.out.cell (World.block_lt_of_cell? w _ hx873_3)).trans hx873_3
                replace hx873_4 := (HB.out.cell (World.block_lt_of_cell? w _ hx873_4)).trans hx873_4
                replace hx873_5 := (HB.out.cell (World.block_lt_of_cell? w _ hx873_5)).trans hx873_5
                replace hx873_6 := (HB.out.cell (World.block_lt_of_cell? w _ hx873_6)).trans hx873_6
                replace hx873_7 := (HB.out.cell (World.block_lt_of_cell? w _ hx873_7)).trans hx873_7
                replace hx873_8 := (HB.out.cell (World.block_lt_of_cell? w _ hx873_8)).trans hx873_8
                replace p873 := eq_true p873
                replace q873 := eq_true q873
                refine start_ (n := 8) (S := fun w' => w'.cell? (ad872.add ((x5_1).toNat * 9)) = some (.int .i64 ((rd_T71 l0 x5_1).f0)) ∧ w'.cell? ⟨(ad872.add ((x5_1).toNat * 9)).block, (ad872.add ((x5_1).toNat * 9)).off + 1, none⟩ = some (.string ((rd_T71 l0 x5_1).f1)) ∧ w'.cell? ⟨(ad872.add ((x5_1).toNat * 9)).block, (ad872.add ((x5_1).toNat * 9)).off + 2, none⟩ = some (.int .i64 ((rd_T71 l0 x5_1).f2)) ∧ w'.cell? ⟨(ad872.add ((x5_1).toNat * 9)).block, (ad872.add ((x5_1).toNat * 9)).off + 3, none⟩ = some (.int .i64 ((rd_T71 l0 x5_1).f3)) ∧ w'.cell? ⟨(ad872.add ((x5_1).toNat * 9)).block, (ad872.add ((x5_1).toNat * 9)).off + 4, none⟩ = some (.int .i64 ((rd_T71 l0 x5_1).f4)) ∧ w'.cell? ⟨(ad872.add ((x5_1).toNat * 9)).block, (ad872.add ((x5_1).toNat * 9)).off + 5, none⟩ = some (.int .i64 ((rd_T71 l0 x5_1).f5)) ∧ w'.cell? ⟨(ad872.add ((x5_1).toNat * 9)).block, (ad872.add ((x5_1).toNat * 9)).off + 6, none⟩ = some (.int .i64 ((rd_T71 l0 x5_1).f6)) ∧ w'.cell? ⟨(ad872.add ((x5_1).toNat * 9)).block, (ad872.add ((x5_1).toNat * 9)).off + 7, none⟩ = some (.int .i64 ((rd_T71 l0 x5_1).f7)) ∧ w'.cell? ⟨(ad872.add ((x5_1).toNat * 9)).block, (ad872.add ((x5_1).toNat * 9)).off + 8, none⟩ = some (.int .i64 ((rd_T71 l0 x5_1).f8))) (ds := []) #[false, false, false, false, false, false, false, false] (by kernel_rfl) rfl rfl ⟨((HB.out.cell (World.block_lt_of_cell? w _ hw873_0)).trans hw873_0), ((HB.out.cell (World.block_lt_of_cell? w _ hw873_1)).trans hw873_1), ((HB.out.cell (World.block_lt_of_cell? w _ hw873_2)).trans hw873_2), ((HB.out.cell (World.block_lt_of_cell? w _ hw873_3)).trans hw873_3), ((HB.out.cell (World.block_lt_of_cell? w _ hw873_4)).trans hw873_4), ((HB.out.cell (World.block_lt_of_cell? w _ hw873_5)).trans hw873_5), ((HB.out.cell (World.block_lt_of_cell? w _ hw873_6)).trans hw873_6), ((HB.out.cell (World.block_lt_of_cell? w _ hw873_7)).trans hw873_7), ((HB.out.cell (World.block_lt_of_cell? w _ hw873_8)).trans hw873_8)⟩ (fun hHeld => ?_); refine with_tabW laws_heldFlowS.tab7 laws_heldFlowS.bits7 (fun HT_ HW_ => ?_)
                generalize wr.drew = w29 at HB hx873_0 hx873_1 hx873_2 hx873_3 hx873_4 hx873_5 hx873_6 hx873_7 hx873_8 hHeld ⊢
                refine pure_ (i := 0) (N := some 21) (v := ?_) (a' := ?_) #[true, false, false, false, false, false, false, false] rfl rfl (any_of HT_.out (by kernel_rfl)) (fun _ _ _ h => h) (Or.inl ⟨by rfl, ?_⟩) ?_ ?_
                rotate_left
                · intro w'
                  go_simp
                  with_reducible rfl
                rotate_left
                · simp only [Act.put, List.setIfInBounds_toArray, List.set_cons_zero, List.set_cons_succ, i64_w, i32_w]
                  rfl
                refine pure_ (i := 1) (N := some 22) (v := ?_) (a' := ?_) #[true, true, false, false, false, false, false, false] rfl rfl (any_of HT_.out (by kernel_rfl)) (fun _ _ _ h => h) (Or.inl ⟨by rfl, ?_⟩) ?_ ?_
                rotate_left
                · intro w'
                  go_simp
                  with_reducible rfl
                rotate_left
                · simp only [Act.put, List.setIfInBounds_toArray, List.set_cons_zero, List.set_cons_succ, i64_w, i32_w]
                  rfl
                refine pure_ (i := 2) (N := some 23) (v := ?_) (a' := ?_) #[true, true, true, false, false, false, false, false] rfl rfl (any_of HT_.out (by kernel_rfl)) (fun _ _ _ h => h) (Or.inl ⟨by rfl, ?_⟩) ?_ ?_
                rotate_left
                · intro w'
                  go_simp
                  with_reducible rfl
                rotate_left
                · simp only [Act.put, List.setIfInBounds_toArray, List.set_cons_zero, List.set_cons_succ, i64_w, i32_w]
                  rfl
                refine pure_ (i := 3) (N := some 24) (v := ?_) (a' := ?_) #[true, true, true, true, false, false, false, false] rfl rfl (any_of HT_.out (by kernel_rfl)) (fun _ _ _ h => h) (Or.inl ⟨by rfl, ?_⟩) ?_ ?_
                rotate_left
                · intro w'
                  go_simp
                  with_reducible rfl
                rotate_left
                · simp only [Act.put, List.setIfInBounds_toArray, List.set_cons_zero, List.set_cons_succ, i64_w, i32_w]
                  rfl
                refine pure_ (i := 5) (N := some 26) (v := ?_) (a' := ?_) #[true, true, true, true, false, true, false, false] rfl rfl (any_of HT_.out (by kernel_rfl)) (fun _ _ _ h => h) (Or.inl ⟨by rfl, ?_⟩) ?_ ?_
                rotate_left
                · intro w'
                  go_simp
                  with_reducible rfl
                rotate_left
                · simp only [Act.put, List.setIfInBounds_toArray, List.set_cons_zero, List.set_cons_succ, i64_w, i32_w]
                  rfl
                refine take_ (i := 4) (N := some 25) (v := ?_) (a' := ?_) #[true, true, true, true, true, true, false, false] rfl rfl (take_ofW HT_.out HW_.out (by kernel_rfl)) (fun _ _ _ h => h) (Or.inl ⟨by rfl, ?_⟩) hHeld ?_ ?_
                rotate_left
                · rintro w' ⟨s0, s1, s2, s3, s4, s5, s6, s7, s8⟩
                  go_simp
                  with_reducible rfl
                rotate_left
                · simp only [Act.put, List.setIfInBounds_toArray, List.set_cons_zero, List.set_cons_succ, i64_w, i32_w]
                  rfl
                refine one_ (i := 6) (N := some 27) #[true, true, true, true, true, true, true, false] rfl rfl (one_of HT_.out (by kernel_rfl)) (by decide) (fun K hK => ?_)
                refine goes_ Try.func89 (by kernel_rfl) rfl #[.int .i64 (wrap64 (x1_1 + 1))] (by rfl) rfl rfl (by (try simp only [List.map_toArray, List.map_cons, List.map_nil]); first | done | rfl | (simp only [List.length_drop, List.length_take]; rfl)) ?_
                with_reducible refine (laws_markText.calls k1 (wrap64 (x1_1 + 1)) t874 _ A6.out).mono ?_
                rintro e w30 ⟨rfl, hb⟩
                refine ⟨_, rfl, ?_⟩
                have n0_ := Aside0.mk (below_step (by repeat (first | (with_reducible first | exact HB.out | apply below_alloc | apply pw_below_drewN | apply below_drew1) | exact HB.out)) hb)
                clear HB
                have HB := n0_
                clear n0_
                (try clear hb)
                (try clear hb2)
                (try clear hk)
                (try clear hi)
                refine hK.out _ _ ⟨((HB.out.cell (World.block_lt_of_cell? w _ hw873_0)).trans hw873_0), ((HB.out.cell (World.block_lt_of_cell? w _ hw873_1)).trans hw873_1), ((HB.out.cell (World.block_lt_of_cell? w _ hw873_2)).trans hw873_2), ((HB.out.cell (World.block_lt_of_cell? w _ hw873_3)).trans hw873_3), ((HB.out.cell (World.block_lt_of_cell? w _ hw873_4)).trans hw873_4), ((HB.out.cell (World.block_lt_of_cell? w _ hw873_5)).trans hw873_5), ((HB.out.cell (World.block_lt_of_cell? w _ hw873_6)).trans hw873_6), ((HB.out.cell (World.block_lt_of_cell? w _ hw873_7)).trans hw873_7), ((HB.out.cell (World.block_lt_of_cell? w _ hw873_8)).trans hw873_8)⟩ (fun hHeld => ?_)
                clear hK K
                refine norm_ (a' := ?_) ?_ ?_
                rotate_left
                · show Act.put _ (some 27) _ = _
                  simp only [Act.put, List.setIfInBounds_toArray, List.set_cons_zero, List.set_cons_succ, i64_w, i32_w]
                  rfl
                refine pure_ (i := 7) (N := some 28) (v := ?_) (a' := ?_) #[true, true, true, true, true, true, true, true] rfl rfl (any_of HT_.out (by kernel_rfl)) (fun _ _ _ h => h) (Or.inl ⟨by rfl, ?_⟩) ?_ ?_
                rotate_left
                · intro w'
                  go_simp
                  with_reducible rfl
                rotate_left
                · simp only [Act.put, List.setIfInBounds_toArray, List.set_cons_zero, List.set_cons_succ, i64_w, i32_w]
                  rfl
                refine done_ (done_of HT_.out (by kernel_rfl)) ?_
                have p875 : 0 ≤ (x5_1 : Int) := of_decide_eq_true (by first | (with_reducible assumption) | assumption)
                have q875 : x5_1 < (l0.length : Int) := of_decide_eq_true (by first | (with_reducible assumption) | assumption)
                obtain ⟨ad875, e875, hx875_0, hx875_1, hx875_2, hx875_3, hx875_4, hx875_5, hx875_6, hx875_7, hx875_8⟩ := at_T71 HR0.out x5_1 p875 q875
                obtain rfl : ad872 = ad875 := (by injection e875)
                replace hx875_0 := (HB.out.cell (World.block_lt_of_cell? w _ hx875_0)).trans hx875_0
                replace hx875_1 := (HB.out.cell (World.block_lt_of_cell? w _ hx875_1)).trans hx875_1
                replace hx875_2 := (HB.out.cell (World.block_lt_of_cell? w _ hx875_2)).trans hx875_2
                replace hx875_3 := (HB.out.cell (World.block_lt_of_cell? w _ hx875_3)).trans hx875_3
                replace hx875_4 := (HB.out.cell (World.block_lt_of_cell? w _ hx875_4)).trans hx875_4
                replace hx875_5 := (HB.out.cell (World.block_lt_of_cell? w _ hx875_5)).trans hx875_5
                replace hx875_6 := (HB.out.cell (World.block_lt_of_cell? w _ hx875_6)).trans hx875_6
                replace hx875_7 := (HB.out.cell (World.block_lt_of_cell? w _ hx875_7)).trans hx875_7
                replace hx875_8 := (HB.out.cell (World.block_lt_of_cell? w _ hx875_8)).trans hx875_8
                replace p875 := eq_true p875
                replace q875 := eq_true q875
                try go_wp2
                go_ret
                exact ⟨by first | rfl | (simp [errW_none, errW_some] <;> rfl) | (simp [*, errW_none, errW_some] <;> rfl), by repeat (first | (with_reducible first | exact HB.out | apply below_alloc | apply pw_below_drewN | apply below_drew1) | exact HB.out)⟩
            · rw [if_neg c7] at H
              have c7b0 : (((rd_T71 l0 x5_1).f1).toList == t874.toList) = false := beq_eq_false_iff_ne.mpr c7
              have c7b1 : (((rd_T71 l0 x5_1).f1).toList != t874.toList) = true := bne_iff_ne.mpr c7
              obtain rfl := Option.some.inj H
              have p872 : 0 ≤ (x5_1 : Int) := of_decide_eq_true (by first | (with_reducible assumption) | assumption)
              have q872 : x5_1 < (l0.length : Int) := of_decide_eq_true (by first | (with_reducible assumption) | assumption)
              obtain ⟨ad872, e872, hx872_0, hx872_1, hx872_2, hx872_3, hx872_4, hx872_5, hx872_6, hx872_7, hx872_8⟩ := at_T71 HR0.out x5_1 p872 q872
              cases e872
              replace hx872_0 := (HB.out.cell (World.block_lt_of_cell? w _ hx872_0)).trans hx872_0
              replace hx872_1 := (HB.out.cell (World.block_lt_of_cell? w _ hx872_1)).trans hx872_1
              replace hx872_2 := (HB.out.cell (World.block_lt_of_cell? w _ hx872_2)).trans hx872_2
              replace hx872_3 := (HB.out.cell (World.block_lt_of_cell? w _ hx872_3)).trans hx872_3
              replace hx872_4 := (HB.out.cell (World.block_lt_of_cell? w _ hx872_4)).trans hx872_4
              replace hx872_5 := (HB.out.cell (World.block_lt_of_cell? w _ hx872_5)).trans hx872_5
              replace hx872_6 := (HB.out.cell (World.block_lt_of_cell? w _ hx872_6)).trans hx872_6
              replace hx872_7 := (HB.out.cell (World.block_lt_of_cell? w _ hx872_7)).trans hx872_7
              replace hx872_8 := (HB.out.cell (World.block_lt_of_cell? w _ hx872_8)).trans hx872_8
              replace p872 := eq_true p872
              replace q872 := eq_true q872
              try go_wp2
              have n0_ := Aside0.mk (below_drew1 HB.out)
              clear HB
              have HB := n0_
              clear n0_
              have p873 : 0 ≤ (x5_1 : Int) := of_decide_eq_true (by first | (with_reducible assumption) | assumption)
              have q873 : x5_1 < (l0.length : Int) := of_decide_eq_true (by first | (with_reducible assumption) | assumption)
              obtain ⟨ad873, e873, hx873_0, hx873_1, hx873_2, hx873_3, hx873_4, hx873_5, hx873_6, hx873_7, hx873_8⟩ := at_T71 HR0.out x5_1 p873 q873
              have hw873_8 := hx873_8
              have hw873_7 := hx873_7
              have hw873_6 := hx873_6
              have hw873_5 := hx873_5
              have hw873_4 := hx873_4
              have hw873_3 := hx873_3
              have hw873_2 := hx873_2
              have hw873_1 := hx873_1
              have hw873_0 := hx873_0
              obtain rfl : ad872 = ad873 := (by injection e873)
              replace hx873_0 := (HB.out.cell (World.block_lt_of_cell? w _ hx873_0)).trans hx873_0
              replace hx873_1 := (HB.out.cell (World.block_lt_of_cell? w _ hx873_1)).trans hx873_1
              replace hx873_2 := (HB.out.cell (World.block_lt_of_cell? w _ hx873_2)).trans hx873_2
              replace hx873_3 := (HB.out.cell (World.block_lt_of_cell? w _ hx873_3)).trans hx873_3
              replace hx873_4 := (HB.out.cell (World.block_lt_of_cell? w _ hx873_4)).trans hx873_4
              replace hx873_5 := (HB.out.cell (World.block_lt_of_cell? w _ hx873_5)).trans hx873_5
              replace hx873_6 := (HB.out.cell (World.block_lt_of_cell? w _ hx873_6)).trans hx873_6
              replace hx873_7 := (HB.out.cell (World.block_lt_of_cell? w _ hx873_7)).trans hx873_7
              replace hx873_8 := (HB.out.cell (World.block_lt_of_cell? w _ hx873_8)).trans hx873_8
              replace p873 := eq_true p873
              replace q873 := eq_true q873
              refine start_ (n := 8) (S := fun w' => w'.cell? (ad872.add ((x5_1).toNat * 9)) = some (.int .i64 ((rd_T71 l0 x5_1).f0)) ∧ w'.cell? ⟨(ad872.add ((x5_1).toNat * 9)).block, (ad872.add ((x5_1).toNat * 9)).off + 1, none⟩ = some (.string ((rd_T71 l0 x5_1).f1)) ∧ w'.cell? ⟨(ad872.add ((x5_1).toNat * 9)).block, (ad872.add ((x5_1).toNat * 9)).off + 2, none⟩ = some (.int .i64 ((rd_T71 l0 x5_1).f2)) ∧ w'.cell? ⟨(ad872.add ((x5_1).toNat * 9)).block, (ad872.add ((x5_1).toNat * 9)).off + 3, none⟩ = some (.int .i64 ((rd_T71 l0 x5_1).f3)) ∧ w'.cell? ⟨(ad872.add ((x5_1).toNat * 9)).block, (ad872.add ((x5_1).toNat * 9)).off + 4, none⟩ = some (.int .i64 ((rd_T71 l0 x5_1).f4)) ∧ w'.cell? ⟨(ad872.add ((x5_1).toNat * 9)).block, (ad872.add ((x5_1).toNat * 9)).off + 5, none⟩ = some (.int .i64 ((rd_T71 l0 x5_1).f5)) ∧ w'.cell? ⟨(ad872.add ((x5_1).toNat * 9)).block, (ad872.add ((x5_1).toNat * 9)).off + 6, none⟩ = some (.int .i64 ((rd_T71 l0 x5_1).f6)) ∧ w'.cell? ⟨(ad872.add ((x5_1).toNat * 9)).block, (ad872.add ((x5_1).toNat * 9)).off + 7, none⟩ = some (.int .i64 ((rd_T71 l0 x5_1).f7)) ∧ w'.cell? ⟨(ad872.add ((x5_1).toNat * 9)).block, (ad872.add ((x5_1).toNat * 9)).off + 8, none⟩ = some (.int .i64 ((rd_T71 l0 x5_1).f8))) (ds := []) #[false, false, false, false, false, false, false, false] (by kernel_rfl) rfl rfl ⟨((HB.out.cell (World.block_lt_of_cell? w _ hw873_0)).trans hw873_0), ((HB.out.cell (World.block_lt_of_cell? w _ hw873_1)).trans hw873_1), ((HB.out.cell (World.block_lt_of_cell? w _ hw873_2)).trans hw873_2), ((HB.out.cell (World.block_lt_of_cell? w _ hw873_3)).trans hw873_3), ((HB.out.cell (World.block_lt_of_cell? w _ hw873_4)).trans hw873_4), ((HB.out.cell (World.block_lt_of_cell? w _ hw873_5)).trans hw873_5), ((HB.out.cell (World.block_lt_of_cell? w _ hw873_6)).trans hw873_6), ((HB.out.cell (World.block_lt_of_cell? w _ hw873_7)).trans hw873_7), ((HB.out.cell (World.block_lt_of_cell? w _ hw873_8)).trans hw873_8)⟩ (fun hHeld => ?_); refine with_tabW laws_heldFlowS.tab7 laws_heldFlowS.bits7 (fun HT_ HW_ => ?_)
              generalize wr.drew = w31 at HB hx873_0 hx873_1 hx873_2 hx873_3 hx873_4 hx873_5 hx873_6 hx873_7 hx873_8 hHeld ⊢
              refine pure_ (i := 0) (N := some 21) (v := ?_) (a' := ?_) #[true, false, false, false, false, false, false, false] rfl rfl (any_of HT_.out (by kernel_rfl)) (fun _ _ _ h => h) (Or.inl ⟨by rfl, ?_⟩) ?_ ?_
              rotate_left
              · intro w'
                go_simp
                with_reducible rfl
              rotate_left
              · simp only [Act.put, List.setIfInBounds_toArray, List.set_cons_zero, List.set_cons_succ, i64_w, i32_w]
                rfl
              refine pure_ (i := 1) (N := some 22) (v := ?_) (a' := ?_) #[true, true, false, false, false, false, false, false] rfl rfl (any_of HT_.out (by kernel_rfl)) (fun _ _ _ h => h) (Or.inl ⟨by rfl, ?_⟩) ?_ ?_
              rotate_left
              · intro w'
                go_simp
                with_reducible rfl
              rotate_left
              · simp only [Act.put, List.setIfInBounds_toArray, List.set_cons_zero, List.set_cons_succ, i64_w, i32_w]
                rfl
              refine pure_ (i := 2) (N := some 23) (v := ?_) (a' := ?_) #[true, true, true, false, false, false, false, false] rfl rfl (any_of HT_.out (by kernel_rfl)) (fun _ _ _ h => h) (Or.inl ⟨by rfl, ?_⟩) ?_ ?_
              rotate_left
              · intro w'
                go_simp
                with_reducible rfl
              rotate_left
              · simp only [Act.put, List.setIfInBounds_toArray, List.set_cons_zero, List.set_cons_succ, i64_w, i32_w]
                rfl
              refine pure_ (i := 3) (N := some 24) (v := ?_) (a' := ?_) #[true, true, true, true, false, false, false, false] rfl rfl (any_of HT_.out (by kernel_rfl)) (fun _ _ _ h => h) (Or.inl ⟨by rfl, ?_⟩) ?_ ?_
              rotate_left
              · intro w'
                go_simp
                with_reducible rfl
              rotate_left
              · simp only [Act.put, List.setIfInBounds_toArray, List.set_cons_zero, List.set_cons_succ, i64_w, i32_w]
                rfl
              refine pure_ (i := 5) (N := some 26) (v := ?_) (a' := ?_) #[true, true, true, true, false, true, false, false] rfl rfl (any_of HT_.out (by kernel_rfl)) (fun _ _ _ h => h) (Or.inl ⟨by rfl, ?_⟩) ?_ ?_
              rotate_left
              · intro w'
                go_simp
                with_reducible rfl
              rotate_left
              · simp only [Act.put, List.setIfInBounds_toArray, List.set_cons_zero, List.set_cons_succ, i64_w, i32_w]
                rfl
              refine take_ (i := 4) (N := some 25) (v := ?_) (a' := ?_) #[true, true, true, true, true, true, false, false] rfl rfl (take_ofW HT_.out HW_.out (by kernel_rfl)) (fun _ _ _ h => h) (Or.inl ⟨by rfl, ?_⟩) hHeld ?_ ?_
              rotate_left
              · rintro w' ⟨s0, s1, s2, s3, s4, s5, s6, s7, s8⟩
                go_simp
                with_reducible rfl
              rotate_left
              · simp only [Act.put, List.setIfInBounds_toArray, List.set_cons_zero, List.set_cons_succ, i64_w, i32_w]
                rfl
              refine one_ (i := 6) (N := some 27) #[true, true, true, true, true, true, true, false] rfl rfl (one_of HT_.out (by kernel_rfl)) (by decide) (fun K hK => ?_)
              refine goes_ Try.func89 (by kernel_rfl) rfl #[.int .i64 (wrap64 (x1_1 + 1))] (by rfl) rfl rfl (by (try simp only [List.map_toArray, List.map_cons, List.map_nil]); first | done | rfl | (simp only [List.length_drop, List.length_take]; rfl)) ?_
              with_reducible refine (laws_markText.calls k1 (wrap64 (x1_1 + 1)) t874 _ A6.out).mono ?_
              rintro e w32 ⟨rfl, hb⟩
              refine ⟨_, rfl, ?_⟩
              have n0_ := Aside0.mk (below_step (by repeat (first | (with_reducible first | exact HB.out | apply below_alloc | apply pw_below_drewN | apply below_drew1) | exact HB.out)) hb)
              clear HB
              have HB := n0_
              clear n0_
              (try clear hb)
              (try clear hb2)
              (try clear hk)
              (try clear hi)
              refine hK.out _ _ ⟨((HB.out.cell (World.block_lt_of_cell? w _ hw873_0)).trans hw873_0), ((HB.out.cell (World.block_lt_of_cell? w _ hw873_1)).trans hw873_1), ((HB.out.cell (World.block_lt_of_cell? w _ hw873_2)).trans hw873_2), ((HB.out.cell (World.block_lt_of_cell? w _ hw873_3)).trans hw873_3), ((HB.out.cell (World.block_lt_of_cell? w _ hw873_4)).trans hw873_4), ((HB.out.cell (World.block_lt_of_cell? w _ hw873_5)).trans hw873_5), ((HB.out.cell (World.block_lt_of_cell? w _ hw873_6)).trans hw873_6), ((HB.out.cell (World.block_lt_of_cell? w _ hw873_7)).trans hw873_7), ((HB.out.cell (World.block_lt_of_cell? w _ hw873_8)).trans hw873_8)⟩ (fun hHeld => ?_)
              clear hK K
              refine norm_ (a' := ?_) ?_ ?_
              rotate_left
              · show Act.put _ (some 27) _ = _
                simp only [Act.put, List.setIfInBounds_toArray, List.set_cons_zero, List.set_cons_succ, i64_w, i32_w]
                rfl
              refine pure_ (i := 7) (N := some 28) (v := ?_) (a' := ?_) #[true, true, true, true, true, true, true, true] rfl rfl (any_of HT_.out (by kernel_rfl)) (fun _ _ _ h => h) (Or.inl ⟨by rfl, ?_⟩) ?_ ?_
              rotate_left
              · intro w'
                go_simp
                with_reducible rfl
              rotate_left
              · simp only [Act.put, List.setIfInBounds_toArray, List.set_cons_zero, List.set_cons_succ, i64_w, i32_w]
                rfl
              refine done_ (done_of HT_.out (by kernel_rfl)) ?_
              try go_wp2
              go_ret
              exact ⟨by first | rfl | (simp [errW_none, errW_some] <;> rfl) | (simp [*, errW_none, errW_some] <;> rfl), by repeat (first | (with_reducible first | exact HB.out | apply below_alloc | apply pw_below_drewN | apply below_drew1) | exact HB.out)⟩
          · rw [if_neg c5] at H
            have c5b0 : (((rd_T71 l0 x5_1).f0) == x1_1) = false := beq_eq_false_iff_ne.mpr c5
            have c5b1 : (((rd_T71 l0 x5_1).f0) != x1_1) = true := bne_iff_ne.mpr c5
            obtain rfl := Option.some.inj H
            have p872 : 0 ≤ (x5_1 : Int) := of_decide_eq_true (by first | (with_reducible assumption) | assumption)
            have q872 : x5_1 < (l0.length : Int) := of_decide_eq_true (by first | (with_reducible assumption) | assumption)
            obtain ⟨ad872, e872, hx872_0, hx872_1, hx872_2, hx872_3, hx872_4, hx872_5, hx872_6, hx872_7, hx872_8⟩ := at_T71 HR0.out x5_1 p872 q872
            cases e872
            replace hx872_0 := (HB.out.cell (World.block_lt_of_cell? w _ hx872_0)).trans hx872_0
            replace hx872_1 := (HB.out.cell (World.block_lt_of_cell? w _ hx872_1)).trans hx872_1
            replace hx872_2 := (HB.out.cell (World.block_lt_of_cell? w _ hx872_2)).trans hx872_2
            replace hx872_3 := (HB.out.cell (World.block_lt_of_cell? w _ hx872_3)).trans hx872_3
            replace hx872_4 := (HB.out.cell (World.block_lt_of_cell? w _ hx872_4)).trans hx872_4
            replace hx872_5 := (HB.out.cell (World.block_lt_of_cell? w _ hx872_5)).trans hx872_5
            replace hx872_6 := (HB.out.cell (World.block_lt_of_cell? w _ hx872_6)).trans hx872_6
            replace hx872_7 := (HB.out.cell (World.block_lt_of_cell? w _ hx872_7)).trans hx872_7
            replace hx872_8 := (HB.out.cell (World.block_lt_of_cell? w _ hx872_8)).trans hx872_8
            replace p872 := eq_true p872
            replace q872 := eq_true q872
            go_wp2
            go_ret
            exact ⟨by first | rfl | (simp [errW_none, errW_some] <;> rfl) | (simp [*, errW_none, errW_some] <;> rfl), by repeat (first | (with_reducible first | exact HB.out | apply below_alloc | apply pw_below_drewN | apply below_drew1) | exact HB.out)⟩
        · rw [if_neg c4] at H
          exact absurd H (by simp)
      · rw [if_neg c3] at H
        have c3b0 : decide (x5_1 < (l0.length : Int)) = false := decide_eq_false c3
        clear c3
        obtain rfl := Option.some.inj H
        go_wp2
        go_ret
        exact ⟨by first | rfl | (simp [errW_none, errW_some] <;> rfl) | (simp [*, errW_none, errW_some] <;> rfl), by repeat (first | (with_reducible first | exact HB.out | apply below_alloc | apply pw_below_drewN | apply below_drew1) | exact HB.out)⟩
end
section
/-! ### laws_FnExactFlowsExpire: function 12 -/
mutual
def laws_FnExactFlowsExpire.j0 : Nat → List (S68) → Int → List (S71) → Int → List (S71) → List (S71) → Int → Bool → Option (Bool)
  | 0, _, _, _, _, _, _, _, _ => none
  | k + 1, x0, x1, x6, x7, x8, x9, x10, x44 => if x44 = true then (some false) else ((laws_toFlowS.f k x0).bind fun t898 => ((laws_eqFlowS.f k x8 t898).bind fun t901 => (if t901 = true then ((laws_markFlowS.f k x8 1).bind fun bt902 => (if bt902.1 < 0 then (laws_FnExactFlowsExpire.j1 k x0 x1 x6 x7 x9 true) else ((laws_eqFlowS.f k x9 x6).bind fun t904 => (if t904 = true then (laws_FnExactFlowsExpire.j1 k x0 x1 x6 x7 x9 (x10 != x7)) else (laws_FnExactFlowsExpire.j1 k x0 x1 x6 x7 x9 true))))) else (some false))))
def laws_FnExactFlowsExpire.j1 : Nat → List (S68) → Int → List (S71) → Int → List (S71) → Bool → Option (Bool)
  | 0, _, _, _, _, _, _ => none
  | k + 1, x0, x1, x6, x7, x9, x65 => if x65 = true then (some false) else ((laws_markFlowS.f k x9 1).bind fun bt905 => ((laws_heldFlowS.f k bt905.2 1).bind fun t907 => (if t907 < 0 then (some false) else (if t907 = bt905.1 then ((laws_toFlowS.f k x0).bind fun t908 => ((impl_FlowsExpire.f k t908 x1).bind fun bt911 => ((laws_eqFlowS.f k bt911.1 x6).bind fun t915 => (if t915 = true then (laws_FnExactFlowsExpire.j2 k bt905.2 bt905.1 (bt911.2 != x7)) else (laws_FnExactFlowsExpire.j2 k bt905.2 bt905.1 true))))) else (some false)))))
def laws_FnExactFlowsExpire.j2 : Nat → List (S71) → Int → Bool → Option (Bool)
  | 0, _, _, _ => none
  | k + 1, x9, x12, x92 => if x92 = true then (some false) else ((laws_heldFlowS.f k x9 1).bind fun t916 => (if t916 < 0 then (some false) else (if t916 = x12 then (some true) else (some false))))
end
def laws_FnExactFlowsExpire.f (k : Nat) (l0 : List (S68)) (a1 : Int) : Option (Bool) := (laws_szFlowS.f k l0 1048576).bind fun t882 => (if t882 < 0 then (some true) else ((laws_toFlowS.f k l0).bind fun t883 => ((spec_FlowsExpire.f k t883 a1).bind fun bt886 => ((laws_toFlowS.f k l0).bind fun t890 => ((impl_FlowsExpire.f k t890 a1).bind fun bt893 => ((laws_eqFlowS.f k bt893.1 bt886.1).bind fun t897 => (if t897 = true then (laws_FnExactFlowsExpire.j0 k l0 a1 bt886.1 bt886.2 t890 bt893.1 bt893.2 (bt893.2 != bt886.2)) else (laws_FnExactFlowsExpire.j0 k l0 a1 bt886.1 bt886.2 t890 bt893.1 bt893.2 true))))))))
theorem laws_FnExactFlowsExpire.mono_l : ∀ k, (∀ y0 y1 y2 y3 y4 y5 y6 y7, LeO (laws_FnExactFlowsExpire.j0 k y0 y1 y2 y3 y4 y5 y6 y7) (laws_FnExactFlowsExpire.j0 (k + 1) y0 y1 y2 y3 y4 y5 y6 y7)) ∧ (∀ y0 y1 y2 y3 y4 y5, LeO (laws_FnExactFlowsExpire.j1 k y0 y1 y2 y3 y4 y5) (laws_FnExactFlowsExpire.j1 (k + 1) y0 y1 y2 y3 y4 y5)) ∧ (∀ y0 y1 y2, LeO (laws_FnExactFlowsExpire.j2 k y0 y1 y2) (laws_FnExactFlowsExpire.j2 (k + 1) y0 y1 y2))
  | 0 => ⟨fun _ _ _ _ _ _ _ _ r h => by simp [laws_FnExactFlowsExpire.j0] at h, fun _ _ _ _ _ _ r h => by simp [laws_FnExactFlowsExpire.j1] at h, fun _ _ _ r h => by simp [laws_FnExactFlowsExpire.j2] at h⟩
  | k + 1 => by
    obtain ⟨ih0, ih1, ih2⟩ := laws_FnExactFlowsExpire.mono_l k
    refine ⟨?_, ?_, ?_⟩
    · intro y0 y1 y2 y3 y4 y5 y6 y7
      unfold laws_FnExactFlowsExpire.j0
      repeat' first
      | (with_reducible exact ih0 _ _ _ _ _ _ _ _)
      | (with_reducible exact ih1 _ _ _ _ _ _)
      | (with_reducible exact ih2 _ _ _)
      | (with_reducible exact impl_FlowsExpire.mono ..)
      | (with_reducible exact laws_eqFlowS.mono ..)
      | (with_reducible exact laws_heldFlowS.mono ..)
      | (with_reducible exact laws_markFlowS.mono ..)
      | (with_reducible exact laws_szFlowS.mono ..)
      | (with_reducible exact laws_toFlowS.mono ..)
      | (with_reducible exact spec_FlowsExpire.mono ..)
      | (with_reducible exact LeO.refl _)
      | (with_reducible exact LeO.none _)
      | (with_reducible refine LeO.ite ?_ ?_)
      | (with_reducible refine LeO.bind ?_ (fun _ => ?_))
      | exact ih0 _ _ _ _ _ _ _ _
      | exact ih1 _ _ _ _ _ _
      | exact ih2 _ _ _
      | exact impl_FlowsExpire.mono ..
      | exact laws_eqFlowS.mono ..
      | exact laws_heldFlowS.mono ..
      | exact laws_markFlowS.mono ..
      | exact laws_szFlowS.mono ..
      | exact laws_toFlowS.mono ..
      | exact spec_FlowsExpire.mono ..
      | exact LeO.none _
      | refine LeO.ite ?_ ?_
      | refine LeO.bind ?_ (fun _ => ?_)
    · intro y0 y1 y2 y3 y4 y5
      unfold laws_FnExactFlowsExpire.j1
      repeat' first
      | (with_reducible exact ih0 _ _ _ _ _ _ _ _)
      | (with_reducible exact ih1 _ _ _ _ _ _)
      | (with_reducible exact ih2 _ _ _)
      | (with_reducible exact impl_FlowsExpire.mono ..)
      | (with_reducible exact laws_eqFlowS.mono ..)
      | (with_reducible exact laws_heldFlowS.mono ..)
      | (with_reducible exact laws_markFlowS.mono ..)
      | (with_reducible exact laws_szFlowS.mono ..)
      | (with_reducible exact laws_toFlowS.mono ..)
      | (with_reducible exact spec_FlowsExpire.mono ..)
      | (with_reducible exact LeO.refl _)
      | (with_reducible exact LeO.none _)
      | (with_reducible refine LeO.ite ?_ ?_)
      | (with_reducible refine LeO.bind ?_ (fun _ => ?_))
      | exact ih0 _ _ _ _ _ _ _ _
      | exact ih1 _ _ _ _ _ _
      | exact ih2 _ _ _
      | exact impl_FlowsExpire.mono ..
      | exact laws_eqFlowS.mono ..
      | exact laws_heldFlowS.mono ..
      | exact laws_markFlowS.mono ..
      | exact laws_szFlowS.mono ..
      | exact laws_toFlowS.mono ..
      | exact spec_FlowsExpire.mono ..
      | exact LeO.none _
      | refine LeO.ite ?_ ?_
      | refine LeO.bind ?_ (fun _ => ?_)
    · intro y0 y1 y2
      unfold laws_FnExactFlowsExpire.j2
      repeat' first
      | (with_reducible exact ih0 _ _ _ _ _ _ _ _)
      | (with_reducible exact ih1 _ _ _ _ _ _)
      | (with_reducible exact ih2 _ _ _)
      | (with_reducible exact impl_FlowsExpire.mono ..)
      | (with_reducible exact laws_eqFlowS.mono ..)
      | (with_reducible exact laws_heldFlowS.mono ..)
      | (with_reducible exact laws_markFlowS.mono ..)
      | (with_reducible exact laws_szFlowS.mono ..)
      | (with_reducible exact laws_toFlowS.mono ..)
      | (with_reducible exact spec_FlowsExpire.mono ..)
      | (with_reducible exact LeO.refl _)
      | (with_reducible exact LeO.none _)
      | (with_reducible refine LeO.ite ?_ ?_)
      | (with_reducible refine LeO.bind ?_ (fun _ => ?_))
      | exact ih0 _ _ _ _ _ _ _ _
      | exact ih1 _ _ _ _ _ _
      | exact ih2 _ _ _
      | exact impl_FlowsExpire.mono ..
      | exact laws_eqFlowS.mono ..
      | exact laws_heldFlowS.mono ..
      | exact laws_markFlowS.mono ..
      | exact laws_szFlowS.mono ..
      | exact laws_toFlowS.mono ..
      | exact spec_FlowsExpire.mono ..
      | exact LeO.none _
      | refine LeO.ite ?_ ?_
      | refine LeO.bind ?_ (fun _ => ?_)
theorem laws_FnExactFlowsExpire.mono : ∀ a0 a1 k, LeO (laws_FnExactFlowsExpire.f k a0 a1) (laws_FnExactFlowsExpire.f (k + 1) a0 a1) := by
  intro a0 a1 k
  obtain ⟨ih0, ih1, ih2⟩ := laws_FnExactFlowsExpire.mono_l k
  unfold laws_FnExactFlowsExpire.f
  repeat' first
      | (with_reducible exact ih0 _ _ _ _ _ _ _ _)
      | (with_reducible exact ih1 _ _ _ _ _ _)
      | (with_reducible exact ih2 _ _ _)
      | (with_reducible exact impl_FlowsExpire.mono ..)
      | (with_reducible exact laws_eqFlowS.mono ..)
      | (with_reducible exact laws_heldFlowS.mono ..)
      | (with_reducible exact laws_markFlowS.mono ..)
      | (with_reducible exact laws_szFlowS.mono ..)
      | (with_reducible exact laws_toFlowS.mono ..)
      | (with_reducible exact spec_FlowsExpire.mono ..)
      | (with_reducible exact LeO.refl _)
      | (with_reducible exact LeO.none _)
      | (with_reducible refine LeO.ite ?_ ?_)
      | (with_reducible refine LeO.bind ?_ (fun _ => ?_))
      | exact ih0 _ _ _ _ _ _ _ _
      | exact ih1 _ _ _ _ _ _
      | exact ih2 _ _ _
      | exact impl_FlowsExpire.mono ..
      | exact laws_eqFlowS.mono ..
      | exact laws_heldFlowS.mono ..
      | exact laws_markFlowS.mono ..
      | exact laws_szFlowS.mono ..
      | exact laws_toFlowS.mono ..
      | exact spec_FlowsExpire.mono ..
      | exact LeO.none _
      | refine LeO.ite ?_ ?_
      | refine LeO.bind ?_ (fun _ => ?_)
set_option maxHeartbeats 8000000 in
set_option maxRecDepth 100000 in
theorem laws_FnExactFlowsExpire.calls (k : Nat) (A0 : Option Addr) (c0 : Nat) (l0 : List (S68)) (a1 : Int) (r : Bool) (w : World) (hr0 : Kd.C k68 w A0 l0.length l0) (hc0 : l0.length ≤ c0) (h : laws_FnExactFlowsExpire.f k l0 a1 = some r) :
    Calls Try.prog 12 #[.slice A0 l0.length c0, .int .i64 a1] w fun e w' => e = .returned (.bool r) ∧ Below w.heap.size w w' := by
  have HR0 := Aside0.mk hr0
  have HC0 := Aside0.mk hc0
  clear hr0 hc0
  have HB := Aside0.mk (Below.refl w.heap.size w)
  have H : ((laws_szFlowS.f k l0 1048576).bind fun t882 => (if t882 < 0 then (some true) else ((laws_toFlowS.f k l0).bind fun t883 => ((spec_FlowsExpire.f k t883 a1).bind fun bt886 => ((laws_toFlowS.f k l0).bind fun t890 => ((impl_FlowsExpire.f k t890 a1).bind fun bt893 => ((laws_eqFlowS.f k bt893.1 bt886.1).bind fun t897 => (if t897 = true then (laws_FnExactFlowsExpire.j0 k l0 a1 bt886.1 bt886.2 t890 bt893.1 bt893.2 (bt893.2 != bt886.2)) else (laws_FnExactFlowsExpire.j0 k l0 a1 bt886.1 bt886.2 t890 bt893.1 bt893.2 true))))))))) = some r := h
  clear h
  replace H := Option.bind_eq_some_iff.mp H
  obtain ⟨t882, A30, H⟩ := H
  replace H : (if t882 < 0 then (some true) else ((laws_toFlowS.f k l0).bind fun t883 => ((spec_FlowsExpire.f k t883 a1).bind fun bt886 => ((laws_toFlowS.f k l0).bind fun t890 => ((impl_FlowsExpire.f k t890 a1).bind fun bt893 => ((laws_eqFlowS.f k bt893.1 bt886.1).bind fun t897 => (if t897 = true then (laws_FnExactFlowsExpire.j0 k l0 a1 bt886.1 bt886.2 t890 bt893.1 bt893.2 (bt893.2 != bt886.2)) else (laws_FnExactFlowsExpire.j0 k l0 a1 bt886.1 bt886.2 t890 bt893.1 bt893.2 true)))))))) = some r := H
  have A3 := Aside0.mk A30
  clear A30
  by_cases c4 : t882 < 0
  · rw [if_pos c4] at H
    have c4b0 : decide (t882 < 0) = true := decide_eq_true c4
    clear c4
    obtain rfl := Option.some.inj H
    go_enter Try.func12, Try.ntmps12
    go_wp2_with (first | ((with_reducible refine gate_callee (f := 26) rfl ?_); refine goesL_ (some 18) rfl rfl Try.func26 (by kernel_rfl) rfl #[.slice A0 l0.length c0, .int .i64 1048576] rfl (by (try simp only [List.map_toArray, List.map_cons, List.map_nil]); first | done | rfl | (simp only [List.length_drop, List.length_take]; rfl)) ?_; (with_reducible refine (laws_szFlowS.calls k _ _ l0 1048576 t882 _ ?side1 ?side2 A3.out).mono ?_); (case side1 => repeat (first | exact HR0.out | (with_reducible refine Kd.C_alloc ?_ _) | (with_reducible refine Kd.C_drewN ?_ _) | (with_reducible refine Kd.C_drew ?_))); (case side2 => exact HC0.out); rintro e w5 ⟨rfl, hb⟩; refine ⟨_, rfl, ?_⟩; have n0_ := Aside0.mk (below_step (by repeat (first | (with_reducible first | exact HB.out | apply below_alloc | apply pw_below_drewN | apply below_drew1) | exact HB.out)) hb); clear HB; have HB := n0_; clear n0_; (try clear hb); (try clear hb2); (try clear hk); (try clear hi)))
    go_ret
    exact ⟨by first | rfl | (simp [errW_none, errW_some] <;> rfl) | (simp [*, errW_none, errW_some] <;> rfl), by repeat (first | (with_reducible first | exact HB.out | apply below_alloc | apply pw_below_drewN | apply below_drew1) | exact HB.out)⟩
  · rw [if_neg c4] at H
    have c4b0 : decide (t882 < 0) = false := decide_eq_false c4
    clear c4
    replace H := Option.bind_eq_some_iff.mp H
    obtain ⟨t883, A60, H⟩ := H
    replace H : ((spec_FlowsExpire.f k t883 a1).bind fun bt886 => ((laws_toFlowS.f k l0).bind fun t890 => ((impl_FlowsExpire.f k t890 a1).bind fun bt893 => ((laws_eqFlowS.f k bt893.1 bt886.1).bind fun t897 => (if t897 = true then (laws_FnExactFlowsExpire.j0 k l0 a1 bt886.1 bt886.2 t890 bt893.1 bt893.2 (bt893.2 != bt886.2)) else (laws_FnExactFlowsExpire.j0 k l0 a1 bt886.1 bt886.2 t890 bt893.1 bt893.2 true)))))) = some r := H
    have A6 := Aside0.mk A60
    clear A60
    replace H := Option.bind_eq_some_iff.mp H
    obtain ⟨⟨t886, t887⟩, A70, H⟩ := H
    replace H : ((laws_toFlowS.f k l0).bind fun t890 => ((impl_FlowsExpire.f k t890 a1).bind fun bt893 => ((laws_eqFlowS.f k bt893.1 t886).bind fun t897 => (if t897 = true then (laws_FnExactFlowsExpire.j0 k l0 a1 t886 t887 t890 bt893.1 bt893.2 (bt893.2 != t887)) else (laws_FnExactFlowsExpire.j0 k l0 a1 t886 t887 t890 bt893.1 bt893.2 true))))) = some r := H
    have A7 := Aside0.mk A70
    clear A70
    replace H := Option.bind_eq_some_iff.mp H
    obtain ⟨t890, A80, H⟩ := H
    replace H : ((impl_FlowsExpire.f k t890 a1).bind fun bt893 => ((laws_eqFlowS.f k bt893.1 t886).bind fun t897 => (if t897 = true then (laws_FnExactFlowsExpire.j0 k l0 a1 t886 t887 t890 bt893.1 bt893.2 (bt893.2 != t887)) else (laws_FnExactFlowsExpire.j0 k l0 a1 t886 t887 t890 bt893.1 bt893.2 true)))) = some r := H
    have A8 := Aside0.mk A80
    clear A80
    replace H := Option.bind_eq_some_iff.mp H
    obtain ⟨⟨t893, t894⟩, A90, H⟩ := H
    replace H : ((laws_eqFlowS.f k t893 t886).bind fun t897 => (if t897 = true then (laws_FnExactFlowsExpire.j0 k l0 a1 t886 t887 t890 t893 t894 (t894 != t887)) else (laws_FnExactFlowsExpire.j0 k l0 a1 t886 t887 t890 t893 t894 true))) = some r := H
    have A9 := Aside0.mk A90
    clear A90
    have HC10 := Aside0.mk H
    clear H
    go_enter Try.func12, Try.ntmps12
    go_upto_region 8 with (first | ((with_reducible refine gate_callee (f := 26) rfl ?_); refine goesL_ (some 18) rfl rfl Try.func26 (by kernel_rfl) rfl #[.slice A0 l0.length c0, .int .i64 1048576] rfl (by (try simp only [List.map_toArray, List.map_cons, List.map_nil]); first | done | rfl | (simp only [List.length_drop, List.length_take]; rfl)) ?_; (with_reducible refine (laws_szFlowS.calls k _ _ l0 1048576 t882 _ ?side1 ?side2 A3.out).mono ?_); (case side1 => repeat (first | exact HR0.out | (with_reducible refine Kd.C_alloc ?_ _) | (with_reducible refine Kd.C_drewN ?_ _) | (with_reducible refine Kd.C_drew ?_))); (case side2 => exact HC0.out); rintro e w11 ⟨rfl, hb⟩; refine ⟨_, rfl, ?_⟩; have n0_ := Aside0.mk (below_step (by repeat (first | (with_reducible first | exact HB.out | apply below_alloc | apply pw_below_drewN | apply below_drew1) | exact HB.out)) hb); clear HB; have HB := n0_; clear n0_; (try clear hb); (try clear hb2); (try clear hk); (try clear hi)) | ((with_reducible refine gate_callee (f := 28) rfl ?_); refine goesL_ (some 23) rfl rfl Try.func28 (by kernel_rfl) rfl #[.slice A0 l0.length c0] rfl (by (try simp only [List.map_toArray, List.map_cons, List.map_nil]); first | done | rfl | (simp only [List.length_drop, List.length_take]; rfl)) ?_; (with_reducible refine (laws_toFlowS.calls k _ _ l0 t883 _ ?side1 ?side2 A6.out).mono ?_); (case side1 => repeat (first | exact (Kd.C_below HR0.out HB.out) | (with_reducible refine Kd.C_alloc ?_ _) | (with_reducible refine Kd.C_drewN ?_ _) | (with_reducible refine Kd.C_drew ?_))); (case side2 => exact HC0.out); rintro e w12 ⟨v884, rfl, ho0, hb⟩; refine ⟨_, rfl, ?_⟩; have n0_ := Aside0.mk (Kd.R_lower ho0 (below_size (by repeat (first | (with_reducible first | exact HB.out | apply below_alloc | apply pw_below_drewN | apply below_drew1) | exact HB.out)))); have n1_ := Aside0.mk (below_step (by repeat (first | (with_reducible first | exact HB.out | apply below_alloc | apply pw_below_drewN | apply below_drew1) | exact HB.out)) hb); clear HB; have HO885 := n0_; have HB := n1_; clear n0_ n1_; (try clear hb); (try clear hb2); (try clear hk); (try clear hi); (try clear ho0); obtain ⟨Ao13, co13, eo13⟩ := Kd.R_slice HO885.out; subst eo13) | ((with_reducible refine gate_callee (f := 45) rfl ?_); refine goesL_ (some 25) rfl rfl Try.func45 (by kernel_rfl) rfl #[.slice Ao13 t883.length co13, .int .i64 a1] rfl (by (try simp only [List.map_toArray, List.map_cons, List.map_nil]); first | done | rfl | (simp only [List.length_drop, List.length_take]; rfl)) ?_; (with_reducible refine (spec_FlowsExpire.calls k _ _ t883 a1 t886 t887 _ ?side1 ?side2 A7.out).mono ?_); (case side1 => repeat (first | exact (Kd.R_reads' HO885.out).2.2 | (with_reducible refine Kd.C_alloc ?_ _) | (with_reducible refine Kd.C_drewN ?_ _) | (with_reducible refine Kd.C_drew ?_))); (case side2 => exact (Kd.R_reads' HO885.out).2.1); rintro e w14 ⟨v888, rfl, ho0, hb⟩; refine ⟨_, rfl, ?_⟩; have n0_ := Aside0.mk (Kd.R_elder' (by (with_reducible repeat (first | apply Kd.R_alloc | apply Kd.R_drewN | apply Kd.R_drew)); exact HO885.out) (Kd.R_base ho0) hb); have n1_ := Aside0.mk (Kd.R_lower (Kd.R_new' ho0 (Kd.R_lt (by (with_reducible repeat (first | apply Kd.R_alloc | apply Kd.R_drewN | apply Kd.R_drew)); exact HO885.out))) (below_size (by repeat (first | (with_reducible first | exact HB.out | apply below_alloc | apply pw_below_drewN | apply below_drew1) | exact HB.out)))); have n2_ := Aside0.mk (below_step (by repeat (first | (with_reducible first | exact HB.out | apply below_alloc | apply pw_below_drewN | apply below_drew1) | exact HB.out)) hb); clear HO885; clear HB; have HO885 := n0_; have HO889 := n1_; have HB := n2_; clear n0_ n1_ n2_; (try clear hb); (try clear hb2); (try clear hk); (try clear hi); (try clear ho0)) | ((with_reducible refine gate_callee (f := 28) rfl ?_); refine goesL_ (some 29) rfl rfl Try.func28 (by kernel_rfl) rfl #[.slice A0 l0.length c0] rfl (by (try simp only [List.map_toArray, List.map_cons, List.map_nil]); first | done | rfl | (simp only [List.length_drop, List.length_take]; rfl)) ?_; (with_reducible refine (laws_toFlowS.calls k _ _ l0 t890 _ ?side1 ?side2 A8.out).mono ?_); (case side1 => repeat (first | exact (Kd.C_below HR0.out HB.out) | (with_reducible refine Kd.C_alloc ?_ _) | (with_reducible refine Kd.C_drewN ?_ _) | (with_reducible refine Kd.C_drew ?_))); (case side2 => exact HC0.out); rintro e w15 ⟨v891, rfl, ho0, hb⟩; refine ⟨_, rfl, ?_⟩; have n0_ := Aside0.mk (Kd.R_elder' (by (with_reducible repeat (first | apply Kd.R_alloc | apply Kd.R_drewN | apply Kd.R_drew)); exact HO885.out) (Kd.R_base ho0) hb); have n1_ := Aside0.mk (Kd.R_elder' (by (with_reducible repeat (first | apply Kd.R_alloc | apply Kd.R_drewN | apply Kd.R_drew)); exact HO889.out) (Kd.R_base ho0) hb); have n2_ := Aside0.mk (Kd.R_lower (Kd.R_new' (Kd.R_new' ho0 (Kd.R_lt (by (with_reducible repeat (first | apply Kd.R_alloc | apply Kd.R_drewN | apply Kd.R_drew)); exact HO885.out))) (Kd.R_lt (by (with_reducible repeat (first | apply Kd.R_alloc | apply Kd.R_drewN | apply Kd.R_drew)); exact HO889.out))) (below_size (by repeat (first | (with_reducible first | exact HB.out | apply below_alloc | apply pw_below_drewN | apply below_drew1) | exact HB.out)))); have n3_ := Aside0.mk (below_step (by repeat (first | (with_reducible first | exact HB.out | apply below_alloc | apply pw_below_drewN | apply below_drew1) | exact HB.out)) hb); clear HO885; clear HO889; clear HB; have HO885 := n0_; have HO889 := n1_; have HO892 := n2_; have HB := n3_; clear n0_ n1_ n2_ n3_; (try clear hb); (try clear hb2); (try clear hk); (try clear hi); (try clear ho0); obtain ⟨Ao16, co16, eo16⟩ := Kd.R_slice HO892.out; subst eo16) | ((with_reducible refine gate_callee (f := 46) rfl ?_); refine goesL_ (some 33) rfl rfl Try.func46 (by kernel_rfl) rfl #[.slice Ao16 t890.length co16, .int .i64 a1] rfl (by (try simp only [List.map_toArray, List.map_cons, List.map_nil]); first | done | rfl | (simp only [List.length_drop, List.length_take]; rfl)) ?_; (with_reducible refine (impl_FlowsExpire.calls k _ _ t890 a1 t893 t894 _ ?side1 ?side2 A9.out).mono ?_); (case side1 => repeat (first | exact (Kd.R_reads' HO892.out).2.2 | (with_reducible refine Kd.C_alloc ?_ _) | (with_reducible refine Kd.C_drewN ?_ _) | (with_reducible refine Kd.C_drew ?_))); (case side2 => exact (Kd.R_reads' HO892.out).2.1); rintro e w17 ⟨v895, rfl, ho0, hb⟩; refine ⟨_, rfl, ?_⟩; have n0_ := Aside0.mk (Kd.R_elder' (by (with_reducible repeat (first | apply Kd.R_alloc | apply Kd.R_drewN | apply Kd.R_drew)); exact HO885.out) (Kd.R_base ho0) hb); have n1_ := Aside0.mk (Kd.R_elder' (by (with_reducible repeat (first | apply Kd.R_alloc | apply Kd.R_drewN | apply Kd.R_drew)); exact HO889.out) (Kd.R_base ho0) hb); have n2_ := Aside0.mk (Kd.R_elder' (by (with_reducible repeat (first | apply Kd.R_alloc | apply Kd.R_drewN | apply Kd.R_drew)); exact HO892.out) (Kd.R_base ho0) hb); have n3_ := Aside0.mk (Kd.R_lower (Kd.R_new' (Kd.R_new' (Kd.R_new' ho0 (Kd.R_lt (by (with_reducible repeat (first | apply Kd.R_alloc | apply Kd.R_drewN | apply Kd.R_drew)); exact HO885.out))) (Kd.R_lt (by (with_reducible repeat (first | apply Kd.R_alloc | apply Kd.R_drewN | apply Kd.R_drew)); exact HO889.out))) (Kd.R_lt (by (with_reducible repeat (first | apply Kd.R_alloc | apply Kd.R_drewN | apply Kd.R_drew)); exact HO892.out))) (below_size (by repeat (first | (with_reducible first | exact HB.out | apply below_alloc | apply pw_below_drewN | apply below_drew1) | exact HB.out)))); have n4_ := Aside0.mk (below_step (by repeat (first | (with_reducible first | exact HB.out | apply below_alloc | apply pw_below_drewN | apply below_drew1) | exact HB.out)) hb); clear HO885; clear HO889; clear HO892; clear HB; have HO885 := n0_; have HO889 := n1_; have HO892 := n2_; have HO896 := n3_; have HB := n4_; clear n0_ n1_ n2_ n3_ n4_; (try clear hb); (try clear hb2); (try clear hk); (try clear hi); (try clear ho0)))
    (try simp only [Act.put, List.setIfInBounds_toArray, List.set_cons_zero, List.set_cons_succ])
    go_cut [44] (fun v44 wc => ∃ (kq : Nat) (x44_9 : Bool), v44 = .bool x44_9 ∧ Aside0 (laws_FnExactFlowsExpire.j0 kq l0 a1 t886 t887 t890 t893 t894 x44_9 = some r) ∧ Aside0 (kq ≤ k) ∧ Aside0 (Kd.R k71 71 wc w.heap.size (fun k_ => some k_ ≠ ((.slice Ao16 t890.length co16) : Value).ownBlock ∧ some k_ ≠ (v895 : Value).ownBlock) v888 t886) ∧ Aside0 (Kd.R k71 71 wc w.heap.size (fun k_ => some k_ ≠ (v888 : Value).ownBlock ∧ some k_ ≠ (v895 : Value).ownBlock) (.slice Ao16 t890.length co16) t890) ∧ Aside0 (Kd.R k71 71 wc w.heap.size (fun k_ => some k_ ≠ (v888 : Value).ownBlock ∧ some k_ ≠ ((.slice Ao16 t890.length co16) : Value).ownBlock) v895 t893) ∧ Aside0 (Below w.heap.size w wc))
    case first =>
      have H := HC10.out
      clear HC10
      replace H := Option.bind_eq_some_iff.mp H
      obtain ⟨t897, A180, H⟩ := H
      replace H : (if t897 = true then (laws_FnExactFlowsExpire.j0 k l0 a1 t886 t887 t890 t893 t894 (t894 != t887)) else (laws_FnExactFlowsExpire.j0 k l0 a1 t886 t887 t890 t893 t894 true)) = some r := H
      have A18 := Aside0.mk A180
      clear A180
      by_cases c19 : t897 = true
      · subst c19
        have H1 : (laws_FnExactFlowsExpire.j0 k l0 a1 t886 t887 t890 t893 t894 (t894 != t887)) = some r := by rw [if_pos rfl] at H; exact H
        clear H
        have H := H1
        clear H1
        have H' := Aside0.mk H
        clear H
        obtain ⟨Ao20, co20, eo20⟩ := Kd.R_slice HO896.out
        subst eo20
        obtain ⟨Ao21, co21, eo21⟩ := Kd.R_slice HO889.out
        subst eo21
        go_wp2_with (first | ((with_reducible refine gate_callee (f := 30) rfl ?_); refine goesL_ (some 38) rfl rfl Try.func30 (by kernel_rfl) rfl #[.slice Ao20 t893.length co20, .slice Ao21 t886.length co21] rfl (by (try simp only [List.map_toArray, List.map_cons, List.map_nil]); first | done | rfl | (simp only [List.length_drop, List.length_take]; rfl)) ?_; (with_reducible refine (laws_eqFlowS.calls k _ _ t893 _ _ t886 true _ ?side1 ?side2 ?side3 ?side4 A18.out).mono ?_); (case side1 => repeat (first | exact (Kd.R_reads' HO896.out).2.2 | (with_reducible refine Kd.C_alloc ?_ _) | (with_reducible refine Kd.C_drewN ?_ _) | (with_reducible refine Kd.C_drew ?_))); (case side2 => exact (Kd.R_reads' HO896.out).2.1); (case side3 => repeat (first | exact (Kd.R_reads' HO889.out).2.2 | (with_reducible refine Kd.C_alloc ?_ _) | (with_reducible refine Kd.C_drewN ?_ _) | (with_reducible refine Kd.C_drew ?_))); (case side4 => exact (Kd.R_reads' HO889.out).2.1); rintro e w22 ⟨rfl, hb⟩; refine ⟨_, rfl, ?_⟩; have n0_ := Aside0.mk (Kd.R_below (by (with_reducible repeat (first | apply Kd.R_alloc | apply Kd.R_drewN | apply Kd.R_drew)); exact HO885.out) hb); have n1_ := Aside0.mk (Kd.R_below (by (with_reducible repeat (first | apply Kd.R_alloc | apply Kd.R_drewN | apply Kd.R_drew)); exact HO889.out) hb); have n2_ := Aside0.mk (Kd.R_below (by (with_reducible repeat (first | apply Kd.R_alloc | apply Kd.R_drewN | apply Kd.R_drew)); exact HO892.out) hb); have n3_ := Aside0.mk (Kd.R_below (by (with_reducible repeat (first | apply Kd.R_alloc | apply Kd.R_drewN | apply Kd.R_drew)); exact HO896.out) hb); have n4_ := Aside0.mk (below_step (by repeat (first | (with_reducible first | exact HB.out | apply below_alloc | apply pw_below_drewN | apply below_drew1) | exact HB.out)) hb); clear HO885; clear HO889; clear HO892; clear HO896; clear HB; have HO885 := n0_; have HO889 := n1_; have HO892 := n2_; have HO896 := n3_; have HB := n4_; clear n0_ n1_ n2_ n3_ n4_; (try clear hb); (try clear hb2); (try clear hk); (try clear hi)))
        go_meet
        case rel => exact ⟨_, ((t894 != t887)), (by first | rfl | (simp; done) | (simp [*]; done) | (simp [ne_nil_b]; done) | (simp [ne_nil_b, *]; done)), H', ⟨by first | omega | exact Nat.le_refl _⟩, ⟨by (with_reducible repeat (first | apply Kd.R_alloc | apply Kd.R_drewN | apply Kd.R_drew)); exact Kd.R_mono HO889.out (fun _ hk => ⟨hk.1.2, hk.2⟩)⟩, ⟨by (with_reducible repeat (first | apply Kd.R_alloc | apply Kd.R_drewN | apply Kd.R_drew)); exact Kd.R_mono HO892.out (fun _ hk => ⟨hk.1.2, hk.2⟩)⟩, ⟨by (with_reducible repeat (first | apply Kd.R_alloc | apply Kd.R_drewN | apply Kd.R_drew)); exact Kd.R_mono HO896.out (fun _ hk => ⟨hk.1.2, hk.2⟩)⟩, ⟨by repeat (first | (with_reducible first | exact HB.out | apply below_alloc | apply pw_below_drewN | apply below_drew1) | exact HB.out)⟩⟩
      · replace c19 := Bool.eq_false_iff.mpr c19
        subst c19
        have H1 : (laws_FnExactFlowsExpire.j0 k l0 a1 t886 t887 t890 t893 t894 true) = some r := by rw [if_neg (show ¬ (false = true) by decide)] at H; exact H
        clear H
        have H := H1
        clear H1
        have H' := Aside0.mk H
        clear H
        obtain ⟨Ao23, co23, eo23⟩ := Kd.R_slice HO896.out
        subst eo23
        obtain ⟨Ao24, co24, eo24⟩ := Kd.R_slice HO889.out
        subst eo24
        go_wp2_with (first | ((with_reducible refine gate_callee (f := 30) rfl ?_); refine goesL_ (some 38) rfl rfl Try.func30 (by kernel_rfl) rfl #[.slice Ao23 t893.length co23, .slice Ao24 t886.length co24] rfl (by (try simp only [List.map_toArray, List.map_cons, List.map_nil]); first | done | rfl | (simp only [List.length_drop, List.length_take]; rfl)) ?_; (with_reducible refine (laws_eqFlowS.calls k _ _ t893 _ _ t886 false _ ?side1 ?side2 ?side3 ?side4 A18.out).mono ?_); (case side1 => repeat (first | exact (Kd.R_reads' HO896.out).2.2 | (with_reducible refine Kd.C_alloc ?_ _) | (with_reducible refine Kd.C_drewN ?_ _) | (with_reducible refine Kd.C_drew ?_))); (case side2 => exact (Kd.R_reads' HO896.out).2.1); (case side3 => repeat (first | exact (Kd.R_reads' HO889.out).2.2 | (with_reducible refine Kd.C_alloc ?_ _) | (with_reducible refine Kd.C_drewN ?_ _) | (with_reducible refine Kd.C_drew ?_))); (case side4 => exact (Kd.R_reads' HO889.out).2.1); rintro e w25 ⟨rfl, hb⟩; refine ⟨_, rfl, ?_⟩; have n0_ := Aside0.mk (Kd.R_below (by (with_reducible repeat (first | apply Kd.R_alloc | apply Kd.R_drewN | apply Kd.R_drew)); exact HO885.out) hb); have n1_ := Aside0.mk (Kd.R_below (by (with_reducible repeat (first | apply Kd.R_alloc | apply Kd.R_drewN | apply Kd.R_drew)); exact HO889.out) hb); have n2_ := Aside0.mk (Kd.R_below (by (with_reducible repeat (first | apply Kd.R_alloc | apply Kd.R_drewN | apply Kd.R_drew)); exact HO892.out) hb); have n3_ := Aside0.mk (Kd.R_below (by (with_reducible repeat (first | apply Kd.R_alloc | apply Kd.R_drewN | apply Kd.R_drew)); exact HO896.out) hb); have n4_ := Aside0.mk (below_step (by repeat (first | (with_reducible first | exact HB.out | apply below_alloc | apply pw_below_drewN | apply below_drew1) | exact HB.out)) hb); clear HO885; clear HO889; clear HO892; clear HO896; clear HB; have HO885 := n0_; have HO889 := n1_; have HO892 := n2_; have HO896 := n3_; have HB := n4_; clear n0_ n1_ n2_ n3_ n4_; (try clear hb); (try clear hb2); (try clear hk); (try clear hi)))
        go_meet
        case rel => exact ⟨_, (true), (by first | rfl | (simp; done) | (simp [*]; done) | (simp [ne_nil_b]; done) | (simp [ne_nil_b, *]; done)), H', ⟨by first | omega | exact Nat.le_refl _⟩, ⟨by (with_reducible repeat (first | apply Kd.R_alloc | apply Kd.R_drewN | apply Kd.R_drew)); exact Kd.R_mono HO889.out (fun _ hk => ⟨hk.1.2, hk.2⟩)⟩, ⟨by (with_reducible repeat (first | apply Kd.R_alloc | apply Kd.R_drewN | apply Kd.R_drew)); exact Kd.R_mono HO892.out (fun _ hk => ⟨hk.1.2, hk.2⟩)⟩, ⟨by (with_reducible repeat (first | apply Kd.R_alloc | apply Kd.R_drewN | apply Kd.R_drew)); exact Kd.R_mono HO896.out (fun _ hk => ⟨hk.1.2, hk.2⟩)⟩, ⟨by repeat (first | (with_reducible first | exact HB.out | apply below_alloc | apply pw_below_drewN | apply below_drew1) | exact HB.out)⟩⟩
    case rest =>
      clear HC10
      try clear c1
      try clear c2
      try clear p2
      try clear c3
      try clear c4
      try clear c4b0
      try clear c12
      try clear c19
      obtain ⟨kq, x44_9, rfl, HA, HJ9, HO_6, HO_8, HO_9, HB⟩ := hcut
      cases kq with
      | zero => exact absurd HA.out (by simp [laws_FnExactFlowsExpire.j0])
      | succ kj9 =>
        have H := HA.out
        clear HA
        simp only [laws_FnExactFlowsExpire.j0] at H
        by_cases c26 : x44_9 = true
        · subst c26
          have H1 : (some false) = some r := by rw [if_pos rfl] at H; exact H
          clear H
          have H := H1
          clear H1
          obtain rfl := Option.some.inj H
          go_wp2
          go_ret
          exact ⟨by first | rfl | (simp [errW_none, errW_some] <;> rfl) | (simp [*, errW_none, errW_some] <;> rfl), by repeat (first | (with_reducible first | exact HB.out | apply below_alloc | apply pw_below_drewN | apply below_drew1) | exact HB.out)⟩
        · replace c26 := Bool.eq_false_iff.mpr c26
          subst c26
          have H1 : ((laws_toFlowS.f kj9 l0).bind fun t898 => ((laws_eqFlowS.f kj9 t890 t898).bind fun t901 => (if t901 = true then ((laws_markFlowS.f kj9 t890 1).bind fun bt902 => (if bt902.1 < 0 then (laws_FnExactFlowsExpire.j1 kj9 l0 a1 t886 t887 t893 true) else ((laws_eqFlowS.f kj9 t893 t886).bind fun t904 => (if t904 = true then (laws_FnExactFlowsExpire.j1 kj9 l0 a1 t886 t887 t893 (t894 != t887)) else (laws_FnExactFlowsExpire.j1 kj9 l0 a1 t886 t887 t893 true))))) else (some false)))) = some r := by rw [if_neg (show ¬ (false = true) by decide)] at H; exact H
          clear H
          have H := H1
          clear H1
          replace H := Option.bind_eq_some_iff.mp H
          obtain ⟨t898, A270, H⟩ := H
          replace H : ((laws_eqFlowS.f kj9 t890 t898).bind fun t901 => (if t901 = true then ((laws_markFlowS.f kj9 t890 1).bind fun bt902 => (if bt902.1 < 0 then (laws_FnExactFlowsExpire.j1 kj9 l0 a1 t886 t887 t893 true) else ((laws_eqFlowS.f kj9 t893 t886).bind fun t904 => (if t904 = true then (laws_FnExactFlowsExpire.j1 kj9 l0 a1 t886 t887 t893 (t894 != t887)) else (laws_FnExactFlowsExpire.j1 kj9 l0 a1 t886 t887 t893 true))))) else (some false))) = some r := H
          have A27 := Aside0.mk A270
          clear A270
          replace H := Option.bind_eq_some_iff.mp H
          obtain ⟨t901, A280, H⟩ := H
          replace H : (if t901 = true then ((laws_markFlowS.f kj9 t890 1).bind fun bt902 => (if bt902.1 < 0 then (laws_FnExactFlowsExpire.j1 kj9 l0 a1 t886 t887 t893 true) else ((laws_eqFlowS.f kj9 t893 t886).bind fun t904 => (if t904 = true then (laws_FnExactFlowsExpire.j1 kj9 l0 a1 t886 t887 t893 (t894 != t887)) else (laws_FnExactFlowsExpire.j1 kj9 l0 a1 t886 t887 t893 true))))) else (some false)) = some r := H
          have A28 := Aside0.mk A280
          clear A280
          by_cases c29 : t901 = true
          · subst c29
            have H1 : ((laws_markFlowS.f kj9 t890 1).bind fun bt902 => (if bt902.1 < 0 then (laws_FnExactFlowsExpire.j1 kj9 l0 a1 t886 t887 t893 true) else ((laws_eqFlowS.f kj9 t893 t886).bind fun t904 => (if t904 = true then (laws_FnExactFlowsExpire.j1 kj9 l0 a1 t886 t887 t893 (t894 != t887)) else (laws_FnExactFlowsExpire.j1 kj9 l0 a1 t886 t887 t893 true))))) = some r := by rw [if_pos rfl] at H; exact H
            clear H
            have H := H1
            clear H1
            replace H := Option.bind_eq_some_iff.mp H
            obtain ⟨⟨t902, t903⟩, A300, H⟩ := H
            replace H : (if t902 < 0 then (laws_FnExactFlowsExpire.j1 kj9 l0 a1 t886 t887 t893 true) else ((laws_eqFlowS.f kj9 t893 t886).bind fun t904 => (if t904 = true then (laws_FnExactFlowsExpire.j1 kj9 l0 a1 t886 t887 t893 (t894 != t887)) else (laws_FnExactFlowsExpire.j1 kj9 l0 a1 t886 t887 t893 true)))) = some r := H
            have A30 := Aside0.mk A300
            clear A300
            have HC31 := Aside0.mk H
            clear H
            go_upto_region 14 with (first | ((with_reducible refine gate_callee (f := 28) rfl ?_); refine goesL_ (some 47) rfl rfl Try.func28 (by kernel_rfl) rfl #[.slice A0 l0.length c0] rfl (by (try simp only [List.map_toArray, List.map_cons, List.map_nil]); first | done | rfl | (simp only [List.length_drop, List.length_take]; rfl)) ?_; (with_reducible refine (laws_toFlowS.calls kj9 _ _ l0 t898 _ ?side1 ?side2 A27.out).mono ?_); (case side1 => repeat (first | exact (Kd.C_below HR0.out HB.out) | (with_reducible refine Kd.C_alloc ?_ _) | (with_reducible refine Kd.C_drewN ?_ _) | (with_reducible refine Kd.C_drew ?_))); (case side2 => exact HC0.out); rintro e w32 ⟨v899, rfl, ho0, hb⟩; refine ⟨_, rfl, ?_⟩; have n0_ := Aside0.mk (Kd.R_elder' (by (with_reducible repeat (first | apply Kd.R_alloc | apply Kd.R_drewN | apply Kd.R_drew)); exact HO_6.out) (Kd.R_base ho0) hb); have n1_ := Aside0.mk (Kd.R_elder' (by (with_reducible repeat (first | apply Kd.R_alloc | apply Kd.R_drewN | apply Kd.R_drew)); exact HO_8.out) (Kd.R_base ho0) hb); have n2_ := Aside0.mk (Kd.R_elder' (by (with_reducible repeat (first | apply Kd.R_alloc | apply Kd.R_drewN | apply Kd.R_drew)); exact HO_9.out) (Kd.R_base ho0) hb); have n3_ := Aside0.mk (Kd.R_lower (Kd.R_new' (Kd.R_new' (Kd.R_new' ho0 (Kd.R_lt (by (with_reducible repeat (first | apply Kd.R_alloc | apply Kd.R_drewN | apply Kd.R_drew)); exact HO_6.out))) (Kd.R_lt (by (with_reducible repeat (first | apply Kd.R_alloc | apply Kd.R_drewN | apply Kd.R_drew)); exact HO_8.out))) (Kd.R_lt (by (with_reducible repeat (first | apply Kd.R_alloc | apply Kd.R_drewN | apply Kd.R_drew)); exact HO_9.out))) (below_size (by repeat (first | (with_reducible first | exact HB.out | apply below_alloc | apply pw_below_drewN | apply below_drew1) | exact HB.out)))); have n4_ := Aside0.mk (below_step (by repeat (first | (with_reducible first | exact HB.out | apply below_alloc | apply pw_below_drewN | apply below_drew1) | exact HB.out)) hb); clear HO_6; clear HO_8; clear HO_9; clear HB; have HO_6 := n0_; have HO_8 := n1_; have HO_9 := n2_; have HO900 := n3_; have HB := n4_; clear n0_ n1_ n2_ n3_ n4_; (try clear hb); (try clear hb2); (try clear hk); (try clear hi); (try clear ho0); obtain ⟨Ao33, co33, eo33⟩ := Kd.R_slice HO900.out; subst eo33) | ((with_reducible refine gate_callee (f := 30) rfl ?_); refine goesL_ (some 48) rfl rfl Try.func30 (by kernel_rfl) rfl #[.slice Ao16 t890.length co16, .slice Ao33 t898.length co33] rfl (by (try simp only [List.map_toArray, List.map_cons, List.map_nil]); first | done | rfl | (simp only [List.length_drop, List.length_take]; rfl)) ?_; (with_reducible refine (laws_eqFlowS.calls kj9 _ _ t890 _ _ t898 true _ ?side1 ?side2 ?side3 ?side4 A28.out).mono ?_); (case side1 => repeat (first | exact (Kd.R_reads' HO_8.out).2.2 | (with_reducible refine Kd.C_alloc ?_ _) | (with_reducible refine Kd.C_drewN ?_ _) | (with_reducible refine Kd.C_drew ?_))); (case side2 => exact (Kd.R_reads' HO_8.out).2.1); (case side3 => repeat (first | exact (Kd.R_reads' HO900.out).2.2 | (with_reducible refine Kd.C_alloc ?_ _) | (with_reducible refine Kd.C_drewN ?_ _) | (with_reducible refine Kd.C_drew ?_))); (case side4 => exact (Kd.R_reads' HO900.out).2.1); rintro e w34 ⟨rfl, hb⟩; refine ⟨_, rfl, ?_⟩; have n0_ := Aside0.mk (Kd.R_below (by (with_reducible repeat (first | apply Kd.R_alloc | apply Kd.R_drewN | apply Kd.R_drew)); exact HO_6.out) hb); have n1_ := Aside0.mk (Kd.R_below (by (with_reducible repeat (first | apply Kd.R_alloc | apply Kd.R_drewN | apply Kd.R_drew)); exact HO_8.out) hb); have n2_ := Aside0.mk (Kd.R_below (by (with_reducible repeat (first | apply Kd.R_alloc | apply Kd.R_drewN | apply Kd.R_drew)); exact HO_9.out) hb); have n3_ := Aside0.mk (Kd.R_below (by (with_reducible repeat (first | apply Kd.R_alloc | apply Kd.R_drewN | apply Kd.R_drew)); exact HO900.out) hb); have n4_ := Aside0.mk (below_step (by repeat (first | (with_reducible first | exact HB.out | apply below_alloc | apply pw_below_drewN | apply below_drew1) | exact HB.out)) hb); clear HO_6; clear HO_8; clear HO_9; clear HO900; clear HB; have HO_6 := n0_; have HO_8 := n1_; have HO_9 := n2_; have HO900 := n3_; have HB := n4_; clear n0_ n1_ n2_ n3_ n4_; (try clear hb); (try clear hb2); (try clear hk); (try clear hi)) | ((with_reducible refine gate_callee (f := 47) rfl ?_); refine goesL_ (some 52) rfl rfl Try.func47 (by kernel_rfl) rfl #[.slice Ao16 t890.length co16, .int .i64 1] rfl (by (try simp only [List.map_toArray, List.map_cons, List.map_nil]); first | done | rfl | (simp only [List.length_drop, List.length_take]; rfl)) ?_; (with_reducible refine (laws_markFlowS.calls kj9 (fun k_ => some k_ = (.slice Ao16 t890.length co16 : Value).ownBlock) (.slice Ao16 t890.length co16) t890 1 t902 t903 w _ ?side1 ?side2 A30.out).mono ?_); (case side1 => repeat (first | (with_reducible first | exact HB.out | apply below_alloc | apply pw_below_drewN | apply below_drew1) | exact HB.out)); (case side2 => exact Kd.R_tight rfl HO_8.out); rintro e w35 ⟨rfl, hy0, hb, hkp⟩; refine ⟨_, rfl, ?_⟩; have n0_ := Aside0.mk (Kd.R_mono (ok' := fun k_ => some k_ ≠ (.slice Ao16 t890.length co16 : Value).ownBlock ∧ some k_ ≠ (v895 : Value).ownBlock ∧ some k_ ≠ (.slice Ao33 t898.length co33 : Value).ownBlock) (Kd.R_keptB (HO_6.out) hkp (fun k_ hk_ hs_ => (hk_.1.1) hs_)) (fun k_ hk_ => ⟨hk_.1.1.1, hk_.1.1.2, hk_.1.2⟩)); have n1_ := Aside0.mk (Kd.R_reok rfl hy0 (fun k_ e_ => HO_8.out.1 k_ e_)); have n2_ := Aside0.mk (Kd.R_mono (ok' := fun k_ => some k_ ≠ (v888 : Value).ownBlock ∧ some k_ ≠ (.slice Ao16 t890.length co16 : Value).ownBlock ∧ some k_ ≠ (.slice Ao33 t898.length co33 : Value).ownBlock) (Kd.R_keptB (HO_9.out) hkp (fun k_ hk_ hs_ => (hk_.1.2) hs_)) (fun k_ hk_ => ⟨hk_.1.1.1, hk_.1.1.2, hk_.1.2⟩)); have n3_ := Aside0.mk (Kd.R_mono (ok' := fun k_ => some k_ ≠ (v888 : Value).ownBlock ∧ some k_ ≠ (.slice Ao16 t890.length co16 : Value).ownBlock ∧ some k_ ≠ (v895 : Value).ownBlock) (Kd.R_keptB (HO900.out) hkp (fun k_ hk_ hs_ => (hk_.1.2) hs_)) (fun k_ hk_ => ⟨hk_.1.1.1.2, hk_.1.1.2, hk_.1.2⟩)); have n4_ := Aside0.mk (hb); clear HO_6; clear HO_8; clear HO_9; clear HO900; clear HB; have HO_6 := n0_; have HO_8 := n1_; have HO_9 := n2_; have HO900 := n3_; have HB := n4_; clear n0_ n1_ n2_ n3_ n4_; (try clear hb); (try clear hkp); (try clear hy0)))
            (try simp only [Act.put, List.setIfInBounds_toArray, List.set_cons_zero, List.set_cons_succ])
            go_cut [65] (fun v65 wc => ∃ (kq : Nat) (x65_30 : Bool), v65 = .bool x65_30 ∧ Aside0 (laws_FnExactFlowsExpire.j1 kq l0 a1 t886 t887 t893 x65_30 = some r) ∧ Aside0 (kq ≤ kj9) ∧ Aside0 (Kd.R k71 71 wc w.heap.size (fun k_ => some k_ ≠ (v895 : Value).ownBlock) v888 t886) ∧ Aside0 (Kd.R k71 71 wc w.heap.size (fun k_ => some k_ ≠ (v888 : Value).ownBlock) v895 t893) ∧ Aside0 (Below w.heap.size w wc))
            case first =>
              have H := HC31.out
              clear HC31
              by_cases c36 : t902 < 0
              · rw [if_pos c36] at H
                have c36b0 : decide (t902 < 0) = true := decide_eq_true c36
                clear c36
                (first | rw [c36b0] | (simp only [i64_w, i32_w]; rw [c36b0]) | skip)
                have H' := Aside0.mk H
                clear H
                go_wp2
                go_meet
                case rel => exact ⟨_, (true), (by first | rfl | (simp; done) | (simp [*]; done) | (simp [ne_nil_b]; done) | (simp [ne_nil_b, *]; done)), H', ⟨by have := HJ9.out; first | omega | exact Nat.le_refl _⟩, ⟨by (with_reducible repeat (first | apply Kd.R_alloc | apply Kd.R_drewN | apply Kd.R_drew)); exact Kd.R_mono HO_6.out (fun _ hk => hk.2.1)⟩, ⟨by (with_reducible repeat (first | apply Kd.R_alloc | apply Kd.R_drewN | apply Kd.R_drew)); exact Kd.R_mono HO_9.out (fun _ hk => hk.1)⟩, ⟨by repeat (first | (with_reducible first | exact HB.out | apply below_alloc | apply pw_below_drewN | apply below_drew1) | exact HB.out)⟩⟩
              · rw [if_neg c36] at H
                have c36b0 : decide (t902 < 0) = false := decide_eq_false c36
                clear c36
                (first | rw [c36b0] | (simp only [i64_w, i32_w]; rw [c36b0]) | skip)
                replace H := Option.bind_eq_some_iff.mp H
                obtain ⟨t904, A370, H⟩ := H
                replace H : (if t904 = true then (laws_FnExactFlowsExpire.j1 kj9 l0 a1 t886 t887 t893 (t894 != t887)) else (laws_FnExactFlowsExpire.j1 kj9 l0 a1 t886 t887 t893 true)) = some r := H
                have A37 := Aside0.mk A370
                clear A370
                by_cases c38 : t904 = true
                · subst c38
                  have H1 : (laws_FnExactFlowsExpire.j1 kj9 l0 a1 t886 t887 t893 (t894 != t887)) = some r := by rw [if_pos rfl] at H; exact H
                  clear H
                  have H := H1
                  clear H1
                  have H' := Aside0.mk H
                  clear H
                  obtain ⟨Ao39, co39, eo39⟩ := Kd.R_slice HO_9.out
                  subst eo39
                  obtain ⟨Ao40, co40, eo40⟩ := Kd.R_slice HO_6.out
                  subst eo40
                  go_wp2_with (first | (go_at_call 30; (with_reducible refine (laws_eqFlowS.calls kj9 _ _ t893 _ _ t886 true _ ?side1 ?side2 ?side3 ?side4 A37.out).mono ?_); (case side1 => repeat (first | exact (Kd.R_reads' HO_9.out).2.2 | (with_reducible refine Kd.C_alloc ?_ _) | (with_reducible refine Kd.C_drewN ?_ _) | (with_reducible refine Kd.C_drew ?_))); (case side2 => exact (Kd.R_reads' HO_9.out).2.1); (case side3 => repeat (first | exact (Kd.R_reads' HO_6.out).2.2 | (with_reducible refine Kd.C_alloc ?_ _) | (with_reducible refine Kd.C_drewN ?_ _) | (with_reducible refine Kd.C_drew ?_))); (case side4 => exact (Kd.R_reads' HO_6.out).2.1); rintro e w41 ⟨rfl, hb⟩; have n0_ := Aside0.mk (Kd.R_below (by (with_reducible repeat (first | apply Kd.R_alloc | apply Kd.R_drewN | apply Kd.R_drew)); exact HO_6.out) hb); have n1_ := Aside0.mk (Kd.R_below (by (with_reducible repeat (first | apply Kd.R_alloc | apply Kd.R_drewN | apply Kd.R_drew)); exact HO_8.out) hb); have n2_ := Aside0.mk (Kd.R_below (by (with_reducible repeat (first | apply Kd.R_alloc | apply Kd.R_drewN | apply Kd.R_drew)); exact HO_9.out) hb); have n3_ := Aside0.mk (Kd.R_below (by (with_reducible repeat (first | apply Kd.R_alloc | apply Kd.R_drewN | apply Kd.R_drew)); exact HO900.out) hb); have n4_ := Aside0.mk (below_step (by repeat (first | (with_reducible first | exact HB.out | apply below_alloc | apply pw_below_drewN | apply below_drew1) | exact HB.out)) hb); clear HO_6; clear HO_8; clear HO_9; clear HO900; clear HB; have HO_6 := n0_; have HO_8 := n1_; have HO_9 := n2_; have HO900 := n3_; have HB := n4_; clear n0_ n1_ n2_ n3_ n4_; (try clear hb); (try clear hb2); (try clear hk); (try clear hi)))
                  go_meet
                  case rel => exact ⟨_, ((t894 != t887)), (by first | rfl | (simp; done) | (simp [*]; done) | (simp [ne_nil_b]; done) | (simp [ne_nil_b, *]; done)), H', ⟨by have := HJ9.out; first | omega | exact Nat.le_refl _⟩, ⟨by (with_reducible repeat (first | apply Kd.R_alloc | apply Kd.R_drewN | apply Kd.R_drew)); exact Kd.R_mono HO_6.out (fun _ hk => hk.2.1)⟩, ⟨by (with_reducible repeat (first | apply Kd.R_alloc | apply Kd.R_drewN | apply Kd.R_drew)); exact Kd.R_mono HO_9.out (fun _ hk => hk.1)⟩, ⟨by repeat (first | (with_reducible first | exact HB.out | apply below_alloc | apply pw_below_drewN | apply below_drew1) | exact HB.out)⟩⟩
                · replace c38 := Bool.eq_false_iff.mpr c38
                  subst c38
                  have H1 : (laws_FnExactFlowsExpire.j1 kj9 l0 a1 t886 t887 t893 true) = some r := by rw [if_neg (show ¬ (false = true) by decide)] at H; exact H
                  clear H
                  have H := H1
                  clear H1
                  have H' := Aside0.mk H
                  clear H
                  obtain ⟨Ao42, co42, eo42⟩ := Kd.R_slice HO_9.out
                  subst eo42
                  obtain ⟨Ao43, co43, eo43⟩ := Kd.R_slice HO_6.out
                  subst eo43
                  go_wp2_with (first | (go_at_call 30; (with_reducible refine (laws_eqFlowS.calls kj9 _ _ t893 _ _ t886 false _ ?side1 ?side2 ?side3 ?side4 A37.out).mono ?_); (case side1 => repeat (first | exact (Kd.R_reads' HO_9.out).2.2 | (with_reducible refine Kd.C_alloc ?_ _) | (with_reducible refine Kd.C_drewN ?_ _) | (with_reducible refine Kd.C_drew ?_))); (case side2 => exact (Kd.R_reads' HO_9.out).2.1); (case side3 => repeat (first | exact (Kd.R_reads' HO_6.out).2.2 | (with_reducible refine Kd.C_alloc ?_ _) | (with_reducible refine Kd.C_drewN ?_ _) | (with_reducible refine Kd.C_drew ?_))); (case side4 => exact (Kd.R_reads' HO_6.out).2.1); rintro e w44 ⟨rfl, hb⟩; have n0_ := Aside0.mk (Kd.R_below (by (with_reducible repeat (first | apply Kd.R_alloc | apply Kd.R_drewN | apply Kd.R_drew)); exact HO_6.out) hb); have n1_ := Aside0.mk (Kd.R_below (by (with_reducible repeat (first | apply Kd.R_alloc | apply Kd.R_drewN | apply Kd.R_drew)); exact HO_8.out) hb); have n2_ := Aside0.mk (Kd.R_below (by (with_reducible repeat (first | apply Kd.R_alloc | apply Kd.R_drewN | apply Kd.R_drew)); exact HO_9.out) hb); have n3_ := Aside0.mk (Kd.R_below (by (with_reducible repeat (first | apply Kd.R_alloc | apply Kd.R_drewN | apply Kd.R_drew)); exact HO900.out) hb); have n4_ := Aside0.mk (below_step (by repeat (first | (with_reducible first | exact HB.out | apply below_alloc | apply pw_below_drewN | apply below_drew1) | exact HB.out)) hb); clear HO_6; clear HO_8; clear HO_9; clear HO900; clear HB; have HO_6 := n0_; have HO_8 := n1_; have HO_9 := n2_; have HO900 := n3_; have HB := n4_; clear n0_ n1_ n2_ n3_ n4_; (try clear hb); (try clear hb2); (try clear hk); (try clear hi)))
                  go_meet
                  case rel => exact ⟨_, (true), (by first | rfl | (simp; done) | (simp [*]; done) | (simp [ne_nil_b]; done) | (simp [ne_nil_b, *]; done)), H', ⟨by have := HJ9.out; first | omega | exact Nat.le_refl _⟩, ⟨by (with_reducible repeat (first | apply Kd.R_alloc | apply Kd.R_drewN | apply Kd.R_drew)); exact Kd.R_mono HO_6.out (fun _ hk => hk.2.1)⟩, ⟨by (with_reducible repeat (first | apply Kd.R_alloc | apply Kd.R_drewN | apply Kd.R_drew)); exact Kd.R_mono HO_9.out (fun _ hk => hk.1)⟩, ⟨by repeat (first | (with_reducible first | exact HB.out | apply below_alloc | apply pw_below_drewN | apply below_drew1) | exact HB.out)⟩⟩
            case rest =>
              clear HC31
              try clear c1
              try clear c2
              try clear p2
              try clear c3
              try clear c4
              try clear c4b0
              try clear c12
              try clear c19
              try clear c26
              try clear c28
              try clear c29
              try clear c30
              try clear c36
              try clear c36b0
              try clear c38
              try clear p2
              obtain ⟨kq, x65_30, rfl, HA, HJ30, HO_6, HO_9, HB⟩ := hcut
              cases kq with
              | zero => exact absurd HA.out (by simp [laws_FnExactFlowsExpire.j1])
              | succ kj30 =>
                have H := HA.out
                clear HA
                simp only [laws_FnExactFlowsExpire.j1] at H
                by_cases c45 : x65_30 = true
                · subst c45
                  have H1 : (some false) = some r := by rw [if_pos rfl] at H; exact H
                  clear H
                  have H := H1
                  clear H1
                  obtain rfl := Option.some.inj H
                  go_wp2
                  go_ret
                  exact ⟨by first | rfl | (simp [errW_none, errW_some] <;> rfl) | (simp [*, errW_none, errW_some] <;> rfl), by repeat (first | (with_reducible first | exact HB.out | apply below_alloc | apply pw_below_drewN | apply below_drew1) | exact HB.out)⟩
                · replace c45 := Bool.eq_false_iff.mpr c45
                  subst c45
                  have H1 : ((laws_markFlowS.f kj30 t893 1).bind fun bt905 => ((laws_heldFlowS.f kj30 bt905.2 1).bind fun t907 => (if t907 < 0 then (some false) else (if t907 = bt905.1 then ((laws_toFlowS.f kj30 l0).bind fun t908 => ((impl_FlowsExpire.f kj30 t908 a1).bind fun bt911 => ((laws_eqFlowS.f kj30 bt911.1 t886).bind fun t915 => (if t915 = true then (laws_FnExactFlowsExpire.j2 kj30 bt905.2 bt905.1 (bt911.2 != t887)) else (laws_FnExactFlowsExpire.j2 kj30 bt905.2 bt905.1 true))))) else (some false))))) = some r := by rw [if_neg (show ¬ (false = true) by decide)] at H; exact H
                  clear H
                  have H := H1
                  clear H1
                  replace H := Option.bind_eq_some_iff.mp H
                  obtain ⟨⟨t905, t906⟩, A460, H⟩ := H
                  replace H : ((laws_heldFlowS.f kj30 t906 1).bind fun t907 => (if t907 < 0 then (some false) else (if t907 = t905 then ((laws_toFlowS.f kj30 l0).bind fun t908 => ((impl_FlowsExpire.f kj30 t908 a1).bind fun bt911 => ((laws_eqFlowS.f kj30 bt911.1 t886).bind fun t915 => (if t915 = true then (laws_FnExactFlowsExpire.j2 kj30 t906 t905 (bt911.2 != t887)) else (laws_FnExactFlowsExpire.j2 kj30 t906 t905 true))))) else (some false)))) = some r := H
                  have A46 := Aside0.mk A460
                  clear A460
                  replace H := Option.bind_eq_some_iff.mp H
                  obtain ⟨t907, A470, H⟩ := H
                  replace H : (if t907 < 0 then (some false) else (if t907 = t905 then ((laws_toFlowS.f kj30 l0).bind fun t908 => ((impl_FlowsExpire.f kj30 t908 a1).bind fun bt911 => ((laws_eqFlowS.f kj30 bt911.1 t886).bind fun t915 => (if t915 = true then (laws_FnExactFlowsExpire.j2 kj30 t906 t905 (bt911.2 != t887)) else (laws_FnExactFlowsExpire.j2 kj30 t906 t905 true))))) else (some false))) = some r := H
                  have A47 := Aside0.mk A470
                  clear A470
                  by_cases c48 : t907 < 0
                  · rw [if_pos c48] at H
                    have c48b0 : decide (t907 < 0) = true := decide_eq_true c48
                    clear c48
                    obtain rfl := Option.some.inj H
                    obtain ⟨Ao49, co49, eo49⟩ := Kd.R_slice HO_9.out
                    subst eo49
                    go_wp2_with (first | ((with_reducible refine gate_callee (f := 47) rfl ?_); refine goesL_ (some 68) rfl rfl Try.func47 (by kernel_rfl) rfl #[.slice Ao49 t893.length co49, .int .i64 1] rfl (by (try simp only [List.map_toArray, List.map_cons, List.map_nil]); first | done | rfl | (simp only [List.length_drop, List.length_take]; rfl)) ?_; (with_reducible refine (laws_markFlowS.calls kj30 (fun k_ => some k_ = (.slice Ao49 t893.length co49 : Value).ownBlock) (.slice Ao49 t893.length co49) t893 1 t905 t906 w _ ?side1 ?side2 A46.out).mono ?_); (case side1 => repeat (first | (with_reducible first | exact HB.out | apply below_alloc | apply pw_below_drewN | apply below_drew1) | exact HB.out)); (case side2 => exact Kd.R_tight rfl HO_9.out); rintro e w50 ⟨rfl, hy0, hb, hkp⟩; refine ⟨_, rfl, ?_⟩; have n0_ := Aside0.mk (Kd.R_mono (ok' := fun k_ => some k_ ≠ (.slice Ao49 t893.length co49 : Value).ownBlock) (Kd.R_keptB (HO_6.out) hkp (fun k_ hk_ hs_ => (hk_) hs_)) (fun k_ hk_ => hk_.1)); have n1_ := Aside0.mk (Kd.R_reok rfl hy0 (fun k_ e_ => HO_9.out.1 k_ e_)); have n2_ := Aside0.mk (hb); clear HO_6; clear HO_9; clear HB; have HO_6 := n0_; have HO_9 := n1_; have HB := n2_; clear n0_ n1_ n2_; (try clear hb); (try clear hkp); (try clear hy0)) | ((with_reducible refine gate_callee (f := 48) rfl ?_); refine goesL_ (some 71) rfl rfl Try.func48 (by kernel_rfl) rfl #[.slice Ao49 t906.length co49, .int .i64 1] rfl (by (try simp only [List.map_toArray, List.map_cons, List.map_nil]); first | done | (rw [show t906.length = t893.length from (Kd.R_reads' HO_9.out).1.symm] <;> rfl) | rfl | (simp only [List.length_drop, List.length_take]; rfl)) ?_; (with_reducible refine (laws_heldFlowS.calls kj30 _ _ t906 1 t907 _ ?side1 ?side2 A47.out).mono ?_); (case side1 => repeat (first | exact (Kd.R_reads' HO_9.out).2.2 | (with_reducible refine Kd.C_alloc ?_ _) | (with_reducible refine Kd.C_drewN ?_ _) | (with_reducible refine Kd.C_drew ?_))); (case side2 => rw [show t906.length = t893.length from (Kd.R_reads' HO_9.out).1.symm]; exact (Kd.R_reads' HO_9.out).2.1); rintro e w51 ⟨rfl, hb⟩; refine ⟨_, rfl, ?_⟩; have n0_ := Aside0.mk (Kd.R_below (by (with_reducible repeat (first | apply Kd.R_alloc | apply Kd.R_drewN | apply Kd.R_drew)); exact HO_6.out) hb); have n1_ := Aside0.mk (Kd.R_below (by (with_reducible repeat (first | apply Kd.R_alloc | apply Kd.R_drewN | apply Kd.R_drew)); exact HO_9.out) hb); have n2_ := Aside0.mk (below_step (by repeat (first | (with_reducible first | exact HB.out | apply below_alloc | apply pw_below_drewN | apply below_drew1) | exact HB.out)) hb); clear HO_6; clear HO_9; clear HB; have HO_6 := n0_; have HO_9 := n1_; have HB := n2_; clear n0_ n1_ n2_; (try clear hb); (try clear hb2); (try clear hk); (try clear hi)))
                    go_ret
                    exact ⟨by first | rfl | (simp [errW_none, errW_some] <;> rfl) | (simp [*, errW_none, errW_some] <;> rfl), by repeat (first | (with_reducible first | exact HB.out | apply below_alloc | apply pw_below_drewN | apply below_drew1) | exact HB.out)⟩
                  · rw [if_neg c48] at H
                    have c48b0 : decide (t907 < 0) = false := decide_eq_false c48
                    clear c48
                    by_cases c52 : t907 = t905
                    · rw [if_pos c52] at H
                      have c52b0 : (t907 == t905) = true := beq_iff_eq.mpr c52
                      have c52b1 : (t907 != t905) = false := bne_eq_false_iff_eq.mpr c52
                      clear c52
                      replace H := Option.bind_eq_some_iff.mp H
                      obtain ⟨t908, A530, H⟩ := H
                      replace H : ((impl_FlowsExpire.f kj30 t908 a1).bind fun bt911 => ((laws_eqFlowS.f kj30 bt911.1 t886).bind fun t915 => (if t915 = true then (laws_FnExactFlowsExpire.j2 kj30 t906 t905 (bt911.2 != t887)) else (laws_FnExactFlowsExpire.j2 kj30 t906 t905 true)))) = some r := H
                      have A53 := Aside0.mk A530
                      clear A530
                      replace H := Option.bind_eq_some_iff.mp H
                      obtain ⟨⟨t911, t912⟩, A540, H⟩ := H
                      replace H : ((laws_eqFlowS.f kj30 t911 t886).bind fun t915 => (if t915 = true then (laws_FnExactFlowsExpire.j2 kj30 t906 t905 (t912 != t887)) else (laws_FnExactFlowsExpire.j2 kj30 t906 t905 true))) = some r := H
                      have A54 := Aside0.mk A540
                      clear A540
                      have HC55 := Aside0.mk H
                      clear H
                      obtain ⟨Ao56, co56, eo56⟩ := Kd.R_slice HO_9.out
                      subst eo56
                      go_upto_region 25 with (first | ((with_reducible refine gate_callee (f := 47) rfl ?_); refine goesL_ (some 68) rfl rfl Try.func47 (by kernel_rfl) rfl #[.slice Ao56 t893.length co56, .int .i64 1] rfl (by (try simp only [List.map_toArray, List.map_cons, List.map_nil]); first | done | rfl | (simp only [List.length_drop, List.length_take]; rfl)) ?_; (with_reducible refine (laws_markFlowS.calls kj30 (fun k_ => some k_ = (.slice Ao56 t893.length co56 : Value).ownBlock) (.slice Ao56 t893.length co56) t893 1 t905 t906 w _ ?side1 ?side2 A46.out).mono ?_); (case side1 => repeat (first | (with_reducible first | exact HB.out | apply below_alloc | apply pw_below_drewN | apply below_drew1) | exact HB.out)); (case side2 => exact Kd.R_tight rfl HO_9.out); rintro e w57 ⟨rfl, hy0, hb, hkp⟩; refine ⟨_, rfl, ?_⟩; have n0_ := Aside0.mk (Kd.R_mono (ok' := fun k_ => some k_ ≠ (.slice Ao56 t893.length co56 : Value).ownBlock) (Kd.R_keptB (HO_6.out) hkp (fun k_ hk_ hs_ => (hk_) hs_)) (fun k_ hk_ => hk_.1)); have n1_ := Aside0.mk (Kd.R_reok rfl hy0 (fun k_ e_ => HO_9.out.1 k_ e_)); have n2_ := Aside0.mk (hb); clear HO_6; clear HO_9; clear HB; have HO_6 := n0_; have HO_9 := n1_; have HB := n2_; clear n0_ n1_ n2_; (try clear hb); (try clear hkp); (try clear hy0)) | ((with_reducible refine gate_callee (f := 48) rfl ?_); refine goesL_ (some 71) rfl rfl Try.func48 (by kernel_rfl) rfl #[.slice Ao56 t906.length co56, .int .i64 1] rfl (by (try simp only [List.map_toArray, List.map_cons, List.map_nil]); first | done | (rw [show t906.length = t893.length from (Kd.R_reads' HO_9.out).1.symm] <;> rfl) | rfl | (simp only [List.length_drop, List.length_take]; rfl)) ?_; (with_reducible refine (laws_heldFlowS.calls kj30 _ _ t906 1 t907 _ ?side1 ?side2 A47.out).mono ?_); (case side1 => repeat (first | exact (Kd.R_reads' HO_9.out).2.2 | (with_reducible refine Kd.C_alloc ?_ _) | (with_reducible refine Kd.C_drewN ?_ _) | (with_reducible refine Kd.C_drew ?_))); (case side2 => rw [show t906.length = t893.length from (Kd.R_reads' HO_9.out).1.symm]; exact (Kd.R_reads' HO_9.out).2.1); rintro e w58 ⟨rfl, hb⟩; refine ⟨_, rfl, ?_⟩; have n0_ := Aside0.mk (Kd.R_below (by (with_reducible repeat (first | apply Kd.R_alloc | apply Kd.R_drewN | apply Kd.R_drew)); exact HO_6.out) hb); have n1_ := Aside0.mk (Kd.R_below (by (with_reducible repeat (first | apply Kd.R_alloc | apply Kd.R_drewN | apply Kd.R_drew)); exact HO_9.out) hb); have n2_ := Aside0.mk (below_step (by repeat (first | (with_reducible first | exact HB.out | apply below_alloc | apply pw_below_drewN | apply below_drew1) | exact HB.out)) hb); clear HO_6; clear HO_9; clear HB; have HO_6 := n0_; have HO_9 := n1_; have HB := n2_; clear n0_ n1_ n2_; (try clear hb); (try clear hb2); (try clear hk); (try clear hi)) | ((with_reducible refine gate_callee (f := 28) rfl ?_); refine goesL_ (some 79) rfl rfl Try.func28 (by kernel_rfl) rfl #[.slice A0 l0.length c0] rfl (by (try simp only [List.map_toArray, List.map_cons, List.map_nil]); first | done | rfl | (simp only [List.length_drop, List.length_take]; rfl)) ?_; (with_reducible refine (laws_toFlowS.calls kj30 _ _ l0 t908 _ ?side1 ?side2 A53.out).mono ?_); (case side1 => repeat (first | exact (Kd.C_below HR0.out HB.out) | (with_reducible refine Kd.C_alloc ?_ _) | (with_reducible refine Kd.C_drewN ?_ _) | (with_reducible refine Kd.C_drew ?_))); (case side2 => exact HC0.out); rintro e w59 ⟨v909, rfl, ho0, hb⟩; refine ⟨_, rfl, ?_⟩; have n0_ := Aside0.mk (Kd.R_elder' (by (with_reducible repeat (first | apply Kd.R_alloc | apply Kd.R_drewN | apply Kd.R_drew)); exact HO_6.out) (Kd.R_base ho0) hb); have n1_ := Aside0.mk (Kd.R_elder' (by (with_reducible repeat (first | apply Kd.R_alloc | apply Kd.R_drewN | apply Kd.R_drew)); exact HO_9.out) (Kd.R_base ho0) hb); have n2_ := Aside0.mk (Kd.R_lower (Kd.R_new' (Kd.R_new' ho0 (Kd.R_lt (by (with_reducible repeat (first | apply Kd.R_alloc | apply Kd.R_drewN | apply Kd.R_drew)); exact HO_6.out))) (Kd.R_lt (by (with_reducible repeat (first | apply Kd.R_alloc | apply Kd.R_drewN | apply Kd.R_drew)); exact HO_9.out))) (below_size (by repeat (first | (with_reducible first | exact HB.out | apply below_alloc | apply pw_below_drewN | apply below_drew1) | exact HB.out)))); have n3_ := Aside0.mk (below_step (by repeat (first | (with_reducible first | exact HB.out | apply below_alloc | apply pw_below_drewN | apply below_drew1) | exact HB.out)) hb); clear HO_6; clear HO_9; clear HB; have HO_6 := n0_; have HO_9 := n1_; have HO910 := n2_; have HB := n3_; clear n0_ n1_ n2_ n3_; (try clear hb); (try clear hb2); (try clear hk); (try clear hi); (try clear ho0); obtain ⟨Ao60, co60, eo60⟩ := Kd.R_slice HO910.out; subst eo60) | ((with_reducible refine gate_callee (f := 46) rfl ?_); refine goesL_ (some 81) rfl rfl Try.func46 (by kernel_rfl) rfl #[.slice Ao60 t908.length co60, .int .i64 a1] rfl (by (try simp only [List.map_toArray, List.map_cons, List.map_nil]); first | done | rfl | (simp only [List.length_drop, List.length_take]; rfl)) ?_; (with_reducible refine (impl_FlowsExpire.calls kj30 _ _ t908 a1 t911 t912 _ ?side1 ?side2 A54.out).mono ?_); (case side1 => repeat (first | exact (Kd.R_reads' HO910.out).2.2 | (with_reducible refine Kd.C_alloc ?_ _) | (with_reducible refine Kd.C_drewN ?_ _) | (with_reducible refine Kd.C_drew ?_))); (case side2 => exact (Kd.R_reads' HO910.out).2.1); rintro e w61 ⟨v913, rfl, ho0, hb⟩; refine ⟨_, rfl, ?_⟩; have n0_ := Aside0.mk (Kd.R_elder' (by (with_reducible repeat (first | apply Kd.R_alloc | apply Kd.R_drewN | apply Kd.R_drew)); exact HO_6.out) (Kd.R_base ho0) hb); have n1_ := Aside0.mk (Kd.R_elder' (by (with_reducible repeat (first | apply Kd.R_alloc | apply Kd.R_drewN | apply Kd.R_drew)); exact HO_9.out) (Kd.R_base ho0) hb); have n2_ := Aside0.mk (Kd.R_elder' (by (with_reducible repeat (first | apply Kd.R_alloc | apply Kd.R_drewN | apply Kd.R_drew)); exact HO910.out) (Kd.R_base ho0) hb); have n3_ := Aside0.mk (Kd.R_lower (Kd.R_new' (Kd.R_new' (Kd.R_new' ho0 (Kd.R_lt (by (with_reducible repeat (first | apply Kd.R_alloc | apply Kd.R_drewN | apply Kd.R_drew)); exact HO_6.out))) (Kd.R_lt (by (with_reducible repeat (first | apply Kd.R_alloc | apply Kd.R_drewN | apply Kd.R_drew)); exact HO_9.out))) (Kd.R_lt (by (with_reducible repeat (first | apply Kd.R_alloc | apply Kd.R_drewN | apply Kd.R_drew)); exact HO910.out))) (below_size (by repeat (first | (with_reducible first | exact HB.out | apply below_alloc | apply pw_below_drewN | apply below_drew1) | exact HB.out)))); have n4_ := Aside0.mk (below_step (by repeat (first | (with_reducible first | exact HB.out | apply below_alloc | apply pw_below_drewN | apply below_drew1) | exact HB.out)) hb); clear HO_6; clear HO_9; clear HO910; clear HB; have HO_6 := n0_; have HO_9 := n1_; have HO910 := n2_; have HO914 := n3_; have HB := n4_; clear n0_ n1_ n2_ n3_ n4_; (try clear hb); (try clear hb2); (try clear hk); (try clear hi); (try clear ho0)))
                      (try simp only [Act.put, List.setIfInBounds_toArray, List.set_cons_zero, List.set_cons_succ])
                      go_cut [92] (fun v92 wc => ∃ (kq : Nat) (x92_54 : Bool), v92 = .bool x92_54 ∧ Aside0 (laws_FnExactFlowsExpire.j2 kq t906 t905 x92_54 = some r) ∧ Aside0 (kq ≤ kj30) ∧ Aside0 (Kd.R k71 71 wc w.heap.size (fun _ => True) (.slice Ao56 t893.length co56) t906) ∧ Aside0 (Below w.heap.size w wc))
                      case first =>
                        have H := HC55.out
                        clear HC55
                        replace H := Option.bind_eq_some_iff.mp H
                        obtain ⟨t915, A620, H⟩ := H
                        replace H : (if t915 = true then (laws_FnExactFlowsExpire.j2 kj30 t906 t905 (t912 != t887)) else (laws_FnExactFlowsExpire.j2 kj30 t906 t905 true)) = some r := H
                        have A62 := Aside0.mk A620
                        clear A620
                        by_cases c63 : t915 = true
                        · subst c63
                          have H1 : (laws_FnExactFlowsExpire.j2 kj30 t906 t905 (t912 != t887)) = some r := by rw [if_pos rfl] at H; exact H
                          clear H
                          have H := H1
                          clear H1
                          have H' := Aside0.mk H
                          clear H
                          obtain ⟨Ao64, co64, eo64⟩ := Kd.R_slice HO914.out
                          subst eo64
                          obtain ⟨Ao65, co65, eo65⟩ := Kd.R_slice HO_6.out
                          subst eo65
                          go_wp2_with (first | ((with_reducible refine gate_callee (f := 30) rfl ?_); refine goesL_ (some 86) rfl rfl Try.func30 (by kernel_rfl) rfl #[.slice Ao64 t911.length co64, .slice Ao65 t886.length co65] rfl (by (try simp only [List.map_toArray, List.map_cons, List.map_nil]); first | done | rfl | (simp only [List.length_drop, List.length_take]; rfl)) ?_; (with_reducible refine (laws_eqFlowS.calls kj30 _ _ t911 _ _ t886 true _ ?side1 ?side2 ?side3 ?side4 A62.out).mono ?_); (case side1 => repeat (first | exact (Kd.R_reads' HO914.out).2.2 | (with_reducible refine Kd.C_alloc ?_ _) | (with_reducible refine Kd.C_drewN ?_ _) | (with_reducible refine Kd.C_drew ?_))); (case side2 => exact (Kd.R_reads' HO914.out).2.1); (case side3 => repeat (first | exact (Kd.R_reads' HO_6.out).2.2 | (with_reducible refine Kd.C_alloc ?_ _) | (with_reducible refine Kd.C_drewN ?_ _) | (with_reducible refine Kd.C_drew ?_))); (case side4 => exact (Kd.R_reads' HO_6.out).2.1); rintro e w66 ⟨rfl, hb⟩; refine ⟨_, rfl, ?_⟩; have n0_ := Aside0.mk (Kd.R_below (by (with_reducible repeat (first | apply Kd.R_alloc | apply Kd.R_drewN | apply Kd.R_drew)); exact HO_6.out) hb); have n1_ := Aside0.mk (Kd.R_below (by (with_reducible repeat (first | apply Kd.R_alloc | apply Kd.R_drewN | apply Kd.R_drew)); exact HO_9.out) hb); have n2_ := Aside0.mk (Kd.R_below (by (with_reducible repeat (first | apply Kd.R_alloc | apply Kd.R_drewN | apply Kd.R_drew)); exact HO910.out) hb); have n3_ := Aside0.mk (Kd.R_below (by (with_reducible repeat (first | apply Kd.R_alloc | apply Kd.R_drewN | apply Kd.R_drew)); exact HO914.out) hb); have n4_ := Aside0.mk (below_step (by repeat (first | (with_reducible first | exact HB.out | apply below_alloc | apply pw_below_drewN | apply below_drew1) | exact HB.out)) hb); clear HO_6; clear HO_9; clear HO910; clear HO914; clear HB; have HO_6 := n0_; have HO_9 := n1_; have HO910 := n2_; have HO914 := n3_; have HB := n4_; clear n0_ n1_ n2_ n3_ n4_; (try clear hb); (try clear hb2); (try clear hk); (try clear hi)))
                          go_meet
                          case rel => exact ⟨_, ((t912 != t887)), (by first | rfl | (simp; done) | (simp [*]; done) | (simp [ne_nil_b]; done) | (simp [ne_nil_b, *]; done)), H', ⟨by have := HJ9.out; have := HJ30.out; first | omega | exact Nat.le_refl _⟩, ⟨by (with_reducible repeat (first | apply Kd.R_alloc | apply Kd.R_drewN | apply Kd.R_drew)); exact Kd.R_mono HO_9.out (fun _ hk => trivial)⟩, ⟨by repeat (first | (with_reducible first | exact HB.out | apply below_alloc | apply pw_below_drewN | apply below_drew1) | exact HB.out)⟩⟩
                        · replace c63 := Bool.eq_false_iff.mpr c63
                          subst c63
                          have H1 : (laws_FnExactFlowsExpire.j2 kj30 t906 t905 true) = some r := by rw [if_neg (show ¬ (false = true) by decide)] at H; exact H
                          clear H
                          have H := H1
                          clear H1
                          have H' := Aside0.mk H
                          clear H
                          obtain ⟨Ao67, co67, eo67⟩ := Kd.R_slice HO914.out
                          subst eo67
                          obtain ⟨Ao68, co68, eo68⟩ := Kd.R_slice HO_6.out
                          subst eo68
                          go_wp2_with (first | ((with_reducible refine gate_callee (f := 30) rfl ?_); refine goesL_ (some 86) rfl rfl Try.func30 (by kernel_rfl) rfl #[.slice Ao67 t911.length co67, .slice Ao68 t886.length co68] rfl (by (try simp only [List.map_toArray, List.map_cons, List.map_nil]); first | done | rfl | (simp only [List.length_drop, List.length_take]; rfl)) ?_; (with_reducible refine (laws_eqFlowS.calls kj30 _ _ t911 _ _ t886 false _ ?side1 ?side2 ?side3 ?side4 A62.out).mono ?_); (case side1 => repeat (first | exact (Kd.R_reads' HO914.out).2.2 | (with_reducible refine Kd.C_alloc ?_ _) | (with_reducible refine Kd.C_drewN ?_ _) | (with_reducible refine Kd.C_drew ?_))); (case side2 => exact (Kd.R_reads' HO914.out).2.1); (case side3 => repeat (first | exact (Kd.R_reads' HO_6.out).2.2 | (with_reducible refine Kd.C_alloc ?_ _) | (with_reducible refine Kd.C_drewN ?_ _) | (with_reducible refine Kd.C_drew ?_))); (case side4 => exact (Kd.R_reads' HO_6.out).2.1); rintro e w69 ⟨rfl, hb⟩; refine ⟨_, rfl, ?_⟩; have n0_ := Aside0.mk (Kd.R_below (by (with_reducible repeat (first | apply Kd.R_alloc | apply Kd.R_drewN | apply Kd.R_drew)); exact HO_6.out) hb); have n1_ := Aside0.mk (Kd.R_below (by (with_reducible repeat (first | apply Kd.R_alloc | apply Kd.R_drewN | apply Kd.R_drew)); exact HO_9.out) hb); have n2_ := Aside0.mk (Kd.R_below (by (with_reducible repeat (first | apply Kd.R_alloc | apply Kd.R_drewN | apply Kd.R_drew)); exact HO910.out) hb); have n3_ := Aside0.mk (Kd.R_below (by (with_reducible repeat (first | apply Kd.R_alloc | apply Kd.R_drewN | apply Kd.R_drew)); exact HO914.out) hb); have n4_ := Aside0.mk (below_step (by repeat (first | (with_reducible first | exact HB.out | apply below_alloc | apply pw_below_drewN | apply below_drew1) | exact HB.out)) hb); clear HO_6; clear HO_9; clear HO910; clear HO914; clear HB; have HO_6 := n0_; have HO_9 := n1_; have HO910 := n2_; have HO914 := n3_; have HB := n4_; clear n0_ n1_ n2_ n3_ n4_; (try clear hb); (try clear hb2); (try clear hk); (try clear hi)))
                          go_meet
                          case rel => exact ⟨_, (true), (by first | rfl | (simp; done) | (simp [*]; done) | (simp [ne_nil_b]; done) | (simp [ne_nil_b, *]; done)), H', ⟨by have := HJ9.out; have := HJ30.out; first | omega | exact Nat.le_refl _⟩, ⟨by (with_reducible repeat (first | apply Kd.R_alloc | apply Kd.R_drewN | apply Kd.R_drew)); exact Kd.R_mono HO_9.out (fun _ hk => trivial)⟩, ⟨by repeat (first | (with_reducible first | exact HB.out | apply below_alloc | apply pw_below_drewN | apply below_drew1) | exact HB.out)⟩⟩
                      case rest =>
                        clear HC55
                        try clear c1
                        try clear c2
                        try clear p2
                        try clear c3
                        try clear c4
                        try clear c4b0
                        try clear c5
                        try clear c6
                        try clear c12
                        try clear c19
                        try clear c26
                        try clear c28
                        try clear c29
                        try clear c30
                        try clear c36
                        try clear c36b0
                        try clear c38
                        try clear c45
                        try clear c46
                        try clear c47
                        try clear c48
                        try clear c48b0
                        try clear c52
                        try clear c52b0
                        try clear c52b1
                        try clear c63
                        try clear p2
                        obtain ⟨kq, x92_54, rfl, HA, HJ54, HO_9, HB⟩ := hcut
                        have hl9_54 := (Kd.R_reads' HO_9.out).1
                        rw [hl9_54] at HO_9
                        (try simp only [hl9_54])
                        cases kq with
                        | zero => exact absurd HA.out (by simp [laws_FnExactFlowsExpire.j2])
                        | succ kj54 =>
                          have H := HA.out
                          clear HA
                          simp only [laws_FnExactFlowsExpire.j2] at H
                          by_cases c70 : x92_54 = true
                          · subst c70
                            have H1 : (some false) = some r := by rw [if_pos rfl] at H; exact H
                            clear H
                            have H := H1
                            clear H1
                            obtain rfl := Option.some.inj H
                            go_wp2
                            go_ret
                            exact ⟨by first | rfl | (simp [errW_none, errW_some] <;> rfl) | (simp [*, errW_none, errW_some] <;> rfl), by repeat (first | (with_reducible first | exact HB.out | apply below_alloc | apply pw_below_drewN | apply below_drew1) | exact HB.out)⟩
                          · replace c70 := Bool.eq_false_iff.mpr c70
                            subst c70
                            have H1 : ((laws_heldFlowS.f kj54 t906 1).bind fun t916 => (if t916 < 0 then (some false) else (if t916 = t905 then (some true) else (some false)))) = some r := by rw [if_neg (show ¬ (false = true) by decide)] at H; exact H
                            clear H
                            have H := H1
                            clear H1
                            replace H := Option.bind_eq_some_iff.mp H
                            obtain ⟨t916, A710, H⟩ := H
                            replace H : (if t916 < 0 then (some false) else (if t916 = t905 then (some true) else (some false))) = some r := H
                            have A71 := Aside0.mk A710
                            clear A710
                            by_cases c72 : t916 < 0
                            · rw [if_pos c72] at H
                              have c72b0 : decide (t916 < 0) = true := decide_eq_true c72
                              clear c72
                              obtain rfl := Option.some.inj H
                              go_wp2_with (first | ((with_reducible refine gate_callee (f := 48) rfl ?_); refine goesL_ (some 95) rfl rfl Try.func48 (by kernel_rfl) rfl #[.slice Ao56 t906.length co56, .int .i64 1] rfl (by (try simp only [List.map_toArray, List.map_cons, List.map_nil]); first | done | rfl | (simp only [List.length_drop, List.length_take]; rfl)) ?_; (with_reducible refine (laws_heldFlowS.calls kj54 _ _ t906 1 t916 _ ?side1 ?side2 A71.out).mono ?_); (case side1 => repeat (first | exact (Kd.R_reads' HO_9.out).2.2 | (with_reducible refine Kd.C_alloc ?_ _) | (with_reducible refine Kd.C_drewN ?_ _) | (with_reducible refine Kd.C_drew ?_))); (case side2 => exact (Kd.R_reads' HO_9.out).2.1); rintro e w73 ⟨rfl, hb⟩; refine ⟨_, rfl, ?_⟩; have n0_ := Aside0.mk (Kd.R_below (by (with_reducible repeat (first | apply Kd.R_alloc | apply Kd.R_drewN | apply Kd.R_drew)); exact HO_9.out) hb); have n1_ := Aside0.mk (below_step (by repeat (first | (with_reducible first | exact HB.out | apply below_alloc | apply pw_below_drewN | apply below_drew1) | exact HB.out)) hb); clear HO_9; clear HB; have HO_9 := n0_; have HB := n1_; clear n0_ n1_; (try clear hb); (try clear hb2); (try clear hk); (try clear hi)))
                              go_ret
                              exact ⟨by first | rfl | (simp [errW_none, errW_some] <;> rfl) | (simp [*, errW_none, errW_some] <;> rfl), by repeat (first | (with_reducible first | exact HB.out | apply below_alloc | apply pw_below_drewN | apply below_drew1) | exact HB.out)⟩
                            · rw [if_neg c72] at H
                              have c72b0 : decide (t916 < 0) = false := decide_eq_false c72
                              clear c72
                              by_cases c74 : t916 = t905
                              · rw [if_pos c74] at H
                                have c74b0 : (t916 == t905) = true := beq_iff_eq.mpr c74
                                have c74b1 : (t916 != t905) = false := bne_eq_false_iff_eq.mpr c74
                                clear c74
                                obtain rfl := Option.some.inj H
                                go_wp2_with (first | ((with_reducible refine gate_callee (f := 48) rfl ?_); refine goesL_ (some 95) rfl rfl Try.func48 (by kernel_rfl) rfl #[.slice Ao56 t906.length co56, .int .i64 1] rfl (by (try simp only [List.map_toArray, List.map_cons, List.map_nil]); first | done | rfl | (simp only [List.length_drop, List.length_take]; rfl)) ?_; (with_reducible refine (laws_heldFlowS.calls kj54 _ _ t906 1 t916 _ ?side1 ?side2 A71.out).mono ?_); (case side1 => repeat (first | exact (Kd.R_reads' HO_9.out).2.2 | (with_reducible refine Kd.C_alloc ?_ _) | (with_reducible refine Kd.C_drewN ?_ _) | (with_reducible refine Kd.C_drew ?_))); (case side2 => exact (Kd.R_reads' HO_9.out).2.1); rintro e w75 ⟨rfl, hb⟩; refine ⟨_, rfl, ?_⟩; have n0_ := Aside0.mk (Kd.R_below (by (with_reducible repeat (first | apply Kd.R_alloc | apply Kd.R_drewN | apply Kd.R_drew)); exact HO_9.out) hb); have n1_ := Aside0.mk (below_step (by repeat (first | (with_reducible first | exact HB.out | apply below_alloc | apply pw_below_drewN | apply below_drew1) | exact HB.out)) hb); clear HO_9; clear HB; have HO_9 := n0_; have HB := n1_; clear n0_ n1_; (try clear hb); (try clear hb2); (try clear hk); (try clear hi)))
                                go_ret
                                exact ⟨by first | rfl | (simp [errW_none, errW_some] <;> rfl) | (simp [*, errW_none, errW_some] <;> rfl), by repeat (first | (with_reducible first | exact HB.out | apply below_alloc | apply pw_below_drewN | apply below_drew1) | exact HB.out)⟩
                              · rw [if_neg c74] at H
                                have c74b0 : (t916 == t905) = false := beq_eq_false_iff_ne.mpr c74
                                have c74b1 : (t916 != t905) = true := bne_iff_ne.mpr c74
                                obtain rfl := Option.some.inj H
                                go_wp2_with (first | ((with_reducible refine gate_callee (f := 48) rfl ?_); refine goesL_ (some 95) rfl rfl Try.func48 (by kernel_rfl) rfl #[.slice Ao56 t906.length co56, .int .i64 1] rfl (by (try simp only [List.map_toArray, List.map_cons, List.map_nil]); first | done | rfl | (simp only [List.length_drop, List.length_take]; rfl)) ?_; (with_reducible refine (laws_heldFlowS.calls kj54 _ _ t906 1 t916 _ ?side1 ?side2 A71.out).mono ?_); (case side1 => repeat (first | exact (Kd.R_reads' HO_9.out).2.2 | (with_reducible refine Kd.C_alloc ?_ _) | (with_reducible refine Kd.C_drewN ?_ _) | (with_reducible refine Kd.C_drew ?_))); (case side2 => exact (Kd.R_reads' HO_9.out).2.1); rintro e w76 ⟨rfl, hb⟩; refine ⟨_, rfl, ?_⟩; have n0_ := Aside0.mk (Kd.R_below (by (with_reducible repeat (first | apply Kd.R_alloc | apply Kd.R_drewN | apply Kd.R_drew)); exact HO_9.out) hb); have n1_ := Aside0.mk (below_step (by repeat (first | (with_reducible first | exact HB.out | apply below_alloc | apply pw_below_drewN | apply below_drew1) | exact HB.out)) hb); clear HO_9; clear HB; have HO_9 := n0_; have HB := n1_; clear n0_ n1_; (try clear hb); (try clear hb2); (try clear hk); (try clear hi)))
                                go_ret
                                exact ⟨by first | rfl | (simp [errW_none, errW_some] <;> rfl) | (simp [*, errW_none, errW_some] <;> rfl), by repeat (first | (with_reducible first | exact HB.out | apply below_alloc | apply pw_below_drewN | apply below_drew1) | exact HB.out)⟩
                    · rw [if_neg c52] at H
                      have c52b0 : (t907 == t905) = false := beq_eq_false_iff_ne.mpr c52
                      have c52b1 : (t907 != t905) = true := bne_iff_ne.mpr c52
                      obtain rfl := Option.some.inj H
                      obtain ⟨Ao77, co77, eo77⟩ := Kd.R_slice HO_9.out
                      subst eo77
                      go_wp2_with (first | ((with_reducible refine gate_callee (f := 47) rfl ?_); refine goesL_ (some 68) rfl rfl Try.func47 (by kernel_rfl) rfl #[.slice Ao77 t893.length co77, .int .i64 1] rfl (by (try simp only [List.map_toArray, List.map_cons, List.map_nil]); first | done | rfl | (simp only [List.length_drop, List.length_take]; rfl)) ?_; (with_reducible refine (laws_markFlowS.calls kj30 (fun k_ => some k_ = (.slice Ao77 t893.length co77 : Value).ownBlock) (.slice Ao77 t893.length co77) t893 1 t905 t906 w _ ?side1 ?side2 A46.out).mono ?_); (case side1 => repeat (first | (with_reducible first | exact HB.out | apply below_alloc | apply pw_below_drewN | apply below_drew1) | exact HB.out)); (case side2 => exact Kd.R_tight rfl HO_9.out); rintro e w78 ⟨rfl, hy0, hb, hkp⟩; refine ⟨_, rfl, ?_⟩; have n0_ := Aside0.mk (Kd.R_mono (ok' := fun k_ => some k_ ≠ (.slice Ao77 t893.length co77 : Value).ownBlock) (Kd.R_keptB (HO_6.out) hkp (fun k_ hk_ hs_ => (hk_) hs_)) (fun k_ hk_ => hk_.1)); have n1_ := Aside0.mk (Kd.R_reok rfl hy0 (fun k_ e_ => HO_9.out.1 k_ e_)); have n2_ := Aside0.mk (hb); clear HO_6; clear HO_9; clear HB; have HO_6 := n0_; have HO_9 := n1_; have HB := n2_; clear n0_ n1_ n2_; (try clear hb); (try clear hkp); (try clear hy0)) | ((with_reducible refine gate_callee (f := 48) rfl ?_); refine goesL_ (some 71) rfl rfl Try.func48 (by kernel_rfl) rfl #[.slice Ao77 t906.length co77, .int .i64 1] rfl (by (try simp only [List.map_toArray, List.map_cons, List.map_nil]); first | done | (rw [show t906.length = t893.length from (Kd.R_reads' HO_9.out).1.symm] <;> rfl) | rfl | (simp only [List.length_drop, List.length_take]; rfl)) ?_; (with_reducible refine (laws_heldFlowS.calls kj30 _ _ t906 1 t907 _ ?side1 ?side2 A47.out).mono ?_); (case side1 => repeat (first | exact (Kd.R_reads' HO_9.out).2.2 | (with_reducible refine Kd.C_alloc ?_ _) | (with_reducible refine Kd.C_drewN ?_ _) | (with_reducible refine Kd.C_drew ?_))); (case side2 => rw [show t906.length = t893.length from (Kd.R_reads' HO_9.out).1.symm]; exact (Kd.R_reads' HO_9.out).2.1); rintro e w79 ⟨rfl, hb⟩; refine ⟨_, rfl, ?_⟩; have n0_ := Aside0.mk (Kd.R_below (by (with_reducible repeat (first | apply Kd.R_alloc | apply Kd.R_drewN | apply Kd.R_drew)); exact HO_6.out) hb); have n1_ := Aside0.mk (Kd.R_below (by (with_reducible repeat (first | apply Kd.R_alloc | apply Kd.R_drewN | apply Kd.R_drew)); exact HO_9.out) hb); have n2_ := Aside0.mk (below_step (by repeat (first | (with_reducible first | exact HB.out | apply below_alloc | apply pw_below_drewN | apply below_drew1) | exact HB.out)) hb); clear HO_6; clear HO_9; clear HB; have HO_6 := n0_; have HO_9 := n1_; have HB := n2_; clear n0_ n1_ n2_; (try clear hb); (try clear hb2); (try clear hk); (try clear hi)))
                      go_ret
                      exact ⟨by first | rfl | (simp [errW_none, errW_some] <;> rfl) | (simp [*, errW_none, errW_some] <;> rfl), by repeat (first | (with_reducible first | exact HB.out | apply below_alloc | apply pw_below_drewN | apply below_drew1) | exact HB.out)⟩
          · replace c29 := Bool.eq_false_iff.mpr c29
            subst c29
            have H1 : (some false) = some r := by rw [if_neg (show ¬ (false = true) by decide)] at H; exact H
            clear H
            have H := H1
            clear H1
            obtain rfl := Option.some.inj H
            go_wp2_with (first | ((with_reducible refine gate_callee (f := 28) rfl ?_); refine goesL_ (some 47) rfl rfl Try.func28 (by kernel_rfl) rfl #[.slice A0 l0.length c0] rfl (by (try simp only [List.map_toArray, List.map_cons, List.map_nil]); first | done | rfl | (simp only [List.length_drop, List.length_take]; rfl)) ?_; (with_reducible refine (laws_toFlowS.calls kj9 _ _ l0 t898 _ ?side1 ?side2 A27.out).mono ?_); (case side1 => repeat (first | exact (Kd.C_below HR0.out HB.out) | (with_reducible refine Kd.C_alloc ?_ _) | (with_reducible refine Kd.C_drewN ?_ _) | (with_reducible refine Kd.C_drew ?_))); (case side2 => exact HC0.out); rintro e w80 ⟨v899, rfl, ho0, hb⟩; refine ⟨_, rfl, ?_⟩; have n0_ := Aside0.mk (Kd.R_elder' (by (with_reducible repeat (first | apply Kd.R_alloc | apply Kd.R_drewN | apply Kd.R_drew)); exact HO_6.out) (Kd.R_base ho0) hb); have n1_ := Aside0.mk (Kd.R_elder' (by (with_reducible repeat (first | apply Kd.R_alloc | apply Kd.R_drewN | apply Kd.R_drew)); exact HO_8.out) (Kd.R_base ho0) hb); have n2_ := Aside0.mk (Kd.R_elder' (by (with_reducible repeat (first | apply Kd.R_alloc | apply Kd.R_drewN | apply Kd.R_drew)); exact HO_9.out) (Kd.R_base ho0) hb); have n3_ := Aside0.mk (Kd.R_lower (Kd.R_new' (Kd.R_new' (Kd.R_new' ho0 (Kd.R_lt (by (with_reducible repeat (first | apply Kd.R_alloc | apply Kd.R_drewN | apply Kd.R_drew)); exact HO_6.out))) (Kd.R_lt (by (with_reducible repeat (first | apply Kd.R_alloc | apply Kd.R_drewN | apply Kd.R_drew)); exact HO_8.out))) (Kd.R_lt (by (with_reducible repeat (first | apply Kd.R_alloc | apply Kd.R_drewN | apply Kd.R_drew)); exact HO_9.out))) (below_size (by repeat (first | (with_reducible first | exact HB.out | apply below_alloc | apply pw_below_drewN | apply below_drew1) | exact HB.out)))); have n4_ := Aside0.mk (below_step (by repeat (first | (with_reducible first | exact HB.out | apply below_alloc | apply pw_below_drewN | apply below_drew1) | exact HB.out)) hb); clear HO_6; clear HO_8; clear HO_9; clear HB; have HO_6 := n0_; have HO_8 := n1_; have HO_9 := n2_; have HO900 := n3_; have HB := n4_; clear n0_ n1_ n2_ n3_ n4_; (try clear hb); (try clear hb2); (try clear hk); (try clear hi); (try clear ho0); obtain ⟨Ao81, co81, eo81⟩ := Kd.R_slice HO900.out; subst eo81) | ((with_reducible refine gate_callee (f := 30) rfl ?_); refine goesL_ (some 48) rfl rfl Try.func30 (by kernel_rfl) rfl #[.slice Ao16 t890.length co16, .slice Ao81 t898.length co81] rfl (by (try simp only [List.map_toArray, List.map_cons, List.map_nil]); first | done | rfl | (simp only [List.length_drop, List.length_take]; rfl)) ?_; (with_reducible refine (laws_eqFlowS.calls kj9 _ _ t890 _ _ t898 false _ ?side1 ?side2 ?side3 ?side4 A28.out).mono ?_); (case side1 => repeat (first | exact (Kd.R_reads' HO_8.out).2.2 | (with_reducible refine Kd.C_alloc ?_ _) | (with_reducible refine Kd.C_drewN ?_ _) | (with_reducible refine Kd.C_drew ?_))); (case side2 => exact (Kd.R_reads' HO_8.out).2.1); (case side3 => repeat (first | exact (Kd.R_reads' HO900.out).2.2 | (with_reducible refine Kd.C_alloc ?_ _) | (with_reducible refine Kd.C_drewN ?_ _) | (with_reducible refine Kd.C_drew ?_))); (case side4 => exact (Kd.R_reads' HO900.out).2.1); rintro e w82 ⟨rfl, hb⟩; refine ⟨_, rfl, ?_⟩; have n0_ := Aside0.mk (Kd.R_below (by (with_reducible repeat (first | apply Kd.R_alloc | apply Kd.R_drewN | apply Kd.R_drew)); exact HO_6.out) hb); have n1_ := Aside0.mk (Kd.R_below (by (with_reducible repeat (first | apply Kd.R_alloc | apply Kd.R_drewN | apply Kd.R_drew)); exact HO_8.out) hb); have n2_ := Aside0.mk (Kd.R_below (by (with_reducible repeat (first | apply Kd.R_alloc | apply Kd.R_drewN | apply Kd.R_drew)); exact HO_9.out) hb); have n3_ := Aside0.mk (Kd.R_below (by (with_reducible repeat (first | apply Kd.R_alloc | apply Kd.R_drewN | apply Kd.R_drew)); exact HO900.out) hb); have n4_ := Aside0.mk (below_step (by repeat (first | (with_reducible first | exact HB.out | apply below_alloc | apply pw_below_drewN | apply below_drew1) | exact HB.out)) hb); clear HO_6; clear HO_8; clear HO_9; clear HO900; clear HB; have HO_6 := n0_; have HO_8 := n1_; have HO_9 := n2_; have HO900 := n3_; have HB := n4_; clear n0_ n1_ n2_ n3_ n4_; (try clear hb); (try clear hb2); (try clear hk); (try clear hi)))
            go_ret
            exact ⟨by first | rfl | (simp [errW_none, errW_some] <;> rfl) | (simp [*, errW_none, errW_some] <;> rfl), by repeat (first | (with_reducible first | exact HB.out | apply below_alloc | apply pw_below_drewN | apply below_drew1) | exact HB.out)⟩
end
section
-- IMPORT Derived.SizedLaws
-- IMPORT Derived.ProofKit
-- IMPORT Derived.WalkKit
-- IMPORT Derived.OpenShut
-- IMPORT Derived.ShutString
-- IMPORT Derived.ChangeOld
-- IMPORT Derived.Below
-- IMPORT Derived.Deep.Slices
open Go.ChangeShapes Go.WideShapes Go.ChangeAt Go.Deep
/-- What reads as data of type t is a value of the kind d, and meets wf. -/
structure Opens (P : Program) (t : TypeId) {α : Type} (d : Kd α) (wf : α → Prop) : Prop where
  sz : P.cellsOf t = d.sz
  op : ∀ {H : Type} {enc : TypeId × Value → H} {w : World} {fuel : Nat} {cs : List Value} {y : DataW H × List MemPlace}, DataW.trod enc P w 0 (fun _ => true) true fuel t cs = some y → (∀ n ∈ y.1.weights P t, n ≤ reachBytes) → ∃ x, d.K w x cs ∧ wf x
theorem Opens.int {P : Program} {t : TypeId} {k : IntKind} (hu : P.underlying t = some (.int k)) (hc : P.cellsOf t = 1) : Opens P t (Kd.int k) (fun n => (Lit.int k n).wf = true) :=
  ⟨hc, fun h _ => by obtain ⟨n, rfl, rfl, wf⟩ := DataW.trod_int hu h; exact ⟨n, rfl, wf⟩⟩
theorem Opens.bool {P : Program} {t : TypeId} (hu : P.underlying t = some .bool) (hc : P.cellsOf t = 1) : Opens P t Kd.bool (fun _ => True) :=
  ⟨hc, fun h _ => by obtain ⟨n, rfl, rfl⟩ := DataW.trod_bool hu h; exact ⟨n, rfl, trivial⟩⟩
theorem Opens.string {P : Program} {t : TypeId} (hu : P.underlying t = some .string) (hc : P.cellsOf t = 1) : Opens P t Kd.string (fun s => s.size ≤ 140737488351232) :=
  ⟨hc, fun h hw => by
    obtain ⟨s, rfl, rfl, _⟩ := DataW.trod_string hu h
    refine ⟨s, rfl, ?_⟩
    have := hw s.data.toList.length (by simp [DataW.weights])
    simpa [reachBytes] using this⟩
theorem weights_mem_all {H : Type} {P : Program} {e : TypeId} {n : Nat} : ∀ {l : List (DataW H)} {d : DataW H}, d ∈ l → n ∈ d.weights P e → n ∈ DataW.weightsAll P e l
  | d0 :: l, d, hd, hn => by
    simp only [DataW.weightsAll, List.mem_append]
    rcases List.mem_cons.1 hd with rfl | hd
    · exact .inl hn
    · exact .inr (weights_mem_all hd hn)
  | [], _, hd, _ => by cases hd
theorem list_of_all {α : Type} {Q : Nat → α → Prop} (n : Nat) (h : ∀ i, i < n → ∃ x, Q i x) : ∃ xs : List α, xs.length = n ∧ ∀ j x, xs[j]? = some x → Q j x := by
  induction n with
  | zero => exact ⟨[], rfl, fun j x h => by simp at h⟩
  | succ n ih =>
    obtain ⟨xs, hl, hx⟩ := ih (fun i hi => h i (by omega))
    obtain ⟨x, hq⟩ := h n (by omega)
    refine ⟨xs ++ [x], by simp [hl], fun j y hj => ?_⟩
    rcases Nat.lt_or_ge j xs.length with hlt | hge
    · rw [List.getElem?_append_left hlt] at hj
      exact hx j y hj
    · rw [List.getElem?_append_right hge] at hj
      have : j - xs.length = 0 := by
        rcases Nat.lt_or_ge (j - xs.length) 1 with h1 | h1
        · omega
        · rw [List.getElem?_eq_none (by simpa using h1)] at hj; cases hj
      rw [this] at hj
      simp at hj
      subst hj
      have : j = n := by omega
      subst this
      exact hq
theorem Opens.slice {α : Type} {P : Program} {t e : TypeId} {d : Kd α} {wf : α → Prop} (hu : P.underlying t = some (.slice e)) (hc : P.cellsOf t = 1) (B : Nat) (hB : P.bytesOf e = B) (he : Opens P e d wf) :
    Opens P t (Kd.slice e d) (fun xs => xs.length * B ≤ 140737488351232 ∧ xs.length ≤ maxLen ∧ ∀ x ∈ xs, wf x) :=
  ⟨hc, fun {H enc w fuel cs y} h hw => by
    rcases open_slice hu h with ⟨rfl, rfl⟩ | ⟨a, len, cap, m, n, D, Pl, rfl, _, hl, hm, hmm, rfl, hel⟩
    · exact ⟨[], ⟨none, 0, rfl, Nat.le_refl _, Kd.C_nil d w⟩, by simp, by simp, fun x hx => by cases hx⟩
    have hmc : m = cap := by rw [hmm]; rfl
    subst hmc
    have hwt : ∀ i, i < len → ∀ z ∈ (D i).weights P e, z ≤ reachBytes := fun i hi z hz => hw z (by
      simp only [DataW.weights, hu]
      exact List.mem_cons_of_mem _ (List.mem_append_left _ (weights_mem_all (List.mem_map.2 ⟨i, List.mem_range.2 hi, rfl⟩) hz)))
    have hall : ∀ i, i < len → ∃ x : α, (∃ c, c.length = d.sz ∧ d.K w x c ∧ ∀ j u, c[j]? = some u → w.cell? (a.add (i * d.sz + j)) = some u) ∧ wf x := by
      intro i hi
      obtain ⟨cs', hcs, htr⟩ := hel i (by omega)
      obtain ⟨x, hk, hx⟩ := he.op htr (hwt i hi)
      obtain ⟨_, hlen, hcell⟩ := World.cells?_some hcs
      refine ⟨x, ⟨cs', by rw [hlen, he.sz], hk, fun j u hu' => ?_⟩, hx⟩
      have hj : j < cs'.length := by
        rcases Nat.lt_or_ge j cs'.length with h1 | h1
        · exact h1
        · rw [List.getElem?_eq_none h1] at hu'; cases hu'
      rw [hlen] at hj
      have hcj := hcell j hj
      rw [hu', he.sz, Addr.add_add] at hcj
      exact hcj
    obtain ⟨xs, hxl, hxs⟩ := list_of_all (Q := fun i x => (∃ c, c.length = d.sz ∧ d.K w x c ∧ ∀ j u, c[j]? = some u → w.cell? (a.add (i * d.sz + j)) = some u) ∧ wf x) len hall
    subst hxl
    refine ⟨xs, ⟨some a, m, rfl, hl, rfl, ?_, fun _ => ⟨a, rfl, fun j p hp => (hxs j p hp).1⟩⟩, ?_, ?_, ?_⟩
    · unfold maxLen at hm; omega
    · have := hw ((List.map D (List.range xs.length)).length + (List.map (fun j => D (xs.length + j)) (List.range (m - xs.length))).length) |> fun h => h
      have h1 := hw (((List.map D (List.range xs.length)).length + (List.map (fun j => D (xs.length + j)) (List.range (m - xs.length))).length) * P.bytesOf e) (by simp only [DataW.weights, hu]; exact List.mem_cons_self)
      rw [hB] at h1
      simp only [List.length_map, List.length_range] at h1
      have h2 : xs.length * B ≤ (xs.length + (m - xs.length)) * B := Nat.mul_le_mul_right _ (by omega)
      exact Nat.le_trans h2 h1
    · omega
    · intro x hx
      obtain ⟨j, hj, rfl⟩ := List.getElem_of_mem hx
      exact (hxs j _ (List.getElem?_eq_getElem hj)).2⟩
/-- Fields in line from cell o on. -/
structure OpensF (P : Program) (fs : List Field) (o : Nat) {α : Type} (d : Kd α) (wf : α → Prop) : Prop where
  op : ∀ {H : Type} {enc : TypeId × Value → H} {w : World} {n : Nat} {cs : List Value} {xs : List (DataW H × List MemPlace)}, o + d.sz ≤ cs.length → xs.length = fs.length →
    (∀ (i : Nat) (f : Field), fs[i]? = some f → DataW.trod enc P w 0 (fun _ => true) true n f.type ((cs.drop f.offset).take (P.cellsOf f.type)) = xs[i]?) →
    (∀ z ∈ DataW.weightsEach P (fs.map (·.type)) (xs.map (·.1)), z ≤ reachBytes) → ∃ x, d.K w x ((cs.drop o).take d.sz) ∧ wf x
theorem OpensF.one {α : Type} {P : Program} {f : Field} {o : Nat} {d : Kd α} {wf : α → Prop} (ho : f.offset = o) (h : Opens P f.type d wf) : OpensF P [f] o d wf := by
  refine ⟨fun {H enc w n cs xs} hlen hxl htr hw => ?_⟩
  match xs, hxl with
  | [y], _ =>
    have h1 := htr 0 f rfl
    rw [ho, h.sz] at h1
    exact h.op (y := y) h1 (fun z hz => hw z (by simpa [DataW.weightsEach] using hz))
theorem OpensF.cons {α β : Type} {P : Program} {f : Field} {fs : List Field} {o : Nat} {a : Kd α} {b : Kd β} {wa : α → Prop} {wb : β → Prop} (ho : f.offset = o) (h : Opens P f.type a wa) (o' : Nat) (ho' : o + a.sz = o') (hr : OpensF P fs o' b wb) :
    OpensF P (f :: fs) o (Kd.pair a b) (fun x => wa x.1 ∧ wb x.2) := by
  refine ⟨fun {H enc w n cs xs} hlen hxl htr hw => ?_⟩
  match xs, hxl with
  | y :: ys, hxl =>
    have h1 := htr 0 f rfl
    rw [ho, h.sz] at h1
    have hsz : (Kd.pair a b).sz = a.sz + b.sz := rfl
    rw [hsz] at hlen
    obtain ⟨x0, k0, w0⟩ := h.op (y := y) h1 (fun z hz => hw z (by simp only [List.map_cons, DataW.weightsEach, List.mem_append]; exact .inl hz))
    obtain ⟨x1, k1, w1⟩ := hr.op (n := n) (cs := cs) (xs := ys) (enc := enc) (w := w) (by omega) (by simpa using hxl) (fun i g hg => by have := htr (i + 1) g (by simpa using hg); simpa using this) (fun z hz => hw z (by simp only [List.map_cons, DataW.weightsEach, List.mem_append]; exact .inr hz))
    refine ⟨(x0, x1), ⟨(cs.drop o).take a.sz, (cs.drop o').take b.sz, ?_, k0, k1⟩, w0, w1⟩
    rw [hsz, ← ho', List.take_add, List.drop_drop]
theorem Opens.struct {α : Type} {P : Program} {t : TypeId} {fs : Array Field} {d : Kd α} {wf : α → Prop} (hu : P.underlying t = some (.struct fs)) (hc : P.cellsOf t = d.sz) (h : OpensF P fs.toList 0 d wf) : Opens P t d wf :=
  ⟨hc, fun {H enc w fuel cs y} ht hw => by
    obtain ⟨xs, n, rfl, rfl, hlen, hxl, htr⟩ := DataW.trod_struct hu ht
    obtain ⟨x, hk, hx⟩ := h.op (enc := enc) (w := w) (n := n) (cs := cs) (xs := xs) (by omega) (by simpa using hxl) (fun i f hf => htr i f (by simpa using hf)) (fun z hz => hw z (by simp only [DataW.weights, hu]; exact hz))
    refine ⟨x, ?_, hx⟩
    rw [List.drop_zero, List.take_of_length_le (by omega)] at hk
    exact hk⟩
theorem Opens.iso {α β : Type} {P : Program} {t : TypeId} {d : Kd α} {wf : α → Prop} (f : β → α) (g : α → β) (hfg : ∀ x, f (g x) = x) (h : Opens P t d wf) : Opens P t (Kd.iso d f) (fun x => wf (f x)) :=
  ⟨h.sz, fun ht hw => by
    obtain ⟨x, hk, hx⟩ := h.op ht hw
    exact ⟨g x, by show d.K _ (f (g x)) _; rw [hfg]; exact hk, by rw [hfg]; exact hx⟩⟩
end
end Go.Proofs.Ytlpkldomoniegaa.X
