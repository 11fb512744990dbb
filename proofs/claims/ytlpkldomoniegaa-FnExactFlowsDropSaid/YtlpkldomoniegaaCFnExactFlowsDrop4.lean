/- Texts that the row of FnExactFlowsDrop stands on: functions of the program and of the reference, each as a Lean function with the same answers, and the plain lemmas. Conditions: none beside those that each theorem names. -/
import Derived.Test.YtlpkldomoniegaaCFnExactFlowsDrop3
namespace Go.Proofs.Ytlpkldomoniegaa.X
open Go.RowKit Go.Proofs.YtlpkldomoniegaaW.PrintWords Go.Proofs.YtlpkldomoniegaaW.PrintLast Go.Proofs.YtlpkldomoniegaaW.PrintMore
attribute [local go_sem] max2_int min2_int max_two min_two max_three min_three max_four min_four   -- for this text's walks alone
set_option linter.unusedVariables false
set_option linter.unusedSimpArgs false
section
/-! ### impl_FlowsOK: function 29 -/
mutual
def impl_FlowsOK.l0 : Nat → List (S71) → Int → Int → Option (Bool)
  | 0, _, _, _ => none
  | k + 1, x0, x11, x12 => if x12 < x11 then (if 0 ≤ x12 then (if x12 < (x0.length : Int) then ((impl_Flow_endsOKAt.f ((rd_T71 x0 x12).f0) ((rd_T71 x0 x12).f1) ((rd_T71 x0 x12).f2) ((rd_T71 x0 x12).f3) ((rd_T71 x0 x12).f4) ((rd_T71 x0 x12).f5) ((rd_T71 x0 x12).f6) ((rd_T71 x0 x12).f7) ((rd_T71 x0 x12).f8)).bind fun t262 => (if t262 = true then ((impl_within.f ((rd_T71 x0 x12).f6) 1 3).bind fun t264 => (if t264 = true then ((impl_within.f ((rd_T71 x0 x12).f7) 0 100100).bind fun t266 => (impl_FlowsOK.j1 k x0 x12 x11 x12 (!t266))) else (impl_FlowsOK.j1 k x0 x12 x11 x12 true))) else (impl_FlowsOK.j1 k x0 x12 x11 x12 true))) else (none)) else (none)) else (some true)
def impl_FlowsOK.j1 : Nat → List (S71) → Int → Int → Int → Bool → Option (Bool)
  | 0, _, _, _, _, _ => none
  | k + 1, x0, x3, x11, x12, x36 => if x36 = true then (some false) else (if 0 ≤ x3 then (if x3 ≤ (x0.length : Int) then (if x3 < (x0.length : Int) then ((impl_find.f k (x0.take (x3 : Int).toNat) ((rd_T71 x0 x3).f0) ((rd_T71 x0 x3).f2) ((rd_T71 x0 x3).f3) ((rd_T71 x0 x3).f4) ((rd_T71 x0 x3).f5)).bind fun bt276 => (if bt276.1 ≥ 0 then (some false) else (impl_FlowsOK.l0 k x0 x11 (wrap64 (x12 + 1))))) else (none)) else (none)) else (none))
end
def impl_FlowsOK.f (k : Nat) (l0 : List (S71)) : Option (Bool) := if (l0.length : Int) > 8 then (some false) else (impl_FlowsOK.l0 k l0 (l0.length : Int) 0)
theorem impl_FlowsOK.mono_l : ∀ k, (∀ y0 y1 y2, LeO (impl_FlowsOK.l0 k y0 y1 y2) (impl_FlowsOK.l0 (k + 1) y0 y1 y2)) ∧ (∀ y0 y1 y2 y3 y4, LeO (impl_FlowsOK.j1 k y0 y1 y2 y3 y4) (impl_FlowsOK.j1 (k + 1) y0 y1 y2 y3 y4))
  | 0 => ⟨fun _ _ _ r h => by simp [impl_FlowsOK.l0] at h, fun _ _ _ _ _ r h => by simp [impl_FlowsOK.j1] at h⟩
  | k + 1 => by
    obtain ⟨ih0, ih1⟩ := impl_FlowsOK.mono_l k
    refine ⟨?_, ?_⟩
    · intro y0 y1 y2
      unfold impl_FlowsOK.l0
      repeat' first
      | (with_reducible exact ih0 _ _ _)
      | (with_reducible exact ih1 _ _ _ _ _)
      | (with_reducible exact impl_find.mono ..)
      | (with_reducible exact LeO.refl _)
      | (with_reducible exact LeO.none _)
      | (with_reducible refine LeO.ite ?_ ?_)
      | (with_reducible refine LeO.bind ?_ (fun _ => ?_))
      | exact ih0 _ _ _
      | exact ih1 _ _ _ _ _
      | exact impl_find.mono ..
      | exact LeO.none _
      | refine LeO.ite ?_ ?_
      | refine LeO.bind ?_ (fun _ => ?_)
    · intro y0 y1 y2 y3 y4
      unfold impl_FlowsOK.j1
      repeat' first
      | (with_reducible exact ih0 _ _ _)
      | (with_reducible exact ih1 _ _ _ _ _)
      | (with_reducible exact impl_find.mono ..)
      | (with_reducible exact LeO.refl _)
      | (with_reducible exact LeO.none _)
      | (with_reducible refine LeO.ite ?_ ?_)
      | (with_reducible refine LeO.bind ?_ (fun _ => ?_))
      | exact ih0 _ _ _
      | exact ih1 _ _ _ _ _
      | exact impl_find.mono ..
      | exact LeO.none _
      | refine LeO.ite ?_ ?_
      | refine LeO.bind ?_ (fun _ => ?_)
theorem impl_FlowsOK.mono : ∀ a0 k, LeO (impl_FlowsOK.f k a0) (impl_FlowsOK.f (k + 1) a0) := by
  intro a0 k
  obtain ⟨ih0, ih1⟩ := impl_FlowsOK.mono_l k
  unfold impl_FlowsOK.f
  repeat' first
      | (with_reducible exact ih0 _ _ _)
      | (with_reducible exact ih1 _ _ _ _ _)
      | (with_reducible exact impl_find.mono ..)
      | (with_reducible exact LeO.refl _)
      | (with_reducible exact LeO.none _)
      | (with_reducible refine LeO.ite ?_ ?_)
      | (with_reducible refine LeO.bind ?_ (fun _ => ?_))
      | exact ih0 _ _ _
      | exact ih1 _ _ _ _ _
      | exact impl_find.mono ..
      | exact LeO.none _
      | refine LeO.ite ?_ ?_
      | refine LeO.bind ?_ (fun _ => ?_)
def impl_FlowsOK.T9 : Bool × List (List Nat × List Nat) := (true, [([], []), ([], []), ([0, 1], [0, 1]), ([], []), ([3], [3]), ([4], [4]), ([5], [5]), ([], []), ([7], [7]), ([8], [8]), ([9], [9]), ([], []), ([11], [11]), ([12], [12]), ([13], [13]), ([], []), ([15], [15]), ([16], [16]), ([17], [17]), ([], []), ([19], [19]), ([20], [20]), ([21], [21]), ([2, 6, 10, 14, 18, 22], [2, 6, 10, 14, 18, 22]), ([23], [23]), ([24], [24]), ([24], [24]), ([25, 23, 0, 1, 2, 3, 4, 5, 6, 7, 8, 9, 10, 11, 12, 13, 14, 15, 16, 17, 18, 19, 20, 21, 22, 23, 24, 25], [25]), ([26, 27, 0, 1, 2, 3, 4, 5, 6, 7, 8, 9, 10, 11, 12, 13, 14, 15, 16, 17, 18, 19, 20, 21, 22, 23, 24, 25, 26, 27], [26])])
def impl_FlowsOK.B9 : List Nat := [0, 0, 3, 0, 8, 24, 56, 0, 128, 384, 896, 0, 2048, 6144, 14336, 0, 32768, 98304, 229376, 0, 524288, 1572864, 3670016, 8388607, 16777215, 33554431, 33554431, 67108863, 268435455]
theorem impl_FlowsOK.tab9 : rtab .any (opsOf Try.f29 9) = impl_FlowsOK.T9 := by kernel_rfl
theorem impl_FlowsOK.bits9 : waitsOk impl_FlowsOK.T9.2 impl_FlowsOK.B9 = true := by kernel_rfl
set_option maxHeartbeats 8000000 in
set_option maxRecDepth 100000 in
theorem impl_FlowsOK.calls (k : Nat) (A0 : Option Addr) (c0 : Nat) (l0 : List (S71)) (r : Bool) (w : World) (hr0 : Kd.C k71 w A0 l0.length l0) (hc0 : l0.length ≤ c0) (h : impl_FlowsOK.f k l0 = some r) :
    Calls Try.prog 29 #[.slice A0 l0.length c0] w fun e w' => e = .returned (.bool r) ∧ Below w.heap.size w w' := by
  have HR0 := Aside0.mk hr0
  have HC0 := Aside0.mk hc0
  clear hr0 hc0
  have HB := Aside0.mk (Below.refl w.heap.size w)
  have H : (if (l0.length : Int) > 8 then (some false) else (impl_FlowsOK.l0 k l0 (l0.length : Int) 0)) = some r := h
  clear h
  by_cases c2 : (l0.length : Int) > 8
  · rw [if_pos c2] at H
    have c2b0 : decide (8 < (l0.length : Int)) = true := decide_eq_true c2
    have c2b1 : decide (8 < l0.length) = true := decide_eq_true (by omega)
    clear c2
    obtain rfl := Option.some.inj H
    go_enter Try.func29, Try.ntmps29
    go_wp2
    go_ret
    exact ⟨by first | rfl | (simp [errW_none, errW_some] <;> rfl) | (simp [*, errW_none, errW_some] <;> rfl), by repeat (first | (with_reducible first | exact HB.out | apply below_alloc | apply pw_below_drewN | apply below_drew1) | exact HB.out)⟩
  · rw [if_neg c2] at H
    have c2b0 : decide (8 < (l0.length : Int)) = false := decide_eq_false c2
    have c2b1 : decide (8 < l0.length) = false := decide_eq_false (by omega)
    clear c2
    have H' := Aside0.mk H
    clear H
    go_enter Try.func29, Try.ntmps29
    go_wp2
    go_loopg [12] k (fun kq v12 w' => ∃ (x12_1 : Int), v12 = .int .i64 x12_1 ∧ Aside0 (impl_FlowsOK.l0 kq l0 (l0.length : Int) x12_1 = some r) ∧ Aside0 (kq ≤ k) ∧ Aside0 (Below w.heap.size w w'))
    case atStart => exact ⟨(0), (by first | rfl | (simp; done) | (simp [*]; done) | (simp [ne_nil_b]; done) | (simp [ne_nil_b, *]; done)), H', ⟨Nat.le_refl _⟩, ⟨by repeat (first | (with_reducible first | exact HB.out | apply below_alloc | apply pw_below_drewN | apply below_drew1) | exact HB.out)⟩⟩
    case round =>
      clear H'
      try clear c2
      try clear c2b0
      try clear c2b1
      try clear p2
      obtain ⟨x12_1, rfl, HA, HK1, HB⟩ := hrel
      cases gk with
      | zero => exact absurd HA.out (by simp [impl_FlowsOK.l0])
      | succ k1 =>
        have H := HA.out
        clear HA
        simp only [impl_FlowsOK.l0] at H
        by_cases c3 : x12_1 < (l0.length : Int)
        · rw [if_pos c3] at H
          have c3b0 : decide (x12_1 < (l0.length : Int)) = true := decide_eq_true c3
          clear c3
          by_cases c4 : 0 ≤ x12_1
          · rw [if_pos c4] at H
            have c4b0 : decide (0 ≤ x12_1) = true := decide_eq_true c4
            clear c4
            by_cases c5 : x12_1 < (l0.length : Int)
            · rw [if_pos c5] at H
              have c5b0 : decide (x12_1 < (l0.length : Int)) = true := decide_eq_true c5
              clear c5
              have HC6 := Aside0.mk H
              clear H
              have p260 : 0 ≤ (x12_1 : Int) := of_decide_eq_true (by first | (with_reducible assumption) | assumption)
              have q260 : x12_1 < (l0.length : Int) := of_decide_eq_true (by first | (with_reducible assumption) | assumption)
              obtain ⟨ad260, e260, hx260_0, hx260_1, hx260_2, hx260_3, hx260_4, hx260_5, hx260_6, hx260_7, hx260_8⟩ := at_T71 HR0.out x12_1 p260 q260
              cases e260
              replace hx260_0 := (HB.out.cell (World.block_lt_of_cell? w _ hx260_0)).trans hx260_0
              replace hx260_1 := (HB.out.cell (World.block_lt_of_cell? w _ hx260_1)).trans hx260_1
              replace hx260_2 := (HB.out.cell (World.block_lt_of_cell? w _ hx260_2)).trans hx260_2
              replace hx260_3 := (HB.out.cell (World.block_lt_of_cell? w _ hx260_3)).trans hx260_3
              replace hx260_4 := (HB.out.cell (World.block_lt_of_cell? w _ hx260_4)).trans hx260_4
              replace hx260_5 := (HB.out.cell (World.block_lt_of_cell? w _ hx260_5)).trans hx260_5
              replace hx260_6 := (HB.out.cell (World.block_lt_of_cell? w _ hx260_6)).trans hx260_6
              replace hx260_7 := (HB.out.cell (World.block_lt_of_cell? w _ hx260_7)).trans hx260_7
              replace hx260_8 := (HB.out.cell (World.block_lt_of_cell? w _ hx260_8)).trans hx260_8
              replace p260 := eq_true p260
              replace q260 := eq_true q260
              go_upto_region 7 with (fail)
              go_cut [36] (fun v36 wc => ∃ (kq : Nat) (x36_5 : Bool), v36 = .bool x36_5 ∧ Aside0 (impl_FlowsOK.j1 kq l0 x12_1 (l0.length : Int) x12_1 x36_5 = some r) ∧ Aside0 (kq ≤ k1) ∧ Aside0 (Below w.heap.size w wc))
              case first =>
                have H := HC6.out
                clear HC6
                replace H := Option.bind_eq_some_iff.mp H
                obtain ⟨t262, A70, H⟩ := H
                replace H : (if t262 = true then ((impl_within.f ((rd_T71 l0 x12_1).f6) 1 3).bind fun t264 => (if t264 = true then ((impl_within.f ((rd_T71 l0 x12_1).f7) 0 100100).bind fun t266 => (impl_FlowsOK.j1 k1 l0 x12_1 (l0.length : Int) x12_1 (!t266))) else (impl_FlowsOK.j1 k1 l0 x12_1 (l0.length : Int) x12_1 true))) else (impl_FlowsOK.j1 k1 l0 x12_1 (l0.length : Int) x12_1 true)) = some r := H
                have A7 := Aside0.mk A70
                clear A70
                by_cases c8 : t262 = true
                · subst c8
                  have H1 : ((impl_within.f ((rd_T71 l0 x12_1).f6) 1 3).bind fun t264 => (if t264 = true then ((impl_within.f ((rd_T71 l0 x12_1).f7) 0 100100).bind fun t266 => (impl_FlowsOK.j1 k1 l0 x12_1 (l0.length : Int) x12_1 (!t266))) else (impl_FlowsOK.j1 k1 l0 x12_1 (l0.length : Int) x12_1 true))) = some r := by rw [if_pos rfl] at H; exact H
                  clear H
                  have H := H1
                  clear H1
                  replace H := Option.bind_eq_some_iff.mp H
                  obtain ⟨t264, A90, H⟩ := H
                  replace H : (if t264 = true then ((impl_within.f ((rd_T71 l0 x12_1).f7) 0 100100).bind fun t266 => (impl_FlowsOK.j1 k1 l0 x12_1 (l0.length : Int) x12_1 (!t266))) else (impl_FlowsOK.j1 k1 l0 x12_1 (l0.length : Int) x12_1 true)) = some r := H
                  have A9 := Aside0.mk A90
                  clear A90
                  by_cases c10 : t264 = true
                  · subst c10
                    have H1 : ((impl_within.f ((rd_T71 l0 x12_1).f7) 0 100100).bind fun t266 => (impl_FlowsOK.j1 k1 l0 x12_1 (l0.length : Int) x12_1 (!t266))) = some r := by rw [if_pos rfl] at H; exact H
                    clear H
                    have H := H1
                    clear H1
                    replace H := Option.bind_eq_some_iff.mp H
                    obtain ⟨t266, A110, H⟩ := H
                    replace H : (impl_FlowsOK.j1 k1 l0 x12_1 (l0.length : Int) x12_1 (!t266)) = some r := H
                    have A11 := Aside0.mk A110
                    clear A110
                    have H' := Aside0.mk H
                    clear H
                    have p261 : 0 ≤ (x12_1 : Int) := of_decide_eq_true (by first | (with_reducible assumption) | assumption)
                    have q261 : x12_1 < (l0.length : Int) := of_decide_eq_true (by first | (with_reducible assumption) | assumption)
                    obtain ⟨ad261, e261, hx261_0, hx261_1, hx261_2, hx261_3, hx261_4, hx261_5, hx261_6, hx261_7, hx261_8⟩ := at_T71 HR0.out x12_1 p261 q261
                    obtain rfl : ad260 = ad261 := (by injection e261)
                    replace hx261_0 := (HB.out.cell (World.block_lt_of_cell? w _ hx261_0)).trans hx261_0
                    replace hx261_1 := (HB.out.cell (World.block_lt_of_cell? w _ hx261_1)).trans hx261_1
                    replace hx261_2 := (HB.out.cell (World.block_lt_of_cell? w _ hx261_2)).trans hx261_2
                    replace hx261_3 := (HB.out.cell (World.block_lt_of_cell? w _ hx261_3)).trans hx261_3
                    replace hx261_4 := (HB.out.cell (World.block_lt_of_cell? w _ hx261_4)).trans hx261_4
                    replace hx261_5 := (HB.out.cell (World.block_lt_of_cell? w _ hx261_5)).trans hx261_5
                    replace hx261_6 := (HB.out.cell (World.block_lt_of_cell? w _ hx261_6)).trans hx261_6
                    replace hx261_7 := (HB.out.cell (World.block_lt_of_cell? w _ hx261_7)).trans hx261_7
                    replace hx261_8 := (HB.out.cell (World.block_lt_of_cell? w _ hx261_8)).trans hx261_8
                    replace p261 := eq_true p261
                    replace q261 := eq_true q261
                    go_wp2_with (first | ((with_reducible refine gate_callee (f := 77) rfl ?_); refine goesL_ (some 19) rfl rfl Try.func77 (by kernel_rfl) rfl #[.pointer (some (ad260.add ((x12_1 : Int).toNat * 9)))] rfl (by (try simp only [List.map_toArray, List.map_cons, List.map_nil]); first | done | rfl | (simp only [List.length_drop, List.length_take]; rfl)) ?_; (with_reducible refine (impl_Flow_endsOKAt.calls ad260 ((x12_1 : Int).toNat * 9) ((rd_T71 l0 x12_1).f0) ((rd_T71 l0 x12_1).f1) ((rd_T71 l0 x12_1).f2) ((rd_T71 l0 x12_1).f3) ((rd_T71 l0 x12_1).f4) ((rd_T71 l0 x12_1).f5) ((rd_T71 l0 x12_1).f6) ((rd_T71 l0 x12_1).f7) ((rd_T71 l0 x12_1).f8) true _ hx260_0 hx260_1 hx260_2 hx260_3 hx260_4 hx260_5 hx260_6 hx260_7 hx260_8 A7.out).mono ?_); rintro e w12 ⟨rfl, hb⟩; refine ⟨_, rfl, ?_⟩; have n0_ := Aside0.mk (below_step (by repeat (first | (with_reducible first | exact HB.out | apply below_alloc | apply pw_below_drewN | apply below_drew1) | exact HB.out)) hb); clear HB; have HB := n0_; clear n0_; (try clear hb); (try clear hb2); (try clear hk); (try clear hi); have p263 : 0 ≤ (x12_1 : Int) := of_decide_eq_true (by first | (with_reducible assumption) | assumption); have q263 : x12_1 < (l0.length : Int) := of_decide_eq_true (by first | (with_reducible assumption) | assumption); obtain ⟨ad263, e263, hx263_0, hx263_1, hx263_2, hx263_3, hx263_4, hx263_5, hx263_6, hx263_7, hx263_8⟩ := at_T71 HR0.out x12_1 p263 q263; obtain rfl : ad260 = ad263 := (by injection e263); replace hx263_0 := (HB.out.cell (World.block_lt_of_cell? w _ hx263_0)).trans hx263_0; replace hx263_1 := (HB.out.cell (World.block_lt_of_cell? w _ hx263_1)).trans hx263_1; replace hx263_2 := (HB.out.cell (World.block_lt_of_cell? w _ hx263_2)).trans hx263_2; replace hx263_3 := (HB.out.cell (World.block_lt_of_cell? w _ hx263_3)).trans hx263_3; replace hx263_4 := (HB.out.cell (World.block_lt_of_cell? w _ hx263_4)).trans hx263_4; replace hx263_5 := (HB.out.cell (World.block_lt_of_cell? w _ hx263_5)).trans hx263_5; replace hx263_6 := (HB.out.cell (World.block_lt_of_cell? w _ hx263_6)).trans hx263_6; replace hx263_7 := (HB.out.cell (World.block_lt_of_cell? w _ hx263_7)).trans hx263_7; replace hx263_8 := (HB.out.cell (World.block_lt_of_cell? w _ hx263_8)).trans hx263_8; replace p263 := eq_true p263; replace q263 := eq_true q263) | (go_at_call 62; (with_reducible refine (impl_within.calls ((rd_T71 l0 x12_1).f6) 1 3 true _ A9.out).mono ?_); rintro e w' ⟨rfl, ⟨nd, rfl⟩⟩; have p265 : 0 ≤ (x12_1 : Int) := of_decide_eq_true (by first | (with_reducible assumption) | assumption); have q265 : x12_1 < (l0.length : Int) := of_decide_eq_true (by first | (with_reducible assumption) | assumption); obtain ⟨ad265, e265, hx265_0, hx265_1, hx265_2, hx265_3, hx265_4, hx265_5, hx265_6, hx265_7, hx265_8⟩ := at_T71 HR0.out x12_1 p265 q265; obtain rfl : ad260 = ad265 := (by injection e265); replace hx265_0 := (HB.out.cell (World.block_lt_of_cell? w _ hx265_0)).trans hx265_0; replace hx265_1 := (HB.out.cell (World.block_lt_of_cell? w _ hx265_1)).trans hx265_1; replace hx265_2 := (HB.out.cell (World.block_lt_of_cell? w _ hx265_2)).trans hx265_2; replace hx265_3 := (HB.out.cell (World.block_lt_of_cell? w _ hx265_3)).trans hx265_3; replace hx265_4 := (HB.out.cell (World.block_lt_of_cell? w _ hx265_4)).trans hx265_4; replace hx265_5 := (HB.out.cell (World.block_lt_of_cell? w _ hx265_5)).trans hx265_5; replace hx265_6 := (HB.out.cell (World.block_lt_of_cell? w _ hx265_6)).trans hx265_6; replace hx265_7 := (HB.out.cell (World.block_lt_of_cell? w _ hx265_7)).trans hx265_7; replace hx265_8 := (HB.out.cell (World.block_lt_of_cell? w _ hx265_8)).trans hx265_8; replace p265 := eq_true p265; replace q265 := eq_true q265) | (go_at_call 62; (with_reducible refine (impl_within.calls ((rd_T71 l0 x12_1).f7) 0 100100 t266 _ A11.out).mono ?_); rintro e w' ⟨rfl, ⟨nd, rfl⟩⟩))
                    go_meet
                    case rel => exact ⟨_, (!t266), (by first | rfl | (simp; done) | (simp [*]; done) | (simp [ne_nil_b]; done) | (simp [ne_nil_b, *]; done)), H', ⟨by have := HK1.out; first | omega | exact Nat.le_refl _⟩, ⟨by repeat (first | (with_reducible first | exact HB.out | apply below_alloc | apply pw_below_drewN | apply below_drew1) | exact HB.out)⟩⟩
                  · replace c10 := Bool.eq_false_iff.mpr c10
                    subst c10
                    have H1 : (impl_FlowsOK.j1 k1 l0 x12_1 (l0.length : Int) x12_1 true) = some r := by rw [if_neg (show ¬ (false = true) by decide)] at H; exact H
                    clear H
                    have H := H1
                    clear H1
                    have H' := Aside0.mk H
                    clear H
                    have p261 : 0 ≤ (x12_1 : Int) := of_decide_eq_true (by first | (with_reducible assumption) | assumption)
                    have q261 : x12_1 < (l0.length : Int) := of_decide_eq_true (by first | (with_reducible assumption) | assumption)
                    obtain ⟨ad261, e261, hx261_0, hx261_1, hx261_2, hx261_3, hx261_4, hx261_5, hx261_6, hx261_7, hx261_8⟩ := at_T71 HR0.out x12_1 p261 q261
                    obtain rfl : ad260 = ad261 := (by injection e261)
                    replace hx261_0 := (HB.out.cell (World.block_lt_of_cell? w _ hx261_0)).trans hx261_0
                    replace hx261_1 := (HB.out.cell (World.block_lt_of_cell? w _ hx261_1)).trans hx261_1
                    replace hx261_2 := (HB.out.cell (World.block_lt_of_cell? w _ hx261_2)).trans hx261_2
                    replace hx261_3 := (HB.out.cell (World.block_lt_of_cell? w _ hx261_3)).trans hx261_3
                    replace hx261_4 := (HB.out.cell (World.block_lt_of_cell? w _ hx261_4)).trans hx261_4
                    replace hx261_5 := (HB.out.cell (World.block_lt_of_cell? w _ hx261_5)).trans hx261_5
                    replace hx261_6 := (HB.out.cell (World.block_lt_of_cell? w _ hx261_6)).trans hx261_6
                    replace hx261_7 := (HB.out.cell (World.block_lt_of_cell? w _ hx261_7)).trans hx261_7
                    replace hx261_8 := (HB.out.cell (World.block_lt_of_cell? w _ hx261_8)).trans hx261_8
                    replace p261 := eq_true p261
                    replace q261 := eq_true q261
                    go_wp2_with (first | ((with_reducible refine gate_callee (f := 77) rfl ?_); refine goesL_ (some 19) rfl rfl Try.func77 (by kernel_rfl) rfl #[.pointer (some (ad260.add ((x12_1 : Int).toNat * 9)))] rfl (by (try simp only [List.map_toArray, List.map_cons, List.map_nil]); first | done | rfl | (simp only [List.length_drop, List.length_take]; rfl)) ?_; (with_reducible refine (impl_Flow_endsOKAt.calls ad260 ((x12_1 : Int).toNat * 9) ((rd_T71 l0 x12_1).f0) ((rd_T71 l0 x12_1).f1) ((rd_T71 l0 x12_1).f2) ((rd_T71 l0 x12_1).f3) ((rd_T71 l0 x12_1).f4) ((rd_T71 l0 x12_1).f5) ((rd_T71 l0 x12_1).f6) ((rd_T71 l0 x12_1).f7) ((rd_T71 l0 x12_1).f8) true _ hx260_0 hx260_1 hx260_2 hx260_3 hx260_4 hx260_5 hx260_6 hx260_7 hx260_8 A7.out).mono ?_); rintro e w13 ⟨rfl, hb⟩; refine ⟨_, rfl, ?_⟩; have n0_ := Aside0.mk (below_step (by repeat (first | (with_reducible first | exact HB.out | apply below_alloc | apply pw_below_drewN | apply below_drew1) | exact HB.out)) hb); clear HB; have HB := n0_; clear n0_; (try clear hb); (try clear hb2); (try clear hk); (try clear hi); have p263 : 0 ≤ (x12_1 : Int) := of_decide_eq_true (by first | (with_reducible assumption) | assumption); have q263 : x12_1 < (l0.length : Int) := of_decide_eq_true (by first | (with_reducible assumption) | assumption); obtain ⟨ad263, e263, hx263_0, hx263_1, hx263_2, hx263_3, hx263_4, hx263_5, hx263_6, hx263_7, hx263_8⟩ := at_T71 HR0.out x12_1 p263 q263; obtain rfl : ad260 = ad263 := (by injection e263); replace hx263_0 := (HB.out.cell (World.block_lt_of_cell? w _ hx263_0)).trans hx263_0; replace hx263_1 := (HB.out.cell (World.block_lt_of_cell? w _ hx263_1)).trans hx263_1; replace hx263_2 := (HB.out.cell (World.block_lt_of_cell? w _ hx263_2)).trans hx263_2; replace hx263_3 := (HB.out.cell (World.block_lt_of_cell? w _ hx263_3)).trans hx263_3; replace hx263_4 := (HB.out.cell (World.block_lt_of_cell? w _ hx263_4)).trans hx263_4; replace hx263_5 := (HB.out.cell (World.block_lt_of_cell? w _ hx263_5)).trans hx263_5; replace hx263_6 := (HB.out.cell (World.block_lt_of_cell? w _ hx263_6)).trans hx263_6; replace hx263_7 := (HB.out.cell (World.block_lt_of_cell? w _ hx263_7)).trans hx263_7; replace hx263_8 := (HB.out.cell (World.block_lt_of_cell? w _ hx263_8)).trans hx263_8; replace p263 := eq_true p263; replace q263 := eq_true q263) | (go_at_call 62; (with_reducible refine (impl_within.calls ((rd_T71 l0 x12_1).f6) 1 3 false _ A9.out).mono ?_); rintro e w' ⟨rfl, ⟨nd, rfl⟩⟩))
                    go_meet
                    case rel => exact ⟨_, (true), (by first | rfl | (simp; done) | (simp [*]; done) | (simp [ne_nil_b]; done) | (simp [ne_nil_b, *]; done)), H', ⟨by have := HK1.out; first | omega | exact Nat.le_refl _⟩, ⟨by repeat (first | (with_reducible first | exact HB.out | apply below_alloc | apply pw_below_drewN | apply below_drew1) | exact HB.out)⟩⟩
                · replace c8 := Bool.eq_false_iff.mpr c8
                  subst c8
                  have H1 : (impl_FlowsOK.j1 k1 l0 x12_1 (l0.length : Int) x12_1 true) = some r := by rw [if_neg (show ¬ (false = true) by decide)] at H; exact H
                  clear H
                  have H := H1
                  clear H1
                  have H' := Aside0.mk H
                  clear H
                  have p261 : 0 ≤ (x12_1 : Int) := of_decide_eq_true (by first | (with_reducible assumption) | assumption)
                  have q261 : x12_1 < (l0.length : Int) := of_decide_eq_true (by first | (with_reducible assumption) | assumption)
                  obtain ⟨ad261, e261, hx261_0, hx261_1, hx261_2, hx261_3, hx261_4, hx261_5, hx261_6, hx261_7, hx261_8⟩ := at_T71 HR0.out x12_1 p261 q261
                  obtain rfl : ad260 = ad261 := (by injection e261)
                  replace hx261_0 := (HB.out.cell (World.block_lt_of_cell? w _ hx261_0)).trans hx261_0
                  replace hx261_1 := (HB.out.cell (World.block_lt_of_cell? w _ hx261_1)).trans hx261_1
                  replace hx261_2 := (HB.out.cell (World.block_lt_of_cell? w _ hx261_2)).trans hx261_2
                  replace hx261_3 := (HB.out.cell (World.block_lt_of_cell? w _ hx261_3)).trans hx261_3
                  replace hx261_4 := (HB.out.cell (World.block_lt_of_cell? w _ hx261_4)).trans hx261_4
                  replace hx261_5 := (HB.out.cell (World.block_lt_of_cell? w _ hx261_5)).trans hx261_5
                  replace hx261_6 := (HB.out.cell (World.block_lt_of_cell? w _ hx261_6)).trans hx261_6
                  replace hx261_7 := (HB.out.cell (World.block_lt_of_cell? w _ hx261_7)).trans hx261_7
                  replace hx261_8 := (HB.out.cell (World.block_lt_of_cell? w _ hx261_8)).trans hx261_8
                  replace p261 := eq_true p261
                  replace q261 := eq_true q261
                  go_wp2_with (first | ((with_reducible refine gate_callee (f := 77) rfl ?_); refine goesL_ (some 19) rfl rfl Try.func77 (by kernel_rfl) rfl #[.pointer (some (ad260.add ((x12_1 : Int).toNat * 9)))] rfl (by (try simp only [List.map_toArray, List.map_cons, List.map_nil]); first | done | rfl | (simp only [List.length_drop, List.length_take]; rfl)) ?_; (with_reducible refine (impl_Flow_endsOKAt.calls ad260 ((x12_1 : Int).toNat * 9) ((rd_T71 l0 x12_1).f0) ((rd_T71 l0 x12_1).f1) ((rd_T71 l0 x12_1).f2) ((rd_T71 l0 x12_1).f3) ((rd_T71 l0 x12_1).f4) ((rd_T71 l0 x12_1).f5) ((rd_T71 l0 x12_1).f6) ((rd_T71 l0 x12_1).f7) ((rd_T71 l0 x12_1).f8) false _ hx260_0 hx260_1 hx260_2 hx260_3 hx260_4 hx260_5 hx260_6 hx260_7 hx260_8 A7.out).mono ?_); rintro e w14 ⟨rfl, hb⟩; refine ⟨_, rfl, ?_⟩; have n0_ := Aside0.mk (below_step (by repeat (first | (with_reducible first | exact HB.out | apply below_alloc | apply pw_below_drewN | apply below_drew1) | exact HB.out)) hb); clear HB; have HB := n0_; clear n0_; (try clear hb); (try clear hb2); (try clear hk); (try clear hi)))
                  go_meet
                  case rel => exact ⟨_, (true), (by first | rfl | (simp; done) | (simp [*]; done) | (simp [ne_nil_b]; done) | (simp [ne_nil_b, *]; done)), H', ⟨by have := HK1.out; first | omega | exact Nat.le_refl _⟩, ⟨by repeat (first | (with_reducible first | exact HB.out | apply below_alloc | apply pw_below_drewN | apply below_drew1) | exact HB.out)⟩⟩
              case rest =>
                clear HC6
                try clear c1
                try clear c2
                try clear c2b0
                try clear c2b1
                try clear p2
                try clear q2
                try clear hx2
                try clear c3
                try clear c3b0
                try clear c4
                try clear c4b0
                try clear c5
                try clear c5b0
                try clear c8
                try clear c10
                try clear hx260_0
                try clear hx260_1
                try clear hx260_2
                try clear hx260_3
                try clear hx260_4
                try clear hx260_5
                try clear hx260_6
                try clear hx260_7
                try clear hx260_8
                try clear hx261_0
                try clear hx261_1
                try clear hx261_2
                try clear hx261_3
                try clear hx261_4
                try clear hx261_5
                try clear hx261_6
                try clear hx261_7
                try clear hx261_8
                try clear hx263_0
                try clear hx263_1
                try clear hx263_2
                try clear hx263_3
                try clear hx263_4
                try clear hx263_5
                try clear hx263_6
                try clear hx263_7
                try clear hx263_8
                try clear hx265_0
                try clear hx265_1
                try clear hx265_2
                try clear hx265_3
                try clear hx265_4
                try clear hx265_5
                try clear hx265_6
                try clear hx265_7
                try clear hx265_8
                try clear p2
                try clear p260
                try clear p261
                try clear p263
                try clear p265
                try clear q260
                try clear q261
                try clear q263
                try clear q265
                obtain ⟨kq, x36_5, rfl, HA, HJ5, HB⟩ := hcut
                cases kq with
                | zero => exact absurd HA.out (by simp [impl_FlowsOK.j1])
                | succ kj5 =>
                  have H := HA.out
                  clear HA
                  simp only [impl_FlowsOK.j1] at H
                  by_cases c15 : x36_5 = true
                  · subst c15
                    have H1 : (some false) = some r := by rw [if_pos rfl] at H; exact H
                    clear H
                    have H := H1
                    clear H1
                    obtain rfl := Option.some.inj H
                    go_wp2
                    go_ret
                    exact ⟨by first | rfl | (simp [errW_none, errW_some] <;> rfl) | (simp [*, errW_none, errW_some] <;> rfl), by repeat (first | (with_reducible first | exact HB.out | apply below_alloc | apply pw_below_drewN | apply below_drew1) | exact HB.out)⟩
                  · replace c15 := Bool.eq_false_iff.mpr c15
                    subst c15
                    have H1 : (if 0 ≤ x12_1 then (if x12_1 ≤ (l0.length : Int) then (if x12_1 < (l0.length : Int) then ((impl_find.f kj5 (l0.take (x12_1 : Int).toNat) ((rd_T71 l0 x12_1).f0) ((rd_T71 l0 x12_1).f2) ((rd_T71 l0 x12_1).f3) ((rd_T71 l0 x12_1).f4) ((rd_T71 l0 x12_1).f5)).bind fun bt276 => (if bt276.1 ≥ 0 then (some false) else (impl_FlowsOK.l0 kj5 l0 (l0.length : Int) (wrap64 (x12_1 + 1))))) else (none)) else (none)) else (none)) = some r := by rw [if_neg (show ¬ (false = true) by decide)] at H; exact H
                    clear H
                    have H := H1
                    clear H1
                    by_cases c16 : 0 ≤ x12_1
                    · rw [if_pos c16] at H
                      have c16b0 := eq_true c16
                      have c16b1 : decide (0 ≤ x12_1) = true := decide_eq_true c16
                      clear c16
                      by_cases c17 : x12_1 ≤ (l0.length : Int)
                      · rw [if_pos c17] at H
                        have c17b0 := eq_true c17
                        have c17b1 : decide (x12_1 ≤ (l0.length : Int)) = true := decide_eq_true c17
                        clear c17
                        obtain ⟨y267, hy267⟩ : ∃ y_ : List (S71), y_ = (l0.take (x12_1 : Int).toNat) := ⟨_, rfl⟩
                        replace H : (if x12_1 < (l0.length : Int) then ((impl_find.f kj5 y267 ((rd_T71 l0 x12_1).f0) ((rd_T71 l0 x12_1).f2) ((rd_T71 l0 x12_1).f3) ((rd_T71 l0 x12_1).f4) ((rd_T71 l0 x12_1).f5)).bind fun bt276 => (if bt276.1 ≥ 0 then (some false) else (impl_FlowsOK.l0 kj5 l0 (l0.length : Int) (wrap64 (x12_1 + 1))))) else (none)) = some r := by first | (rw [hy267]; with_reducible exact H) | (have H2_ := (Option.bind_some _ _).symm.trans H; rw [hy267]; with_reducible exact H2_) | (have H2_ := (Option.bind_some _ _).symm.trans H; with_reducible exact H2_) | with_reducible exact H | (rw [hy267]; exact H) | exact H
                        have Ny267 := Aside0.mk hy267
                        clear hy267
                        by_cases c18 : x12_1 < (l0.length : Int)
                        · rw [if_pos c18] at H
                          have c18b0 : decide (x12_1 < (l0.length : Int)) = true := decide_eq_true c18
                          clear c18
                          replace H := Option.bind_eq_some_iff.mp H
                          obtain ⟨⟨t276, t277⟩, A190, H⟩ := H
                          replace H : (if t276 ≥ 0 then (some false) else (impl_FlowsOK.l0 kj5 l0 (l0.length : Int) (wrap64 (x12_1 + 1)))) = some r := H
                          have A19 := Aside0.mk A190
                          clear A190
                          by_cases c20 : t276 ≥ 0
                          · rw [if_pos c20] at H
                            have c20b0 : decide (0 ≤ t276) = true := decide_eq_true c20
                            clear c20
                            obtain rfl := Option.some.inj H
                            try go_wp2
                            have n0_ := Aside0.mk (below_drew1 HB.out)
                            clear HB
                            have HB := n0_
                            clear n0_
                            have q22 : (x12_1 : Int) ≤ ((l0.length : Int) : Int) := of_decide_eq_true (by first | (with_reducible assumption) | assumption)
                            obtain ⟨i022, hi022, _, hsz22, _⟩ := info_parts info71
                            have hroom22 : l0.length ≤ c0 := HC0.out
                            have hC22 : Kd.C k71 _ (some ad260) l0.length l0 := HR0.out
                            have hcut22 := cut_to (P := Try.prog) 40 71 .i64 Try.underlying40 hi022 (some ad260) l0.length c0 x12_1 (of_decide_eq_true (by first | (with_reducible assumption) | assumption)) q22 hroom22
                            have hr22 := Kd.C_take (m := (x12_1 : Int).toNat) hC22 (by omega)
                            have hy22 : y267.length = (x12_1 : Int).toNat := (by rw [Ny267.out, List.length_take]; omega)
                            rw [← Ny267.out] at hr22
                            rw [← hy22] at hcut22
                            have HR270 := Aside0.mk hr22
                            have HC270 := Aside0.mk (show y267.length ≤ c0 from by omega)
                            clear hr22 hC22 hroom22 hi022 hsz22
                            have KY22 := Aside0.mk hy22
                            clear hy22
                            replace q22 := eq_true q22
                            have p271 : 0 ≤ (x12_1 : Int) := of_decide_eq_true (by first | (with_reducible assumption) | assumption)
                            have q271 : x12_1 < (l0.length : Int) := of_decide_eq_true (by first | (with_reducible assumption) | assumption)
                            obtain ⟨ad271, e271, hx271_0, hx271_1, hx271_2, hx271_3, hx271_4, hx271_5, hx271_6, hx271_7, hx271_8⟩ := at_T71 HR0.out x12_1 p271 q271
                            have hw271_8 := hx271_8
                            have hw271_7 := hx271_7
                            have hw271_6 := hx271_6
                            have hw271_5 := hx271_5
                            have hw271_4 := hx271_4
                            have hw271_3 := hx271_3
                            have hw271_2 := hx271_2
                            have hw271_1 := hx271_1
                            have hw271_0 := hx271_0
                            obtain rfl : ad260 = ad271 := (by injection e271)
                            replace hx271_0 := (HB.out.cell (World.block_lt_of_cell? w _ hx271_0)).trans hx271_0
                            replace hx271_1 := (HB.out.cell (World.block_lt_of_cell? w _ hx271_1)).trans hx271_1
                            replace hx271_2 := (HB.out.cell (World.block_lt_of_cell? w _ hx271_2)).trans hx271_2
                            replace hx271_3 := (HB.out.cell (World.block_lt_of_cell? w _ hx271_3)).trans hx271_3
                            replace hx271_4 := (HB.out.cell (World.block_lt_of_cell? w _ hx271_4)).trans hx271_4
                            replace hx271_5 := (HB.out.cell (World.block_lt_of_cell? w _ hx271_5)).trans hx271_5
                            replace hx271_6 := (HB.out.cell (World.block_lt_of_cell? w _ hx271_6)).trans hx271_6
                            replace hx271_7 := (HB.out.cell (World.block_lt_of_cell? w _ hx271_7)).trans hx271_7
                            replace hx271_8 := (HB.out.cell (World.block_lt_of_cell? w _ hx271_8)).trans hx271_8
                            replace p271 := eq_true p271
                            replace q271 := eq_true q271
                            have p272 : 0 ≤ (x12_1 : Int) := of_decide_eq_true (by first | (with_reducible assumption) | assumption)
                            have q272 : x12_1 < (l0.length : Int) := of_decide_eq_true (by first | (with_reducible assumption) | assumption)
                            obtain ⟨ad272, e272, hx272_0, hx272_1, hx272_2, hx272_3, hx272_4, hx272_5, hx272_6, hx272_7, hx272_8⟩ := at_T71 HR0.out x12_1 p272 q272
                            have hw272_8 := hx272_8
                            have hw272_7 := hx272_7
                            have hw272_6 := hx272_6
                            have hw272_5 := hx272_5
                            have hw272_4 := hx272_4
                            have hw272_3 := hx272_3
                            have hw272_2 := hx272_2
                            have hw272_1 := hx272_1
                            have hw272_0 := hx272_0
                            obtain rfl : ad260 = ad272 := (by injection e272)
                            replace hx272_0 := (HB.out.cell (World.block_lt_of_cell? w _ hx272_0)).trans hx272_0
                            replace hx272_1 := (HB.out.cell (World.block_lt_of_cell? w _ hx272_1)).trans hx272_1
                            replace hx272_2 := (HB.out.cell (World.block_lt_of_cell? w _ hx272_2)).trans hx272_2
                            replace hx272_3 := (HB.out.cell (World.block_lt_of_cell? w _ hx272_3)).trans hx272_3
                            replace hx272_4 := (HB.out.cell (World.block_lt_of_cell? w _ hx272_4)).trans hx272_4
                            replace hx272_5 := (HB.out.cell (World.block_lt_of_cell? w _ hx272_5)).trans hx272_5
                            replace hx272_6 := (HB.out.cell (World.block_lt_of_cell? w _ hx272_6)).trans hx272_6
                            replace hx272_7 := (HB.out.cell (World.block_lt_of_cell? w _ hx272_7)).trans hx272_7
                            replace hx272_8 := (HB.out.cell (World.block_lt_of_cell? w _ hx272_8)).trans hx272_8
                            replace p272 := eq_true p272
                            replace q272 := eq_true q272
                            have p273 : 0 ≤ (x12_1 : Int) := of_decide_eq_true (by first | (with_reducible assumption) | assumption)
                            have q273 : x12_1 < (l0.length : Int) := of_decide_eq_true (by first | (with_reducible assumption) | assumption)
                            obtain ⟨ad273, e273, hx273_0, hx273_1, hx273_2, hx273_3, hx273_4, hx273_5, hx273_6, hx273_7, hx273_8⟩ := at_T71 HR0.out x12_1 p273 q273
                            have hw273_8 := hx273_8
                            have hw273_7 := hx273_7
                            have hw273_6 := hx273_6
                            have hw273_5 := hx273_5
                            have hw273_4 := hx273_4
                            have hw273_3 := hx273_3
                            have hw273_2 := hx273_2
                            have hw273_1 := hx273_1
                            have hw273_0 := hx273_0
                            obtain rfl : ad260 = ad273 := (by injection e273)
                            replace hx273_0 := (HB.out.cell (World.block_lt_of_cell? w _ hx273_0)).trans hx273_0
                            replace hx273_1 := (HB.out.cell (World.block_lt_of_cell? w _ hx273_1)).trans hx273_1
                            replace hx273_2 := (HB.out.cell (World.block_lt_of_cell? w _ hx273_2)).trans hx273_2
                            replace hx273_3 := (HB.out.cell (World.block_lt_of_cell? w _ hx273_3)).trans hx273_3
                            replace hx273_4 := (HB.out.cell (World.block_lt_of_cell? w _ hx273_4)).trans hx273_4
                            replace hx273_5 := (HB.out.cell (World.block_lt_of_cell? w _ hx273_5)).trans hx273_5
                            replace hx273_6 := (HB.out.cell (World.block_lt_of_cell? w _ hx273_6)).trans hx273_6
                            replace hx273_7 := (HB.out.cell (World.block_lt_of_cell? w _ hx273_7)).trans hx273_7
                            replace hx273_8 := (HB.out.cell (World.block_lt_of_cell? w _ hx273_8)).trans hx273_8
                            replace p273 := eq_true p273
                            replace q273 := eq_true q273
                            have p274 : 0 ≤ (x12_1 : Int) := of_decide_eq_true (by first | (with_reducible assumption) | assumption)
                            have q274 : x12_1 < (l0.length : Int) := of_decide_eq_true (by first | (with_reducible assumption) | assumption)
                            obtain ⟨ad274, e274, hx274_0, hx274_1, hx274_2, hx274_3, hx274_4, hx274_5, hx274_6, hx274_7, hx274_8⟩ := at_T71 HR0.out x12_1 p274 q274
                            have hw274_8 := hx274_8
                            have hw274_7 := hx274_7
                            have hw274_6 := hx274_6
                            have hw274_5 := hx274_5
                            have hw274_4 := hx274_4
                            have hw274_3 := hx274_3
                            have hw274_2 := hx274_2
                            have hw274_1 := hx274_1
                            have hw274_0 := hx274_0
                            obtain rfl : ad260 = ad274 := (by injection e274)
                            replace hx274_0 := (HB.out.cell (World.block_lt_of_cell? w _ hx274_0)).trans hx274_0
                            replace hx274_1 := (HB.out.cell (World.block_lt_of_cell? w _ hx274_1)).trans hx274_1
                            replace hx274_2 := (HB.out.cell (World.block_lt_of_cell? w _ hx274_2)).trans hx274_2
                            replace hx274_3 := (HB.out.cell (World.block_lt_of_cell? w _ hx274_3)).trans hx274_3
                            replace hx274_4 := (HB.out.cell (World.block_lt_of_cell? w _ hx274_4)).trans hx274_4
                            replace hx274_5 := (HB.out.cell (World.block_lt_of_cell? w _ hx274_5)).trans hx274_5
                            replace hx274_6 := (HB.out.cell (World.block_lt_of_cell? w _ hx274_6)).trans hx274_6
                            replace hx274_7 := (HB.out.cell (World.block_lt_of_cell? w _ hx274_7)).trans hx274_7
                            replace hx274_8 := (HB.out.cell (World.block_lt_of_cell? w _ hx274_8)).trans hx274_8
                            replace p274 := eq_true p274
                            replace q274 := eq_true q274
                            have p275 : 0 ≤ (x12_1 : Int) := of_decide_eq_true (by first | (with_reducible assumption) | assumption)
                            have q275 : x12_1 < (l0.length : Int) := of_decide_eq_true (by first | (with_reducible assumption) | assumption)
                            obtain ⟨ad275, e275, hx275_0, hx275_1, hx275_2, hx275_3, hx275_4, hx275_5, hx275_6, hx275_7, hx275_8⟩ := at_T71 HR0.out x12_1 p275 q275
                            have hw275_8 := hx275_8
                            have hw275_7 := hx275_7
                            have hw275_6 := hx275_6
                            have hw275_5 := hx275_5
                            have hw275_4 := hx275_4
                            have hw275_3 := hx275_3
                            have hw275_2 := hx275_2
                            have hw275_1 := hx275_1
                            have hw275_0 := hx275_0
                            obtain rfl : ad260 = ad275 := (by injection e275)
                            replace hx275_0 := (HB.out.cell (World.block_lt_of_cell? w _ hx275_0)).trans hx275_0
                            replace hx275_1 := (HB.out.cell (World.block_lt_of_cell? w _ hx275_1)).trans hx275_1
                            replace hx275_2 := (HB.out.cell (World.block_lt_of_cell? w _ hx275_2)).trans hx275_2
                            replace hx275_3 := (HB.out.cell (World.block_lt_of_cell? w _ hx275_3)).trans hx275_3
                            replace hx275_4 := (HB.out.cell (World.block_lt_of_cell? w _ hx275_4)).trans hx275_4
                            replace hx275_5 := (HB.out.cell (World.block_lt_of_cell? w _ hx275_5)).trans hx275_5
                            replace hx275_6 := (HB.out.cell (World.block_lt_of_cell? w _ hx275_6)).trans hx275_6
                            replace hx275_7 := (HB.out.cell (World.block_lt_of_cell? w _ hx275_7)).trans hx275_7
                            replace hx275_8 := (HB.out.cell (World.block_lt_of_cell? w _ hx275_8)).trans hx275_8
                            replace p275 := eq_true p275
                            replace q275 := eq_true q275
                            refine start_ (n := 29) (S := fun w' => w'.cell? (ad260.add ((x12_1).toNat * 9)) = some (.int .i64 ((rd_T71 l0 x12_1).f0)) ∧ w'.cell? ⟨(ad260.add ((x12_1).toNat * 9)).block, (ad260.add ((x12_1).toNat * 9)).off + 1, none⟩ = some (.string ((rd_T71 l0 x12_1).f1)) ∧ w'.cell? ⟨(ad260.add ((x12_1).toNat * 9)).block, (ad260.add ((x12_1).toNat * 9)).off + 2, none⟩ = some (.int .i64 ((rd_T71 l0 x12_1).f2)) ∧ w'.cell? ⟨(ad260.add ((x12_1).toNat * 9)).block, (ad260.add ((x12_1).toNat * 9)).off + 3, none⟩ = some (.int .i64 ((rd_T71 l0 x12_1).f3)) ∧ w'.cell? ⟨(ad260.add ((x12_1).toNat * 9)).block, (ad260.add ((x12_1).toNat * 9)).off + 4, none⟩ = some (.int .i64 ((rd_T71 l0 x12_1).f4)) ∧ w'.cell? ⟨(ad260.add ((x12_1).toNat * 9)).block, (ad260.add ((x12_1).toNat * 9)).off + 5, none⟩ = some (.int .i64 ((rd_T71 l0 x12_1).f5)) ∧ w'.cell? ⟨(ad260.add ((x12_1).toNat * 9)).block, (ad260.add ((x12_1).toNat * 9)).off + 6, none⟩ = some (.int .i64 ((rd_T71 l0 x12_1).f6)) ∧ w'.cell? ⟨(ad260.add ((x12_1).toNat * 9)).block, (ad260.add ((x12_1).toNat * 9)).off + 7, none⟩ = some (.int .i64 ((rd_T71 l0 x12_1).f7)) ∧ w'.cell? ⟨(ad260.add ((x12_1).toNat * 9)).block, (ad260.add ((x12_1).toNat * 9)).off + 8, none⟩ = some (.int .i64 ((rd_T71 l0 x12_1).f8)) ∧ w'.cell? (ad260.add ((x12_1).toNat * 9)) = some (.int .i64 ((rd_T71 l0 x12_1).f0)) ∧ w'.cell? ⟨(ad260.add ((x12_1).toNat * 9)).block, (ad260.add ((x12_1).toNat * 9)).off + 1, none⟩ = some (.string ((rd_T71 l0 x12_1).f1)) ∧ w'.cell? ⟨(ad260.add ((x12_1).toNat * 9)).block, (ad260.add ((x12_1).toNat * 9)).off + 2, none⟩ = some (.int .i64 ((rd_T71 l0 x12_1).f2)) ∧ w'.cell? ⟨(ad260.add ((x12_1).toNat * 9)).block, (ad260.add ((x12_1).toNat * 9)).off + 3, none⟩ = some (.int .i64 ((rd_T71 l0 x12_1).f3)) ∧ w'.cell? ⟨(ad260.add ((x12_1).toNat * 9)).block, (ad260.add ((x12_1).toNat * 9)).off + 4, none⟩ = some (.int .i64 ((rd_T71 l0 x12_1).f4)) ∧ w'.cell? ⟨(ad260.add ((x12_1).toNat * 9)).block, (ad260.add ((x12_1).toNat * 9)).off + 5, none⟩ = some (.int .i64 ((rd_T71 l0 x12_1).f5)) ∧ w'.cell? ⟨(ad260.add ((x12_1).toNat * 9)).block, (ad260.add ((x12_1).toNat * 9)).off + 6, none⟩ = some (.int .i64 ((rd_T71 l0 x12_1).f6)) ∧ w'.cell? ⟨(ad260.add ((x12_1).toNat * 9)).block, (ad260.add ((x12_1).toNat * 9)).off + 7, none⟩ = some (.int .i64 ((rd_T71 l0 x12_1).f7)) ∧ w'.cell? ⟨(ad260.add ((x12_1).toNat * 9)).block, (ad260.add ((x12_1).toNat * 9)).off + 8, none⟩ = some (.int .i64 ((rd_T71 l0 x12_1).f8)) ∧ w'.cell? (ad260.add ((x12_1).toNat * 9)) = some (.int .i64 ((rd_T71 l0 x12_1).f0)) ∧ w'.cell? ⟨(ad260.add ((x12_1).toNat * 9)).block, (ad260.add ((x12_1).toNat * 9)).off + 1, none⟩ = some (.string ((rd_T71 l0 x12_1).f1)) ∧ w'.cell? ⟨(ad260.add ((x12_1).toNat * 9)).block, (ad260.add ((x12_1).toNat * 9)).off + 2, none⟩ = some (.int .i64 ((rd_T71 l0 x12_1).f2)) ∧ w'.cell? ⟨(ad260.add ((x12_1).toNat * 9)).block, (ad260.add ((x12_1).toNat * 9)).off + 3, none⟩ = some (.int .i64 ((rd_T71 l0 x12_1).f3)) ∧ w'.cell? ⟨(ad260.add ((x12_1).toNat * 9)).block, (ad260.add ((x12_1).toNat * 9)).off + 4, none⟩ = some (.int .i64 ((rd_T71 l0 x12_1).f4)) ∧ w'.cell? ⟨(ad260.add ((x12_1).toNat * 9)).block, (ad260.add ((x12_1).toNat * 9)).off + 5, none⟩ = some (.int .i64 ((rd_T71 l0 x12_1).f5)) ∧ w'.cell? ⟨(ad260.add ((x12_1).toNat * 9)).block, (ad260.add ((x12_1).toNat * 9)).off + 6, none⟩ = some (.int .i64 ((rd_T71 l0 x12_1).f6)) ∧ w'.cell? ⟨(ad260.add ((x12_1).toNat * 9)).block, (ad260.add ((x12_1).toNat * 9)).off + 7, none⟩ = some (.int .i64 ((rd_T71 l0 x12_1).f7)) ∧ w'.cell? ⟨(ad260.add ((x12_1).toNat * 9)).block, (ad260.add ((x12_1).toNat * 9)).off + 8, none⟩ = some (.int .i64 ((rd_T71 l0 x12_1).f8)) ∧ w'.cell? (ad260.add ((x12_1).toNat * 9)) = some (.int .i64 ((rd_T71 l0 x12_1).f0)) ∧ w'.cell? ⟨(ad260.add ((x12_1).toNat * 9)).block, (ad260.add ((x12_1).toNat * 9)).off + 1, none⟩ = some (.string ((rd_T71 l0 x12_1).f1)) ∧ w'.cell? ⟨(ad260.add ((x12_1).toNat * 9)).block, (ad260.add ((x12_1).toNat * 9)).off + 2, none⟩ = some (.int .i64 ((rd_T71 l0 x12_1).f2)) ∧ w'.cell? ⟨(ad260.add ((x12_1).toNat * 9)).block, (ad260.add ((x12_1).toNat * 9)).off + 3, none⟩ = some (.int .i64 ((rd_T71 l0 x12_1).f3)) ∧ w'.cell? ⟨(ad260.add ((x12_1).toNat * 9)).block, (ad260.add ((x12_1).toNat * 9)).off + 4, none⟩ = some (.int .i64 ((rd_T71 l0 x12_1).f4)) ∧ w'.cell? ⟨(ad260.add ((x12_1).toNat * 9)).block, (ad260.add ((x12_1).toNat * 9)).off + 5, none⟩ = some (.int .i64 ((rd_T71 l0 x12_1).f5)) ∧ w'.cell? ⟨(ad260.add ((x12_1).toNat * 9)).block, (ad260.add ((x12_1).toNat * 9)).off + 6, none⟩ = some (.int .i64 ((rd_T71 l0 x12_1).f6)) ∧ w'.cell? ⟨(ad260.add ((x12_1).toNat * 9)).block, (ad260.add ((x12_1).toNat * 9)).off + 7, none⟩ = some (.int .i64 ((rd_T71 l0 x12_1).f7)) ∧ w'.cell? ⟨(ad260.add ((x12_1).toNat * 9)).block, (ad260.add ((x12_1).toNat * 9)).off + 8, none⟩ = some (.int .i64 ((rd_T71 l0 x12_1).f8)) ∧ w'.cell? (ad260.add ((x12_1).toNat * 9)) = some (.int .i64 ((rd_T71 l0 x12_1).f0)) ∧ w'.cell? ⟨(ad260.add ((x12_1).toNat * 9)).block, (ad260.add ((x12_1).toNat * 9)).off + 1, none⟩ = some (.string ((rd_T71 l0 x12_1).f1)) ∧ w'.cell? ⟨(ad260.add ((x12_1).toNat * 9)).block, (ad260.add ((x12_1).toNat * 9)).off + 2, none⟩ = some (.int .i64 ((rd_T71 l0 x12_1).f2)) ∧ w'.cell? ⟨(ad260.add ((x12_1).toNat * 9)).block, (ad260.add ((x12_1).toNat * 9)).off + 3, none⟩ = some (.int .i64 ((rd_T71 l0 x12_1).f3)) ∧ w'.cell? ⟨(ad260.add ((x12_1).toNat * 9)).block, (ad260.add ((x12_1).toNat * 9)).off + 4, none⟩ = some (.int .i64 ((rd_T71 l0 x12_1).f4)) ∧ w'.cell? ⟨(ad260.add ((x12_1).toNat * 9)).block, (ad260.add ((x12_1).toNat * 9)).off + 5, none⟩ = some (.int .i64 ((rd_T71 l0 x12_1).f5)) ∧ w'.cell? ⟨(ad260.add ((x12_1).toNat * 9)).block, (ad260.add ((x12_1).toNat * 9)).off + 6, none⟩ = some (.int .i64 ((rd_T71 l0 x12_1).f6)) ∧ w'.cell? ⟨(ad260.add ((x12_1).toNat * 9)).block, (ad260.add ((x12_1).toNat * 9)).off + 7, none⟩ = some (.int .i64 ((rd_T71 l0 x12_1).f7)) ∧ w'.cell? ⟨(ad260.add ((x12_1).toNat * 9)).block, (ad260.add ((x12_1).toNat * 9)).off + 8, none⟩ = some (.int .i64 ((rd_T71 l0 x12_1).f8))) (ds := []) #[false, false, false, false, false, false, false, false, false, false, false, false, false, false, false, false, false, false, false, false, false, false, false, false, false, false, false, false, false] (by kernel_rfl) rfl rfl ⟨((HB.out.cell (World.block_lt_of_cell? w _ hw271_0)).trans hw271_0), ((HB.out.cell (World.block_lt_of_cell? w _ hw271_1)).trans hw271_1), ((HB.out.cell (World.block_lt_of_cell? w _ hw271_2)).trans hw271_2), ((HB.out.cell (World.block_lt_of_cell? w _ hw271_3)).trans hw271_3), ((HB.out.cell (World.block_lt_of_cell? w _ hw271_4)).trans hw271_4), ((HB.out.cell (World.block_lt_of_cell? w _ hw271_5)).trans hw271_5), ((HB.out.cell (World.block_lt_of_cell? w _ hw271_6)).trans hw271_6), ((HB.out.cell (World.block_lt_of_cell? w _ hw271_7)).trans hw271_7), ((HB.out.cell (World.block_lt_of_cell? w _ hw271_8)).trans hw271_8), ((HB.out.cell (World.block_lt_of_cell? w _ hw272_0)).trans hw272_0), ((HB.out.cell (World.block_lt_of_cell? w _ hw272_1)).trans hw272_1), ((HB.out.cell (World.block_lt_of_cell? w _ hw272_2)).trans hw272_2), ((HB.out.cell (World.block_lt_of_cell? w _ hw272_3)).trans hw272_3), ((HB.out.cell (World.block_lt_of_cell? w _ hw272_4)).trans hw272_4), ((HB.out.cell (World.block_lt_of_cell? w _ hw272_5)).trans hw272_5), ((HB.out.cell (World.block_lt_of_cell? w _ hw272_6)).trans hw272_6), ((HB.out.cell (World.block_lt_of_cell? w _ hw272_7)).trans hw272_7), ((HB.out.cell (World.block_lt_of_cell? w _ hw272_8)).trans hw272_8), ((HB.out.cell (World.block_lt_of_cell? w _ hw273_0)).trans hw273_0), ((HB.out.cell (World.block_lt_of_cell? w _ hw273_1)).trans hw273_1), ((HB.out.cell (World.block_lt_of_cell? w _ hw273_2)).trans hw273_2), ((HB.out.cell (World.block_lt_of_cell? w _ hw273_3)).trans hw273_3), ((HB.out.cell (World.block_lt_of_cell? w _ hw273_4)).trans hw273_4), ((HB.out.cell (World.block_lt_of_cell? w _ hw273_5)).trans hw273_5), ((HB.out.cell (World.block_lt_of_cell? w _ hw273_6)).trans hw273_6), ((HB.out.cell (World.block_lt_of_cell? w _ hw273_7)).trans hw273_7), ((HB.out.cell (World.block_lt_of_cell? w _ hw273_8)).trans hw273_8), ((HB.out.cell (World.block_lt_of_cell? w _ hw274_0)).trans hw274_0), ((HB.out.cell (World.block_lt_of_cell? w _ hw274_1)).trans hw274_1), ((HB.out.cell (World.block_lt_of_cell? w _ hw274_2)).trans hw274_2), ((HB.out.cell (World.block_lt_of_cell? w _ hw274_3)).trans hw274_3), ((HB.out.cell (World.block_lt_of_cell? w _ hw274_4)).trans hw274_4), ((HB.out.cell (World.block_lt_of_cell? w _ hw274_5)).trans hw274_5), ((HB.out.cell (World.block_lt_of_cell? w _ hw274_6)).trans hw274_6), ((HB.out.cell (World.block_lt_of_cell? w _ hw274_7)).trans hw274_7), ((HB.out.cell (World.block_lt_of_cell? w _ hw274_8)).trans hw274_8), ((HB.out.cell (World.block_lt_of_cell? w _ hw275_0)).trans hw275_0), ((HB.out.cell (World.block_lt_of_cell? w _ hw275_1)).trans hw275_1), ((HB.out.cell (World.block_lt_of_cell? w _ hw275_2)).trans hw275_2), ((HB.out.cell (World.block_lt_of_cell? w _ hw275_3)).trans hw275_3), ((HB.out.cell (World.block_lt_of_cell? w _ hw275_4)).trans hw275_4), ((HB.out.cell (World.block_lt_of_cell? w _ hw275_5)).trans hw275_5), ((HB.out.cell (World.block_lt_of_cell? w _ hw275_6)).trans hw275_6), ((HB.out.cell (World.block_lt_of_cell? w _ hw275_7)).trans hw275_7), ((HB.out.cell (World.block_lt_of_cell? w _ hw275_8)).trans hw275_8)⟩ (fun hHeld => ?_); refine with_tabW impl_FlowsOK.tab9 impl_FlowsOK.bits9 (fun HT_ HW_ => ?_)
                            generalize wc.drew = w21 at HB HR270 hx271_0 hx271_1 hx271_2 hx271_3 hx271_4 hx271_5 hx271_6 hx271_7 hx271_8 hx272_0 hx272_1 hx272_2 hx272_3 hx272_4 hx272_5 hx272_6 hx272_7 hx272_8 hx273_0 hx273_1 hx273_2 hx273_3 hx273_4 hx273_5 hx273_6 hx273_7 hx273_8 hx274_0 hx274_1 hx274_2 hx274_3 hx274_4 hx274_5 hx274_6 hx274_7 hx274_8 hx275_0 hx275_1 hx275_2 hx275_3 hx275_4 hx275_5 hx275_6 hx275_7 hx275_8 hHeld ⊢
                            refine pure_ (i := 0) (N := some 38) (v := ?_) (a' := ?_) #[true, false, false, false, false, false, false, false, false, false, false, false, false, false, false, false, false, false, false, false, false, false, false, false, false, false, false, false, false] rfl rfl (any_of HT_.out (by kernel_rfl)) (fun _ _ _ h => h) (Or.inl ⟨by rfl, ?_⟩) ?_ ?_
                            rotate_left
                            · intro w'
                              go_simp
                              with_reducible rfl
                            rotate_left
                            · simp only [Act.put, List.setIfInBounds_toArray, List.set_cons_zero, List.set_cons_succ, i64_w, i32_w]
                              rfl
                            refine pure_ (i := 1) (N := some 39) (v := ?_) (a' := ?_) #[true, true, false, false, false, false, false, false, false, false, false, false, false, false, false, false, false, false, false, false, false, false, false, false, false, false, false, false, false] rfl rfl (any_of HT_.out (by kernel_rfl)) (fun _ _ _ h => h) (Or.inl ⟨by rfl, ?_⟩) ?_ ?_
                            rotate_left
                            · intro w'
                              go_simp
                              with_reducible rfl
                            rotate_left
                            · simp only [Act.put, List.setIfInBounds_toArray, List.set_cons_zero, List.set_cons_succ, i64_w, i32_w]
                              rfl
                            refine pure_ (i := 2) (N := some 40) (v := ?_) (a' := ?_) #[true, true, true, false, false, false, false, false, false, false, false, false, false, false, false, false, false, false, false, false, false, false, false, false, false, false, false, false, false] rfl rfl (any_of HT_.out (by kernel_rfl)) (fun _ _ _ h => h) (Or.inl ⟨by rfl, ?_⟩) ?_ ?_
                            rotate_left
                            · intro w'
                              go_simp
                              with_reducible rfl
                            rotate_left
                            · simp only [Act.put, List.setIfInBounds_toArray, List.set_cons_zero, List.set_cons_succ, i64_w, i32_w]
                              rfl
                            refine pure_ (i := 3) (N := some 41) (v := ?_) (a' := ?_) #[true, true, true, true, false, false, false, false, false, false, false, false, false, false, false, false, false, false, false, false, false, false, false, false, false, false, false, false, false] rfl rfl (any_of HT_.out (by kernel_rfl)) (fun _ _ _ h => h) (Or.inl ⟨by rfl, ?_⟩) ?_ ?_
                            rotate_left
                            · intro w'
                              go_simp
                              with_reducible rfl
                            rotate_left
                            · simp only [Act.put, List.setIfInBounds_toArray, List.set_cons_zero, List.set_cons_succ, i64_w, i32_w]
                              rfl
                            refine pure_ (i := 4) (N := some 42) (v := ?_) (a' := ?_) #[true, true, true, true, true, false, false, false, false, false, false, false, false, false, false, false, false, false, false, false, false, false, false, false, false, false, false, false, false] rfl rfl (any_of HT_.out (by kernel_rfl)) (fun _ _ _ h => h) (Or.inl ⟨by rfl, ?_⟩) ?_ ?_
                            rotate_left
                            · intro w'
                              go_simp
                              with_reducible rfl
                            rotate_left
                            · simp only [Act.put, List.setIfInBounds_toArray, List.set_cons_zero, List.set_cons_succ, i64_w, i32_w]
                              rfl
                            refine pure_ (i := 5) (N := some 43) (v := ?_) (a' := ?_) #[true, true, true, true, true, true, false, false, false, false, false, false, false, false, false, false, false, false, false, false, false, false, false, false, false, false, false, false, false] rfl rfl (any_of HT_.out (by kernel_rfl)) (fun _ _ _ h => h) (Or.inl ⟨by rfl, ?_⟩) ?_ ?_
                            rotate_left
                            · intro w'
                              go_simp
                              with_reducible rfl
                            rotate_left
                            · simp only [Act.put, List.setIfInBounds_toArray, List.set_cons_zero, List.set_cons_succ, i64_w, i32_w]
                              rfl
                            refine pure_ (i := 7) (N := some 45) (v := ?_) (a' := ?_) #[true, true, true, true, true, true, false, true, false, false, false, false, false, false, false, false, false, false, false, false, false, false, false, false, false, false, false, false, false] rfl rfl (any_of HT_.out (by kernel_rfl)) (fun _ _ _ h => h) (Or.inl ⟨by rfl, ?_⟩) ?_ ?_
                            rotate_left
                            · intro w'
                              go_simp
                              with_reducible rfl
                            rotate_left
                            · simp only [Act.put, List.setIfInBounds_toArray, List.set_cons_zero, List.set_cons_succ, i64_w, i32_w]
                              rfl
                            refine pure_ (i := 8) (N := some 46) (v := ?_) (a' := ?_) #[true, true, true, true, true, true, false, true, true, false, false, false, false, false, false, false, false, false, false, false, false, false, false, false, false, false, false, false, false] rfl rfl (any_of HT_.out (by kernel_rfl)) (fun _ _ _ h => h) (Or.inl ⟨by rfl, ?_⟩) ?_ ?_
                            rotate_left
                            · intro w'
                              go_simp
                              with_reducible rfl
                            rotate_left
                            · simp only [Act.put, List.setIfInBounds_toArray, List.set_cons_zero, List.set_cons_succ, i64_w, i32_w]
                              rfl
                            refine pure_ (i := 9) (N := some 47) (v := ?_) (a' := ?_) #[true, true, true, true, true, true, false, true, true, true, false, false, false, false, false, false, false, false, false, false, false, false, false, false, false, false, false, false, false] rfl rfl (any_of HT_.out (by kernel_rfl)) (fun _ _ _ h => h) (Or.inl ⟨by rfl, ?_⟩) ?_ ?_
                            rotate_left
                            · intro w'
                              go_simp
                              with_reducible rfl
                            rotate_left
                            · simp only [Act.put, List.setIfInBounds_toArray, List.set_cons_zero, List.set_cons_succ, i64_w, i32_w]
                              rfl
                            refine pure_ (i := 11) (N := some 49) (v := ?_) (a' := ?_) #[true, true, true, true, true, true, false, true, true, true, false, true, false, false, false, false, false, false, false, false, false, false, false, false, false, false, false, false, false] rfl rfl (any_of HT_.out (by kernel_rfl)) (fun _ _ _ h => h) (Or.inl ⟨by rfl, ?_⟩) ?_ ?_
                            rotate_left
                            · intro w'
                              go_simp
                              with_reducible rfl
                            rotate_left
                            · simp only [Act.put, List.setIfInBounds_toArray, List.set_cons_zero, List.set_cons_succ, i64_w, i32_w]
                              rfl
                            refine pure_ (i := 12) (N := some 50) (v := ?_) (a' := ?_) #[true, true, true, true, true, true, false, true, true, true, false, true, true, false, false, false, false, false, false, false, false, false, false, false, false, false, false, false, false] rfl rfl (any_of HT_.out (by kernel_rfl)) (fun _ _ _ h => h) (Or.inl ⟨by rfl, ?_⟩) ?_ ?_
                            rotate_left
                            · intro w'
                              go_simp
                              with_reducible rfl
                            rotate_left
                            · simp only [Act.put, List.setIfInBounds_toArray, List.set_cons_zero, List.set_cons_succ, i64_w, i32_w]
                              rfl
                            refine pure_ (i := 13) (N := some 51) (v := ?_) (a' := ?_) #[true, true, true, true, true, true, false, true, true, true, false, true, true, true, false, false, false, false, false, false, false, false, false, false, false, false, false, false, false] rfl rfl (any_of HT_.out (by kernel_rfl)) (fun _ _ _ h => h) (Or.inl ⟨by rfl, ?_⟩) ?_ ?_
                            rotate_left
                            · intro w'
                              go_simp
                              with_reducible rfl
                            rotate_left
                            · simp only [Act.put, List.setIfInBounds_toArray, List.set_cons_zero, List.set_cons_succ, i64_w, i32_w]
                              rfl
                            refine pure_ (i := 15) (N := some 53) (v := ?_) (a' := ?_) #[true, true, true, true, true, true, false, true, true, true, false, true, true, true, false, true, false, false, false, false, false, false, false, false, false, false, false, false, false] rfl rfl (any_of HT_.out (by kernel_rfl)) (fun _ _ _ h => h) (Or.inl ⟨by rfl, ?_⟩) ?_ ?_
                            rotate_left
                            · intro w'
                              go_simp
                              with_reducible rfl
                            rotate_left
                            · simp only [Act.put, List.setIfInBounds_toArray, List.set_cons_zero, List.set_cons_succ, i64_w, i32_w]
                              rfl
                            refine pure_ (i := 16) (N := some 54) (v := ?_) (a' := ?_) #[true, true, true, true, true, true, false, true, true, true, false, true, true, true, false, true, true, false, false, false, false, false, false, false, false, false, false, false, false] rfl rfl (any_of HT_.out (by kernel_rfl)) (fun _ _ _ h => h) (Or.inl ⟨by rfl, ?_⟩) ?_ ?_
                            rotate_left
                            · intro w'
                              go_simp
                              with_reducible rfl
                            rotate_left
                            · simp only [Act.put, List.setIfInBounds_toArray, List.set_cons_zero, List.set_cons_succ, i64_w, i32_w]
                              rfl
                            refine pure_ (i := 17) (N := some 55) (v := ?_) (a' := ?_) #[true, true, true, true, true, true, false, true, true, true, false, true, true, true, false, true, true, true, false, false, false, false, false, false, false, false, false, false, false] rfl rfl (any_of HT_.out (by kernel_rfl)) (fun _ _ _ h => h) (Or.inl ⟨by rfl, ?_⟩) ?_ ?_
                            rotate_left
                            · intro w'
                              go_simp
                              with_reducible rfl
                            rotate_left
                            · simp only [Act.put, List.setIfInBounds_toArray, List.set_cons_zero, List.set_cons_succ, i64_w, i32_w]
                              rfl
                            refine pure_ (i := 19) (N := some 57) (v := ?_) (a' := ?_) #[true, true, true, true, true, true, false, true, true, true, false, true, true, true, false, true, true, true, false, true, false, false, false, false, false, false, false, false, false] rfl rfl (any_of HT_.out (by kernel_rfl)) (fun _ _ _ h => h) (Or.inl ⟨by rfl, ?_⟩) ?_ ?_
                            rotate_left
                            · intro w'
                              go_simp
                              with_reducible rfl
                            rotate_left
                            · simp only [Act.put, List.setIfInBounds_toArray, List.set_cons_zero, List.set_cons_succ, i64_w, i32_w]
                              rfl
                            refine pure_ (i := 20) (N := some 58) (v := ?_) (a' := ?_) #[true, true, true, true, true, true, false, true, true, true, false, true, true, true, false, true, true, true, false, true, true, false, false, false, false, false, false, false, false] rfl rfl (any_of HT_.out (by kernel_rfl)) (fun _ _ _ h => h) (Or.inl ⟨by rfl, ?_⟩) ?_ ?_
                            rotate_left
                            · intro w'
                              go_simp
                              with_reducible rfl
                            rotate_left
                            · simp only [Act.put, List.setIfInBounds_toArray, List.set_cons_zero, List.set_cons_succ, i64_w, i32_w]
                              rfl
                            refine pure_ (i := 21) (N := some 59) (v := ?_) (a' := ?_) #[true, true, true, true, true, true, false, true, true, true, false, true, true, true, false, true, true, true, false, true, true, true, false, false, false, false, false, false, false] rfl rfl (any_of HT_.out (by kernel_rfl)) (fun _ _ _ h => h) (Or.inl ⟨by rfl, ?_⟩) ?_ ?_
                            rotate_left
                            · intro w'
                              go_simp
                              with_reducible rfl
                            rotate_left
                            · simp only [Act.put, List.setIfInBounds_toArray, List.set_cons_zero, List.set_cons_succ, i64_w, i32_w]
                              rfl
                            refine take_ (i := 6) (N := some 44) (v := ?_) (a' := ?_) #[true, true, true, true, true, true, true, true, true, true, false, true, true, true, false, true, true, true, false, true, true, true, false, false, false, false, false, false, false] rfl rfl (take_ofW HT_.out HW_.out (by kernel_rfl)) (fun _ _ _ h => h) (Or.inl ⟨by rfl, ?_⟩) hHeld ?_ ?_
                            rotate_left
                            · rintro w' ⟨s0, s1, s2, s3, s4, s5, s6, s7, s8, s9, s10, s11, s12, s13, s14, s15, s16, s17, s18, s19, s20, s21, s22, s23, s24, s25, s26, s27, s28, s29, s30, s31, s32, s33, s34, s35, s36, s37, s38, s39, s40, s41, s42, s43, s44⟩
                              go_simp
                              with_reducible rfl
                            rotate_left
                            · simp only [Act.put, List.setIfInBounds_toArray, List.set_cons_zero, List.set_cons_succ, i64_w, i32_w]
                              rfl
                            refine take_ (i := 10) (N := some 48) (v := ?_) (a' := ?_) #[true, true, true, true, true, true, true, true, true, true, true, true, true, true, false, true, true, true, false, true, true, true, false, false, false, false, false, false, false] rfl rfl (take_ofW HT_.out HW_.out (by kernel_rfl)) (fun _ _ _ h => h) (Or.inl ⟨by rfl, ?_⟩) hHeld ?_ ?_
                            rotate_left
                            · rintro w' ⟨s0, s1, s2, s3, s4, s5, s6, s7, s8, s9, s10, s11, s12, s13, s14, s15, s16, s17, s18, s19, s20, s21, s22, s23, s24, s25, s26, s27, s28, s29, s30, s31, s32, s33, s34, s35, s36, s37, s38, s39, s40, s41, s42, s43, s44⟩
                              go_simp
                              with_reducible rfl
                            rotate_left
                            · simp only [Act.put, List.setIfInBounds_toArray, List.set_cons_zero, List.set_cons_succ, i64_w, i32_w]
                              rfl
                            refine take_ (i := 14) (N := some 52) (v := ?_) (a' := ?_) #[true, true, true, true, true, true, true, true, true, true, true, true, true, true, true, true, true, true, false, true, true, true, false, false, false, false, false, false, false] rfl rfl (take_ofW HT_.out HW_.out (by kernel_rfl)) (fun _ _ _ h => h) (Or.inl ⟨by rfl, ?_⟩) hHeld ?_ ?_
                            rotate_left
                            · rintro w' ⟨s0, s1, s2, s3, s4, s5, s6, s7, s8, s9, s10, s11, s12, s13, s14, s15, s16, s17, s18, s19, s20, s21, s22, s23, s24, s25, s26, s27, s28, s29, s30, s31, s32, s33, s34, s35, s36, s37, s38, s39, s40, s41, s42, s43, s44⟩
                              go_simp
                              with_reducible rfl
                            rotate_left
                            · simp only [Act.put, List.setIfInBounds_toArray, List.set_cons_zero, List.set_cons_succ, i64_w, i32_w]
                              rfl
                            refine take_ (i := 18) (N := some 56) (v := ?_) (a' := ?_) #[true, true, true, true, true, true, true, true, true, true, true, true, true, true, true, true, true, true, true, true, true, true, false, false, false, false, false, false, false] rfl rfl (take_ofW HT_.out HW_.out (by kernel_rfl)) (fun _ _ _ h => h) (Or.inl ⟨by rfl, ?_⟩) hHeld ?_ ?_
                            rotate_left
                            · rintro w' ⟨s0, s1, s2, s3, s4, s5, s6, s7, s8, s9, s10, s11, s12, s13, s14, s15, s16, s17, s18, s19, s20, s21, s22, s23, s24, s25, s26, s27, s28, s29, s30, s31, s32, s33, s34, s35, s36, s37, s38, s39, s40, s41, s42, s43, s44⟩
                              go_simp
                              with_reducible rfl
                            rotate_left
                            · simp only [Act.put, List.setIfInBounds_toArray, List.set_cons_zero, List.set_cons_succ, i64_w, i32_w]
                              rfl
                            refine take_ (i := 22) (N := some 60) (v := ?_) (a' := ?_) #[true, true, true, true, true, true, true, true, true, true, true, true, true, true, true, true, true, true, true, true, true, true, true, false, false, false, false, false, false] rfl rfl (take_ofW HT_.out HW_.out (by kernel_rfl)) (fun _ _ _ h => h) (Or.inl ⟨by rfl, ?_⟩) hHeld ?_ ?_
                            rotate_left
                            · rintro w' ⟨s0, s1, s2, s3, s4, s5, s6, s7, s8, s9, s10, s11, s12, s13, s14, s15, s16, s17, s18, s19, s20, s21, s22, s23, s24, s25, s26, s27, s28, s29, s30, s31, s32, s33, s34, s35, s36, s37, s38, s39, s40, s41, s42, s43, s44⟩
                              go_simp
                              with_reducible rfl
                            rotate_left
                            · simp only [Act.put, List.setIfInBounds_toArray, List.set_cons_zero, List.set_cons_succ, i64_w, i32_w]
                              rfl
                            refine one_ (i := 23) (N := some 61) #[true, true, true, true, true, true, true, true, true, true, true, true, true, true, true, true, true, true, true, true, true, true, true, true, false, false, false, false, false] rfl rfl (one_of HT_.out (by kernel_rfl)) (by decide) (fun K hK => ?_)
                            refine goes_ Try.func78 (by kernel_rfl) rfl #[.slice (some ad260) y267.length c0, .int .i64 ((rd_T71 l0 x12_1).f0), .int .i64 ((rd_T71 l0 x12_1).f2), .int .i64 ((rd_T71 l0 x12_1).f3), .int .i64 ((rd_T71 l0 x12_1).f4), .int .i64 ((rd_T71 l0 x12_1).f5)] (by rfl) rfl rfl (by (try simp only [List.map_toArray, List.map_cons, List.map_nil]); first | done | rfl | (simp only [List.length_drop, List.length_take]; rfl)) ?_
                            with_reducible refine (impl_find.calls kj5 _ _ y267 ((rd_T71 l0 x12_1).f0) ((rd_T71 l0 x12_1).f2) ((rd_T71 l0 x12_1).f3) ((rd_T71 l0 x12_1).f4) ((rd_T71 l0 x12_1).f5) t276 t277 _ ?side1 ?side2 A19.out).mono ?_
                            (case side1 => repeat (first | exact (Kd.C_below HR270.out HB.out) | (with_reducible refine Kd.C_alloc ?_ _) | (with_reducible refine Kd.C_drewN ?_ _) | (with_reducible refine Kd.C_drew ?_)))
                            (case side2 => exact HC270.out)
                            rintro e w23 ⟨rfl, hb⟩
                            refine ⟨_, rfl, ?_⟩
                            have n0_ := Aside0.mk (below_step (by repeat (first | (with_reducible first | exact HB.out | apply below_alloc | apply pw_below_drewN | apply below_drew1) | exact HB.out)) hb)
                            clear HB
                            have HB := n0_
                            clear n0_
                            (try clear hb)
                            (try clear hb2)
                            (try clear hk)
                            (try clear hi)
                            refine hK.out _ _ ⟨((HB.out.cell (World.block_lt_of_cell? w _ hw271_0)).trans hw271_0), ((HB.out.cell (World.block_lt_of_cell? w _ hw271_1)).trans hw271_1), ((HB.out.cell (World.block_lt_of_cell? w _ hw271_2)).trans hw271_2), ((HB.out.cell (World.block_lt_of_cell? w _ hw271_3)).trans hw271_3), ((HB.out.cell (World.block_lt_of_cell? w _ hw271_4)).trans hw271_4), ((HB.out.cell (World.block_lt_of_cell? w _ hw271_5)).trans hw271_5), ((HB.out.cell (World.block_lt_of_cell? w _ hw271_6)).trans hw271_6), ((HB.out.cell (World.block_lt_of_cell? w _ hw271_7)).trans hw271_7), ((HB.out.cell (World.block_lt_of_cell? w _ hw271_8)).trans hw271_8), ((HB.out.cell (World.block_lt_of_cell? w _ hw272_0)).trans hw272_0), ((HB.out.cell (World.block_lt_of_cell? w _ hw272_1)).trans hw272_1), ((HB.out.cell (World.block_lt_of_cell? w _ hw272_2)).trans hw272_2), ((HB.out.cell (World.block_lt_of_cell? w _ hw272_3)).trans hw272_3), ((HB.out.cell (World.block_lt_of_cell? w _ hw272_4)).trans hw272_4), ((HB.out.cell (World.block_lt_of_cell? w _ hw272_5)).trans hw272_5), ((HB.out.cell (World.block_lt_of_cell? w _ hw272_6)).trans hw272_6), ((HB.out.cell (World.block_lt_of_cell? w _ hw272_7)).trans hw272_7), ((HB.out.cell (World.block_lt_of_cell? w _ hw272_8)).trans hw272_8), ((HB.out.cell (World.block_lt_of_cell? w _ hw273_0)).trans hw273_0), ((HB.out.cell (World.block_lt_of_cell? w _ hw273_1)).trans hw273_1), ((HB.out.cell (World.block_lt_of_cell? w _ hw273_2)).trans hw273_2), ((HB.out.cell (World.block_lt_of_cell? w _ hw273_3)).trans hw273_3), ((HB.out.cell (World.block_lt_of_cell? w _ hw273_4)).trans hw273_4), ((HB.out.cell (World.block_lt_of_cell? w _ hw273_5)).trans hw273_5), ((HB.out.cell (World.block_lt_of_cell? w _ hw273_6)).trans hw273_6), ((HB.out.cell (World.block_lt_of_cell? w _ hw273_7)).trans hw273_7), ((HB.out.cell (World.block_lt_of_cell? w _ hw273_8)).trans hw273_8), ((HB.out.cell (World.block_lt_of_cell? w _ hw274_0)).trans hw274_0), ((HB.out.cell (World.block_lt_of_cell? w _ hw274_1)).trans hw274_1), ((HB.out.cell (World.block_lt_of_cell? w _ hw274_2)).trans hw274_2), ((HB.out.cell (World.block_lt_of_cell? w _ hw274_3)).trans hw274_3), ((HB.out.cell (World.block_lt_of_cell? w _ hw274_4)).trans hw274_4), ((HB.out.cell (World.block_lt_of_cell? w _ hw274_5)).trans hw274_5), ((HB.out.cell (World.block_lt_of_cell? w _ hw274_6)).trans hw274_6), ((HB.out.cell (World.block_lt_of_cell? w _ hw274_7)).trans hw274_7), ((HB.out.cell (World.block_lt_of_cell? w _ hw274_8)).trans hw274_8), ((HB.out.cell (World.block_lt_of_cell? w _ hw275_0)).trans hw275_0), ((HB.out.cell (World.block_lt_of_cell? w _ hw275_1)).trans hw275_1), ((HB.out.cell (World.block_lt_of_cell? w _ hw275_2)).trans hw275_2), ((HB.out.cell (World.block_lt_of_cell? w _ hw275_3)).trans hw275_3), ((HB.out.cell (World.block_lt_of_cell? w _ hw275_4)).trans hw275_4), ((HB.out.cell (World.block_lt_of_cell? w _ hw275_5)).trans hw275_5), ((HB.out.cell (World.block_lt_of_cell? w _ hw275_6)).trans hw275_6), ((HB.out.cell (World.block_lt_of_cell? w _ hw275_7)).trans hw275_7), ((HB.out.cell (World.block_lt_of_cell? w _ hw275_8)).trans hw275_8)⟩ (fun hHeld => ?_)
                            clear hK K
                            refine norm_ (a' := ?_) ?_ ?_
                            rotate_left
                            · show Act.put _ (some 61) _ = _
                              simp only [Act.put, List.setIfInBounds_toArray, List.set_cons_zero, List.set_cons_succ, i64_w, i32_w]
                              rfl
                            refine pure_ (i := 24) (N := some 37) (v := ?_) (a' := ?_) #[true, true, true, true, true, true, true, true, true, true, true, true, true, true, true, true, true, true, true, true, true, true, true, true, true, false, false, false, false] rfl rfl (any_of HT_.out (by kernel_rfl)) (fun _ _ _ h => h) (Or.inl ⟨by rfl, ?_⟩) ?_ ?_
                            rotate_left
                            · intro w'
                              go_simp
                              with_reducible rfl
                            rotate_left
                            · simp only [Act.put, List.setIfInBounds_toArray, List.set_cons_zero, List.set_cons_succ, i64_w, i32_w]
                              rfl
                            refine pure_ (i := 25) (N := some 62) (v := ?_) (a' := ?_) #[true, true, true, true, true, true, true, true, true, true, true, true, true, true, true, true, true, true, true, true, true, true, true, true, true, true, false, false, false] rfl rfl (any_of HT_.out (by kernel_rfl)) (fun _ _ _ h => h) (Or.inl ⟨by rfl, ?_⟩) ?_ ?_
                            rotate_left
                            · intro w'
                              go_simp
                              with_reducible rfl
                            rotate_left
                            · simp only [Act.put, List.setIfInBounds_toArray, List.set_cons_zero, List.set_cons_succ, i64_w, i32_w]
                              rfl
                            refine pure_ (i := 26) (N := some 63) (v := ?_) (a' := ?_) #[true, true, true, true, true, true, true, true, true, true, true, true, true, true, true, true, true, true, true, true, true, true, true, true, true, true, true, false, false] rfl rfl (any_of HT_.out (by kernel_rfl)) (fun _ _ _ h => h) (Or.inl ⟨by rfl, ?_⟩) ?_ ?_
                            rotate_left
                            · intro w'
                              go_simp
                              with_reducible rfl
                            rotate_left
                            · simp only [Act.put, List.setIfInBounds_toArray, List.set_cons_zero, List.set_cons_succ, i64_w, i32_w]
                              rfl
                            refine pure_ (i := 27) (N := some 5) (v := ?_) (a' := ?_) #[true, true, true, true, true, true, true, true, true, true, true, true, true, true, true, true, true, true, true, true, true, true, true, true, true, true, true, true, false] rfl rfl (any_of HT_.out (by kernel_rfl)) (fun _ _ _ h => h) (Or.inl ⟨by rfl, ?_⟩) ?_ ?_
                            rotate_left
                            · intro w'
                              go_simp
                              with_reducible rfl
                            rotate_left
                            · simp only [Act.put, List.setIfInBounds_toArray, List.set_cons_zero, List.set_cons_succ, i64_w, i32_w]
                              rfl
                            refine pure_ (i := 28) (N := some 6) (v := ?_) (a' := ?_) #[true, true, true, true, true, true, true, true, true, true, true, true, true, true, true, true, true, true, true, true, true, true, true, true, true, true, true, true, true] rfl rfl (any_of HT_.out (by kernel_rfl)) (fun _ _ _ h => h) (Or.inl ⟨by rfl, ?_⟩) ?_ ?_
                            rotate_left
                            · intro w'
                              go_simp
                              with_reducible rfl
                            rotate_left
                            · simp only [Act.put, List.setIfInBounds_toArray, List.set_cons_zero, List.set_cons_succ, i64_w, i32_w]
                              rfl
                            refine done_ (done_of HT_.out (by kernel_rfl)) ?_
                            try go_wp2
                            go_ret
                            exact ⟨by first | rfl | (simp [errW_none, errW_some] <;> rfl) | (simp [*, errW_none, errW_some] <;> rfl), by repeat (first | (with_reducible first | exact HB.out | apply below_alloc | apply pw_below_drewN | apply below_drew1) | exact HB.out)⟩
                          · rw [if_neg c20] at H
                            have c20b0 : decide (0 ≤ t276) = false := decide_eq_false c20
                            clear c20
                            have H' := Aside0.mk H
                            clear H
                            try go_wp2
                            have n0_ := Aside0.mk (below_drew1 HB.out)
                            clear HB
                            have HB := n0_
                            clear n0_
                            have q25 : (x12_1 : Int) ≤ ((l0.length : Int) : Int) := of_decide_eq_true (by first | (with_reducible assumption) | assumption)
                            obtain ⟨i025, hi025, _, hsz25, _⟩ := info_parts info71
                            have hroom25 : l0.length ≤ c0 := HC0.out
                            have hC25 : Kd.C k71 _ (some ad260) l0.length l0 := HR0.out
                            have hcut25 := cut_to (P := Try.prog) 40 71 .i64 Try.underlying40 hi025 (some ad260) l0.length c0 x12_1 (of_decide_eq_true (by first | (with_reducible assumption) | assumption)) q25 hroom25
                            have hr25 := Kd.C_take (m := (x12_1 : Int).toNat) hC25 (by omega)
                            have hy25 : y267.length = (x12_1 : Int).toNat := (by rw [Ny267.out, List.length_take]; omega)
                            rw [← Ny267.out] at hr25
                            rw [← hy25] at hcut25
                            have HR270 := Aside0.mk hr25
                            have HC270 := Aside0.mk (show y267.length ≤ c0 from by omega)
                            clear hr25 hC25 hroom25 hi025 hsz25
                            have KY25 := Aside0.mk hy25
                            clear hy25
                            replace q25 := eq_true q25
                            have p271 : 0 ≤ (x12_1 : Int) := of_decide_eq_true (by first | (with_reducible assumption) | assumption)
                            have q271 : x12_1 < (l0.length : Int) := of_decide_eq_true (by first | (with_reducible assumption) | assumption)
                            obtain ⟨ad271, e271, hx271_0, hx271_1, hx271_2, hx271_3, hx271_4, hx271_5, hx271_6, hx271_7, hx271_8⟩ := at_T71 HR0.out x12_1 p271 q271
                            have hw271_8 := hx271_8
                            have hw271_7 := hx271_7
                            have hw271_6 := hx271_6
                            have hw271_5 := hx271_5
                            have hw271_4 := hx271_4
                            have hw271_3 := hx271_3
                            have hw271_2 := hx271_2
                            have hw271_1 := hx271_1
                            have hw271_0 := hx271_0
                            obtain rfl : ad260 = ad271 := (by injection e271)
                            replace hx271_0 := (HB.out.cell (World.block_lt_of_cell? w _ hx271_0)).trans hx271_0
                            replace hx271_1 := (HB.out.cell (World.block_lt_of_cell? w _ hx271_1)).trans hx271_1
                            replace hx271_2 := (HB.out.cell (World.block_lt_of_cell? w _ hx271_2)).trans hx271_2
                            replace hx271_3 := (HB.out.cell (World.block_lt_of_cell? w _ hx271_3)).trans hx271_3
                            replace hx271_4 := (HB.out.cell (World.block_lt_of_cell? w _ hx271_4)).trans hx271_4
                            replace hx271_5 := (HB.out.cell (World.block_lt_of_cell? w _ hx271_5)).trans hx271_5
                            replace hx271_6 := (HB.out.cell (World.block_lt_of_cell? w _ hx271_6)).trans hx271_6
                            replace hx271_7 := (HB.out.cell (World.block_lt_of_cell? w _ hx271_7)).trans hx271_7
                            replace hx271_8 := (HB.out.cell (World.block_lt_of_cell? w _ hx271_8)).trans hx271_8
                            replace p271 := eq_true p271
                            replace q271 := eq_true q271
                            have p272 : 0 ≤ (x12_1 : Int) := of_decide_eq_true (by first | (with_reducible assumption) | assumption)
                            have q272 : x12_1 < (l0.length : Int) := of_decide_eq_true (by first | (with_reducible assumption) | assumption)
                            obtain ⟨ad272, e272, hx272_0, hx272_1, hx272_2, hx272_3, hx272_4, hx272_5, hx272_6, hx272_7, hx272_8⟩ := at_T71 HR0.out x12_1 p272 q272
                            have hw272_8 := hx272_8
                            have hw272_7 := hx272_7
                            have hw272_6 := hx272_6
                            have hw272_5 := hx272_5
                            have hw272_4 := hx272_4
                            have hw272_3 := hx272_3
                            have hw272_2 := hx272_2
                            have hw272_1 := hx272_1
                            have hw272_0 := hx272_0
                            obtain rfl : ad260 = ad272 := (by injection e272)
                            replace hx272_0 := (HB.out.cell (World.block_lt_of_cell? w _ hx272_0)).trans hx272_0
                            replace hx272_1 := (HB.out.cell (World.block_lt_of_cell? w _ hx272_1)).trans hx272_1
                            replace hx272_2 := (HB.out.cell (World.block_lt_of_cell? w _ hx272_2)).trans hx272_2
                            replace hx272_3 := (HB.out.cell (World.block_lt_of_cell? w _ hx272_3)).trans hx272_3
                            replace hx272_4 := (HB.out.cell (World.block_lt_of_cell? w _ hx272_4)).trans hx272_4
                            replace hx272_5 := (HB.out.cell (World.block_lt_of_cell? w _ hx272_5)).trans hx272_5
                            replace hx272_6 := (HB.out.cell (World.block_lt_of_cell? w _ hx272_6)).trans hx272_6
                            replace hx272_7 := (HB.out.cell (World.block_lt_of_cell? w _ hx272_7)).trans hx272_7
                            replace hx272_8 := (HB.out.cell (World.block_lt_of_cell? w _ hx272_8)).trans hx272_8
                            replace p272 := eq_true p272
                            replace q272 := eq_true q272
                            have p273 : 0 ≤ (x12_1 : Int) := of_decide_eq_true (by first | (with_reducible assumption) | assumption)
                            have q273 : x12_1 < (l0.length : Int) := of_decide_eq_true (by first | (with_reducible assumption) | assumption)
                            obtain ⟨ad273, e273, hx273_0, hx273_1, hx273_2, hx273_3, hx273_4, hx273_5, hx273_6, hx273_7, hx273_8⟩ := at_T71 HR0.out x12_1 p273 q273
                            have hw273_8 := hx273_8
                            have hw273_7 := hx273_7
                            have hw273_6 := hx273_6
                            have hw273_5 := hx273_5
                            have hw273_4 := hx273_4
                            have hw273_3 := hx273_3
                            have hw273_2 := hx273_2
                            have hw273_1 := hx273_1
                            have hw273_0 := hx273_0
                            obtain rfl : ad260 = ad273 := (by injection e273)
                            replace hx273_0 := (HB.out.cell (World.block_lt_of_cell? w _ hx273_0)).trans hx273_0
                            replace hx273_1 := (HB.out.cell (World.block_lt_of_cell? w _ hx273_1)).trans hx273_1
                            replace hx273_2 := (HB.out.cell (World.block_lt_of_cell? w _ hx273_2)).trans hx273_2
                            replace hx273_3 := (HB.out.cell (World.block_lt_of_cell? w _ hx273_3)).trans hx273_3
                            replace hx273_4 := (HB.out.cell (World.block_lt_of_cell? w _ hx273_4)).trans hx273_4
                            replace hx273_5 := (HB.out.cell (World.block_lt_of_cell? w _ hx273_5)).trans hx273_5
                            replace hx273_6 := (HB.out.cell (World.block_lt_of_cell? w _ hx273_6)).trans hx273_6
                            replace hx273_7 := (HB.out.cell (World.block_lt_of_cell? w _ hx273_7)).trans hx273_7
                            replace hx273_8 := (HB.out.cell (World.block_lt_of_cell? w _ hx273_8)).trans hx273_8
                            replace p273 := eq_true p273
                            replace q273 := eq_true q273
                            have p274 : 0 ≤ (x12_1 : Int) := of_decide_eq_true (by first | (with_reducible assumption) | assumption)
                            have q274 : x12_1 < (l0.length : Int) := of_decide_eq_true (by first | (with_reducible assumption) | assumption)
                            obtain ⟨ad274, e274, hx274_0, hx274_1, hx274_2, hx274_3, hx274_4, hx274_5, hx274_6, hx274_7, hx274_8⟩ := at_T71 HR0.out x12_1 p274 q274
                            have hw274_8 := hx274_8
                            have hw274_7 := hx274_7
                            have hw274_6 := hx274_6
                            have hw274_5 := hx274_5
                            have hw274_4 := hx274_4
                            have hw274_3 := hx274_3
                            have hw274_2 := hx274_2
                            have hw274_1 := hx274_1
                            have hw274_0 := hx274_0
                            obtain rfl : ad260 = ad274 := (by injection e274)
                            replace hx274_0 := (HB.out.cell (World.block_lt_of_cell? w _ hx274_0)).trans hx274_0
                            replace hx274_1 := (HB.out.cell (World.block_lt_of_cell? w _ hx274_1)).trans hx274_1
                            replace hx274_2 := (HB.out.cell (World.block_lt_of_cell? w _ hx274_2)).trans hx274_2
                            replace hx274_3 := (HB.out.cell (World.block_lt_of_cell? w _ hx274_3)).trans hx274_3
                            replace hx274_4 := (HB.out.cell (World.block_lt_of_cell? w _ hx274_4)).trans hx274_4
                            replace hx274_5 := (HB.out.cell (World.block_lt_of_cell? w _ hx274_5)).trans hx274_5
                            replace hx274_6 := (HB.out.cell (World.block_lt_of_cell? w _ hx274_6)).trans hx274_6
                            replace hx274_7 := (HB.out.cell (World.block_lt_of_cell? w _ hx274_7)).trans hx274_7
                            replace hx274_8 := (HB.out.cell (World.block_lt_of_cell? w _ hx274_8)).trans hx274_8
                            replace p274 := eq_true p274
                            replace q274 := eq_true q274
                            have p275 : 0 ≤ (x12_1 : Int) := of_decide_eq_true (by first | (with_reducible assumption) | assumption)
                            have q275 : x12_1 < (l0.length : Int) := of_decide_eq_true (by first | (with_reducible assumption) | assumption)
                            obtain ⟨ad275, e275, hx275_0, hx275_1, hx275_2, hx275_3, hx275_4, hx275_5, hx275_6, hx275_7, hx275_8⟩ := at_T71 HR0.out x12_1 p275 q275
                            have hw275_8 := hx275_8
                            have hw275_7 := hx275_7
                            have hw275_6 := hx275_6
                            have hw275_5 := hx275_5
                            have hw275_4 := hx275_4
                            have hw275_3 := hx275_3
                            have hw275_2 := hx275_2
                            have hw275_1 := hx275_1
                            have hw275_0 := hx275_0
                            obtain rfl : ad260 = ad275 := (by injection e275)
                            replace hx275_0 := (HB.out.cell (World.block_lt_of_cell? w _ hx275_0)).trans hx275_0
                            replace hx275_1 := (HB.out.cell (World.block_lt_of_cell? w _ hx275_1)).trans hx275_1
                            replace hx275_2 := (HB.out.cell (World.block_lt_of_cell? w _ hx275_2)).trans hx275_2
                            replace hx275_3 := (HB.out.cell (World.block_lt_of_cell? w _ hx275_3)).trans hx275_3
                            replace hx275_4 := (HB.out.cell (World.block_lt_of_cell? w _ hx275_4)).trans hx275_4
                            replace hx275_5 := (HB.out.cell (World.block_lt_of_cell? w _ hx275_5)).trans hx275_5
                            replace hx275_6 := (HB.out.cell (World.block_lt_of_cell? w _ hx275_6)).trans hx275_6
                            replace hx275_7 := (HB.out.cell (World.block_lt_of_cell? w _ hx275_7)).trans hx275_7
                            replace hx275_8 := (HB.out.cell (World.block_lt_of_cell? w _ hx275_8)).trans hx275_8
                            replace p275 := eq_true p275
                            replace q275 := eq_true q275
                            refine start_ (n := 29) (S := fun w' => w'.cell? (ad260.add ((x12_1).toNat * 9)) = some (.int .i64 ((rd_T71 l0 x12_1).f0)) ∧ w'.cell? ⟨(ad260.add ((x12_1).toNat * 9)).block, (ad260.add ((x12_1).toNat * 9)).off + 1, none⟩ = some (.string ((rd_T71 l0 x12_1).f1)) ∧ w'.cell? ⟨(ad260.add ((x12_1).toNat * 9)).block, (ad260.add ((x12_1).toNat * 9)).off + 2, none⟩ = some (.int .i64 ((rd_T71 l0 x12_1).f2)) ∧ w'.cell? ⟨(ad260.add ((x12_1).toNat * 9)).block, (ad260.add ((x12_1).toNat * 9)).off + 3, none⟩ = some (.int .i64 ((rd_T71 l0 x12_1).f3)) ∧ w'.cell? ⟨(ad260.add ((x12_1).toNat * 9)).block, (ad260.add ((x12_1).toNat * 9)).off + 4, none⟩ = some (.int .i64 ((rd_T71 l0 x12_1).f4)) ∧ w'.cell? ⟨(ad260.add ((x12_1).toNat * 9)).block, (ad260.add ((x12_1).toNat * 9)).off + 5, none⟩ = some (.int .i64 ((rd_T71 l0 x12_1).f5)) ∧ w'.cell? ⟨(ad260.add ((x12_1).toNat * 9)).block, (ad260.add ((x12_1).toNat * 9)).off + 6, none⟩ = some (.int .i64 ((rd_T71 l0 x12_1).f6)) ∧ w'.cell? ⟨(ad260.add ((x12_1).toNat * 9)).block, (ad260.add ((x12_1).toNat * 9)).off + 7, none⟩ = some (.int .i64 ((rd_T71 l0 x12_1).f7)) ∧ w'.cell? ⟨(ad260.add ((x12_1).toNat * 9)).block, (ad260.add ((x12_1).toNat * 9)).off + 8, none⟩ = some (.int .i64 ((rd_T71 l0 x12_1).f8)) ∧ w'.cell? (ad260.add ((x12_1).toNat * 9)) = some (.int .i64 ((rd_T71 l0 x12_1).f0)) ∧ w'.cell? ⟨(ad260.add ((x12_1).toNat * 9)).block, (ad260.add ((x12_1).toNat * 9)).off + 1, none⟩ = some (.string ((rd_T71 l0 x12_1).f1)) ∧ w'.cell? ⟨(ad260.add ((x12_1).toNat * 9)).block, (ad260.add ((x12_1).toNat * 9)).off + 2, none⟩ = some (.int .i64 ((rd_T71 l0 x12_1).f2)) ∧ w'.cell? ⟨(ad260.add ((x12_1).toNat * 9)).block, (ad260.add ((x12_1).toNat * 9)).off + 3, none⟩ = some (.int .i64 ((rd_T71 l0 x12_1).f3)) ∧ w'.cell? ⟨(ad260.add ((x12_1).toNat * 9)).block, (ad260.add ((x12_1).toNat * 9)).off + 4, none⟩ = some (.int .i64 ((rd_T71 l0 x12_1).f4)) ∧ w'.cell? ⟨(ad260.add ((x12_1).toNat * 9)).block, (ad260.add ((x12_1).toNat * 9)).off + 5, none⟩ = some (.int .i64 ((rd_T71 l0 x12_1).f5)) ∧ w'.cell? ⟨(ad260.add ((x12_1).toNat * 9)).block, (ad260.add ((x12_1).toNat * 9)).off + 6, none⟩ = some (.int .i64 ((rd_T71 l0 x12_1).f6)) ∧ w'.cell? ⟨(ad260.add ((x12_1).toNat * 9)).block, (ad260.add ((x12_1).toNat * 9)).off + 7, none⟩ = some (.int .i64 ((rd_T71 l0 x12_1).f7)) ∧ w'.cell? ⟨(ad260.add ((x12_1).toNat * 9)).block, (ad260.add ((x12_1).toNat * 9)).off + 8, none⟩ = some (.int .i64 ((rd_T71 l0 x12_1).f8)) ∧ w'.cell? (ad260.add ((x12_1).toNat * 9)) = some (.int .i64 ((rd_T71 l0 x12_1).f0)) ∧ w'.cell? ⟨(ad260.add ((x12_1).toNat * 9)).block, (ad260.add ((x12_1).toNat * 9)).off + 1, none⟩ = some (.string ((rd_T71 l0 x12_1).f1)) ∧ w'.cell? ⟨(ad260.add ((x12_1).toNat * 9)).block, (ad260.add ((x12_1).toNat * 9)).off + 2, none⟩ = some (.int .i64 ((rd_T71 l0 x12_1).f2)) ∧ w'.cell? ⟨(ad260.add ((x12_1).toNat * 9)).block, (ad260.add ((x12_1).toNat * 9)).off + 3, none⟩ = some (.int .i64 ((rd_T71 l0 x12_1).f3)) ∧ w'.cell? ⟨(ad260.add ((x12_1).toNat * 9)).block, (ad260.add ((x12_1).toNat * 9)).off + 4, none⟩ = some (.int .i64 ((rd_T71 l0 x12_1).f4)) ∧ w'.cell? ⟨(ad260.add ((x12_1).toNat * 9)).block, (ad260.add ((x12_1).toNat * 9)).off + 5, none⟩ = some (.int .i64 ((rd_T71 l0 x12_1).f5)) ∧ w'.cell? ⟨(ad260.add ((x12_1).toNat * 9)).block, (ad260.add ((x12_1).toNat * 9)).off + 6, none⟩ = some (.int .i64 ((rd_T71 l0 x12_1).f6)) ∧ w'.cell? ⟨(ad260.add ((x12_1).toNat * 9)).block, (ad260.add ((x12_1).toNat * 9)).off + 7, none⟩ = some (.int .i64 ((rd_T71 l0 x12_1).f7)) ∧ w'.cell? ⟨(ad260.add ((x12_1).toNat * 9)).block, (ad260.add ((x12_1).toNat * 9)).off + 8, none⟩ = some (.int .i64 ((rd_T71 l0 x12_1).f8)) ∧ w'.cell? (ad260.add ((x12_1).toNat * 9)) = some (.int .i64 ((rd_T71 l0 x12_1).f0)) ∧ w'.cell? ⟨(ad260.add ((x12_1).toNat * 9)).block, (ad260.add ((x12_1).toNat * 9)).off + 1, none⟩ = some (.string ((rd_T71 l0 x12_1).f1)) ∧ w'.cell? ⟨(ad260.add ((x12_1).toNat * 9)).block, (ad260.add ((x12_1).toNat * 9)).off + 2, none⟩ = some (.int .i64 ((rd_T71 l0 x12_1).f2)) ∧ w'.cell? ⟨(ad260.add ((x12_1).toNat * 9)).block, (ad260.add ((x12_1).toNat * 9)).off + 3, none⟩ = some (.int .i64 ((rd_T71 l0 x12_1).f3)) ∧ w'.cell? ⟨(ad260.add ((x12_1).toNat * 9)).block, (ad260.add ((x12_1).toNat * 9)).off + 4, none⟩ = some (.int .i64 ((rd_T71 l0 x12_1).f4)) ∧ w'.cell? ⟨(ad260.add ((x12_1).toNat * 9)).block, (ad260.add ((x12_1).toNat * 9)).off + 5, none⟩ = some (.int .i64 ((rd_T71 l0 x12_1).f5)) ∧ w'.cell? ⟨(ad260.add ((x12_1).toNat * 9)).block, (ad260.add ((x12_1).toNat * 9)).off + 6, none⟩ = some (.int .i64 ((rd_T71 l0 x12_1).f6)) ∧ w'.cell? ⟨(ad260.add ((x12_1).toNat * 9)).block, (ad260.add ((x12_1).toNat * 9)).off + 7, none⟩ = some (.int .i64 ((rd_T71 l0 x12_1).f7)) ∧ w'.cell? ⟨(ad260.add ((x12_1).toNat * 9)).block, (ad260.add ((x12_1).toNat * 9)).off + 8, none⟩ = some (.int .i64 ((rd_T71 l0 x12_1).f8)) ∧ w'.cell? (ad260.add ((x12_1).toNat * 9)) = some (.int .i64 ((rd_T71 l0 x12_1).f0)) ∧ w'.cell? ⟨(ad260.add ((x12_1).toNat * 9)).block, (ad260.add ((x12_1).toNat * 9)).off + 1, none⟩ = some (.string ((rd_T71 l0 x12_1).f1)) ∧ w'.cell? ⟨(ad260.add ((x12_1).toNat * 9)).block, (ad260.add ((x12_1).toNat * 9)).off + 2, none⟩ = some (.int .i64 ((rd_T71 l0 x12_1).f2)) ∧ w'.cell? ⟨(ad260.add ((x12_1).toNat * 9)).block, (ad260.add ((x12_1).toNat * 9)).off + 3, none⟩ = some (.int .i64 ((rd_T71 l0 x12_1).f3)) ∧ w'.cell? ⟨(ad260.add ((x12_1).toNat * 9)).block, (ad260.add ((x12_1).toNat * 9)).off + 4, none⟩ = some (.int .i64 ((rd_T71 l0 x12_1).f4)) ∧ w'.cell? ⟨(ad260.add ((x12_1).toNat * 9)).block, (ad260.add ((x12_1).toNat * 9)).off + 5, none⟩ = some (.int .i64 ((rd_T71 l0 x12_1).f5)) ∧ w'.cell? ⟨(ad260.add ((x12_1).toNat * 9)).block, (ad260.add ((x12_1).toNat * 9)).off + 6, none⟩ = some (.int .i64 ((rd_T71 l0 x12_1).f6)) ∧ w'.cell? ⟨(ad260.add ((x12_1).toNat * 9)).block, (ad260.add ((x12_1).toNat * 9)).off + 7, none⟩ = some (.int .i64 ((rd_T71 l0 x12_1).f7)) ∧ w'.cell? ⟨(ad260.add ((x12_1).toNat * 9)).block, (ad260.add ((x12_1).toNat * 9)).off + 8, none⟩ = some (.int .i64 ((rd_T71 l0 x12_1).f8))) (ds := []) #[false, false, false, false, false, false, false, false, false, false, false, false, false, false, false, false, false, false, false, false, false, false, false, false, false, false, false, false, false] (by kernel_rfl) rfl rfl ⟨((HB.out.cell (World.block_lt_of_cell? w _ hw271_0)).trans hw271_0), ((HB.out.cell (World.block_lt_of_cell? w _ hw271_1)).trans hw271_1), ((HB.out.cell (World.block_lt_of_cell? w _ hw271_2)).trans hw271_2), ((HB.out.cell (World.block_lt_of_cell? w _ hw271_3)).trans hw271_3), ((HB.out.cell (World.block_lt_of_cell? w _ hw271_4)).trans hw271_4), ((HB.out.cell (World.block_lt_of_cell? w _ hw271_5)).trans hw271_5), ((HB.out.cell (World.block_lt_of_cell? w _ hw271_6)).trans hw271_6), ((HB.out.cell (World.block_lt_of_cell? w _ hw271_7)).trans hw271_7), ((HB.out.cell (World.block_lt_of_cell? w _ hw271_8)).trans hw271_8), ((HB.out.cell (World.block_lt_of_cell? w _ hw272_0)).trans hw272_0), ((HB.out.cell (World.block_lt_of_cell? w _ hw272_1)).trans hw272_1), ((HB.out.cell (World.block_lt_of_cell? w _ hw272_2)).trans hw272_2), ((HB.out.cell (World.block_lt_of_cell? w _ hw272_3)).trans hw272_3), ((HB.out.cell (World.block_lt_of_cell? w _ hw272_4)).trans hw272_4), ((HB.out.cell (World.block_lt_of_cell? w _ hw272_5)).trans hw272_5), ((HB.out.cell (World.block_lt_of_cell? w _ hw272_6)).trans hw272_6), ((HB.out.cell (World.block_lt_of_cell? w _ hw272_7)).trans hw272_7), ((HB.out.cell (World.block_lt_of_cell? w _ hw272_8)).trans hw272_8), ((HB.out.cell (World.block_lt_of_cell? w _ hw273_0)).trans hw273_0), ((HB.out.cell (World.block_lt_of_cell? w _ hw273_1)).trans hw273_1), ((HB.out.cell (World.block_lt_of_cell? w _ hw273_2)).trans hw273_2), ((HB.out.cell (World.block_lt_of_cell? w _ hw273_3)).trans hw273_3), ((HB.out.cell (World.block_lt_of_cell? w _ hw273_4)).trans hw273_4), ((HB.out.cell (World.block_lt_of_cell? w _ hw273_5)).trans hw273_5), ((HB.out.cell (World.block_lt_of_cell? w _ hw273_6)).trans hw273_6), ((HB.out.cell (World.block_lt_of_cell? w _ hw273_7)).trans hw273_7), ((HB.out.cell (World.block_lt_of_cell? w _ hw273_8)).trans hw273_8), ((HB.out.cell (World.block_lt_of_cell? w _ hw274_0)).trans hw274_0), ((HB.out.cell (World.block_lt_of_cell? w _ hw274_1)).trans hw274_1), ((HB.out.cell (World.block_lt_of_cell? w _ hw274_2)).trans hw274_2), ((HB.out.cell (World.block_lt_of_cell? w _ hw274_3)).trans hw274_3), ((HB.out.cell (World.block_lt_of_cell? w _ hw274_4)).trans hw274_4), ((HB.out.cell (World.block_lt_of_cell? w _ hw274_5)).trans hw274_5), ((HB.out.cell (World.block_lt_of_cell? w _ hw274_6)).trans hw274_6), ((HB.out.cell (World.block_lt_of_cell? w _ hw274_7)).trans hw274_7), ((HB.out.cell (World.block_lt_of_cell? w _ hw274_8)).trans hw274_8), ((HB.out.cell (World.block_lt_of_cell? w _ hw275_0)).trans hw275_0), ((HB.out.cell (World.block_lt_of_cell? w _ hw275_1)).trans hw275_1), ((HB.out.cell (World.block_lt_of_cell? w _ hw275_2)).trans hw275_2), ((HB.out.cell (World.block_lt_of_cell? w _ hw275_3)).trans hw275_3), ((HB.out.cell (World.block_lt_of_cell? w _ hw275_4)).trans hw275_4), ((HB.out.cell (World.block_lt_of_cell? w _ hw275_5)).trans hw275_5), ((HB.out.cell (World.block_lt_of_cell? w _ hw275_6)).trans hw275_6), ((HB.out.cell (World.block_lt_of_cell? w _ hw275_7)).trans hw275_7), ((HB.out.cell (World.block_lt_of_cell? w _ hw275_8)).trans hw275_8)⟩ (fun hHeld => ?_); refine with_tabW impl_FlowsOK.tab9 impl_FlowsOK.bits9 (fun HT_ HW_ => ?_)
                            generalize wc.drew = w24 at HB HR270 hx271_0 hx271_1 hx271_2 hx271_3 hx271_4 hx271_5 hx271_6 hx271_7 hx271_8 hx272_0 hx272_1 hx272_2 hx272_3 hx272_4 hx272_5 hx272_6 hx272_7 hx272_8 hx273_0 hx273_1 hx273_2 hx273_3 hx273_4 hx273_5 hx273_6 hx273_7 hx273_8 hx274_0 hx274_1 hx274_2 hx274_3 hx274_4 hx274_5 hx274_6 hx274_7 hx274_8 hx275_0 hx275_1 hx275_2 hx275_3 hx275_4 hx275_5 hx275_6 hx275_7 hx275_8 hHeld ⊢
                            refine pure_ (i := 0) (N := some 38) (v := ?_) (a' := ?_) #[true, false, false, false, false, false, false, false, false, false, false, false, false, false, false, false, false, false, false, false, false, false, false, false, false, false, false, false, false] rfl rfl (any_of HT_.out (by kernel_rfl)) (fun _ _ _ h => h) (Or.inl ⟨by rfl, ?_⟩) ?_ ?_
                            rotate_left
                            · intro w'
                              go_simp
                              with_reducible rfl
                            rotate_left
                            · simp only [Act.put, List.setIfInBounds_toArray, List.set_cons_zero, List.set_cons_succ, i64_w, i32_w]
                              rfl
                            refine pure_ (i := 1) (N := some 39) (v := ?_) (a' := ?_) #[true, true, false, false, false, false, false, false, false, false, false, false, false, false, false, false, false, false, false, false, false, false, false, false, false, false, false, false, false] rfl rfl (any_of HT_.out (by kernel_rfl)) (fun _ _ _ h => h) (Or.inl ⟨by rfl, ?_⟩) ?_ ?_
                            rotate_left
                            · intro w'
                              go_simp
                              with_reducible rfl
                            rotate_left
                            · simp only [Act.put, List.setIfInBounds_toArray, List.set_cons_zero, List.set_cons_succ, i64_w, i32_w]
                              rfl
                            refine pure_ (i := 2) (N := some 40) (v := ?_) (a' := ?_) #[true, true, true, false, false, false, false, false, false, false, false, false, false, false, false, false, false, false, false, false, false, false, false, false, false, false, false, false, false] rfl rfl (any_of HT_.out (by kernel_rfl)) (fun _ _ _ h => h) (Or.inl ⟨by rfl, ?_⟩) ?_ ?_
                            rotate_left
                            · intro w'
                              go_simp
                              with_reducible rfl
                            rotate_left
                            · simp only [Act.put, List.setIfInBounds_toArray, List.set_cons_zero, List.set_cons_succ, i64_w, i32_w]
                              rfl
                            refine pure_ (i := 3) (N := some 41) (v := ?_) (a' := ?_) #[true, true, true, true, false, false, false, false, false, false, false, false, false, false, false, false, false, false, false, false, false, false, false, false, false, false, false, false, false] rfl rfl (any_of HT_.out (by kernel_rfl)) (fun _ _ _ h => h) (Or.inl ⟨by rfl, ?_⟩) ?_ ?_
                            rotate_left
                            · intro w'
                              go_simp
                              with_reducible rfl
                            rotate_left
                            · simp only [Act.put, List.setIfInBounds_toArray, List.set_cons_zero, List.set_cons_succ, i64_w, i32_w]
                              rfl
                            refine pure_ (i := 4) (N := some 42) (v := ?_) (a' := ?_) #[true, true, true, true, true, false, false, false, false, false, false, false, false, false, false, false, false, false, false, false, false, false, false, false, false, false, false, false, false] rfl rfl (any_of HT_.out (by kernel_rfl)) (fun _ _ _ h => h) (Or.inl ⟨by rfl, ?_⟩) ?_ ?_
                            rotate_left
                            · intro w'
                              go_simp
                              with_reducible rfl
                            rotate_left
                            · simp only [Act.put, List.setIfInBounds_toArray, List.set_cons_zero, List.set_cons_succ, i64_w, i32_w]
                              rfl
                            refine pure_ (i := 5) (N := some 43) (v := ?_) (a' := ?_) #[true, true, true, true, true, true, false, false, false, false, false, false, false, false, false, false, false, false, false, false, false, false, false, false, false, false, false, false, false] rfl rfl (any_of HT_.out (by kernel_rfl)) (fun _ _ _ h => h) (Or.inl ⟨by rfl, ?_⟩) ?_ ?_
                            rotate_left
                            · intro w'
                              go_simp
                              with_reducible rfl
                            rotate_left
                            · simp only [Act.put, List.setIfInBounds_toArray, List.set_cons_zero, List.set_cons_succ, i64_w, i32_w]
                              rfl
                            refine pure_ (i := 7) (N := some 45) (v := ?_) (a' := ?_) #[true, true, true, true, true, true, false, true, false, false, false, false, false, false, false, false, false, false, false, false, false, false, false, false, false, false, false, false, false] rfl rfl (any_of HT_.out (by kernel_rfl)) (fun _ _ _ h => h) (Or.inl ⟨by rfl, ?_⟩) ?_ ?_
                            rotate_left
                            · intro w'
                              go_simp
                              with_reducible rfl
                            rotate_left
                            · simp only [Act.put, List.setIfInBounds_toArray, List.set_cons_zero, List.set_cons_succ, i64_w, i32_w]
                              rfl
                            refine pure_ (i := 8) (N := some 46) (v := ?_) (a' := ?_) #[true, true, true, true, true, true, false, true, true, false, false, false, false, false, false, false, false, false, false, false, false, false, false, false, false, false, false, false, false] rfl rfl (any_of HT_.out (by kernel_rfl)) (fun _ _ _ h => h) (Or.inl ⟨by rfl, ?_⟩) ?_ ?_
                            rotate_left
                            · intro w'
                              go_simp
                              with_reducible rfl
                            rotate_left
                            · simp only [Act.put, List.setIfInBounds_toArray, List.set_cons_zero, List.set_cons_succ, i64_w, i32_w]
                              rfl
                            refine pure_ (i := 9) (N := some 47) (v := ?_) (a' := ?_) #[true, true, true, true, true, true, false, true, true, true, false, false, false, false, false, false, false, false, false, false, false, false, false, false, false, false, false, false, false] rfl rfl (any_of HT_.out (by kernel_rfl)) (fun _ _ _ h => h) (Or.inl ⟨by rfl, ?_⟩) ?_ ?_
                            rotate_left
                            · intro w'
                              go_simp
                              with_reducible rfl
                            rotate_left
                            · simp only [Act.put, List.setIfInBounds_toArray, List.set_cons_zero, List.set_cons_succ, i64_w, i32_w]
                              rfl
                            refine pure_ (i := 11) (N := some 49) (v := ?_) (a' := ?_) #[true, true, true, true, true, true, false, true, true, true, false, true, false, false, false, false, false, false, false, false, false, false, false, false, false, false, false, false, false] rfl rfl (any_of HT_.out (by kernel_rfl)) (fun _ _ _ h => h) (Or.inl ⟨by rfl, ?_⟩) ?_ ?_
                            rotate_left
                            · intro w'
                              go_simp
                              with_reducible rfl
                            rotate_left
                            · simp only [Act.put, List.setIfInBounds_toArray, List.set_cons_zero, List.set_cons_succ, i64_w, i32_w]
                              rfl
                            refine pure_ (i := 12) (N := some 50) (v := ?_) (a' := ?_) #[true, true, true, true, true, true, false, true, true, true, false, true, true, false, false, false, false, false, false, false, false, false, false, false, false, false, false, false, false] rfl rfl (any_of HT_.out (by kernel_rfl)) (fun _ _ _ h => h) (Or.inl ⟨by rfl, ?_⟩) ?_ ?_
                            rotate_left
                            · intro w'
                              go_simp
                              with_reducible rfl
                            rotate_left
                            · simp only [Act.put, List.setIfInBounds_toArray, List.set_cons_zero, List.set_cons_succ, i64_w, i32_w]
                              rfl
                            refine pure_ (i := 13) (N := some 51) (v := ?_) (a' := ?_) #[true, true, true, true, true, true, false, true, true, true, false, true, true, true, false, false, false, false, false, false, false, false, false, false, false, false, false, false, false] rfl rfl (any_of HT_.out (by kernel_rfl)) (fun _ _ _ h => h) (Or.inl ⟨by rfl, ?_⟩) ?_ ?_
                            rotate_left
                            · intro w'
                              go_simp
                              with_reducible rfl
                            rotate_left
                            · simp only [Act.put, List.setIfInBounds_toArray, List.set_cons_zero, List.set_cons_succ, i64_w, i32_w]
                              rfl
                            refine pure_ (i := 15) (N := some 53) (v := ?_) (a' := ?_) #[true, true, true, true, true, true, false, true, true, true, false, true, true, true, false, true, false, false, false, false, false, false, false, false, false, false, false, false, false] rfl rfl (any_of HT_.out (by kernel_rfl)) (fun _ _ _ h => h) (Or.inl ⟨by rfl, ?_⟩) ?_ ?_
                            rotate_left
                            · intro w'
                              go_simp
                              with_reducible rfl
                            rotate_left
                            · simp only [Act.put, List.setIfInBounds_toArray, List.set_cons_zero, List.set_cons_succ, i64_w, i32_w]
                              rfl
                            refine pure_ (i := 16) (N := some 54) (v := ?_) (a' := ?_) #[true, true, true, true, true, true, false, true, true, true, false, true, true, true, false, true, true, false, false, false, false, false, false, false, false, false, false, false, false] rfl rfl (any_of HT_.out (by kernel_rfl)) (fun _ _ _ h => h) (Or.inl ⟨by rfl, ?_⟩) ?_ ?_
                            rotate_left
                            · intro w'
                              go_simp
                              with_reducible rfl
                            rotate_left
                            · simp only [Act.put, List.setIfInBounds_toArray, List.set_cons_zero, List.set_cons_succ, i64_w, i32_w]
                              rfl
                            refine pure_ (i := 17) (N := some 55) (v := ?_) (a' := ?_) #[true, true, true, true, true, true, false, true, true, true, false, true, true, true, false, true, true, true, false, false, false, false, false, false, false, false, false, false, false] rfl rfl (any_of HT_.out (by kernel_rfl)) (fun _ _ _ h => h) (Or.inl ⟨by rfl, ?_⟩) ?_ ?_
                            rotate_left
                            · intro w'
                              go_simp
                              with_reducible rfl
                            rotate_left
                            · simp only [Act.put, List.setIfInBounds_toArray, List.set_cons_zero, List.set_cons_succ, i64_w, i32_w]
                              rfl
                            refine pure_ (i := 19) (N := some 57) (v := ?_) (a' := ?_) #[true, true, true, true, true, true, false, true, true, true, false, true, true, true, false, true, true, true, false, true, false, false, false, false, false, false, false, false, false] rfl rfl (any_of HT_.out (by kernel_rfl)) (fun _ _ _ h => h) (Or.inl ⟨by rfl, ?_⟩) ?_ ?_
                            rotate_left
                            · intro w'
                              go_simp
                              with_reducible rfl
                            rotate_left
                            · simp only [Act.put, List.setIfInBounds_toArray, List.set_cons_zero, List.set_cons_succ, i64_w, i32_w]
                              rfl
                            refine pure_ (i := 20) (N := some 58) (v := ?_) (a' := ?_) #[true, true, true, true, true, true, false, true, true, true, false, true, true, true, false, true, true, true, false, true, true, false, false, false, false, false, false, false, false] rfl rfl (any_of HT_.out (by kernel_rfl)) (fun _ _ _ h => h) (Or.inl ⟨by rfl, ?_⟩) ?_ ?_
                            rotate_left
                            · intro w'
                              go_simp
                              with_reducible rfl
                            rotate_left
                            · simp only [Act.put, List.setIfInBounds_toArray, List.set_cons_zero, List.set_cons_succ, i64_w, i32_w]
                              rfl
                            refine pure_ (i := 21) (N := some 59) (v := ?_) (a' := ?_) #[true, true, true, true, true, true, false, true, true, true, false, true, true, true, false, true, true, true, false, true, true, true, false, false, false, false, false, false, false] rfl rfl (any_of HT_.out (by kernel_rfl)) (fun _ _ _ h => h) (Or.inl ⟨by rfl, ?_⟩) ?_ ?_
                            rotate_left
                            · intro w'
                              go_simp
                              with_reducible rfl
                            rotate_left
                            · simp only [Act.put, List.setIfInBounds_toArray, List.set_cons_zero, List.set_cons_succ, i64_w, i32_w]
                              rfl
                            refine take_ (i := 6) (N := some 44) (v := ?_) (a' := ?_) #[true, true, true, true, true, true, true, true, true, true, false, true, true, true, false, true, true, true, false, true, true, true, false, false, false, false, false, false, false] rfl rfl (take_ofW HT_.out HW_.out (by kernel_rfl)) (fun _ _ _ h => h) (Or.inl ⟨by rfl, ?_⟩) hHeld ?_ ?_
                            rotate_left
                            · rintro w' ⟨s0, s1, s2, s3, s4, s5, s6, s7, s8, s9, s10, s11, s12, s13, s14, s15, s16, s17, s18, s19, s20, s21, s22, s23, s24, s25, s26, s27, s28, s29, s30, s31, s32, s33, s34, s35, s36, s37, s38, s39, s40, s41, s42, s43, s44⟩
                              go_simp
                              with_reducible rfl
                            rotate_left
                            · simp only [Act.put, List.setIfInBounds_toArray, List.set_cons_zero, List.set_cons_succ, i64_w, i32_w]
                              rfl
                            refine take_ (i := 10) (N := some 48) (v := ?_) (a' := ?_) #[true, true, true, true, true, true, true, true, true, true, true, true, true, true, false, true, true, true, false, true, true, true, false, false, false, false, false, false, false] rfl rfl (take_ofW HT_.out HW_.out (by kernel_rfl)) (fun _ _ _ h => h) (Or.inl ⟨by rfl, ?_⟩) hHeld ?_ ?_
                            rotate_left
                            · rintro w' ⟨s0, s1, s2, s3, s4, s5, s6, s7, s8, s9, s10, s11, s12, s13, s14, s15, s16, s17, s18, s19, s20, s21, s22, s23, s24, s25, s26, s27, s28, s29, s30, s31, s32, s33, s34, s35, s36, s37, s38, s39, s40, s41, s42, s43, s44⟩
                              go_simp
                              with_reducible rfl
                            rotate_left
                            · simp only [Act.put, List.setIfInBounds_toArray, List.set_cons_zero, List.set_cons_succ, i64_w, i32_w]
                              rfl
                            refine take_ (i := 14) (N := some 52) (v := ?_) (a' := ?_) #[true, true, true, true, true, true, true, true, true, true, true, true, true, true, true, true, true, true, false, true, true, true, false, false, false, false, false, false, false] rfl rfl (take_ofW HT_.out HW_.out (by kernel_rfl)) (fun _ _ _ h => h) (Or.inl ⟨by rfl, ?_⟩) hHeld ?_ ?_
                            rotate_left
                            · rintro w' ⟨s0, s1, s2, s3, s4, s5, s6, s7, s8, s9, s10, s11, s12, s13, s14, s15, s16, s17, s18, s19, s20, s21, s22, s23, s24, s25, s26, s27, s28, s29, s30, s31, s32, s33, s34, s35, s36, s37, s38, s39, s40, s41, s42, s43, s44⟩
                              go_simp
                              with_reducible rfl
                            rotate_left
                            · simp only [Act.put, List.setIfInBounds_toArray, List.set_cons_zero, List.set_cons_succ, i64_w, i32_w]
                              rfl
                            refine take_ (i := 18) (N := some 56) (v := ?_) (a' := ?_) #[true, true, true, true, true, true, true, true, true, true, true, true, true, true, true, true, true, true, true, true, true, true, false, false, false, false, false, false, false] rfl rfl (take_ofW HT_.out HW_.out (by kernel_rfl)) (fun _ _ _ h => h) (Or.inl ⟨by rfl, ?_⟩) hHeld ?_ ?_
                            rotate_left
                            · rintro w' ⟨s0, s1, s2, s3, s4, s5, s6, s7, s8, s9, s10, s11, s12, s13, s14, s15, s16, s17, s18, s19, s20, s21, s22, s23, s24, s25, s26, s27, s28, s29, s30, s31, s32, s33, s34, s35, s36, s37, s38, s39, s40, s41, s42, s43, s44⟩
                              go_simp
                              with_reducible rfl
                            rotate_left
                            · simp only [Act.put, List.setIfInBounds_toArray, List.set_cons_zero, List.set_cons_succ, i64_w, i32_w]
                              rfl
                            refine take_ (i := 22) (N := some 60) (v := ?_) (a' := ?_) #[true, true, true, true, true, true, true, true, true, true, true, true, true, true, true, true, true, true, true, true, true, true, true, false, false, false, false, false, false] rfl rfl (take_ofW HT_.out HW_.out (by kernel_rfl)) (fun _ _ _ h => h) (Or.inl ⟨by rfl, ?_⟩) hHeld ?_ ?_
                            rotate_left
                            · rintro w' ⟨s0, s1, s2, s3, s4, s5, s6, s7, s8, s9, s10, s11, s12, s13, s14, s15, s16, s17, s18, s19, s20, s21, s22, s23, s24, s25, s26, s27, s28, s29, s30, s31, s32, s33, s34, s35, s36, s37, s38, s39, s40, s41, s42, s43, s44⟩
                              go_simp
                              with_reducible rfl
                            rotate_left
                            · simp only [Act.put, List.setIfInBounds_toArray, List.set_cons_zero, List.set_cons_succ, i64_w, i32_w]
                              rfl
                            refine one_ (i := 23) (N := some 61) #[true, true, true, true, true, true, true, true, true, true, true, true, true, true, true, true, true, true, true, true, true, true, true, true, false, false, false, false, false] rfl rfl (one_of HT_.out (by kernel_rfl)) (by decide) (fun K hK => ?_)
                            refine goes_ Try.func78 (by kernel_rfl) rfl #[.slice (some ad260) y267.length c0, .int .i64 ((rd_T71 l0 x12_1).f0), .int .i64 ((rd_T71 l0 x12_1).f2), .int .i64 ((rd_T71 l0 x12_1).f3), .int .i64 ((rd_T71 l0 x12_1).f4), .int .i64 ((rd_T71 l0 x12_1).f5)] (by rfl) rfl rfl (by (try simp only [List.map_toArray, List.map_cons, List.map_nil]); first | done | rfl | (simp only [List.length_drop, List.length_take]; rfl)) ?_
                            with_reducible refine (impl_find.calls kj5 _ _ y267 ((rd_T71 l0 x12_1).f0) ((rd_T71 l0 x12_1).f2) ((rd_T71 l0 x12_1).f3) ((rd_T71 l0 x12_1).f4) ((rd_T71 l0 x12_1).f5) t276 t277 _ ?side1 ?side2 A19.out).mono ?_
                            (case side1 => repeat (first | exact (Kd.C_below HR270.out HB.out) | (with_reducible refine Kd.C_alloc ?_ _) | (with_reducible refine Kd.C_drewN ?_ _) | (with_reducible refine Kd.C_drew ?_)))
                            (case side2 => exact HC270.out)
                            rintro e w26 ⟨rfl, hb⟩
                            refine ⟨_, rfl, ?_⟩
                            have n0_ := Aside0.mk (below_step (by repeat (first | (with_reducible first | exact HB.out | apply below_alloc | apply pw_below_drewN | apply below_drew1) | exact HB.out)) hb)
                            clear HB
                            have HB := n0_
                            clear n0_
                            (try clear hb)
                            (try clear hb2)
                            (try clear hk)
                            (try clear hi)
                            refine hK.out _ _ ⟨((HB.out.cell (World.block_lt_of_cell? w _ hw271_0)).trans hw271_0), ((HB.out.cell (World.block_lt_of_cell? w _ hw271_1)).trans hw271_1), ((HB.out.cell (World.block_lt_of_cell? w _ hw271_2)).trans hw271_2), ((HB.out.cell (World.block_lt_of_cell? w _ hw271_3)).trans hw271_3), ((HB.out.cell (World.block_lt_of_cell? w _ hw271_4)).trans hw271_4), ((HB.out.cell (World.block_lt_of_cell? w _ hw271_5)).trans hw271_5), ((HB.out.cell (World.block_lt_of_cell? w _ hw271_6)).trans hw271_6), ((HB.out.cell (World.block_lt_of_cell? w _ hw271_7)).trans hw271_7), ((HB.out.cell (World.block_lt_of_cell? w _ hw271_8)).trans hw271_8), ((HB.out.cell (World.block_lt_of_cell? w _ hw272_0)).trans hw272_0), ((HB.out.cell (World.block_lt_of_cell? w _ hw272_1)).trans hw272_1), ((HB.out.cell (World.block_lt_of_cell? w _ hw272_2)).trans hw272_2), ((HB.out.cell (World.block_lt_of_cell? w _ hw272_3)).trans hw272_3), ((HB.out.cell (World.block_lt_of_cell? w _ hw272_4)).trans hw272_4), ((HB.out.cell (World.block_lt_of_cell? w _ hw272_5)).trans hw272_5), ((HB.out.cell (World.block_lt_of_cell? w _ hw272_6)).trans hw272_6), ((HB.out.cell (World.block_lt_of_cell? w _ hw272_7)).trans hw272_7), ((HB.out.cell (World.block_lt_of_cell? w _ hw272_8)).trans hw272_8), ((HB.out.cell (World.block_lt_of_cell? w _ hw273_0)).trans hw273_0), ((HB.out.cell (World.block_lt_of_cell? w _ hw273_1)).trans hw273_1), ((HB.out.cell (World.block_lt_of_cell? w _ hw273_2)).trans hw273_2), ((HB.out.cell (World.block_lt_of_cell? w _ hw273_3)).trans hw273_3), ((HB.out.cell (World.block_lt_of_cell? w _ hw273_4)).trans hw273_4), ((HB.out.cell (World.block_lt_of_cell? w _ hw273_5)).trans hw273_5), ((HB.out.cell (World.block_lt_of_cell? w _ hw273_6)).trans hw273_6), ((HB.out.cell (World.block_lt_of_cell? w _ hw273_7)).trans hw273_7), ((HB.out.cell (World.block_lt_of_cell? w _ hw273_8)).trans hw273_8), ((HB.out.cell (World.block_lt_of_cell? w _ hw274_0)).trans hw274_0), ((HB.out.cell (World.block_lt_of_cell? w _ hw274_1)).trans hw274_1), ((HB.out.cell (World.block_lt_of_cell? w _ hw274_2)).trans hw274_2), ((HB.out.cell (World.block_lt_of_cell? w _ hw274_3)).trans hw274_3), ((HB.out.cell (World.block_lt_of_cell? w _ hw274_4)).trans hw274_4), ((HB.out.cell (World.block_lt_of_cell? w _ hw274_5)).trans hw274_5), ((HB.out.cell (World.block_lt_of_cell? w _ hw274_6)).trans hw274_6), ((HB.out.cell (World.block_lt_of_cell? w _ hw274_7)).trans hw274_7), ((HB.out.cell (World.block_lt_of_cell? w _ hw274_8)).trans hw274_8), ((HB.out.cell (World.block_lt_of_cell? w _ hw275_0)).trans hw275_0), ((HB.out.cell (World.block_lt_of_cell? w _ hw275_1)).trans hw275_1), ((HB.out.cell (World.block_lt_of_cell? w _ hw275_2)).trans hw275_2), ((HB.out.cell (World.block_lt_of_cell? w _ hw275_3)).trans hw275_3), ((HB.out.cell (World.block_lt_of_cell? w _ hw275_4)).trans hw275_4), ((HB.out.cell (World.block_lt_of_cell? w _ hw275_5)).trans hw275_5), ((HB.out.cell (World.block_lt_of_cell? w _ hw275_6)).trans hw275_6), ((HB.out.cell (World.block_lt_of_cell? w _ hw275_7)).trans hw275_7), ((HB.out.cell (World.block_lt_of_cell? w _ hw275_8)).trans hw275_8)⟩ (fun hHeld => ?_)
                            clear hK K
                            refine norm_ (a' := ?_) ?_ ?_
                            rotate_left
                            · show Act.put _ (some 61) _ = _
                              simp only [Act.put, List.setIfInBounds_toArray, List.set_cons_zero, List.set_cons_succ, i64_w, i32_w]
                              rfl
                            refine pure_ (i := 24) (N := some 37) (v := ?_) (a' := ?_) #[true, true, true, true, true, true, true, true, true, true, true, true, true, true, true, true, true, true, true, true, true, true, true, true, true, false, false, false, false] rfl rfl (any_of HT_.out (by kernel_rfl)) (fun _ _ _ h => h) (Or.inl ⟨by rfl, ?_⟩) ?_ ?_
                            rotate_left
                            · intro w'
                              go_simp
                              with_reducible rfl
                            rotate_left
                            · simp only [Act.put, List.setIfInBounds_toArray, List.set_cons_zero, List.set_cons_succ, i64_w, i32_w]
                              rfl
                            refine pure_ (i := 25) (N := some 62) (v := ?_) (a' := ?_) #[true, true, true, true, true, true, true, true, true, true, true, true, true, true, true, true, true, true, true, true, true, true, true, true, true, true, false, false, false] rfl rfl (any_of HT_.out (by kernel_rfl)) (fun _ _ _ h => h) (Or.inl ⟨by rfl, ?_⟩) ?_ ?_
                            rotate_left
                            · intro w'
                              go_simp
                              with_reducible rfl
                            rotate_left
                            · simp only [Act.put, List.setIfInBounds_toArray, List.set_cons_zero, List.set_cons_succ, i64_w, i32_w]
                              rfl
                            refine pure_ (i := 26) (N := some 63) (v := ?_) (a' := ?_) #[true, true, true, true, true, true, true, true, true, true, true, true, true, true, true, true, true, true, true, true, true, true, true, true, true, true, true, false, false] rfl rfl (any_of HT_.out (by kernel_rfl)) (fun _ _ _ h => h) (Or.inl ⟨by rfl, ?_⟩) ?_ ?_
                            rotate_left
                            · intro w'
                              go_simp
                              with_reducible rfl
                            rotate_left
                            · simp only [Act.put, List.setIfInBounds_toArray, List.set_cons_zero, List.set_cons_succ, i64_w, i32_w]
                              rfl
                            refine pure_ (i := 27) (N := some 5) (v := ?_) (a' := ?_) #[true, true, true, true, true, true, true, true, true, true, true, true, true, true, true, true, true, true, true, true, true, true, true, true, true, true, true, true, false] rfl rfl (any_of HT_.out (by kernel_rfl)) (fun _ _ _ h => h) (Or.inl ⟨by rfl, ?_⟩) ?_ ?_
                            rotate_left
                            · intro w'
                              go_simp
                              with_reducible rfl
                            rotate_left
                            · simp only [Act.put, List.setIfInBounds_toArray, List.set_cons_zero, List.set_cons_succ, i64_w, i32_w]
                              rfl
                            refine pure_ (i := 28) (N := some 6) (v := ?_) (a' := ?_) #[true, true, true, true, true, true, true, true, true, true, true, true, true, true, true, true, true, true, true, true, true, true, true, true, true, true, true, true, true] rfl rfl (any_of HT_.out (by kernel_rfl)) (fun _ _ _ h => h) (Or.inl ⟨by rfl, ?_⟩) ?_ ?_
                            rotate_left
                            · intro w'
                              go_simp
                              with_reducible rfl
                            rotate_left
                            · simp only [Act.put, List.setIfInBounds_toArray, List.set_cons_zero, List.set_cons_succ, i64_w, i32_w]
                              rfl
                            refine done_ (done_of HT_.out (by kernel_rfl)) ?_
                            try go_wp2
                            go_roundg kj5
                            case measure => have := HK1.out; have := HJ5.out; omega
                            case rel => exact ⟨(wrap64 (x12_1 + 1)), (by first | rfl | (simp; done) | (simp [*]; done) | (simp [ne_nil_b]; done) | (simp [ne_nil_b, *]; done)), H', ⟨by have := HK1.out; have := HJ5.out; omega⟩, ⟨by repeat (first | (with_reducible first | exact HB.out | apply below_alloc | apply pw_below_drewN | apply below_drew1) | exact HB.out)⟩⟩
                        · rw [if_neg c18] at H
                          exact absurd H (by simp)
                      · rw [if_neg c17] at H
                        exact absurd H (by simp)
                    · rw [if_neg c16] at H
                      exact absurd H (by simp)
            · rw [if_neg c5] at H
              exact absurd H (by simp)
          · rw [if_neg c4] at H
            exact absurd H (by simp)
        · rw [if_neg c3] at H
          have c3b0 : decide (x12_1 < (l0.length : Int)) = false := decide_eq_false c3
          clear c3
          obtain rfl := Option.some.inj H
          go_wp2
          go_ret
          exact ⟨by first | rfl | (simp [errW_none, errW_some] <;> rfl) | (simp [*, errW_none, errW_some] <;> rfl), by repeat (first | (with_reducible first | exact HB.out | apply below_alloc | apply pw_below_drewN | apply below_drew1) | exact HB.out)⟩
end
section
/-! ### impl_flowsFault: function 81 -/
def impl_flowsFault.f (k : Nat) (l0 : List (S71)) : Option (Int) := if (l0.length : Int) > 4096 then (some 2) else ((impl_FlowsOK.f k l0).bind fun t306 => (if t306 = true then (some 0) else (some 1)))
theorem impl_flowsFault.mono : ∀ a0 k, LeO (impl_flowsFault.f k a0) (impl_flowsFault.f (k + 1) a0) := by
  intro a0 k
  unfold impl_flowsFault.f
  repeat' first
      | (with_reducible exact impl_FlowsOK.mono ..)
      | (with_reducible exact LeO.refl _)
      | (with_reducible exact LeO.none _)
      | (with_reducible refine LeO.ite ?_ ?_)
      | (with_reducible refine LeO.bind ?_ (fun _ => ?_))
      | exact impl_FlowsOK.mono ..
      | exact LeO.none _
      | refine LeO.ite ?_ ?_
      | refine LeO.bind ?_ (fun _ => ?_)
set_option maxHeartbeats 8000000 in
set_option maxRecDepth 100000 in
theorem impl_flowsFault.calls (k : Nat) (A0 : Option Addr) (c0 : Nat) (l0 : List (S71)) (r : Int) (w : World) (hr0 : Kd.C k71 w A0 l0.length l0) (hc0 : l0.length ≤ c0) (h : impl_flowsFault.f k l0 = some r) :
    Calls Try.prog 81 #[.slice A0 l0.length c0] w fun e w' => e = .returned (.int .i64 r) ∧ Below w.heap.size w w' := by
  have HR0 := Aside0.mk hr0
  have HC0 := Aside0.mk hc0
  clear hr0 hc0
  have HB := Aside0.mk (Below.refl w.heap.size w)
  have H : (if (l0.length : Int) > 4096 then (some 2) else ((impl_FlowsOK.f k l0).bind fun t306 => (if t306 = true then (some 0) else (some 1)))) = some r := h
  clear h
  by_cases c2 : (l0.length : Int) > 4096
  · rw [if_pos c2] at H
    have c2b0 : decide (4096 < (l0.length : Int)) = true := decide_eq_true c2
    have c2b1 : decide (4096 < l0.length) = true := decide_eq_true (by omega)
    clear c2
    obtain rfl := Option.some.inj H
    go_enter Try.func81, Try.ntmps81
    go_wp2
    go_ret
    exact ⟨by first | rfl | (simp [errW_none, errW_some] <;> rfl) | (simp [*, errW_none, errW_some] <;> rfl), by repeat (first | (with_reducible first | exact HB.out | apply below_alloc | apply pw_below_drewN | apply below_drew1) | exact HB.out)⟩
  · rw [if_neg c2] at H
    have c2b0 : decide (4096 < (l0.length : Int)) = false := decide_eq_false c2
    have c2b1 : decide (4096 < l0.length) = false := decide_eq_false (by omega)
    clear c2
    replace H := Option.bind_eq_some_iff.mp H
    obtain ⟨t306, A30, H⟩ := H
    replace H : (if t306 = true then (some 0) else (some 1)) = some r := H
    have A3 := Aside0.mk A30
    clear A30
    by_cases c4 : t306 = true
    · subst c4
      have H1 : (some 0) = some r := by rw [if_pos rfl] at H; exact H
      clear H
      have H := H1
      clear H1
      obtain rfl := Option.some.inj H
      go_enter Try.func81, Try.ntmps81
      go_wp2_with (first | ((with_reducible refine gate_callee (f := 29) rfl ?_); refine goesL_ (some 9) rfl rfl Try.func29 (by kernel_rfl) rfl #[.slice A0 l0.length c0] rfl (by (try simp only [List.map_toArray, List.map_cons, List.map_nil]); first | done | rfl | (simp only [List.length_drop, List.length_take]; rfl)) ?_; (with_reducible refine (impl_FlowsOK.calls k _ _ l0 true _ ?side1 ?side2 A3.out).mono ?_); (case side1 => repeat (first | exact HR0.out | (with_reducible refine Kd.C_alloc ?_ _) | (with_reducible refine Kd.C_drewN ?_ _) | (with_reducible refine Kd.C_drew ?_))); (case side2 => exact HC0.out); rintro e w5 ⟨rfl, hb⟩; refine ⟨_, rfl, ?_⟩; have n0_ := Aside0.mk (below_step (by repeat (first | (with_reducible first | exact HB.out | apply below_alloc | apply pw_below_drewN | apply below_drew1) | exact HB.out)) hb); clear HB; have HB := n0_; clear n0_; (try clear hb); (try clear hb2); (try clear hk); (try clear hi)))
      go_ret
      exact ⟨by first | rfl | (simp [errW_none, errW_some] <;> rfl) | (simp [*, errW_none, errW_some] <;> rfl), by repeat (first | (with_reducible first | exact HB.out | apply below_alloc | apply pw_below_drewN | apply below_drew1) | exact HB.out)⟩
    · replace c4 := Bool.eq_false_iff.mpr c4
      subst c4
      have H1 : (some 1) = some r := by rw [if_neg (show ¬ (false = true) by decide)] at H; exact H
      clear H
      have H := H1
      clear H1
      obtain rfl := Option.some.inj H
      go_enter Try.func81, Try.ntmps81
      go_wp2_with (first | ((with_reducible refine gate_callee (f := 29) rfl ?_); refine goesL_ (some 9) rfl rfl Try.func29 (by kernel_rfl) rfl #[.slice A0 l0.length c0] rfl (by (try simp only [List.map_toArray, List.map_cons, List.map_nil]); first | done | rfl | (simp only [List.length_drop, List.length_take]; rfl)) ?_; (with_reducible refine (impl_FlowsOK.calls k _ _ l0 false _ ?side1 ?side2 A3.out).mono ?_); (case side1 => repeat (first | exact HR0.out | (with_reducible refine Kd.C_alloc ?_ _) | (with_reducible refine Kd.C_drewN ?_ _) | (with_reducible refine Kd.C_drew ?_))); (case side2 => exact HC0.out); rintro e w6 ⟨rfl, hb⟩; refine ⟨_, rfl, ?_⟩; have n0_ := Aside0.mk (below_step (by repeat (first | (with_reducible first | exact HB.out | apply below_alloc | apply pw_below_drewN | apply below_drew1) | exact HB.out)) hb); clear HB; have HB := n0_; clear n0_; (try clear hb); (try clear hb2); (try clear hk); (try clear hi)))
      go_ret
      exact ⟨by first | rfl | (simp [errW_none, errW_some] <;> rfl) | (simp [*, errW_none, errW_some] <;> rfl), by repeat (first | (with_reducible first | exact HB.out | apply below_alloc | apply pw_below_drewN | apply below_drew1) | exact HB.out)⟩
end
section
theorem impl_Flow_100.eql (a : Addr) (n c : Nat) (w : World) : (Sem.run Try.prog (binOp BinOp.eql 40 (Value.slice (some a) n c) (Value.slice none 0 0)) w) = .ok (.bool false) w := by
  simp only [binOp, Op.equal]
  rw [show Op.maxDepth = 9999 + 1 from rfl, Op.equalIn]
  simp
theorem impl_Flow_100.nil (n c : Nat) (w : World) : (Sem.run Try.prog (binOp BinOp.eql 40 (Value.slice none n c) (Value.slice none 0 0)) w) = .ok (.bool true) w := by
  simp only [binOp, Op.equal]
  rw [show Op.maxDepth = 9999 + 1 from rfl, Op.equalIn]
  simp
attribute [local go_sem] impl_Flow_100.eql impl_Flow_100.nil
/-! ### impl_Flow_100: function 100 -/
def impl_Flow_100.f (l0 : List (S71)) : Option ((List (S71))) := (some (([] : List (S71)) : List (S71))).bind fun y851 => (if y851.length + l0.length < 1759218604441 then (some (y851 ++ l0)) else (none))
set_option maxHeartbeats 8000000 in
set_option maxRecDepth 100000 in
theorem impl_Flow_100.calls0 (a0_ : Addr) (c0 : Nat) (l0 : List (S71)) (r : List (S71)) (w : World) (hr0 : Kd.C k71 w (some a0_) l0.length l0) (hc0 : l0.length ≤ c0) (h : impl_Flow_100.f l0 = some r) :
    Calls Try.prog 100 #[.slice (some a0_) l0.length c0] w fun e w' => ∃ v0_ : Value, e = .returned (v0_) ∧ Kd.R k71 71 w' w.heap.size (fun _ => True) v0_ r ∧ Below w.heap.size w w' := by
  have HR0 := Aside0.mk hr0
  have HC0 := Aside0.mk hc0
  clear hr0 hc0
  have HB := Aside0.mk (Below.refl w.heap.size w)
  have H : ((some (([] : List (S71)) : List (S71))).bind fun y851 => (if y851.length + l0.length < 1759218604441 then (some (y851 ++ l0)) else (none))) = some r := h
  clear h
  obtain ⟨y851, hy851⟩ : ∃ y_ : List (S71), y_ = (([] : List (S71))) := ⟨_, rfl⟩
  replace H : (if y851.length + l0.length < 1759218604441 then (some (y851 ++ l0)) else (none)) = some r := by first | (rw [hy851]; with_reducible exact H) | (have H2_ := (Option.bind_some _ _).symm.trans H; rw [hy851]; with_reducible exact H2_) | (have H2_ := (Option.bind_some _ _).symm.trans H; with_reducible exact H2_) | with_reducible exact H | (rw [hy851]; exact H) | exact H
  have Ny851 := Aside0.mk hy851
  clear hy851
  by_cases c2 : y851.length + l0.length < 1759218604441
  · rw [if_pos c2] at H
    have LMc2 := Aside0.mk c2
    clear c2
    obtain ⟨y854, hy854⟩ : ∃ y_ : List (S71), y_ = (y851 ++ l0) := ⟨_, rfl⟩
    replace H : (some y854) = some r := by first | (rw [hy854]; with_reducible exact H) | (have H2_ := (Option.bind_some _ _).symm.trans H; rw [hy854]; with_reducible exact H2_) | (have H2_ := (Option.bind_some _ _).symm.trans H; with_reducible exact H2_) | with_reducible exact H | (rw [hy854]; exact H) | exact H
    have Ny854 := Aside0.mk hy854
    clear hy854
    obtain rfl := Option.some.inj H
    go_enter Try.func100, Try.ntmps100
    go_wp2_with (first | ((with_reducible refine gate_dst (N := 5) rfl ?_); refine Kd.R_lit k71 _ 71 ?hg (N := 5) ?hd (xs := ([] : List (S71))) (inner := []) (ok := fun _ => True) (okp := fun _ => True) ?hr ?hp (fun _ hk => hk) trivial (Below.refl _ _) (Nat.le_refl _) (by simp) ?_; (case hd => rfl); (case hg => rfl); (case hr => first | (go_simp; done) | (go_simp; rfl)); (case hp => exact (Reps.none _ _)); intro v852 w3 ho4 hb hg_ hnew_; clear hg_ hnew_; (first | rw [← Ny851.out] at ho4 | (simp only [Int.reduceToNat] at ho4; rw [← Ny851.out] at ho4)); have n0_ := Aside0.mk (Kd.R_lower ho4 (below_size (by repeat (first | (with_reducible first | exact HB.out | apply below_alloc | apply pw_below_drewN | apply below_drew1) | exact HB.out)))); have n1_ := Aside0.mk (below_step (by repeat (first | (with_reducible first | exact HB.out | apply below_alloc | apply pw_below_drewN | apply below_drew1) | exact HB.out)) hb); clear HB; have HO853 := n0_; have HB := n1_; clear n0_ n1_; clear hb ho4) | ((with_reducible refine gate_builtin (b := .append) (xs := #[.tmp 5, .tmp 6]) rfl ?_); at_builtin; refine Kd.R_append_rows k71 (w0 := w) w.heap.size rfl (.tmp 5) (.tmp 6) 40 71 (.agg #[(.int .i64 0), (.string ⟨#[]⟩), (.int .i64 0), (.int .i64 0), (.int .i64 0), (.int .i64 0), (.int .i64 0), (.int .i64 0), (.int .i64 0)]) 80 rfl Try.underlying40 info71 rfl (by decide) (by omega) v852 y851 l0 _ _ _ (fun _ => True) (fun _ => False) rfl rfl ?aO ?aR (fun _ _ h => h) (fun _ h => h.elim) ?aF ?aB ?aS ?aL ?_; (case aR => repeat (first | exact (Kd.C_below HR0.out HB.out) | (with_reducible refine Kd.C_alloc ?_ _) | (with_reducible refine Kd.C_drewN ?_ _) | (with_reducible refine Kd.C_drew ?_))); (case aB => exact (by repeat (first | (with_reducible first | exact HB.out | apply below_alloc | apply pw_below_drewN | apply below_drew1) | exact HB.out))); (case aF => exact (fun _ _ => trivial)); (case aO => exact (by (with_reducible repeat (first | apply Kd.R_alloc | apply Kd.R_drewN | apply Kd.R_drew)); exact HO853.out)); (case aS => exact (below_size (by repeat (first | (with_reducible first | exact HB.out | apply below_alloc | apply pw_below_drewN | apply below_drew1) | exact HB.out)))); (case aL => have := LMc2.out; omega); intro v855 w5 ho hb hg hat; rw [← Ny854.out] at ho; have n0_ := Aside0.mk (hb); have n1_ := Aside0.mk (ho); clear HB; clear HO853; have HB := n0_; have HO856 := n1_; clear n0_ n1_; clear ho hb hg hat))
    go_ret
    exact ⟨_, by first | rfl | (simp [errW_none, errW_some] <;> rfl) | (simp [*, errW_none, errW_some] <;> rfl), by (with_reducible repeat (first | apply Kd.R_alloc | apply Kd.R_drewN | apply Kd.R_drew)); exact HO856.out, by repeat (first | (with_reducible first | exact HB.out | apply below_alloc | apply pw_below_drewN | apply below_drew1) | exact HB.out)⟩
  · rw [if_neg c2] at H
    exact absurd H (by simp)

set_option maxHeartbeats 8000000 in
set_option maxRecDepth 100000 in
theorem impl_Flow_100.calls (A0 : Option Addr) (c0 : Nat) (l0 : List (S71)) (r : List (S71)) (w : World) (hr0 : Kd.C k71 w A0 l0.length l0) (hc0 : l0.length ≤ c0) (h : impl_Flow_100.f l0 = some r) :
    Calls Try.prog 100 #[.slice A0 l0.length c0] w fun e w' => ∃ v0_ : Value, e = .returned (v0_) ∧ Kd.R k71 71 w' w.heap.size (fun _ => True) v0_ r ∧ Below w.heap.size w w' := by
  cases A0 with
  | some a => exact impl_Flow_100.calls0 a c0 l0 r w hr0 hc0 h
  | none =>
    have hl : l0 = [] := by
      cases l0 with
      | nil => rfl
      | cons y ys =>
        obtain ⟨ad, e_, _⟩ := at_T71 hr0 0 (by omega) (by simp)
        cases e_
    subst hl
    obtain rfl : r = [] := by simpa [impl_Flow_100.f] using h.symm
    go_enter Try.func100, Try.ntmps100
    go_wp2
    go_ret
    exact ⟨_, rfl, Kd.R_nil _ _ _ _ _, by repeat (first | exact Below.refl _ _ | apply below_alloc | apply pw_below_drewN | apply below_drew1)⟩
end
section
-- IMPORT Derived.Laws.BitsLemmas
-- IMPORT Derived.OpenShut
theorem wrap_id {n : Int} (h0 : -9223372036854775808 ≤ n) (h1 : n ≤ 9223372036854775807) : wrap64 n = n := by
  unfold wrap64; omega
end
section
def fst_T71 (q : S71 → Bool) (l : List S71) : Nat → Int → Int
  | 0, _ => -1
  | d + 1, i => if q (rd_T71 l i) = true then i else fst_T71 q l d (i + 1)
def any_T71 (q : S71 → Bool) (l : List S71) : Nat → Int → Bool
  | 0, _ => false
  | d + 1, i => q (rd_T71 l i) || any_T71 q l d (i + 1)
theorem fst_any_T71 (q : S71 → Bool) (l : List S71) : ∀ (d : Nat) (i : Int), 0 ≤ i → decide (0 ≤ fst_T71 q l d i) = any_T71 q l d i
  | 0, i, _ => by simp [fst_T71, any_T71]
  | d + 1, i, h => by
    rw [fst_T71, any_T71]
    cases e : q (rd_T71 l i)
    · rw [if_neg (by simp), fst_any_T71 q l d (i + 1) (by omega), Bool.false_or]
    · rw [if_pos rfl, decide_eq_true h, Bool.true_or]
theorem idxP71_ev (q : S71 → Bool) (l : List S71) (hx : (l.length : Int) ≤ 1152921504606846976) (p : S71 → Option Bool) (hp : ∀ x, p x = some (q x)) : ∀ (d : Nat) (i : Int), 0 ≤ i → (l.length : Int) - i = d → ∀ k, d + 1 ≤ k → idxP71 p l k i = some (fst_T71 q l d i)
  | 0, i, h0, hd, k, hk => by
    obtain ⟨k, rfl⟩ : ∃ z, k = z + 1 := ⟨k - 1, by omega⟩
    rw [idxP71, if_neg (by omega)]; rfl
  | d + 1, i, h0, hd, k, hk => by
    obtain ⟨k, rfl⟩ : ∃ z, k = z + 1 := ⟨k - 1, by omega⟩
    rw [idxP71, if_pos (by omega), if_pos h0, hp, Option.bind_some, fst_T71, wrap_id (by omega) (by omega), idxP71_ev q l hx p hp d (i + 1) (by omega) (by omega) k (by omega)]
    cases q (rd_T71 l i) <;> simp
theorem idxP71_evr (q : S71 → Bool) (l : List S71) (hx : (l.length : Int) ≤ 1152921504606846976) (p : S71 → Option Bool) : ∀ (d : Nat) (i : Int), 0 ≤ i → (l.length : Int) - i = d → (∀ j : Int, i ≤ j → j < l.length → p (rd_T71 l j) = some (q (rd_T71 l j))) → ∀ k, d + 1 ≤ k → idxP71 p l k i = some (fst_T71 q l d i)
  | 0, i, h0, hd, hp, k, hk => by
    obtain ⟨k, rfl⟩ : ∃ z, k = z + 1 := ⟨k - 1, by omega⟩
    rw [idxP71, if_neg (by omega)]; rfl
  | d + 1, i, h0, hd, hp, k, hk => by
    obtain ⟨k, rfl⟩ : ∃ z, k = z + 1 := ⟨k - 1, by omega⟩
    rw [idxP71, if_pos (by omega), if_pos h0, hp i (by omega) (by omega), Option.bind_some, fst_T71, wrap_id (by omega) (by omega), idxP71_evr q l hx p d (i + 1) (by omega) (by omega) (fun j h1 h2 => hp j (by omega) h2) k (by omega)]
    cases q (rd_T71 l i) <;> simp
end
section
/-! ### impl_Flow_116: function 116 -/
-- IMPORT Derived.Shelf.SlicesE.DeleteFunc
-- IMPORT Derived.Lib.OwnBridge
-- USES 107 100
open Go.Sort (Holds putRow putCells mapBlock onCells) 
open Go.Lib (lay lay_get? putRow_setCells KeptInv keptUpTo)
theorem clear_cells {P : Program} (w : World) (t e ty : TypeId) (z : Value) (ht : P.underlying t = some (.slice e)) (hv : ∀ w, (zeroValue e).run P w = .ok z w) (h1 : ∀ v ∈ z.cells.toList, v.oneCell' = true) (b o n c : Nat) (hn : 0 < n)
    (hc : ∀ j, j < n * z.cells.size → (w.cell? ⟨b, o + j, none⟩).isSome = true) (hf : ∀ j, j < n * z.cells.size → w.frozen? ⟨b, o + j, none⟩ = false) :
    (Builtin.clear_ #[t] ty #[.slice (some ⟨b, o, none⟩) n c]).run P w = .ok (.tuple #[]) (w.setCells b o (Builtin.zeroCells z.cells n).toList) := by
  have hlen : (Builtin.zeroCells z.cells n).toList.length = n * z.cells.size := by simp [Builtin.zeroCells]
  have hst := run_storeCells_cells (P := P) b o (Builtin.zeroCells z.cells n).toList 0 w (by simpa [hlen] using hc) (by simpa [hlen] using hf) (by
    intro v hv'
    simp only [Builtin.zeroCells, Array.toList_map, List.mem_map, Array.toList_range, List.mem_range] at hv'
    obtain ⟨i, hi, rfl⟩ := hv'
    have hp : 0 < z.cells.size := Nat.pos_of_ne_zero (fun e => by rw [e] at hi; omega)
    have hm : i % z.cells.size < z.cells.size := Nat.mod_lt _ hp
    rw [getElem!_pos z.cells _ hm]
    exact h1 _ (by simp))
  simp only [Nat.add_zero] at hst
  obtain ⟨m, rfl⟩ : ∃ m, n = m + 1 := ⟨n - 1, by omega⟩
  simp [Builtin.clear_, run_underlying ht, hv, hst]
/-- The cells of a row of elements. -/
def flatC {α : Type} (enc : α → List Value) (l : List α) : List Value := l.flatMap enc
theorem flatC_length {α : Type} {enc : α → List Value} {s : Nat} (he : ∀ x, (enc x).length = s) : ∀ l : List α, (flatC enc l).length = l.length * s
  | [] => by simp [flatC]
  | x :: l => by
    have := flatC_length he l
    rw [flatC] at this ⊢
    rw [List.flatMap_cons, List.length_append, he, this, List.length_cons, Nat.add_mul, Nat.one_mul, Nat.add_comm]
theorem flatC_append {α : Type} (enc : α → List Value) (l m : List α) : flatC enc (l ++ m) = flatC enc l ++ flatC enc m := List.flatMap_append
theorem flatC_at {α : Type} {enc : α → List Value} {s : Nat} (he : ∀ x, (enc x).length = s) (l : List α) (j c : Nat) (hj : j < l.length) (hc : c < s) : (flatC enc l)[j * s + c]? = (enc l[j])[c]? := by
  have hsp : l = l.take j ++ l[j] :: l.drop (j + 1) := by rw [← List.drop_eq_getElem_cons hj, List.take_append_drop]
  have hl : (flatC enc (l.take j)).length = j * s := by rw [flatC_length he, List.length_take, Nat.min_eq_left (by omega)]
  have h2 : flatC enc l = flatC enc (l.take j) ++ (enc l[j] ++ flatC enc (l.drop (j + 1))) := by
    conv => lhs; rw [hsp, flatC_append]
    rfl
  rw [h2, List.getElem?_append_right (by omega), hl, show j * s + c - j * s = c by omega, List.getElem?_append_left (by rw [he]; exact hc)]
theorem lay_cells {α : Type} {enc : α → List Value} {s : Nat} (he : ∀ x, (enc x).length = s) (l : List α) (i : Nat) (u : α) (hi : i < l.length) : lay (flatC enc l).toArray (i * s) (enc u) = (flatC enc (l.set i u)).toArray := by
  have h1 : (i + 1) * s ≤ l.length * s := Nat.mul_le_mul_right s hi
  rw [Nat.add_mul, Nat.one_mul] at h1
  have hsz := flatC_length he l
  apply Array.ext_getElem?
  intro j
  rw [lay_get? _ _ _ _ (by rw [he, List.size_toArray, hsz]; exact h1), he, List.getElem?_toArray, List.getElem?_toArray]
  rcases Nat.lt_or_ge j (l.length * s) with hj | hj
  · have hs : 0 < s := Nat.pos_of_ne_zero (fun e => by rw [e] at hj; omega)
    have hq : j / s < l.length := (Nat.div_lt_iff_lt_mul hs).2 hj
    have hc : j % s < s := Nat.mod_lt _ hs
    have hje : j = j / s * s + j % s := by rw [Nat.mul_comm]; exact (Nat.div_add_mod j s).symm
    have hL := flatC_at he l (j / s) (j % s) hq hc
    have hR := flatC_at he (l.set i u) (j / s) (j % s) (by rw [List.length_set]; exact hq) hc
    rw [← hje] at hL hR
    rw [hR, hL, List.getElem_set]
    by_cases hqi : i = j / s
    · rw [if_pos hqi, if_pos ⟨by rw [hqi]; omega, by rw [hqi]; omega⟩]
      congr 1
      rw [hqi]; omega
    · rw [if_neg hqi, if_neg]
      rintro ⟨h2, h3⟩
      apply hqi
      have a1 : i ≤ j / s := (Nat.le_div_iff_mul_le hs).2 h2
      have a2 : j / s < i + 1 := (Nat.div_lt_iff_lt_mul hs).2 (by rw [Nat.add_mul, Nat.one_mul]; exact h3)
      omega
  · rw [if_neg (by omega), List.getElem?_eq_none (by omega), List.getElem?_eq_none (by rw [flatC_length he, List.length_set]; omega)]
def enc71 (x : S71) : List Value := [.int .i64 x.f0, .string x.f1, .int .i64 x.f2, .int .i64 x.f3, .int .i64 x.f4, .int .i64 x.f5, .int .i64 x.f6, .int .i64 x.f7, .int .i64 x.f8]
theorem enc71_len (x : S71) : (enc71 x).length = 9 := rfl
instance : Inhabited S71 := ⟨z71⟩
structure RowIs (W : World) (blk cap : Nat) (D : List S71) : Prop where
  ex : ∃ cur : Array Value, W.heap[blk]? = some (.cells cur 71 (0, 0)) ∧ cur.size = cap * 9 ∧ cur.toList.take (D.length * 9) = flatC enc71 D
theorem RowIs.cell {W : World} {blk cap : Nat} {D : List S71} (h : RowIs W blk cap D) (j c : Nat) (hj : j < D.length) (hc : c < 9) : W.cell? ⟨blk, j * 9 + c, none⟩ = (enc71 D[j])[c]? := by
  obtain ⟨cur, h1, h2, h3⟩ := h.ex
  rw [blk_cell h1, ← flatC_at enc71_len D j c hj hc, ← h3, List.getElem?_take, if_pos (by omega), Array.getElem?_toList]
theorem RowIs.below {W W' : World} {blk cap : Nat} {D : List S71} (h : RowIs W blk cap D) (hb : Below W.heap.size W W') : RowIs W' blk cap D := by
  obtain ⟨cur, h1, h2, h3⟩ := h.ex
  exact ⟨cur, blk_below h1 hb, h2, h3⟩
theorem RowIs.frozen {W : World} {blk cap : Nat} {D : List S71} (h : RowIs W blk cap D) (i : Nat) : W.frozen? ⟨blk, i, none⟩ = false := by
  obtain ⟨cur, h1, h2, h3⟩ := h.ex
  exact blk_frozen h1 i
theorem RowIs.lt {W : World} {blk cap : Nat} {D : List S71} (h : RowIs W blk cap D) : blk < W.heap.size := by
  obtain ⟨cur, h1, h2, h3⟩ := h.ex
  exact blk_lt h1
theorem RowIs.put {W : World} {blk cap : Nat} {D : List S71} (h : RowIs W blk cap D) (hcap : D.length ≤ cap) (i : Nat) (hi : i < D.length) (u : S71) : RowIs (((((((((W.setCell ⟨blk, i * 9, none⟩ (.int .i64 u.f0)).setCell ⟨blk, i * 9 + 1, none⟩ (.string u.f1)).setCell ⟨blk, i * 9 + 2, none⟩ (.int .i64 u.f2)).setCell ⟨blk, i * 9 + 3, none⟩ (.int .i64 u.f3)).setCell ⟨blk, i * 9 + 4, none⟩ (.int .i64 u.f4)).setCell ⟨blk, i * 9 + 5, none⟩ (.int .i64 u.f5)).setCell ⟨blk, i * 9 + 6, none⟩ (.int .i64 u.f6)).setCell ⟨blk, i * 9 + 7, none⟩ (.int .i64 u.f7)).setCell ⟨blk, i * 9 + 8, none⟩ (.int .i64 u.f8)) blk cap (D.set i u) := by
  obtain ⟨cur, h1, h2, h3⟩ := h.ex
  have hD := flatC_length enc71_len D
  have hDs := flatC_length enc71_len (D.set i u)
  rw [List.length_set] at hDs
  have hin : i * 9 + 9 ≤ cur.size := by omega
  refine ⟨lay cur (i * 9) (enc71 u), (blk_put (blk_put (blk_put (blk_put (blk_put (blk_put (blk_put (blk_put (blk_put h1 (i * 9) (.int .i64 u.f0) rfl) (i * 9 + 1) (.string u.f1) rfl) (i * 9 + 2) (.int .i64 u.f2) rfl) (i * 9 + 3) (.int .i64 u.f3) rfl) (i * 9 + 4) (.int .i64 u.f4) rfl) (i * 9 + 5) (.int .i64 u.f5) rfl) (i * 9 + 6) (.int .i64 u.f6) rfl) (i * 9 + 7) (.int .i64 u.f7) rfl) (i * 9 + 8) (.int .i64 u.f8) rfl), ?_, ?_⟩
  · simp only [enc71, lay, Array.size_setIfInBounds]; exact h2
  · rw [List.length_set]
    apply List.ext_getElem?
    intro j
    have hL := congrArg (fun a : Array Value => a[j]?) (lay_cells enc71_len D i u hi)
    simp only [List.getElem?_toArray] at hL
    rw [← hL, lay_get? _ _ _ _ (by rw [enc71_len, List.size_toArray, hD]; omega), List.getElem?_take, Array.getElem?_toList, lay_get? _ _ _ _ (by rw [enc71_len]; exact hin), enc71_len, List.getElem?_toArray]
    by_cases hj : j < D.length * 9
    · rw [if_pos hj]
      have h4 : cur.toList[j]? = (flatC enc71 D).toArray[j]? := by rw [List.getElem?_toArray, ← h3, List.getElem?_take, if_pos hj]
      rw [h4]
    · rw [if_neg hj, if_neg (by omega), List.getElem?_toArray, List.getElem?_eq_none (by omega)]
theorem flatC_take (D : List S71) (i : Nat) (h : i ≤ D.length) : (flatC enc71 D).take (i * 9) = flatC enc71 (D.take i) := by
  conv => lhs; rw [← List.take_append_drop i D, flatC_append]
  exact List.take_left' (by rw [flatC_length enc71_len, List.length_take, Nat.min_eq_left h])
theorem RowIs.cut {W : World} {blk cap : Nat} {D : List S71} (h : RowIs W blk cap D) (hcap : D.length ≤ cap) (i : Nat) (hi : i ≤ D.length) (xs : List Value) (hx : xs.length = (D.length - i) * 9) : RowIs (W.setCells blk (i * 9) xs) blk cap (D.take i) := by
  obtain ⟨cur, h1, h2, h3⟩ := h.ex
  obtain ⟨cur', e1, e2, e3⟩ := setCells_row xs (i * 9) W cur h1 (by omega)
  refine ⟨cur', e1, by omega, ?_⟩
  rw [List.length_take, Nat.min_eq_left hi, e3, List.append_assoc, List.take_left' (by rw [List.length_take, Array.length_toList]; omega), ← flatC_take D i hi, ← h3, List.take_take, Nat.min_eq_left (by omega)]
structure KB (w W : World) (g : Nat) : Prop where
  keep : KeepBut w W g none
  bel : Below g w W
  le : g ≤ W.heap.size
theorem KB.refl {w : World} {g : Nat} (h : g < w.heap.size) : KB w w g := ⟨KeepBut.refl _ _ _, Below.refl _ _, Nat.le_of_lt h⟩
theorem KB.step {w W W2 : World} {g : Nat} (h : KB w W g) (k : Below W.heap.size W W2) : KB w W2 g := ⟨h.keep.trans (KeepBut.of_below k g none) (.inl rfl), below_then h.bel h.le k, Nat.le_trans h.le k.size⟩
theorem KB.set_ {w W : World} {g : Nat} (h : KB w W g) (j : Nat) (u : Value) : KB w (W.setCell ⟨g, j, none⟩ u) g := ⟨h.keep.set_ j u, h.bel.setCell (Nat.le_refl g) _, by simpa [World.setCell] using h.le⟩
theorem KB.sets {g : Nat} : ∀ (vs : List Value) (o : Nat) {w W : World}, KB w W g → KB w (W.setCells g o vs) g
  | [], _, _, _, h => h
  | u :: vs, o, _, _, h => KB.sets vs (o + 1) (h.set_ o u)
theorem kept_take {kp : Nat → Bool} {d dk : Array S71} {i : Nat} (h : KeptInv kp d d.size i dk) : dk.toList.take i = keptUpTo kp d d.size := by
  have hl := h.len
  have hs := h.size
  have hlt := h.lt
  apply List.ext_getElem?
  intro j
  by_cases hj : j < i
  · rw [List.getElem?_take, if_pos hj, h.low j hj, Array.getElem?_toList, getElem!_pos dk j (by omega), Array.getElem?_eq_getElem]
  · rw [List.getElem?_take, if_neg hj, List.getElem?_eq_none (by omega)]
set_option maxHeartbeats 4000000 in
set_option maxRecDepth 100000 in
theorem del71 (g : FuncId) (lb : Array Value) (eg : ∀ args w, (callFunc g args).run Try.prog w = .ok (.enter g args) w) (p : S71 → Bool) (blk cap : Nat) (l : List S71) (w : World)
    (hp : ∀ (W : World) (x : S71), KeepBut w W blk none → Calls Try.prog g (#[.agg #[.int .i64 x.f0, .string x.f1, .int .i64 x.f2, .int .i64 x.f3, .int .i64 x.f4, .int .i64 x.f5, .int .i64 x.f6, .int .i64 x.f7, .int .i64 x.f8]] ++ lb) W fun e w' => e = .returned (.bool (p x)) ∧ Below W.heap.size W w')
    (hr : RowIs w blk cap l) (hln : l.length ≤ cap) (hcm : cap ≤ 9223372036854775807)
    (k0 : Nat) (hk0 : k0 < l.length) (hall : ∀ j, j < k0 → p l.toArray[j]! = false) (hhit : p l.toArray[k0]! = true) (hix : Calls Try.prog 107 #[.slice (some ⟨blk, 0, none⟩) l.length cap, .func (.func g) #[] lb] w fun e w' => e = .returned (.int .i64 k0) ∧ Below w.heap.size w w') :
    Calls Try.prog 116 #[.slice (some ⟨blk, 0, none⟩) l.length cap, .func (.func g) #[] lb] w fun e w' => e = .returned (.slice (some ⟨blk, 0, none⟩) (l.filter fun x => !p x).length cap) ∧ KB w w' blk ∧ RowIs w' blk cap (l.filter fun x => !p x) := by
  have hne1 : ((k0 : Int) == -1) = false := beq_eq_false_iff_ne.2 (by omega)
  go_enter Try.func116, Try.ntmps116
  go_wp2_with (go_at_call 107; refine hix.mono ?_; rintro e w1 ⟨rfl, hb0⟩)
  go_loopg [5, 6, 7] l.length (fun gg s5 s6 _ wr => ∃ (i j : Nat) (dk : Array S71), s5 = .int .i64 i ∧ s6 = .int .i64 j ∧ j ≤ l.length ∧ l.length - j ≤ gg ∧ KB w wr blk ∧ RowIs wr blk cap dk.toList ∧ Aside0 (KeptInv (fun j => !p l.toArray[j]!) l.toArray j i dk))
  case atStart =>
    have hR1 := hr.below hb0
    refine ⟨k0, k0 + 1, l.toArray, rfl, by go_num, by omega, by omega, (KB.refl hr.lt).step hb0, hR1, ⟨KeptInv.start (fun j hj => ?_) ?_⟩⟩
    · show (!p l.toArray[j]!) = true
      rw [hall j hj]; rfl
    · show (!p l.toArray[k0]!) = false
      rw [hhit]; rfl
  case round =>
    obtain ⟨i, j, dk, rfl, rfl, hjd, hgg, hK, hR, hI⟩ := hrel
    by_cases hlt : j < l.length
    · have hltz : (j : Int) < (l.length : Int) := by omega
      have hjs : j < dk.toList.length := by have := hI.out.size; simp at this ⊢; omega
      obtain ⟨u, hu⟩ : ∃ u, dk.toList[j] = u := ⟨_, rfl⟩
      have hc : ∀ c, c < 9 → wr.cell? ⟨blk, j * 9 + c, none⟩ = (enc71 u)[c]? := fun c h => by rw [← hu]; exact hR.cell j c hjs h
      have h0 : wr.cell? ⟨blk, j * 9, none⟩ = some (.int .i64 u.f0) := hc 0 (by decide)
      have h1 : wr.cell? ⟨blk, j * 9 + 1, none⟩ = some (.string u.f1) := hc 1 (by decide)
      have h2 : wr.cell? ⟨blk, j * 9 + 2, none⟩ = some (.int .i64 u.f2) := hc 2 (by decide)
      have h3 : wr.cell? ⟨blk, j * 9 + 3, none⟩ = some (.int .i64 u.f3) := hc 3 (by decide)
      have h4 : wr.cell? ⟨blk, j * 9 + 4, none⟩ = some (.int .i64 u.f4) := hc 4 (by decide)
      have h5 : wr.cell? ⟨blk, j * 9 + 5, none⟩ = some (.int .i64 u.f5) := hc 5 (by decide)
      have h6 : wr.cell? ⟨blk, j * 9 + 6, none⟩ = some (.int .i64 u.f6) := hc 6 (by decide)
      have h7 : wr.cell? ⟨blk, j * 9 + 7, none⟩ = some (.int .i64 u.f7) := hc 7 (by decide)
      have h8 : wr.cell? ⟨blk, j * 9 + 8, none⟩ = some (.int .i64 u.f8) := hc 8 (by decide)
      have HK := Aside0.mk hK
      have HR := Aside0.mk hR
      clear hc hK hR
      have HP := Aside0.mk hp
      clear hp
      obtain ⟨bx, hbx⟩ : ∃ bx, bx = (#[.int .i64 u.f0, .string u.f1, .int .i64 u.f2, .int .i64 u.f3, .int .i64 u.f4, .int .i64 u.f5, .int .i64 u.f6, .int .i64 u.f7, .int .i64 u.f8] : Array Value) := ⟨_, rfl⟩
      cases hq : p u with
      | true =>
        go_wp2_with (first | (go_at_fn g; refine (HP.out _ u (keep_alloc HK.out.keep _)).mono ?_; rintro e w2 ⟨rfl, hb⟩; rw [hq]))
        have hb1 := (below_alloc (Below.refl wr.heap.size wr) (.cells #[.int .i64 u.f0, .string u.f1, .int .i64 u.f2, .int .i64 u.f3, .int .i64 u.f4, .int .i64 u.f5, .int .i64 u.f6, .int .i64 u.f7, .int .i64 u.f8] 71 (0, 0)))
        have hb2 := below_step hb1 hb
        go_roundg (l.length - (j + 1))
        case measure => omega
        case rel =>
          refine ⟨i, j + 1, dk, rfl, by go_num, by omega, Nat.le_refl _, HK.out.step hb2, HR.out.below hb2, ⟨hI.out.skip ?_⟩⟩
          have hs := hI.out.size
          have hh := hI.out.high j (by have := hI.out.lt; omega)
          have hu2 : dk[j]! = u := by rw [getElem!_pos dk j (by simpa using hjs)]; exact hu
          show (!p l.toArray[j]!) = false
          rw [← hh, hu2, hq]; rfl
      | false =>
        have hij := hI.out.lt
        have his : i < dk.toList.length := by omega
        obtain ⟨o, ho⟩ : ∃ o, dk.toList[i] = o := ⟨_, rfl⟩
        go_wp2_with (first | (
          go_at_fn g
          refine (HP.out _ u (keep_alloc HK.out.keep _)).mono ?_
          rintro e w2 ⟨rfl, hb⟩
          rw [hq]
          have hR2 := (HR.out.below (below_alloc (Below.refl _ wr) _)).below hb
          have hfr := hR2.frozen
          have hbk := blk_below (blk_new wr (.cells #[.int .i64 u.f0, .string u.f1, .int .i64 u.f2, .int .i64 u.f3, .int .i64 u.f4, .int .i64 u.f5, .int .i64 u.f6, .int .i64 u.f7, .int .i64 u.f8] 71 (0, 0))) hb
          have v0 : w2.cell? ⟨wr.heap.size, 0, none⟩ = some (.int .i64 u.f0) := (blk_cell hbk 0).trans rfl
          have v1 : w2.cell? ⟨wr.heap.size, 1, none⟩ = some (.string u.f1) := (blk_cell hbk 1).trans rfl
          have v2 : w2.cell? ⟨wr.heap.size, 2, none⟩ = some (.int .i64 u.f2) := (blk_cell hbk 2).trans rfl
          have v3 : w2.cell? ⟨wr.heap.size, 3, none⟩ = some (.int .i64 u.f3) := (blk_cell hbk 3).trans rfl
          have v4 : w2.cell? ⟨wr.heap.size, 4, none⟩ = some (.int .i64 u.f4) := (blk_cell hbk 4).trans rfl
          have v5 : w2.cell? ⟨wr.heap.size, 5, none⟩ = some (.int .i64 u.f5) := (blk_cell hbk 5).trans rfl
          have v6 : w2.cell? ⟨wr.heap.size, 6, none⟩ = some (.int .i64 u.f6) := (blk_cell hbk 6).trans rfl
          have v7 : w2.cell? ⟨wr.heap.size, 7, none⟩ = some (.int .i64 u.f7) := (blk_cell hbk 7).trans rfl
          have v8 : w2.cell? ⟨wr.heap.size, 8, none⟩ = some (.int .i64 u.f8) := (blk_cell hbk 8).trans rfl
          have i0 : w2.cell? ⟨blk, i * 9, none⟩ = some (.int .i64 o.f0) := by have h_ := hR2.cell i 0 his (by decide); rw [ho] at h_; exact h_
          have i1 : w2.cell? ⟨blk, i * 9 + 1, none⟩ = some (.string o.f1) := by have h_ := hR2.cell i 1 his (by decide); rw [ho] at h_; exact h_
          have i2 : w2.cell? ⟨blk, i * 9 + 2, none⟩ = some (.int .i64 o.f2) := by have h_ := hR2.cell i 2 his (by decide); rw [ho] at h_; exact h_
          have i3 : w2.cell? ⟨blk, i * 9 + 3, none⟩ = some (.int .i64 o.f3) := by have h_ := hR2.cell i 3 his (by decide); rw [ho] at h_; exact h_
          have i4 : w2.cell? ⟨blk, i * 9 + 4, none⟩ = some (.int .i64 o.f4) := by have h_ := hR2.cell i 4 his (by decide); rw [ho] at h_; exact h_
          have i5 : w2.cell? ⟨blk, i * 9 + 5, none⟩ = some (.int .i64 o.f5) := by have h_ := hR2.cell i 5 his (by decide); rw [ho] at h_; exact h_
          have i6 : w2.cell? ⟨blk, i * 9 + 6, none⟩ = some (.int .i64 o.f6) := by have h_ := hR2.cell i 6 his (by decide); rw [ho] at h_; exact h_
          have i7 : w2.cell? ⟨blk, i * 9 + 7, none⟩ = some (.int .i64 o.f7) := by have h_ := hR2.cell i 7 his (by decide); rw [ho] at h_; exact h_
          have i8 : w2.cell? ⟨blk, i * 9 + 8, none⟩ = some (.int .i64 o.f8) := by have h_ := hR2.cell i 8 his (by decide); rw [ho] at h_; exact h_
          have f0 : w2.frozen? ⟨blk, i * 9, none⟩ = false := hR2.frozen _
          have f1 : w2.frozen? ⟨blk, i * 9 + 1, none⟩ = false := hR2.frozen _
          have f2 : w2.frozen? ⟨blk, i * 9 + 2, none⟩ = false := hR2.frozen _
          have f3 : w2.frozen? ⟨blk, i * 9 + 3, none⟩ = false := hR2.frozen _
          have f4 : w2.frozen? ⟨blk, i * 9 + 4, none⟩ = false := hR2.frozen _
          have f5 : w2.frozen? ⟨blk, i * 9 + 5, none⟩ = false := hR2.frozen _
          have f6 : w2.frozen? ⟨blk, i * 9 + 6, none⟩ = false := hR2.frozen _
          have f7 : w2.frozen? ⟨blk, i * 9 + 7, none⟩ = false := hR2.frozen _
          have f8 : w2.frozen? ⟨blk, i * 9 + 8, none⟩ = false := hR2.frozen _
          clear hfr))
        have hb1 := (below_alloc (Below.refl wr.heap.size wr) (.cells #[.int .i64 u.f0, .string u.f1, .int .i64 u.f2, .int .i64 u.f3, .int .i64 u.f4, .int .i64 u.f5, .int .i64 u.f6, .int .i64 u.f7, .int .i64 u.f8] 71 (0, 0)))
        have hb2 := below_step hb1 hb
        have hK2 := HK.out.step hb2
        go_roundg (l.length - (j + 1))
        case measure => omega
        case rel =>
          refine ⟨i + 1, j + 1, dk.setIfInBounds i u, by go_num, by go_num, by omega, Nat.le_refl _, ?_, ?_, ⟨?_⟩⟩
          · exact (((((((((hK2.set_ _ _).set_ _ _).set_ _ _).set_ _ _).set_ _ _).set_ _ _).set_ _ _).set_ _ _).set_ _ _)
          · rw [Array.toList_setIfInBounds]
            exact hR2.put (by have := hI.out.size; simp at this ⊢; omega) i his u
          · have hh := hI.out.high j (by omega)
            have hu2 : dk[j]! = u := by rw [getElem!_pos dk j (by simpa using hjs)]; exact hu
            have hk := hI.out.keep (m := j) (by simpa using hlt) (show (!p l.toArray[j]!) = true by rw [← hh, hu2, hq]; rfl)
            rwa [← hh, hu2] at hk
    · obtain rfl : j = l.length := by omega
      have hi := hI.out.lt
      have hsz := hI.out.size
      have hn : dk.toList.length = l.length := by simpa using hsz
      have hltz : ¬ ((l.length : Nat) : Int) < (l.length : Int) := by omega
      have hI2 : KeptInv (fun j => !p l.toArray[j]!) l.toArray l.toArray.size i dk := by simpa using hI.out
      have hfil : (l.filter fun x => !p x) = keptUpTo (fun j => !p l.toArray[j]!) l.toArray l.toArray.size := by
        have h_ := Go.Lib.keptUpTo_filter (fun x => !p x) l.toArray
        simpa using h_.symm
      have hlen : (l.filter fun x => !p x).length = i := by rw [hfil, hI2.len]
      have hcl : ∀ ty, (Builtin.clear_ #[40] ty #[.slice (some ⟨blk, i * 9, none⟩) (l.length - i) (cap - i)]).run Try.prog wr = .ok (.tuple #[]) (wr.setCells blk (i * 9) (Builtin.zeroCells (Value.agg #[.int .i64 0, .string ⟨#[]⟩, .int .i64 0, .int .i64 0, .int .i64 0, .int .i64 0, .int .i64 0, .int .i64 0, .int .i64 0]).cells (l.length - i)).toList) := fun ty => by
        obtain ⟨cur, h1, h2, h3⟩ := hR.ex
        refine clear_cells wr 40 71 ty _ Try.underlying40 Try.zeroValue71 ?_ blk (i * 9) _ _ (by omega) (fun t ht => ?_) (fun t ht => hR.frozen _)
        · intro v hv
          simp [Value.cells] at hv
          rcases hv with rfl | rfl | rfl <;> rfl
        · have ht' : t < (l.length - i) * 9 := ht
          rw [blk_cell h1, Array.getElem?_eq_getElem (by omega)]
          rfl
      have hK' := KB.sets (Builtin.zeroCells (Value.agg #[.int .i64 0, .string ⟨#[]⟩, .int .i64 0, .int .i64 0, .int .i64 0, .int .i64 0, .int .i64 0, .int .i64 0, .int .i64 0]).cells (l.length - i)).toList (i * 9) hK
      have hR' := hR.cut (by omega) i (by omega) (Builtin.zeroCells (Value.agg #[.int .i64 0, .string ⟨#[]⟩, .int .i64 0, .int .i64 0, .int .i64 0, .int .i64 0, .int .i64 0, .int .i64 0, .int .i64 0]).cells (l.length - i)).toList (by rw [hn]; simp [Builtin.zeroCells, Value.cells])
      rw [kept_take hI2, ← hfil] at hR'
      have HF := Aside0.mk (And.intro hK' hR')
      clear hK' hR' hK hR hI2 hfil
      go_wp2
      go_ret
      first
        | exact ⟨rfl, HF.out⟩
        | exact ⟨by rw [hlen]; rfl, HF.out⟩
set_option maxHeartbeats 4000000 in
set_option maxRecDepth 100000 in
theorem del71_none (g : FuncId) (lb : Array Value) (A : Option Addr) (n cap : Nat) (w : World)
    (hix : Calls Try.prog 107 #[.slice A n cap, .func (.func g) #[] lb] w fun e w' => e = .returned (.int .i64 (-1)) ∧ Below w.heap.size w w') :
    Calls Try.prog 116 #[.slice A n cap, .func (.func g) #[] lb] w fun e w' => e = .returned (.slice A n cap) ∧ Below w.heap.size w w' := by
  go_enter Try.func116, Try.ntmps116
  go_wp2_with (go_at_call 107; refine hix.mono ?_; rintro e w1 ⟨rfl, hb0⟩)
  go_ret
  exact ⟨rfl, hb0⟩

theorem enc71_reps {R : S71 → List Value → Prop} (hR : ∀ x cs, R x cs → cs = enc71 x) {l : List S71} {cs : List Value} (h : Reps R 9 l cs) : cs = flatC enc71 l := by
  apply List.ext_getElem?
  intro i
  have h1 := h.1
  have hf := flatC_length enc71_len l
  rcases Nat.lt_or_ge i (l.length * 9) with hi | hi
  · have hq : i / 9 < l.length := by omega
    have hc := h.2 (i / 9) l[i / 9] (List.getElem?_eq_getElem hq)
    have he := congrArg (fun z => z[i % 9]?) (hR _ _ hc)
    simp only [List.getElem?_take, List.getElem?_drop] at he
    rw [if_pos (by omega), ← flatC_at enc71_len l (i / 9) (i % 9) hq (by omega), show i / 9 * 9 + i % 9 = i by omega] at he
    exact he
  · rw [List.getElem?_eq_none (by omega), List.getElem?_eq_none (by omega)]
theorem reps_enc71 {R : S71 → List Value → Prop} (hR : ∀ x, R x (enc71 x)) (l : List S71) : Reps R 9 l (flatC enc71 l) := by
  refine ⟨flatC_length enc71_len l, fun j p hj => ?_⟩
  obtain ⟨hlt, rfl⟩ := List.getElem?_eq_some_iff.1 hj
  have e : ((flatC enc71 l).drop (j * 9)).take 9 = enc71 l[j] := by
    apply List.ext_getElem?
    intro c
    rw [List.getElem?_take]
    by_cases hc : c < 9
    · rw [if_pos hc, List.getElem?_drop, flatC_at enc71_len l j c hlt hc]
    · rw [if_neg hc, List.getElem?_eq_none (by rw [enc71_len]; omega)]
  rw [e]
  exact hR _
theorem RowIs.of_R {w : World} {base : Nat} {ok : Nat → Prop} {v : Value} {l : List S71} (h : Kd.R k71 71 w base ok v l) (hn : 0 < l.length) :
    ∃ g cap, v = .slice (some ⟨g, 0, none⟩) l.length cap ∧ base ≤ g ∧ RowIs w g cap l ∧ l.length ≤ cap ∧ cap ≤ 9223372036854775807 ∧ ok g := by
  obtain ⟨h0, inner, ho, hr⟩ := h
  have hi := enc71_reps (fun x cs hx => k71_openM hx) hr
  rcases ho.2 with ⟨_, e0⟩ | ⟨g, cap, cur, rfl, hb, hg, hnc, hm, hs, ht⟩
  · omega
  · refine ⟨g, cap, rfl, hb, ⟨cur, hg, hs, ?_⟩, hnc, ?_, h0 g rfl⟩
    · rw [← hi]; exact ht
    · simpa [maxLen] using hm
theorem RowIs.toR {w : World} {base g cap : Nat} {ok : Nat → Prop} {l : List S71} (h : RowIs w g cap l) (hb : base ≤ g) (hc : l.length ≤ cap) (hm : cap ≤ 9223372036854775807) (hok : ok g) :
    Kd.R k71 71 w base ok (.slice (some ⟨g, 0, none⟩) l.length cap) l := by
  obtain ⟨cur, h1, h2, h3⟩ := h.ex
  refine ⟨fun k hk => ?_, flatC enc71 l, ⟨flatC_length enc71_len l, .inr ⟨g, cap, cur, rfl, hb, h1, hc, by simpa [maxLen] using hm, h2, h3⟩⟩, reps_enc71 (fun x => k71_mkM _ _ _ x) l⟩
  obtain rfl : g = k := by simpa [Value.ownBlock] using hk
  exact hok
theorem rd71_at (l : List S71) (j : Nat) : rd_T71 l (j : Int) = l.toArray[j]! := by
  rw [rd_T71, Int.toNat_natCast, List.getD_eq_getElem?_getD]
  rcases Nat.lt_or_ge j l.length with h | h
  · rw [List.getElem?_eq_getElem h, getElem!_pos l.toArray j (by simpa using h)]; simp
  · rw [List.getElem?_eq_none h, getElem!_neg l.toArray j (by simpa using h)]; rfl
theorem fst71_split (q : S71 → Bool) (l : List S71) : ∀ (d i : Nat), l.length = i + d →
    (fst_T71 q l d i = -1 ∧ ∀ j, i ≤ j → j < l.length → q l.toArray[j]! = false) ∨ ∃ k : Nat, i ≤ k ∧ k < l.length ∧ fst_T71 q l d i = (k : Int) ∧ q l.toArray[k]! = true ∧ ∀ j, i ≤ j → j < k → q l.toArray[j]! = false
  | 0, i, h => .inl ⟨rfl, fun j h1 h2 => by omega⟩
  | d + 1, i, h => by
    rw [fst_T71, rd71_at]
    cases hq : q l.toArray[i]! with
    | true => exact .inr ⟨i, Nat.le_refl _, by omega, by simp, hq, fun j h1 h2 => by omega⟩
    | false =>
      rw [if_neg (by decide), show ((i : Int) + 1) = ((i + 1 : Nat) : Int) by omega]
      rcases fst71_split q l d (i + 1) (by omega) with ⟨e, ha⟩ | ⟨k, h1, h2, e, ht, ha⟩
      · refine .inl ⟨e, fun j h1 h2 => ?_⟩
        rcases Nat.eq_or_lt_of_le h1 with rfl | h3
        · exact hq
        · exact ha j h3 h2
      · refine .inr ⟨k, by omega, h2, e, ht, fun j h3 h4 => ?_⟩
        rcases Nat.eq_or_lt_of_le h3 with rfl | h5
        · exact hq
        · exact ha j h5 h4
theorem filter71_all (q : S71 → Bool) (l : List S71) (h : ∀ j, j < l.length → q l.toArray[j]! = false) : (l.filter fun x => !q x) = l := by
  rw [List.filter_eq_self]
  intro x hx
  obtain ⟨j, hj, rfl⟩ := List.getElem_of_mem hx
  have := h j hj
  rw [getElem!_pos l.toArray j (by simpa using hj)] at this
  simpa using this
theorem delFlow (g : FuncId) (lb : Array Value) (eg : ∀ args w, (callFunc g args).run Try.prog w = .ok (.enter g args) w) (p : S71 → Bool) (v : Value) (l : List S71) (base : Nat) (w : World)
    (hR : Kd.R k71 71 w base (fun _ => True) v l) (hbw : base ≤ w.heap.size) (hlen : l.length ≤ 1152921504606846976)
    (hp : ∀ (W : World) (x : S71), (∀ k, k < base → W.heap[k]? = w.heap[k]?) → Calls Try.prog g (#[.agg #[.int .i64 x.f0, .string x.f1, .int .i64 x.f2, .int .i64 x.f3, .int .i64 x.f4, .int .i64 x.f5, .int .i64 x.f6, .int .i64 x.f7, .int .i64 x.f8]] ++ lb) W fun e w' => e = .returned (.bool (p x)) ∧ Below W.heap.size W w') :
    Calls Try.prog 116 #[v, .func (.func g) #[] lb] w fun e w' => ∃ v0_ : Value, e = .returned v0_ ∧ Kd.R k71 71 w' base (fun _ => True) v0_ (l.filter fun x => !p x) ∧ Below base w w' := by
  obtain ⟨A, c, rfl⟩ := Kd.R_slice hR
  have hev := idxP71_ev p l (by omega) (fun x => some (p x)) (fun _ => rfl) l.length 0 (by omega) (by omega) (l.length + 1) (Nat.le_refl _)
  have hix := indexFunc71 g lb eg (fun x => some (p x)) (l.length + 1) A c l _ w (fun W x b hb hx => by
    obtain rfl := Option.some.inj hx
    exact (hp W x (fun k hk => hb.block k (by omega))).mono fun e w' hh => ⟨hh.1, below_step hb hh.2⟩) (Kd.R_reads' hR).2.2 hev
  have hsp := fst71_split p l l.length 0 (by omega)
  rw [show ((0 : Nat) : Int) = 0 from rfl] at hsp
  rcases hsp with ⟨e0, hall⟩ | ⟨k0, _, hk0, e0, hhit, hall⟩
  · rw [e0] at hix
    refine (del71_none g lb A l.length c w hix).mono ?_
    rintro e w' ⟨rfl, hb⟩
    refine ⟨_, rfl, ?_, hb.os, hb.tape, hb.output, hb.size, fun k hk => hb.block k (by omega)⟩
    rw [filter71_all p l (fun j hj => hall j (Nat.zero_le _) hj)]
    exact Kd.R_below hR hb
  · rw [e0] at hix
    obtain ⟨blk, cap, e1, hbb, hrow, hlc, hcm, _⟩ := RowIs.of_R hR (by omega)
    injection e1 with e1 _ e2
    subst e1; subst e2
    refine (del71 g lb eg p blk c l w (fun W x hk => hp W x (fun k hk1 => hk.2 k (by omega) (by omega) (by simp))) hrow hlc hcm k0 hk0 (fun j hj => hall j (Nat.zero_le _) hj) hhit hix).mono ?_
    rintro e w' ⟨rfl, hkb, hr'⟩
    refine ⟨_, rfl, hr'.toR hbb (Nat.le_trans (List.length_filter_le _ _) hlc) hcm trivial, ?_⟩
    exact ⟨hkb.bel.os, hkb.bel.tape, hkb.bel.output, hkb.bel.size, fun k hk => hkb.bel.block k (by omega)⟩
theorem clone_len71 {l y : List S71} (h : impl_Flow_100.f l = some y) : y.length ≤ 1152921504606846976 := by
  simp only [impl_Flow_100.f, Option.bind_some, List.nil_append, List.length_nil] at h
  split at h
  · obtain rfl := Option.some.inj h; omega
  · cases h
end
section
/-! ### impl_flowsDrop_1: function 118 -/
def impl_flowsDrop_1.f (a0_0 : Int) (a0_1 : ByteArray) (a0_2 : Int) (a0_3 : Int) (a0_4 : Int) (a0_5 : Int) (a0_6 : Int) (a0_7 : Int) (a0_8 : Int) (a1 : Int) : Option (Bool) := some (a0_8 == a1)
set_option maxHeartbeats 8000000 in
set_option maxRecDepth 100000 in
theorem impl_flowsDrop_1.calls (q1 : Nat) (a0_0 : Int) (a0_1 : ByteArray) (a0_2 : Int) (a0_3 : Int) (a0_4 : Int) (a0_5 : Int) (a0_6 : Int) (a0_7 : Int) (a0_8 : Int) (a1 : Int) (r : Bool) (w : World) (hq1 : w.cell? ⟨q1, 0, none⟩ = some (.int .i64 a1)) (h : impl_flowsDrop_1.f a0_0 a0_1 a0_2 a0_3 a0_4 a0_5 a0_6 a0_7 a0_8 a1 = some r) :
    Calls Try.prog 118 #[.agg #[.int .i64 a0_0, .string a0_1, .int .i64 a0_2, .int .i64 a0_3, .int .i64 a0_4, .int .i64 a0_5, .int .i64 a0_6, .int .i64 a0_7, .int .i64 a0_8], .pointer (some ⟨q1, 0, none⟩)] w fun e w' => e = .returned (.bool r) ∧ Below w.heap.size w w' := by
  have HQ1 := Aside0.mk hq1
  clear hq1
  have hu71 := Try.underlying71
  have HB := Aside0.mk (Below.refl w.heap.size w)
  have H : (some (a0_8 == a1)) = some r := h
  clear h
  obtain rfl := Option.some.inj H
  have hcq1 := HQ1.out
  go_enter Try.func118, Try.ntmps118
  go_wp2_with (first | ((with_reducible refine gate_dst (N := 2) rfl ?_); refine box_event ?hg (N := 2) ?hd (cs := #[.int .i64 a0_0, .string a0_1, .int .i64 a0_2, .int .i64 a0_3, .int .i64 a0_4, .int .i64 a0_5, .int .i64 a0_6, .int .i64 a0_7, .int .i64 a0_8]) (t := 71) ?hr ?_; (case hd => rfl); (case hg => rfl); (case hr => first | (go_simp; done) | (go_simp; rfl)); intro gb931 hg w3 hbox hb; have n0_ := Aside0.mk (below_step (by repeat (first | (with_reducible first | exact HB.out | apply below_alloc | apply pw_below_drewN | apply below_drew1) | exact HB.out)) hb); have n1_ := Aside0.mk (hbox); have n2_ := Aside0.mk ((by rw [hg]; exact (below_size (by repeat (first | (with_reducible first | exact HB.out | apply below_alloc | apply pw_below_drewN | apply below_drew1) | exact HB.out))) : w.heap.size ≤ gb931)); have n3_ := Aside0.mk ((by rw [hg]; exact (below_size (by repeat (first | (with_reducible first | exact HB.out | apply below_alloc | apply pw_below_drewN | apply below_drew1) | exact HB.out))) : w.heap.size ≤ gb931)); clear HB; have HB := n0_; have hcq1 := (HB.out.cell (World.block_lt_of_cell? w _ HQ1.out)).trans HQ1.out; have BK931 := n1_; have GW931 := n2_; have GE931 := n3_; clear n0_ n1_ n2_ n3_; clear hb hbox hg; have hcz4_0 : w3.cell? ⟨gb931, 0, none⟩ = some (.int .i64 a0_0) := (blk_cell BK931.out 0).trans rfl; have hcz4_1 : w3.cell? ⟨gb931, 1, none⟩ = some (.string a0_1) := (blk_cell BK931.out 1).trans rfl; have hcz4_2 : w3.cell? ⟨gb931, 2, none⟩ = some (.int .i64 a0_2) := (blk_cell BK931.out 2).trans rfl; have hcz4_3 : w3.cell? ⟨gb931, 3, none⟩ = some (.int .i64 a0_3) := (blk_cell BK931.out 3).trans rfl; have hcz4_4 : w3.cell? ⟨gb931, 4, none⟩ = some (.int .i64 a0_4) := (blk_cell BK931.out 4).trans rfl; have hcz4_5 : w3.cell? ⟨gb931, 5, none⟩ = some (.int .i64 a0_5) := (blk_cell BK931.out 5).trans rfl; have hcz4_6 : w3.cell? ⟨gb931, 6, none⟩ = some (.int .i64 a0_6) := (blk_cell BK931.out 6).trans rfl; have hcz4_7 : w3.cell? ⟨gb931, 7, none⟩ = some (.int .i64 a0_7) := (blk_cell BK931.out 7).trans rfl; have hcz4_8 : w3.cell? ⟨gb931, 8, none⟩ = some (.int .i64 a0_8) := (blk_cell BK931.out 8).trans rfl; have hfz4_0 := blk_frozen BK931.out 0; have hfz4_1 := blk_frozen BK931.out 1; have hfz4_2 := blk_frozen BK931.out 2; have hfz4_3 := blk_frozen BK931.out 3; have hfz4_4 := blk_frozen BK931.out 4; have hfz4_5 := blk_frozen BK931.out 5; have hfz4_6 := blk_frozen BK931.out 6; have hfz4_7 := blk_frozen BK931.out 7; have hfz4_8 := blk_frozen BK931.out 8))
  go_ret
  exact ⟨by first | rfl | (simp [errW_none, errW_some] <;> rfl) | (simp [*, errW_none, errW_some] <;> rfl), by repeat (first | (with_reducible first | exact HB.out | apply below_alloc | apply pw_below_drewN | apply below_drew1 | refine below_set ?_ GE931.out) | exact HB.out)⟩
end
section
/-! ### impl_flowsDrop: function 96 -/
-- USES 100 116 118
def impl_flowsDrop.f (a0 : List S71) (a1 : Int) : Option (List S71) := (impl_Flow_100.f a0).bind fun y => some (y.filter fun x => !(x.f8 == a1))
set_option maxHeartbeats 8000000 in
set_option maxRecDepth 100000 in
theorem impl_flowsDrop.calls (A0 : Option Addr) (c0 : Nat) (l0 : List S71) (a1 : Int) (r : List S71) (w : World) (hr0 : Kd.C k71 w A0 l0.length l0) (hc0 : l0.length ≤ c0) (h : impl_flowsDrop.f l0 a1 = some r) :
    Calls Try.prog 96 #[.slice A0 l0.length c0, .int .i64 a1] w fun e w' => ∃ v0_ : Value, e = .returned (v0_) ∧ Kd.R k71 71 w' w.heap.size (fun _ => True) v0_ r ∧ Below w.heap.size w w' := by
  rw [impl_flowsDrop.f] at h
  obtain ⟨y, hy, h2⟩ := Option.bind_eq_some_iff.1 h
  obtain rfl := Option.some.inj h2
  have HR := Aside0.mk hr0
  have HC := Aside0.mk hc0
  have HY := Aside0.mk hy
  clear h h2 hy hr0 hc0
  have HB := Aside0.mk (Below.refl w.heap.size w)
  go_enter Try.func96, Try.ntmps96
  go_wp2_with (first
    | ((with_reducible refine gate_dst (N := 3) rfl ?_); refine box_event ?hg (N := 3) ?hd (cs := #[.int .i64 a1]) (t := 3) ?hr ?_; (case hd => rfl); (case hg => rfl); (case hr => first | (go_simp; done) | (go_simp; rfl)); intro gb hg w1 hbox hb; have n0_ := Aside0.mk (below_step HB.out hb); clear HB; have HB := n0_; clear n0_; have BK := Aside0.mk hbox; have HG := Aside0.mk hg; clear hg hb hbox)
    | (
        go_at_call 100
        refine (impl_Flow_100.calls A0 c0 l0 y _ (Kd.C_below HR.out HB.out) HC.out HY.out).mono ?_
        rintro e w2 ⟨v0, rfl, hRy, hb2⟩
        have HRY := Aside0.mk hRy
        have HB2 := Aside0.mk hb2
        clear hRy hb2)
    | (
        go_at_call 116
        refine (delFlow 118 #[.pointer (some ⟨gb, 0, none⟩)] (enters_of Try.func118 (by kernel_rfl) rfl) (fun x => (x.f8 == a1)) v0 y w1.heap.size w2 HRY.out HB2.out.size (clone_len71 HY.out) ?hp).mono ?_
        case hp =>
          intro W x hW
          have hlt := blk_lt BK.out
          exact impl_flowsDrop_1.calls gb x.f0 x.f1 x.f2 x.f3 x.f4 x.f5 x.f6 x.f7 x.f8 a1 _ W ((blk_cell (((hW gb hlt).trans (HB2.out.block gb hlt)).trans BK.out) 0).trans rfl) rfl
        rintro e w3 ⟨v1, rfl, hRz, hb3⟩
        have HRZ := Aside0.mk hRz
        have HB3 := Aside0.mk hb3
        clear hRz hb3))
  go_ret
  have hs := HB.out.size
  refine ⟨_, rfl, Kd.R_lower HRZ.out hs, ?_⟩
  have b2 := HB2.out
  have b3 := HB3.out
  have b1 := HB.out
  exact ⟨b3.os.trans (b2.os.trans b1.os), b3.tape.trans (b2.tape.trans b1.tape), b3.output.trans (b2.output.trans b1.output), Nat.le_trans b1.size (Nat.le_trans b2.size b3.size), fun k hk => (b3.block k (by omega)).trans ((b2.block k (by omega)).trans (b1.block k hk))⟩
end
section
/-! ### impl_FlowsDrop: function 50 -/
def impl_FlowsDrop.f (k : Nat) (l0 : List (S71)) (a1 : Int) : Option ((List (S71)) × Int) := (impl_flowsFault.f k l0).bind fun t932 => (if t932 = 0 then ((impl_within.f a1 0 10000).bind fun t933 => (if t933 = true then ((impl_flowsDrop.f l0 a1).bind fun t934 => (some (t934, 0))) else (some (([] : List (S71)), 4)))) else (some (([] : List (S71)), t932)))
theorem impl_FlowsDrop.mono : ∀ a0 a1 k, LeO (impl_FlowsDrop.f k a0 a1) (impl_FlowsDrop.f (k + 1) a0 a1) := by
  intro a0 a1 k
  unfold impl_FlowsDrop.f
  repeat' first
      | (with_reducible exact impl_flowsFault.mono ..)
      | (with_reducible exact LeO.refl _)
      | (with_reducible exact LeO.none _)
      | (with_reducible refine LeO.ite ?_ ?_)
      | (with_reducible refine LeO.bind ?_ (fun _ => ?_))
      | exact impl_flowsFault.mono ..
      | exact LeO.none _
      | refine LeO.ite ?_ ?_
      | refine LeO.bind ?_ (fun _ => ?_)
set_option maxHeartbeats 8000000 in
set_option maxRecDepth 100000 in
theorem impl_FlowsDrop.calls (k : Nat) (A0 : Option Addr) (c0 : Nat) (l0 : List (S71)) (a1 : Int) (r1 : List (S71)) (r2 : Int) (w : World) (hr0 : Kd.C k71 w A0 l0.length l0) (hc0 : l0.length ≤ c0) (h : impl_FlowsDrop.f k l0 a1 = some (r1, r2)) :
    Calls Try.prog 50 #[.slice A0 l0.length c0, .int .i64 a1] w fun e w' => ∃ v0_ : Value, e = .returned (.tuple #[v0_, .int .i64 r2]) ∧ Kd.R k71 71 w' w.heap.size (fun _ => True) v0_ r1 ∧ Below w.heap.size w w' := by
  have HR0 := Aside0.mk hr0
  have HC0 := Aside0.mk hc0
  clear hr0 hc0
  have HB := Aside0.mk (Below.refl w.heap.size w)
  have H : ((impl_flowsFault.f k l0).bind fun t932 => (if t932 = 0 then ((impl_within.f a1 0 10000).bind fun t933 => (if t933 = true then ((impl_flowsDrop.f l0 a1).bind fun t934 => (some (t934, 0))) else (some (([] : List (S71)), 4)))) else (some (([] : List (S71)), t932)))) = some (r1, r2) := h
  clear h
  replace H := Option.bind_eq_some_iff.mp H
  obtain ⟨t932, A30, H⟩ := H
  replace H : (if t932 = 0 then ((impl_within.f a1 0 10000).bind fun t933 => (if t933 = true then ((impl_flowsDrop.f l0 a1).bind fun t934 => (some (t934, 0))) else (some (([] : List (S71)), 4)))) else (some (([] : List (S71)), t932))) = some (r1, r2) := H
  have A3 := Aside0.mk A30
  clear A30
  by_cases c4 : t932 = 0
  · rw [if_pos c4] at H
    have c4b0 : (t932 == 0) = true := beq_iff_eq.mpr c4
    have c4b1 : (t932 != 0) = false := bne_eq_false_iff_eq.mpr c4
    clear c4
    replace H := Option.bind_eq_some_iff.mp H
    obtain ⟨t933, A50, H⟩ := H
    replace H : (if t933 = true then ((impl_flowsDrop.f l0 a1).bind fun t934 => (some (t934, 0))) else (some (([] : List (S71)), 4))) = some (r1, r2) := H
    have A5 := Aside0.mk A50
    clear A50
    by_cases c6 : t933 = true
    · subst c6
      have H1 : ((impl_flowsDrop.f l0 a1).bind fun t934 => (some (t934, 0))) = some (r1, r2) := by rw [if_pos rfl] at H; exact H
      clear H
      have H := H1
      clear H1
      replace H := Option.bind_eq_some_iff.mp H
      obtain ⟨t934, A70, H⟩ := H
      replace H : (some (t934, 0)) = some (r1, r2) := H
      have A7 := Aside0.mk A70
      clear A70
      simp only [Option.some.injEq, Prod.mk.injEq] at H
      obtain ⟨rfl, rfl⟩ := H
      go_enter Try.func50, Try.ntmps50
      go_wp2_with (first | ((with_reducible refine gate_callee (f := 81) rfl ?_); refine goesL_ (some 8) rfl rfl Try.func81 (by kernel_rfl) rfl #[.slice A0 l0.length c0] rfl (by (try simp only [List.map_toArray, List.map_cons, List.map_nil]); first | done | rfl | (simp only [List.length_drop, List.length_take]; rfl)) ?_; (with_reducible refine (impl_flowsFault.calls k _ _ l0 t932 _ ?side1 ?side2 A3.out).mono ?_); (case side1 => repeat (first | exact HR0.out | (with_reducible refine Kd.C_alloc ?_ _) | (with_reducible refine Kd.C_drewN ?_ _) | (with_reducible refine Kd.C_drew ?_))); (case side2 => exact HC0.out); rintro e w8 ⟨rfl, hb⟩; refine ⟨_, rfl, ?_⟩; have n0_ := Aside0.mk (below_step (by repeat (first | (with_reducible first | exact HB.out | apply below_alloc | apply pw_below_drewN | apply below_drew1) | exact HB.out)) hb); clear HB; have HB := n0_; clear n0_; (try clear hb); (try clear hb2); (try clear hk); (try clear hi)) | ((with_reducible refine gate_callee (f := 62) rfl ?_); refine goesL_ (some 13) rfl rfl Try.func62 (by kernel_rfl) rfl #[.int .i64 a1, .int .i64 0, .int .i64 10000] rfl (by (try simp only [List.map_toArray, List.map_cons, List.map_nil]); first | done | rfl | (simp only [List.length_drop, List.length_take]; rfl)) ?_; (with_reducible refine (impl_within.calls a1 0 10000 true _ A5.out).mono ?_); rintro e w' ⟨rfl, ⟨nd, rfl⟩⟩; refine ⟨_, rfl, ?_⟩) | ((with_reducible refine gate_callee (f := 96) rfl ?_); refine goesL_ (some 17) rfl rfl Try.func96 (by kernel_rfl) rfl #[.slice A0 l0.length c0, .int .i64 a1] rfl (by (try simp only [List.map_toArray, List.map_cons, List.map_nil]); first | done | rfl | (simp only [List.length_drop, List.length_take]; rfl)) ?_; (with_reducible refine (impl_flowsDrop.calls _ _ l0 a1 t934 _ ?side1 ?side2 A7.out).mono ?_); (case side1 => repeat (first | exact (Kd.C_below HR0.out (by repeat (first | (with_reducible first | exact HB.out | apply below_alloc | apply pw_below_drewN | apply below_drew1) | exact HB.out))) | (with_reducible refine Kd.C_alloc ?_ _) | (with_reducible refine Kd.C_drewN ?_ _) | (with_reducible refine Kd.C_drew ?_))); (case side2 => exact HC0.out); rintro e w9 ⟨v935, rfl, ho0, hb⟩; refine ⟨_, rfl, ?_⟩; have n0_ := Aside0.mk (Kd.R_lower ho0 (below_size (by repeat (first | (with_reducible first | exact HB.out | apply below_alloc | apply pw_below_drewN | apply below_drew1) | exact HB.out)))); have n1_ := Aside0.mk (below_step (by repeat (first | (with_reducible first | exact HB.out | apply below_alloc | apply pw_below_drewN | apply below_drew1) | exact HB.out)) hb); clear HB; have HO936 := n0_; have HB := n1_; clear n0_ n1_; (try clear hb); (try clear hb2); (try clear hk); (try clear hi); (try clear ho0)))
      go_ret2
      exact ⟨_, by first | rfl | (simp [errW_none, errW_some] <;> rfl) | (simp [*, errW_none, errW_some] <;> rfl), by (with_reducible repeat (first | apply Kd.R_alloc | apply Kd.R_drewN | apply Kd.R_drew)); exact HO936.out, by repeat (first | (with_reducible first | exact HB.out | apply below_alloc | apply pw_below_drewN | apply below_drew1) | exact HB.out)⟩
    · replace c6 := Bool.eq_false_iff.mpr c6
      subst c6
      have H1 : (some (([] : List (S71)), 4)) = some (r1, r2) := by rw [if_neg (show ¬ (false = true) by decide)] at H; exact H
      clear H
      have H := H1
      clear H1
      simp only [Option.some.injEq, Prod.mk.injEq] at H
      obtain ⟨rfl, rfl⟩ := H
      go_enter Try.func50, Try.ntmps50
      go_wp2_with (first | ((with_reducible refine gate_callee (f := 81) rfl ?_); refine goesL_ (some 8) rfl rfl Try.func81 (by kernel_rfl) rfl #[.slice A0 l0.length c0] rfl (by (try simp only [List.map_toArray, List.map_cons, List.map_nil]); first | done | rfl | (simp only [List.length_drop, List.length_take]; rfl)) ?_; (with_reducible refine (impl_flowsFault.calls k _ _ l0 t932 _ ?side1 ?side2 A3.out).mono ?_); (case side1 => repeat (first | exact HR0.out | (with_reducible refine Kd.C_alloc ?_ _) | (with_reducible refine Kd.C_drewN ?_ _) | (with_reducible refine Kd.C_drew ?_))); (case side2 => exact HC0.out); rintro e w10 ⟨rfl, hb⟩; refine ⟨_, rfl, ?_⟩; have n0_ := Aside0.mk (below_step (by repeat (first | (with_reducible first | exact HB.out | apply below_alloc | apply pw_below_drewN | apply below_drew1) | exact HB.out)) hb); clear HB; have HB := n0_; clear n0_; (try clear hb); (try clear hb2); (try clear hk); (try clear hi)) | ((with_reducible refine gate_callee (f := 62) rfl ?_); refine goesL_ (some 13) rfl rfl Try.func62 (by kernel_rfl) rfl #[.int .i64 a1, .int .i64 0, .int .i64 10000] rfl (by (try simp only [List.map_toArray, List.map_cons, List.map_nil]); first | done | rfl | (simp only [List.length_drop, List.length_take]; rfl)) ?_; (with_reducible refine (impl_within.calls a1 0 10000 false _ A5.out).mono ?_); rintro e w' ⟨rfl, ⟨nd, rfl⟩⟩; refine ⟨_, rfl, ?_⟩))
      go_ret2
      exact ⟨_, by first | rfl | (simp [errW_none, errW_some] <;> rfl) | (simp [*, errW_none, errW_some] <;> rfl), by first | exact Kd.R_nil _ _ _ _ _ | exact Kd.N_nil _ _ _ _ _ | exact Kd.V_nil _ _ _ _ _ | exact Kd.Q_nil _ _ _ _ _ | exact Kd.S_nil _ _ _ _ _, by repeat (first | (with_reducible first | exact HB.out | apply below_alloc | apply pw_below_drewN | apply below_drew1) | exact HB.out)⟩
  · rw [if_neg c4] at H
    have c4b0 : (t932 == 0) = false := beq_eq_false_iff_ne.mpr c4
    have c4b1 : (t932 != 0) = true := bne_iff_ne.mpr c4
    simp only [Option.some.injEq, Prod.mk.injEq] at H
    obtain ⟨rfl, rfl⟩ := H
    go_enter Try.func50, Try.ntmps50
    go_wp2_with (first | ((with_reducible refine gate_callee (f := 81) rfl ?_); refine goesL_ (some 8) rfl rfl Try.func81 (by kernel_rfl) rfl #[.slice A0 l0.length c0] rfl (by (try simp only [List.map_toArray, List.map_cons, List.map_nil]); first | done | rfl | (simp only [List.length_drop, List.length_take]; rfl)) ?_; (with_reducible refine (impl_flowsFault.calls k _ _ l0 t932 _ ?side1 ?side2 A3.out).mono ?_); (case side1 => repeat (first | exact HR0.out | (with_reducible refine Kd.C_alloc ?_ _) | (with_reducible refine Kd.C_drewN ?_ _) | (with_reducible refine Kd.C_drew ?_))); (case side2 => exact HC0.out); rintro e w11 ⟨rfl, hb⟩; refine ⟨_, rfl, ?_⟩; have n0_ := Aside0.mk (below_step (by repeat (first | (with_reducible first | exact HB.out | apply below_alloc | apply pw_below_drewN | apply below_drew1) | exact HB.out)) hb); clear HB; have HB := n0_; clear n0_; (try clear hb); (try clear hb2); (try clear hk); (try clear hi)))
    go_ret2
    exact ⟨_, by first | rfl | (simp [errW_none, errW_some] <;> rfl) | (simp [*, errW_none, errW_some] <;> rfl), by first | exact Kd.R_nil _ _ _ _ _ | exact Kd.N_nil _ _ _ _ _ | exact Kd.V_nil _ _ _ _ _ | exact Kd.Q_nil _ _ _ _ _ | exact Kd.S_nil _ _ _ _ _, by repeat (first | (with_reducible first | exact HB.out | apply below_alloc | apply pw_below_drewN | apply below_drew1) | exact HB.out)⟩
end
section
/-! ### laws_FnExactFlowsDrop: function 13 -/
mutual
def laws_FnExactFlowsDrop.j0 : Nat → List (S68) → Int → List (S71) → Int → List (S71) → List (S71) → Int → Bool → Option (Bool)
  | 0, _, _, _, _, _, _, _, _ => none
  | k + 1, x0, x1, x6, x7, x8, x9, x10, x44 => if x44 = true then (some false) else ((laws_toFlowS.f k x0).bind fun t953 => ((laws_eqFlowS.f k x8 t953).bind fun t956 => (if t956 = true then ((laws_markFlowS.f k x8 1).bind fun bt957 => (if bt957.1 < 0 then (laws_FnExactFlowsDrop.j1 k x0 x1 x6 x7 x9 true) else ((laws_eqFlowS.f k x9 x6).bind fun t959 => (if t959 = true then (laws_FnExactFlowsDrop.j1 k x0 x1 x6 x7 x9 (x10 != x7)) else (laws_FnExactFlowsDrop.j1 k x0 x1 x6 x7 x9 true))))) else (some false))))
def laws_FnExactFlowsDrop.j1 : Nat → List (S68) → Int → List (S71) → Int → List (S71) → Bool → Option (Bool)
  | 0, _, _, _, _, _, _ => none
  | k + 1, x0, x1, x6, x7, x9, x65 => if x65 = true then (some false) else ((laws_markFlowS.f k x9 1).bind fun bt960 => ((laws_heldFlowS.f k bt960.2 1).bind fun t962 => (if t962 < 0 then (some false) else (if t962 = bt960.1 then ((laws_toFlowS.f k x0).bind fun t963 => ((impl_FlowsDrop.f k t963 x1).bind fun bt966 => ((laws_eqFlowS.f k bt966.1 x6).bind fun t970 => (if t970 = true then (laws_FnExactFlowsDrop.j2 k bt960.2 bt960.1 (bt966.2 != x7)) else (laws_FnExactFlowsDrop.j2 k bt960.2 bt960.1 true))))) else (some false)))))
def laws_FnExactFlowsDrop.j2 : Nat → List (S71) → Int → Bool → Option (Bool)
  | 0, _, _, _ => none
  | k + 1, x9, x12, x92 => if x92 = true then (some false) else ((laws_heldFlowS.f k x9 1).bind fun t971 => (if t971 < 0 then (some false) else (if t971 = x12 then (some true) else (some false))))
end
def laws_FnExactFlowsDrop.f (k : Nat) (l0 : List (S68)) (a1 : Int) : Option (Bool) := (laws_szFlowS.f k l0 1048576).bind fun t937 => (if t937 < 0 then (some true) else ((laws_toFlowS.f k l0).bind fun t938 => ((spec_FlowsDrop.f k t938 a1).bind fun bt941 => ((laws_toFlowS.f k l0).bind fun t945 => ((impl_FlowsDrop.f k t945 a1).bind fun bt948 => ((laws_eqFlowS.f k bt948.1 bt941.1).bind fun t952 => (if t952 = true then (laws_FnExactFlowsDrop.j0 k l0 a1 bt941.1 bt941.2 t945 bt948.1 bt948.2 (bt948.2 != bt941.2)) else (laws_FnExactFlowsDrop.j0 k l0 a1 bt941.1 bt941.2 t945 bt948.1 bt948.2 true))))))))
theorem laws_FnExactFlowsDrop.mono_l : ∀ k, (∀ y0 y1 y2 y3 y4 y5 y6 y7, LeO (laws_FnExactFlowsDrop.j0 k y0 y1 y2 y3 y4 y5 y6 y7) (laws_FnExactFlowsDrop.j0 (k + 1) y0 y1 y2 y3 y4 y5 y6 y7)) ∧ (∀ y0 y1 y2 y3 y4 y5, LeO (laws_FnExactFlowsDrop.j1 k y0 y1 y2 y3 y4 y5) (laws_FnExactFlowsDrop.j1 (k + 1) y0 y1 y2 y3 y4 y5)) ∧ (∀ y0 y1 y2, LeO (laws_FnExactFlowsDrop.j2 k y0 y1 y2) (laws_FnExactFlowsDrop.j2 (k + 1) y0 y1 y2))
  | 0 => ⟨fun _ _ _ _ _ _ _ _ r h => by simp [laws_FnExactFlowsDrop.j0] at h, fun _ _ _ _ _ _ r h => by simp [laws_FnExactFlowsDrop.j1] at h, fun _ _ _ r h => by simp [laws_FnExactFlowsDrop.j2] at h⟩
  | k + 1 => by
    obtain ⟨ih0, ih1, ih2⟩ := laws_FnExactFlowsDrop.mono_l k
    refine ⟨?_, ?_, ?_⟩
    · intro y0 y1 y2 y3 y4 y5 y6 y7
      unfold laws_FnExactFlowsDrop.j0
      repeat' first
      | (with_reducible exact ih0 _ _ _ _ _ _ _ _)
      | (with_reducible exact ih1 _ _ _ _ _ _)
      | (with_reducible exact ih2 _ _ _)
      | (with_reducible exact impl_FlowsDrop.mono ..)
      | (with_reducible exact laws_eqFlowS.mono ..)
      | (with_reducible exact laws_heldFlowS.mono ..)
      | (with_reducible exact laws_markFlowS.mono ..)
      | (with_reducible exact laws_szFlowS.mono ..)
      | (with_reducible exact laws_toFlowS.mono ..)
      | (with_reducible exact spec_FlowsDrop.mono ..)
      | (with_reducible exact LeO.refl _)
      | (with_reducible exact LeO.none _)
      | (with_reducible refine LeO.ite ?_ ?_)
      | (with_reducible refine LeO.bind ?_ (fun _ => ?_))
      | exact ih0 _ _ _ _ _ _ _ _
      | exact ih1 _ _ _ _ _ _
      | exact ih2 _ _ _
      | exact impl_FlowsDrop.mono ..
      | exact laws_eqFlowS.mono ..
      | exact laws_heldFlowS.mono ..
      | exact laws_markFlowS.mono ..
      | exact laws_szFlowS.mono ..
      | exact laws_toFlowS.mono ..
      | exact spec_FlowsDrop.mono ..
      | exact LeO.none _
      | refine LeO.ite ?_ ?_
      | refine LeO.bind ?_ (fun _ => ?_)
    · intro y0 y1 y2 y3 y4 y5
      unfold laws_FnExactFlowsDrop.j1
      repeat' first
      | (with_reducible exact ih0 _ _ _ _ _ _ _ _)
      | (with_reducible exact ih1 _ _ _ _ _ _)
      | (with_reducible exact ih2 _ _ _)
      | (with_reducible exact impl_FlowsDrop.mono ..)
      | (with_reducible exact laws_eqFlowS.mono ..)
      | (with_reducible exact laws_heldFlowS.mono ..)
      | (with_reducible exact laws_markFlowS.mono ..)
      | (with_reducible exact laws_szFlowS.mono ..)
      | (with_reducible exact laws_toFlowS.mono ..)
      | (with_reducible exact spec_FlowsDrop.mono ..)
      | (with_reducible exact LeO.refl _)
      | (with_reducible exact LeO.none _)
      | (with_reducible refine LeO.ite ?_ ?_)
      | (with_reducible refine LeO.bind ?_ (fun _ => ?_))
      | exact ih0 _ _ _ _ _ _ _ _
      | exact ih1 _ _ _ _ _ _
      | exact ih2 _ _ _
      | exact impl_FlowsDrop.mono ..
      | exact laws_eqFlowS.mono ..
      | exact laws_heldFlowS.mono ..
      | exact laws_markFlowS.mono ..
      | exact laws_szFlowS.mono ..
      | exact laws_toFlowS.mono ..
      | exact spec_FlowsDrop.mono ..
      | exact LeO.none _
      | refine LeO.ite ?_ ?_
      | refine LeO.bind ?_ (fun _ => ?_)
    · intro y0 y1 y2
      unfold laws_FnExactFlowsDrop.j2
      repeat' first
      | (with_reducible exact ih0 _ _ _ _ _ _ _ _)
      | (with_reducible exact ih1 _ _ _ _ _ _)
      | (with_reducible exact ih2 _ _ _)
      | (with_reducible exact impl_FlowsDrop.mono ..)
      | (with_reducible exact laws_eqFlowS.mono ..)
      | (with_reducible exact laws_heldFlowS.mono ..)
      | (with_reducible exact laws_markFlowS.mono ..)
      | (with_reducible exact laws_szFlowS.mono ..)
      | (with_reducible exact laws_toFlowS.mono ..)
      | (with_reducible exact spec_FlowsDrop.mono ..)
      | (with_reducible exact LeO.refl _)
      | (with_reducible exact LeO.none _)
      | (with_reducible refine LeO.ite ?_ ?_)
      | (with_reducible refine LeO.bind ?_ (fun _ => ?_))
      | exact ih0 _ _ _ _ _ _ _ _
      | exact ih1 _ _ _ _ _ _
      | exact ih2 _ _ _
      | exact impl_FlowsDrop.mono ..
      | exact laws_eqFlowS.mono ..
      | exact laws_heldFlowS.mono ..
      | exact laws_markFlowS.mono ..
      | exact laws_szFlowS.mono ..
      | exact laws_toFlowS.mono ..
      | exact spec_FlowsDrop.mono ..
      | exact LeO.none _
      | refine LeO.ite ?_ ?_
      | refine LeO.bind ?_ (fun _ => ?_)
theorem laws_FnExactFlowsDrop.mono : ∀ a0 a1 k, LeO (laws_FnExactFlowsDrop.f k a0 a1) (laws_FnExactFlowsDrop.f (k + 1) a0 a1) := by
  intro a0 a1 k
  obtain ⟨ih0, ih1, ih2⟩ := laws_FnExactFlowsDrop.mono_l k
  unfold laws_FnExactFlowsDrop.f
  repeat' first
      | (with_reducible exact ih0 _ _ _ _ _ _ _ _)
      | (with_reducible exact ih1 _ _ _ _ _ _)
      | (with_reducible exact ih2 _ _ _)
      | (with_reducible exact impl_FlowsDrop.mono ..)
      | (with_reducible exact laws_eqFlowS.mono ..)
      | (with_reducible exact laws_heldFlowS.mono ..)
      | (with_reducible exact laws_markFlowS.mono ..)
      | (with_reducible exact laws_szFlowS.mono ..)
      | (with_reducible exact laws_toFlowS.mono ..)
      | (with_reducible exact spec_FlowsDrop.mono ..)
      | (with_reducible exact LeO.refl _)
      | (with_reducible exact LeO.none _)
      | (with_reducible refine LeO.ite ?_ ?_)
      | (with_reducible refine LeO.bind ?_ (fun _ => ?_))
      | exact ih0 _ _ _ _ _ _ _ _
      | exact ih1 _ _ _ _ _ _
      | exact ih2 _ _ _
      | exact impl_FlowsDrop.mono ..
      | exact laws_eqFlowS.mono ..
      | exact laws_heldFlowS.mono ..
      | exact laws_markFlowS.mono ..
      | exact laws_szFlowS.mono ..
      | exact laws_toFlowS.mono ..
      | exact spec_FlowsDrop.mono ..
      | exact LeO.none _
      | refine LeO.ite ?_ ?_
      | refine LeO.bind ?_ (fun _ => ?_)
set_option maxHeartbeats 8000000 in
set_option maxRecDepth 100000 in
theorem laws_FnExactFlowsDrop.calls (k : Nat) (A0 : Option Addr) (c0 : Nat) (l0 : List (S68)) (a1 : Int) (r : Bool) (w : World) (hr0 : Kd.C k68 w A0 l0.length l0) (hc0 : l0.length ≤ c0) (h : laws_FnExactFlowsDrop.f k l0 a1 = some r) :
    Calls Try.prog 13 #[.slice A0 l0.length c0, .int .i64 a1] w fun e w' => e = .returned (.bool r) ∧ Below w.heap.size w w' := by
  have HR0 := Aside0.mk hr0
  have HC0 := Aside0.mk hc0
  clear hr0 hc0
  have HB := Aside0.mk (Below.refl w.heap.size w)
  have H : ((laws_szFlowS.f k l0 1048576).bind fun t937 => (if t937 < 0 then (some true) else ((laws_toFlowS.f k l0).bind fun t938 => ((spec_FlowsDrop.f k t938 a1).bind fun bt941 => ((laws_toFlowS.f k l0).bind fun t945 => ((impl_FlowsDrop.f k t945 a1).bind fun bt948 => ((laws_eqFlowS.f k bt948.1 bt941.1).bind fun t952 => (if t952 = true then (laws_FnExactFlowsDrop.j0 k l0 a1 bt941.1 bt941.2 t945 bt948.1 bt948.2 (bt948.2 != bt941.2)) else (laws_FnExactFlowsDrop.j0 k l0 a1 bt941.1 bt941.2 t945 bt948.1 bt948.2 true))))))))) = some r := h
  clear h
  replace H := Option.bind_eq_some_iff.mp H
  obtain ⟨t937, A30, H⟩ := H
  replace H : (if t937 < 0 then (some true) else ((laws_toFlowS.f k l0).bind fun t938 => ((spec_FlowsDrop.f k t938 a1).bind fun bt941 => ((laws_toFlowS.f k l0).bind fun t945 => ((impl_FlowsDrop.f k t945 a1).bind fun bt948 => ((laws_eqFlowS.f k bt948.1 bt941.1).bind fun t952 => (if t952 = true then (laws_FnExactFlowsDrop.j0 k l0 a1 bt941.1 bt941.2 t945 bt948.1 bt948.2 (bt948.2 != bt941.2)) else (laws_FnExactFlowsDrop.j0 k l0 a1 bt941.1 bt941.2 t945 bt948.1 bt948.2 true)))))))) = some r := H
  have A3 := Aside0.mk A30
  clear A30
  by_cases c4 : t937 < 0
  · rw [if_pos c4] at H
    have c4b0 : decide (t937 < 0) = true := decide_eq_true c4
    clear c4
    obtain rfl := Option.some.inj H
    go_enter Try.func13, Try.ntmps13
    go_wp2_with (first | ((with_reducible refine gate_callee (f := 26) rfl ?_); refine goesL_ (some 18) rfl rfl Try.func26 (by kernel_rfl) rfl #[.slice A0 l0.length c0, .int .i64 1048576] rfl (by (try simp only [List.map_toArray, List.map_cons, List.map_nil]); first | done | rfl | (simp only [List.length_drop, List.length_take]; rfl)) ?_; (with_reducible refine (laws_szFlowS.calls k _ _ l0 1048576 t937 _ ?side1 ?side2 A3.out).mono ?_); (case side1 => repeat (first | exact HR0.out | (with_reducible refine Kd.C_alloc ?_ _) | (with_reducible refine Kd.C_drewN ?_ _) | (with_reducible refine Kd.C_drew ?_))); (case side2 => exact HC0.out); rintro e w5 ⟨rfl, hb⟩; refine ⟨_, rfl, ?_⟩; have n0_ := Aside0.mk (below_step (by repeat (first | (with_reducible first | exact HB.out | apply below_alloc | apply pw_below_drewN | apply below_drew1) | exact HB.out)) hb); clear HB; have HB := n0_; clear n0_; (try clear hb); (try clear hb2); (try clear hk); (try clear hi)))
    go_ret
    exact ⟨by first | rfl | (simp [errW_none, errW_some] <;> rfl) | (simp [*, errW_none, errW_some] <;> rfl), by repeat (first | (with_reducible first | exact HB.out | apply below_alloc | apply pw_below_drewN | apply below_drew1) | exact HB.out)⟩
  · rw [if_neg c4] at H
    have c4b0 : decide (t937 < 0) = false := decide_eq_false c4
    clear c4
    replace H := Option.bind_eq_some_iff.mp H
    obtain ⟨t938, A60, H⟩ := H
    replace H : ((spec_FlowsDrop.f k t938 a1).bind fun bt941 => ((laws_toFlowS.f k l0).bind fun t945 => ((impl_FlowsDrop.f k t945 a1).bind fun bt948 => ((laws_eqFlowS.f k bt948.1 bt941.1).bind fun t952 => (if t952 = true then (laws_FnExactFlowsDrop.j0 k l0 a1 bt941.1 bt941.2 t945 bt948.1 bt948.2 (bt948.2 != bt941.2)) else (laws_FnExactFlowsDrop.j0 k l0 a1 bt941.1 bt941.2 t945 bt948.1 bt948.2 true)))))) = some r := H
    have A6 := Aside0.mk A60
    clear A60
    replace H := Option.bind_eq_some_iff.mp H
    obtain ⟨⟨t941, t942⟩, A70, H⟩ := H
    replace H : ((laws_toFlowS.f k l0).bind fun t945 => ((impl_FlowsDrop.f k t945 a1).bind fun bt948 => ((laws_eqFlowS.f k bt948.1 t941).bind fun t952 => (if t952 = true then (laws_FnExactFlowsDrop.j0 k l0 a1 t941 t942 t945 bt948.1 bt948.2 (bt948.2 != t942)) else (laws_FnExactFlowsDrop.j0 k l0 a1 t941 t942 t945 bt948.1 bt948.2 true))))) = some r := H
    have A7 := Aside0.mk A70
    clear A70
    replace H := Option.bind_eq_some_iff.mp H
    obtain ⟨t945, A80, H⟩ := H
    replace H : ((impl_FlowsDrop.f k t945 a1).bind fun bt948 => ((laws_eqFlowS.f k bt948.1 t941).bind fun t952 => (if t952 = true then (laws_FnExactFlowsDrop.j0 k l0 a1 t941 t942 t945 bt948.1 bt948.2 (bt948.2 != t942)) else (laws_FnExactFlowsDrop.j0 k l0 a1 t941 t942 t945 bt948.1 bt948.2 true)))) = some r := H
    have A8 := Aside0.mk A80
    clear A80
    replace H := Option.bind_eq_some_iff.mp H
    obtain ⟨⟨t948, t949⟩, A90, H⟩ := H
    replace H : ((laws_eqFlowS.f k t948 t941).bind fun t952 => (if t952 = true then (laws_FnExactFlowsDrop.j0 k l0 a1 t941 t942 t945 t948 t949 (t949 != t942)) else (laws_FnExactFlowsDrop.j0 k l0 a1 t941 t942 t945 t948 t949 true))) = some r := H
    have A9 := Aside0.mk A90
    clear A90
    have HC10 := Aside0.mk H
    clear H
    go_enter Try.func13, Try.ntmps13
    go_upto_region 8 with (first | ((with_reducible refine gate_callee (f := 26) rfl ?_); refine goesL_ (some 18) rfl rfl Try.func26 (by kernel_rfl) rfl #[.slice A0 l0.length c0, .int .i64 1048576] rfl (by (try simp only [List.map_toArray, List.map_cons, List.map_nil]); first | done | rfl | (simp only [List.length_drop, List.length_take]; rfl)) ?_; (with_reducible refine (laws_szFlowS.calls k _ _ l0 1048576 t937 _ ?side1 ?side2 A3.out).mono ?_); (case side1 => repeat (first | exact HR0.out | (with_reducible refine Kd.C_alloc ?_ _) | (with_reducible refine Kd.C_drewN ?_ _) | (with_reducible refine Kd.C_drew ?_))); (case side2 => exact HC0.out); rintro e w11 ⟨rfl, hb⟩; refine ⟨_, rfl, ?_⟩; have n0_ := Aside0.mk (below_step (by repeat (first | (with_reducible first | exact HB.out | apply below_alloc | apply pw_below_drewN | apply below_drew1) | exact HB.out)) hb); clear HB; have HB := n0_; clear n0_; (try clear hb); (try clear hb2); (try clear hk); (try clear hi)) | ((with_reducible refine gate_callee (f := 28) rfl ?_); refine goesL_ (some 23) rfl rfl Try.func28 (by kernel_rfl) rfl #[.slice A0 l0.length c0] rfl (by (try simp only [List.map_toArray, List.map_cons, List.map_nil]); first | done | rfl | (simp only [List.length_drop, List.length_take]; rfl)) ?_; (with_reducible refine (laws_toFlowS.calls k _ _ l0 t938 _ ?side1 ?side2 A6.out).mono ?_); (case side1 => repeat (first | exact (Kd.C_below HR0.out HB.out) | (with_reducible refine Kd.C_alloc ?_ _) | (with_reducible refine Kd.C_drewN ?_ _) | (with_reducible refine Kd.C_drew ?_))); (case side2 => exact HC0.out); rintro e w12 ⟨v939, rfl, ho0, hb⟩; refine ⟨_, rfl, ?_⟩; have n0_ := Aside0.mk (Kd.R_lower ho0 (below_size (by repeat (first | (with_reducible first | exact HB.out | apply below_alloc | apply pw_below_drewN | apply below_drew1) | exact HB.out)))); have n1_ := Aside0.mk (below_step (by repeat (first | (with_reducible first | exact HB.out | apply below_alloc | apply pw_below_drewN | apply below_drew1) | exact HB.out)) hb); clear HB; have HO940 := n0_; have HB := n1_; clear n0_ n1_; (try clear hb); (try clear hb2); (try clear hk); (try clear hi); (try clear ho0); obtain ⟨Ao13, co13, eo13⟩ := Kd.R_slice HO940.out; subst eo13) | ((with_reducible refine gate_callee (f := 49) rfl ?_); refine goesL_ (some 25) rfl rfl Try.func49 (by kernel_rfl) rfl #[.slice Ao13 t938.length co13, .int .i64 a1] rfl (by (try simp only [List.map_toArray, List.map_cons, List.map_nil]); first | done | rfl | (simp only [List.length_drop, List.length_take]; rfl)) ?_; (with_reducible refine (spec_FlowsDrop.calls k _ _ t938 a1 t941 t942 _ ?side1 ?side2 A7.out).mono ?_); (case side1 => repeat (first | exact (Kd.R_reads' HO940.out).2.2 | (with_reducible refine Kd.C_alloc ?_ _) | (with_reducible refine Kd.C_drewN ?_ _) | (with_reducible refine Kd.C_drew ?_))); (case side2 => exact (Kd.R_reads' HO940.out).2.1); rintro e w14 ⟨v943, rfl, ho0, hb⟩; refine ⟨_, rfl, ?_⟩; have n0_ := Aside0.mk (Kd.R_elder' (by (with_reducible repeat (first | apply Kd.R_alloc | apply Kd.R_drewN | apply Kd.R_drew)); exact HO940.out) (Kd.R_base ho0) hb); have n1_ := Aside0.mk (Kd.R_lower (Kd.R_new' ho0 (Kd.R_lt (by (with_reducible repeat (first | apply Kd.R_alloc | apply Kd.R_drewN | apply Kd.R_drew)); exact HO940.out))) (below_size (by repeat (first | (with_reducible first | exact HB.out | apply below_alloc | apply pw_below_drewN | apply below_drew1) | exact HB.out)))); have n2_ := Aside0.mk (below_step (by repeat (first | (with_reducible first | exact HB.out | apply below_alloc | apply pw_below_drewN | apply below_drew1) | exact HB.out)) hb); clear HO940; clear HB; have HO940 := n0_; have HO944 := n1_; have HB := n2_; clear n0_ n1_ n2_; (try clear hb); (try clear hb2); (try clear hk); (try clear hi); (try clear ho0)) | ((with_reducible refine gate_callee (f := 28) rfl ?_); refine goesL_ (some 29) rfl rfl Try.func28 (by kernel_rfl) rfl #[.slice A0 l0.length c0] rfl (by (try simp only [List.map_toArray, List.map_cons, List.map_nil]); first | done | rfl | (simp only [List.length_drop, List.length_take]; rfl)) ?_; (with_reducible refine (laws_toFlowS.calls k _ _ l0 t945 _ ?side1 ?side2 A8.out).mono ?_); (case side1 => repeat (first | exact (Kd.C_below HR0.out HB.out) | (with_reducible refine Kd.C_alloc ?_ _) | (with_reducible refine Kd.C_drewN ?_ _) | (with_reducible refine Kd.C_drew ?_))); (case side2 => exact HC0.out); rintro e w15 ⟨v946, rfl, ho0, hb⟩; refine ⟨_, rfl, ?_⟩; have n0_ := Aside0.mk (Kd.R_elder' (by (with_reducible repeat (first | apply Kd.R_alloc | apply Kd.R_drewN | apply Kd.R_drew)); exact HO940.out) (Kd.R_base ho0) hb); have n1_ := Aside0.mk (Kd.R_elder' (by (with_reducible repeat (first | apply Kd.R_alloc | apply Kd.R_drewN | apply Kd.R_drew)); exact HO944.out) (Kd.R_base ho0) hb); have n2_ := Aside0.mk (Kd.R_lower (Kd.R_new' (Kd.R_new' ho0 (Kd.R_lt (by (with_reducible repeat (first | apply Kd.R_alloc | apply Kd.R_drewN | apply Kd.R_drew)); exact HO940.out))) (Kd.R_lt (by (with_reducible repeat (first | apply Kd.R_alloc | apply Kd.R_drewN | apply Kd.R_drew)); exact HO944.out))) (below_size (by repeat (first | (with_reducible first | exact HB.out | apply below_alloc | apply pw_below_drewN | apply below_drew1) | exact HB.out)))); have n3_ := Aside0.mk (below_step (by repeat (first | (with_reducible first | exact HB.out | apply below_alloc | apply pw_below_drewN | apply below_drew1) | exact HB.out)) hb); clear HO940; clear HO944; clear HB; have HO940 := n0_; have HO944 := n1_; have HO947 := n2_; have HB := n3_; clear n0_ n1_ n2_ n3_; (try clear hb); (try clear hb2); (try clear hk); (try clear hi); (try clear ho0); obtain ⟨Ao16, co16, eo16⟩ := Kd.R_slice HO947.out; subst eo16) | ((with_reducible refine gate_callee (f := 50) rfl ?_); refine goesL_ (some 33) rfl rfl Try.func50 (by kernel_rfl) rfl #[.slice Ao16 t945.length co16, .int .i64 a1] rfl (by (try simp only [List.map_toArray, List.map_cons, List.map_nil]); first | done | rfl | (simp only [List.length_drop, List.length_take]; rfl)) ?_; (with_reducible refine (impl_FlowsDrop.calls k _ _ t945 a1 t948 t949 _ ?side1 ?side2 A9.out).mono ?_); (case side1 => repeat (first | exact (Kd.R_reads' HO947.out).2.2 | (with_reducible refine Kd.C_alloc ?_ _) | (with_reducible refine Kd.C_drewN ?_ _) | (with_reducible refine Kd.C_drew ?_))); (case side2 => exact (Kd.R_reads' HO947.out).2.1); rintro e w17 ⟨v950, rfl, ho0, hb⟩; refine ⟨_, rfl, ?_⟩; have n0_ := Aside0.mk (Kd.R_elder' (by (with_reducible repeat (first | apply Kd.R_alloc | apply Kd.R_drewN | apply Kd.R_drew)); exact HO940.out) (Kd.R_base ho0) hb); have n1_ := Aside0.mk (Kd.R_elder' (by (with_reducible repeat (first | apply Kd.R_alloc | apply Kd.R_drewN | apply Kd.R_drew)); exact HO944.out) (Kd.R_base ho0) hb); have n2_ := Aside0.mk (Kd.R_elder' (by (with_reducible repeat (first | apply Kd.R_alloc | apply Kd.R_drewN | apply Kd.R_drew)); exact HO947.out) (Kd.R_base ho0) hb); have n3_ := Aside0.mk (Kd.R_lower (Kd.R_new' (Kd.R_new' (Kd.R_new' ho0 (Kd.R_lt (by (with_reducible repeat (first | apply Kd.R_alloc | apply Kd.R_drewN | apply Kd.R_drew)); exact HO940.out))) (Kd.R_lt (by (with_reducible repeat (first | apply Kd.R_alloc | apply Kd.R_drewN | apply Kd.R_drew)); exact HO944.out))) (Kd.R_lt (by (with_reducible repeat (first | apply Kd.R_alloc | apply Kd.R_drewN | apply Kd.R_drew)); exact HO947.out))) (below_size (by repeat (first | (with_reducible first | exact HB.out | apply below_alloc | apply pw_below_drewN | apply below_drew1) | exact HB.out)))); have n4_ := Aside0.mk (below_step (by repeat (first | (with_reducible first | exact HB.out | apply below_alloc | apply pw_below_drewN | apply below_drew1) | exact HB.out)) hb); clear HO940; clear HO944; clear HO947; clear HB; have HO940 := n0_; have HO944 := n1_; have HO947 := n2_; have HO951 := n3_; have HB := n4_; clear n0_ n1_ n2_ n3_ n4_; (try clear hb); (try clear hb2); (try clear hk); (try clear hi); (try clear ho0)))
    (try simp only [Act.put, List.setIfInBounds_toArray, List.set_cons_zero, List.set_cons_succ])
    go_cut [44] (fun v44 wc => ∃ (kq : Nat) (x44_9 : Bool), v44 = .bool x44_9 ∧ Aside0 (laws_FnExactFlowsDrop.j0 kq l0 a1 t941 t942 t945 t948 t949 x44_9 = some r) ∧ Aside0 (kq ≤ k) ∧ Aside0 (Kd.R k71 71 wc w.heap.size (fun k_ => some k_ ≠ ((.slice Ao16 t945.length co16) : Value).ownBlock ∧ some k_ ≠ (v950 : Value).ownBlock) v943 t941) ∧ Aside0 (Kd.R k71 71 wc w.heap.size (fun k_ => some k_ ≠ (v943 : Value).ownBlock ∧ some k_ ≠ (v950 : Value).ownBlock) (.slice Ao16 t945.length co16) t945) ∧ Aside0 (Kd.R k71 71 wc w.heap.size (fun k_ => some k_ ≠ (v943 : Value).ownBlock ∧ some k_ ≠ ((.slice Ao16 t945.length co16) : Value).ownBlock) v950 t948) ∧ Aside0 (Below w.heap.size w wc))
    case first =>
      have H := HC10.out
      clear HC10
      replace H := Option.bind_eq_some_iff.mp H
      obtain ⟨t952, A180, H⟩ := H
      replace H : (if t952 = true then (laws_FnExactFlowsDrop.j0 k l0 a1 t941 t942 t945 t948 t949 (t949 != t942)) else (laws_FnExactFlowsDrop.j0 k l0 a1 t941 t942 t945 t948 t949 true)) = some r := H
      have A18 := Aside0.mk A180
      clear A180
      by_cases c19 : t952 = true
      · subst c19
        have H1 : (laws_FnExactFlowsDrop.j0 k l0 a1 t941 t942 t945 t948 t949 (t949 != t942)) = some r := by rw [if_pos rfl] at H; exact H
        clear H
        have H := H1
        clear H1
        have H' := Aside0.mk H
        clear H
        obtain ⟨Ao20, co20, eo20⟩ := Kd.R_slice HO951.out
        subst eo20
        obtain ⟨Ao21, co21, eo21⟩ := Kd.R_slice HO944.out
        subst eo21
        go_wp2_with (first | ((with_reducible refine gate_callee (f := 30) rfl ?_); refine goesL_ (some 38) rfl rfl Try.func30 (by kernel_rfl) rfl #[.slice Ao20 t948.length co20, .slice Ao21 t941.length co21] rfl (by (try simp only [List.map_toArray, List.map_cons, List.map_nil]); first | done | rfl | (simp only [List.length_drop, List.length_take]; rfl)) ?_; (with_reducible refine (laws_eqFlowS.calls k _ _ t948 _ _ t941 true _ ?side1 ?side2 ?side3 ?side4 A18.out).mono ?_); (case side1 => repeat (first | exact (Kd.R_reads' HO951.out).2.2 | (with_reducible refine Kd.C_alloc ?_ _) | (with_reducible refine Kd.C_drewN ?_ _) | (with_reducible refine Kd.C_drew ?_))); (case side2 => exact (Kd.R_reads' HO951.out).2.1); (case side3 => repeat (first | exact (Kd.R_reads' HO944.out).2.2 | (with_reducible refine Kd.C_alloc ?_ _) | (with_reducible refine Kd.C_drewN ?_ _) | (with_reducible refine Kd.C_drew ?_))); (case side4 => exact (Kd.R_reads' HO944.out).2.1); rintro e w22 ⟨rfl, hb⟩; refine ⟨_, rfl, ?_⟩; have n0_ := Aside0.mk (Kd.R_below (by (with_reducible repeat (first | apply Kd.R_alloc | apply Kd.R_drewN | apply Kd.R_drew)); exact HO940.out) hb); have n1_ := Aside0.mk (Kd.R_below (by (with_reducible repeat (first | apply Kd.R_alloc | apply Kd.R_drewN | apply Kd.R_drew)); exact HO944.out) hb); have n2_ := Aside0.mk (Kd.R_below (by (with_reducible repeat (first | apply Kd.R_alloc | apply Kd.R_drewN | apply Kd.R_drew)); exact HO947.out) hb); have n3_ := Aside0.mk (Kd.R_below (by (with_reducible repeat (first | apply Kd.R_alloc | apply Kd.R_drewN | apply Kd.R_drew)); exact HO951.out) hb); have n4_ := Aside0.mk (below_step (by repeat (first | (with_reducible first | exact HB.out | apply below_alloc | apply pw_below_drewN | apply below_drew1) | exact HB.out)) hb); clear HO940; clear HO944; clear HO947; clear HO951; clear HB; have HO940 := n0_; have HO944 := n1_; have HO947 := n2_; have HO951 := n3_; have HB := n4_; clear n0_ n1_ n2_ n3_ n4_; (try clear hb); (try clear hb2); (try clear hk); (try clear hi)))
        go_meet
        case rel => exact ⟨_, ((t949 != t942)), (by first | rfl | (simp; done) | (simp [*]; done) | (simp [ne_nil_b]; done) | (simp [ne_nil_b, *]; done)), H', ⟨by first | omega | exact Nat.le_refl _⟩, ⟨by (with_reducible repeat (first | apply Kd.R_alloc | apply Kd.R_drewN | apply Kd.R_drew)); exact Kd.R_mono HO944.out (fun _ hk => ⟨hk.1.2, hk.2⟩)⟩, ⟨by (with_reducible repeat (first | apply Kd.R_alloc | apply Kd.R_drewN | apply Kd.R_drew)); exact Kd.R_mono HO947.out (fun _ hk => ⟨hk.1.2, hk.2⟩)⟩, ⟨by (with_reducible repeat (first | apply Kd.R_alloc | apply Kd.R_drewN | apply Kd.R_drew)); exact Kd.R_mono HO951.out (fun _ hk => ⟨hk.1.2, hk.2⟩)⟩, ⟨by repeat (first | (with_reducible first | exact HB.out | apply below_alloc | apply pw_below_drewN | apply below_drew1) | exact HB.out)⟩⟩
      · replace c19 := Bool.eq_false_iff.mpr c19
        subst c19
        have H1 : (laws_FnExactFlowsDrop.j0 k l0 a1 t941 t942 t945 t948 t949 true) = some r := by rw [if_neg (show ¬ (false = true) by decide)] at H; exact H
        clear H
        have H := H1
        clear H1
        have H' := Aside0.mk H
        clear H
        obtain ⟨Ao23, co23, eo23⟩ := Kd.R_slice HO951.out
        subst eo23
        obtain ⟨Ao24, co24, eo24⟩ := Kd.R_slice HO944.out
        subst eo24
        go_wp2_with (first | ((with_reducible refine gate_callee (f := 30) rfl ?_); refine goesL_ (some 38) rfl rfl Try.func30 (by kernel_rfl) rfl #[.slice Ao23 t948.length co23, .slice Ao24 t941.length co24] rfl (by (try simp only [List.map_toArray, List.map_cons, List.map_nil]); first | done | rfl | (simp only [List.length_drop, List.length_take]; rfl)) ?_; (with_reducible refine (laws_eqFlowS.calls k _ _ t948 _ _ t941 false _ ?side1 ?side2 ?side3 ?side4 A18.out).mono ?_); (case side1 => repeat (first | exact (Kd.R_reads' HO951.out).2.2 | (with_reducible refine Kd.C_alloc ?_ _) | (with_reducible refine Kd.C_drewN ?_ _) | (with_reducible refine Kd.C_drew ?_))); (case side2 => exact (Kd.R_reads' HO951.out).2.1); (case side3 => repeat (first | exact (Kd.R_reads' HO944.out).2.2 | (with_reducible refine Kd.C_alloc ?_ _) | (with_reducible refine Kd.C_drewN ?_ _) | (with_reducible refine Kd.C_drew ?_))); (case side4 => exact (Kd.R_reads' HO944.out).2.1); rintro e w25 ⟨rfl, hb⟩; refine ⟨_, rfl, ?_⟩; have n0_ := Aside0.mk (Kd.R_below (by (with_reducible repeat (first | apply Kd.R_alloc | apply Kd.R_drewN | apply Kd.R_drew)); exact HO940.out) hb); have n1_ := Aside0.mk (Kd.R_below (by (with_reducible repeat (first | apply Kd.R_alloc | apply Kd.R_drewN | apply Kd.R_drew)); exact HO944.out) hb); have n2_ := Aside0.mk (Kd.R_below (by (with_reducible repeat (first | apply Kd.R_alloc | apply Kd.R_drewN | apply Kd.R_drew)); exact HO947.out) hb); have n3_ := Aside0.mk (Kd.R_below (by (with_reducible repeat (first | apply Kd.R_alloc | apply Kd.R_drewN | apply Kd.R_drew)); exact HO951.out) hb); have n4_ := Aside0.mk (below_step (by repeat (first | (with_reducible first | exact HB.out | apply below_alloc | apply pw_below_drewN | apply below_drew1) | exact HB.out)) hb); clear HO940; clear HO944; clear HO947; clear HO951; clear HB; have HO940 := n0_; have HO944 := n1_; have HO947 := n2_; have HO951 := n3_; have HB := n4_; clear n0_ n1_ n2_ n3_ n4_; (try clear hb); (try clear hb2); (try clear hk); (try clear hi)))
        go_meet
        case rel => exact ⟨_, (true), (by first | rfl | (simp; done) | (simp [*]; done) | (simp [ne_nil_b]; done) | (simp [ne_nil_b, *]; done)), H', ⟨by first | omega | exact Nat.le_refl _⟩, ⟨by (with_reducible repeat (first | apply Kd.R_alloc | apply Kd.R_drewN | apply Kd.R_drew)); exact Kd.R_mono HO944.out (fun _ hk => ⟨hk.1.2, hk.2⟩)⟩, ⟨by (with_reducible repeat (first | apply Kd.R_alloc | apply Kd.R_drewN | apply Kd.R_drew)); exact Kd.R_mono HO947.out (fun _ hk => ⟨hk.1.2, hk.2⟩)⟩, ⟨by (with_reducible repeat (first | apply Kd.R_alloc | apply Kd.R_drewN | apply Kd.R_drew)); exact Kd.R_mono HO951.out (fun _ hk => ⟨hk.1.2, hk.2⟩)⟩, ⟨by repeat (first | (with_reducible first | exact HB.out | apply below_alloc | apply pw_below_drewN | apply below_drew1) | exact HB.out)⟩⟩
    case rest =>
      clear HC10
      try clear c1
      try clear c2
      try clear p2
      try clear c3
      try clear c4
      try clear c4b0
      try clear c5
      try clear c13
      try clear c19
      obtain ⟨kq, x44_9, rfl, HA, HJ9, HO_6, HO_8, HO_9, HB⟩ := hcut
      cases kq with
      | zero => exact absurd HA.out (by simp [laws_FnExactFlowsDrop.j0])
      | succ kj9 =>
        have H := HA.out
        clear HA
        simp only [laws_FnExactFlowsDrop.j0] at H
        by_cases c26 : x44_9 = true
        · subst c26
          have H1 : (some false) = some r := by rw [if_pos rfl] at H; exact H
          clear H
          have H := H1
          clear H1
          obtain rfl := Option.some.inj H
          go_wp2
          go_ret
          exact ⟨by first | rfl | (simp [errW_none, errW_some] <;> rfl) | (simp [*, errW_none, errW_some] <;> rfl), by repeat (first | (with_reducible first | exact HB.out | apply below_alloc | apply pw_below_drewN | apply below_drew1) | exact HB.out)⟩
        · replace c26 := Bool.eq_false_iff.mpr c26
          subst c26
          have H1 : ((laws_toFlowS.f kj9 l0).bind fun t953 => ((laws_eqFlowS.f kj9 t945 t953).bind fun t956 => (if t956 = true then ((laws_markFlowS.f kj9 t945 1).bind fun bt957 => (if bt957.1 < 0 then (laws_FnExactFlowsDrop.j1 kj9 l0 a1 t941 t942 t948 true) else ((laws_eqFlowS.f kj9 t948 t941).bind fun t959 => (if t959 = true then (laws_FnExactFlowsDrop.j1 kj9 l0 a1 t941 t942 t948 (t949 != t942)) else (laws_FnExactFlowsDrop.j1 kj9 l0 a1 t941 t942 t948 true))))) else (some false)))) = some r := by rw [if_neg (show ¬ (false = true) by decide)] at H; exact H
          clear H
          have H := H1
          clear H1
          replace H := Option.bind_eq_some_iff.mp H
          obtain ⟨t953, A270, H⟩ := H
          replace H : ((laws_eqFlowS.f kj9 t945 t953).bind fun t956 => (if t956 = true then ((laws_markFlowS.f kj9 t945 1).bind fun bt957 => (if bt957.1 < 0 then (laws_FnExactFlowsDrop.j1 kj9 l0 a1 t941 t942 t948 true) else ((laws_eqFlowS.f kj9 t948 t941).bind fun t959 => (if t959 = true then (laws_FnExactFlowsDrop.j1 kj9 l0 a1 t941 t942 t948 (t949 != t942)) else (laws_FnExactFlowsDrop.j1 kj9 l0 a1 t941 t942 t948 true))))) else (some false))) = some r := H
          have A27 := Aside0.mk A270
          clear A270
          replace H := Option.bind_eq_some_iff.mp H
          obtain ⟨t956, A280, H⟩ := H
          replace H : (if t956 = true then ((laws_markFlowS.f kj9 t945 1).bind fun bt957 => (if bt957.1 < 0 then (laws_FnExactFlowsDrop.j1 kj9 l0 a1 t941 t942 t948 true) else ((laws_eqFlowS.f kj9 t948 t941).bind fun t959 => (if t959 = true then (laws_FnExactFlowsDrop.j1 kj9 l0 a1 t941 t942 t948 (t949 != t942)) else (laws_FnExactFlowsDrop.j1 kj9 l0 a1 t941 t942 t948 true))))) else (some false)) = some r := H
          have A28 := Aside0.mk A280
          clear A280
          by_cases c29 : t956 = true
          · subst c29
            have H1 : ((laws_markFlowS.f kj9 t945 1).bind fun bt957 => (if bt957.1 < 0 then (laws_FnExactFlowsDrop.j1 kj9 l0 a1 t941 t942 t948 true) else ((laws_eqFlowS.f kj9 t948 t941).bind fun t959 => (if t959 = true then (laws_FnExactFlowsDrop.j1 kj9 l0 a1 t941 t942 t948 (t949 != t942)) else (laws_FnExactFlowsDrop.j1 kj9 l0 a1 t941 t942 t948 true))))) = some r := by rw [if_pos rfl] at H; exact H
            clear H
            have H := H1
            clear H1
            replace H := Option.bind_eq_some_iff.mp H
            obtain ⟨⟨t957, t958⟩, A300, H⟩ := H
            replace H : (if t957 < 0 then (laws_FnExactFlowsDrop.j1 kj9 l0 a1 t941 t942 t948 true) else ((laws_eqFlowS.f kj9 t948 t941).bind fun t959 => (if t959 = true then (laws_FnExactFlowsDrop.j1 kj9 l0 a1 t941 t942 t948 (t949 != t942)) else (laws_FnExactFlowsDrop.j1 kj9 l0 a1 t941 t942 t948 true)))) = some r := H
            have A30 := Aside0.mk A300
            clear A300
            have HC31 := Aside0.mk H
            clear H
            go_upto_region 14 with (first | ((with_reducible refine gate_callee (f := 28) rfl ?_); refine goesL_ (some 47) rfl rfl Try.func28 (by kernel_rfl) rfl #[.slice A0 l0.length c0] rfl (by (try simp only [List.map_toArray, List.map_cons, List.map_nil]); first | done | rfl | (simp only [List.length_drop, List.length_take]; rfl)) ?_; (with_reducible refine (laws_toFlowS.calls kj9 _ _ l0 t953 _ ?side1 ?side2 A27.out).mono ?_); (case side1 => repeat (first | exact (Kd.C_below HR0.out HB.out) | (with_reducible refine Kd.C_alloc ?_ _) | (with_reducible refine Kd.C_drewN ?_ _) | (with_reducible refine Kd.C_drew ?_))); (case side2 => exact HC0.out); rintro e w32 ⟨v954, rfl, ho0, hb⟩; refine ⟨_, rfl, ?_⟩; have n0_ := Aside0.mk (Kd.R_elder' (by (with_reducible repeat (first | apply Kd.R_alloc | apply Kd.R_drewN | apply Kd.R_drew)); exact HO_6.out) (Kd.R_base ho0) hb); have n1_ := Aside0.mk (Kd.R_elder' (by (with_reducible repeat (first | apply Kd.R_alloc | apply Kd.R_drewN | apply Kd.R_drew)); exact HO_8.out) (Kd.R_base ho0) hb); have n2_ := Aside0.mk (Kd.R_elder' (by (with_reducible repeat (first | apply Kd.R_alloc | apply Kd.R_drewN | apply Kd.R_drew)); exact HO_9.out) (Kd.R_base ho0) hb); have n3_ := Aside0.mk (Kd.R_lower (Kd.R_new' (Kd.R_new' (Kd.R_new' ho0 (Kd.R_lt (by (with_reducible repeat (first | apply Kd.R_alloc | apply Kd.R_drewN | apply Kd.R_drew)); exact HO_6.out))) (Kd.R_lt (by (with_reducible repeat (first | apply Kd.R_alloc | apply Kd.R_drewN | apply Kd.R_drew)); exact HO_8.out))) (Kd.R_lt (by (with_reducible repeat (first | apply Kd.R_alloc | apply Kd.R_drewN | apply Kd.R_drew)); exact HO_9.out))) (below_size (by repeat (first | (with_reducible first | exact HB.out | apply below_alloc | apply pw_below_drewN | apply below_drew1) | exact HB.out)))); have n4_ := Aside0.mk (below_step (by repeat (first | (with_reducible first | exact HB.out | apply below_alloc | apply pw_below_drewN | apply below_drew1) | exact HB.out)) hb); clear HO_6; clear HO_8; clear HO_9; clear HB; have HO_6 := n0_; have HO_8 := n1_; have HO_9 := n2_; have HO955 := n3_; have HB := n4_; clear n0_ n1_ n2_ n3_ n4_; (try clear hb); (try clear hb2); (try clear hk); (try clear hi); (try clear ho0); obtain ⟨Ao33, co33, eo33⟩ := Kd.R_slice HO955.out; subst eo33) | ((with_reducible refine gate_callee (f := 30) rfl ?_); refine goesL_ (some 48) rfl rfl Try.func30 (by kernel_rfl) rfl #[.slice Ao16 t945.length co16, .slice Ao33 t953.length co33] rfl (by (try simp only [List.map_toArray, List.map_cons, List.map_nil]); first | done | rfl | (simp only [List.length_drop, List.length_take]; rfl)) ?_; (with_reducible refine (laws_eqFlowS.calls kj9 _ _ t945 _ _ t953 true _ ?side1 ?side2 ?side3 ?side4 A28.out).mono ?_); (case side1 => repeat (first | exact (Kd.R_reads' HO_8.out).2.2 | (with_reducible refine Kd.C_alloc ?_ _) | (with_reducible refine Kd.C_drewN ?_ _) | (with_reducible refine Kd.C_drew ?_))); (case side2 => exact (Kd.R_reads' HO_8.out).2.1); (case side3 => repeat (first | exact (Kd.R_reads' HO955.out).2.2 | (with_reducible refine Kd.C_alloc ?_ _) | (with_reducible refine Kd.C_drewN ?_ _) | (with_reducible refine Kd.C_drew ?_))); (case side4 => exact (Kd.R_reads' HO955.out).2.1); rintro e w34 ⟨rfl, hb⟩; refine ⟨_, rfl, ?_⟩; have n0_ := Aside0.mk (Kd.R_below (by (with_reducible repeat (first | apply Kd.R_alloc | apply Kd.R_drewN | apply Kd.R_drew)); exact HO_6.out) hb); have n1_ := Aside0.mk (Kd.R_below (by (with_reducible repeat (first | apply Kd.R_alloc | apply Kd.R_drewN | apply Kd.R_drew)); exact HO_8.out) hb); have n2_ := Aside0.mk (Kd.R_below (by (with_reducible repeat (first | apply Kd.R_alloc | apply Kd.R_drewN | apply Kd.R_drew)); exact HO_9.out) hb); have n3_ := Aside0.mk (Kd.R_below (by (with_reducible repeat (first | apply Kd.R_alloc | apply Kd.R_drewN | apply Kd.R_drew)); exact HO955.out) hb); have n4_ := Aside0.mk (below_step (by repeat (first | (with_reducible first | exact HB.out | apply below_alloc | apply pw_below_drewN | apply below_drew1) | exact HB.out)) hb); clear HO_6; clear HO_8; clear HO_9; clear HO955; clear HB; have HO_6 := n0_; have HO_8 := n1_; have HO_9 := n2_; have HO955 := n3_; have HB := n4_; clear n0_ n1_ n2_ n3_ n4_; (try clear hb); (try clear hb2); (try clear hk); (try clear hi)) | ((with_reducible refine gate_callee (f := 47) rfl ?_); refine goesL_ (some 52) rfl rfl Try.func47 (by kernel_rfl) rfl #[.slice Ao16 t945.length co16, .int .i64 1] rfl (by (try simp only [List.map_toArray, List.map_cons, List.map_nil]); first | done | rfl | (simp only [List.length_drop, List.length_take]; rfl)) ?_; (with_reducible refine (laws_markFlowS.calls kj9 (fun k_ => some k_ = (.slice Ao16 t945.length co16 : Value).ownBlock) (.slice Ao16 t945.length co16) t945 1 t957 t958 w _ ?side1 ?side2 A30.out).mono ?_); (case side1 => repeat (first | (with_reducible first | exact HB.out | apply below_alloc | apply pw_below_drewN | apply below_drew1) | exact HB.out)); (case side2 => exact Kd.R_tight rfl HO_8.out); rintro e w35 ⟨rfl, hy0, hb, hkp⟩; refine ⟨_, rfl, ?_⟩; have n0_ := Aside0.mk (Kd.R_mono (ok' := fun k_ => some k_ ≠ (.slice Ao16 t945.length co16 : Value).ownBlock ∧ some k_ ≠ (v950 : Value).ownBlock ∧ some k_ ≠ (.slice Ao33 t953.length co33 : Value).ownBlock) (Kd.R_keptB (HO_6.out) hkp (fun k_ hk_ hs_ => (hk_.1.1) hs_)) (fun k_ hk_ => ⟨hk_.1.1.1, hk_.1.1.2, hk_.1.2⟩)); have n1_ := Aside0.mk (Kd.R_reok rfl hy0 (fun k_ e_ => HO_8.out.1 k_ e_)); have n2_ := Aside0.mk (Kd.R_mono (ok' := fun k_ => some k_ ≠ (v943 : Value).ownBlock ∧ some k_ ≠ (.slice Ao16 t945.length co16 : Value).ownBlock ∧ some k_ ≠ (.slice Ao33 t953.length co33 : Value).ownBlock) (Kd.R_keptB (HO_9.out) hkp (fun k_ hk_ hs_ => (hk_.1.2) hs_)) (fun k_ hk_ => ⟨hk_.1.1.1, hk_.1.1.2, hk_.1.2⟩)); have n3_ := Aside0.mk (Kd.R_mono (ok' := fun k_ => some k_ ≠ (v943 : Value).ownBlock ∧ some k_ ≠ (.slice Ao16 t945.length co16 : Value).ownBlock ∧ some k_ ≠ (v950 : Value).ownBlock) (Kd.R_keptB (HO955.out) hkp (fun k_ hk_ hs_ => (hk_.1.2) hs_)) (fun k_ hk_ => ⟨hk_.1.1.1.2, hk_.1.1.2, hk_.1.2⟩)); have n4_ := Aside0.mk (hb); clear HO_6; clear HO_8; clear HO_9; clear HO955; clear HB; have HO_6 := n0_; have HO_8 := n1_; have HO_9 := n2_; have HO955 := n3_; have HB := n4_; clear n0_ n1_ n2_ n3_ n4_; (try clear hb); (try clear hkp); (try clear hy0)))
            (try simp only [Act.put, List.setIfInBounds_toArray, List.set_cons_zero, List.set_cons_succ])
            go_cut [65] (fun v65 wc => ∃ (kq : Nat) (x65_30 : Bool), v65 = .bool x65_30 ∧ Aside0 (laws_FnExactFlowsDrop.j1 kq l0 a1 t941 t942 t948 x65_30 = some r) ∧ Aside0 (kq ≤ kj9) ∧ Aside0 (Kd.R k71 71 wc w.heap.size (fun k_ => some k_ ≠ (v950 : Value).ownBlock) v943 t941) ∧ Aside0 (Kd.R k71 71 wc w.heap.size (fun k_ => some k_ ≠ (v943 : Value).ownBlock) v950 t948) ∧ Aside0 (Below w.heap.size w wc))
            case first =>
              have H := HC31.out
              clear HC31
              by_cases c36 : t957 < 0
              · rw [if_pos c36] at H
                have c36b0 : decide (t957 < 0) = true := decide_eq_true c36
                clear c36
                (first | rw [c36b0] | (simp only [i64_w, i32_w]; rw [c36b0]) | skip)
                have H' := Aside0.mk H
                clear H
                go_wp2
                go_meet
                case rel => exact ⟨_, (true), (by first | rfl | (simp; done) | (simp [*]; done) | (simp [ne_nil_b]; done) | (simp [ne_nil_b, *]; done)), H', ⟨by have := HJ9.out; first | omega | exact Nat.le_refl _⟩, ⟨by (with_reducible repeat (first | apply Kd.R_alloc | apply Kd.R_drewN | apply Kd.R_drew)); exact Kd.R_mono HO_6.out (fun _ hk => hk.2.1)⟩, ⟨by (with_reducible repeat (first | apply Kd.R_alloc | apply Kd.R_drewN | apply Kd.R_drew)); exact Kd.R_mono HO_9.out (fun _ hk => hk.1)⟩, ⟨by repeat (first | (with_reducible first | exact HB.out | apply below_alloc | apply pw_below_drewN | apply below_drew1) | exact HB.out)⟩⟩
              · rw [if_neg c36] at H
                have c36b0 : decide (t957 < 0) = false := decide_eq_false c36
                clear c36
                (first | rw [c36b0] | (simp only [i64_w, i32_w]; rw [c36b0]) | skip)
                replace H := Option.bind_eq_some_iff.mp H
                obtain ⟨t959, A370, H⟩ := H
                replace H : (if t959 = true then (laws_FnExactFlowsDrop.j1 kj9 l0 a1 t941 t942 t948 (t949 != t942)) else (laws_FnExactFlowsDrop.j1 kj9 l0 a1 t941 t942 t948 true)) = some r := H
                have A37 := Aside0.mk A370
                clear A370
                by_cases c38 : t959 = true
                · subst c38
                  have H1 : (laws_FnExactFlowsDrop.j1 kj9 l0 a1 t941 t942 t948 (t949 != t942)) = some r := by rw [if_pos rfl] at H; exact H
                  clear H
                  have H := H1
                  clear H1
                  have H' := Aside0.mk H
                  clear H
                  obtain ⟨Ao39, co39, eo39⟩ := Kd.R_slice HO_9.out
                  subst eo39
                  obtain ⟨Ao40, co40, eo40⟩ := Kd.R_slice HO_6.out
                  subst eo40
                  go_wp2_with (first | (go_at_call 30; (with_reducible refine (laws_eqFlowS.calls kj9 _ _ t948 _ _ t941 true _ ?side1 ?side2 ?side3 ?side4 A37.out).mono ?_); (case side1 => repeat (first | exact (Kd.R_reads' HO_9.out).2.2 | (with_reducible refine Kd.C_alloc ?_ _) | (with_reducible refine Kd.C_drewN ?_ _) | (with_reducible refine Kd.C_drew ?_))); (case side2 => exact (Kd.R_reads' HO_9.out).2.1); (case side3 => repeat (first | exact (Kd.R_reads' HO_6.out).2.2 | (with_reducible refine Kd.C_alloc ?_ _) | (with_reducible refine Kd.C_drewN ?_ _) | (with_reducible refine Kd.C_drew ?_))); (case side4 => exact (Kd.R_reads' HO_6.out).2.1); rintro e w41 ⟨rfl, hb⟩; have n0_ := Aside0.mk (Kd.R_below (by (with_reducible repeat (first | apply Kd.R_alloc | apply Kd.R_drewN | apply Kd.R_drew)); exact HO_6.out) hb); have n1_ := Aside0.mk (Kd.R_below (by (with_reducible repeat (first | apply Kd.R_alloc | apply Kd.R_drewN | apply Kd.R_drew)); exact HO_8.out) hb); have n2_ := Aside0.mk (Kd.R_below (by (with_reducible repeat (first | apply Kd.R_alloc | apply Kd.R_drewN | apply Kd.R_drew)); exact HO_9.out) hb); have n3_ := Aside0.mk (Kd.R_below (by (with_reducible repeat (first | apply Kd.R_alloc | apply Kd.R_drewN | apply Kd.R_drew)); exact HO955.out) hb); have n4_ := Aside0.mk (below_step (by repeat (first | (with_reducible first | exact HB.out | apply below_alloc | apply pw_below_drewN | apply below_drew1) | exact HB.out)) hb); clear HO_6; clear HO_8; clear HO_9; clear HO955; clear HB; have HO_6 := n0_; have HO_8 := n1_; have HO_9 := n2_; have HO955 := n3_; have HB := n4_; clear n0_ n1_ n2_ n3_ n4_; (try clear hb); (try clear hb2); (try clear hk); (try clear hi)))
                  go_meet
                  case rel => exact ⟨_, ((t949 != t942)), (by first | rfl | (simp; done) | (simp [*]; done) | (simp [ne_nil_b]; done) | (simp [ne_nil_b, *]; done)), H', ⟨by have := HJ9.out; first | omega | exact Nat.le_refl _⟩, ⟨by (with_reducible repeat (first | apply Kd.R_alloc | apply Kd.R_drewN | apply Kd.R_drew)); exact Kd.R_mono HO_6.out (fun _ hk => hk.2.1)⟩, ⟨by (with_reducible repeat (first | apply Kd.R_alloc | apply Kd.R_drewN | apply Kd.R_drew)); exact Kd.R_mono HO_9.out (fun _ hk => hk.1)⟩, ⟨by repeat (first | (with_reducible first | exact HB.out | apply below_alloc | apply pw_below_drewN | apply below_drew1) | exact HB.out)⟩⟩
                · replace c38 := Bool.eq_false_iff.mpr c38
                  subst c38
                  have H1 : (laws_FnExactFlowsDrop.j1 kj9 l0 a1 t941 t942 t948 true) = some r := by rw [if_neg (show ¬ (false = true) by decide)] at H; exact H
                  clear H
                  have H := H1
                  clear H1
                  have H' := Aside0.mk H
                  clear H
                  obtain ⟨Ao42, co42, eo42⟩ := Kd.R_slice HO_9.out
                  subst eo42
                  obtain ⟨Ao43, co43, eo43⟩ := Kd.R_slice HO_6.out
                  subst eo43
                  go_wp2_with (first | (go_at_call 30; (with_reducible refine (laws_eqFlowS.calls kj9 _ _ t948 _ _ t941 false _ ?side1 ?side2 ?side3 ?side4 A37.out).mono ?_); (case side1 => repeat (first | exact (Kd.R_reads' HO_9.out).2.2 | (with_reducible refine Kd.C_alloc ?_ _) | (with_reducible refine Kd.C_drewN ?_ _) | (with_reducible refine Kd.C_drew ?_))); (case side2 => exact (Kd.R_reads' HO_9.out).2.1); (case side3 => repeat (first | exact (Kd.R_reads' HO_6.out).2.2 | (with_reducible refine Kd.C_alloc ?_ _) | (with_reducible refine Kd.C_drewN ?_ _) | (with_reducible refine Kd.C_drew ?_))); (case side4 => exact (Kd.R_reads' HO_6.out).2.1); rintro e w44 ⟨rfl, hb⟩; have n0_ := Aside0.mk (Kd.R_below (by (with_reducible repeat (first | apply Kd.R_alloc | apply Kd.R_drewN | apply Kd.R_drew)); exact HO_6.out) hb); have n1_ := Aside0.mk (Kd.R_below (by (with_reducible repeat (first | apply Kd.R_alloc | apply Kd.R_drewN | apply Kd.R_drew)); exact HO_8.out) hb); have n2_ := Aside0.mk (Kd.R_below (by (with_reducible repeat (first | apply Kd.R_alloc | apply Kd.R_drewN | apply Kd.R_drew)); exact HO_9.out) hb); have n3_ := Aside0.mk (Kd.R_below (by (with_reducible repeat (first | apply Kd.R_alloc | apply Kd.R_drewN | apply Kd.R_drew)); exact HO955.out) hb); have n4_ := Aside0.mk (below_step (by repeat (first | (with_reducible first | exact HB.out | apply below_alloc | apply pw_below_drewN | apply below_drew1) | exact HB.out)) hb); clear HO_6; clear HO_8; clear HO_9; clear HO955; clear HB; have HO_6 := n0_; have HO_8 := n1_; have HO_9 := n2_; have HO955 := n3_; have HB := n4_; clear n0_ n1_ n2_ n3_ n4_; (try clear hb); (try clear hb2); (try clear hk); (try clear hi)))
                  go_meet
                  case rel => exact ⟨_, (true), (by first | rfl | (simp; done) | (simp [*]; done) | (simp [ne_nil_b]; done) | (simp [ne_nil_b, *]; done)), H', ⟨by have := HJ9.out; first | omega | exact Nat.le_refl _⟩, ⟨by (with_reducible repeat (first | apply Kd.R_alloc | apply Kd.R_drewN | apply Kd.R_drew)); exact Kd.R_mono HO_6.out (fun _ hk => hk.2.1)⟩, ⟨by (with_reducible repeat (first | apply Kd.R_alloc | apply Kd.R_drewN | apply Kd.R_drew)); exact Kd.R_mono HO_9.out (fun _ hk => hk.1)⟩, ⟨by repeat (first | (with_reducible first | exact HB.out | apply below_alloc | apply pw_below_drewN | apply below_drew1) | exact HB.out)⟩⟩
            case rest =>
              clear HC31
              try clear c1
              try clear c2
              try clear p2
              try clear c3
              try clear c4
              try clear c4b0
              try clear c5
              try clear c13
              try clear c19
              try clear c26
              try clear c28
              try clear c29
              try clear c30
              try clear c36
              try clear c36b0
              try clear c38
              try clear p2
              obtain ⟨kq, x65_30, rfl, HA, HJ30, HO_6, HO_9, HB⟩ := hcut
              cases kq with
              | zero => exact absurd HA.out (by simp [laws_FnExactFlowsDrop.j1])
              | succ kj30 =>
                have H := HA.out
                clear HA
                simp only [laws_FnExactFlowsDrop.j1] at H
                by_cases c45 : x65_30 = true
                · subst c45
                  have H1 : (some false) = some r := by rw [if_pos rfl] at H; exact H
                  clear H
                  have H := H1
                  clear H1
                  obtain rfl := Option.some.inj H
                  go_wp2
                  go_ret
                  exact ⟨by first | rfl | (simp [errW_none, errW_some] <;> rfl) | (simp [*, errW_none, errW_some] <;> rfl), by repeat (first | (with_reducible first | exact HB.out | apply below_alloc | apply pw_below_drewN | apply below_drew1) | exact HB.out)⟩
                · replace c45 := Bool.eq_false_iff.mpr c45
                  subst c45
                  have H1 : ((laws_markFlowS.f kj30 t948 1).bind fun bt960 => ((laws_heldFlowS.f kj30 bt960.2 1).bind fun t962 => (if t962 < 0 then (some false) else (if t962 = bt960.1 then ((laws_toFlowS.f kj30 l0).bind fun t963 => ((impl_FlowsDrop.f kj30 t963 a1).bind fun bt966 => ((laws_eqFlowS.f kj30 bt966.1 t941).bind fun t970 => (if t970 = true then (laws_FnExactFlowsDrop.j2 kj30 bt960.2 bt960.1 (bt966.2 != t942)) else (laws_FnExactFlowsDrop.j2 kj30 bt960.2 bt960.1 true))))) else (some false))))) = some r := by rw [if_neg (show ¬ (false = true) by decide)] at H; exact H
                  clear H
                  have H := H1
                  clear H1
                  replace H := Option.bind_eq_some_iff.mp H
                  obtain ⟨⟨t960, t961⟩, A460, H⟩ := H
                  replace H : ((laws_heldFlowS.f kj30 t961 1).bind fun t962 => (if t962 < 0 then (some false) else (if t962 = t960 then ((laws_toFlowS.f kj30 l0).bind fun t963 => ((impl_FlowsDrop.f kj30 t963 a1).bind fun bt966 => ((laws_eqFlowS.f kj30 bt966.1 t941).bind fun t970 => (if t970 = true then (laws_FnExactFlowsDrop.j2 kj30 t961 t960 (bt966.2 != t942)) else (laws_FnExactFlowsDrop.j2 kj30 t961 t960 true))))) else (some false)))) = some r := H
                  have A46 := Aside0.mk A460
                  clear A460
                  replace H := Option.bind_eq_some_iff.mp H
                  obtain ⟨t962, A470, H⟩ := H
                  replace H : (if t962 < 0 then (some false) else (if t962 = t960 then ((laws_toFlowS.f kj30 l0).bind fun t963 => ((impl_FlowsDrop.f kj30 t963 a1).bind fun bt966 => ((laws_eqFlowS.f kj30 bt966.1 t941).bind fun t970 => (if t970 = true then (laws_FnExactFlowsDrop.j2 kj30 t961 t960 (bt966.2 != t942)) else (laws_FnExactFlowsDrop.j2 kj30 t961 t960 true))))) else (some false))) = some r := H
                  have A47 := Aside0.mk A470
                  clear A470
                  by_cases c48 : t962 < 0
                  · rw [if_pos c48] at H
                    have c48b0 : decide (t962 < 0) = true := decide_eq_true c48
                    clear c48
                    obtain rfl := Option.some.inj H
                    obtain ⟨Ao49, co49, eo49⟩ := Kd.R_slice HO_9.out
                    subst eo49
                    go_wp2_with (first | ((with_reducible refine gate_callee (f := 47) rfl ?_); refine goesL_ (some 68) rfl rfl Try.func47 (by kernel_rfl) rfl #[.slice Ao49 t948.length co49, .int .i64 1] rfl (by (try simp only [List.map_toArray, List.map_cons, List.map_nil]); first | done | rfl | (simp only [List.length_drop, List.length_take]; rfl)) ?_; (with_reducible refine (laws_markFlowS.calls kj30 (fun k_ => some k_ = (.slice Ao49 t948.length co49 : Value).ownBlock) (.slice Ao49 t948.length co49) t948 1 t960 t961 w _ ?side1 ?side2 A46.out).mono ?_); (case side1 => repeat (first | (with_reducible first | exact HB.out | apply below_alloc | apply pw_below_drewN | apply below_drew1) | exact HB.out)); (case side2 => exact Kd.R_tight rfl HO_9.out); rintro e w50 ⟨rfl, hy0, hb, hkp⟩; refine ⟨_, rfl, ?_⟩; have n0_ := Aside0.mk (Kd.R_mono (ok' := fun k_ => some k_ ≠ (.slice Ao49 t948.length co49 : Value).ownBlock) (Kd.R_keptB (HO_6.out) hkp (fun k_ hk_ hs_ => (hk_) hs_)) (fun k_ hk_ => hk_.1)); have n1_ := Aside0.mk (Kd.R_reok rfl hy0 (fun k_ e_ => HO_9.out.1 k_ e_)); have n2_ := Aside0.mk (hb); clear HO_6; clear HO_9; clear HB; have HO_6 := n0_; have HO_9 := n1_; have HB := n2_; clear n0_ n1_ n2_; (try clear hb); (try clear hkp); (try clear hy0)) | ((with_reducible refine gate_callee (f := 48) rfl ?_); refine goesL_ (some 71) rfl rfl Try.func48 (by kernel_rfl) rfl #[.slice Ao49 t961.length co49, .int .i64 1] rfl (by (try simp only [List.map_toArray, List.map_cons, List.map_nil]); first | done | (rw [show t961.length = t948.length from (Kd.R_reads' HO_9.out).1.symm] <;> rfl) | rfl | (simp only [List.length_drop, List.length_take]; rfl)) ?_; (with_reducible refine (laws_heldFlowS.calls kj30 _ _ t961 1 t962 _ ?side1 ?side2 A47.out).mono ?_); (case side1 => repeat (first | exact (Kd.R_reads' HO_9.out).2.2 | (with_reducible refine Kd.C_alloc ?_ _) | (with_reducible refine Kd.C_drewN ?_ _) | (with_reducible refine Kd.C_drew ?_))); (case side2 => rw [show t961.length = t948.length from (Kd.R_reads' HO_9.out).1.symm]; exact (Kd.R_reads' HO_9.out).2.1); rintro e w51 ⟨rfl, hb⟩; refine ⟨_, rfl, ?_⟩; have n0_ := Aside0.mk (Kd.R_below (by (with_reducible repeat (first | apply Kd.R_alloc | apply Kd.R_drewN | apply Kd.R_drew)); exact HO_6.out) hb); have n1_ := Aside0.mk (Kd.R_below (by (with_reducible repeat (first | apply Kd.R_alloc | apply Kd.R_drewN | apply Kd.R_drew)); exact HO_9.out) hb); have n2_ := Aside0.mk (below_step (by repeat (first | (with_reducible first | exact HB.out | apply below_alloc | apply pw_below_drewN | apply below_drew1) | exact HB.out)) hb); clear HO_6; clear HO_9; clear HB; have HO_6 := n0_; have HO_9 := n1_; have HB := n2_; clear n0_ n1_ n2_; (try clear hb); (try clear hb2); (try clear hk); (try clear hi)))
                    go_ret
                    exact ⟨by first | rfl | (simp [errW_none, errW_some] <;> rfl) | (simp [*, errW_none, errW_some] <;> rfl), by repeat (first | (with_reducible first | exact HB.out | apply below_alloc | apply pw_below_drewN | apply below_drew1) | exact HB.out)⟩
                  · rw [if_neg c48] at H
                    have c48b0 : decide (t962 < 0) = false := decide_eq_false c48
                    clear c48
                    by_cases c52 : t962 = t960
                    · rw [if_pos c52] at H
                      have c52b0 : (t962 == t960) = true := beq_iff_eq.mpr c52
                      have c52b1 : (t962 != t960) = false := bne_eq_false_iff_eq.mpr c52
                      clear c52
                      replace H := Option.bind_eq_some_iff.mp H
                      obtain ⟨t963, A530, H⟩ := H
                      replace H : ((impl_FlowsDrop.f kj30 t963 a1).bind fun bt966 => ((laws_eqFlowS.f kj30 bt966.1 t941).bind fun t970 => (if t970 = true then (laws_FnExactFlowsDrop.j2 kj30 t961 t960 (bt966.2 != t942)) else (laws_FnExactFlowsDrop.j2 kj30 t961 t960 true)))) = some r := H
                      have A53 := Aside0.mk A530
                      clear A530
                      replace H := Option.bind_eq_some_iff.mp H
                      obtain ⟨⟨t966, t967⟩, A540, H⟩ := H
                      replace H : ((laws_eqFlowS.f kj30 t966 t941).bind fun t970 => (if t970 = true then (laws_FnExactFlowsDrop.j2 kj30 t961 t960 (t967 != t942)) else (laws_FnExactFlowsDrop.j2 kj30 t961 t960 true))) = some r := H
                      have A54 := Aside0.mk A540
                      clear A540
                      have HC55 := Aside0.mk H
                      clear H
                      obtain ⟨Ao56, co56, eo56⟩ := Kd.R_slice HO_9.out
                      subst eo56
                      go_upto_region 25 with (first | ((with_reducible refine gate_callee (f := 47) rfl ?_); refine goesL_ (some 68) rfl rfl Try.func47 (by kernel_rfl) rfl #[.slice Ao56 t948.length co56, .int .i64 1] rfl (by (try simp only [List.map_toArray, List.map_cons, List.map_nil]); first | done | rfl | (simp only [List.length_drop, List.length_take]; rfl)) ?_; (with_reducible refine (laws_markFlowS.calls kj30 (fun k_ => some k_ = (.slice Ao56 t948.length co56 : Value).ownBlock) (.slice Ao56 t948.length co56) t948 1 t960 t961 w _ ?side1 ?side2 A46.out).mono ?_); (case side1 => repeat (first | (with_reducible first | exact HB.out | apply below_alloc | apply pw_below_drewN | apply below_drew1) | exact HB.out)); (case side2 => exact Kd.R_tight rfl HO_9.out); rintro e w57 ⟨rfl, hy0, hb, hkp⟩; refine ⟨_, rfl, ?_⟩; have n0_ := Aside0.mk (Kd.R_mono (ok' := fun k_ => some k_ ≠ (.slice Ao56 t948.length co56 : Value).ownBlock) (Kd.R_keptB (HO_6.out) hkp (fun k_ hk_ hs_ => (hk_) hs_)) (fun k_ hk_ => hk_.1)); have n1_ := Aside0.mk (Kd.R_reok rfl hy0 (fun k_ e_ => HO_9.out.1 k_ e_)); have n2_ := Aside0.mk (hb); clear HO_6; clear HO_9; clear HB; have HO_6 := n0_; have HO_9 := n1_; have HB := n2_; clear n0_ n1_ n2_; (try clear hb); (try clear hkp); (try clear hy0)) | ((with_reducible refine gate_callee (f := 48) rfl ?_); refine goesL_ (some 71) rfl rfl Try.func48 (by kernel_rfl) rfl #[.slice Ao56 t961.length co56, .int .i64 1] rfl (by (try simp only [List.map_toArray, List.map_cons, List.map_nil]); first | done | (rw [show t961.length = t948.length from (Kd.R_reads' HO_9.out).1.symm] <;> rfl) | rfl | (simp only [List.length_drop, List.length_take]; rfl)) ?_; (with_reducible refine (laws_heldFlowS.calls kj30 _ _ t961 1 t962 _ ?side1 ?side2 A47.out).mono ?_); (case side1 => repeat (first | exact (Kd.R_reads' HO_9.out).2.2 | (with_reducible refine Kd.C_alloc ?_ _) | (with_reducible refine Kd.C_drewN ?_ _) | (with_reducible refine Kd.C_drew ?_))); (case side2 => rw [show t961.length = t948.length from (Kd.R_reads' HO_9.out).1.symm]; exact (Kd.R_reads' HO_9.out).2.1); rintro e w58 ⟨rfl, hb⟩; refine ⟨_, rfl, ?_⟩; have n0_ := Aside0.mk (Kd.R_below (by (with_reducible repeat (first | apply Kd.R_alloc | apply Kd.R_drewN | apply Kd.R_drew)); exact HO_6.out) hb); have n1_ := Aside0.mk (Kd.R_below (by (with_reducible repeat (first | apply Kd.R_alloc | apply Kd.R_drewN | apply Kd.R_drew)); exact HO_9.out) hb); have n2_ := Aside0.mk (below_step (by repeat (first | (with_reducible first | exact HB.out | apply below_alloc | apply pw_below_drewN | apply below_drew1) | exact HB.out)) hb); clear HO_6; clear HO_9; clear HB; have HO_6 := n0_; have HO_9 := n1_; have HB := n2_; clear n0_ n1_ n2_; (try clear hb); (try clear hb2); (try clear hk); (try clear hi)) | ((with_reducible refine gate_callee (f := 28) rfl ?_); refine goesL_ (some 79) rfl rfl Try.func28 (by kernel_rfl) rfl #[.slice A0 l0.length c0] rfl (by (try simp only [List.map_toArray, List.map_cons, List.map_nil]); first | done | rfl | (simp only [List.length_drop, List.length_take]; rfl)) ?_; (with_reducible refine (laws_toFlowS.calls kj30 _ _ l0 t963 _ ?side1 ?side2 A53.out).mono ?_); (case side1 => repeat (first | exact (Kd.C_below HR0.out HB.out) | (with_reducible refine Kd.C_alloc ?_ _) | (with_reducible refine Kd.C_drewN ?_ _) | (with_reducible refine Kd.C_drew ?_))); (case side2 => exact HC0.out); rintro e w59 ⟨v964, rfl, ho0, hb⟩; refine ⟨_, rfl, ?_⟩; have n0_ := Aside0.mk (Kd.R_elder' (by (with_reducible repeat (first | apply Kd.R_alloc | apply Kd.R_drewN | apply Kd.R_drew)); exact HO_6.out) (Kd.R_base ho0) hb); have n1_ := Aside0.mk (Kd.R_elder' (by (with_reducible repeat (first | apply Kd.R_alloc | apply Kd.R_drewN | apply Kd.R_drew)); exact HO_9.out) (Kd.R_base ho0) hb); have n2_ := Aside0.mk (Kd.R_lower (Kd.R_new' (Kd.R_new' ho0 (Kd.R_lt (by (with_reducible repeat (first | apply Kd.R_alloc | apply Kd.R_drewN | apply Kd.R_drew)); exact HO_6.out))) (Kd.R_lt (by (with_reducible repeat (first | apply Kd.R_alloc | apply Kd.R_drewN | apply Kd.R_drew)); exact HO_9.out))) (below_size (by repeat (first | (with_reducible first | exact HB.out | apply below_alloc | apply pw_below_drewN | apply below_drew1) | exact HB.out)))); have n3_ := Aside0.mk (below_step (by repeat (first | (with_reducible first | exact HB.out | apply below_alloc | apply pw_below_drewN | apply below_drew1) | exact HB.out)) hb); clear HO_6; clear HO_9; clear HB; have HO_6 := n0_; have HO_9 := n1_; have HO965 := n2_; have HB := n3_; clear n0_ n1_ n2_ n3_; (try clear hb); (try clear hb2); (try clear hk); (try clear hi); (try clear ho0); obtain ⟨Ao60, co60, eo60⟩ := Kd.R_slice HO965.out; subst eo60) | ((with_reducible refine gate_callee (f := 50) rfl ?_); refine goesL_ (some 81) rfl rfl Try.func50 (by kernel_rfl) rfl #[.slice Ao60 t963.length co60, .int .i64 a1] rfl (by (try simp only [List.map_toArray, List.map_cons, List.map_nil]); first | done | rfl | (simp only [List.length_drop, List.length_take]; rfl)) ?_; (with_reducible refine (impl_FlowsDrop.calls kj30 _ _ t963 a1 t966 t967 _ ?side1 ?side2 A54.out).mono ?_); (case side1 => repeat (first | exact (Kd.R_reads' HO965.out).2.2 | (with_reducible refine Kd.C_alloc ?_ _) | (with_reducible refine Kd.C_drewN ?_ _) | (with_reducible refine Kd.C_drew ?_))); (case side2 => exact (Kd.R_reads' HO965.out).2.1); rintro e w61 ⟨v968, rfl, ho0, hb⟩; refine ⟨_, rfl, ?_⟩; have n0_ := Aside0.mk (Kd.R_elder' (by (with_reducible repeat (first | apply Kd.R_alloc | apply Kd.R_drewN | apply Kd.R_drew)); exact HO_6.out) (Kd.R_base ho0) hb); have n1_ := Aside0.mk (Kd.R_elder' (by (with_reducible repeat (first | apply Kd.R_alloc | apply Kd.R_drewN | apply Kd.R_drew)); exact HO_9.out) (Kd.R_base ho0) hb); have n2_ := Aside0.mk (Kd.R_elder' (by (with_reducible repeat (first | apply Kd.R_alloc | apply Kd.R_drewN | apply Kd.R_drew)); exact HO965.out) (Kd.R_base ho0) hb); have n3_ := Aside0.mk (Kd.R_lower (Kd.R_new' (Kd.R_new' (Kd.R_new' ho0 (Kd.R_lt (by (with_reducible repeat (first | apply Kd.R_alloc | apply Kd.R_drewN | apply Kd.R_drew)); exact HO_6.out))) (Kd.R_lt (by (with_reducible repeat (first | apply Kd.R_alloc | apply Kd.R_drewN | apply Kd.R_drew)); exact HO_9.out))) (Kd.R_lt (by (with_reducible repeat (first | apply Kd.R_alloc | apply Kd.R_drewN | apply Kd.R_drew)); exact HO965.out))) (below_size (by repeat (first | (with_reducible first | exact HB.out | apply below_alloc | apply pw_below_drewN | apply below_drew1) | exact HB.out)))); have n4_ := Aside0.mk (below_step (by repeat (first | (with_reducible first | exact HB.out | apply below_alloc | apply pw_below_drewN | apply below_drew1) | exact HB.out)) hb); clear HO_6; clear HO_9; clear HO965; clear HB; have HO_6 := n0_; have HO_9 := n1_; have HO965 := n2_; have HO969 := n3_; have HB := n4_; clear n0_ n1_ n2_ n3_ n4_; (try clear hb); (try clear hb2); (try clear hk); (try clear hi); (try clear ho0)))
                      (try simp only [Act.put, List.setIfInBounds_toArray, List.set_cons_zero, List.set_cons_succ])
                      go_cut [92] (fun v92 wc => ∃ (kq : Nat) (x92_54 : Bool), v92 = .bool x92_54 ∧ Aside0 (laws_FnExactFlowsDrop.j2 kq t961 t960 x92_54 = some r) ∧ Aside0 (kq ≤ kj30) ∧ Aside0 (Kd.R k71 71 wc w.heap.size (fun _ => True) (.slice Ao56 t948.length co56) t961) ∧ Aside0 (Below w.heap.size w wc))
                      case first =>
                        have H := HC55.out
                        clear HC55
                        replace H := Option.bind_eq_some_iff.mp H
                        obtain ⟨t970, A620, H⟩ := H
                        replace H : (if t970 = true then (laws_FnExactFlowsDrop.j2 kj30 t961 t960 (t967 != t942)) else (laws_FnExactFlowsDrop.j2 kj30 t961 t960 true)) = some r := H
                        have A62 := Aside0.mk A620
                        clear A620
                        by_cases c63 : t970 = true
                        · subst c63
                          have H1 : (laws_FnExactFlowsDrop.j2 kj30 t961 t960 (t967 != t942)) = some r := by rw [if_pos rfl] at H; exact H
                          clear H
                          have H := H1
                          clear H1
                          have H' := Aside0.mk H
                          clear H
                          obtain ⟨Ao64, co64, eo64⟩ := Kd.R_slice HO969.out
                          subst eo64
                          obtain ⟨Ao65, co65, eo65⟩ := Kd.R_slice HO_6.out
                          subst eo65
                          go_wp2_with (first | ((with_reducible refine gate_callee (f := 30) rfl ?_); refine goesL_ (some 86) rfl rfl Try.func30 (by kernel_rfl) rfl #[.slice Ao64 t966.length co64, .slice Ao65 t941.length co65] rfl (by (try simp only [List.map_toArray, List.map_cons, List.map_nil]); first | done | rfl | (simp only [List.length_drop, List.length_take]; rfl)) ?_; (with_reducible refine (laws_eqFlowS.calls kj30 _ _ t966 _ _ t941 true _ ?side1 ?side2 ?side3 ?side4 A62.out).mono ?_); (case side1 => repeat (first | exact (Kd.R_reads' HO969.out).2.2 | (with_reducible refine Kd.C_alloc ?_ _) | (with_reducible refine Kd.C_drewN ?_ _) | (with_reducible refine Kd.C_drew ?_))); (case side2 => exact (Kd.R_reads' HO969.out).2.1); (case side3 => repeat (first | exact (Kd.R_reads' HO_6.out).2.2 | (with_reducible refine Kd.C_alloc ?_ _) | (with_reducible refine Kd.C_drewN ?_ _) | (with_reducible refine Kd.C_drew ?_))); (case side4 => exact (Kd.R_reads' HO_6.out).2.1); rintro e w66 ⟨rfl, hb⟩; refine ⟨_, rfl, ?_⟩; have n0_ := Aside0.mk (Kd.R_below (by (with_reducible repeat (first | apply Kd.R_alloc | apply Kd.R_drewN | apply Kd.R_drew)); exact HO_6.out) hb); have n1_ := Aside0.mk (Kd.R_below (by (with_reducible repeat (first | apply Kd.R_alloc | apply Kd.R_drewN | apply Kd.R_drew)); exact HO_9.out) hb); have n2_ := Aside0.mk (Kd.R_below (by (with_reducible repeat (first | apply Kd.R_alloc | apply Kd.R_drewN | apply Kd.R_drew)); exact HO965.out) hb); have n3_ := Aside0.mk (Kd.R_below (by (with_reducible repeat (first | apply Kd.R_alloc | apply Kd.R_drewN | apply Kd.R_drew)); exact HO969.out) hb); have n4_ := Aside0.mk (below_step (by repeat (first | (with_reducible first | exact HB.out | apply below_alloc | apply pw_below_drewN | apply below_drew1) | exact HB.out)) hb); clear HO_6; clear HO_9; clear HO965; clear HO969; clear HB; have HO_6 := n0_; have HO_9 := n1_; have HO965 := n2_; have HO969 := n3_; have HB := n4_; clear n0_ n1_ n2_ n3_ n4_; (try clear hb); (try clear hb2); (try clear hk); (try clear hi)))
                          go_meet
                          case rel => exact ⟨_, ((t967 != t942)), (by first | rfl | (simp; done) | (simp [*]; done) | (simp [ne_nil_b]; done) | (simp [ne_nil_b, *]; done)), H', ⟨by have := HJ9.out; have := HJ30.out; first | omega | exact Nat.le_refl _⟩, ⟨by (with_reducible repeat (first | apply Kd.R_alloc | apply Kd.R_drewN | apply Kd.R_drew)); exact Kd.R_mono HO_9.out (fun _ hk => trivial)⟩, ⟨by repeat (first | (with_reducible first | exact HB.out | apply below_alloc | apply pw_below_drewN | apply below_drew1) | exact HB.out)⟩⟩
                        · replace c63 := Bool.eq_false_iff.mpr c63
                          subst c63
                          have H1 : (laws_FnExactFlowsDrop.j2 kj30 t961 t960 true) = some r := by rw [if_neg (show ¬ (false = true) by decide)] at H; exact H
                          clear H
                          have H := H1
                          clear H1
                          have H' := Aside0.mk H
                          clear H
                          obtain ⟨Ao67, co67, eo67⟩ := Kd.R_slice HO969.out
                          subst eo67
                          obtain ⟨Ao68, co68, eo68⟩ := Kd.R_slice HO_6.out
                          subst eo68
                          go_wp2_with (first | ((with_reducible refine gate_callee (f := 30) rfl ?_); refine goesL_ (some 86) rfl rfl Try.func30 (by kernel_rfl) rfl #[.slice Ao67 t966.length co67, .slice Ao68 t941.length co68] rfl (by (try simp only [List.map_toArray, List.map_cons, List.map_nil]); first | done | rfl | (simp only [List.length_drop, List.length_take]; rfl)) ?_; (with_reducible refine (laws_eqFlowS.calls kj30 _ _ t966 _ _ t941 false _ ?side1 ?side2 ?side3 ?side4 A62.out).mono ?_); (case side1 => repeat (first | exact (Kd.R_reads' HO969.out).2.2 | (with_reducible refine Kd.C_alloc ?_ _) | (with_reducible refine Kd.C_drewN ?_ _) | (with_reducible refine Kd.C_drew ?_))); (case side2 => exact (Kd.R_reads' HO969.out).2.1); (case side3 => repeat (first | exact (Kd.R_reads' HO_6.out).2.2 | (with_reducible refine Kd.C_alloc ?_ _) | (with_reducible refine Kd.C_drewN ?_ _) | (with_reducible refine Kd.C_drew ?_))); (case side4 => exact (Kd.R_reads' HO_6.out).2.1); rintro e w69 ⟨rfl, hb⟩; refine ⟨_, rfl, ?_⟩; have n0_ := Aside0.mk (Kd.R_below (by (with_reducible repeat (first | apply Kd.R_alloc | apply Kd.R_drewN | apply Kd.R_drew)); exact HO_6.out) hb); have n1_ := Aside0.mk (Kd.R_below (by (with_reducible repeat (first | apply Kd.R_alloc | apply Kd.R_drewN | apply Kd.R_drew)); exact HO_9.out) hb); have n2_ := Aside0.mk (Kd.R_below (by (with_reducible repeat (first | apply Kd.R_alloc | apply Kd.R_drewN | apply Kd.R_drew)); exact HO965.out) hb); have n3_ := Aside0.mk (Kd.R_below (by (with_reducible repeat (first | apply Kd.R_alloc | apply Kd.R_drewN | apply Kd.R_drew)); exact HO969.out) hb); have n4_ := Aside0.mk (below_step (by repeat (first | (with_reducible first | exact HB.out | apply below_alloc | apply pw_below_drewN | apply below_drew1) | exact HB.out)) hb); clear HO_6; clear HO_9; clear HO965; clear HO969; clear HB; have HO_6 := n0_; have HO_9 := n1_; have HO965 := n2_; have HO969 := n3_; have HB := n4_; clear n0_ n1_ n2_ n3_ n4_; (try clear hb); (try clear hb2); (try clear hk); (try clear hi)))
                          go_meet
                          case rel => exact ⟨_, (true), (by first | rfl | (simp; done) | (simp [*]; done) | (simp [ne_nil_b]; done) | (simp [ne_nil_b, *]; done)), H', ⟨by have := HJ9.out; have := HJ30.out; first | omega | exact Nat.le_refl _⟩, ⟨by (with_reducible repeat (first | apply Kd.R_alloc | apply Kd.R_drewN | apply Kd.R_drew)); exact Kd.R_mono HO_9.out (fun _ hk => trivial)⟩, ⟨by repeat (first | (with_reducible first | exact HB.out | apply below_alloc | apply pw_below_drewN | apply below_drew1) | exact HB.out)⟩⟩
                      case rest =>
                        clear HC55
                        try clear c1
                        try clear c2
                        try clear p2
                        try clear c3
                        try clear c4
                        try clear c4b0
                        try clear c5
                        try clear c6
                        try clear c13
                        try clear c19
                        try clear c26
                        try clear c28
                        try clear c29
                        try clear c30
                        try clear c36
                        try clear c36b0
                        try clear c38
                        try clear c45
                        try clear c47
                        try clear c48
                        try clear c48b0
                        try clear c49
                        try clear c50
                        try clear c52
                        try clear c52b0
                        try clear c52b1
                        try clear c63
                        try clear p2
                        obtain ⟨kq, x92_54, rfl, HA, HJ54, HO_9, HB⟩ := hcut
                        have hl9_54 := (Kd.R_reads' HO_9.out).1
                        rw [hl9_54] at HO_9
                        (try simp only [hl9_54])
                        cases kq with
                        | zero => exact absurd HA.out (by simp [laws_FnExactFlowsDrop.j2])
                        | succ kj54 =>
                          have H := HA.out
                          clear HA
                          simp only [laws_FnExactFlowsDrop.j2] at H
                          by_cases c70 : x92_54 = true
                          · subst c70
                            have H1 : (some false) = some r := by rw [if_pos rfl] at H; exact H
                            clear H
                            have H := H1
                            clear H1
                            obtain rfl := Option.some.inj H
                            go_wp2
                            go_ret
                            exact ⟨by first | rfl | (simp [errW_none, errW_some] <;> rfl) | (simp [*, errW_none, errW_some] <;> rfl), by repeat (first | (with_reducible first | exact HB.out | apply below_alloc | apply pw_below_drewN | apply below_drew1) | exact HB.out)⟩
                          · replace c70 := Bool.eq_false_iff.mpr c70
                            subst c70
                            have H1 : ((laws_heldFlowS.f kj54 t961 1).bind fun t971 => (if t971 < 0 then (some false) else (if t971 = t960 then (some true) else (some false)))) = some r := by rw [if_neg (show ¬ (false = true) by decide)] at H; exact H
                            clear H
                            have H := H1
                            clear H1
                            replace H := Option.bind_eq_some_iff.mp H
                            obtain ⟨t971, A710, H⟩ := H
                            replace H : (if t971 < 0 then (some false) else (if t971 = t960 then (some true) else (some false))) = some r := H
                            have A71 := Aside0.mk A710
                            clear A710
                            by_cases c72 : t971 < 0
                            · rw [if_pos c72] at H
                              have c72b0 : decide (t971 < 0) = true := decide_eq_true c72
                              clear c72
                              obtain rfl := Option.some.inj H
                              go_wp2_with (first | ((with_reducible refine gate_callee (f := 48) rfl ?_); refine goesL_ (some 95) rfl rfl Try.func48 (by kernel_rfl) rfl #[.slice Ao56 t961.length co56, .int .i64 1] rfl (by (try simp only [List.map_toArray, List.map_cons, List.map_nil]); first | done | rfl | (simp only [List.length_drop, List.length_take]; rfl)) ?_; (with_reducible refine (laws_heldFlowS.calls kj54 _ _ t961 1 t971 _ ?side1 ?side2 A71.out).mono ?_); (case side1 => repeat (first | exact (Kd.R_reads' HO_9.out).2.2 | (with_reducible refine Kd.C_alloc ?_ _) | (with_reducible refine Kd.C_drewN ?_ _) | (with_reducible refine Kd.C_drew ?_))); (case side2 => exact (Kd.R_reads' HO_9.out).2.1); rintro e w73 ⟨rfl, hb⟩; refine ⟨_, rfl, ?_⟩; have n0_ := Aside0.mk (Kd.R_below (by (with_reducible repeat (first | apply Kd.R_alloc | apply Kd.R_drewN | apply Kd.R_drew)); exact HO_9.out) hb); have n1_ := Aside0.mk (below_step (by repeat (first | (with_reducible first | exact HB.out | apply below_alloc | apply pw_below_drewN | apply below_drew1) | exact HB.out)) hb); clear HO_9; clear HB; have HO_9 := n0_; have HB := n1_; clear n0_ n1_; (try clear hb); (try clear hb2); (try clear hk); (try clear hi)))
                              go_ret
                              exact ⟨by first | rfl | (simp [errW_none, errW_some] <;> rfl) | (simp [*, errW_none, errW_some] <;> rfl), by repeat (first | (with_reducible first | exact HB.out | apply below_alloc | apply pw_below_drewN | apply below_drew1) | exact HB.out)⟩
                            · rw [if_neg c72] at H
                              have c72b0 : decide (t971 < 0) = false := decide_eq_false c72
                              clear c72
                              by_cases c74 : t971 = t960
                              · rw [if_pos c74] at H
                                have c74b0 : (t971 == t960) = true := beq_iff_eq.mpr c74
                                have c74b1 : (t971 != t960) = false := bne_eq_false_iff_eq.mpr c74
                                clear c74
                                obtain rfl := Option.some.inj H
                                go_wp2_with (first | ((with_reducible refine gate_callee (f := 48) rfl ?_); refine goesL_ (some 95) rfl rfl Try.func48 (by kernel_rfl) rfl #[.slice Ao56 t961.length co56, .int .i64 1] rfl (by (try simp only [List.map_toArray, List.map_cons, List.map_nil]); first | done | rfl | (simp only [List.length_drop, List.length_take]; rfl)) ?_; (with_reducible refine (laws_heldFlowS.calls kj54 _ _ t961 1 t971 _ ?side1 ?side2 A71.out).mono ?_); (case side1 => repeat (first | exact (Kd.R_reads' HO_9.out).2.2 | (with_reducible refine Kd.C_alloc ?_ _) | (with_reducible refine Kd.C_drewN ?_ _) | (with_reducible refine Kd.C_drew ?_))); (case side2 => exact (Kd.R_reads' HO_9.out).2.1); rintro e w75 ⟨rfl, hb⟩; refine ⟨_, rfl, ?_⟩; have n0_ := Aside0.mk (Kd.R_below (by (with_reducible repeat (first | apply Kd.R_alloc | apply Kd.R_drewN | apply Kd.R_drew)); exact HO_9.out) hb); have n1_ := Aside0.mk (below_step (by repeat (first | (with_reducible first | exact HB.out | apply below_alloc | apply pw_below_drewN | apply below_drew1) | exact HB.out)) hb); clear HO_9; clear HB; have HO_9 := n0_; have HB := n1_; clear n0_ n1_; (try clear hb); (try clear hb2); (try clear hk); (try clear hi)))
                                go_ret
                                exact ⟨by first | rfl | (simp [errW_none, errW_some] <;> rfl) | (simp [*, errW_none, errW_some] <;> rfl), by repeat (first | (with_reducible first | exact HB.out | apply below_alloc | apply pw_below_drewN | apply below_drew1) | exact HB.out)⟩
                              · rw [if_neg c74] at H
                                have c74b0 : (t971 == t960) = false := beq_eq_false_iff_ne.mpr c74
                                have c74b1 : (t971 != t960) = true := bne_iff_ne.mpr c74
                                obtain rfl := Option.some.inj H
                                go_wp2_with (first | ((with_reducible refine gate_callee (f := 48) rfl ?_); refine goesL_ (some 95) rfl rfl Try.func48 (by kernel_rfl) rfl #[.slice Ao56 t961.length co56, .int .i64 1] rfl (by (try simp only [List.map_toArray, List.map_cons, List.map_nil]); first | done | rfl | (simp only [List.length_drop, List.length_take]; rfl)) ?_; (with_reducible refine (laws_heldFlowS.calls kj54 _ _ t961 1 t971 _ ?side1 ?side2 A71.out).mono ?_); (case side1 => repeat (first | exact (Kd.R_reads' HO_9.out).2.2 | (with_reducible refine Kd.C_alloc ?_ _) | (with_reducible refine Kd.C_drewN ?_ _) | (with_reducible refine Kd.C_drew ?_))); (case side2 => exact (Kd.R_reads' HO_9.out).2.1); rintro e w76 ⟨rfl, hb⟩; refine ⟨_, rfl, ?_⟩; have n0_ := Aside0.mk (Kd.R_below (by (with_reducible repeat (first | apply Kd.R_alloc | apply Kd.R_drewN | apply Kd.R_drew)); exact HO_9.out) hb); have n1_ := Aside0.mk (below_step (by repeat (first | (with_reducible first | exact HB.out | apply below_alloc | apply pw_below_drewN | apply below_drew1) | exact HB.out)) hb); clear HO_9; clear HB; have HO_9 := n0_; have HB := n1_; clear n0_ n1_; (try clear hb); (try clear hb2); (try clear hk); (try clear hi)))
                                go_ret
                                exact ⟨by first | rfl | (simp [errW_none, errW_some] <;> rfl) | (simp [*, errW_none, errW_some] <;> rfl), by repeat (first | (with_reducible first | exact HB.out | apply below_alloc | apply pw_below_drewN | apply below_drew1) | exact HB.out)⟩
                    · rw [if_neg c52] at H
                      have c52b0 : (t962 == t960) = false := beq_eq_false_iff_ne.mpr c52
                      have c52b1 : (t962 != t960) = true := bne_iff_ne.mpr c52
                      obtain rfl := Option.some.inj H
                      obtain ⟨Ao77, co77, eo77⟩ := Kd.R_slice HO_9.out
                      subst eo77
                      go_wp2_with (first | ((with_reducible refine gate_callee (f := 47) rfl ?_); refine goesL_ (some 68) rfl rfl Try.func47 (by kernel_rfl) rfl #[.slice Ao77 t948.length co77, .int .i64 1] rfl (by (try simp only [List.map_toArray, List.map_cons, List.map_nil]); first | done | rfl | (simp only [List.length_drop, List.length_take]; rfl)) ?_; (with_reducible refine (laws_markFlowS.calls kj30 (fun k_ => some k_ = (.slice Ao77 t948.length co77 : Value).ownBlock) (.slice Ao77 t948.length co77) t948 1 t960 t961 w _ ?side1 ?side2 A46.out).mono ?_); (case side1 => repeat (first | (with_reducible first | exact HB.out | apply below_alloc | apply pw_below_drewN | apply below_drew1) | exact HB.out)); (case side2 => exact Kd.R_tight rfl HO_9.out); rintro e w78 ⟨rfl, hy0, hb, hkp⟩; refine ⟨_, rfl, ?_⟩; have n0_ := Aside0.mk (Kd.R_mono (ok' := fun k_ => some k_ ≠ (.slice Ao77 t948.length co77 : Value).ownBlock) (Kd.R_keptB (HO_6.out) hkp (fun k_ hk_ hs_ => (hk_) hs_)) (fun k_ hk_ => hk_.1)); have n1_ := Aside0.mk (Kd.R_reok rfl hy0 (fun k_ e_ => HO_9.out.1 k_ e_)); have n2_ := Aside0.mk (hb); clear HO_6; clear HO_9; clear HB; have HO_6 := n0_; have HO_9 := n1_; have HB := n2_; clear n0_ n1_ n2_; (try clear hb); (try clear hkp); (try clear hy0)) | ((with_reducible refine gate_callee (f := 48) rfl ?_); refine goesL_ (some 71) rfl rfl Try.func48 (by kernel_rfl) rfl #[.slice Ao77 t961.length co77, .int .i64 1] rfl (by (try simp only [List.map_toArray, List.map_cons, List.map_nil]); first | done | (rw [show t961.length = t948.length from (Kd.R_reads' HO_9.out).1.symm] <;> rfl) | rfl | (simp only [List.length_drop, List.length_take]; rfl)) ?_; (with_reducible refine (laws_heldFlowS.calls kj30 _ _ t961 1 t962 _ ?side1 ?side2 A47.out).mono ?_); (case side1 => repeat (first | exact (Kd.R_reads' HO_9.out).2.2 | (with_reducible refine Kd.C_alloc ?_ _) | (with_reducible refine Kd.C_drewN ?_ _) | (with_reducible refine Kd.C_drew ?_))); (case side2 => rw [show t961.length = t948.length from (Kd.R_reads' HO_9.out).1.symm]; exact (Kd.R_reads' HO_9.out).2.1); rintro e w79 ⟨rfl, hb⟩; refine ⟨_, rfl, ?_⟩; have n0_ := Aside0.mk (Kd.R_below (by (with_reducible repeat (first | apply Kd.R_alloc | apply Kd.R_drewN | apply Kd.R_drew)); exact HO_6.out) hb); have n1_ := Aside0.mk (Kd.R_below (by (with_reducible repeat (first | apply Kd.R_alloc | apply Kd.R_drewN | apply Kd.R_drew)); exact HO_9.out) hb); have n2_ := Aside0.mk (below_step (by repeat (first | (with_reducible first | exact HB.out | apply below_alloc | apply pw_below_drewN | apply below_drew1) | exact HB.out)) hb); clear HO_6; clear HO_9; clear HB; have HO_6 := n0_; have HO_9 := n1_; have HB := n2_; clear n0_ n1_ n2_; (try clear hb); (try clear hb2); (try clear hk); (try clear hi)))
                      go_ret
                      exact ⟨by first | rfl | (simp [errW_none, errW_some] <;> rfl) | (simp [*, errW_none, errW_some] <;> rfl), by repeat (first | (with_reducible first | exact HB.out | apply below_alloc | apply pw_below_drewN | apply below_drew1) | exact HB.out)⟩
          · replace c29 := Bool.eq_false_iff.mpr c29
            subst c29
            have H1 : (some false) = some r := by rw [if_neg (show ¬ (false = true) by decide)] at H; exact H
            clear H
            have H := H1
            clear H1
            obtain rfl := Option.some.inj H
            go_wp2_with (first | ((with_reducible refine gate_callee (f := 28) rfl ?_); refine goesL_ (some 47) rfl rfl Try.func28 (by kernel_rfl) rfl #[.slice A0 l0.length c0] rfl (by (try simp only [List.map_toArray, List.map_cons, List.map_nil]); first | done | rfl | (simp only [List.length_drop, List.length_take]; rfl)) ?_; (with_reducible refine (laws_toFlowS.calls kj9 _ _ l0 t953 _ ?side1 ?side2 A27.out).mono ?_); (case side1 => repeat (first | exact (Kd.C_below HR0.out HB.out) | (with_reducible refine Kd.C_alloc ?_ _) | (with_reducible refine Kd.C_drewN ?_ _) | (with_reducible refine Kd.C_drew ?_))); (case side2 => exact HC0.out); rintro e w80 ⟨v954, rfl, ho0, hb⟩; refine ⟨_, rfl, ?_⟩; have n0_ := Aside0.mk (Kd.R_elder' (by (with_reducible repeat (first | apply Kd.R_alloc | apply Kd.R_drewN | apply Kd.R_drew)); exact HO_6.out) (Kd.R_base ho0) hb); have n1_ := Aside0.mk (Kd.R_elder' (by (with_reducible repeat (first | apply Kd.R_alloc | apply Kd.R_drewN | apply Kd.R_drew)); exact HO_8.out) (Kd.R_base ho0) hb); have n2_ := Aside0.mk (Kd.R_elder' (by (with_reducible repeat (first | apply Kd.R_alloc | apply Kd.R_drewN | apply Kd.R_drew)); exact HO_9.out) (Kd.R_base ho0) hb); have n3_ := Aside0.mk (Kd.R_lower (Kd.R_new' (Kd.R_new' (Kd.R_new' ho0 (Kd.R_lt (by (with_reducible repeat (first | apply Kd.R_alloc | apply Kd.R_drewN | apply Kd.R_drew)); exact HO_6.out))) (Kd.R_lt (by (with_reducible repeat (first | apply Kd.R_alloc | apply Kd.R_drewN | apply Kd.R_drew)); exact HO_8.out))) (Kd.R_lt (by (with_reducible repeat (first | apply Kd.R_alloc | apply Kd.R_drewN | apply Kd.R_drew)); exact HO_9.out))) (below_size (by repeat (first | (with_reducible first | exact HB.out | apply below_alloc | apply pw_below_drewN | apply below_drew1) | exact HB.out)))); have n4_ := Aside0.mk (below_step (by repeat (first | (with_reducible first | exact HB.out | apply below_alloc | apply pw_below_drewN | apply below_drew1) | exact HB.out)) hb); clear HO_6; clear HO_8; clear HO_9; clear HB; have HO_6 := n0_; have HO_8 := n1_; have HO_9 := n2_; have HO955 := n3_; have HB := n4_; clear n0_ n1_ n2_ n3_ n4_; (try clear hb); (try clear hb2); (try clear hk); (try clear hi); (try clear ho0); obtain ⟨Ao81, co81, eo81⟩ := Kd.R_slice HO955.out; subst eo81) | ((with_reducible refine gate_callee (f := 30) rfl ?_); refine goesL_ (some 48) rfl rfl Try.func30 (by kernel_rfl) rfl #[.slice Ao16 t945.length co16, .slice Ao81 t953.length co81] rfl (by (try simp only [List.map_toArray, List.map_cons, List.map_nil]); first | done | rfl | (simp only [List.length_drop, List.length_take]; rfl)) ?_; (with_reducible refine (laws_eqFlowS.calls kj9 _ _ t945 _ _ t953 false _ ?side1 ?side2 ?side3 ?side4 A28.out).mono ?_); (case side1 => repeat (first | exact (Kd.R_reads' HO_8.out).2.2 | (with_reducible refine Kd.C_alloc ?_ _) | (with_reducible refine Kd.C_drewN ?_ _) | (with_reducible refine Kd.C_drew ?_))); (case side2 => exact (Kd.R_reads' HO_8.out).2.1); (case side3 => repeat (first | exact (Kd.R_reads' HO955.out).2.2 | (with_reducible refine Kd.C_alloc ?_ _) | (with_reducible refine Kd.C_drewN ?_ _) | (with_reducible refine Kd.C_drew ?_))); (case side4 => exact (Kd.R_reads' HO955.out).2.1); rintro e w82 ⟨rfl, hb⟩; refine ⟨_, rfl, ?_⟩; have n0_ := Aside0.mk (Kd.R_below (by (with_reducible repeat (first | apply Kd.R_alloc | apply Kd.R_drewN | apply Kd.R_drew)); exact HO_6.out) hb); have n1_ := Aside0.mk (Kd.R_below (by (with_reducible repeat (first | apply Kd.R_alloc | apply Kd.R_drewN | apply Kd.R_drew)); exact HO_8.out) hb); have n2_ := Aside0.mk (Kd.R_below (by (with_reducible repeat (first | apply Kd.R_alloc | apply Kd.R_drewN | apply Kd.R_drew)); exact HO_9.out) hb); have n3_ := Aside0.mk (Kd.R_below (by (with_reducible repeat (first | apply Kd.R_alloc | apply Kd.R_drewN | apply Kd.R_drew)); exact HO955.out) hb); have n4_ := Aside0.mk (below_step (by repeat (first | (with_reducible first | exact HB.out | apply below_alloc | apply pw_below_drewN | apply below_drew1) | exact HB.out)) hb); clear HO_6; clear HO_8; clear HO_9; clear HO955; clear HB; have HO_6 := n0_; have HO_8 := n1_; have HO_9 := n2_; have HO955 := n3_; have HB := n4_; clear n0_ n1_ n2_ n3_ n4_; (try clear hb); (try clear hb2); (try clear hk); (try clear hi)))
            go_ret
            exact ⟨by first | rfl | (simp [errW_none, errW_some] <;> rfl) | (simp [*, errW_none, errW_some] <;> rfl), by repeat (first | (with_reducible first | exact HB.out | apply below_alloc | apply pw_below_drewN | apply below_drew1) | exact HB.out)⟩
end
end Go.Proofs.Ytlpkldomoniegaa.X
