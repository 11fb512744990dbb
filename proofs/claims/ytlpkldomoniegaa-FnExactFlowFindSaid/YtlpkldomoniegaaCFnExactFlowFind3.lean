/- The program's FlowFind returns what the reference's FlowFind returns, for all arguments. Conditions: none beyond the row's own reach. -/
import Derived.Test.YtlpkldomoniegaaCFnExactFlowFind2
import Derived.Test.YtlpkldomoniegaaRows
namespace Go.Proofs.Ytlpkldomoniegaa.X
open Go.RowKit Go.Proofs.YtlpkldomoniegaaW.PrintWords Go.Proofs.YtlpkldomoniegaaW.PrintLast Go.Proofs.YtlpkldomoniegaaW.PrintMore
attribute [local go_sem] max2_int min2_int max_two min_two max_three min_three max_four min_four   -- for this text's walks alone
set_option linter.unusedVariables false
set_option linter.unusedSimpArgs false
section
/-! ### impl_FlowsOK: function 29 -/
mutual
def impl_FlowsOK.l0 : Nat → List (S71) → Int → Int → Option (Bool)
  | 0, _, _, _ => none
  | k + 1, x0, x11, x12 => if x12 < x11 then (if 0 ≤ x12 then (if x12 < (x0.length : Int) then ((impl_Flow_endsOKAt.f ((rd_T71 x0 x12).f0) ((rd_T71 x0 x12).f1) ((rd_T71 x0 x12).f2) ((rd_T71 x0 x12).f3) ((rd_T71 x0 x12).f4) ((rd_T71 x0 x12).f5) ((rd_T71 x0 x12).f6) ((rd_T71 x0 x12).f7) ((rd_T71 x0 x12).f8)).bind fun t262 => (if t262 = true then ((impl_within.f ((rd_T71 x0 x12).f6) 1 3).bind fun t264 => (if t264 = true then ((impl_within.f ((rd_T71 x0 x12).f7) 0 100100).bind fun t266 => (impl_FlowsOK.j1 k x0 x12 x11 x12 (!t266))) else (impl_FlowsOK.j1 k x0 x12 x11 x12 true))) else (impl_FlowsOK.j1 k x0 x12 x11 x12 true))) else (none)) else (none)) else (some true)
def impl_FlowsOK.j1 : Nat → List (S71) → Int → Int → Int → Bool → Option (Bool)
  | 0, _, _, _, _, _ => none
  | k + 1, x0, x3, x11, x12, x36 => if x36 = true then (some false) else (if 0 ≤ x3 then (if x3 ≤ (x0.length : Int) then (if x3 < (x0.length : Int) then ((impl_find.f k (x0.take (x3 : Int).toNat) ((rd_T71 x0 x3).f0) ((rd_T71 x0 x3).f2) ((rd_T71 x0 x3).f3) ((rd_T71 x0 x3).f4) ((rd_T71 x0 x3).f5)).bind fun bt276 => (if bt276.1 ≥ 0 then (some false) else (impl_FlowsOK.l0 k x0 x11 (wrap64 (x12 + 1))))) else (none)) else (none)) else (none))
end
def impl_FlowsOK.f (k : Nat) (l0 : List (S71)) : Option (Bool) := if (l0.length : Int) > 8 then (some false) else (impl_FlowsOK.l0 k l0 (l0.length : Int) 0)
theorem impl_FlowsOK.mono_l : ∀ k, (∀ y0 y1 y2, LeO (impl_FlowsOK.l0 k y0 y1 y2) (impl_FlowsOK.l0 (k + 1) y0 y1 y2)) ∧ (∀ y0 y1 y2 y3 y4, LeO (impl_FlowsOK.j1 k y0 y1 y2 y3 y4) (impl_FlowsOK.j1 (k + 1) y0 y1 y2 y3 y4))
  | 0 => ⟨fun _ _ _ r h => by simp [impl_FlowsOK.l0] at h, fun _ _ _ _ _ r h => by simp [impl_FlowsOK.j1] at h⟩
  | k + 1 => by
    obtain ⟨ih0, ih1⟩ := impl_FlowsOK.mono_l k
    refine ⟨?_, ?_⟩
    · intro y0 y1 y2
      unfold impl_FlowsOK.l0
      repeat' first
      | (with_reducible exact ih0 _ _ _)
      | (with_reducible exact ih1 _ _ _ _ _)
      | (with_reducible exact impl_find.mono _ _ _ _ _ _ _)
      | (with_reducible exact LeO.refl _)
      | (with_reducible exact LeO.none _)
      | (with_reducible refine LeO.ite ?_ ?_)
      | (with_reducible refine LeO.bind ?_ (fun _ => ?_))
      | exact ih0 _ _ _
      | exact ih1 _ _ _ _ _
      | exact impl_find.mono _ _ _ _ _ _ _
      | exact LeO.none _
      | refine LeO.ite ?_ ?_
      | refine LeO.bind ?_ (fun _ => ?_)
    · intro y0 y1 y2 y3 y4
      unfold impl_FlowsOK.j1
      repeat' first
      | (with_reducible exact ih0 _ _ _)
      | (with_reducible exact ih1 _ _ _ _ _)
      | (with_reducible exact impl_find.mono _ _ _ _ _ _ _)
      | (with_reducible exact LeO.refl _)
      | (with_reducible exact LeO.none _)
      | (with_reducible refine LeO.ite ?_ ?_)
      | (with_reducible refine LeO.bind ?_ (fun _ => ?_))
      | exact ih0 _ _ _
      | exact ih1 _ _ _ _ _
      | exact impl_find.mono _ _ _ _ _ _ _
      | exact LeO.none _
      | refine LeO.ite ?_ ?_
      | refine LeO.bind ?_ (fun _ => ?_)
theorem impl_FlowsOK.mono : ∀ a0 k, LeO (impl_FlowsOK.f k a0) (impl_FlowsOK.f (k + 1) a0) := by
  intro a0 k
  obtain ⟨ih0, ih1⟩ := impl_FlowsOK.mono_l k
  unfold impl_FlowsOK.f
  repeat' first
      | (with_reducible exact ih0 _ _ _)
      | (with_reducible exact ih1 _ _ _ _ _)
      | (with_reducible exact impl_find.mono _ _ _ _ _ _ _)
      | (with_reducible exact LeO.refl _)
      | (with_reducible exact LeO.none _)
      | (with_reducible refine LeO.ite ?_ ?_)
      | (with_reducible refine LeO.bind ?_ (fun _ => ?_))
      | exact ih0 _ _ _
      | exact ih1 _ _ _ _ _
      | exact impl_find.mono _ _ _ _ _ _ _
      | exact LeO.none _
      | refine LeO.ite ?_ ?_
      | refine LeO.bind ?_ (fun _ => ?_)
def impl_FlowsOK.T9 : Bool × List (List Nat × List Nat) := (true, [([], []), ([], []), ([0, 1], [0, 1]), ([], []), ([3], [3]), ([4], [4]), ([5], [5]), ([], []), ([7], [7]), ([8], [8]), ([9], [9]), ([], []), ([11], [11]), ([12], [12]), ([13], [13]), ([], []), ([15], [15]), ([16], [16]), ([17], [17]), ([], []), ([19], [19]), ([20], [20]), ([21], [21]), ([2, 6, 10, 14, 18, 22], [2, 6, 10, 14, 18, 22]), ([23], [23]), ([24], [24]), ([24], [24]), ([25, 23, 0, 1, 2, 3, 4, 5, 6, 7, 8, 9, 10, 11, 12, 13, 14, 15, 16, 17, 18, 19, 20, 21, 22, 23, 24, 25], [25]), ([26, 27, 0, 1, 2, 3, 4, 5, 6, 7, 8, 9, 10, 11, 12, 13, 14, 15, 16, 17, 18, 19, 20, 21, 22, 23, 24, 25, 26, 27], [26])])
def impl_FlowsOK.B9 : List Nat := [0, 0, 3, 0, 8, 24, 56, 0, 128, 384, 896, 0, 2048, 6144, 14336, 0, 32768, 98304, 229376, 0, 524288, 1572864, 3670016, 8388607, 16777215, 33554431, 33554431, 67108863, 268435455]
theorem impl_FlowsOK.tab9 : rtab .any (opsOf Try.f29 9) = impl_FlowsOK.T9 := by kernel_rfl
theorem impl_FlowsOK.bits9 : waitsOk impl_FlowsOK.T9.2 impl_FlowsOK.B9 = true := by kernel_rfl
set_option maxHeartbeats 8000000 in
set_option maxRecDepth 100000 in
theorem impl_FlowsOK.calls (k : Nat) (A0 : Option Addr) (c0 : Nat) (l0 : List (S71)) (r : Bool) (w : World) (hr0 : Kd.C k71 w A0 l0.length l0) (hc0 : l0.length ≤ c0) (h : impl_FlowsOK.f k l0 = some r) :
    Calls Try.prog 29 #[.slice A0 l0.length c0] w fun e w' => e = .returned (.bool r) ∧ Below w.heap.size w w' := by
  have HR0 := Aside0.mk hr0
  have HC0 := Aside0.mk hc0
  clear hr0 hc0
  have HB := Aside0.mk (Below.refl w.heap.size w)
  have H : (if (l0.length : Int) > 8 then (some false) else (impl_FlowsOK.l0 k l0 (l0.length : Int) 0)) = some r := h
  clear h
  by_cases c2 : (l0.length : Int) > 8
  · rw [if_pos c2] at H
    have c2b0 : decide (8 < (l0.length : Int)) = true := decide_eq_true c2
    have c2b1 : decide (8 < l0.length) = true := decide_eq_true (by omega)
    clear c2
    obtain rfl := Option.some.inj H
    go_enter Try.func29, Try.ntmps29
    go_wp2
    go_ret
    exact ⟨by first | rfl | (simp [errW_none, errW_some] <;> rfl) | (simp [*, errW_none, errW_some] <;> rfl), by repeat (first | (with_reducible first | exact HB.out | apply below_alloc | apply pw_below_drewN | apply below_drew1) | exact HB.out)⟩
  · rw [if_neg c2] at H
    have c2b0 : decide (8 < (l0.length : Int)) = false := decide_eq_false c2
    have c2b1 : decide (8 < l0.length) = false := decide_eq_false (by omega)
    clear c2
    have H' := Aside0.mk H
    clear H
    go_enter Try.func29, Try.ntmps29
    go_wp2
    go_loopg [12] k (fun kq v12 w' => ∃ (x12_1 : Int), v12 = .int .i64 x12_1 ∧ Aside0 (impl_FlowsOK.l0 kq l0 (l0.length : Int) x12_1 = some r) ∧ Aside0 (kq ≤ k) ∧ Aside0 (Below w.heap.size w w'))
    case atStart => exact ⟨(0), (by first | rfl | (simp; done) | (simp [*]; done) | (simp [ne_nil_b]; done) | (simp [ne_nil_b, *]; done)), H', ⟨Nat.le_refl _⟩, ⟨by repeat (first | (with_reducible first | exact HB.out | apply below_alloc | apply pw_below_drewN | apply below_drew1) | exact HB.out)⟩⟩
    case round =>
      clear H'
      try clear c2
      try clear c2b0
      try clear c2b1
      try clear p2
      obtain ⟨x12_1, rfl, HA, HK1, HB⟩ := hrel
      cases gk with
      | zero => exact absurd HA.out (by simp [impl_FlowsOK.l0])
      | succ k1 =>
        have H := HA.out
        clear HA
        simp only [impl_FlowsOK.l0] at H
        by_cases c3 : x12_1 < (l0.length : Int)
        · rw [if_pos c3] at H
          have c3b0 : decide (x12_1 < (l0.length : Int)) = true := decide_eq_true c3
          clear c3
          by_cases c4 : 0 ≤ x12_1
          · rw [if_pos c4] at H
            have c4b0 : decide (0 ≤ x12_1) = true := decide_eq_true c4
            clear c4
            by_cases c5 : x12_1 < (l0.length : Int)
            · rw [if_pos c5] at H
              have c5b0 : decide (x12_1 < (l0.length : Int)) = true := decide_eq_true c5
              clear c5
              have HC6 := Aside0.mk H
              clear H
              have p260 : 0 ≤ (x12_1 : Int) := of_decide_eq_true (by first | (with_reducible assumption) | assumption)
              have q260 : x12_1 < (l0.length : Int) := of_decide_eq_true (by first | (with_reducible assumption) | assumption)
              obtain ⟨ad260, e260, hx260_0, hx260_1, hx260_2, hx260_3, hx260_4, hx260_5, hx260_6, hx260_7, hx260_8⟩ := at_T71 HR0.out x12_1 p260 q260
              cases e260
              replace hx260_0 := (HB.out.cell (World.block_lt_of_cell? w _ hx260_0)).trans hx260_0
              replace hx260_1 := (HB.out.cell (World.block_lt_of_cell? w _ hx260_1)).trans hx260_1
              replace hx260_2 := (HB.out.cell (World.block_lt_of_cell? w _ hx260_2)).trans hx260_2
              replace hx260_3 := (HB.out.cell (World.block_lt_of_cell? w _ hx260_3)).trans hx260_3
              replace hx260_4 := (HB.out.cell (World.block_lt_of_cell? w _ hx260_4)).trans hx260_4
              replace hx260_5 := (HB.out.cell (World.block_lt_of_cell? w _ hx260_5)).trans hx260_5
              replace hx260_6 := (HB.out.cell (World.block_lt_of_cell? w _ hx260_6)).trans hx260_6
              replace hx260_7 := (HB.out.cell (World.block_lt_of_cell? w _ hx260_7)).trans hx260_7
              replace hx260_8 := (HB.out.cell (World.block_lt_of_cell? w _ hx260_8)).trans hx260_8
              replace p260 := eq_true p260
              replace q260 := eq_true q260
              go_upto_region 7 with (fail)
              go_cut [36] (fun v36 wc => ∃ (kq : Nat) (x36_5 : Bool), v36 = .bool x36_5 ∧ Aside0 (impl_FlowsOK.j1 kq l0 x12_1 (l0.length : Int) x12_1 x36_5 = some r) ∧ Aside0 (kq ≤ k1) ∧ Aside0 (Below w.heap.size w wc))
              case first =>
                have H := HC6.out
                clear HC6
                replace H := Option.bind_eq_some_iff.mp H
                obtain ⟨t262, A70, H⟩ := H
                replace H : (if t262 = true then ((impl_within.f ((rd_T71 l0 x12_1).f6) 1 3).bind fun t264 => (if t264 = true then ((impl_within.f ((rd_T71 l0 x12_1).f7) 0 100100).bind fun t266 => (impl_FlowsOK.j1 k1 l0 x12_1 (l0.length : Int) x12_1 (!t266))) else (impl_FlowsOK.j1 k1 l0 x12_1 (l0.length : Int) x12_1 true))) else (impl_FlowsOK.j1 k1 l0 x12_1 (l0.length : Int) x12_1 true)) = some r := H
                have A7 := Aside0.mk A70
                clear A70
                by_cases c8 : t262 = true
                · subst c8
                  have H1 : ((impl_within.f ((rd_T71 l0 x12_1).f6) 1 3).bind fun t264 => (if t264 = true then ((impl_within.f ((rd_T71 l0 x12_1).f7) 0 100100).bind fun t266 => (impl_FlowsOK.j1 k1 l0 x12_1 (l0.length : Int) x12_1 (!t266))) else (impl_FlowsOK.j1 k1 l0 x12_1 (l0.length : Int) x12_1 true))) = some r := by rw [if_pos rfl] at H; exact H
                  clear H
                  have H := H1
                  clear H1
                  replace H := Option.bind_eq_some_iff.mp H
                  obtain ⟨t264, A90, H⟩ := H
                  replace H : (if t264 = true then ((impl_within.f ((rd_T71 l0 x12_1).f7) 0 100100).bind fun t266 => (impl_FlowsOK.j1 k1 l0 x12_1 (l0.length : Int) x12_1 (!t266))) else (impl_FlowsOK.j1 k1 l0 x12_1 (l0.length : Int) x12_1 true)) = some r := H
                  have A9 := Aside0.mk A90
                  clear A90
                  by_cases c10 : t264 = true
                  · subst c10
                    have H1 : ((impl_within.f ((rd_T71 l0 x12_1).f7) 0 100100).bind fun t266 => (impl_FlowsOK.j1 k1 l0 x12_1 (l0.length : Int) x12_1 (!t266))) = some r := by rw [if_pos rfl] at H; exact H
                    clear H
                    have H := H1
                    clear H1
                    replace H := Option.bind_eq_some_iff.mp H
                    obtain ⟨t266, A110, H⟩ := H
                    replace H : (impl_FlowsOK.j1 k1 l0 x12_1 (l0.length : Int) x12_1 (!t266)) = some r := H
                    have A11 := Aside0.mk A110
                    clear A110
                    have H' := Aside0.mk H
                    clear H
                    have p261 : 0 ≤ (x12_1 : Int) := of_decide_eq_true (by first | (with_reducible assumption) | assumption)
                    have q261 : x12_1 < (l0.length : Int) := of_decide_eq_true (by first | (with_reducible assumption) | assumption)
                    obtain ⟨ad261, e261, hx261_0, hx261_1, hx261_2, hx261_3, hx261_4, hx261_5, hx261_6, hx261_7, hx261_8⟩ := at_T71 HR0.out x12_1 p261 q261
                    obtain rfl : ad260 = ad261 := (by injection e261)
                    replace hx261_0 := (HB.out.cell (World.block_lt_of_cell? w _ hx261_0)).trans hx261_0
                    replace hx261_1 := (HB.out.cell (World.block_lt_of_cell? w _ hx261_1)).trans hx261_1
                    replace hx261_2 := (HB.out.cell (World.block_lt_of_cell? w _ hx261_2)).trans hx261_2
                    replace hx261_3 := (HB.out.cell (World.block_lt_of_cell? w _ hx261_3)).trans hx261_3
                    replace hx261_4 := (HB.out.cell (World.block_lt_of_cell? w _ hx261_4)).trans hx261_4
                    replace hx261_5 := (HB.out.cell (World.block_lt_of_cell? w _ hx261_5)).trans hx261_5
                    replace hx261_6 := (HB.out.cell (World.block_lt_of_cell? w _ hx261_6)).trans hx261_6
                    replace hx261_7 := (HB.out.cell (World.block_lt_of_cell? w _ hx261_7)).trans hx261_7
                    replace hx261_8 := (HB.out.cell (World.block_lt_of_cell? w _ hx261_8)).trans hx261_8
                    replace p261 := eq_true p261
                    replace q261 := eq_true q261
                    go_wp2_with (first | ((with_reducible refine gate_callee (f := 77) rfl ?_); refine goesL_ (some 19) rfl rfl Try.func77 (by kernel_rfl) rfl #[.pointer (some (ad260.add ((x12_1 : Int).toNat * 9)))] rfl (by (try simp only [List.map_toArray, List.map_cons, List.map_nil]); first | done | rfl | (simp only [List.length_drop, List.length_take]; rfl)) ?_; (with_reducible refine (impl_Flow_endsOKAt.calls ad260 ((x12_1 : Int).toNat * 9) ((rd_T71 l0 x12_1).f0) ((rd_T71 l0 x12_1).f1) ((rd_T71 l0 x12_1).f2) ((rd_T71 l0 x12_1).f3) ((rd_T71 l0 x12_1).f4) ((rd_T71 l0 x12_1).f5) ((rd_T71 l0 x12_1).f6) ((rd_T71 l0 x12_1).f7) ((rd_T71 l0 x12_1).f8) true _ hx260_0 hx260_1 hx260_2 hx260_3 hx260_4 hx260_5 hx260_6 hx260_7 hx260_8 A7.out).mono ?_); rintro e w12 ⟨rfl, hb⟩; refine ⟨_, rfl, ?_⟩; have n0_ := Aside0.mk (below_step (by repeat (first | (with_reducible first | exact HB.out | apply below_alloc | apply pw_below_drewN | apply below_drew1) | exact HB.out)) hb); clear HB; have HB := n0_; clear n0_; (try clear hb); (try clear hb2); (try clear hk); (try clear hi); have p263 : 0 ≤ (x12_1 : Int) := of_decide_eq_true (by first | (with_reducible assumption) | assumption); have q263 : x12_1 < (l0.length : Int) := of_decide_eq_true (by first | (with_reducible assumption) | assumption); obtain ⟨ad263, e263, hx263_0, hx263_1, hx263_2, hx263_3, hx263_4, hx263_5, hx263_6, hx263_7, hx263_8⟩ := at_T71 HR0.out x12_1 p263 q263; obtain rfl : ad260 = ad263 := (by injection e263); replace hx263_0 := (HB.out.cell (World.block_lt_of_cell? w _ hx263_0)).trans hx263_0; replace hx263_1 := (HB.out.cell (World.block_lt_of_cell? w _ hx263_1)).trans hx263_1; replace hx263_2 := (HB.out.cell (World.block_lt_of_cell? w _ hx263_2)).trans hx263_2; replace hx263_3 := (HB.out.cell (World.block_lt_of_cell? w _ hx263_3)).trans hx263_3; replace hx263_4 := (HB.out.cell (World.block_lt_of_cell? w _ hx263_4)).trans hx263_4; replace hx263_5 := (HB.out.cell (World.block_lt_of_cell? w _ hx263_5)).trans hx263_5; replace hx263_6 := (HB.out.cell (World.block_lt_of_cell? w _ hx263_6)).trans hx263_6; replace hx263_7 := (HB.out.cell (World.block_lt_of_cell? w _ hx263_7)).trans hx263_7; replace hx263_8 := (HB.out.cell (World.block_lt_of_cell? w _ hx263_8)).trans hx263_8; replace p263 := eq_true p263; replace q263 := eq_true q263) | (go_at_call 62; (with_reducible refine (impl_within.calls ((rd_T71 l0 x12_1).f6) 1 3 true _ A9.out).mono ?_); rintro e w' ⟨rfl, ⟨nd, rfl⟩⟩; have p265 : 0 ≤ (x12_1 : Int) := of_decide_eq_true (by first | (with_reducible assumption) | assumption); have q265 : x12_1 < (l0.length : Int) := of_decide_eq_true (by first | (with_reducible assumption) | assumption); obtain ⟨ad265, e265, hx265_0, hx265_1, hx265_2, hx265_3, hx265_4, hx265_5, hx265_6, hx265_7, hx265_8⟩ := at_T71 HR0.out x12_1 p265 q265; obtain rfl : ad260 = ad265 := (by injection e265); replace hx265_0 := (HB.out.cell (World.block_lt_of_cell? w _ hx265_0)).trans hx265_0; replace hx265_1 := (HB.out.cell (World.block_lt_of_cell? w _ hx265_1)).trans hx265_1; replace hx265_2 := (HB.out.cell (World.block_lt_of_cell? w _ hx265_2)).trans hx265_2; replace hx265_3 := (HB.out.cell (World.block_lt_of_cell? w _ hx265_3)).trans hx265_3; replace hx265_4 := (HB.out.cell (World.block_lt_of_cell? w _ hx265_4)).trans hx265_4; replace hx265_5 := (HB.out.cell (World.block_lt_of_cell? w _ hx265_5)).trans hx265_5; replace hx265_6 := (HB.out.cell (World.block_lt_of_cell? w _ hx265_6)).trans hx265_6; replace hx265_7 := (HB.out.cell (World.block_lt_of_cell? w _ hx265_7)).trans hx265_7; replace hx265_8 := (HB.out.cell (World.block_lt_of_cell? w _ hx265_8)).trans hx265_8; replace p265 := eq_true p265; replace q265 := eq_true q265) | (go_at_call 62; (with_reducible refine (impl_within.calls ((rd_T71 l0 x12_1).f7) 0 100100 t266 _ A11.out).mono ?_); rintro e w' ⟨rfl, ⟨nd, rfl⟩⟩))
                    go_meet
                    case rel => exact ⟨_, (!t266), (by first | rfl | (simp; done) | (simp [*]; done) | (simp [ne_nil_b]; done) | (simp [ne_nil_b, *]; done)), H', ⟨by have := HK1.out; first | omega | exact Nat.le_refl _⟩, ⟨by repeat (first | (with_reducible first | exact HB.out | apply below_alloc | apply pw_below_drewN | apply below_drew1) | exact HB.out)⟩⟩
                  · replace c10 := Bool.eq_false_iff.mpr c10
                    subst c10
                    have H1 : (impl_FlowsOK.j1 k1 l0 x12_1 (l0.length : Int) x12_1 true) = some r := by rw [if_neg (show ¬ (false = true) by decide)] at H; exact H
                    clear H
                    have H := H1
                    clear H1
                    have H' := Aside0.mk H
                    clear H
                    have p261 : 0 ≤ (x12_1 : Int) := of_decide_eq_true (by first | (with_reducible assumption) | assumption)
                    have q261 : x12_1 < (l0.length : Int) := of_decide_eq_true (by first | (with_reducible assumption) | assumption)
                    obtain ⟨ad261, e261, hx261_0, hx261_1, hx261_2, hx261_3, hx261_4, hx261_5, hx261_6, hx261_7, hx261_8⟩ := at_T71 HR0.out x12_1 p261 q261
                    obtain rfl : ad260 = ad261 := (by injection e261)
                    replace hx261_0 := (HB.out.cell (World.block_lt_of_cell? w _ hx261_0)).trans hx261_0
                    replace hx261_1 := (HB.out.cell (World.block_lt_of_cell? w _ hx261_1)).trans hx261_1
                    replace hx261_2 := (HB.out.cell (World.block_lt_of_cell? w _ hx261_2)).trans hx261_2
                    replace hx261_3 := (HB.out.cell (World.block_lt_of_cell? w _ hx261_3)).trans hx261_3
                    replace hx261_4 := (HB.out.cell (World.block_lt_of_cell? w _ hx261_4)).trans hx261_4
                    replace hx261_5 := (HB.out.cell (World.block_lt_of_cell? w _ hx261_5)).trans hx261_5
                    replace hx261_6 := (HB.out.cell (World.block_lt_of_cell? w _ hx261_6)).trans hx261_6
                    replace hx261_7 := (HB.out.cell (World.block_lt_of_cell? w _ hx261_7)).trans hx261_7
                    replace hx261_8 := (HB.out.cell (World.block_lt_of_cell? w _ hx261_8)).trans hx261_8
                    replace p261 := eq_true p261
                    replace q261 := eq_true q261
                    go_wp2_with (first | ((with_reducible refine gate_callee (f := 77) rfl ?_); refine goesL_ (some 19) rfl rfl Try.func77 (by kernel_rfl) rfl #[.pointer (some (ad260.add ((x12_1 : Int).toNat * 9)))] rfl (by (try simp only [List.map_toArray, List.map_cons, List.map_nil]); first | done | rfl | (simp only [List.length_drop, List.length_take]; rfl)) ?_; (with_reducible refine (impl_Flow_endsOKAt.calls ad260 ((x12_1 : Int).toNat * 9) ((rd_T71 l0 x12_1).f0) ((rd_T71 l0 x12_1).f1) ((rd_T71 l0 x12_1).f2) ((rd_T71 l0 x12_1).f3) ((rd_T71 l0 x12_1).f4) ((rd_T71 l0 x12_1).f5) ((rd_T71 l0 x12_1).f6) ((rd_T71 l0 x12_1).f7) ((rd_T71 l0 x12_1).f8) true _ hx260_0 hx260_1 hx260_2 hx260_3 hx260_4 hx260_5 hx260_6 hx260_7 hx260_8 A7.out).mono ?_); rintro e w13 ⟨rfl, hb⟩; refine ⟨_, rfl, ?_⟩; have n0_ := Aside0.mk (below_step (by repeat (first | (with_reducible first | exact HB.out | apply below_alloc | apply pw_below_drewN | apply below_drew1) | exact HB.out)) hb); clear HB; have HB := n0_; clear n0_; (try clear hb); (try clear hb2); (try clear hk); (try clear hi); have p263 : 0 ≤ (x12_1 : Int) := of_decide_eq_true (by first | (with_reducible assumption) | assumption); have q263 : x12_1 < (l0.length : Int) := of_decide_eq_true (by first | (with_reducible assumption) | assumption); obtain ⟨ad263, e263, hx263_0, hx263_1, hx263_2, hx263_3, hx263_4, hx263_5, hx263_6, hx263_7, hx263_8⟩ := at_T71 HR0.out x12_1 p263 q263; obtain rfl : ad260 = ad263 := (by injection e263); replace hx263_0 := (HB.out.cell (World.block_lt_of_cell? w _ hx263_0)).trans hx263_0; replace hx263_1 := (HB.out.cell (World.block_lt_of_cell? w _ hx263_1)).trans hx263_1; replace hx263_2 := (HB.out.cell (World.block_lt_of_cell? w _ hx263_2)).trans hx263_2; replace hx263_3 := (HB.out.cell (World.block_lt_of_cell? w _ hx263_3)).trans hx263_3; replace hx263_4 := (HB.out.cell (World.block_lt_of_cell? w _ hx263_4)).trans hx263_4; replace hx263_5 := (HB.out.cell (World.block_lt_of_cell? w _ hx263_5)).trans hx263_5; replace hx263_6 := (HB.out.cell (World.block_lt_of_cell? w _ hx263_6)).trans hx263_6; replace hx263_7 := (HB.out.cell (World.block_lt_of_cell? w _ hx263_7)).trans hx263_7; replace hx263_8 := (HB.out.cell (World.block_lt_of_cell? w _ hx263_8)).trans hx263_8; replace p263 := eq_true p263; replace q263 := eq_true q263) | (go_at_call 62; (with_reducible refine (impl_within.calls ((rd_T71 l0 x12_1).f6) 1 3 false _ A9.out).mono ?_); rintro e w' ⟨rfl, ⟨nd, rfl⟩⟩))
                    go_meet
                    case rel => exact ⟨_, (true), (by first | rfl | (simp; done) | (simp [*]; done) | (simp [ne_nil_b]; done) | (simp [ne_nil_b, *]; done)), H', ⟨by have := HK1.out; first | omega | exact Nat.le_refl _⟩, ⟨by repeat (first | (with_reducible first | exact HB.out | apply below_alloc | apply pw_below_drewN | apply below_drew1) | exact HB.out)⟩⟩
                · replace c8 := Bool.eq_false_iff.mpr c8
                  subst c8
                  have H1 : (impl_FlowsOK.j1 k1 l0 x12_1 (l0.length : Int) x12_1 true) = some r := by rw [if_neg (show ¬ (false = true) by decide)] at H; exact H
                  clear H
                  have H := H1
                  clear H1
                  have H' := Aside0.mk H
                  clear H
                  have p261 : 0 ≤ (x12_1 : Int) := of_decide_eq_true (by first | (with_reducible assumption) | assumption)
                  have q261 : x12_1 < (l0.length : Int) := of_decide_eq_true (by first | (with_reducible assumption) | assumption)
                  obtain ⟨ad261, e261, hx261_0, hx261_1, hx261_2, hx261_3, hx261_4, hx261_5, hx261_6, hx261_7, hx261_8⟩ := at_T71 HR0.out x12_1 p261 q261
                  obtain rfl : ad260 = ad261 := (by injection e261)
                  replace hx261_0 := (HB.out.cell (World.block_lt_of_cell? w _ hx261_0)).trans hx261_0
                  replace hx261_1 := (HB.out.cell (World.block_lt_of_cell? w _ hx261_1)).trans hx261_1
                  replace hx261_2 := (HB.out.cell (World.block_lt_of_cell? w _ hx261_2)).trans hx261_2
                  replace hx261_3 := (HB.out.cell (World.block_lt_of_cell? w _ hx261_3)).trans hx261_3
                  replace hx261_4 := (HB.out.cell (World.block_lt_of_cell? w _ hx261_4)).trans hx261_4
                  replace hx261_5 := (HB.out.cell (World.block_lt_of_cell? w _ hx261_5)).trans hx261_5
                  replace hx261_6 := (HB.out.cell (World.block_lt_of_cell? w _ hx261_6)).trans hx261_6
                  replace hx261_7 := (HB.out.cell (World.block_lt_of_cell? w _ hx261_7)).trans hx261_7
                  replace hx261_8 := (HB.out.cell (World.block_lt_of_cell? w _ hx261_8)).trans hx261_8
                  replace p261 := eq_true p261
                  replace q261 := eq_true q261
                  go_wp2_with (first | ((with_reducible refine gate_callee (f := 77) rfl ?_); refine goesL_ (some 19) rfl rfl Try.func77 (by kernel_rfl) rfl #[.pointer (some (ad260.add ((x12_1 : Int).toNat * 9)))] rfl (by (try simp only [List.map_toArray, List.map_cons, List.map_nil]); first | done | rfl | (simp only [List.length_drop, List.length_take]; rfl)) ?_; (with_reducible refine (impl_Flow_endsOKAt.calls ad260 ((x12_1 : Int).toNat * 9) ((rd_T71 l0 x12_1).f0) ((rd_T71 l0 x12_1).f1) ((rd_T71 l0 x12_1).f2) ((rd_T71 l0 x12_1).f3) ((rd_T71 l0 x12_1).f4) ((rd_T71 l0 x12_1).f5) ((rd_T71 l0 x12_1).f6) ((rd_T71 l0 x12_1).f7) ((rd_T71 l0 x12_1).f8) false _ hx260_0 hx260_1 hx260_2 hx260_3 hx260_4 hx260_5 hx260_6 hx260_7 hx260_8 A7.out).mono ?_); rintro e w14 ⟨rfl, hb⟩; refine ⟨_, rfl, ?_⟩; have n0_ := Aside0.mk (below_step (by repeat (first | (with_reducible first | exact HB.out | apply below_alloc | apply pw_below_drewN | apply below_drew1) | exact HB.out)) hb); clear HB; have HB := n0_; clear n0_; (try clear hb); (try clear hb2); (try clear hk); (try clear hi)))
                  go_meet
                  case rel => exact ⟨_, (true), (by first | rfl | (simp; done) | (simp [*]; done) | (simp [ne_nil_b]; done) | (simp [ne_nil_b, *]; done)), H', ⟨by have := HK1.out; first | omega | exact Nat.le_refl _⟩, ⟨by repeat (first | (with_reducible first | exact HB.out | apply below_alloc | apply pw_below_drewN | apply below_drew1) | exact HB.out)⟩⟩
              case rest =>
                clear HC6
                try clear c1
                try clear c2
                try clear c2b0
                try clear c2b1
                try clear p2
                try clear q2
                try clear hx2
                try clear c3
                try clear c3b0
                try clear c4
                try clear c4b0
                try clear c5
                try clear c5b0
                try clear c8
                try clear c10
                try clear hx260_0
                try clear hx260_1
                try clear hx260_2
                try clear hx260_3
                try clear hx260_4
                try clear hx260_5
                try clear hx260_6
                try clear hx260_7
                try clear hx260_8
                try clear hx261_0
                try clear hx261_1
                try clear hx261_2
                try clear hx261_3
                try clear hx261_4
                try clear hx261_5
                try clear hx261_6
                try clear hx261_7
                try clear hx261_8
                try clear hx263_0
                try clear hx263_1
                try clear hx263_2
                try clear hx263_3
                try clear hx263_4
                try clear hx263_5
                try clear hx263_6
                try clear hx263_7
                try clear hx263_8
                try clear hx265_0
                try clear hx265_1
                try clear hx265_2
                try clear hx265_3
                try clear hx265_4
                try clear hx265_5
                try clear hx265_6
                try clear hx265_7
                try clear hx265_8
                try clear p2
                try clear p260
                try clear p261
                try clear p263
                try clear p265
                try clear q260
                try clear q261
                try clear q263
                try clear q265
                obtain ⟨kq, x36_5, rfl, HA, HJ5, HB⟩ := hcut
                cases kq with
                | zero => exact absurd HA.out (by simp [impl_FlowsOK.j1])
                | succ kj5 =>
                  have H := HA.out
                  clear HA
                  simp only [impl_FlowsOK.j1] at H
                  by_cases c15 : x36_5 = true
                  · subst c15
                    have H1 : (some false) = some r := by rw [if_pos rfl] at H; exact H
                    clear H
                    have H := H1
                    clear H1
                    obtain rfl := Option.some.inj H
                    go_wp2
                    go_ret
                    exact ⟨by first | rfl | (simp [errW_none, errW_some] <;> rfl) | (simp [*, errW_none, errW_some] <;> rfl), by repeat (first | (with_reducible first | exact HB.out | apply below_alloc | apply pw_below_drewN | apply below_drew1) | exact HB.out)⟩
                  · replace c15 := Bool.eq_false_iff.mpr c15
                    subst c15
                    have H1 : (if 0 ≤ x12_1 then (if x12_1 ≤ (l0.length : Int) then (if x12_1 < (l0.length : Int) then ((impl_find.f kj5 (l0.take (x12_1 : Int).toNat) ((rd_T71 l0 x12_1).f0) ((rd_T71 l0 x12_1).f2) ((rd_T71 l0 x12_1).f3) ((rd_T71 l0 x12_1).f4) ((rd_T71 l0 x12_1).f5)).bind fun bt276 => (if bt276.1 ≥ 0 then (some false) else (impl_FlowsOK.l0 kj5 l0 (l0.length : Int) (wrap64 (x12_1 + 1))))) else (none)) else (none)) else (none)) = some r := by rw [if_neg (show ¬ (false = true) by decide)] at H; exact H
                    clear H
                    have H := H1
                    clear H1
                    by_cases c16 : 0 ≤ x12_1
                    · rw [if_pos c16] at H
                      have c16b0 := eq_true c16
                      have c16b1 : decide (0 ≤ x12_1) = true := decide_eq_true c16
                      clear c16
                      by_cases c17 : x12_1 ≤ (l0.length : Int)
                      · rw [if_pos c17] at H
                        have c17b0 := eq_true c17
                        have c17b1 : decide (x12_1 ≤ (l0.length : Int)) = true := decide_eq_true c17
                        clear c17
                        obtain ⟨y267, hy267⟩ : ∃ y_ : List (S71), y_ = (l0.take (x12_1 : Int).toNat) := ⟨_, rfl⟩
                        replace H : (if x12_1 < (l0.length : Int) then ((impl_find.f kj5 y267 ((rd_T71 l0 x12_1).f0) ((rd_T71 l0 x12_1).f2) ((rd_T71 l0 x12_1).f3) ((rd_T71 l0 x12_1).f4) ((rd_T71 l0 x12_1).f5)).bind fun bt276 => (if bt276.1 ≥ 0 then (some false) else (impl_FlowsOK.l0 kj5 l0 (l0.length : Int) (wrap64 (x12_1 + 1))))) else (none)) = some r := by first | (rw [hy267]; with_reducible exact H) | (have H2_ := (Option.bind_some _ _).symm.trans H; rw [hy267]; with_reducible exact H2_) | (have H2_ := (Option.bind_some _ _).symm.trans H; with_reducible exact H2_) | with_reducible exact H | (rw [hy267]; exact H) | exact H
                        have Ny267 := Aside0.mk hy267
                        clear hy267
                        by_cases c18 : x12_1 < (l0.length : Int)
                        · rw [if_pos c18] at H
                          have c18b0 : decide (x12_1 < (l0.length : Int)) = true := decide_eq_true c18
                          clear c18
                          replace H := Option.bind_eq_some_iff.mp H
                          obtain ⟨⟨t276, t277⟩, A190, H⟩ := H
                          replace H : (if t276 ≥ 0 then (some false) else (impl_FlowsOK.l0 kj5 l0 (l0.length : Int) (wrap64 (x12_1 + 1)))) = some r := H
                          have A19 := Aside0.mk A190
                          clear A190
                          by_cases c20 : t276 ≥ 0
                          · rw [if_pos c20] at H
                            have c20b0 : decide (0 ≤ t276) = true := decide_eq_true c20
                            clear c20
                            obtain rfl := Option.some.inj H
                            try go_wp2
                            have n0_ := Aside0.mk (below_drew1 HB.out)
                            clear HB
                            have HB := n0_
                            clear n0_
                            have q22 : (x12_1 : Int) ≤ ((l0.length : Int) : Int) := of_decide_eq_true (by first | (with_reducible assumption) | assumption)
                            obtain ⟨i022, hi022, _, hsz22, _⟩ := info_parts info71
                            have hroom22 : l0.length ≤ c0 := HC0.out
                            have hC22 : Kd.C k71 _ (some ad260) l0.length l0 := HR0.out
                            have hcut22 := cut_to (P := Try.prog) 40 71 .i64 Try.underlying40 hi022 (some ad260) l0.length c0 x12_1 (of_decide_eq_true (by first | (with_reducible assumption) | assumption)) q22 hroom22
                            have hr22 := Kd.C_take (m := (x12_1 : Int).toNat) hC22 (by omega)
                            have hy22 : y267.length = (x12_1 : Int).toNat := (by rw [Ny267.out, List.length_take]; omega)
                            rw [← Ny267.out] at hr22
                            rw [← hy22] at hcut22
                            have HR270 := Aside0.mk hr22
                            have HC270 := Aside0.mk (show y267.length ≤ c0 from by omega)
                            clear hr22 hC22 hroom22 hi022 hsz22
                            have KY22 := Aside0.mk hy22
                            clear hy22
                            replace q22 := eq_true q22
                            have p271 : 0 ≤ (x12_1 : Int) := of_decide_eq_true (by first | (with_reducible assumption) | assumption)
                            have q271 : x12_1 < (l0.length : Int) := of_decide_eq_true (by first | (with_reducible assumption) | assumption)
                            obtain ⟨ad271, e271, hx271_0, hx271_1, hx271_2, hx271_3, hx271_4, hx271_5, hx271_6, hx271_7, hx271_8⟩ := at_T71 HR0.out x12_1 p271 q271
                            have hw271_8 := hx271_8
                            have hw271_7 := hx271_7
                            have hw271_6 := hx271_6
                            have hw271_5 := hx271_5
                            have hw271_4 := hx271_4
                            have hw271_3 := hx271_3
                            have hw271_2 := hx271_2
                            have hw271_1 := hx271_1
                            have hw271_0 := hx271_0
                            obtain rfl : ad260 = ad271 := (by injection e271)
                            replace hx271_0 := (HB.out.cell (World.block_lt_of_cell? w _ hx271_0)).trans hx271_0
                            replace hx271_1 := (HB.out.cell (World.block_lt_of_cell? w _ hx271_1)).trans hx271_1
                            replace hx271_2 := (HB.out.cell (World.block_lt_of_cell? w _ hx271_2)).trans hx271_2
                            replace hx271_3 := (HB.out.cell (World.block_lt_of_cell? w _ hx271_3)).trans hx271_3
                            replace hx271_4 := (HB.out.cell (World.block_lt_of_cell? w _ hx271_4)).trans hx271_4
                            replace hx271_5 := (HB.out.cell (World.block_lt_of_cell? w _ hx271_5)).trans hx271_5
                            replace hx271_6 := (HB.out.cell (World.block_lt_of_cell? w _ hx271_6)).trans hx271_6
                            replace hx271_7 := (HB.out.cell (World.block_lt_of_cell? w _ hx271_7)).trans hx271_7
                            replace hx271_8 := (HB.out.cell (World.block_lt_of_cell? w _ hx271_8)).trans hx271_8
                            replace p271 := eq_true p271
                            replace q271 := eq_true q271
                            have p272 : 0 ≤ (x12_1 : Int) := of_decide_eq_true (by first | (with_reducible assumption) | assumption)
                            have q272 : x12_1 < (l0.length : Int) := of_decide_eq_true (by first | (with_reducible assumption) | assumption)
                            obtain ⟨ad272, e272, hx272_0, hx272_1, hx272_2, hx272_3, hx272_4, hx272_5, hx272_6, hx272_7, hx272_8⟩ := at_T71 HR0.out x12_1 p272 q272
                            have hw272_8 := hx272_8
                            have hw272_7 := hx272_7
                            have hw272_6 := hx272_6
                            have hw272_5 := hx272_5
                            have hw272_4 := hx272_4
                            have hw272_3 := hx272_3
                            have hw272_2 := hx272_2
                            have hw272_1 := hx272_1
                            have hw272_0 := hx272_0
                            obtain rfl : ad260 = ad272 := (by injection e272)
                            replace hx272_0 := (HB.out.cell (World.block_lt_of_cell? w _ hx272_0)).trans hx272_0
                            replace hx272_1 := (HB.out.cell (World.block_lt_of_cell? w _ hx272_1)).trans hx272_1
                            replace hx272_2 := (HB.out.cell (World.block_lt_of_cell? w _ hx272_2)).trans hx272_2
                            replace hx272_3 := (HB.out.cell (World.block_lt_of_cell? w _ hx272_3)).trans hx272_3
                            replace hx272_4 := (HB.out.cell (World.block_lt_of_cell? w _ hx272_4)).trans hx272_4
                            replace hx272_5 := (HB.out.cell (World.block_lt_of_cell? w _ hx272_5)).trans hx272_5
                            replace hx272_6 := (HB.out.cell (World.block_lt_of_cell? w _ hx272_6)).trans hx272_6
                            replace hx272_7 := (HB.out.cell (World.block_lt_of_cell? w _ hx272_7)).trans hx272_7
                            replace hx272_8 := (HB.out.cell (World.block_lt_of_cell? w _ hx272_8)).trans hx272_8
                            replace p272 := eq_true p272
                            replace q272 := eq_true q272
                            have p273 : 0 ≤ (x12_1 : Int) := of_decide_eq_true (by first | (with_reducible assumption) | assumption)
                            have q273 : x12_1 < (l0.length : Int) := of_decide_eq_true (by first | (with_reducible assumption) | assumption)
                            obtain ⟨ad273, e273, hx273_0, hx273_1, hx273_2, hx273_3, hx273_4, hx273_5, hx273_6, hx273_7, hx273_8⟩ := at_T71 HR0.out x12_1 p273 q273
                            have hw273_8 := hx273_8
                            have hw273_7 := hx273_7
                            have hw273_6 := hx273_6
                            have hw273_5 := hx273_5
                            have hw273_4 := hx273_4
                            have hw273_3 := hx273_3
                            have hw273_2 := hx273_2
                            have hw273_1 := hx273_1
                            have hw273_0 := hx273_0
                            obtain rfl : ad260 = ad273 := (by injection e273)
                            replace hx273_0 := (HB.out.cell (World.block_lt_of_cell? w _ hx273_0)).trans hx273_0
                            replace hx273_1 := (HB.out.cell (World.block_lt_of_cell? w _ hx273_1)).trans hx273_1
                            replace hx273_2 := (HB.out.cell (World.block_lt_of_cell? w _ hx273_2)).trans hx273_2
                            replace hx273_3 := (HB.out.cell (World.block_lt_of_cell? w _ hx273_3)).trans hx273_3
                            replace hx273_4 := (HB.out.cell (World.block_lt_of_cell? w _ hx273_4)).trans hx273_4
                            replace hx273_5 := (HB.out.cell (World.block_lt_of_cell? w _ hx273_5)).trans hx273_5
                            replace hx273_6 := (HB.out.cell (World.block_lt_of_cell? w _ hx273_6)).trans hx273_6
                            replace hx273_7 := (HB.out.cell (World.block_lt_of_cell? w _ hx273_7)).trans hx273_7
                            replace hx273_8 := (HB.out.cell (World.block_lt_of_cell? w _ hx273_8)).trans hx273_8
                            replace p273 := eq_true p273
                            replace q273 := eq_true q273
                            have p274 : 0 ≤ (x12_1 : Int) := of_decide_eq_true (by first | (with_reducible assumption) | assumption)
                            have q274 : x12_1 < (l0.length : Int) := of_decide_eq_true (by first | (with_reducible assumption) | assumption)
                            obtain ⟨ad274, e274, hx274_0, hx274_1, hx274_2, hx274_3, hx274_4, hx274_5, hx274_6, hx274_7, hx274_8⟩ := at_T71 HR0.out x12_1 p274 q274
                            have hw274_8 := hx274_8
                            have hw274_7 := hx274_7
                            have hw274_6 := hx274_6
                            have hw274_5 := hx274_5
                            have hw274_4 := hx274_4
                            have hw274_3 := hx274_3
                            have hw274_2 := hx274_2
                            have hw274_1 := hx274_1
                            have hw274_0 := hx274_0
                            obtain rfl : ad260 = ad274 := (by injection e274)
                            replace hx274_0 := (HB.out.cell (World.block_lt_of_cell? w _ hx274_0)).trans hx274_0
                            replace hx274_1 := (HB.out.cell (World.block_lt_of_cell? w _ hx274_1)).trans hx274_1
                            replace hx274_2 := (HB.out.cell (World.block_lt_of_cell? w _ hx274_2)).trans hx274_2
                            replace hx274_3 := (HB.out.cell (World.block_lt_of_cell? w _ hx274_3)).trans hx274_3
                            replace hx274_4 := (HB.out.cell (World.block_lt_of_cell? w _ hx274_4)).trans hx274_4
                            replace hx274_5 := (HB.out.cell (World.block_lt_of_cell? w _ hx274_5)).trans hx274_5
                            replace hx274_6 := (HB.out.cell (World.block_lt_of_cell? w _ hx274_6)).trans hx274_6
                            replace hx274_7 := (HB.out.cell (World.block_lt_of_cell? w _ hx274_7)).trans hx274_7
                            replace hx274_8 := (HB.out.cell (World.block_lt_of_cell? w _ hx274_8)).trans hx274_8
                            replace p274 := eq_true p274
                            replace q274 := eq_true q274
                            have p275 : 0 ≤ (x12_1 : Int) := of_decide_eq_true (by first | (with_reducible assumption) | assumption)
                            have q275 : x12_1 < (l0.length : Int) := of_decide_eq_true (by first | (with_reducible assumption) | assumption)
                            obtain ⟨ad275, e275, hx275_0, hx275_1, hx275_2, hx275_3, hx275_4, hx275_5, hx275_6, hx275_7, hx275_8⟩ := at_T71 HR0.out x12_1 p275 q275
                            have hw275_8 := hx275_8
                            have hw275_7 := hx275_7
                            have hw275_6 := hx275_6
                            have hw275_5 := hx275_5
                            have hw275_4 := hx275_4
                            have hw275_3 := hx275_3
                            have hw275_2 := hx275_2
                            have hw275_1 := hx275_1
                            have hw275_0 := hx275_0
                            obtain rfl : ad260 = ad275 := (by injection e275)
                            replace hx275_0 := (HB.out.cell (World.block_lt_of_cell? w _ hx275_0)).trans hx275_0
                            replace hx275_1 := (HB.out.cell (World.block_lt_of_cell? w _ hx275_1)).trans hx275_1
                            replace hx275_2 := (HB.out.cell (World.block_lt_of_cell? w _ hx275_2)).trans hx275_2
                            replace hx275_3 := (HB.out.cell (World.block_lt_of_cell? w _ hx275_3)).trans hx275_3
                            replace hx275_4 := (HB.out.cell (World.block_lt_of_cell? w _ hx275_4)).trans hx275_4
                            replace hx275_5 := (HB.out.cell (World.block_lt_of_cell? w _ hx275_5)).trans hx275_5
                            replace hx275_6 := (HB.out.cell (World.block_lt_of_cell? w _ hx275_6)).trans hx275_6
                            replace hx275_7 := (HB.out.cell (World.block_lt_of_cell? w _ hx275_7)).trans hx275_7
                            replace hx275_8 := (HB.out.cell (World.block_lt_of_cell? w _ hx275_8)).trans hx275_8
                            replace p275 := eq_true p275
                            replace q275 := eq_true q275
                            refine start_ (n := 29) (S := fun w' => w'.cell? (ad260.add ((x12_1).toNat * 9)) = some (.int .i64 ((rd_T71 l0 x12_1).f0)) ∧ w'.cell? ⟨(ad260.add ((x12_1).toNat * 9)).block, (ad260.add ((x12_1).toNat * 9)).off + 1, none⟩ = some (.string ((rd_T71 l0 x12_1).f1)) ∧ w'.cell? ⟨(ad260.add ((x12_1).toNat * 9)).block, (ad260.add ((x12_1).toNat * 9)).off + 2, none⟩ = some (.int .i64 ((rd_T71 l0 x12_1).f2)) ∧ w'.cell? ⟨(ad260.add ((x12_1).toNat * 9)).block, (ad260.add ((x12_1).toNat * 9)).off + 3, none⟩ = some (.int .i64 ((rd_T71 l0 x12_1).f3)) ∧ w'.cell? ⟨(ad260.add ((x12_1).toNat * 9)).block, (ad260.add ((x12_1).toNat * 9)).off + 4, none⟩ = some (.int .i64 ((rd_T71 l0 x12_1).f4)) ∧ w'.cell? ⟨(ad260.add ((x12_1).toNat * 9)).block, (ad260.add ((x12_1).toNat * 9)).off + 5, none⟩ = some (.int .i64 ((rd_T71 l0 x12_1).f5)) ∧ w'.cell? ⟨(ad260.add ((x12_1).toNat * 9)).block, (ad260.add ((x12_1).toNat * 9)).off + 6, none⟩ = some (.int .i64 ((rd_T71 l0 x12_1).f6)) ∧ w'.cell? ⟨(ad260.add ((x12_1).toNat * 9)).block, (ad260.add ((x12_1).toNat * 9)).off + 7, none⟩ = some (.int .i64 ((rd_T71 l0 x12_1).f7)) ∧ w'.cell? ⟨(ad260.add ((x12_1).toNat * 9)).block, (ad260.add ((x12_1).toNat * 9)).off + 8, none⟩ = some (.int .i64 ((rd_T71 l0 x12_1).f8)) ∧ w'.cell? (ad260.add ((x12_1).toNat * 9)) = some (.int .i64 ((rd_T71 l0 x12_1).f0)) ∧ w'.cell? ⟨(ad260.add ((x12_1).toNat * 9)).block, (ad260.add ((x12_1).toNat * 9)).off + 1, none⟩ = some (.string ((rd_T71 l0 x12_1).f1)) ∧ w'.cell? ⟨(ad260.add ((x12_1).toNat * 9)).block, (ad260.add ((x12_1).toNat * 9)).off + 2, none⟩ = some (.int .i64 ((rd_T71 l0 x12_1).f2)) ∧ w'.cell? ⟨(ad260.add ((x12_1).toNat * 9)).block, (ad260.add ((x12_1).toNat * 9)).off + 3, none⟩ = some (.int .i64 ((rd_T71 l0 x12_1).f3)) ∧ w'.cell? ⟨(ad260.add ((x12_1).toNat * 9)).block, (ad260.add ((x12_1).toNat * 9)).off + 4, none⟩ = some (.int .i64 ((rd_T71 l0 x12_1).f4)) ∧ w'.cell? ⟨(ad260.add ((x12_1).toNat * 9)).block, (ad260.add ((x12_1).toNat * 9)).off + 5, none⟩ = some (.int .i64 ((rd_T71 l0 x12_1).f5)) ∧ w'.cell? ⟨(ad260.add ((x12_1).toNat * 9)).block, (ad260.add ((x12_1).toNat * 9)).off + 6, none⟩ = some (.int .i64 ((rd_T71 l0 x12_1).f6)) ∧ w'.cell? ⟨(ad260.add ((x12_1).toNat * 9)).block, (ad260.add ((x12_1).toNat * 9)).off + 7, none⟩ = some (.int .i64 ((rd_T71 l0 x12_1).f7)) ∧ w'.cell? ⟨(ad260.add ((x12_1).toNat * 9)).block, (ad260.add ((x12_1).toNat * 9)).off + 8, none⟩ = some (.int .i64 ((rd_T71 l0 x12_1).f8)) ∧ w'.cell? (ad260.add ((x12_1).toNat * 9)) = some (.int .i64 ((rd_T71 l0 x12_1).f0)) ∧ w'.cell? ⟨(ad260.add ((x12_1).toNat * 9)).block, (ad260.add ((x12_1).toNat * 9)).off + 1, none⟩ = some (.string ((rd_T71 l0 x12_1).f1)) ∧ w'.cell? ⟨(ad260.add ((x12_1).toNat * 9)).block, (ad260.add ((x12_1).toNat * 9)).off + 2, none⟩ = some (.int .i64 ((rd_T71 l0 x12_1).f2)) ∧ w'.cell? ⟨(ad260.add ((x12_1).toNat * 9)).block, (ad260.add ((x12_1).toNat * 9)).off + 3, none⟩ = some (.int .i64 ((rd_T71 l0 x12_1).f3)) ∧ w'.cell? ⟨(ad260.add ((x12_1).toNat * 9)).block, (ad260.add ((x12_1).toNat * 9)).off + 4, none⟩ = some (.int .i64 ((rd_T71 l0 x12_1).f4)) ∧ w'.cell? ⟨(ad260.add ((x12_1).toNat * 9)).block, (ad260.add ((x12_1).toNat * 9)).off + 5, none⟩ = some (.int .i64 ((rd_T71 l0 x12_1).f5)) ∧ w'.cell? ⟨(ad260.add ((x12_1).toNat * 9)).block, (ad260.add ((x12_1).toNat * 9)).off + 6, none⟩ = some (.int .i64 ((rd_T71 l0 x12_1).f6)) ∧ w'.cell? ⟨(ad260.add ((x12_1).toNat * 9)).block, (ad260.add ((x12_1).toNat * 9)).off + 7, none⟩ = some (.int .i64 ((rd_T71 l0 x12_1).f7)) ∧ w'.cell? ⟨(ad260.add ((x12_1).toNat * 9)).block, (ad260.add ((x12_1).toNat * 9)).off + 8, none⟩ = some (.int .i64 ((rd_T71 l0 x12_1).f8)) ∧ w'.cell? (ad260.add ((x12_1).toNat * 9)) = some (.int .i64 ((rd_T71 l0 x12_1).f0)) ∧ w'.cell? ⟨(ad260.add ((x12_1).toNat * 9)).block, (ad260.add ((x12_1).toNat * 9)).off + 1, none⟩ = some (.string ((rd_T71 l0 x12_1).f1)) ∧ w'.cell? ⟨(ad260.add ((x12_1).toNat * 9)).block, (ad260.add ((x12_1).toNat * 9)).off + 2, none⟩ = some (.int .i64 ((rd_T71 l0 x12_1).f2)) ∧ w'.cell? ⟨(ad260.add ((x12_1).toNat * 9)).block, (ad260.add ((x12_1).toNat * 9)).off + 3, none⟩ = some (.int .i64 ((rd_T71 l0 x12_1).f3)) ∧ w'.cell? ⟨(ad260.add ((x12_1).toNat * 9)).block, (ad260.add ((x12_1).toNat * 9)).off + 4, none⟩ = some (.int .i64 ((rd_T71 l0 x12_1).f4)) ∧ w'.cell? ⟨(ad260.add ((x12_1).toNat * 9)).block, (ad260.add ((x12_1).toNat * 9)).off + 5, none⟩ = some (.int .i64 ((rd_T71 l0 x12_1).f5)) ∧ w'.cell? ⟨(ad260.add ((x12_1).toNat * 9)).block, (ad260.add ((x12_1).toNat * 9)).off + 6, none⟩ = some (.int .i64 ((rd_T71 l0 x12_1).f6)) ∧ w'.cell? ⟨(ad260.add ((x12_1).toNat * 9)).block, (ad260.add ((x12_1).toNat * 9)).off + 7, none⟩ = some (.int .i64 ((rd_T71 l0 x12_1).f7)) ∧ w'.cell? ⟨(ad260.add ((x12_1).toNat * 9)).block, (ad260.add ((x12_1).toNat * 9)).off + 8, none⟩ = some (.int .i64 ((rd_T71 l0 x12_1).f8)) ∧ w'.cell? (ad260.add ((x12_1).toNat * 9)) = some (.int .i64 ((rd_T71 l0 x12_1).f0)) ∧ w'.cell? ⟨(ad260.add ((x12_1).toNat * 9)).block, (ad260.add ((x12_1).toNat * 9)).off + 1, none⟩ = some (.string ((rd_T71 l0 x12_1).f1)) ∧ w'.cell? ⟨(ad260.add ((x12_1).toNat * 9)).block, (ad260.add ((x12_1).toNat * 9)).off + 2, none⟩ = some (.int .i64 ((rd_T71 l0 x12_1).f2)) ∧ w'.cell? ⟨(ad260.add ((x12_1).toNat * 9)).block, (ad260.add ((x12_1).toNat * 9)).off + 3, none⟩ = some (.int .i64 ((rd_T71 l0 x12_1).f3)) ∧ w'.cell? ⟨(ad260.add ((x12_1).toNat * 9)).block, (ad260.add ((x12_1).toNat * 9)).off + 4, none⟩ = some (.int .i64 ((rd_T71 l0 x12_1).f4)) ∧ w'.cell? ⟨(ad260.add ((x12_1).toNat * 9)).block, (ad260.add ((x12_1).toNat * 9)).off + 5, none⟩ = some (.int .i64 ((rd_T71 l0 x12_1).f5)) ∧ w'.cell? ⟨(ad260.add ((x12_1).toNat * 9)).block, (ad260.add ((x12_1).toNat * 9)).off + 6, none⟩ = some (.int .i64 ((rd_T71 l0 x12_1).f6)) ∧ w'.cell? ⟨(ad260.add ((x12_1).toNat * 9)).block, (ad260.add ((x12_1).toNat * 9)).off + 7, none⟩ = some (.int .i64 ((rd_T71 l0 x12_1).f7)) ∧ w'.cell? ⟨(ad260.add ((x12_1).toNat * 9)).block, (ad260.add ((x12_1).toNat * 9)).off + 8, none⟩ = some (.int .i64 ((rd_T71 l0 x12_1).f8))) (ds := []) #[false, false, false, false, false, false, false, false, false, false, false, false, false, false, false, false, false, false, false, false, false, false, false, false, false, false, false, false, false] (by kernel_rfl) rfl rfl ⟨((HB.out.cell (World.block_lt_of_cell? w _ hw271_0)).trans hw271_0), ((HB.out.cell (World.block_lt_of_cell? w _ hw271_1)).trans hw271_1), ((HB.out.cell (World.block_lt_of_cell? w _ hw271_2)).trans hw271_2), ((HB.out.cell (World.block_lt_of_cell? w _ hw271_3)).trans hw271_3), ((HB.out.cell (World.block_lt_of_cell? w _ hw271_4)).trans hw271_4), ((HB.out.cell (World.block_lt_of_cell? w _ hw271_5)).trans hw271_5), ((HB.out.cell (World.block_lt_of_cell? w _ hw271_6)).trans hw271_6), ((HB.out.cell (World.block_lt_of_cell? w _ hw271_7)).trans hw271_7), ((HB.out.cell (World.block_lt_of_cell? w _ hw271_8)).trans hw271_8), ((HB.out.cell (World.block_lt_of_cell? w _ hw272_0)).trans hw272_0), ((HB.out.cell (World.block_lt_of_cell? w _ hw272_1)).trans hw272_1), ((HB.out.cell (World.block_lt_of_cell? w _ hw272_2)).trans hw272_2), ((HB.out.cell (World.block_lt_of_cell? w _ hw272_3)).trans hw272_3), ((HB.out.cell (World.block_lt_of_cell? w _ hw272_4)).trans hw272_4), ((HB.out.cell (World.block_lt_of_cell? w _ hw272_5)).trans hw272_5), ((HB.out.cell (World.block_lt_of_cell? w _ hw272_6)).trans hw272_6), ((HB.out.cell (World.block_lt_of_cell? w _ hw272_7)).trans hw272_7), ((HB.out.cell (World.block_lt_of_cell? w _ hw272_8)).trans hw272_8), ((HB.out.cell (World.block_lt_of_cell? w _ hw273_0)).trans hw273_0), ((HB.out.cell (World.block_lt_of_cell? w _ hw273_1)).trans hw273_1), ((HB.out.cell (World.block_lt_of_cell? w _ hw273_2)).trans hw273_2), ((HB.out.cell (World.block_lt_of_cell? w _ hw273_3)).trans hw273_3), ((HB.out.cell (World.block_lt_of_cell? w _ hw273_4)).trans hw273_4), ((HB.out.cell (World.block_lt_of_cell? w _ hw273_5)).trans hw273_5), ((HB.out.cell (World.block_lt_of_cell? w _ hw273_6)).trans hw273_6), ((HB.out.cell (World.block_lt_of_cell? w _ hw273_7)).trans hw273_7), ((HB.out.cell (World.block_lt_of_cell? w _ hw273_8)).trans hw273_8), ((HB.out.cell (World.block_lt_of_cell? w _ hw274_0)).trans hw274_0), ((HB.out.cell (World.block_lt_of_cell? w _ hw274_1)).trans hw274_1), ((HB.out.cell (World.block_lt_of_cell? w _ hw274_2)).trans hw274_2), ((HB.out.cell (World.block_lt_of_cell? w _ hw274_3)).trans hw274_3), ((HB.out.cell (World.block_lt_of_cell? w _ hw274_4)).trans hw274_4), ((HB.out.cell (World.block_lt_of_cell? w _ hw274_5)).trans hw274_5), ((HB.out.cell (World.block_lt_of_cell? w _ hw274_6)).trans hw274_6), ((HB.out.cell (World.block_lt_of_cell? w _ hw274_7)).trans hw274_7), ((HB.out.cell (World.block_lt_of_cell? w _ hw274_8)).trans hw274_8), ((HB.out.cell (World.block_lt_of_cell? w _ hw275_0)).trans hw275_0), ((HB.out.cell (World.block_lt_of_cell? w _ hw275_1)).trans hw275_1), ((HB.out.cell (World.block_lt_of_cell? w _ hw275_2)).trans hw275_2), ((HB.out.cell (World.block_lt_of_cell? w _ hw275_3)).trans hw275_3), ((HB.out.cell (World.block_lt_of_cell? w _ hw275_4)).trans hw275_4), ((HB.out.cell (World.block_lt_of_cell? w _ hw275_5)).trans hw275_5), ((HB.out.cell (World.block_lt_of_cell? w _ hw275_6)).trans hw275_6), ((HB.out.cell (World.block_lt_of_cell? w _ hw275_7)).trans hw275_7), ((HB.out.cell (World.block_lt_of_cell? w _ hw275_8)).trans hw275_8)⟩ (fun hHeld => ?_); refine with_tabW impl_FlowsOK.tab9 impl_FlowsOK.bits9 (fun HT_ HW_ => ?_)
                            generalize wc.drew = w21 at HB HR270 hx271_0 hx271_1 hx271_2 hx271_3 hx271_4 hx271_5 hx271_6 hx271_7 hx271_8 hx272_0 hx272_1 hx272_2 hx272_3 hx272_4 hx272_5 hx272_6 hx272_7 hx272_8 hx273_0 hx273_1 hx273_2 hx273_3 hx273_4 hx273_5 hx273_6 hx273_7 hx273_8 hx274_0 hx274_1 hx274_2 hx274_3 hx274_4 hx274_5 hx274_6 hx274_7 hx274_8 hx275_0 hx275_1 hx275_2 hx275_3 hx275_4 hx275_5 hx275_6 hx275_7 hx275_8 hHeld ⊢
                            refine pure_ (i := 0) (N := some 38) (v := ?_) (a' := ?_) #[true, false, false, false, false, false, false, false, false, false, false, false, false, false, false, false, false, false, false, false, false, false, false, false, false, false, false, false, false] rfl rfl (any_of HT_.out (by kernel_rfl)) (fun _ _ _ h => h) (Or.inl ⟨by rfl, ?_⟩) ?_ ?_
                            rotate_left
                            · intro w'
                              go_simp
                              with_reducible rfl
                            rotate_left
                            · simp only [Act.put, List.setIfInBounds_toArray, List.set_cons_zero, List.set_cons_succ, i64_w, i32_w]
                              rfl
                            refine pure_ (i := 1) (N := some 39) (v := ?_) (a' := ?_) #[true, true, false, false, false, false, false, false, false, false, false, false, false, false, false, false, false, false, false, false, false, false, false, false, false, false, false, false, false] rfl rfl (any_of HT_.out (by kernel_rfl)) (fun _ _ _ h => h) (Or.inl ⟨by rfl, ?_⟩) ?_ ?_
                            rotate_left
                            · intro w'
                              go_simp
                              with_reducible rfl
                            rotate_left
                            · simp only [Act.put, List.setIfInBounds_toArray, List.set_cons_zero, List.set_cons_succ, i64_w, i32_w]
                              rfl
                            refine pure_ (i := 2) (N := some 40) (v := ?_) (a' := ?_) #[true, true, true, false, false, false, false, false, false, false, false, false, false, false, false, false, false, false, false, false, false, false, false, false, false, false, false, false, false] rfl rfl (any_of HT_.out (by kernel_rfl)) (fun _ _ _ h => h) (Or.inl ⟨by rfl, ?_⟩) ?_ ?_
                            rotate_left
                            · intro w'
                              go_simp
                              with_reducible rfl
                            rotate_left
                            · simp only [Act.put, List.setIfInBounds_toArray, List.set_cons_zero, List.set_cons_succ, i64_w, i32_w]
                              rfl
                            refine pure_ (i := 3) (N := some 41) (v := ?_) (a' := ?_) #[true, true, true, true, false, false, false, false, false, false, false, false, false, false, false, false, false, false, false, false, false, false, false, false, false, false, false, false, false] rfl rfl (any_of HT_.out (by kernel_rfl)) (fun _ _ _ h => h) (Or.inl ⟨by rfl, ?_⟩) ?_ ?_
                            rotate_left
                            · intro w'
                              go_simp
                              with_reducible rfl
                            rotate_left
                            · simp only [Act.put, List.setIfInBounds_toArray, List.set_cons_zero, List.set_cons_succ, i64_w, i32_w]
                              rfl
                            refine pure_ (i := 4) (N := some 42) (v := ?_) (a' := ?_) #[true, true, true, true, true, false, false, false, false, false, false, false, false, false, false, false, false, false, false, false, false, false, false, false, false, false, false, false, false] rfl rfl (any_of HT_.out (by kernel_rfl)) (fun _ _ _ h => h) (Or.inl ⟨by rfl, ?_⟩) ?_ ?_
                            rotate_left
                            · intro w'
                              go_simp
                              with_reducible rfl
                            rotate_left
                            · simp only [Act.put, List.setIfInBounds_toArray, List.set_cons_zero, List.set_cons_succ, i64_w, i32_w]
                              rfl
                            refine pure_ (i := 5) (N := some 43) (v := ?_) (a' := ?_) #[true, true, true, true, true, true, false, false, false, false, false, false, false, false, false, false, false, false, false, false, false, false, false, false, false, false, false, false, false] rfl rfl (any_of HT_.out (by kernel_rfl)) (fun _ _ _ h => h) (Or.inl ⟨by rfl, ?_⟩) ?_ ?_
                            rotate_left
                            · intro w'
                              go_simp
                              with_reducible rfl
                            rotate_left
                            · simp only [Act.put, List.setIfInBounds_toArray, List.set_cons_zero, List.set_cons_succ, i64_w, i32_w]
                              rfl
                            refine pure_ (i := 7) (N := some 45) (v := ?_) (a' := ?_) #[true, true, true, true, true, true, false, true, false, false, false, false, false, false, false, false, false, false, false, false, false, false, false, false, false, false, false, false, false] rfl rfl (any_of HT_.out (by kernel_rfl)) (fun _ _ _ h => h) (Or.inl ⟨by rfl, ?_⟩) ?_ ?_
                            rotate_left
                            · intro w'
                              go_simp
                              with_reducible rfl
                            rotate_left
                            · simp only [Act.put, List.setIfInBounds_toArray, List.set_cons_zero, List.set_cons_succ, i64_w, i32_w]
                              rfl
                            refine pure_ (i := 8) (N := some 46) (v := ?_) (a' := ?_) #[true, true, true, true, true, true, false, true, true, false, false, false, false, false, false, false, false, false, false, false, false, false, false, false, false, false, false, false, false] rfl rfl (any_of HT_.out (by kernel_rfl)) (fun _ _ _ h => h) (Or.inl ⟨by rfl, ?_⟩) ?_ ?_
                            rotate_left
                            · intro w'
                              go_simp
                              with_reducible rfl
                            rotate_left
                            · simp only [Act.put, List.setIfInBounds_toArray, List.set_cons_zero, List.set_cons_succ, i64_w, i32_w]
                              rfl
                            refine pure_ (i := 9) (N := some 47) (v := ?_) (a' := ?_) #[true, true, true, true, true, true, false, true, true, true, false, false, false, false, false, false, false, false, false, false, false, false, false, false, false, false, false, false, false] rfl rfl (any_of HT_.out (by kernel_rfl)) (fun _ _ _ h => h) (Or.inl ⟨by rfl, ?_⟩) ?_ ?_
                            rotate_left
                            · intro w'
                              go_simp
                              with_reducible rfl
                            rotate_left
                            · simp only [Act.put, List.setIfInBounds_toArray, List.set_cons_zero, List.set_cons_succ, i64_w, i32_w]
                              rfl
                            refine pure_ (i := 11) (N := some 49) (v := ?_) (a' := ?_) #[true, true, true, true, true, true, false, true, true, true, false, true, false, false, false, false, false, false, false, false, false, false, false, false, false, false, false, false, false] rfl rfl (any_of HT_.out (by kernel_rfl)) (fun _ _ _ h => h) (Or.inl ⟨by rfl, ?_⟩) ?_ ?_
                            rotate_left
                            · intro w'
                              go_simp
                              with_reducible rfl
                            rotate_left
                            · simp only [Act.put, List.setIfInBounds_toArray, List.set_cons_zero, List.set_cons_succ, i64_w, i32_w]
                              rfl
                            refine pure_ (i := 12) (N := some 50) (v := ?_) (a' := ?_) #[true, true, true, true, true, true, false, true, true, true, false, true, true, false, false, false, false, false, false, false, false, false, false, false, false, false, false, false, false] rfl rfl (any_of HT_.out (by kernel_rfl)) (fun _ _ _ h => h) (Or.inl ⟨by rfl, ?_⟩) ?_ ?_
                            rotate_left
                            · intro w'
                              go_simp
                              with_reducible rfl
                            rotate_left
                            · simp only [Act.put, List.setIfInBounds_toArray, List.set_cons_zero, List.set_cons_succ, i64_w, i32_w]
                              rfl
                            refine pure_ (i := 13) (N := some 51) (v := ?_) (a' := ?_) #[true, true, true, true, true, true, false, true, true, true, false, true, true, true, false, false, false, false, false, false, false, false, false, false, false, false, false, false, false] rfl rfl (any_of HT_.out (by kernel_rfl)) (fun _ _ _ h => h) (Or.inl ⟨by rfl, ?_⟩) ?_ ?_
                            rotate_left
                            · intro w'
                              go_simp
                              with_reducible rfl
                            rotate_left
                            · simp only [Act.put, List.setIfInBounds_toArray, List.set_cons_zero, List.set_cons_succ, i64_w, i32_w]
                              rfl
                            refine pure_ (i := 15) (N := some 53) (v := ?_) (a' := ?_) #[true, true, true, true, true, true, false, true, true, true, false, true, true, true, false, true, false, false, false, false, false, false, false, false, false, false, false, false, false] rfl rfl (any_of HT_.out (by kernel_rfl)) (fun _ _ _ h => h) (Or.inl ⟨by rfl, ?_⟩) ?_ ?_
                            rotate_left
                            · intro w'
                              go_simp
                              with_reducible rfl
                            rotate_left
                            · simp only [Act.put, List.setIfInBounds_toArray, List.set_cons_zero, List.set_cons_succ, i64_w, i32_w]
                              rfl
                            refine pure_ (i := 16) (N := some 54) (v := ?_) (a' := ?_) #[true, true, true, true, true, true, false, true, true, true, false, true, true, true, false, true, true, false, false, false, false, false, false, false, false, false, false, false, false] rfl rfl (any_of HT_.out (by kernel_rfl)) (fun _ _ _ h => h) (Or.inl ⟨by rfl, ?_⟩) ?_ ?_
                            rotate_left
                            · intro w'
                              go_simp
                              with_reducible rfl
                            rotate_left
                            · simp only [Act.put, List.setIfInBounds_toArray, List.set_cons_zero, List.set_cons_succ, i64_w, i32_w]
                              rfl
                            refine pure_ (i := 17) (N := some 55) (v := ?_) (a' := ?_) #[true, true, true, true, true, true, false, true, true, true, false, true, true, true, false, true, true, true, false, false, false, false, false, false, false, false, false, false, false] rfl rfl (any_of HT_.out (by kernel_rfl)) (fun _ _ _ h => h) (Or.inl ⟨by rfl, ?_⟩) ?_ ?_
                            rotate_left
                            · intro w'
                              go_simp
                              with_reducible rfl
                            rotate_left
                            · simp only [Act.put, List.setIfInBounds_toArray, List.set_cons_zero, List.set_cons_succ, i64_w, i32_w]
                              rfl
                            refine pure_ (i := 19) (N := some 57) (v := ?_) (a' := ?_) #[true, true, true, true, true, true, false, true, true, true, false, true, true, true, false, true, true, true, false, true, false, false, false, false, false, false, false, false, false] rfl rfl (any_of HT_.out (by kernel_rfl)) (fun _ _ _ h => h) (Or.inl ⟨by rfl, ?_⟩) ?_ ?_
                            rotate_left
                            · intro w'
                              go_simp
                              with_reducible rfl
                            rotate_left
                            · simp only [Act.put, List.setIfInBounds_toArray, List.set_cons_zero, List.set_cons_succ, i64_w, i32_w]
                              rfl
                            refine pure_ (i := 20) (N := some 58) (v := ?_) (a' := ?_) #[true, true, true, true, true, true, false, true, true, true, false, true, true, true, false, true, true, true, false, true, true, false, false, false, false, false, false, false, false] rfl rfl (any_of HT_.out (by kernel_rfl)) (fun _ _ _ h => h) (Or.inl ⟨by rfl, ?_⟩) ?_ ?_
                            rotate_left
                            · intro w'
                              go_simp
                              with_reducible rfl
                            rotate_left
                            · simp only [Act.put, List.setIfInBounds_toArray, List.set_cons_zero, List.set_cons_succ, i64_w, i32_w]
                              rfl
                            refine pure_ (i := 21) (N := some 59) (v := ?_) (a' := ?_) #[true, true, true, true, true, true, false, true, true, true, false, true, true, true, false, true, true, true, false, true, true, true, false, false, false, false, false, false, false] rfl rfl (any_of HT_.out (by kernel_rfl)) (fun _ _ _ h => h) (Or.inl ⟨by rfl, ?_⟩) ?_ ?_
                            rotate_left
                            · intro w'
                              go_simp
                              with_reducible rfl
                            rotate_left
                            · simp only [Act.put, List.setIfInBounds_toArray, List.set_cons_zero, List.set_cons_succ, i64_w, i32_w]
                              rfl
                            refine take_ (i := 6) (N := some 44) (v := ?_) (a' := ?_) #[true, true, true, true, true, true, true, true, true, true, false, true, true, true, false, true, true, true, false, true, true, true, false, false, false, false, false, false, false] rfl rfl (take_ofW HT_.out HW_.out (by kernel_rfl)) (fun _ _ _ h => h) (Or.inl ⟨by rfl, ?_⟩) hHeld ?_ ?_
                            rotate_left
                            · rintro w' ⟨s0, s1, s2, s3, s4, s5, s6, s7, s8, s9, s10, s11, s12, s13, s14, s15, s16, s17, s18, s19, s20, s21, s22, s23, s24, s25, s26, s27, s28, s29, s30, s31, s32, s33, s34, s35, s36, s37, s38, s39, s40, s41, s42, s43, s44⟩
                              go_simp
                              with_reducible rfl
                            rotate_left
                            · simp only [Act.put, List.setIfInBounds_toArray, List.set_cons_zero, List.set_cons_succ, i64_w, i32_w]
                              rfl
                            refine take_ (i := 10) (N := some 48) (v := ?_) (a' := ?_) #[true, true, true, true, true, true, true, true, true, true, true, true, true, true, false, true, true, true, false, true, true, true, false, false, false, false, false, false, false] rfl rfl (take_ofW HT_.out HW_.out (by kernel_rfl)) (fun _ _ _ h => h) (Or.inl ⟨by rfl, ?_⟩) hHeld ?_ ?_
                            rotate_left
                            · rintro w' ⟨s0, s1, s2, s3, s4, s5, s6, s7, s8, s9, s10, s11, s12, s13, s14, s15, s16, s17, s18, s19, s20, s21, s22, s23, s24, s25, s26, s27, s28, s29, s30, s31, s32, s33, s34, s35, s36, s37, s38, s39, s40, s41, s42, s43, s44⟩
                              go_simp
                              with_reducible rfl
                            rotate_left
                            · simp only [Act.put, List.setIfInBounds_toArray, List.set_cons_zero, List.set_cons_succ, i64_w, i32_w]
                              rfl
                            refine take_ (i := 14) (N := some 52) (v := ?_) (a' := ?_) #[true, true, true, true, true, true, true, true, true, true, true, true, true, true, true, true, true, true, false, true, true, true, false, false, false, false, false, false, false] rfl rfl (take_ofW HT_.out HW_.out (by kernel_rfl)) (fun _ _ _ h => h) (Or.inl ⟨by rfl, ?_⟩) hHeld ?_ ?_
                            rotate_left
                            · rintro w' ⟨s0, s1, s2, s3, s4, s5, s6, s7, s8, s9, s10, s11, s12, s13, s14, s15, s16, s17, s18, s19, s20, s21, s22, s23, s24, s25, s26, s27, s28, s29, s30, s31, s32, s33, s34, s35, s36, s37, s38, s39, s40, s41, s42, s43, s44⟩
                              go_simp
                              with_reducible rfl
                            rotate_left
                            · simp only [Act.put, List.setIfInBounds_toArray, List.set_cons_zero, List.set_cons_succ, i64_w, i32_w]
                              rfl
                            refine take_ (i := 18) (N := some 56) (v := ?_) (a' := ?_) #[true, true, true, true, true, true, true, true, true, true, true, true, true, true, true, true, true, true, true, true, true, true, false, false, false, false, false, false, false] rfl rfl (take_ofW HT_.out HW_.out (by kernel_rfl)) (fun _ _ _ h => h) (Or.inl ⟨by rfl, ?_⟩) hHeld ?_ ?_
                            rotate_left
                            · rintro w' ⟨s0, s1, s2, s3, s4, s5, s6, s7, s8, s9, s10, s11, s12, s13, s14, s15, s16, s17, s18, s19, s20, s21, s22, s23, s24, s25, s26, s27, s28, s29, s30, s31, s32, s33, s34, s35, s36, s37, s38, s39, s40, s41, s42, s43, s44⟩
                              go_simp
                              with_reducible rfl
                            rotate_left
                            · simp only [Act.put, List.setIfInBounds_toArray, List.set_cons_zero, List.set_cons_succ, i64_w, i32_w]
                              rfl
                            refine take_ (i := 22) (N := some 60) (v := ?_) (a' := ?_) #[true, true, true, true, true, true, true, true, true, true, true, true, true, true, true, true, true, true, true, true, true, true, true, false, false, false, false, false, false] rfl rfl (take_ofW HT_.out HW_.out (by kernel_rfl)) (fun _ _ _ h => h) (Or.inl ⟨by rfl, ?_⟩) hHeld ?_ ?_
                            rotate_left
                            · rintro w' ⟨s0, s1, s2, s3, s4, s5, s6, s7, s8, s9, s10, s11, s12, s13, s14, s15, s16, s17, s18, s19, s20, s21, s22, s23, s24, s25, s26, s27, s28, s29, s30, s31, s32, s33, s34, s35, s36, s37, s38, s39, s40, s41, s42, s43, s44⟩
                              go_simp
                              with_reducible rfl
                            rotate_left
                            · simp only [Act.put, List.setIfInBounds_toArray, List.set_cons_zero, List.set_cons_succ, i64_w, i32_w]
                              rfl
                            refine one_ (i := 23) (N := some 61) #[true, true, true, true, true, true, true, true, true, true, true, true, true, true, true, true, true, true, true, true, true, true, true, true, false, false, false, false, false] rfl rfl (one_of HT_.out (by kernel_rfl)) (by decide) (fun K hK => ?_)
                            refine goes_ Try.func78 (by kernel_rfl) rfl #[.slice (some ad260) y267.length c0, .int .i64 ((rd_T71 l0 x12_1).f0), .int .i64 ((rd_T71 l0 x12_1).f2), .int .i64 ((rd_T71 l0 x12_1).f3), .int .i64 ((rd_T71 l0 x12_1).f4), .int .i64 ((rd_T71 l0 x12_1).f5)] (by rfl) rfl rfl (by (try simp only [List.map_toArray, List.map_cons, List.map_nil]); first | done | rfl | (simp only [List.length_drop, List.length_take]; rfl)) ?_
                            with_reducible refine (impl_find.calls kj5 _ _ y267 ((rd_T71 l0 x12_1).f0) ((rd_T71 l0 x12_1).f2) ((rd_T71 l0 x12_1).f3) ((rd_T71 l0 x12_1).f4) ((rd_T71 l0 x12_1).f5) t276 t277 _ ?side1 ?side2 A19.out).mono ?_
                            (case side1 => repeat (first | exact (Kd.C_below HR270.out HB.out) | (with_reducible refine Kd.C_alloc ?_ _) | (with_reducible refine Kd.C_drewN ?_ _) | (with_reducible refine Kd.C_drew ?_)))
                            (case side2 => exact HC270.out)
                            rintro e w23 ⟨rfl, hb⟩
                            refine ⟨_, rfl, ?_⟩
                            have n0_ := Aside0.mk (below_step (by repeat (first | (with_reducible first | exact HB.out | apply below_alloc | apply pw_below_drewN | apply below_drew1) | exact HB.out)) hb)
                            clear HB
                            have HB := n0_
                            clear n0_
                            (try clear hb)
                            (try clear hb2)
                            (try clear hk)
                            (try clear hi)
                            refine hK.out _ _ ⟨((HB.out.cell (World.block_lt_of_cell? w _ hw271_0)).trans hw271_0), ((HB.out.cell (World.block_lt_of_cell? w _ hw271_1)).trans hw271_1), ((HB.out.cell (World.block_lt_of_cell? w _ hw271_2)).trans hw271_2), ((HB.out.cell (World.block_lt_of_cell? w _ hw271_3)).trans hw271_3), ((HB.out.cell (World.block_lt_of_cell? w _ hw271_4)).trans hw271_4), ((HB.out.cell (World.block_lt_of_cell? w _ hw271_5)).trans hw271_5), ((HB.out.cell (World.block_lt_of_cell? w _ hw271_6)).trans hw271_6), ((HB.out.cell (World.block_lt_of_cell? w _ hw271_7)).trans hw271_7), ((HB.out.cell (World.block_lt_of_cell? w _ hw271_8)).trans hw271_8), ((HB.out.cell (World.block_lt_of_cell? w _ hw272_0)).trans hw272_0), ((HB.out.cell (World.block_lt_of_cell? w _ hw272_1)).trans hw272_1), ((HB.out.cell (World.block_lt_of_cell? w _ hw272_2)).trans hw272_2), ((HB.out.cell (World.block_lt_of_cell? w _ hw272_3)).trans hw272_3), ((HB.out.cell (World.block_lt_of_cell? w _ hw272_4)).trans hw272_4), ((HB.out.cell (World.block_lt_of_cell? w _ hw272_5)).trans hw272_5), ((HB.out.cell (World.block_lt_of_cell? w _ hw272_6)).trans hw272_6), ((HB.out.cell (World.block_lt_of_cell? w _ hw272_7)).trans hw272_7), ((HB.out.cell (World.block_lt_of_cell? w _ hw272_8)).trans hw272_8), ((HB.out.cell (World.block_lt_of_cell? w _ hw273_0)).trans hw273_0), ((HB.out.cell (World.block_lt_of_cell? w _ hw273_1)).trans hw273_1), ((HB.out.cell (World.block_lt_of_cell? w _ hw273_2)).trans hw273_2), ((HB.out.cell (World.block_lt_of_cell? w _ hw273_3)).trans hw273_3), ((HB.out.cell (World.block_lt_of_cell? w _ hw273_4)).trans hw273_4), ((HB.out.cell (World.block_lt_of_cell? w _ hw273_5)).trans hw273_5), ((HB.out.cell (World.block_lt_of_cell? w _ hw273_6)).trans hw273_6), ((HB.out.cell (World.block_lt_of_cell? w _ hw273_7)).trans hw273_7), ((HB.out.cell (World.block_lt_of_cell? w _ hw273_8)).trans hw273_8), ((HB.out.cell (World.block_lt_of_cell? w _ hw274_0)).trans hw274_0), ((HB.out.cell (World.block_lt_of_cell? w _ hw274_1)).trans hw274_1), ((HB.out.cell (World.block_lt_of_cell? w _ hw274_2)).trans hw274_2), ((HB.out.cell (World.block_lt_of_cell? w _ hw274_3)).trans hw274_3), ((HB.out.cell (World.block_lt_of_cell? w _ hw274_4)).trans hw274_4), ((HB.out.cell (World.block_lt_of_cell? w _ hw274_5)).trans hw274_5), ((HB.out.cell (World.block_lt_of_cell? w _ hw274_6)).trans hw274_6), ((HB.out.cell (World.block_lt_of_cell? w _ hw274_7)).trans hw274_7), ((HB.out.cell (World.block_lt_of_cell? w _ hw274_8)).trans hw274_8), ((HB.out.cell (World.block_lt_of_cell? w _ hw275_0)).trans hw275_0), ((HB.out.cell (World.block_lt_of_cell? w _ hw275_1)).trans hw275_1), ((HB.out.cell (World.block_lt_of_cell? w _ hw275_2)).trans hw275_2), ((HB.out.cell (World.block_lt_of_cell? w _ hw275_3)).trans hw275_3), ((HB.out.cell (World.block_lt_of_cell? w _ hw275_4)).trans hw275_4), ((HB.out.cell (World.block_lt_of_cell? w _ hw275_5)).trans hw275_5), ((HB.out.cell (World.block_lt_of_cell? w _ hw275_6)).trans hw275_6), ((HB.out.cell (World.block_lt_of_cell? w _ hw275_7)).trans hw275_7), ((HB.out.cell (World.block_lt_of_cell? w _ hw275_8)).trans hw275_8)⟩ (fun hHeld => ?_)
                            clear hK K
                            refine norm_ (a' := ?_) ?_ ?_
                            rotate_left
                            · show Act.put _ (some 61) _ = _
                              simp only [Act.put, List.setIfInBounds_toArray, List.set_cons_zero, List.set_cons_succ, i64_w, i32_w]
                              rfl
                            refine pure_ (i := 24) (N := some 37) (v := ?_) (a' := ?_) #[true, true, true, true, true, true, true, true, true, true, true, true, true, true, true, true, true, true, true, true, true, true, true, true, true, false, false, false, false] rfl rfl (any_of HT_.out (by kernel_rfl)) (fun _ _ _ h => h) (Or.inl ⟨by rfl, ?_⟩) ?_ ?_
                            rotate_left
                            · intro w'
                              go_simp
                              with_reducible rfl
                            rotate_left
                            · simp only [Act.put, List.setIfInBounds_toArray, List.set_cons_zero, List.set_cons_succ, i64_w, i32_w]
                              rfl
                            refine pure_ (i := 25) (N := some 62) (v := ?_) (a' := ?_) #[true, true, true, true, true, true, true, true, true, true, true, true, true, true, true, true, true, true, true, true, true, true, true, true, true, true, false, false, false] rfl rfl (any_of HT_.out (by kernel_rfl)) (fun _ _ _ h => h) (Or.inl ⟨by rfl, ?_⟩) ?_ ?_
                            rotate_left
                            · intro w'
                              go_simp
                              with_reducible rfl
                            rotate_left
                            · simp only [Act.put, List.setIfInBounds_toArray, List.set_cons_zero, List.set_cons_succ, i64_w, i32_w]
                              rfl
                            refine pure_ (i := 26) (N := some 63) (v := ?_) (a' := ?_) #[true, true, true, true, true, true, true, true, true, true, true, true, true, true, true, true, true, true, true, true, true, true, true, true, true, true, true, false, false] rfl rfl (any_of HT_.out (by kernel_rfl)) (fun _ _ _ h => h) (Or.inl ⟨by rfl, ?_⟩) ?_ ?_
                            rotate_left
                            · intro w'
                              go_simp
                              with_reducible rfl
                            rotate_left
                            · simp only [Act.put, List.setIfInBounds_toArray, List.set_cons_zero, List.set_cons_succ, i64_w, i32_w]
                              rfl
                            refine pure_ (i := 27) (N := some 5) (v := ?_) (a' := ?_) #[true, true, true, true, true, true, true, true, true, true, true, true, true, true, true, true, true, true, true, true, true, true, true, true, true, true, true, true, false] rfl rfl (any_of HT_.out (by kernel_rfl)) (fun _ _ _ h => h) (Or.inl ⟨by rfl, ?_⟩) ?_ ?_
                            rotate_left
                            · intro w'
                              go_simp
                              with_reducible rfl
                            rotate_left
                            · simp only [Act.put, List.setIfInBounds_toArray, List.set_cons_zero, List.set_cons_succ, i64_w, i32_w]
                              rfl
                            refine pure_ (i := 28) (N := some 6) (v := ?_) (a' := ?_) #[true, true, true, true, true, true, true, true, true, true, true, true, true, true, true, true, true, true, true, true, true, true, true, true, true, true, true, true, true] rfl rfl (any_of HT_.out (by kernel_rfl)) (fun _ _ _ h => h) (Or.inl ⟨by rfl, ?_⟩) ?_ ?_
                            rotate_left
                            · intro w'
                              go_simp
                              with_reducible rfl
                            rotate_left
                            · simp only [Act.put, List.setIfInBounds_toArray, List.set_cons_zero, List.set_cons_succ, i64_w, i32_w]
                              rfl
                            refine done_ (done_of HT_.out (by kernel_rfl)) ?_
                            try go_wp2
                            go_ret
                            exact ⟨by first | rfl | (simp [errW_none, errW_some] <;> rfl) | (simp [*, errW_none, errW_some] <;> rfl), by repeat (first | (with_reducible first | exact HB.out | apply below_alloc | apply pw_below_drewN | apply below_drew1) | exact HB.out)⟩
                          · rw [if_neg c20] at H
                            have c20b0 : decide (0 ≤ t276) = false := decide_eq_false c20
                            clear c20
                            have H' := Aside0.mk H
                            clear H
                            try go_wp2
                            have n0_ := Aside0.mk (below_drew1 HB.out)
                            clear HB
                            have HB := n0_
                            clear n0_
                            have q25 : (x12_1 : Int) ≤ ((l0.length : Int) : Int) := of_decide_eq_true (by first | (with_reducible assumption) | assumption)
                            obtain ⟨i025, hi025, _, hsz25, _⟩ := info_parts info71
                            have hroom25 : l0.length ≤ c0 := HC0.out
                            have hC25 : Kd.C k71 _ (some ad260) l0.length l0 := HR0.out
                            have hcut25 := cut_to (P := Try.prog) 40 71 .i64 Try.underlying40 hi025 (some ad260) l0.length c0 x12_1 (of_decide_eq_true (by first | (with_reducible assumption) | assumption)) q25 hroom25
                            have hr25 := Kd.C_take (m := (x12_1 : Int).toNat) hC25 (by omega)
                            have hy25 : y267.length = (x12_1 : Int).toNat := (by rw [Ny267.out, List.length_take]; omega)
                            rw [← Ny267.out] at hr25
                            rw [← hy25] at hcut25
                            have HR270 := Aside0.mk hr25
                            have HC270 := Aside0.mk (show y267.length ≤ c0 from by omega)
                            clear hr25 hC25 hroom25 hi025 hsz25
                            have KY25 := Aside0.mk hy25
                            clear hy25
                            replace q25 := eq_true q25
                            have p271 : 0 ≤ (x12_1 : Int) := of_decide_eq_true (by first | (with_reducible assumption) | assumption)
                            have q271 : x12_1 < (l0.length : Int) := of_decide_eq_true (by first | (with_reducible assumption) | assumption)
                            obtain ⟨ad271, e271, hx271_0, hx271_1, hx271_2, hx271_3, hx271_4, hx271_5, hx271_6, hx271_7, hx271_8⟩ := at_T71 HR0.out x12_1 p271 q271
                            have hw271_8 := hx271_8
                            have hw271_7 := hx271_7
                            have hw271_6 := hx271_6
                            have hw271_5 := hx271_5
                            have hw271_4 := hx271_4
                            have hw271_3 := hx271_3
                            have hw271_2 := hx271_2
                            have hw271_1 := hx271_1
                            have hw271_0 := hx271_0
                            obtain rfl : ad260 = ad271 := (by injection e271)
                            replace hx271_0 := (HB.out.cell (World.block_lt_of_cell? w _ hx271_0)).trans hx271_0
                            replace hx271_1 := (HB.out.cell (World.block_lt_of_cell? w _ hx271_1)).trans hx271_1
                            replace hx271_2 := (HB.out.cell (World.block_lt_of_cell? w _ hx271_2)).trans hx271_2
                            replace hx271_3 := (HB.out.cell (World.block_lt_of_cell? w _ hx271_3)).trans hx271_3
                            replace hx271_4 := (HB.out.cell (World.block_lt_of_cell? w _ hx271_4)).trans hx271_4
                            replace hx271_5 := (HB.out.cell (World.block_lt_of_cell? w _ hx271_5)).trans hx271_5
                            replace hx271_6 := (HB.out.cell (World.block_lt_of_cell? w _ hx271_6)).trans hx271_6
                            replace hx271_7 := (HB.out.cell (World.block_lt_of_cell? w _ hx271_7)).trans hx271_7
                            replace hx271_8 := (HB.out.cell (World.block_lt_of_cell? w _ hx271_8)).trans hx271_8
                            replace p271 := eq_true p271
                            replace q271 := eq_true q271
                            have p272 : 0 ≤ (x12_1 : Int) := of_decide_eq_true (by first | (with_reducible assumption) | assumption)
                            have q272 : x12_1 < (l0.length : Int) := of_decide_eq_true (by first | (with_reducible assumption) | assumption)
                            obtain ⟨ad272, e272, hx272_0, hx272_1, hx272_2, hx272_3, hx272_4, hx272_5, hx272_6, hx272_7, hx272_8⟩ := at_T71 HR0.out x12_1 p272 q272
                            have hw272_8 := hx272_8
                            have hw272_7 := hx272_7
                            have hw272_6 := hx272_6
                            have hw272_5 := hx272_5
                            have hw272_4 := hx272_4
                            have hw272_3 := hx272_3
                            have hw272_2 := hx272_2
                            have hw272_1 := hx272_1
                            have hw272_0 := hx272_0
                            obtain rfl : ad260 = ad272 := (by injection e272)
                            replace hx272_0 := (HB.out.cell (World.block_lt_of_cell? w _ hx272_0)).trans hx272_0
                            replace hx272_1 := (HB.out.cell (World.block_lt_of_cell? w _ hx272_1)).trans hx272_1
                            replace hx272_2 := (HB.out.cell (World.block_lt_of_cell? w _ hx272_2)).trans hx272_2
                            replace hx272_3 := (HB.out.cell (World.block_lt_of_cell? w _ hx272_3)).trans hx272_3
                            replace hx272_4 := (HB.out.cell (World.block_lt_of_cell? w _ hx272_4)).trans hx272_4
                            replace hx272_5 := (HB.out.cell (World.block_lt_of_cell? w _ hx272_5)).trans hx272_5
                            replace hx272_6 := (HB.out.cell (World.block_lt_of_cell? w _ hx272_6)).trans hx272_6
                            replace hx272_7 := (HB.out.cell (World.block_lt_of_cell? w _ hx272_7)).trans hx272_7
                            replace hx272_8 := (HB.out.cell (World.block_lt_of_cell? w _ hx272_8)).trans hx272_8
                            replace p272 := eq_true p272
                            replace q272 := eq_true q272
                            have p273 : 0 ≤ (x12_1 : Int) := of_decide_eq_true (by first | (with_reducible assumption) | assumption)
                            have q273 : x12_1 < (l0.length : Int) := of_decide_eq_true (by first | (with_reducible assumption) | assumption)
                            obtain ⟨ad273, e273, hx273_0, hx273_1, hx273_2, hx273_3, hx273_4, hx273_5, hx273_6, hx273_7, hx273_8⟩ := at_T71 HR0.out x12_1 p273 q273
                            have hw273_8 := hx273_8
                            have hw273_7 := hx273_7
                            have hw273_6 := hx273_6
                            have hw273_5 := hx273_5
                            have hw273_4 := hx273_4
                            have hw273_3 := hx273_3
                            have hw273_2 := hx273_2
                            have hw273_1 := hx273_1
                            have hw273_0 := hx273_0
                            obtain rfl : ad260 = ad273 := (by injection e273)
                            replace hx273_0 := (HB.out.cell (World.block_lt_of_cell? w _ hx273_0)).trans hx273_0
                            replace hx273_1 := (HB.out.cell (World.block_lt_of_cell? w _ hx273_1)).trans hx273_1
                            replace hx273_2 := (HB.out.cell (World.block_lt_of_cell? w _ hx273_2)).trans hx273_2
                            replace hx273_3 := (HB.out.cell (World.block_lt_of_cell? w _ hx273_3)).trans hx273_3
                            replace hx273_4 := (HB.out.cell (World.block_lt_of_cell? w _ hx273_4)).trans hx273_4
                            replace hx273_5 := (HB.out.cell (World.block_lt_of_cell? w _ hx273_5)).trans hx273_5
                            replace hx273_6 := (HB.out.cell (World.block_lt_of_cell? w _ hx273_6)).trans hx273_6
                            replace hx273_7 := (HB.out.cell (World.block_lt_of_cell? w _ hx273_7)).trans hx273_7
                            replace hx273_8 := (HB.out.cell (World.block_lt_of_cell? w _ hx273_8)).trans hx273_8
                            replace p273 := eq_true p273
                            replace q273 := eq_true q273
                            have p274 : 0 ≤ (x12_1 : Int) := of_decide_eq_true (by first | (with_reducible assumption) | assumption)
                            have q274 : x12_1 < (l0.length : Int) := of_decide_eq_true (by first | (with_reducible assumption) | assumption)
                            obtain ⟨ad274, e274, hx274_0, hx274_1, hx274_2, hx274_3, hx274_4, hx274_5, hx274_6, hx274_7, hx274_8⟩ := at_T71 HR0.out x12_1 p274 q274
                            have hw274_8 := hx274_8
                            have hw274_7 := hx274_7
                            have hw274_6 := hx274_6
                            have hw274_5 := hx274_5
                            have hw274_4 := hx274_4
                            have hw274_3 := hx274_3
                            have hw274_2 := hx274_2
                            have hw274_1 := hx274_1
                            have hw274_0 := hx274_0
                            obtain rfl : ad260 = ad274 := (by injection e274)
                            replace hx274_0 := (HB.out.cell (World.block_lt_of_cell? w _ hx274_0)).trans hx274_0
                            replace hx274_1 := (HB.out.cell (World.block_lt_of_cell? w _ hx274_1)).trans hx274_1
                            replace hx274_2 := (HB.out.cell (World.block_lt_of_cell? w _ hx274_2)).trans hx274_2
                            replace hx274_3 := (HB.out.cell (World.block_lt_of_cell? w _ hx274_3)).trans hx274_3
                            replace hx274_4 := (HB.out.cell (World.block_lt_of_cell? w _ hx274_4)).trans hx274_4
                            replace hx274_5 := (HB.out.cell (World.block_lt_of_cell? w _ hx274_5)).trans hx274_5
                            replace hx274_6 := (HB.out.cell (World.block_lt_of_cell? w _ hx274_6)).trans hx274_6
                            replace hx274_7 := (HB.out.cell (World.block_lt_of_cell? w _ hx274_7)).trans hx274_7
                            replace hx274_8 := (HB.out.cell (World.block_lt_of_cell? w _ hx274_8)).trans hx274_8
                            replace p274 := eq_true p274
                            replace q274 := eq_true q274
                            have p275 : 0 ≤ (x12_1 : Int) := of_decide_eq_true (by first | (with_reducible assumption) | assumption)
                            have q275 : x12_1 < (l0.length : Int) := of_decide_eq_true (by first | (with_reducible assumption) | assumption)
                            obtain ⟨ad275, e275, hx275_0, hx275_1, hx275_2, hx275_3, hx275_4, hx275_5, hx275_6, hx275_7, hx275_8⟩ := at_T71 HR0.out x12_1 p275 q275
                            have hw275_8 := hx275_8
                            have hw275_7 := hx275_7
                            have hw275_6 := hx275_6
                            have hw275_5 := hx275_5
                            have hw275_4 := hx275_4
                            have hw275_3 := hx275_3
                            have hw275_2 := hx275_2
                            have hw275_1 := hx275_1
                            have hw275_0 := hx275_0
                            obtain rfl : ad260 = ad275 := (by injection e275)
                            replace hx275_0 := (HB.out.cell (World.block_lt_of_cell? w _ hx275_0)).trans hx275_0
                            replace hx275_1 := (HB.out.cell (World.block_lt_of_cell? w _ hx275_1)).trans hx275_1
                            replace hx275_2 := (HB.out.cell (World.block_lt_of_cell? w _ hx275_2)).trans hx275_2
                            replace hx275_3 := (HB.out.cell (World.block_lt_of_cell? w _ hx275_3)).trans hx275_3
                            replace hx275_4 := (HB.out.cell (World.block_lt_of_cell? w _ hx275_4)).trans hx275_4
                            replace hx275_5 := (HB.out.cell (World.block_lt_of_cell? w _ hx275_5)).trans hx275_5
                            replace hx275_6 := (HB.out.cell (World.block_lt_of_cell? w _ hx275_6)).trans hx275_6
                            replace hx275_7 := (HB.out.cell (World.block_lt_of_cell? w _ hx275_7)).trans hx275_7
                            replace hx275_8 := (HB.out.cell (World.block_lt_of_cell? w _ hx275_8)).trans hx275_8
                            replace p275 := eq_true p275
                            replace q275 := eq_true q275
                            refine start_ (n := 29) (S := fun w' => w'.cell? (ad260.add ((x12_1).toNat * 9)) = some (.int .i64 ((rd_T71 l0 x12_1).f0)) ∧ w'.cell? ⟨(ad260.add ((x12_1).toNat * 9)).block, (ad260.add ((x12_1).toNat * 9)).off + 1, none⟩ = some (.string ((rd_T71 l0 x12_1).f1)) ∧ w'.cell? ⟨(ad260.add ((x12_1).toNat * 9)).block, (ad260.add ((x12_1).toNat * 9)).off + 2, none⟩ = some (.int .i64 ((rd_T71 l0 x12_1).f2)) ∧ w'.cell? ⟨(ad260.add ((x12_1).toNat * 9)).block, (ad260.add ((x12_1).toNat * 9)).off + 3, none⟩ = some (.int .i64 ((rd_T71 l0 x12_1).f3)) ∧ w'.cell? ⟨(ad260.add ((x12_1).toNat * 9)).block, (ad260.add ((x12_1).toNat * 9)).off + 4, none⟩ = some (.int .i64 ((rd_T71 l0 x12_1).f4)) ∧ w'.cell? ⟨(ad260.add ((x12_1).toNat * 9)).block, (ad260.add ((x12_1).toNat * 9)).off + 5, none⟩ = some (.int .i64 ((rd_T71 l0 x12_1).f5)) ∧ w'.cell? ⟨(ad260.add ((x12_1).toNat * 9)).block, (ad260.add ((x12_1).toNat * 9)).off + 6, none⟩ = some (.int .i64 ((rd_T71 l0 x12_1).f6)) ∧ w'.cell? ⟨(ad260.add ((x12_1).toNat * 9)).block, (ad260.add ((x12_1).toNat * 9)).off + 7, none⟩ = some (.int .i64 ((rd_T71 l0 x12_1).f7)) ∧ w'.cell? ⟨(ad260.add ((x12_1).toNat * 9)).block, (ad260.add ((x12_1).toNat * 9)).off + 8, none⟩ = some (.int .i64 ((rd_T71 l0 x12_1).f8)) ∧ w'.cell? (ad260.add ((x12_1).toNat * 9)) = some (.int .i64 ((rd_T71 l0 x12_1).f0)) ∧ w'.cell? ⟨(ad260.add ((x12_1).toNat * 9)).block, (ad260.add ((x12_1).toNat * 9)).off + 1, none⟩ = some (.string ((rd_T71 l0 x12_1).f1)) ∧ w'.cell? ⟨(ad260.add ((x12_1).toNat * 9)).block, (ad260.add ((x12_1).toNat * 9)).off + 2, none⟩ = some (.int .i64 ((rd_T71 l0 x12_1).f2)) ∧ w'.cell? ⟨(ad260.add ((x12_1).toNat * 9)).block, (ad260.add ((x12_1).toNat * 9)).off + 3, none⟩ = some (.int .i64 ((rd_T71 l0 x12_1).f3)) ∧ w'.cell? ⟨(ad260.add ((x12_1).toNat * 9)).block, (ad260.add ((x12_1).toNat * 9)).off + 4, none⟩ = some (.int .i64 ((rd_T71 l0 x12_1).f4)) ∧ w'.cell? ⟨(ad260.add ((x12_1).toNat * 9)).block, (ad260.add ((x12_1).toNat * 9)).off + 5, none⟩ = some (.int .i64 ((rd_T71 l0 x12_1).f5)) ∧ w'.cell? ⟨(ad260.add ((x12_1).toNat * 9)).block, (ad260.add ((x12_1).toNat * 9)).off + 6, none⟩ = some (.int .i64 ((rd_T71 l0 x12_1).f6)) ∧ w'.cell? ⟨(ad260.add ((x12_1).toNat * 9)).block, (ad260.add ((x12_1).toNat * 9)).off + 7, none⟩ = some (.int .i64 ((rd_T71 l0 x12_1).f7)) ∧ w'.cell? ⟨(ad260.add ((x12_1).toNat * 9)).block, (ad260.add ((x12_1).toNat * 9)).off + 8, none⟩ = some (.int .i64 ((rd_T71 l0 x12_1).f8)) ∧ w'.cell? (ad260.add ((x12_1).toNat * 9)) = some (.int .i64 ((rd_T71 l0 x12_1).f0)) ∧ w'.cell? ⟨(ad260.add ((x12_1).toNat * 9)).block, (ad260.add ((x12_1).toNat * 9)).off + 1, none⟩ = some (.string ((rd_T71 l0 x12_1).f1)) ∧ w'.cell? ⟨(ad260.add ((x12_1).toNat * 9)).block, (ad260.add ((x12_1).toNat * 9)).off + 2, none⟩ = some (.int .i64 ((rd_T71 l0 x12_1).f2)) ∧ w'.cell? ⟨(ad260.add ((x12_1).toNat * 9)).block, (ad260.add ((x12_1).toNat * 9)).off + 3, none⟩ = some (.int .i64 ((rd_T71 l0 x12_1).f3)) ∧ w'.cell? ⟨(ad260.add ((x12_1).toNat * 9)).block, (ad260.add ((x12_1).toNat * 9)).off + 4, none⟩ = some (.int .i64 ((rd_T71 l0 x12_1).f4)) ∧ w'.cell? ⟨(ad260.add ((x12_1).toNat * 9)).block, (ad260.add ((x12_1).toNat * 9)).off + 5, none⟩ = some (.int .i64 ((rd_T71 l0 x12_1).f5)) ∧ w'.cell? ⟨(ad260.add ((x12_1).toNat * 9)).block, (ad260.add ((x12_1).toNat * 9)).off + 6, none⟩ = some (.int .i64 ((rd_T71 l0 x12_1).f6)) ∧ w'.cell? ⟨(ad260.add ((x12_1).toNat * 9)).block, (ad260.add ((x12_1).toNat * 9)).off + 7, none⟩ = some (.int .i64 ((rd_T71 l0 x12_1).f7)) ∧ w'.cell? ⟨(ad260.add ((x12_1).toNat * 9)).block, (ad260.add ((x12_1).toNat * 9)).off + 8, none⟩ = some (.int .i64 ((rd_T71 l0 x12_1).f8)) ∧ w'.cell? (ad260.add ((x12_1).toNat * 9)) = some (.int .i64 ((rd_T71 l0 x12_1).f0)) ∧ w'.cell? ⟨(ad260.add ((x12_1).toNat * 9)).block, (ad260.add ((x12_1).toNat * 9)).off + 1, none⟩ = some (.string ((rd_T71 l0 x12_1).f1)) ∧ w'.cell? ⟨(ad260.add ((x12_1).toNat * 9)).block, (ad260.add ((x12_1).toNat * 9)).off + 2, none⟩ = some (.int .i64 ((rd_T71 l0 x12_1).f2)) ∧ w'.cell? ⟨(ad260.add ((x12_1).toNat * 9)).block, (ad260.add ((x12_1).toNat * 9)).off + 3, none⟩ = some (.int .i64 ((rd_T71 l0 x12_1).f3)) ∧ w'.cell? ⟨(ad260.add ((x12_1).toNat * 9)).block, (ad260.add ((x12_1).toNat * 9)).off + 4, none⟩ = some (.int .i64 ((rd_T71 l0 x12_1).f4)) ∧ w'.cell? ⟨(ad260.add ((x12_1).toNat * 9)).block, (ad260.add ((x12_1).toNat * 9)).off + 5, none⟩ = some (.int .i64 ((rd_T71 l0 x12_1).f5)) ∧ w'.cell? ⟨(ad260.add ((x12_1).toNat * 9)).block, (ad260.add ((x12_1).toNat * 9)).off + 6, none⟩ = some (.int .i64 ((rd_T71 l0 x12_1).f6)) ∧ w'.cell? ⟨(ad260.add ((x12_1).toNat * 9)).block, (ad260.add ((x12_1).toNat * 9)).off + 7, none⟩ = some (.int .i64 ((rd_T71 l0 x12_1).f7)) ∧ w'.cell? ⟨(ad260.add ((x12_1).toNat * 9)).block, (ad260.add ((x12_1).toNat * 9)).off + 8, none⟩ = some (.int .i64 ((rd_T71 l0 x12_1).f8)) ∧ w'.cell? (ad260.add ((x12_1).toNat * 9)) = some (.int .i64 ((rd_T71 l0 x12_1).f0)) ∧ w'.cell? ⟨(ad260.add ((x12_1).toNat * 9)).block, (ad260.add ((x12_1).toNat * 9)).off + 1, none⟩ = some (.string ((rd_T71 l0 x12_1).f1)) ∧ w'.cell? ⟨(ad260.add ((x12_1).toNat * 9)).block, (ad260.add ((x12_1).toNat * 9)).off + 2, none⟩ = some (.int .i64 ((rd_T71 l0 x12_1).f2)) ∧ w'.cell? ⟨(ad260.add ((x12_1).toNat * 9)).block, (ad260.add ((x12_1).toNat * 9)).off + 3, none⟩ = some (.int .i64 ((rd_T71 l0 x12_1).f3)) ∧ w'.cell? ⟨(ad260.add ((x12_1).toNat * 9)).block, (ad260.add ((x12_1).toNat * 9)).off + 4, none⟩ = some (.int .i64 ((rd_T71 l0 x12_1).f4)) ∧ w'.cell? ⟨(ad260.add ((x12_1).toNat * 9)).block, (ad260.add ((x12_1).toNat * 9)).off + 5, none⟩ = some (.int .i64 ((rd_T71 l0 x12_1).f5)) ∧ w'.cell? ⟨(ad260.add ((x12_1).toNat * 9)).block, (ad260.add ((x12_1).toNat * 9)).off + 6, none⟩ = some (.int .i64 ((rd_T71 l0 x12_1).f6)) ∧ w'.cell? ⟨(ad260.add ((x12_1).toNat * 9)).block, (ad260.add ((x12_1).toNat * 9)).off + 7, none⟩ = some (.int .i64 ((rd_T71 l0 x12_1).f7)) ∧ w'.cell? ⟨(ad260.add ((x12_1).toNat * 9)).block, (ad260.add ((x12_1).toNat * 9)).off + 8, none⟩ = some (.int .i64 ((rd_T71 l0 x12_1).f8))) (ds := []) #[false, false, false, false, false, false, false, false, false, false, false, false, false, false, false, false, false, false, false, false, false, false, false, false, false, false, false, false, false] (by kernel_rfl) rfl rfl ⟨((HB.out.cell (World.block_lt_of_cell? w _ hw271_0)).trans hw271_0), ((HB.out.cell (World.block_lt_of_cell? w _ hw271_1)).trans hw271_1), ((HB.out.cell (World.block_lt_of_cell? w _ hw271_2)).trans hw271_2), ((HB.out.cell (World.block_lt_of_cell? w _ hw271_3)).trans hw271_3), ((HB.out.cell (World.block_lt_of_cell? w _ hw271_4)).trans hw271_4), ((HB.out.cell (World.block_lt_of_cell? w _ hw271_5)).trans hw271_5), ((HB.out.cell (World.block_lt_of_cell? w _ hw271_6)).trans hw271_6), ((HB.out.cell (World.block_lt_of_cell? w _ hw271_7)).trans hw271_7), ((HB.out.cell (World.block_lt_of_cell? w _ hw271_8)).trans hw271_8), ((HB.out.cell (World.block_lt_of_cell? w _ hw272_0)).trans hw272_0), ((HB.out.cell (World.block_lt_of_cell? w _ hw272_1)).trans hw272_1), ((HB.out.cell (World.block_lt_of_cell? w _ hw272_2)).trans hw272_2), ((HB.out.cell (World.block_lt_of_cell? w _ hw272_3)).trans hw272_3), ((HB.out.cell (World.block_lt_of_cell? w _ hw272_4)).trans hw272_4), ((HB.out.cell (World.block_lt_of_cell? w _ hw272_5)).trans hw272_5), ((HB.out.cell (World.block_lt_of_cell? w _ hw272_6)).trans hw272_6), ((HB.out.cell (World.block_lt_of_cell? w _ hw272_7)).trans hw272_7), ((HB.out.cell (World.block_lt_of_cell? w _ hw272_8)).trans hw272_8), ((HB.out.cell (World.block_lt_of_cell? w _ hw273_0)).trans hw273_0), ((HB.out.cell (World.block_lt_of_cell? w _ hw273_1)).trans hw273_1), ((HB.out.cell (World.block_lt_of_cell? w _ hw273_2)).trans hw273_2), ((HB.out.cell (World.block_lt_of_cell? w _ hw273_3)).trans hw273_3), ((HB.out.cell (World.block_lt_of_cell? w _ hw273_4)).trans hw273_4), ((HB.out.cell (World.block_lt_of_cell? w _ hw273_5)).trans hw273_5), ((HB.out.cell (World.block_lt_of_cell? w _ hw273_6)).trans hw273_6), ((HB.out.cell (World.block_lt_of_cell? w _ hw273_7)).trans hw273_7), ((HB.out.cell (World.block_lt_of_cell? w _ hw273_8)).trans hw273_8), ((HB.out.cell (World.block_lt_of_cell? w _ hw274_0)).trans hw274_0), ((HB.out.cell (World.block_lt_of_cell? w _ hw274_1)).trans hw274_1), ((HB.out.cell (World.block_lt_of_cell? w _ hw274_2)).trans hw274_2), ((HB.out.cell (World.block_lt_of_cell? w _ hw274_3)).trans hw274_3), ((HB.out.cell (World.block_lt_of_cell? w _ hw274_4)).trans hw274_4), ((HB.out.cell (World.block_lt_of_cell? w _ hw274_5)).trans hw274_5), ((HB.out.cell (World.block_lt_of_cell? w _ hw274_6)).trans hw274_6), ((HB.out.cell (World.block_lt_of_cell? w _ hw274_7)).trans hw274_7), ((HB.out.cell (World.block_lt_of_cell? w _ hw274_8)).trans hw274_8), ((HB.out.cell (World.block_lt_of_cell? w _ hw275_0)).trans hw275_0), ((HB.out.cell (World.block_lt_of_cell? w _ hw275_1)).trans hw275_1), ((HB.out.cell (World.block_lt_of_cell? w _ hw275_2)).trans hw275_2), ((HB.out.cell (World.block_lt_of_cell? w _ hw275_3)).trans hw275_3), ((HB.out.cell (World.block_lt_of_cell? w _ hw275_4)).trans hw275_4), ((HB.out.cell (World.block_lt_of_cell? w _ hw275_5)).trans hw275_5), ((HB.out.cell (World.block_lt_of_cell? w _ hw275_6)).trans hw275_6), ((HB.out.cell (World.block_lt_of_cell? w _ hw275_7)).trans hw275_7), ((HB.out.cell (World.block_lt_of_cell? w _ hw275_8)).trans hw275_8)⟩ (fun hHeld => ?_); refine with_tabW impl_FlowsOK.tab9 impl_FlowsOK.bits9 (fun HT_ HW_ => ?_)
                            generalize wc.drew = w24 at HB HR270 hx271_0 hx271_1 hx271_2 hx271_3 hx271_4 hx271_5 hx271_6 hx271_7 hx271_8 hx272_0 hx272_1 hx272_2 hx272_3 hx272_4 hx272_5 hx272_6 hx272_7 hx272_8 hx273_0 hx273_1 hx273_2 hx273_3 hx273_4 hx273_5 hx273_6 hx273_7 hx273_8 hx274_0 hx274_1 hx274_2 hx274_3 hx274_4 hx274_5 hx274_6 hx274_7 hx274_8 hx275_0 hx275_1 hx275_2 hx275_3 hx275_4 hx275_5 hx275_6 hx275_7 hx275_8 hHeld ⊢
                            refine pure_ (i := 0) (N := some 38) (v := ?_) (a' := ?_) #[true, false, false, false, false, false, false, false, false, false, false, false, false, false, false, false, false, false, false, false, false, false, false, false, false, false, false, false, false] rfl rfl (any_of HT_.out (by kernel_rfl)) (fun _ _ _ h => h) (Or.inl ⟨by rfl, ?_⟩) ?_ ?_
                            rotate_left
                            · intro w'
                              go_simp
                              with_reducible rfl
                            rotate_left
                            · simp only [Act.put, List.setIfInBounds_toArray, List.set_cons_zero, List.set_cons_succ, i64_w, i32_w]
                              rfl
                            refine pure_ (i := 1) (N := some 39) (v := ?_) (a' := ?_) #[true, true, false, false, false, false, false, false, false, false, false, false, false, false, false, false, false, false, false, false, false, false, false, false, false, false, false, false, false] rfl rfl (any_of HT_.out (by kernel_rfl)) (fun _ _ _ h => h) (Or.inl ⟨by rfl, ?_⟩) ?_ ?_
                            rotate_left
                            · intro w'
                              go_simp
                              with_reducible rfl
                            rotate_left
                            · simp only [Act.put, List.setIfInBounds_toArray, List.set_cons_zero, List.set_cons_succ, i64_w, i32_w]
                              rfl
                            refine pure_ (i := 2) (N := some 40) (v := ?_) (a' := ?_) #[true, true, true, false, false, false, false, false, false, false, false, false, false, false, false, false, false, false, false, false, false, false, false, false, false, false, false, false, false] rfl rfl (any_of HT_.out (by kernel_rfl)) (fun _ _ _ h => h) (Or.inl ⟨by rfl, ?_⟩) ?_ ?_
                            rotate_left
                            · intro w'
                              go_simp
                              with_reducible rfl
                            rotate_left
                            · simp only [Act.put, List.setIfInBounds_toArray, List.set_cons_zero, List.set_cons_succ, i64_w, i32_w]
                              rfl
                            refine pure_ (i := 3) (N := some 41) (v := ?_) (a' := ?_) #[true, true, true, true, false, false, false, false, false, false, false, false, false, false, false, false, false, false, false, false, false, false, false, false, false, false, false, false, false] rfl rfl (any_of HT_.out (by kernel_rfl)) (fun _ _ _ h => h) (Or.inl ⟨by rfl, ?_⟩) ?_ ?_
                            rotate_left
                            · intro w'
                              go_simp
                              with_reducible rfl
                            rotate_left
                            · simp only [Act.put, List.setIfInBounds_toArray, List.set_cons_zero, List.set_cons_succ, i64_w, i32_w]
                              rfl
                            refine pure_ (i := 4) (N := some 42) (v := ?_) (a' := ?_) #[true, true, true, true, true, false, false, false, false, false, false, false, false, false, false, false, false, false, false, false, false, false, false, false, false, false, false, false, false] rfl rfl (any_of HT_.out (by kernel_rfl)) (fun _ _ _ h => h) (Or.inl ⟨by rfl, ?_⟩) ?_ ?_
                            rotate_left
                            · intro w'
                              go_simp
                              with_reducible rfl
                            rotate_left
                            · simp only [Act.put, List.setIfInBounds_toArray, List.set_cons_zero, List.set_cons_succ, i64_w, i32_w]
                              rfl
                            refine pure_ (i := 5) (N := some 43) (v := ?_) (a' := ?_) #[true, true, true, true, true, true, false, false, false, false, false, false, false, false, false, false, false, false, false, false, false, false, false, false, false, false, false, false, false] rfl rfl (any_of HT_.out (by kernel_rfl)) (fun _ _ _ h => h) (Or.inl ⟨by rfl, ?_⟩) ?_ ?_
                            rotate_left
                            · intro w'
                              go_simp
                              with_reducible rfl
                            rotate_left
                            · simp only [Act.put, List.setIfInBounds_toArray, List.set_cons_zero, List.set_cons_succ, i64_w, i32_w]
                              rfl
                            refine pure_ (i := 7) (N := some 45) (v := ?_) (a' := ?_) #[true, true, true, true, true, true, false, true, false, false, false, false, false, false, false, false, false, false, false, false, false, false, false, false, false, false, false, false, false] rfl rfl (any_of HT_.out (by kernel_rfl)) (fun _ _ _ h => h) (Or.inl ⟨by rfl, ?_⟩) ?_ ?_
                            rotate_left
                            · intro w'
                              go_simp
                              with_reducible rfl
                            rotate_left
                            · simp only [Act.put, List.setIfInBounds_toArray, List.set_cons_zero, List.set_cons_succ, i64_w, i32_w]
                              rfl
                            refine pure_ (i := 8) (N := some 46) (v := ?_) (a' := ?_) #[true, true, true, true, true, true, false, true, true, false, false, false, false, false, false, false, false, false, false, false, false, false, false, false, false, false, false, false, false] rfl rfl (any_of HT_.out (by kernel_rfl)) (fun _ _ _ h => h) (Or.inl ⟨by rfl, ?_⟩) ?_ ?_
                            rotate_left
                            · intro w'
                              go_simp
                              with_reducible rfl
                            rotate_left
                            · simp only [Act.put, List.setIfInBounds_toArray, List.set_cons_zero, List.set_cons_succ, i64_w, i32_w]
                              rfl
                            refine pure_ (i := 9) (N := some 47) (v := ?_) (a' := ?_) #[true, true, true, true, true, true, false, true, true, true, false, false, false, false, false, false, false, false, false, false, false, false, false, false, false, false, false, false, false] rfl rfl (any_of HT_.out (by kernel_rfl)) (fun _ _ _ h => h) (Or.inl ⟨by rfl, ?_⟩) ?_ ?_
                            rotate_left
                            · intro w'
                              go_simp
                              with_reducible rfl
                            rotate_left
                            · simp only [Act.put, List.setIfInBounds_toArray, List.set_cons_zero, List.set_cons_succ, i64_w, i32_w]
                              rfl
                            refine pure_ (i := 11) (N := some 49) (v := ?_) (a' := ?_) #[true, true, true, true, true, true, false, true, true, true, false, true, false, false, false, false, false, false, false, false, false, false, false, false, false, false, false, false, false] rfl rfl (any_of HT_.out (by kernel_rfl)) (fun _ _ _ h => h) (Or.inl ⟨by rfl, ?_⟩) ?_ ?_
                            rotate_left
                            · intro w'
                              go_simp
                              with_reducible rfl
                            rotate_left
                            · simp only [Act.put, List.setIfInBounds_toArray, List.set_cons_zero, List.set_cons_succ, i64_w, i32_w]
                              rfl
                            refine pure_ (i := 12) (N := some 50) (v := ?_) (a' := ?_) #[true, true, true, true, true, true, false, true, true, true, false, true, true, false, false, false, false, false, false, false, false, false, false, false, false, false, false, false, false] rfl rfl (any_of HT_.out (by kernel_rfl)) (fun _ _ _ h => h) (Or.inl ⟨by rfl, ?_⟩) ?_ ?_
                            rotate_left
                            · intro w'
                              go_simp
                              with_reducible rfl
                            rotate_left
                            · simp only [Act.put, List.setIfInBounds_toArray, List.set_cons_zero, List.set_cons_succ, i64_w, i32_w]
                              rfl
                            refine pure_ (i := 13) (N := some 51) (v := ?_) (a' := ?_) #[true, true, true, true, true, true, false, true, true, true, false, true, true, true, false, false, false, false, false, false, false, false, false, false, false, false, false, false, false] rfl rfl (any_of HT_.out (by kernel_rfl)) (fun _ _ _ h => h) (Or.inl ⟨by rfl, ?_⟩) ?_ ?_
                            rotate_left
                            · intro w'
                              go_simp
                              with_reducible rfl
                            rotate_left
                            · simp only [Act.put, List.setIfInBounds_toArray, List.set_cons_zero, List.set_cons_succ, i64_w, i32_w]
                              rfl
                            refine pure_ (i := 15) (N := some 53) (v := ?_) (a' := ?_) #[true, true, true, true, true, true, false, true, true, true, false, true, true, true, false, true, false, false, false, false, false, false, false, false, false, false, false, false, false] rfl rfl (any_of HT_.out (by kernel_rfl)) (fun _ _ _ h => h) (Or.inl ⟨by rfl, ?_⟩) ?_ ?_
                            rotate_left
                            · intro w'
                              go_simp
                              with_reducible rfl
                            rotate_left
                            · simp only [Act.put, List.setIfInBounds_toArray, List.set_cons_zero, List.set_cons_succ, i64_w, i32_w]
                              rfl
                            refine pure_ (i := 16) (N := some 54) (v := ?_) (a' := ?_) #[true, true, true, true, true, true, false, true, true, true, false, true, true, true, false, true, true, false, false, false, false, false, false, false, false, false, false, false, false] rfl rfl (any_of HT_.out (by kernel_rfl)) (fun _ _ _ h => h) (Or.inl ⟨by rfl, ?_⟩) ?_ ?_
                            rotate_left
                            · intro w'
                              go_simp
                              with_reducible rfl
                            rotate_left
                            · simp only [Act.put, List.setIfInBounds_toArray, List.set_cons_zero, List.set_cons_succ, i64_w, i32_w]
                              rfl
                            refine pure_ (i := 17) (N := some 55) (v := ?_) (a' := ?_) #[true, true, true, true, true, true, false, true, true, true, false, true, true, true, false, true, true, true, false, false, false, false, false, false, false, false, false, false, false] rfl rfl (any_of HT_.out (by kernel_rfl)) (fun _ _ _ h => h) (Or.inl ⟨by rfl, ?_⟩) ?_ ?_
                            rotate_left
                            · intro w'
                              go_simp
                              with_reducible rfl
                            rotate_left
                            · simp only [Act.put, List.setIfInBounds_toArray, List.set_cons_zero, List.set_cons_succ, i64_w, i32_w]
                              rfl
                            refine pure_ (i := 19) (N := some 57) (v := ?_) (a' := ?_) #[true, true, true, true, true, true, false, true, true, true, false, true, true, true, false, true, true, true, false, true, false, false, false, false, false, false, false, false, false] rfl rfl (any_of HT_.out (by kernel_rfl)) (fun _ _ _ h => h) (Or.inl ⟨by rfl, ?_⟩) ?_ ?_
                            rotate_left
                            · intro w'
                              go_simp
                              with_reducible rfl
                            rotate_left
                            · simp only [Act.put, List.setIfInBounds_toArray, List.set_cons_zero, List.set_cons_succ, i64_w, i32_w]
                              rfl
                            refine pure_ (i := 20) (N := some 58) (v := ?_) (a' := ?_) #[true, true, true, true, true, true, false, true, true, true, false, true, true, true, false, true, true, true, false, true, true, false, false, false, false, false, false, false, false] rfl rfl (any_of HT_.out (by kernel_rfl)) (fun _ _ _ h => h) (Or.inl ⟨by rfl, ?_⟩) ?_ ?_
                            rotate_left
                            · intro w'
                              go_simp
                              with_reducible rfl
                            rotate_left
                            · simp only [Act.put, List.setIfInBounds_toArray, List.set_cons_zero, List.set_cons_succ, i64_w, i32_w]
                              rfl
                            refine pure_ (i := 21) (N := some 59) (v := ?_) (a' := ?_) #[true, true, true, true, true, true, false, true, true, true, false, true, true, true, false, true, true, true, false, true, true, true, false, false, false, false, false, false, false] rfl rfl (any_of HT_.out (by kernel_rfl)) (fun _ _ _ h => h) (Or.inl ⟨by rfl, ?_⟩) ?_ ?_
                            rotate_left
                            · intro w'
                              go_simp
                              with_reducible rfl
                            rotate_left
                            · simp only [Act.put, List.setIfInBounds_toArray, List.set_cons_zero, List.set_cons_succ, i64_w, i32_w]
                              rfl
                            refine take_ (i := 6) (N := some 44) (v := ?_) (a' := ?_) #[true, true, true, true, true, true, true, true, true, true, false, true, true, true, false, true, true, true, false, true, true, true, false, false, false, false, false, false, false] rfl rfl (take_ofW HT_.out HW_.out (by kernel_rfl)) (fun _ _ _ h => h) (Or.inl ⟨by rfl, ?_⟩) hHeld ?_ ?_
                            rotate_left
                            · rintro w' ⟨s0, s1, s2, s3, s4, s5, s6, s7, s8, s9, s10, s11, s12, s13, s14, s15, s16, s17, s18, s19, s20, s21, s22, s23, s24, s25, s26, s27, s28, s29, s30, s31, s32, s33, s34, s35, s36, s37, s38, s39, s40, s41, s42, s43, s44⟩
                              go_simp
                              with_reducible rfl
                            rotate_left
                            · simp only [Act.put, List.setIfInBounds_toArray, List.set_cons_zero, List.set_cons_succ, i64_w, i32_w]
                              rfl
                            refine take_ (i := 10) (N := some 48) (v := ?_) (a' := ?_) #[true, true, true, true, true, true, true, true, true, true, true, true, true, true, false, true, true, true, false, true, true, true, false, false, false, false, false, false, false] rfl rfl (take_ofW HT_.out HW_.out (by kernel_rfl)) (fun _ _ _ h => h) (Or.inl ⟨by rfl, ?_⟩) hHeld ?_ ?_
                            rotate_left
                            · rintro w' ⟨s0, s1, s2, s3, s4, s5, s6, s7, s8, s9, s10, s11, s12, s13, s14, s15, s16, s17, s18, s19, s20, s21, s22, s23, s24, s25, s26, s27, s28, s29, s30, s31, s32, s33, s34, s35, s36, s37, s38, s39, s40, s41, s42, s43, s44⟩
                              go_simp
                              with_reducible rfl
                            rotate_left
                            · simp only [Act.put, List.setIfInBounds_toArray, List.set_cons_zero, List.set_cons_succ, i64_w, i32_w]
                              rfl
                            refine take_ (i := 14) (N := some 52) (v := ?_) (a' := ?_) #[true, true, true, true, true, true, true, true, true, true, true, true, true, true, true, true, true, true, false, true, true, true, false, false, false, false, false, false, false] rfl rfl (take_ofW HT_.out HW_.out (by kernel_rfl)) (fun _ _ _ h => h) (Or.inl ⟨by rfl, ?_⟩) hHeld ?_ ?_
                            rotate_left
                            · rintro w' ⟨s0, s1, s2, s3, s4, s5, s6, s7, s8, s9, s10, s11, s12, s13, s14, s15, s16, s17, s18, s19, s20, s21, s22, s23, s24, s25, s26, s27, s28, s29, s30, s31, s32, s33, s34, s35, s36, s37, s38, s39, s40, s41, s42, s43, s44⟩
                              go_simp
                              with_reducible rfl
                            rotate_left
                            · simp only [Act.put, List.setIfInBounds_toArray, List.set_cons_zero, List.set_cons_succ, i64_w, i32_w]
                              rfl
                            refine take_ (i := 18) (N := some 56) (v := ?_) (a' := ?_) #[true, true, true, true, true, true, true, true, true, true, true, true, true, true, true, true, true, true, true, true, true, true, false, false, false, false, false, false, false] rfl rfl (take_ofW HT_.out HW_.out (by kernel_rfl)) (fun _ _ _ h => h) (Or.inl ⟨by rfl, ?_⟩) hHeld ?_ ?_
                            rotate_left
                            · rintro w' ⟨s0, s1, s2, s3, s4, s5, s6, s7, s8, s9, s10, s11, s12, s13, s14, s15, s16, s17, s18, s19, s20, s21, s22, s23, s24, s25, s26, s27, s28, s29, s30, s31, s32, s33, s34, s35, s36, s37, s38, s39, s40, s41, s42, s43, s44⟩
                              go_simp
                              with_reducible rfl
                            rotate_left
                            · simp only [Act.put, List.setIfInBounds_toArray, List.set_cons_zero, List.set_cons_succ, i64_w, i32_w]
                              rfl
                            refine take_ (i := 22) (N := some 60) (v := ?_) (a' := ?_) #[true, true, true, true, true, true, true, true, true, true, true, true, true, true, true, true, true, true, true, true, true, true, true, false, false, false, false, false, false] rfl rfl (take_ofW HT_.out HW_.out (by kernel_rfl)) (fun _ _ _ h => h) (Or.inl ⟨by rfl, ?_⟩) hHeld ?_ ?_
                            rotate_left
                            · rintro w' ⟨s0, s1, s2, s3, s4, s5, s6, s7, s8, s9, s10, s11, s12, s13, s14, s15, s16, s17, s18, s19, s20, s21, s22, s23, s24, s25, s26, s27, s28, s29, s30, s31, s32, s33, s34, s35, s36, s37, s38, s39, s40, s41, s42, s43, s44⟩
                              go_simp
                              with_reducible rfl
                            rotate_left
                            · simp only [Act.put, List.setIfInBounds_toArray, List.set_cons_zero, List.set_cons_succ, i64_w, i32_w]
                              rfl
                            refine one_ (i := 23) (N := some 61) #[true, true, true, true, true, true, true, true, true, true, true, true, true, true, true, true, true, true, true, true, true, true, true, true, false, false, false, false, false] rfl rfl (one_of HT_.out (by kernel_rfl)) (by decide) (fun K hK => ?_)
                            refine goes_ Try.func78 (by kernel_rfl) rfl #[.slice (some ad260) y267.length c0, .int .i64 ((rd_T71 l0 x12_1).f0), .int .i64 ((rd_T71 l0 x12_1).f2), .int .i64 ((rd_T71 l0 x12_1).f3), .int .i64 ((rd_T71 l0 x12_1).f4), .int .i64 ((rd_T71 l0 x12_1).f5)] (by rfl) rfl rfl (by (try simp only [List.map_toArray, List.map_cons, List.map_nil]); first | done | rfl | (simp only [List.length_drop, List.length_take]; rfl)) ?_
                            with_reducible refine (impl_find.calls kj5 _ _ y267 ((rd_T71 l0 x12_1).f0) ((rd_T71 l0 x12_1).f2) ((rd_T71 l0 x12_1).f3) ((rd_T71 l0 x12_1).f4) ((rd_T71 l0 x12_1).f5) t276 t277 _ ?side1 ?side2 A19.out).mono ?_
                            (case side1 => repeat (first | exact (Kd.C_below HR270.out HB.out) | (with_reducible refine Kd.C_alloc ?_ _) | (with_reducible refine Kd.C_drewN ?_ _) | (with_reducible refine Kd.C_drew ?_)))
                            (case side2 => exact HC270.out)
                            rintro e w26 ⟨rfl, hb⟩
                            refine ⟨_, rfl, ?_⟩
                            have n0_ := Aside0.mk (below_step (by repeat (first | (with_reducible first | exact HB.out | apply below_alloc | apply pw_below_drewN | apply below_drew1) | exact HB.out)) hb)
                            clear HB
                            have HB := n0_
                            clear n0_
                            (try clear hb)
                            (try clear hb2)
                            (try clear hk)
                            (try clear hi)
                            refine hK.out _ _ ⟨((HB.out.cell (World.block_lt_of_cell? w _ hw271_0)).trans hw271_0), ((HB.out.cell (World.block_lt_of_cell? w _ hw271_1)).trans hw271_1), ((HB.out.cell (World.block_lt_of_cell? w _ hw271_2)).trans hw271_2), ((HB.out.cell (World.block_lt_of_cell? w _ hw271_3)).trans hw271_3), ((HB.out.cell (World.block_lt_of_cell? w _ hw271_4)).trans hw271_4), ((HB.out.cell (World.block_lt_of_cell? w _ hw271_5)).trans hw271_5), ((HB.out.cell (World.block_lt_of_cell? w _ hw271_6)).trans hw271_6), ((HB.out.cell (World.block_lt_of_cell? w _ hw271_7)).trans hw271_7), ((HB.out.cell (World.block_lt_of_cell? w _ hw271_8)).trans hw271_8), ((HB.out.cell (World.block_lt_of_cell? w _ hw272_0)).trans hw272_0), ((HB.out.cell (World.block_lt_of_cell? w _ hw272_1)).trans hw272_1), ((HB.out.cell (World.block_lt_of_cell? w _ hw272_2)).trans hw272_2), ((HB.out.cell (World.block_lt_of_cell? w _ hw272_3)).trans hw272_3), ((HB.out.cell (World.block_lt_of_cell? w _ hw272_4)).trans hw272_4), ((HB.out.cell (World.block_lt_of_cell? w _ hw272_5)).trans hw272_5), ((HB.out.cell (World.block_lt_of_cell? w _ hw272_6)).trans hw272_6), ((HB.out.cell (World.block_lt_of_cell? w _ hw272_7)).trans hw272_7), ((HB.out.cell (World.block_lt_of_cell? w _ hw272_8)).trans hw272_8), ((HB.out.cell (World.block_lt_of_cell? w _ hw273_0)).trans hw273_0), ((HB.out.cell (World.block_lt_of_cell? w _ hw273_1)).trans hw273_1), ((HB.out.cell (World.block_lt_of_cell? w _ hw273_2)).trans hw273_2), ((HB.out.cell (World.block_lt_of_cell? w _ hw273_3)).trans hw273_3), ((HB.out.cell (World.block_lt_of_cell? w _ hw273_4)).trans hw273_4), ((HB.out.cell (World.block_lt_of_cell? w _ hw273_5)).trans hw273_5), ((HB.out.cell (World.block_lt_of_cell? w _ hw273_6)).trans hw273_6), ((HB.out.cell (World.block_lt_of_cell? w _ hw273_7)).trans hw273_7), ((HB.out.cell (World.block_lt_of_cell? w _ hw273_8)).trans hw273_8), ((HB.out.cell (World.block_lt_of_cell? w _ hw274_0)).trans hw274_0), ((HB.out.cell (World.block_lt_of_cell? w _ hw274_1)).trans hw274_1), ((HB.out.cell (World.block_lt_of_cell? w _ hw274_2)).trans hw274_2), ((HB.out.cell (World.block_lt_of_cell? w _ hw274_3)).trans hw274_3), ((HB.out.cell (World.block_lt_of_cell? w _ hw274_4)).trans hw274_4), ((HB.out.cell (World.block_lt_of_cell? w _ hw274_5)).trans hw274_5), ((HB.out.cell (World.block_lt_of_cell? w _ hw274_6)).trans hw274_6), ((HB.out.cell (World.block_lt_of_cell? w _ hw274_7)).trans hw274_7), ((HB.out.cell (World.block_lt_of_cell? w _ hw274_8)).trans hw274_8), ((HB.out.cell (World.block_lt_of_cell? w _ hw275_0)).trans hw275_0), ((HB.out.cell (World.block_lt_of_cell? w _ hw275_1)).trans hw275_1), ((HB.out.cell (World.block_lt_of_cell? w _ hw275_2)).trans hw275_2), ((HB.out.cell (World.block_lt_of_cell? w _ hw275_3)).trans hw275_3), ((HB.out.cell (World.block_lt_of_cell? w _ hw275_4)).trans hw275_4), ((HB.out.cell (World.block_lt_of_cell? w _ hw275_5)).trans hw275_5), ((HB.out.cell (World.block_lt_of_cell? w _ hw275_6)).trans hw275_6), ((HB.out.cell (World.block_lt_of_cell? w _ hw275_7)).trans hw275_7), ((HB.out.cell (World.block_lt_of_cell? w _ hw275_8)).trans hw275_8)⟩ (fun hHeld => ?_)
                            clear hK K
                            refine norm_ (a' := ?_) ?_ ?_
                            rotate_left
                            · show Act.put _ (some 61) _ = _
                              simp only [Act.put, List.setIfInBounds_toArray, List.set_cons_zero, List.set_cons_succ, i64_w, i32_w]
                              rfl
                            refine pure_ (i := 24) (N := some 37) (v := ?_) (a' := ?_) #[true, true, true, true, true, true, true, true, true, true, true, true, true, true, true, true, true, true, true, true, true, true, true, true, true, false, false, false, false] rfl rfl (any_of HT_.out (by kernel_rfl)) (fun _ _ _ h => h) (Or.inl ⟨by rfl, ?_⟩) ?_ ?_
                            rotate_left
                            · intro w'
                              go_simp
                              with_reducible rfl
                            rotate_left
                            · simp only [Act.put, List.setIfInBounds_toArray, List.set_cons_zero, List.set_cons_succ, i64_w, i32_w]
                              rfl
                            refine pure_ (i := 25) (N := some 62) (v := ?_) (a' := ?_) #[true, true, true, true, true, true, true, true, true, true, true, true, true, true, true, true, true, true, true, true, true, true, true, true, true, true, false, false, false] rfl rfl (any_of HT_.out (by kernel_rfl)) (fun _ _ _ h => h) (Or.inl ⟨by rfl, ?_⟩) ?_ ?_
                            rotate_left
                            · intro w'
                              go_simp
                              with_reducible rfl
                            rotate_left
                            · simp only [Act.put, List.setIfInBounds_toArray, List.set_cons_zero, List.set_cons_succ, i64_w, i32_w]
                              rfl
                            refine pure_ (i := 26) (N := some 63) (v := ?_) (a' := ?_) #[true, true, true, true, true, true, true, true, true, true, true, true, true, true, true, true, true, true, true, true, true, true, true, true, true, true, true, false, false] rfl rfl (any_of HT_.out (by kernel_rfl)) (fun _ _ _ h => h) (Or.inl ⟨by rfl, ?_⟩) ?_ ?_
                            rotate_left
                            · intro w'
                              go_simp
                              with_reducible rfl
                            rotate_left
                            · simp only [Act.put, List.setIfInBounds_toArray, List.set_cons_zero, List.set_cons_succ, i64_w, i32_w]
                              rfl
                            refine pure_ (i := 27) (N := some 5) (v := ?_) (a' := ?_) #[true, true, true, true, true, true, true, true, true, true, true, true, true, true, true, true, true, true, true, true, true, true, true, true, true, true, true, true, false] rfl rfl (any_of HT_.out (by kernel_rfl)) (fun _ _ _ h => h) (Or.inl ⟨by rfl, ?_⟩) ?_ ?_
                            rotate_left
                            · intro w'
                              go_simp
                              with_reducible rfl
                            rotate_left
                            · simp only [Act.put, List.setIfInBounds_toArray, List.set_cons_zero, List.set_cons_succ, i64_w, i32_w]
                              rfl
                            refine pure_ (i := 28) (N := some 6) (v := ?_) (a' := ?_) #[true, true, true, true, true, true, true, true, true, true, true, true, true, true, true, true, true, true, true, true, true, true, true, true, true, true, true, true, true] rfl rfl (any_of HT_.out (by kernel_rfl)) (fun _ _ _ h => h) (Or.inl ⟨by rfl, ?_⟩) ?_ ?_
                            rotate_left
                            · intro w'
                              go_simp
                              with_reducible rfl
                            rotate_left
                            · simp only [Act.put, List.setIfInBounds_toArray, List.set_cons_zero, List.set_cons_succ, i64_w, i32_w]
                              rfl
                            refine done_ (done_of HT_.out (by kernel_rfl)) ?_
                            try go_wp2
                            go_roundg kj5
                            case measure => have := HK1.out; have := HJ5.out; omega
                            case rel => exact ⟨(wrap64 (x12_1 + 1)), (by first | rfl | (simp; done) | (simp [*]; done) | (simp [ne_nil_b]; done) | (simp [ne_nil_b, *]; done)), H', ⟨by have := HK1.out; have := HJ5.out; omega⟩, ⟨by repeat (first | (with_reducible first | exact HB.out | apply below_alloc | apply pw_below_drewN | apply below_drew1) | exact HB.out)⟩⟩
                        · rw [if_neg c18] at H
                          exact absurd H (by simp)
                      · rw [if_neg c17] at H
                        exact absurd H (by simp)
                    · rw [if_neg c16] at H
                      exact absurd H (by simp)
            · rw [if_neg c5] at H
              exact absurd H (by simp)
          · rw [if_neg c4] at H
            exact absurd H (by simp)
        · rw [if_neg c3] at H
          have c3b0 : decide (x12_1 < (l0.length : Int)) = false := decide_eq_false c3
          clear c3
          obtain rfl := Option.some.inj H
          go_wp2
          go_ret
          exact ⟨by first | rfl | (simp [errW_none, errW_some] <;> rfl) | (simp [*, errW_none, errW_some] <;> rfl), by repeat (first | (with_reducible first | exact HB.out | apply below_alloc | apply pw_below_drewN | apply below_drew1) | exact HB.out)⟩
end
section
/-! ### impl_flowsFault: function 81 -/
def impl_flowsFault.f (k : Nat) (l0 : List (S71)) : Option (Int) := if (l0.length : Int) > 4096 then (some 2) else ((impl_FlowsOK.f k l0).bind fun t306 => (if t306 = true then (some 0) else (some 1)))
theorem impl_flowsFault.mono : ∀ a0 k, LeO (impl_flowsFault.f k a0) (impl_flowsFault.f (k + 1) a0) := by
  intro a0 k
  unfold impl_flowsFault.f
  repeat' first
      | (with_reducible exact impl_FlowsOK.mono _ _)
      | (with_reducible exact LeO.refl _)
      | (with_reducible exact LeO.none _)
      | (with_reducible refine LeO.ite ?_ ?_)
      | (with_reducible refine LeO.bind ?_ (fun _ => ?_))
      | exact impl_FlowsOK.mono _ _
      | exact LeO.none _
      | refine LeO.ite ?_ ?_
      | refine LeO.bind ?_ (fun _ => ?_)
set_option maxHeartbeats 8000000 in
set_option maxRecDepth 100000 in
theorem impl_flowsFault.calls (k : Nat) (A0 : Option Addr) (c0 : Nat) (l0 : List (S71)) (r : Int) (w : World) (hr0 : Kd.C k71 w A0 l0.length l0) (hc0 : l0.length ≤ c0) (h : impl_flowsFault.f k l0 = some r) :
    Calls Try.prog 81 #[.slice A0 l0.length c0] w fun e w' => e = .returned (.int .i64 r) ∧ Below w.heap.size w w' := by
  have HR0 := Aside0.mk hr0
  have HC0 := Aside0.mk hc0
  clear hr0 hc0
  have HB := Aside0.mk (Below.refl w.heap.size w)
  have H : (if (l0.length : Int) > 4096 then (some 2) else ((impl_FlowsOK.f k l0).bind fun t306 => (if t306 = true then (some 0) else (some 1)))) = some r := h
  clear h
  by_cases c2 : (l0.length : Int) > 4096
  · rw [if_pos c2] at H
    have c2b0 : decide (4096 < (l0.length : Int)) = true := decide_eq_true c2
    have c2b1 : decide (4096 < l0.length) = true := decide_eq_true (by omega)
    clear c2
    obtain rfl := Option.some.inj H
    go_enter Try.func81, Try.ntmps81
    go_wp2
    go_ret
    exact ⟨by first | rfl | (simp [errW_none, errW_some] <;> rfl) | (simp [*, errW_none, errW_some] <;> rfl), by repeat (first | (with_reducible first | exact HB.out | apply below_alloc | apply pw_below_drewN | apply below_drew1) | exact HB.out)⟩
  · rw [if_neg c2] at H
    have c2b0 : decide (4096 < (l0.length : Int)) = false := decide_eq_false c2
    have c2b1 : decide (4096 < l0.length) = false := decide_eq_false (by omega)
    clear c2
    replace H := Option.bind_eq_some_iff.mp H
    obtain ⟨t306, A30, H⟩ := H
    replace H : (if t306 = true then (some 0) else (some 1)) = some r := H
    have A3 := Aside0.mk A30
    clear A30
    by_cases c4 : t306 = true
    · subst c4
      have H1 : (some 0) = some r := by rw [if_pos rfl] at H; exact H
      clear H
      have H := H1
      clear H1
      obtain rfl := Option.some.inj H
      go_enter Try.func81, Try.ntmps81
      go_wp2_with (first | ((with_reducible refine gate_callee (f := 29) rfl ?_); refine goesL_ (some 9) rfl rfl Try.func29 (by kernel_rfl) rfl #[.slice A0 l0.length c0] rfl (by (try simp only [List.map_toArray, List.map_cons, List.map_nil]); first | done | rfl | (simp only [List.length_drop, List.length_take]; rfl)) ?_; (with_reducible refine (impl_FlowsOK.calls k _ _ l0 true _ ?side1 ?side2 A3.out).mono ?_); (case side1 => repeat (first | exact HR0.out | (with_reducible refine Kd.C_alloc ?_ _) | (with_reducible refine Kd.C_drewN ?_ _) | (with_reducible refine Kd.C_drew ?_))); (case side2 => exact HC0.out); rintro e w5 ⟨rfl, hb⟩; refine ⟨_, rfl, ?_⟩; have n0_ := Aside0.mk (below_step (by repeat (first | (with_reducible first | exact HB.out | apply below_alloc | apply pw_below_drewN | apply below_drew1) | exact HB.out)) hb); clear HB; have HB := n0_; clear n0_; (try clear hb); (try clear hb2); (try clear hk); (try clear hi)))
      go_ret
      exact ⟨by first | rfl | (simp [errW_none, errW_some] <;> rfl) | (simp [*, errW_none, errW_some] <;> rfl), by repeat (first | (with_reducible first | exact HB.out | apply below_alloc | apply pw_below_drewN | apply below_drew1) | exact HB.out)⟩
    · replace c4 := Bool.eq_false_iff.mpr c4
      subst c4
      have H1 : (some 1) = some r := by rw [if_neg (show ¬ (false = true) by decide)] at H; exact H
      clear H
      have H := H1
      clear H1
      obtain rfl := Option.some.inj H
      go_enter Try.func81, Try.ntmps81
      go_wp2_with (first | ((with_reducible refine gate_callee (f := 29) rfl ?_); refine goesL_ (some 9) rfl rfl Try.func29 (by kernel_rfl) rfl #[.slice A0 l0.length c0] rfl (by (try simp only [List.map_toArray, List.map_cons, List.map_nil]); first | done | rfl | (simp only [List.length_drop, List.length_take]; rfl)) ?_; (with_reducible refine (impl_FlowsOK.calls k _ _ l0 false _ ?side1 ?side2 A3.out).mono ?_); (case side1 => repeat (first | exact HR0.out | (with_reducible refine Kd.C_alloc ?_ _) | (with_reducible refine Kd.C_drewN ?_ _) | (with_reducible refine Kd.C_drew ?_))); (case side2 => exact HC0.out); rintro e w6 ⟨rfl, hb⟩; refine ⟨_, rfl, ?_⟩; have n0_ := Aside0.mk (below_step (by repeat (first | (with_reducible first | exact HB.out | apply below_alloc | apply pw_below_drewN | apply below_drew1) | exact HB.out)) hb); clear HB; have HB := n0_; clear n0_; (try clear hb); (try clear hb2); (try clear hk); (try clear hi)))
      go_ret
      exact ⟨by first | rfl | (simp [errW_none, errW_some] <;> rfl) | (simp [*, errW_none, errW_some] <;> rfl), by repeat (first | (with_reducible first | exact HB.out | apply below_alloc | apply pw_below_drewN | apply below_drew1) | exact HB.out)⟩
end
section
/-! ### impl_FlowFind: function 32 -/
def impl_FlowFind.j0 : Nat → List (S71) → Int → Int → Int → Int → Int → Bool → Option (Int × Bool × Int)
  | 0, _, _, _, _, _, _, _ => none
  | k + 1, x0, x1, x2, x3, x4, x5, x45 => if x45 = true then (some (0, false, 4)) else ((impl_find.f k x0 x1 x2 x3 x4 x5).bind fun bt313 => (if bt313.1 < 0 then (some (0, false, 5)) else (some (bt313.1, bt313.2, 0))))
def impl_FlowFind.f (k : Nat) (l0 : List (S71)) (a1 : Int) (a2 : Int) (a3 : Int) (a4 : Int) (a5 : Int) : Option (Int × Bool × Int) := (impl_flowsFault.f k l0).bind fun t307 => (if t307 = 0 then ((impl_isProto.f a1).bind fun t308 => (if t308 = true then ((impl_isAddress.f a2).bind fun t309 => (if t309 = true then ((impl_isAddress.f a4).bind fun t310 => (if t310 = true then ((impl_isPort.f a3).bind fun t311 => (if t311 = true then ((impl_isPort.f a5).bind fun t312 => (impl_FlowFind.j0 k l0 a1 a2 a3 a4 a5 (!t312))) else (impl_FlowFind.j0 k l0 a1 a2 a3 a4 a5 true))) else (impl_FlowFind.j0 k l0 a1 a2 a3 a4 a5 true))) else (impl_FlowFind.j0 k l0 a1 a2 a3 a4 a5 true))) else (impl_FlowFind.j0 k l0 a1 a2 a3 a4 a5 true))) else (some (0, false, t307)))
theorem impl_FlowFind.mono_l : ∀ k, (∀ y0 y1 y2 y3 y4 y5 y6, LeO (impl_FlowFind.j0 k y0 y1 y2 y3 y4 y5 y6) (impl_FlowFind.j0 (k + 1) y0 y1 y2 y3 y4 y5 y6))
  | 0 => fun _ _ _ _ _ _ _ r h => by simp [impl_FlowFind.j0] at h
  | k + 1 => by
    have ih0 := impl_FlowFind.mono_l k
    · intro y0 y1 y2 y3 y4 y5 y6
      unfold impl_FlowFind.j0
      repeat' first
      | (with_reducible exact ih0 _ _ _ _ _ _ _)
      | (with_reducible exact impl_find.mono _ _ _ _ _ _ _)
      | (with_reducible exact impl_flowsFault.mono _ _)
      | (with_reducible exact LeO.refl _)
      | (with_reducible exact LeO.none _)
      | (with_reducible refine LeO.ite ?_ ?_)
      | (with_reducible refine LeO.bind ?_ (fun _ => ?_))
      | exact ih0 _ _ _ _ _ _ _
      | exact impl_find.mono _ _ _ _ _ _ _
      | exact impl_flowsFault.mono _ _
      | exact LeO.none _
      | refine LeO.ite ?_ ?_
      | refine LeO.bind ?_ (fun _ => ?_)
theorem impl_FlowFind.mono : ∀ a0 a1 a2 a3 a4 a5 k, LeO (impl_FlowFind.f k a0 a1 a2 a3 a4 a5) (impl_FlowFind.f (k + 1) a0 a1 a2 a3 a4 a5) := by
  intro a0 a1 a2 a3 a4 a5 k
  have ih0 := impl_FlowFind.mono_l k
  unfold impl_FlowFind.f
  repeat' first
      | (with_reducible exact ih0 _ _ _ _ _ _ _)
      | (with_reducible exact impl_find.mono _ _ _ _ _ _ _)
      | (with_reducible exact impl_flowsFault.mono _ _)
      | (with_reducible exact LeO.refl _)
      | (with_reducible exact LeO.none _)
      | (with_reducible refine LeO.ite ?_ ?_)
      | (with_reducible refine LeO.bind ?_ (fun _ => ?_))
      | exact ih0 _ _ _ _ _ _ _
      | exact impl_find.mono _ _ _ _ _ _ _
      | exact impl_flowsFault.mono _ _
      | exact LeO.none _
      | refine LeO.ite ?_ ?_
      | refine LeO.bind ?_ (fun _ => ?_)
set_option maxHeartbeats 8000000 in
set_option maxRecDepth 100000 in
theorem impl_FlowFind.calls (k : Nat) (A0 : Option Addr) (c0 : Nat) (l0 : List (S71)) (a1 : Int) (a2 : Int) (a3 : Int) (a4 : Int) (a5 : Int) (r1 : Int) (r2 : Bool) (r3 : Int) (w : World) (hr0 : Kd.C k71 w A0 l0.length l0) (hc0 : l0.length ≤ c0) (h : impl_FlowFind.f k l0 a1 a2 a3 a4 a5 = some (r1, r2, r3)) :
    Calls Try.prog 32 #[.slice A0 l0.length c0, .int .i64 a1, .int .i64 a2, .int .i64 a3, .int .i64 a4, .int .i64 a5] w fun e w' => e = .returned (.tuple #[.int .i64 r1, .bool r2, .int .i64 r3]) ∧ Below w.heap.size w w' := by
  have HR0 := Aside0.mk hr0
  have HC0 := Aside0.mk hc0
  clear hr0 hc0
  have HB := Aside0.mk (Below.refl w.heap.size w)
  have H : ((impl_flowsFault.f k l0).bind fun t307 => (if t307 = 0 then ((impl_isProto.f a1).bind fun t308 => (if t308 = true then ((impl_isAddress.f a2).bind fun t309 => (if t309 = true then ((impl_isAddress.f a4).bind fun t310 => (if t310 = true then ((impl_isPort.f a3).bind fun t311 => (if t311 = true then ((impl_isPort.f a5).bind fun t312 => (impl_FlowFind.j0 k l0 a1 a2 a3 a4 a5 (!t312))) else (impl_FlowFind.j0 k l0 a1 a2 a3 a4 a5 true))) else (impl_FlowFind.j0 k l0 a1 a2 a3 a4 a5 true))) else (impl_FlowFind.j0 k l0 a1 a2 a3 a4 a5 true))) else (impl_FlowFind.j0 k l0 a1 a2 a3 a4 a5 true))) else (some (0, false, t307)))) = some (r1, r2, r3) := h
  clear h
  replace H := Option.bind_eq_some_iff.mp H
  obtain ⟨t307, A70, H⟩ := H
  replace H : (if t307 = 0 then ((impl_isProto.f a1).bind fun t308 => (if t308 = true then ((impl_isAddress.f a2).bind fun t309 => (if t309 = true then ((impl_isAddress.f a4).bind fun t310 => (if t310 = true then ((impl_isPort.f a3).bind fun t311 => (if t311 = true then ((impl_isPort.f a5).bind fun t312 => (impl_FlowFind.j0 k l0 a1 a2 a3 a4 a5 (!t312))) else (impl_FlowFind.j0 k l0 a1 a2 a3 a4 a5 true))) else (impl_FlowFind.j0 k l0 a1 a2 a3 a4 a5 true))) else (impl_FlowFind.j0 k l0 a1 a2 a3 a4 a5 true))) else (impl_FlowFind.j0 k l0 a1 a2 a3 a4 a5 true))) else (some (0, false, t307))) = some (r1, r2, r3) := H
  have A7 := Aside0.mk A70
  clear A70
  by_cases c8 : t307 = 0
  · rw [if_pos c8] at H
    have c8b0 : (t307 == 0) = true := beq_iff_eq.mpr c8
    have c8b1 : (t307 != 0) = false := bne_eq_false_iff_eq.mpr c8
    clear c8
    have HC9 := Aside0.mk H
    clear H
    go_enter Try.func32, Try.ntmps32
    go_upto_region 4 with (first | ((with_reducible refine gate_callee (f := 81) rfl ?_); refine goesL_ (some 19) rfl rfl Try.func81 (by kernel_rfl) rfl #[.slice A0 l0.length c0] rfl (by (try simp only [List.map_toArray, List.map_cons, List.map_nil]); first | done | rfl | (simp only [List.length_drop, List.length_take]; rfl)) ?_; (with_reducible refine (impl_flowsFault.calls k _ _ l0 t307 _ ?side1 ?side2 A7.out).mono ?_); (case side1 => repeat (first | exact HR0.out | (with_reducible refine Kd.C_alloc ?_ _) | (with_reducible refine Kd.C_drewN ?_ _) | (with_reducible refine Kd.C_drew ?_))); (case side2 => exact HC0.out); rintro e w10 ⟨rfl, hb⟩; refine ⟨_, rfl, ?_⟩; have n0_ := Aside0.mk (below_step (by repeat (first | (with_reducible first | exact HB.out | apply below_alloc | apply pw_below_drewN | apply below_drew1) | exact HB.out)) hb); clear HB; have HB := n0_; clear n0_; (try clear hb); (try clear hb2); (try clear hk); (try clear hi)))
    (try simp only [Act.put, List.setIfInBounds_toArray, List.set_cons_zero, List.set_cons_succ])
    go_cut [45] (fun v45 wc => ∃ (kq : Nat) (x45_8 : Bool), v45 = .bool x45_8 ∧ Aside0 (impl_FlowFind.j0 kq l0 a1 a2 a3 a4 a5 x45_8 = some (r1, r2, r3)) ∧ Aside0 (kq ≤ k) ∧ Aside0 (Below w.heap.size w wc))
    case first =>
      have H := HC9.out
      clear HC9
      replace H := Option.bind_eq_some_iff.mp H
      obtain ⟨t308, A110, H⟩ := H
      replace H : (if t308 = true then ((impl_isAddress.f a2).bind fun t309 => (if t309 = true then ((impl_isAddress.f a4).bind fun t310 => (if t310 = true then ((impl_isPort.f a3).bind fun t311 => (if t311 = true then ((impl_isPort.f a5).bind fun t312 => (impl_FlowFind.j0 k l0 a1 a2 a3 a4 a5 (!t312))) else (impl_FlowFind.j0 k l0 a1 a2 a3 a4 a5 true))) else (impl_FlowFind.j0 k l0 a1 a2 a3 a4 a5 true))) else (impl_FlowFind.j0 k l0 a1 a2 a3 a4 a5 true))) else (impl_FlowFind.j0 k l0 a1 a2 a3 a4 a5 true)) = some (r1, r2, r3) := H
      have A11 := Aside0.mk A110
      clear A110
      by_cases c12 : t308 = true
      · subst c12
        have H1 : ((impl_isAddress.f a2).bind fun t309 => (if t309 = true then ((impl_isAddress.f a4).bind fun t310 => (if t310 = true then ((impl_isPort.f a3).bind fun t311 => (if t311 = true then ((impl_isPort.f a5).bind fun t312 => (impl_FlowFind.j0 k l0 a1 a2 a3 a4 a5 (!t312))) else (impl_FlowFind.j0 k l0 a1 a2 a3 a4 a5 true))) else (impl_FlowFind.j0 k l0 a1 a2 a3 a4 a5 true))) else (impl_FlowFind.j0 k l0 a1 a2 a3 a4 a5 true))) = some (r1, r2, r3) := by rw [if_pos rfl] at H; exact H
        clear H
        have H := H1
        clear H1
        replace H := Option.bind_eq_some_iff.mp H
        obtain ⟨t309, A130, H⟩ := H
        replace H : (if t309 = true then ((impl_isAddress.f a4).bind fun t310 => (if t310 = true then ((impl_isPort.f a3).bind fun t311 => (if t311 = true then ((impl_isPort.f a5).bind fun t312 => (impl_FlowFind.j0 k l0 a1 a2 a3 a4 a5 (!t312))) else (impl_FlowFind.j0 k l0 a1 a2 a3 a4 a5 true))) else (impl_FlowFind.j0 k l0 a1 a2 a3 a4 a5 true))) else (impl_FlowFind.j0 k l0 a1 a2 a3 a4 a5 true)) = some (r1, r2, r3) := H
        have A13 := Aside0.mk A130
        clear A130
        by_cases c14 : t309 = true
        · subst c14
          have H1 : ((impl_isAddress.f a4).bind fun t310 => (if t310 = true then ((impl_isPort.f a3).bind fun t311 => (if t311 = true then ((impl_isPort.f a5).bind fun t312 => (impl_FlowFind.j0 k l0 a1 a2 a3 a4 a5 (!t312))) else (impl_FlowFind.j0 k l0 a1 a2 a3 a4 a5 true))) else (impl_FlowFind.j0 k l0 a1 a2 a3 a4 a5 true))) = some (r1, r2, r3) := by rw [if_pos rfl] at H; exact H
          clear H
          have H := H1
          clear H1
          replace H := Option.bind_eq_some_iff.mp H
          obtain ⟨t310, A150, H⟩ := H
          replace H : (if t310 = true then ((impl_isPort.f a3).bind fun t311 => (if t311 = true then ((impl_isPort.f a5).bind fun t312 => (impl_FlowFind.j0 k l0 a1 a2 a3 a4 a5 (!t312))) else (impl_FlowFind.j0 k l0 a1 a2 a3 a4 a5 true))) else (impl_FlowFind.j0 k l0 a1 a2 a3 a4 a5 true)) = some (r1, r2, r3) := H
          have A15 := Aside0.mk A150
          clear A150
          by_cases c16 : t310 = true
          · subst c16
            have H1 : ((impl_isPort.f a3).bind fun t311 => (if t311 = true then ((impl_isPort.f a5).bind fun t312 => (impl_FlowFind.j0 k l0 a1 a2 a3 a4 a5 (!t312))) else (impl_FlowFind.j0 k l0 a1 a2 a3 a4 a5 true))) = some (r1, r2, r3) := by rw [if_pos rfl] at H; exact H
            clear H
            have H := H1
            clear H1
            replace H := Option.bind_eq_some_iff.mp H
            obtain ⟨t311, A170, H⟩ := H
            replace H : (if t311 = true then ((impl_isPort.f a5).bind fun t312 => (impl_FlowFind.j0 k l0 a1 a2 a3 a4 a5 (!t312))) else (impl_FlowFind.j0 k l0 a1 a2 a3 a4 a5 true)) = some (r1, r2, r3) := H
            have A17 := Aside0.mk A170
            clear A170
            by_cases c18 : t311 = true
            · subst c18
              have H1 : ((impl_isPort.f a5).bind fun t312 => (impl_FlowFind.j0 k l0 a1 a2 a3 a4 a5 (!t312))) = some (r1, r2, r3) := by rw [if_pos rfl] at H; exact H
              clear H
              have H := H1
              clear H1
              replace H := Option.bind_eq_some_iff.mp H
              obtain ⟨t312, A190, H⟩ := H
              replace H : (impl_FlowFind.j0 k l0 a1 a2 a3 a4 a5 (!t312)) = some (r1, r2, r3) := H
              have A19 := Aside0.mk A190
              clear A190
              have H' := Aside0.mk H
              clear H
              go_wp2_with (first | ((with_reducible refine gate_callee (f := 66) rfl ?_); refine goesL_ (some 24) rfl rfl Try.func66 (by kernel_rfl) rfl #[.int .i64 a1] rfl (by (try simp only [List.map_toArray, List.map_cons, List.map_nil]); first | done | rfl | (simp only [List.length_drop, List.length_take]; rfl)) ?_; (with_reducible refine (impl_isProto.calls a1 true _ A11.out).mono ?_); rintro e w' ⟨rfl, ⟨nd, rfl⟩⟩; refine ⟨_, rfl, ?_⟩) | (go_at_call 61; (with_reducible refine (impl_isAddress.calls a2 true _ A13.out).mono ?_); rintro e w' ⟨rfl, ⟨nd, rfl⟩⟩) | (go_at_call 61; (with_reducible refine (impl_isAddress.calls a4 true _ A15.out).mono ?_); rintro e w' ⟨rfl, ⟨nd, rfl⟩⟩) | (go_at_call 73; (with_reducible refine (impl_isPort.calls a3 true _ A17.out).mono ?_); rintro e w' ⟨rfl, ⟨nd, rfl⟩⟩) | (go_at_call 73; (with_reducible refine (impl_isPort.calls a5 t312 _ A19.out).mono ?_); rintro e w' ⟨rfl, ⟨nd, rfl⟩⟩))
              go_meet
              case rel => exact ⟨_, (!t312), (by first | rfl | (simp; done) | (simp [*]; done) | (simp [ne_nil_b]; done) | (simp [ne_nil_b, *]; done)), H', ⟨by first | omega | exact Nat.le_refl _⟩, ⟨by repeat (first | (with_reducible first | exact HB.out | apply below_alloc | apply pw_below_drewN | apply below_drew1) | exact HB.out)⟩⟩
            · replace c18 := Bool.eq_false_iff.mpr c18
              subst c18
              have H1 : (impl_FlowFind.j0 k l0 a1 a2 a3 a4 a5 true) = some (r1, r2, r3) := by rw [if_neg (show ¬ (false = true) by decide)] at H; exact H
              clear H
              have H := H1
              clear H1
              have H' := Aside0.mk H
              clear H
              go_wp2_with (first | ((with_reducible refine gate_callee (f := 66) rfl ?_); refine goesL_ (some 24) rfl rfl Try.func66 (by kernel_rfl) rfl #[.int .i64 a1] rfl (by (try simp only [List.map_toArray, List.map_cons, List.map_nil]); first | done | rfl | (simp only [List.length_drop, List.length_take]; rfl)) ?_; (with_reducible refine (impl_isProto.calls a1 true _ A11.out).mono ?_); rintro e w' ⟨rfl, ⟨nd, rfl⟩⟩; refine ⟨_, rfl, ?_⟩) | (go_at_call 61; (with_reducible refine (impl_isAddress.calls a2 true _ A13.out).mono ?_); rintro e w' ⟨rfl, ⟨nd, rfl⟩⟩) | (go_at_call 61; (with_reducible refine (impl_isAddress.calls a4 true _ A15.out).mono ?_); rintro e w' ⟨rfl, ⟨nd, rfl⟩⟩) | (go_at_call 73; (with_reducible refine (impl_isPort.calls a3 false _ A17.out).mono ?_); rintro e w' ⟨rfl, ⟨nd, rfl⟩⟩))
              go_meet
              case rel => exact ⟨_, (true), (by first | rfl | (simp; done) | (simp [*]; done) | (simp [ne_nil_b]; done) | (simp [ne_nil_b, *]; done)), H', ⟨by first | omega | exact Nat.le_refl _⟩, ⟨by repeat (first | (with_reducible first | exact HB.out | apply below_alloc | apply pw_below_drewN | apply below_drew1) | exact HB.out)⟩⟩
          · replace c16 := Bool.eq_false_iff.mpr c16
            subst c16
            have H1 : (impl_FlowFind.j0 k l0 a1 a2 a3 a4 a5 true) = some (r1, r2, r3) := by rw [if_neg (show ¬ (false = true) by decide)] at H; exact H
            clear H
            have H := H1
            clear H1
            have H' := Aside0.mk H
            clear H
            go_wp2_with (first | ((with_reducible refine gate_callee (f := 66) rfl ?_); refine goesL_ (some 24) rfl rfl Try.func66 (by kernel_rfl) rfl #[.int .i64 a1] rfl (by (try simp only [List.map_toArray, List.map_cons, List.map_nil]); first | done | rfl | (simp only [List.length_drop, List.length_take]; rfl)) ?_; (with_reducible refine (impl_isProto.calls a1 true _ A11.out).mono ?_); rintro e w' ⟨rfl, ⟨nd, rfl⟩⟩; refine ⟨_, rfl, ?_⟩) | (go_at_call 61; (with_reducible refine (impl_isAddress.calls a2 true _ A13.out).mono ?_); rintro e w' ⟨rfl, ⟨nd, rfl⟩⟩) | (go_at_call 61; (with_reducible refine (impl_isAddress.calls a4 false _ A15.out).mono ?_); rintro e w' ⟨rfl, ⟨nd, rfl⟩⟩))
            go_meet
            case rel => exact ⟨_, (true), (by first | rfl | (simp; done) | (simp [*]; done) | (simp [ne_nil_b]; done) | (simp [ne_nil_b, *]; done)), H', ⟨by first | omega | exact Nat.le_refl _⟩, ⟨by repeat (first | (with_reducible first | exact HB.out | apply below_alloc | apply pw_below_drewN | apply below_drew1) | exact HB.out)⟩⟩
        · replace c14 := Bool.eq_false_iff.mpr c14
          subst c14
          have H1 : (impl_FlowFind.j0 k l0 a1 a2 a3 a4 a5 true) = some (r1, r2, r3) := by rw [if_neg (show ¬ (false = true) by decide)] at H; exact H
          clear H
          have H := H1
          clear H1
          have H' := Aside0.mk H
          clear H
          go_wp2_with (first | ((with_reducible refine gate_callee (f := 66) rfl ?_); refine goesL_ (some 24) rfl rfl Try.func66 (by kernel_rfl) rfl #[.int .i64 a1] rfl (by (try simp only [List.map_toArray, List.map_cons, List.map_nil]); first | done | rfl | (simp only [List.length_drop, List.length_take]; rfl)) ?_; (with_reducible refine (impl_isProto.calls a1 true _ A11.out).mono ?_); rintro e w' ⟨rfl, ⟨nd, rfl⟩⟩; refine ⟨_, rfl, ?_⟩) | (go_at_call 61; (with_reducible refine (impl_isAddress.calls a2 false _ A13.out).mono ?_); rintro e w' ⟨rfl, ⟨nd, rfl⟩⟩))
          go_meet
          case rel => exact ⟨_, (true), (by first | rfl | (simp; done) | (simp [*]; done) | (simp [ne_nil_b]; done) | (simp [ne_nil_b, *]; done)), H', ⟨by first | omega | exact Nat.le_refl _⟩, ⟨by repeat (first | (with_reducible first | exact HB.out | apply below_alloc | apply pw_below_drewN | apply below_drew1) | exact HB.out)⟩⟩
      · replace c12 := Bool.eq_false_iff.mpr c12
        subst c12
        have H1 : (impl_FlowFind.j0 k l0 a1 a2 a3 a4 a5 true) = some (r1, r2, r3) := by rw [if_neg (show ¬ (false = true) by decide)] at H; exact H
        clear H
        have H := H1
        clear H1
        have H' := Aside0.mk H
        clear H
        go_wp2_with (first | ((with_reducible refine gate_callee (f := 66) rfl ?_); refine goesL_ (some 24) rfl rfl Try.func66 (by kernel_rfl) rfl #[.int .i64 a1] rfl (by (try simp only [List.map_toArray, List.map_cons, List.map_nil]); first | done | rfl | (simp only [List.length_drop, List.length_take]; rfl)) ?_; (with_reducible refine (impl_isProto.calls a1 false _ A11.out).mono ?_); rintro e w' ⟨rfl, ⟨nd, rfl⟩⟩; refine ⟨_, rfl, ?_⟩))
        go_meet
        case rel => exact ⟨_, (true), (by first | rfl | (simp; done) | (simp [*]; done) | (simp [ne_nil_b]; done) | (simp [ne_nil_b, *]; done)), H', ⟨by first | omega | exact Nat.le_refl _⟩, ⟨by repeat (first | (with_reducible first | exact HB.out | apply below_alloc | apply pw_below_drewN | apply below_drew1) | exact HB.out)⟩⟩
    case rest =>
      clear HC9
      try clear c1
      try clear p2
      try clear c3
      try clear c6
      try clear c8
      try clear c8b0
      try clear c8b1
      try clear c12
      try clear c14
      try clear c16
      try clear c18
      obtain ⟨kq, x45_8, rfl, HA, HJ8, HB⟩ := hcut
      cases kq with
      | zero => exact absurd HA.out (by simp [impl_FlowFind.j0])
      | succ kj8 =>
        have H := HA.out
        clear HA
        simp only [impl_FlowFind.j0] at H
        by_cases c20 : x45_8 = true
        · subst c20
          have H1 : (some (0, false, 4)) = some (r1, r2, r3) := by rw [if_pos rfl] at H; exact H
          clear H
          have H := H1
          clear H1
          simp only [Option.some.injEq, Prod.mk.injEq] at H
          obtain ⟨rfl, rfl, rfl⟩ := H
          go_wp2
          go_ret3
          exact ⟨by first | rfl | (simp [errW_none, errW_some] <;> rfl) | (simp [*, errW_none, errW_some] <;> rfl), by repeat (first | (with_reducible first | exact HB.out | apply below_alloc | apply pw_below_drewN | apply below_drew1) | exact HB.out)⟩
        · replace c20 := Bool.eq_false_iff.mpr c20
          subst c20
          have H1 : ((impl_find.f kj8 l0 a1 a2 a3 a4 a5).bind fun bt313 => (if bt313.1 < 0 then (some (0, false, 5)) else (some (bt313.1, bt313.2, 0)))) = some (r1, r2, r3) := by rw [if_neg (show ¬ (false = true) by decide)] at H; exact H
          clear H
          have H := H1
          clear H1
          replace H := Option.bind_eq_some_iff.mp H
          obtain ⟨⟨t313, t314⟩, A210, H⟩ := H
          replace H : (if t313 < 0 then (some (0, false, 5)) else (some (t313, t314, 0))) = some (r1, r2, r3) := H
          have A21 := Aside0.mk A210
          clear A210
          by_cases c22 : t313 < 0
          · rw [if_pos c22] at H
            have c22b0 : decide (t313 < 0) = true := decide_eq_true c22
            clear c22
            simp only [Option.some.injEq, Prod.mk.injEq] at H
            obtain ⟨rfl, rfl, rfl⟩ := H
            go_wp2_with (first | ((with_reducible refine gate_callee (f := 78) rfl ?_); refine goesL_ (some 53) rfl rfl Try.func78 (by kernel_rfl) rfl #[.slice A0 l0.length c0, .int .i64 a1, .int .i64 a2, .int .i64 a3, .int .i64 a4, .int .i64 a5] rfl (by (try simp only [List.map_toArray, List.map_cons, List.map_nil]); first | done | rfl | (simp only [List.length_drop, List.length_take]; rfl)) ?_; (with_reducible refine (impl_find.calls kj8 _ _ l0 a1 a2 a3 a4 a5 t313 t314 _ ?side1 ?side2 A21.out).mono ?_); (case side1 => repeat (first | exact (Kd.C_below HR0.out HB.out) | (with_reducible refine Kd.C_alloc ?_ _) | (with_reducible refine Kd.C_drewN ?_ _) | (with_reducible refine Kd.C_drew ?_))); (case side2 => exact HC0.out); rintro e w23 ⟨rfl, hb⟩; refine ⟨_, rfl, ?_⟩; have n0_ := Aside0.mk (below_step (by repeat (first | (with_reducible first | exact HB.out | apply below_alloc | apply pw_below_drewN | apply below_drew1) | exact HB.out)) hb); clear HB; have HB := n0_; clear n0_; (try clear hb); (try clear hb2); (try clear hk); (try clear hi)))
            go_ret3
            exact ⟨by first | rfl | (simp [errW_none, errW_some] <;> rfl) | (simp [*, errW_none, errW_some] <;> rfl), by repeat (first | (with_reducible first | exact HB.out | apply below_alloc | apply pw_below_drewN | apply below_drew1) | exact HB.out)⟩
          · rw [if_neg c22] at H
            have c22b0 : decide (t313 < 0) = false := decide_eq_false c22
            clear c22
            simp only [Option.some.injEq, Prod.mk.injEq] at H
            obtain ⟨rfl, rfl, rfl⟩ := H
            go_wp2_with (first | ((with_reducible refine gate_callee (f := 78) rfl ?_); refine goesL_ (some 53) rfl rfl Try.func78 (by kernel_rfl) rfl #[.slice A0 l0.length c0, .int .i64 a1, .int .i64 a2, .int .i64 a3, .int .i64 a4, .int .i64 a5] rfl (by (try simp only [List.map_toArray, List.map_cons, List.map_nil]); first | done | rfl | (simp only [List.length_drop, List.length_take]; rfl)) ?_; (with_reducible refine (impl_find.calls kj8 _ _ l0 a1 a2 a3 a4 a5 t313 t314 _ ?side1 ?side2 A21.out).mono ?_); (case side1 => repeat (first | exact (Kd.C_below HR0.out HB.out) | (with_reducible refine Kd.C_alloc ?_ _) | (with_reducible refine Kd.C_drewN ?_ _) | (with_reducible refine Kd.C_drew ?_))); (case side2 => exact HC0.out); rintro e w24 ⟨rfl, hb⟩; refine ⟨_, rfl, ?_⟩; have n0_ := Aside0.mk (below_step (by repeat (first | (with_reducible first | exact HB.out | apply below_alloc | apply pw_below_drewN | apply below_drew1) | exact HB.out)) hb); clear HB; have HB := n0_; clear n0_; (try clear hb); (try clear hb2); (try clear hk); (try clear hi)))
            go_ret3
            exact ⟨by first | rfl | (simp [errW_none, errW_some] <;> rfl) | (simp [*, errW_none, errW_some] <;> rfl), by repeat (first | (with_reducible first | exact HB.out | apply below_alloc | apply pw_below_drewN | apply below_drew1) | exact HB.out)⟩
  · rw [if_neg c8] at H
    have c8b0 : (t307 == 0) = false := beq_eq_false_iff_ne.mpr c8
    have c8b1 : (t307 != 0) = true := bne_iff_ne.mpr c8
    simp only [Option.some.injEq, Prod.mk.injEq] at H
    obtain ⟨rfl, rfl, rfl⟩ := H
    go_enter Try.func32, Try.ntmps32
    go_wp2_with (first | ((with_reducible refine gate_callee (f := 81) rfl ?_); refine goesL_ (some 19) rfl rfl Try.func81 (by kernel_rfl) rfl #[.slice A0 l0.length c0] rfl (by (try simp only [List.map_toArray, List.map_cons, List.map_nil]); first | done | rfl | (simp only [List.length_drop, List.length_take]; rfl)) ?_; (with_reducible refine (impl_flowsFault.calls k _ _ l0 t307 _ ?side1 ?side2 A7.out).mono ?_); (case side1 => repeat (first | exact HR0.out | (with_reducible refine Kd.C_alloc ?_ _) | (with_reducible refine Kd.C_drewN ?_ _) | (with_reducible refine Kd.C_drew ?_))); (case side2 => exact HC0.out); rintro e w25 ⟨rfl, hb⟩; refine ⟨_, rfl, ?_⟩; have n0_ := Aside0.mk (below_step (by repeat (first | (with_reducible first | exact HB.out | apply below_alloc | apply pw_below_drewN | apply below_drew1) | exact HB.out)) hb); clear HB; have HB := n0_; clear n0_; (try clear hb); (try clear hb2); (try clear hk); (try clear hi)))
    go_ret3
    exact ⟨by first | rfl | (simp [errW_none, errW_some] <;> rfl) | (simp [*, errW_none, errW_some] <;> rfl), by repeat (first | (with_reducible first | exact HB.out | apply below_alloc | apply pw_below_drewN | apply below_drew1) | exact HB.out)⟩
end
section
/-! ### laws_FnExactFlowFind: function 8 -/
def laws_FnExactFlowFind.j0 : Nat → List (S68) → List (S71) → Bool → Option (Bool)
  | 0, _, _, _ => none
  | k + 1, x0, x17, x63 => if x63 = true then (some false) else ((laws_toFlowS.f k x0).bind fun t328 => ((laws_eqFlowS.f k x17 t328).bind fun t331 => (if t331 = true then (some true) else (some false))))
def laws_FnExactFlowFind.f (k : Nat) (l0 : List (S68)) (a1 : Int) (a2 : Int) (a3 : Int) (a4 : Int) (a5 : Int) : Option (Bool) := (laws_szFlowS.f k l0 1048576).bind fun t315 => (if t315 < 0 then (some true) else ((laws_toFlowS.f k l0).bind fun t316 => ((spec_FlowFind.f k t316 a1 a2 a3 a4 a5).bind fun bt319 => ((laws_toFlowS.f k l0).bind fun t322 => ((impl_FlowFind.f k t322 a1 a2 a3 a4 a5).bind fun bt325 => (if bt325.1 = bt319.1 then (if (bt325.2.1 != bt319.2.1) = true then (laws_FnExactFlowFind.j0 k l0 t322 true) else (laws_FnExactFlowFind.j0 k l0 t322 (bt325.2.2 != bt319.2.2))) else (laws_FnExactFlowFind.j0 k l0 t322 true)))))))
theorem laws_FnExactFlowFind.mono_l : ∀ k, (∀ y0 y1 y2, LeO (laws_FnExactFlowFind.j0 k y0 y1 y2) (laws_FnExactFlowFind.j0 (k + 1) y0 y1 y2))
  | 0 => fun _ _ _ r h => by simp [laws_FnExactFlowFind.j0] at h
  | k + 1 => by
    have ih0 := laws_FnExactFlowFind.mono_l k
    · intro y0 y1 y2
      unfold laws_FnExactFlowFind.j0
      repeat' first
      | (with_reducible exact ih0 _ _ _)
      | (with_reducible exact impl_FlowFind.mono _ _ _ _ _ _ _)
      | (with_reducible exact laws_eqFlowS.mono _ _ _)
      | (with_reducible exact laws_szFlowS.mono _ _ _)
      | (with_reducible exact laws_toFlowS.mono _ _)
      | (with_reducible exact spec_FlowFind.mono _ _ _ _ _ _ _)
      | (with_reducible exact LeO.refl _)
      | (with_reducible exact LeO.none _)
      | (with_reducible refine LeO.ite ?_ ?_)
      | (with_reducible refine LeO.bind ?_ (fun _ => ?_))
      | exact ih0 _ _ _
      | exact impl_FlowFind.mono _ _ _ _ _ _ _
      | exact laws_eqFlowS.mono _ _ _
      | exact laws_szFlowS.mono _ _ _
      | exact laws_toFlowS.mono _ _
      | exact spec_FlowFind.mono _ _ _ _ _ _ _
      | exact LeO.none _
      | refine LeO.ite ?_ ?_
      | refine LeO.bind ?_ (fun _ => ?_)
theorem laws_FnExactFlowFind.mono : ∀ a0 a1 a2 a3 a4 a5 k, LeO (laws_FnExactFlowFind.f k a0 a1 a2 a3 a4 a5) (laws_FnExactFlowFind.f (k + 1) a0 a1 a2 a3 a4 a5) := by
  intro a0 a1 a2 a3 a4 a5 k
  have ih0 := laws_FnExactFlowFind.mono_l k
  unfold laws_FnExactFlowFind.f
  repeat' first
      | (with_reducible exact ih0 _ _ _)
      | (with_reducible exact impl_FlowFind.mono _ _ _ _ _ _ _)
      | (with_reducible exact laws_eqFlowS.mono _ _ _)
      | (with_reducible exact laws_szFlowS.mono _ _ _)
      | (with_reducible exact laws_toFlowS.mono _ _)
      | (with_reducible exact spec_FlowFind.mono _ _ _ _ _ _ _)
      | (with_reducible exact LeO.refl _)
      | (with_reducible exact LeO.none _)
      | (with_reducible refine LeO.ite ?_ ?_)
      | (with_reducible refine LeO.bind ?_ (fun _ => ?_))
      | exact ih0 _ _ _
      | exact impl_FlowFind.mono _ _ _ _ _ _ _
      | exact laws_eqFlowS.mono _ _ _
      | exact laws_szFlowS.mono _ _ _
      | exact laws_toFlowS.mono _ _
      | exact spec_FlowFind.mono _ _ _ _ _ _ _
      | exact LeO.none _
      | refine LeO.ite ?_ ?_
      | refine LeO.bind ?_ (fun _ => ?_)
set_option maxHeartbeats 8000000 in
set_option maxRecDepth 100000 in
theorem laws_FnExactFlowFind.calls (k : Nat) (A0 : Option Addr) (c0 : Nat) (l0 : List (S68)) (a1 : Int) (a2 : Int) (a3 : Int) (a4 : Int) (a5 : Int) (r : Bool) (w : World) (hr0 : Kd.C k68 w A0 l0.length l0) (hc0 : l0.length ≤ c0) (h : laws_FnExactFlowFind.f k l0 a1 a2 a3 a4 a5 = some r) :
    Calls Try.prog 8 #[.slice A0 l0.length c0, .int .i64 a1, .int .i64 a2, .int .i64 a3, .int .i64 a4, .int .i64 a5] w fun e w' => e = .returned (.bool r) ∧ Below w.heap.size w w' := by
  have HR0 := Aside0.mk hr0
  have HC0 := Aside0.mk hc0
  clear hr0 hc0
  have HB := Aside0.mk (Below.refl w.heap.size w)
  have H : ((laws_szFlowS.f k l0 1048576).bind fun t315 => (if t315 < 0 then (some true) else ((laws_toFlowS.f k l0).bind fun t316 => ((spec_FlowFind.f k t316 a1 a2 a3 a4 a5).bind fun bt319 => ((laws_toFlowS.f k l0).bind fun t322 => ((impl_FlowFind.f k t322 a1 a2 a3 a4 a5).bind fun bt325 => (if bt325.1 = bt319.1 then (if (bt325.2.1 != bt319.2.1) = true then (laws_FnExactFlowFind.j0 k l0 t322 true) else (laws_FnExactFlowFind.j0 k l0 t322 (bt325.2.2 != bt319.2.2))) else (laws_FnExactFlowFind.j0 k l0 t322 true)))))))) = some r := h
  clear h
  replace H := Option.bind_eq_some_iff.mp H
  obtain ⟨t315, A70, H⟩ := H
  replace H : (if t315 < 0 then (some true) else ((laws_toFlowS.f k l0).bind fun t316 => ((spec_FlowFind.f k t316 a1 a2 a3 a4 a5).bind fun bt319 => ((laws_toFlowS.f k l0).bind fun t322 => ((impl_FlowFind.f k t322 a1 a2 a3 a4 a5).bind fun bt325 => (if bt325.1 = bt319.1 then (if (bt325.2.1 != bt319.2.1) = true then (laws_FnExactFlowFind.j0 k l0 t322 true) else (laws_FnExactFlowFind.j0 k l0 t322 (bt325.2.2 != bt319.2.2))) else (laws_FnExactFlowFind.j0 k l0 t322 true))))))) = some r := H
  have A7 := Aside0.mk A70
  clear A70
  by_cases c8 : t315 < 0
  · rw [if_pos c8] at H
    have c8b0 : decide (t315 < 0) = true := decide_eq_true c8
    clear c8
    obtain rfl := Option.some.inj H
    go_enter Try.func8, Try.ntmps8
    go_wp2_with (first | ((with_reducible refine gate_callee (f := 26) rfl ?_); refine goesL_ (some 23) rfl rfl Try.func26 (by kernel_rfl) rfl #[.slice A0 l0.length c0, .int .i64 1048576] rfl (by (try simp only [List.map_toArray, List.map_cons, List.map_nil]); first | done | rfl | (simp only [List.length_drop, List.length_take]; rfl)) ?_; (with_reducible refine (laws_szFlowS.calls k _ _ l0 1048576 t315 _ ?side1 ?side2 A7.out).mono ?_); (case side1 => repeat (first | exact HR0.out | (with_reducible refine Kd.C_alloc ?_ _) | (with_reducible refine Kd.C_drewN ?_ _) | (with_reducible refine Kd.C_drew ?_))); (case side2 => exact HC0.out); rintro e w9 ⟨rfl, hb⟩; refine ⟨_, rfl, ?_⟩; have n0_ := Aside0.mk (below_step (by repeat (first | (with_reducible first | exact HB.out | apply below_alloc | apply pw_below_drewN | apply below_drew1) | exact HB.out)) hb); clear HB; have HB := n0_; clear n0_; (try clear hb); (try clear hb2); (try clear hk); (try clear hi)))
    go_ret
    exact ⟨by first | rfl | (simp [errW_none, errW_some] <;> rfl) | (simp [*, errW_none, errW_some] <;> rfl), by repeat (first | (with_reducible first | exact HB.out | apply below_alloc | apply pw_below_drewN | apply below_drew1) | exact HB.out)⟩
  · rw [if_neg c8] at H
    have c8b0 : decide (t315 < 0) = false := decide_eq_false c8
    clear c8
    replace H := Option.bind_eq_some_iff.mp H
    obtain ⟨t316, A100, H⟩ := H
    replace H : ((spec_FlowFind.f k t316 a1 a2 a3 a4 a5).bind fun bt319 => ((laws_toFlowS.f k l0).bind fun t322 => ((impl_FlowFind.f k t322 a1 a2 a3 a4 a5).bind fun bt325 => (if bt325.1 = bt319.1 then (if (bt325.2.1 != bt319.2.1) = true then (laws_FnExactFlowFind.j0 k l0 t322 true) else (laws_FnExactFlowFind.j0 k l0 t322 (bt325.2.2 != bt319.2.2))) else (laws_FnExactFlowFind.j0 k l0 t322 true))))) = some r := H
    have A10 := Aside0.mk A100
    clear A100
    replace H := Option.bind_eq_some_iff.mp H
    obtain ⟨⟨t319, t320, t321⟩, A110, H⟩ := H
    replace H : ((laws_toFlowS.f k l0).bind fun t322 => ((impl_FlowFind.f k t322 a1 a2 a3 a4 a5).bind fun bt325 => (if bt325.1 = t319 then (if (bt325.2.1 != t320) = true then (laws_FnExactFlowFind.j0 k l0 t322 true) else (laws_FnExactFlowFind.j0 k l0 t322 (bt325.2.2 != t321))) else (laws_FnExactFlowFind.j0 k l0 t322 true)))) = some r := H
    have A11 := Aside0.mk A110
    clear A110
    replace H := Option.bind_eq_some_iff.mp H
    obtain ⟨t322, A120, H⟩ := H
    replace H : ((impl_FlowFind.f k t322 a1 a2 a3 a4 a5).bind fun bt325 => (if bt325.1 = t319 then (if (bt325.2.1 != t320) = true then (laws_FnExactFlowFind.j0 k l0 t322 true) else (laws_FnExactFlowFind.j0 k l0 t322 (bt325.2.2 != t321))) else (laws_FnExactFlowFind.j0 k l0 t322 true))) = some r := H
    have A12 := Aside0.mk A120
    clear A120
    replace H := Option.bind_eq_some_iff.mp H
    obtain ⟨⟨t325, t326, t327⟩, A130, H⟩ := H
    replace H : (if t325 = t319 then (if (t326 != t320) = true then (laws_FnExactFlowFind.j0 k l0 t322 true) else (laws_FnExactFlowFind.j0 k l0 t322 (t327 != t321))) else (laws_FnExactFlowFind.j0 k l0 t322 true)) = some r := H
    have A13 := Aside0.mk A130
    clear A130
    have HC14 := Aside0.mk H
    clear H
    go_enter Try.func8, Try.ntmps8
    go_upto_region 8 with (first | ((with_reducible refine gate_callee (f := 26) rfl ?_); refine goesL_ (some 23) rfl rfl Try.func26 (by kernel_rfl) rfl #[.slice A0 l0.length c0, .int .i64 1048576] rfl (by (try simp only [List.map_toArray, List.map_cons, List.map_nil]); first | done | rfl | (simp only [List.length_drop, List.length_take]; rfl)) ?_; (with_reducible refine (laws_szFlowS.calls k _ _ l0 1048576 t315 _ ?side1 ?side2 A7.out).mono ?_); (case side1 => repeat (first | exact HR0.out | (with_reducible refine Kd.C_alloc ?_ _) | (with_reducible refine Kd.C_drewN ?_ _) | (with_reducible refine Kd.C_drew ?_))); (case side2 => exact HC0.out); rintro e w15 ⟨rfl, hb⟩; refine ⟨_, rfl, ?_⟩; have n0_ := Aside0.mk (below_step (by repeat (first | (with_reducible first | exact HB.out | apply below_alloc | apply pw_below_drewN | apply below_drew1) | exact HB.out)) hb); clear HB; have HB := n0_; clear n0_; (try clear hb); (try clear hb2); (try clear hk); (try clear hi)) | ((with_reducible refine gate_callee (f := 28) rfl ?_); refine goesL_ (some 28) rfl rfl Try.func28 (by kernel_rfl) rfl #[.slice A0 l0.length c0] rfl (by (try simp only [List.map_toArray, List.map_cons, List.map_nil]); first | done | rfl | (simp only [List.length_drop, List.length_take]; rfl)) ?_; (with_reducible refine (laws_toFlowS.calls k _ _ l0 t316 _ ?side1 ?side2 A10.out).mono ?_); (case side1 => repeat (first | exact (Kd.C_below HR0.out HB.out) | (with_reducible refine Kd.C_alloc ?_ _) | (with_reducible refine Kd.C_drewN ?_ _) | (with_reducible refine Kd.C_drew ?_))); (case side2 => exact HC0.out); rintro e w16 ⟨v317, rfl, ho0, hb⟩; refine ⟨_, rfl, ?_⟩; have n0_ := Aside0.mk (Kd.R_lower ho0 (below_size (by repeat (first | (with_reducible first | exact HB.out | apply below_alloc | apply pw_below_drewN | apply below_drew1) | exact HB.out)))); have n1_ := Aside0.mk (below_step (by repeat (first | (with_reducible first | exact HB.out | apply below_alloc | apply pw_below_drewN | apply below_drew1) | exact HB.out)) hb); clear HB; have HO318 := n0_; have HB := n1_; clear n0_ n1_; (try clear hb); (try clear hb2); (try clear hk); (try clear hi); (try clear ho0); obtain ⟨Ao17, co17, eo17⟩ := Kd.R_slice HO318.out; subst eo17) | ((with_reducible refine gate_callee (f := 31) rfl ?_); refine goesL_ (some 34) rfl rfl Try.func31 (by kernel_rfl) rfl #[.slice Ao17 t316.length co17, .int .i64 a1, .int .i64 a2, .int .i64 a3, .int .i64 a4, .int .i64 a5] rfl (by (try simp only [List.map_toArray, List.map_cons, List.map_nil]); first | done | rfl | (simp only [List.length_drop, List.length_take]; rfl)) ?_; (with_reducible refine (spec_FlowFind.calls k _ _ t316 a1 a2 a3 a4 a5 t319 t320 t321 _ ?side1 ?side2 A11.out).mono ?_); (case side1 => repeat (first | exact (Kd.R_reads' HO318.out).2.2 | (with_reducible refine Kd.C_alloc ?_ _) | (with_reducible refine Kd.C_drewN ?_ _) | (with_reducible refine Kd.C_drew ?_))); (case side2 => exact (Kd.R_reads' HO318.out).2.1); rintro e w18 ⟨rfl, hb⟩; refine ⟨_, rfl, ?_⟩; have n0_ := Aside0.mk (Kd.R_below (by (with_reducible repeat (first | apply Kd.R_alloc | apply Kd.R_drewN | apply Kd.R_drew)); exact HO318.out) hb); have n1_ := Aside0.mk (below_step (by repeat (first | (with_reducible first | exact HB.out | apply below_alloc | apply pw_below_drewN | apply below_drew1) | exact HB.out)) hb); clear HO318; clear HB; have HO318 := n0_; have HB := n1_; clear n0_ n1_; (try clear hb); (try clear hb2); (try clear hk); (try clear hi)) | ((with_reducible refine gate_callee (f := 28) rfl ?_); refine goesL_ (some 39) rfl rfl Try.func28 (by kernel_rfl) rfl #[.slice A0 l0.length c0] rfl (by (try simp only [List.map_toArray, List.map_cons, List.map_nil]); first | done | rfl | (simp only [List.length_drop, List.length_take]; rfl)) ?_; (with_reducible refine (laws_toFlowS.calls k _ _ l0 t322 _ ?side1 ?side2 A12.out).mono ?_); (case side1 => repeat (first | exact (Kd.C_below HR0.out HB.out) | (with_reducible refine Kd.C_alloc ?_ _) | (with_reducible refine Kd.C_drewN ?_ _) | (with_reducible refine Kd.C_drew ?_))); (case side2 => exact HC0.out); rintro e w19 ⟨v323, rfl, ho0, hb⟩; refine ⟨_, rfl, ?_⟩; have n0_ := Aside0.mk (Kd.R_elder' (by (with_reducible repeat (first | apply Kd.R_alloc | apply Kd.R_drewN | apply Kd.R_drew)); exact HO318.out) (Kd.R_base ho0) hb); have n1_ := Aside0.mk (Kd.R_lower (Kd.R_new' ho0 (Kd.R_lt (by (with_reducible repeat (first | apply Kd.R_alloc | apply Kd.R_drewN | apply Kd.R_drew)); exact HO318.out))) (below_size (by repeat (first | (with_reducible first | exact HB.out | apply below_alloc | apply pw_below_drewN | apply below_drew1) | exact HB.out)))); have n2_ := Aside0.mk (below_step (by repeat (first | (with_reducible first | exact HB.out | apply below_alloc | apply pw_below_drewN | apply below_drew1) | exact HB.out)) hb); clear HO318; clear HB; have HO318 := n0_; have HO324 := n1_; have HB := n2_; clear n0_ n1_ n2_; (try clear hb); (try clear hb2); (try clear hk); (try clear hi); (try clear ho0); obtain ⟨Ao20, co20, eo20⟩ := Kd.R_slice HO324.out; subst eo20) | ((with_reducible refine gate_callee (f := 32) rfl ?_); refine goesL_ (some 47) rfl rfl Try.func32 (by kernel_rfl) rfl #[.slice Ao20 t322.length co20, .int .i64 a1, .int .i64 a2, .int .i64 a3, .int .i64 a4, .int .i64 a5] rfl (by (try simp only [List.map_toArray, List.map_cons, List.map_nil]); first | done | rfl | (simp only [List.length_drop, List.length_take]; rfl)) ?_; (with_reducible refine (impl_FlowFind.calls k _ _ t322 a1 a2 a3 a4 a5 t325 t326 t327 _ ?side1 ?side2 A13.out).mono ?_); (case side1 => repeat (first | exact (Kd.R_reads' HO324.out).2.2 | (with_reducible refine Kd.C_alloc ?_ _) | (with_reducible refine Kd.C_drewN ?_ _) | (with_reducible refine Kd.C_drew ?_))); (case side2 => exact (Kd.R_reads' HO324.out).2.1); rintro e w21 ⟨rfl, hb⟩; refine ⟨_, rfl, ?_⟩; have n0_ := Aside0.mk (Kd.R_below (by (with_reducible repeat (first | apply Kd.R_alloc | apply Kd.R_drewN | apply Kd.R_drew)); exact HO318.out) hb); have n1_ := Aside0.mk (Kd.R_below (by (with_reducible repeat (first | apply Kd.R_alloc | apply Kd.R_drewN | apply Kd.R_drew)); exact HO324.out) hb); have n2_ := Aside0.mk (below_step (by repeat (first | (with_reducible first | exact HB.out | apply below_alloc | apply pw_below_drewN | apply below_drew1) | exact HB.out)) hb); clear HO318; clear HO324; clear HB; have HO318 := n0_; have HO324 := n1_; have HB := n2_; clear n0_ n1_ n2_; (try clear hb); (try clear hb2); (try clear hk); (try clear hi)))
    (try simp only [Act.put, List.setIfInBounds_toArray, List.set_cons_zero, List.set_cons_succ])
    go_cut [63] (fun v63 wc => ∃ (kq : Nat) (x63_13 : Bool), v63 = .bool x63_13 ∧ Aside0 (laws_FnExactFlowFind.j0 kq l0 t322 x63_13 = some r) ∧ Aside0 (kq ≤ k) ∧ Aside0 (Kd.R k71 71 wc w.heap.size (fun _ => True) (.slice Ao20 t322.length co20) t322) ∧ Aside0 (Below w.heap.size w wc))
    case first =>
      have H := HC14.out
      clear HC14
      by_cases c22 : t325 = t319
      · rw [if_pos c22] at H
        have c22b0 : (t325 == t319) = true := beq_iff_eq.mpr c22
        have c22b1 : (t325 != t319) = false := bne_eq_false_iff_eq.mpr c22
        clear c22
        (first | rw [c22b0] | (simp only [i64_w, i32_w]; rw [c22b0]) | skip)
        by_cases c23 : (t326 != t320) = true
        · rw [if_pos c23] at H
          have c23b0 : (t326 != t320) = true := c23
          (try (have c23b1 : decide (t326 = t320) = false := by simpa using c23))
          (try (have c23b2 : (t326 == t320) = false := by simpa using c23))
          (try (have c23b3 : ¬ (t326 = t320) := by simpa using c23))
          clear c23
          have H' := Aside0.mk H
          clear H
          go_wp2
          go_meet
          case rel => exact ⟨_, (true), (by first | rfl | (simp; done) | (simp [*]; done) | (simp [ne_nil_b]; done) | (simp [ne_nil_b, *]; done)), H', ⟨by first | omega | exact Nat.le_refl _⟩, ⟨by (with_reducible repeat (first | apply Kd.R_alloc | apply Kd.R_drewN | apply Kd.R_drew)); exact Kd.R_mono HO324.out (fun _ hk => trivial)⟩, ⟨by repeat (first | (with_reducible first | exact HB.out | apply below_alloc | apply pw_below_drewN | apply below_drew1) | exact HB.out)⟩⟩
        · rw [if_neg c23] at H
          have c23b0 : (t326 != t320) = false := by simpa using c23
          (try (have c23b1 : decide (t326 = t320) = true := by simpa using c23))
          (try (have c23b2 : (t326 == t320) = true := by simpa using c23))
          clear c23
          have H' := Aside0.mk H
          clear H
          go_wp2
          go_meet
          case rel => exact ⟨_, ((t327 != t321)), (by first | rfl | (simp; done) | (simp [*]; done) | (simp [ne_nil_b]; done) | (simp [ne_nil_b, *]; done)), H', ⟨by first | omega | exact Nat.le_refl _⟩, ⟨by (with_reducible repeat (first | apply Kd.R_alloc | apply Kd.R_drewN | apply Kd.R_drew)); exact Kd.R_mono HO324.out (fun _ hk => trivial)⟩, ⟨by repeat (first | (with_reducible first | exact HB.out | apply below_alloc | apply pw_below_drewN | apply below_drew1) | exact HB.out)⟩⟩
      · rw [if_neg c22] at H
        have c22b0 : (t325 == t319) = false := beq_eq_false_iff_ne.mpr c22
        have c22b1 : (t325 != t319) = true := bne_iff_ne.mpr c22
        (first | rw [c22b0] | (simp only [i64_w, i32_w]; rw [c22b0]) | skip)
        have H' := Aside0.mk H
        clear H
        go_wp2
        go_meet
        case rel => exact ⟨_, (true), (by first | rfl | (simp; done) | (simp [*]; done) | (simp [ne_nil_b]; done) | (simp [ne_nil_b, *]; done)), H', ⟨by first | omega | exact Nat.le_refl _⟩, ⟨by (with_reducible repeat (first | apply Kd.R_alloc | apply Kd.R_drewN | apply Kd.R_drew)); exact Kd.R_mono HO324.out (fun _ hk => trivial)⟩, ⟨by repeat (first | (with_reducible first | exact HB.out | apply below_alloc | apply pw_below_drewN | apply below_drew1) | exact HB.out)⟩⟩
    case rest =>
      clear HC14
      try clear c2
      try clear p2
      try clear c3
      try clear c8
      try clear c8b0
      try clear c22
      try clear c22b0
      try clear c22b1
      try clear c23
      try clear c23b0
      try clear c23b1
      try clear c23b2
      obtain ⟨kq, x63_13, rfl, HA, HJ13, HO_17, HB⟩ := hcut
      cases kq with
      | zero => exact absurd HA.out (by simp [laws_FnExactFlowFind.j0])
      | succ kj13 =>
        have H := HA.out
        clear HA
        simp only [laws_FnExactFlowFind.j0] at H
        by_cases c24 : x63_13 = true
        · subst c24
          have H1 : (some false) = some r := by rw [if_pos rfl] at H; exact H
          clear H
          have H := H1
          clear H1
          obtain rfl := Option.some.inj H
          go_wp2
          go_ret
          exact ⟨by first | rfl | (simp [errW_none, errW_some] <;> rfl) | (simp [*, errW_none, errW_some] <;> rfl), by repeat (first | (with_reducible first | exact HB.out | apply below_alloc | apply pw_below_drewN | apply below_drew1) | exact HB.out)⟩
        · replace c24 := Bool.eq_false_iff.mpr c24
          subst c24
          have H1 : ((laws_toFlowS.f kj13 l0).bind fun t328 => ((laws_eqFlowS.f kj13 t322 t328).bind fun t331 => (if t331 = true then (some true) else (some false)))) = some r := by rw [if_neg (show ¬ (false = true) by decide)] at H; exact H
          clear H
          have H := H1
          clear H1
          replace H := Option.bind_eq_some_iff.mp H
          obtain ⟨t328, A250, H⟩ := H
          replace H : ((laws_eqFlowS.f kj13 t322 t328).bind fun t331 => (if t331 = true then (some true) else (some false))) = some r := H
          have A25 := Aside0.mk A250
          clear A250
          replace H := Option.bind_eq_some_iff.mp H
          obtain ⟨t331, A260, H⟩ := H
          replace H : (if t331 = true then (some true) else (some false)) = some r := H
          have A26 := Aside0.mk A260
          clear A260
          by_cases c27 : t331 = true
          · subst c27
            have H1 : (some true) = some r := by rw [if_pos rfl] at H; exact H
            clear H
            have H := H1
            clear H1
            obtain rfl := Option.some.inj H
            go_wp2_with (first | ((with_reducible refine gate_callee (f := 28) rfl ?_); refine goesL_ (some 66) rfl rfl Try.func28 (by kernel_rfl) rfl #[.slice A0 l0.length c0] rfl (by (try simp only [List.map_toArray, List.map_cons, List.map_nil]); first | done | rfl | (simp only [List.length_drop, List.length_take]; rfl)) ?_; (with_reducible refine (laws_toFlowS.calls kj13 _ _ l0 t328 _ ?side1 ?side2 A25.out).mono ?_); (case side1 => repeat (first | exact (Kd.C_below HR0.out HB.out) | (with_reducible refine Kd.C_alloc ?_ _) | (with_reducible refine Kd.C_drewN ?_ _) | (with_reducible refine Kd.C_drew ?_))); (case side2 => exact HC0.out); rintro e w28 ⟨v329, rfl, ho0, hb⟩; refine ⟨_, rfl, ?_⟩; have n0_ := Aside0.mk (Kd.R_elder' (by (with_reducible repeat (first | apply Kd.R_alloc | apply Kd.R_drewN | apply Kd.R_drew)); exact HO_17.out) (Kd.R_base ho0) hb); have n1_ := Aside0.mk (Kd.R_lower (Kd.R_new' ho0 (Kd.R_lt (by (with_reducible repeat (first | apply Kd.R_alloc | apply Kd.R_drewN | apply Kd.R_drew)); exact HO_17.out))) (below_size (by repeat (first | (with_reducible first | exact HB.out | apply below_alloc | apply pw_below_drewN | apply below_drew1) | exact HB.out)))); have n2_ := Aside0.mk (below_step (by repeat (first | (with_reducible first | exact HB.out | apply below_alloc | apply pw_below_drewN | apply below_drew1) | exact HB.out)) hb); clear HO_17; clear HB; have HO_17 := n0_; have HO330 := n1_; have HB := n2_; clear n0_ n1_ n2_; (try clear hb); (try clear hb2); (try clear hk); (try clear hi); (try clear ho0); obtain ⟨Ao29, co29, eo29⟩ := Kd.R_slice HO330.out; subst eo29) | ((with_reducible refine gate_callee (f := 30) rfl ?_); refine goesL_ (some 67) rfl rfl Try.func30 (by kernel_rfl) rfl #[.slice Ao20 t322.length co20, .slice Ao29 t328.length co29] rfl (by (try simp only [List.map_toArray, List.map_cons, List.map_nil]); first | done | rfl | (simp only [List.length_drop, List.length_take]; rfl)) ?_; (with_reducible refine (laws_eqFlowS.calls kj13 _ _ t322 _ _ t328 true _ ?side1 ?side2 ?side3 ?side4 A26.out).mono ?_); (case side1 => repeat (first | exact (Kd.R_reads' HO_17.out).2.2 | (with_reducible refine Kd.C_alloc ?_ _) | (with_reducible refine Kd.C_drewN ?_ _) | (with_reducible refine Kd.C_drew ?_))); (case side2 => exact (Kd.R_reads' HO_17.out).2.1); (case side3 => repeat (first | exact (Kd.R_reads' HO330.out).2.2 | (with_reducible refine Kd.C_alloc ?_ _) | (with_reducible refine Kd.C_drewN ?_ _) | (with_reducible refine Kd.C_drew ?_))); (case side4 => exact (Kd.R_reads' HO330.out).2.1); rintro e w30 ⟨rfl, hb⟩; refine ⟨_, rfl, ?_⟩; have n0_ := Aside0.mk (Kd.R_below (by (with_reducible repeat (first | apply Kd.R_alloc | apply Kd.R_drewN | apply Kd.R_drew)); exact HO_17.out) hb); have n1_ := Aside0.mk (Kd.R_below (by (with_reducible repeat (first | apply Kd.R_alloc | apply Kd.R_drewN | apply Kd.R_drew)); exact HO330.out) hb); have n2_ := Aside0.mk (below_step (by repeat (first | (with_reducible first | exact HB.out | apply below_alloc | apply pw_below_drewN | apply below_drew1) | exact HB.out)) hb); clear HO_17; clear HO330; clear HB; have HO_17 := n0_; have HO330 := n1_; have HB := n2_; clear n0_ n1_ n2_; (try clear hb); (try clear hb2); (try clear hk); (try clear hi)))
            go_ret
            exact ⟨by first | rfl | (simp [errW_none, errW_some] <;> rfl) | (simp [*, errW_none, errW_some] <;> rfl), by repeat (first | (with_reducible first | exact HB.out | apply below_alloc | apply pw_below_drewN | apply below_drew1) | exact HB.out)⟩
          · replace c27 := Bool.eq_false_iff.mpr c27
            subst c27
            have H1 : (some false) = some r := by rw [if_neg (show ¬ (false = true) by decide)] at H; exact H
            clear H
            have H := H1
            clear H1
            obtain rfl := Option.some.inj H
            go_wp2_with (first | ((with_reducible refine gate_callee (f := 28) rfl ?_); refine goesL_ (some 66) rfl rfl Try.func28 (by kernel_rfl) rfl #[.slice A0 l0.length c0] rfl (by (try simp only [List.map_toArray, List.map_cons, List.map_nil]); first | done | rfl | (simp only [List.length_drop, List.length_take]; rfl)) ?_; (with_reducible refine (laws_toFlowS.calls kj13 _ _ l0 t328 _ ?side1 ?side2 A25.out).mono ?_); (case side1 => repeat (first | exact (Kd.C_below HR0.out HB.out) | (with_reducible refine Kd.C_alloc ?_ _) | (with_reducible refine Kd.C_drewN ?_ _) | (with_reducible refine Kd.C_drew ?_))); (case side2 => exact HC0.out); rintro e w31 ⟨v329, rfl, ho0, hb⟩; refine ⟨_, rfl, ?_⟩; have n0_ := Aside0.mk (Kd.R_elder' (by (with_reducible repeat (first | apply Kd.R_alloc | apply Kd.R_drewN | apply Kd.R_drew)); exact HO_17.out) (Kd.R_base ho0) hb); have n1_ := Aside0.mk (Kd.R_lower (Kd.R_new' ho0 (Kd.R_lt (by (with_reducible repeat (first | apply Kd.R_alloc | apply Kd.R_drewN | apply Kd.R_drew)); exact HO_17.out))) (below_size (by repeat (first | (with_reducible first | exact HB.out | apply below_alloc | apply pw_below_drewN | apply below_drew1) | exact HB.out)))); have n2_ := Aside0.mk (below_step (by repeat (first | (with_reducible first | exact HB.out | apply below_alloc | apply pw_below_drewN | apply below_drew1) | exact HB.out)) hb); clear HO_17; clear HB; have HO_17 := n0_; have HO330 := n1_; have HB := n2_; clear n0_ n1_ n2_; (try clear hb); (try clear hb2); (try clear hk); (try clear hi); (try clear ho0); obtain ⟨Ao32, co32, eo32⟩ := Kd.R_slice HO330.out; subst eo32) | ((with_reducible refine gate_callee (f := 30) rfl ?_); refine goesL_ (some 67) rfl rfl Try.func30 (by kernel_rfl) rfl #[.slice Ao20 t322.length co20, .slice Ao32 t328.length co32] rfl (by (try simp only [List.map_toArray, List.map_cons, List.map_nil]); first | done | rfl | (simp only [List.length_drop, List.length_take]; rfl)) ?_; (with_reducible refine (laws_eqFlowS.calls kj13 _ _ t322 _ _ t328 false _ ?side1 ?side2 ?side3 ?side4 A26.out).mono ?_); (case side1 => repeat (first | exact (Kd.R_reads' HO_17.out).2.2 | (with_reducible refine Kd.C_alloc ?_ _) | (with_reducible refine Kd.C_drewN ?_ _) | (with_reducible refine Kd.C_drew ?_))); (case side2 => exact (Kd.R_reads' HO_17.out).2.1); (case side3 => repeat (first | exact (Kd.R_reads' HO330.out).2.2 | (with_reducible refine Kd.C_alloc ?_ _) | (with_reducible refine Kd.C_drewN ?_ _) | (with_reducible refine Kd.C_drew ?_))); (case side4 => exact (Kd.R_reads' HO330.out).2.1); rintro e w33 ⟨rfl, hb⟩; refine ⟨_, rfl, ?_⟩; have n0_ := Aside0.mk (Kd.R_below (by (with_reducible repeat (first | apply Kd.R_alloc | apply Kd.R_drewN | apply Kd.R_drew)); exact HO_17.out) hb); have n1_ := Aside0.mk (Kd.R_below (by (with_reducible repeat (first | apply Kd.R_alloc | apply Kd.R_drewN | apply Kd.R_drew)); exact HO330.out) hb); have n2_ := Aside0.mk (below_step (by repeat (first | (with_reducible first | exact HB.out | apply below_alloc | apply pw_below_drewN | apply below_drew1) | exact HB.out)) hb); clear HO_17; clear HO330; clear HB; have HO_17 := n0_; have HO330 := n1_; have HB := n2_; clear n0_ n1_ n2_; (try clear hb); (try clear hb2); (try clear hk); (try clear hi)))
            go_ret
            exact ⟨by first | rfl | (simp [errW_none, errW_some] <;> rfl) | (simp [*, errW_none, errW_some] <;> rfl), by repeat (first | (with_reducible first | exact HB.out | apply below_alloc | apply pw_below_drewN | apply below_drew1) | exact HB.out)⟩
end
section
-- IMPORT Derived.SizedLaws
-- IMPORT Derived.ProofKit
-- IMPORT Derived.WalkKit
-- IMPORT Derived.OpenShut
-- IMPORT Derived.ShutString
-- IMPORT Derived.ChangeOld
-- IMPORT Derived.Below
-- IMPORT Derived.Deep.Slices
open Go.ChangeShapes Go.WideShapes Go.ChangeAt Go.Deep
/-- What reads as data of type t is a value of the kind d, and meets wf. -/
structure Opens (P : Program) (t : TypeId) {α : Type} (d : Kd α) (wf : α → Prop) : Prop where
  sz : P.cellsOf t = d.sz
  op : ∀ {H : Type} {enc : TypeId × Value → H} {w : World} {fuel : Nat} {cs : List Value} {y : DataW H × List MemPlace}, DataW.trod enc P w 0 (fun _ => true) true fuel t cs = some y → (∀ n ∈ y.1.weights P t, n ≤ reachBytes) → ∃ x, d.K w x cs ∧ wf x
theorem Opens.int {P : Program} {t : TypeId} {k : IntKind} (hu : P.underlying t = some (.int k)) (hc : P.cellsOf t = 1) : Opens P t (Kd.int k) (fun n => (Lit.int k n).wf = true) :=
  ⟨hc, fun h _ => by obtain ⟨n, rfl, rfl, wf⟩ := DataW.trod_int hu h; exact ⟨n, rfl, wf⟩⟩
theorem Opens.bool {P : Program} {t : TypeId} (hu : P.underlying t = some .bool) (hc : P.cellsOf t = 1) : Opens P t Kd.bool (fun _ => True) :=
  ⟨hc, fun h _ => by obtain ⟨n, rfl, rfl⟩ := DataW.trod_bool hu h; exact ⟨n, rfl, trivial⟩⟩
theorem Opens.string {P : Program} {t : TypeId} (hu : P.underlying t = some .string) (hc : P.cellsOf t = 1) : Opens P t Kd.string (fun s => s.size ≤ 140737488351232) :=
  ⟨hc, fun h hw => by
    obtain ⟨s, rfl, rfl, _⟩ := DataW.trod_string hu h
    refine ⟨s, rfl, ?_⟩
    have := hw s.data.toList.length (by simp [DataW.weights])
    simpa [reachBytes] using this⟩
theorem weights_mem_all {H : Type} {P : Program} {e : TypeId} {n : Nat} : ∀ {l : List (DataW H)} {d : DataW H}, d ∈ l → n ∈ d.weights P e → n ∈ DataW.weightsAll P e l
  | d0 :: l, d, hd, hn => by
    simp only [DataW.weightsAll, List.mem_append]
    rcases List.mem_cons.1 hd with rfl | hd
    · exact .inl hn
    · exact .inr (weights_mem_all hd hn)
  | [], _, hd, _ => by cases hd
theorem list_of_all {α : Type} {Q : Nat → α → Prop} (n : Nat) (h : ∀ i, i < n → ∃ x, Q i x) : ∃ xs : List α, xs.length = n ∧ ∀ j x, xs[j]? = some x → Q j x := by
  induction n with
  | zero => exact ⟨[], rfl, fun j x h => by simp at h⟩
  | succ n ih =>
    obtain ⟨xs, hl, hx⟩ := ih (fun i hi => h i (by omega))
    obtain ⟨x, hq⟩ := h n (by omega)
    refine ⟨xs ++ [x], by simp [hl], fun j y hj => ?_⟩
    rcases Nat.lt_or_ge j xs.length with hlt | hge
    · rw [List.getElem?_append_left hlt] at hj
      exact hx j y hj
    · rw [List.getElem?_append_right hge] at hj
      have : j - xs.length = 0 := by
        rcases Nat.lt_or_ge (j - xs.length) 1 with h1 | h1
        · omega
        · rw [List.getElem?_eq_none (by simpa using h1)] at hj; cases hj
      rw [this] at hj
      simp at hj
      subst hj
      have : j = n := by omega
      subst this
      exact hq
theorem Opens.slice {α : Type} {P : Program} {t e : TypeId} {d : Kd α} {wf : α → Prop} (hu : P.underlying t = some (.slice e)) (hc : P.cellsOf t = 1) (B : Nat) (hB : P.bytesOf e = B) (he : Opens P e d wf) :
    Opens P t (Kd.slice e d) (fun xs => xs.length * B ≤ 140737488351232 ∧ xs.length ≤ maxLen ∧ ∀ x ∈ xs, wf x) :=
  ⟨hc, fun {H enc w fuel cs y} h hw => by
    rcases open_slice hu h with ⟨rfl, rfl⟩ | ⟨a, len, cap, m, n, D, Pl, rfl, _, hl, hm, hmm, rfl, hel⟩
    · exact ⟨[], ⟨none, 0, rfl, Nat.le_refl _, Kd.C_nil d w⟩, by simp, by simp, fun x hx => by cases hx⟩
    have hmc : m = cap := by rw [hmm]; rfl
    subst hmc
    have hwt : ∀ i, i < len → ∀ z ∈ (D i).weights P e, z ≤ reachBytes := fun i hi z hz => hw z (by
      simp only [DataW.weights, hu]
      exact List.mem_cons_of_mem _ (List.mem_append_left _ (weights_mem_all (List.mem_map.2 ⟨i, List.mem_range.2 hi, rfl⟩) hz)))
    have hall : ∀ i, i < len → ∃ x : α, (∃ c, c.length = d.sz ∧ d.K w x c ∧ ∀ j u, c[j]? = some u → w.cell? (a.add (i * d.sz + j)) = some u) ∧ wf x := by
      intro i hi
      obtain ⟨cs', hcs, htr⟩ := hel i (by omega)
      obtain ⟨x, hk, hx⟩ := he.op htr (hwt i hi)
      obtain ⟨_, hlen, hcell⟩ := World.cells?_some hcs
      refine ⟨x, ⟨cs', by rw [hlen, he.sz], hk, fun j u hu' => ?_⟩, hx⟩
      have hj : j < cs'.length := by
        rcases Nat.lt_or_ge j cs'.length with h1 | h1
        · exact h1
        · rw [List.getElem?_eq_none h1] at hu'; cases hu'
      rw [hlen] at hj
      have hcj := hcell j hj
      rw [hu', he.sz, Addr.add_add] at hcj
      exact hcj
    obtain ⟨xs, hxl, hxs⟩ := list_of_all (Q := fun i x => (∃ c, c.length = d.sz ∧ d.K w x c ∧ ∀ j u, c[j]? = some u → w.cell? (a.add (i * d.sz + j)) = some u) ∧ wf x) len hall
    subst hxl
    refine ⟨xs, ⟨some a, m, rfl, hl, rfl, ?_, fun _ => ⟨a, rfl, fun j p hp => (hxs j p hp).1⟩⟩, ?_, ?_, ?_⟩
    · unfold maxLen at hm; omega
    · have := hw ((List.map D (List.range xs.length)).length + (List.map (fun j => D (xs.length + j)) (List.range (m - xs.length))).length) |> fun h => h
      have h1 := hw (((List.map D (List.range xs.length)).length + (List.map (fun j => D (xs.length + j)) (List.range (m - xs.length))).length) * P.bytesOf e) (by simp only [DataW.weights, hu]; exact List.mem_cons_self)
      rw [hB] at h1
      simp only [List.length_map, List.length_range] at h1
      have h2 : xs.length * B ≤ (xs.length + (m - xs.length)) * B := Nat.mul_le_mul_right _ (by omega)
      exact Nat.le_trans h2 h1
    · omega
    · intro x hx
      obtain ⟨j, hj, rfl⟩ := List.getElem_of_mem hx
      exact (hxs j _ (List.getElem?_eq_getElem hj)).2⟩
/-- Fields in line from cell o on. -/
structure OpensF (P : Program) (fs : List Field) (o : Nat) {α : Type} (d : Kd α) (wf : α → Prop) : Prop where
  op : ∀ {H : Type} {enc : TypeId × Value → H} {w : World} {n : Nat} {cs : List Value} {xs : List (DataW H × List MemPlace)}, o + d.sz ≤ cs.length → xs.length = fs.length →
    (∀ (i : Nat) (f : Field), fs[i]? = some f → DataW.trod enc P w 0 (fun _ => true) true n f.type ((cs.drop f.offset).take (P.cellsOf f.type)) = xs[i]?) →
    (∀ z ∈ DataW.weightsEach P (fs.map (·.type)) (xs.map (·.1)), z ≤ reachBytes) → ∃ x, d.K w x ((cs.drop o).take d.sz) ∧ wf x
theorem OpensF.one {α : Type} {P : Program} {f : Field} {o : Nat} {d : Kd α} {wf : α → Prop} (ho : f.offset = o) (h : Opens P f.type d wf) : OpensF P [f] o d wf := by
  refine ⟨fun {H enc w n cs xs} hlen hxl htr hw => ?_⟩
  match xs, hxl with
  | [y], _ =>
    have h1 := htr 0 f rfl
    rw [ho, h.sz] at h1
    exact h.op (y := y) h1 (fun z hz => hw z (by simpa [DataW.weightsEach] using hz))
theorem OpensF.cons {α β : Type} {P : Program} {f : Field} {fs : List Field} {o : Nat} {a : Kd α} {b : Kd β} {wa : α → Prop} {wb : β → Prop} (ho : f.offset = o) (h : Opens P f.type a wa) (o' : Nat) (ho' : o + a.sz = o') (hr : OpensF P fs o' b wb) :
    OpensF P (f :: fs) o (Kd.pair a b) (fun x => wa x.1 ∧ wb x.2) := by
  refine ⟨fun {H enc w n cs xs} hlen hxl htr hw => ?_⟩
  match xs, hxl with
  | y :: ys, hxl =>
    have h1 := htr 0 f rfl
    rw [ho, h.sz] at h1
    have hsz : (Kd.pair a b).sz = a.sz + b.sz := rfl
    rw [hsz] at hlen
    obtain ⟨x0, k0, w0⟩ := h.op (y := y) h1 (fun z hz => hw z (by simp only [List.map_cons, DataW.weightsEach, List.mem_append]; exact .inl hz))
    obtain ⟨x1, k1, w1⟩ := hr.op (n := n) (cs := cs) (xs := ys) (enc := enc) (w := w) (by omega) (by simpa using hxl) (fun i g hg => by have := htr (i + 1) g (by simpa using hg); simpa using this) (fun z hz => hw z (by simp only [List.map_cons, DataW.weightsEach, List.mem_append]; exact .inr hz))
    refine ⟨(x0, x1), ⟨(cs.drop o).take a.sz, (cs.drop o').take b.sz, ?_, k0, k1⟩, w0, w1⟩
    rw [hsz, ← ho', List.take_add, List.drop_drop]
theorem Opens.struct {α : Type} {P : Program} {t : TypeId} {fs : Array Field} {d : Kd α} {wf : α → Prop} (hu : P.underlying t = some (.struct fs)) (hc : P.cellsOf t = d.sz) (h : OpensF P fs.toList 0 d wf) : Opens P t d wf :=
  ⟨hc, fun {H enc w fuel cs y} ht hw => by
    obtain ⟨xs, n, rfl, rfl, hlen, hxl, htr⟩ := DataW.trod_struct hu ht
    obtain ⟨x, hk, hx⟩ := h.op (enc := enc) (w := w) (n := n) (cs := cs) (xs := xs) (by omega) (by simpa using hxl) (fun i f hf => htr i f (by simpa using hf)) (fun z hz => hw z (by simp only [DataW.weights, hu]; exact hz))
    refine ⟨x, ?_, hx⟩
    rw [List.drop_zero, List.take_of_length_le (by omega)] at hk
    exact hk⟩
theorem Opens.iso {α β : Type} {P : Program} {t : TypeId} {d : Kd α} {wf : α → Prop} (f : β → α) (g : α → β) (hfg : ∀ x, f (g x) = x) (h : Opens P t d wf) : Opens P t (Kd.iso d f) (fun x => wf (f x)) :=
  ⟨h.sz, fun ht hw => by
    obtain ⟨x, hk, hx⟩ := h.op ht hw
    exact ⟨g x, by show d.K _ (f (g x)) _; rw [hfg]; exact hk, by rw [hfg]; exact hx⟩⟩
end
section
-- IMPORT Derived.Laws.BitsLemmas
-- IMPORT Derived.OpenShut
theorem wrap_id {n : Int} (h0 : -9223372036854775808 ≤ n) (h1 : n ≤ 9223372036854775807) : wrap64 n = n := by
  unfold wrap64; omega
end
section
def fst_T71 (q : S71 → Bool) (l : List S71) : Nat → Int → Int
  | 0, _ => -1
  | d + 1, i => if q (rd_T71 l i) = true then i else fst_T71 q l d (i + 1)
def any_T71 (q : S71 → Bool) (l : List S71) : Nat → Int → Bool
  | 0, _ => false
  | d + 1, i => q (rd_T71 l i) || any_T71 q l d (i + 1)
theorem fst_any_T71 (q : S71 → Bool) (l : List S71) : ∀ (d : Nat) (i : Int), 0 ≤ i → decide (0 ≤ fst_T71 q l d i) = any_T71 q l d i
  | 0, i, _ => by simp [fst_T71, any_T71]
  | d + 1, i, h => by
    rw [fst_T71, any_T71]
    cases e : q (rd_T71 l i)
    · rw [if_neg (by simp), fst_any_T71 q l d (i + 1) (by omega), Bool.false_or]
    · rw [if_pos rfl, decide_eq_true h, Bool.true_or]
theorem any_false_T71 (q : S71 → Bool) (l : List S71) : ∀ (d : Nat) (i : Int), any_T71 q l d i = false → ∀ j : Int, i ≤ j → j < i + d → q (rd_T71 l j) = false
  | 0, i, _, j, h1, h2 => by omega
  | d + 1, i, h, j, h1, h2 => by
    rw [any_T71, Bool.or_eq_false_iff] at h
    by_cases e : j = i
    · rw [e]; exact h.1
    · exact any_false_T71 q l d (i + 1) h.2 j (by omega) (by omega)
theorem idxP71_evr (q : S71 → Bool) (l : List S71) (hx : (l.length : Int) ≤ 1152921504606846976) (p : S71 → Option Bool) : ∀ (d : Nat) (i : Int), 0 ≤ i → (l.length : Int) - i = d → (∀ j : Int, i ≤ j → j < l.length → p (rd_T71 l j) = some (q (rd_T71 l j))) → ∀ k, d + 1 ≤ k → idxP71 p l k i = some (fst_T71 q l d i)
  | 0, i, h0, hd, hp, k, hk => by
    obtain ⟨k, rfl⟩ : ∃ z, k = z + 1 := ⟨k - 1, by omega⟩
    rw [idxP71, if_neg (by omega)]; rfl
  | d + 1, i, h0, hd, hp, k, hk => by
    obtain ⟨k, rfl⟩ : ∃ z, k = z + 1 := ⟨k - 1, by omega⟩
    rw [idxP71, if_pos (by omega), if_pos h0, hp i (by omega) (by omega), Option.bind_some, fst_T71, wrap_id (by omega) (by omega), idxP71_evr q l hx p d (i + 1) (by omega) (by omega) (fun j h1 h2 => hp j (by omega) h2) k (by omega)]
    cases q (rd_T71 l i) <;> simp
theorem fst_lt_T71 (q : S71 → Bool) (l : List S71) : ∀ (d : Nat) (i : Int), fst_T71 q l d i = -1 ∨ (i ≤ fst_T71 q l d i ∧ fst_T71 q l d i < i + d)
  | 0, i => Or.inl rfl
  | d + 1, i => by
    rw [fst_T71]
    split
    · exact Or.inr ⟨by omega, by omega⟩
    · rcases fst_lt_T71 q l d (i + 1) with h | h
      · exact Or.inl h
      · exact Or.inr ⟨by omega, by omega⟩
end
section
-- NEEDS spec.l01In impl.within
theorem l01In_eq (a b c : Int) : spec_l01In.f a b c = some (decide (b ≤ a ∧ a ≤ c)) := by unfold spec_l01In.f; grind
theorem within_eq (a b c : Int) : impl_within.f a b c = some (decide (b ≤ a ∧ a ≤ c)) := by unfold impl_within.f; grind
end
section
-- NEEDS spec.l01Ip impl.isAddress
theorem l01Ip_eq (a : Int) : spec_l01Ip.f a = some (decide (0 ≤ a ∧ a ≤ 4294967295)) := by simp only [spec_l01Ip.f, l01In_eq, Option.bind_some]
theorem isAddress_eq (a : Int) : impl_isAddress.f a = some (decide (0 ≤ a ∧ a ≤ 4294967295)) := by simp only [impl_isAddress.f, within_eq, Option.bind_some]
end
section
-- NEEDS spec.l02Port impl.isPort
theorem l02Port_eq (a : Int) : spec_l02Port.f a = some (decide (0 ≤ a ∧ a ≤ 65535)) := by simp only [spec_l02Port.f, l01In_eq, Option.bind_some]
theorem isPort_eq (a : Int) : impl_isPort.f a = some (decide (0 ≤ a ∧ a ≤ 65535)) := by simp only [impl_isPort.f, within_eq, Option.bind_some]
end
section
-- NEEDS impl.FlowsOK spec.FlowsOK impl.find
def sameb (p a ap b bp : Int) (x : S71) : Bool := decide (x.f0 = p) && (decide (x.f2 = a) && (decide (x.f3 = ap) && (decide (x.f4 = b) && decide (x.f5 = bp))))
def twin (f x : S71) : Bool := sameb f.f0 f.f2 f.f3 f.f4 f.f5 x || sameb f.f0 f.f4 f.f5 f.f2 f.f3 x
def flowb (x : S71) : Bool := decide (0 ≤ x.f0 ∧ x.f0 ≤ 255) && (((x.f1.size : Int) == 6) && (decide (0 ≤ x.f2 ∧ x.f2 ≤ 4294967295) && (decide (0 ≤ x.f4 ∧ x.f4 ≤ 4294967295) && (decide (0 ≤ x.f3 ∧ x.f3 ≤ 65535) && (decide (0 ≤ x.f5 ∧ x.f5 ≤ 65535) && (decide (1 ≤ x.f6 ∧ x.f6 ≤ 3) && (decide (0 ≤ x.f7 ∧ x.f7 ≤ 100100) && decide (0 ≤ x.f8 ∧ x.f8 ≤ 10000))))))))
theorem same_spec (x : S71) (p a ap b bp : Int) : spec_l09Same.f x.f0 x.f1 x.f2 x.f3 x.f4 x.f5 x.f6 x.f7 x.f8 p a ap b bp = some (sameb p a ap b bp x) := by
  unfold spec_l09Same.f sameb
  by_cases c1 : x.f0 = p
  · rw [if_pos c1, decide_eq_true c1]
    by_cases c2 : x.f2 = a
    · rw [if_pos c2, decide_eq_true c2]
      by_cases c3 : x.f3 = ap
      · rw [if_pos c3, decide_eq_true c3]
        by_cases c4 : x.f4 = b
        · rw [if_pos c4, decide_eq_true c4]; by_cases c5 : x.f5 = bp <;> simp [c5]
        · rw [if_neg c4, decide_eq_false c4]; rfl
      · rw [if_neg c3, decide_eq_false c3]; rfl
    · rw [if_neg c2, decide_eq_false c2]; rfl
  · rw [if_neg c1, decide_eq_false c1]; rfl
theorem same_impl (x : S71) (p a ap b bp : Int) : impl_Flow_is.f x.f0 x.f1 x.f2 x.f3 x.f4 x.f5 x.f6 x.f7 x.f8 p a ap b bp = some (sameb p a ap b bp x) := same_spec x p a ap b bp
theorem find1_eq (x : S71) (p a ap b bp : Int) : impl_find_1.f x.f0 x.f1 x.f2 x.f3 x.f4 x.f5 x.f6 x.f7 x.f8 p a ap b bp = some (sameb p a ap b bp x) := by
  simp only [impl_find_1.f, same_impl, Option.bind_some]
theorem find2_eq (x : S71) (p a ap b bp : Int) : impl_find_2.f x.f0 x.f1 x.f2 x.f3 x.f4 x.f5 x.f6 x.f7 x.f8 p a ap b bp = some (sameb p a ap b bp x) := by
  simp only [impl_find_2.f, same_impl, Option.bind_some]
theorem flow_spec (x : S71) : spec_l09Flow.f x.f0 x.f1 x.f2 x.f3 x.f4 x.f5 x.f6 x.f7 x.f8 = some (flowb x) := by
  simp only [spec_l09Flow.f, spec_l01Mac.f, l01Ip_eq, l02Port_eq, l01In_eq, Option.bind_some, flowb]
  cases decide (0 ≤ x.f0 ∧ x.f0 ≤ 255)
  · rfl
  cases ((x.f1.size : Int) == 6)
  · rfl
  cases decide (0 ≤ x.f2 ∧ x.f2 ≤ 4294967295)
  · rfl
  cases decide (0 ≤ x.f4 ∧ x.f4 ≤ 4294967295)
  · rfl
  cases decide (0 ≤ x.f3 ∧ x.f3 ≤ 65535)
  · rfl
  cases decide (0 ≤ x.f5 ∧ x.f5 ≤ 65535)
  · rfl
  cases decide (1 ≤ x.f6 ∧ x.f6 ≤ 3)
  · rfl
  cases decide (0 ≤ x.f7 ∧ x.f7 ≤ 100100) <;> rfl
/-- What the loops of the two sides say of a flow: its ends, its state, its time. -/
theorem ends_impl (x : S71) : impl_Flow_endsOKAt.f x.f0 x.f1 x.f2 x.f3 x.f4 x.f5 x.f6 x.f7 x.f8 = some (decide (0 ≤ x.f0 ∧ x.f0 ≤ 255) && (((x.f1.size : Int) == 6) && (decide (0 ≤ x.f2 ∧ x.f2 ≤ 4294967295) && (decide (0 ≤ x.f4 ∧ x.f4 ≤ 4294967295) && (decide (0 ≤ x.f3 ∧ x.f3 ≤ 65535) && (decide (0 ≤ x.f5 ∧ x.f5 ≤ 65535) && decide (0 ≤ x.f8 ∧ x.f8 ≤ 10000))))))) := by
  simp only [impl_Flow_endsOKAt.f, impl_isProto.f, impl_macOK.f, isAddress_eq, isPort_eq, within_eq, Option.bind_some]
  cases decide (0 ≤ x.f0 ∧ x.f0 ≤ 255)
  · rfl
  cases ((x.f1.size : Int) == 6)
  · rfl
  cases decide (0 ≤ x.f2 ∧ x.f2 ≤ 4294967295)
  · rfl
  cases decide (0 ≤ x.f4 ∧ x.f4 ≤ 4294967295)
  · rfl
  cases decide (0 ≤ x.f3 ∧ x.f3 ≤ 65535)
  · rfl
  cases decide (0 ≤ x.f5 ∧ x.f5 ≤ 65535) <;> rfl
theorem flowb_split (x : S71) : flowb x = ((decide (0 ≤ x.f0 ∧ x.f0 ≤ 255) && (((x.f1.size : Int) == 6) && (decide (0 ≤ x.f2 ∧ x.f2 ≤ 4294967295) && (decide (0 ≤ x.f4 ∧ x.f4 ≤ 4294967295) && (decide (0 ≤ x.f3 ∧ x.f3 ≤ 65535) && (decide (0 ≤ x.f5 ∧ x.f5 ≤ 65535) && decide (0 ≤ x.f8 ∧ x.f8 ≤ 10000))))))) && (decide (1 ≤ x.f6 ∧ x.f6 ≤ 3) && decide (0 ≤ x.f7 ∧ x.f7 ≤ 100100))) := by
  unfold flowb
  cases decide (0 ≤ x.f0 ∧ x.f0 ≤ 255)
  · rfl
  cases ((x.f1.size : Int) == 6)
  · rfl
  cases decide (0 ≤ x.f2 ∧ x.f2 ≤ 4294967295)
  · rfl
  cases decide (0 ≤ x.f4 ∧ x.f4 ≤ 4294967295)
  · rfl
  cases decide (0 ≤ x.f3 ∧ x.f3 ≤ 65535)
  · rfl
  cases decide (0 ≤ x.f5 ∧ x.f5 ≤ 65535)
  · rfl
  cases decide (1 ≤ x.f6 ∧ x.f6 ≤ 3) <;> cases decide (0 ≤ x.f7 ∧ x.f7 ≤ 100100) <;> cases decide (0 ≤ x.f8 ∧ x.f8 ≤ 10000) <;> rfl
theorem any_or (p q : S71 → Bool) (l : List S71) : ∀ (d : Nat) (i : Int), any_T71 (fun x => p x || q x) l d i = (any_T71 p l d i || any_T71 q l d i)
  | 0, _ => rfl
  | d + 1, i => by
    rw [any_T71, any_T71, any_T71, any_or p q l d (i + 1)]
    cases p (rd_T71 l i) <;> cases q (rd_T71 l i) <;> simp
theorem rd_take (l : List S71) (n : Nat) (j : Int) (h0 : 0 ≤ j) (hj : j < n) : rd_T71 (l.take n) j = rd_T71 l j := by
  unfold rd_T71
  rw [List.getD_eq_getElem?_getD, List.getD_eq_getElem?_getD, List.getElem?_take, if_pos (by omega)]
theorem any_take (q : S71 → Bool) (l : List S71) (n : Nat) : ∀ (d : Nat) (j : Int), 0 ≤ j → j + d ≤ n → any_T71 q (l.take n) d j = any_T71 q l d j
  | 0, _, _, _ => rfl
  | d + 1, j, h0, hj => by
    rw [any_T71, any_T71, rd_take l n j h0 (by omega), any_take q l n d (j + 1) (by omega) (by omega)]
def flowsFrom (l : List S71) : Nat → Int → Bool
  | 0, _ => true
  | d + 1, i => flowb (rd_T71 l i) && (!any_T71 (twin (rd_T71 l i)) l i.toNat 0 && flowsFrom l d (i + 1))
theorem spec_twins_run (l : List S71) (hx : (l.length : Int) ≤ 4096) (i : Int) (f : S71) (hi : i < l.length) (R : Bool) (K : Nat) (hR : ∀ k, K ≤ k → spec_FlowsOK.l0 k l (i + 1) = some R) :
    ∀ (e : Nat) (j : Int), 0 ≤ j → i - j = e → ∀ k, e + 1 + K ≤ k → spec_FlowsOK.l1 k l i j f.f0 f.f1 f.f2 f.f3 f.f4 f.f5 f.f6 f.f7 f.f8 = some (!any_T71 (twin f) l e j && R)
  | 0, j, h0, he, k, hk => by
    obtain ⟨k, rfl⟩ : ∃ z, k = z + 1 := ⟨k - 1, by omega⟩
    rw [spec_FlowsOK.l1, if_neg (by omega), wrap_id (by omega) (by omega), hR k (by omega)]; rfl
  | e + 1, j, h0, he, k, hk => by
    obtain ⟨k, rfl⟩ : ∃ z, k = z + 1 := ⟨k - 1, by omega⟩
    have ih := spec_twins_run l hx i f hi R K hR e (j + 1) (by omega) (by omega) k (by omega)
    rw [spec_FlowsOK.l1, if_pos (by omega), if_pos h0, if_pos (by omega), same_spec, same_spec, wrap_id (by omega) (by omega), ih, any_T71, twin]
    simp only [Option.bind_some]
    cases sameb f.f0 f.f2 f.f3 f.f4 f.f5 (rd_T71 l j) <;> cases sameb f.f0 f.f4 f.f5 f.f2 f.f3 (rd_T71 l j) <;> simp
theorem spec_flows_run (l : List S71) (hx : (l.length : Int) ≤ 8) : ∀ (d : Nat) (i : Int), 0 ≤ i → (l.length : Int) - i = d → ∀ k, d * 20 + 1 ≤ k → spec_FlowsOK.l0 k l i = some (flowsFrom l d i)
  | 0, i, h0, hd, k, hk => by
    obtain ⟨k, rfl⟩ : ∃ z, k = z + 1 := ⟨k - 1, by omega⟩
    rw [spec_FlowsOK.l0, if_neg (by omega)]; rfl
  | d + 1, i, h0, hd, k, hk => by
    obtain ⟨k, rfl⟩ : ∃ z, k = z + 1 := ⟨k - 1, by omega⟩
    have tr := spec_twins_run l (by omega) i (rd_T71 l i) (by omega) (flowsFrom l d (i + 1)) (d * 20 + 1) (fun k hk => spec_flows_run l hx d (i + 1) (by omega) (by omega) k hk) i.toNat 0 (by omega) (by omega) k (by omega)
    rw [spec_FlowsOK.l0, if_pos (by omega), if_pos h0, flow_spec, Option.bind_some, tr, flowsFrom]
    cases flowb (rd_T71 l i) <;> simp
def findR (l : List S71) (p a ap b bp : Int) : Int × Bool :=
  if fst_T71 (sameb p a ap b bp) l l.length 0 ≥ 0 then (fst_T71 (sameb p a ap b bp) l l.length 0, false) else (fst_T71 (sameb p b bp a ap) l l.length 0, decide (fst_T71 (sameb p b bp a ap) l l.length 0 ≥ 0))
theorem impl_find_ev (l : List S71) (hx : (l.length : Int) ≤ 1152921504606846976) (p a ap b bp : Int) (k : Nat) (hk : l.length + 1 ≤ k) : impl_find.f k l p a ap b bp = some (findR l p a ap b bp) := by
  unfold impl_find.f findR
  rw [idxP71_evr (sameb p a ap b bp) l hx _ l.length 0 (by omega) (by omega) (fun j _ _ => find1_eq _ p a ap b bp) k hk, Option.bind_some,
    idxP71_evr (sameb p b bp a ap) l hx _ l.length 0 (by omega) (by omega) (fun j _ _ => find2_eq _ p b bp a ap) k hk, Option.bind_some]
  split <;> rfl
theorem find_any (l : List S71) (p a ap b bp : Int) : decide ((findR l p a ap b bp).1 ≥ 0) = any_T71 (fun x => sameb p a ap b bp x || sameb p b bp a ap x) l l.length 0 := by
  rw [any_or, ← fst_any_T71 (sameb p a ap b bp) l l.length 0 (by omega), ← fst_any_T71 (sameb p b bp a ap) l l.length 0 (by omega)]
  unfold findR
  by_cases c : fst_T71 (sameb p a ap b bp) l l.length 0 ≥ 0
  · rw [if_pos c, decide_eq_true (show 0 ≤ fst_T71 (sameb p a ap b bp) l l.length 0 from c), Bool.true_or]
  · rw [if_neg c, decide_eq_false (show ¬ 0 ≤ fst_T71 (sameb p a ap b bp) l l.length 0 from c), Bool.false_or]
theorem impl_flows_run (l : List S71) (hx : (l.length : Int) ≤ 8) : ∀ (d : Nat) (i : Int), 0 ≤ i → (l.length : Int) - i = d → ∀ k, d * 20 + 1 ≤ k → impl_FlowsOK.l0 k l (l.length : Int) i = some (flowsFrom l d i)
  | 0, i, h0, hd, k, hk => by
    obtain ⟨k, rfl⟩ : ∃ z, k = z + 1 := ⟨k - 1, by omega⟩
    rw [impl_FlowsOK.l0, if_neg (by omega)]; rfl
  | d + 1, i, h0, hd, k, hk => by
    obtain ⟨k, rfl⟩ : ∃ z, k = z + 2 := ⟨k - 2, by omega⟩
    have ih := impl_flows_run l hx d (i + 1) (by omega) (by omega) k (by omega)
    have hl : (l.take i.toNat).length = i.toNat := by rw [List.length_take]; omega
    have j1 : ∀ x, impl_FlowsOK.j1 (k + 1) l i (l.length : Int) i x = some (!x && (!any_T71 (twin (rd_T71 l i)) l i.toNat 0 && flowsFrom l d (i + 1))) := by
      intro x
      have fa := find_any (l.take i.toNat) (rd_T71 l i).f0 (rd_T71 l i).f2 (rd_T71 l i).f3 (rd_T71 l i).f4 (rd_T71 l i).f5
      rw [hl, any_take _ l i.toNat i.toNat 0 (by omega) (by omega)] at fa
      have ft : any_T71 (twin (rd_T71 l i)) l i.toNat 0 = any_T71 (fun x => sameb (rd_T71 l i).f0 (rd_T71 l i).f2 (rd_T71 l i).f3 (rd_T71 l i).f4 (rd_T71 l i).f5 x || sameb (rd_T71 l i).f0 (rd_T71 l i).f4 (rd_T71 l i).f5 (rd_T71 l i).f2 (rd_T71 l i).f3 x) l i.toNat 0 := rfl
      rw [impl_FlowsOK.j1]
      cases x with
      | true => rfl
      | false =>
        have hf := impl_find_ev (l.take i.toNat) (by rw [hl]; omega) (rd_T71 l i).f0 (rd_T71 l i).f2 (rd_T71 l i).f3 (rd_T71 l i).f4 (rd_T71 l i).f5 k (by rw [hl]; omega)
        rw [if_neg (by decide), if_pos h0, if_pos (by omega), if_pos (by omega), hf, Option.bind_some, wrap_id (by omega) (by omega), ih, ft, ← fa]
        by_cases c : (findR (l.take i.toNat) (rd_T71 l i).f0 (rd_T71 l i).f2 (rd_T71 l i).f3 (rd_T71 l i).f4 (rd_T71 l i).f5).1 ≥ 0
        · rw [if_pos c, decide_eq_true c]; rfl
        · rw [if_neg c, decide_eq_false c]; rfl
    rw [impl_FlowsOK.l0, if_pos (by omega), if_pos h0, if_pos (by omega), ends_impl, Option.bind_some, within_eq, within_eq, flowsFrom, flowb_split]
    simp only [Option.bind_some, j1]
    generalize (decide (0 ≤ (rd_T71 l i).f0 ∧ (rd_T71 l i).f0 ≤ 255) && (((rd_T71 l i).f1.size : Int) == 6 && (decide (0 ≤ (rd_T71 l i).f2 ∧ (rd_T71 l i).f2 ≤ 4294967295) && (decide (0 ≤ (rd_T71 l i).f4 ∧ (rd_T71 l i).f4 ≤ 4294967295) && (decide (0 ≤ (rd_T71 l i).f3 ∧ (rd_T71 l i).f3 ≤ 65535) && (decide (0 ≤ (rd_T71 l i).f5 ∧ (rd_T71 l i).f5 ≤ 65535) && decide (0 ≤ (rd_T71 l i).f8 ∧ (rd_T71 l i).f8 ≤ 10000))))))) = u
    cases u
    · simp
    · cases decide (1 ≤ (rd_T71 l i).f6 ∧ (rd_T71 l i).f6 ≤ 3) <;> cases decide (0 ≤ (rd_T71 l i).f7 ∧ (rd_T71 l i).f7 ≤ 100100) <;> simp
def flowsb (l : List S71) : Bool := decide ((l.length : Int) ≤ 8) && flowsFrom l l.length 0
theorem spec_FlowsOK_ev (l : List S71) (k : Nat) (hk : 200 ≤ k) : spec_FlowsOK.f k l = some (flowsb l) := by
  unfold spec_FlowsOK.f flowsb
  by_cases h : (l.length : Int) ≤ 8
  · rw [if_neg (by omega), if_neg (by omega), spec_flows_run l h l.length 0 (by omega) (by omega) k (by omega), decide_eq_true h]; rfl
  · rw [decide_eq_false h]
    by_cases c : (l.length : Int) > 4096
    · rw [if_pos c]; rfl
    · rw [if_neg c, if_pos (by omega)]; rfl
theorem impl_FlowsOK_ev (l : List S71) (k : Nat) (hk : 200 ≤ k) : impl_FlowsOK.f k l = some (flowsb l) := by
  unfold impl_FlowsOK.f flowsb
  by_cases h : (l.length : Int) ≤ 8
  · rw [if_neg (by omega), impl_flows_run l h l.length 0 (by omega) (by omega) k (by omega), decide_eq_true h]; rfl
  · rw [decide_eq_false h, if_pos (by omega)]; rfl
end
section
-- NEEDS impl.FlowFind spec.FlowFind
theorem fst_val (q : S71 → Bool) (l : List S71) : ∀ (d : Nat) (i : Int), 0 ≤ i → 0 ≤ fst_T71 q l d i → q (rd_T71 l (fst_T71 q l d i)) = true
  | 0, i, _, h => by simp [fst_T71] at h
  | d + 1, i, h0, h => by
    rw [fst_T71] at h ⊢
    by_cases c : q (rd_T71 l i) = true
    · rw [if_pos c]; exact c
    · rw [if_neg c] at h ⊢; exact fst_val q l d (i + 1) (by omega) h
theorem spec_find_run (l : List S71) (hx : (l.length : Int) ≤ 4096) (p a ap b bp : Int) (H : ∀ x y : Int, 0 ≤ x → x < y → y < l.length → sameb p b bp a ap (rd_T71 l x) = true → sameb p a ap b bp (rd_T71 l y) = true → False) :
    ∀ (d : Nat) (i : Int), 0 ≤ i → (l.length : Int) - i = d → ∀ k, d + 1 ≤ k → spec_l09Find.l0 k l p a ap b bp i = some (if fst_T71 (sameb p a ap b bp) l d i ≥ 0 then (fst_T71 (sameb p a ap b bp) l d i, false) else (fst_T71 (sameb p b bp a ap) l d i, decide (fst_T71 (sameb p b bp a ap) l d i ≥ 0)))
  | 0, i, h0, hd, k, hk => by
    obtain ⟨k, rfl⟩ : ∃ z, k = z + 1 := ⟨k - 1, by omega⟩
    rw [spec_l09Find.l0, if_neg (by omega)]; rfl
  | d + 1, i, h0, hd, k, hk => by
    obtain ⟨k, rfl⟩ : ∃ z, k = z + 1 := ⟨k - 1, by omega⟩
    have ih := spec_find_run l hx p a ap b bp H d (i + 1) (by omega) (by omega) k (by omega)
    have hv := fst_val (sameb p a ap b bp) l d (i + 1) (by omega)
    have hr := fst_lt_T71 (sameb p a ap b bp) l d (i + 1)
    rw [spec_l09Find.l0, if_pos (by omega), if_pos h0, same_spec, same_spec, wrap_id (by omega) (by omega), ih, fst_T71, fst_T71]
    simp only [Option.bind_some]
    by_cases c1 : sameb p a ap b bp (rd_T71 l i) = true
    · rw [if_pos c1, if_pos c1, if_pos (by omega)]
    · rw [if_neg c1, if_neg c1]
      by_cases c2 : sameb p b bp a ap (rd_T71 l i) = true
      · rw [if_pos c2, if_pos c2]
        have hn : ¬ fst_T71 (sameb p a ap b bp) l d (i + 1) ≥ 0 := fun h => H i _ h0 (by omega) (by omega) c2 (hv h)
        rw [if_neg hn, decide_eq_true (show i ≥ 0 from h0)]
      · rw [if_neg c2, if_neg c2]
theorem flows_twins (l : List S71) : ∀ (d : Nat) (i : Int), 0 ≤ i → (l.length : Int) - i = d → flowsFrom l d i = true → ∀ y : Int, i ≤ y → y < l.length → ∀ x : Int, 0 ≤ x → x < y → twin (rd_T71 l y) (rd_T71 l x) = false
  | 0, i, h0, hd, hf, y, h1, h2, x, h3, h4 => by omega
  | d + 1, i, h0, hd, hf, y, h1, h2, x, h3, h4 => by
    rw [flowsFrom, Bool.and_eq_true, Bool.and_eq_true, Bool.not_eq_true'] at hf
    by_cases e : y = i
    · rw [e]; exact any_false_T71 _ l i.toNat 0 hf.2.1 x h3 (by omega)
    · exact flows_twins l d (i + 1) (by omega) (by omega) hf.2.2 y (by omega) h2 x h3 h4
theorem find_excl (l : List S71) (hf : flowsb l = true) (p a ap b bp : Int) : ∀ x y : Int, 0 ≤ x → x < y → y < l.length → sameb p b bp a ap (rd_T71 l x) = true → sameb p a ap b bp (rd_T71 l y) = true → False := by
  intro x y h0 hxy hy hsx hsy
  rw [flowsb, Bool.and_eq_true] at hf
  have ht := flows_twins l l.length 0 (by omega) (by omega) hf.2 y (by omega) hy x h0 hxy
  simp only [sameb, Bool.and_eq_true, decide_eq_true_eq] at hsx hsy
  obtain ⟨x0, x2, x3, x4, x5⟩ := hsx
  obtain ⟨y0, y2, y3, y4, y5⟩ := hsy
  simp only [twin, sameb, Bool.or_eq_false_iff] at ht
  have := ht.2
  rw [decide_eq_true (by rw [x0, y0]), decide_eq_true (by rw [x2, y4]), decide_eq_true (by rw [x3, y5]), decide_eq_true (by rw [x4, y2]), decide_eq_true (by rw [x5, y3])] at this
  simp at this
theorem spec_find_ev (l : List S71) (hf : flowsb l = true) (p a ap b bp : Int) (k : Nat) (hk : l.length + 1 ≤ k) : spec_l09Find.f k l p a ap b bp = some (findR l p a ap b bp) := by
  have h8 : (l.length : Int) ≤ 8 := by
    have := hf
    rw [flowsb, Bool.and_eq_true, decide_eq_true_eq] at this
    exact this.1
  exact spec_find_run l (by omega) p a ap b bp (find_excl l hf p a ap b bp) l.length 0 (by omega) (by omega) k hk
def findA (l : List S71) (p a ap b bp : Int) : Int × Bool × Int :=
  if (l.length : Int) > 4096 then (0, false, 2) else if flowsb l = true then (if (decide (0 ≤ p ∧ p ≤ 255) && ((decide (0 ≤ a ∧ a ≤ 4294967295) && decide (0 ≤ ap ∧ ap ≤ 65535)) && (decide (0 ≤ b ∧ b ≤ 4294967295) && decide (0 ≤ bp ∧ bp ≤ 65535)))) = true then (if (findR l p a ap b bp).1 < 0 then (0, false, 5) else ((findR l p a ap b bp).1, (findR l p a ap b bp).2, 0)) else (0, false, 4)) else (0, false, 1)
theorem ask_spec (ip port : Int) : spec_l07Ask.f ip port = some (decide (0 ≤ ip ∧ ip ≤ 4294967295) && decide (0 ≤ port ∧ port ≤ 65535)) := by
  simp only [spec_l07Ask.f, l01Ip_eq, l02Port_eq, Option.bind_some]
  cases decide (0 ≤ ip ∧ ip ≤ 4294967295) <;> simp
theorem flows_len {l : List S71} (hf : flowsb l = true) : (l.length : Int) ≤ 8 := by
  rw [flowsb, Bool.and_eq_true, decide_eq_true_eq] at hf
  exact hf.1
theorem spec_FlowFind_ev (l : List S71) (p a ap b bp : Int) (k : Nat) (hk : 201 ≤ k) : spec_FlowFind.f k l p a ap b bp = some (findA l p a ap b bp) := by
  obtain ⟨k, rfl⟩ : ∃ z, k = z + 1 := ⟨k - 1, by omega⟩
  unfold spec_FlowFind.f findA
  by_cases c : (l.length : Int) > 4096
  · rw [if_pos c, if_pos c]
  rw [if_neg c, if_neg c, spec_FlowsOK_ev l (k + 1) (by omega), Option.bind_some]
  cases hf : flowsb l
  · simp
  have h8 := flows_len hf
  simp only [l01In_eq, ask_spec, Option.bind_some, spec_FlowFind.j0, spec_find_ev l hf p a ap b bp k (by omega)]
  cases decide (0 ≤ p ∧ p ≤ 255) <;> cases decide (0 ≤ a ∧ a ≤ 4294967295) <;> cases decide (0 ≤ ap ∧ ap ≤ 65535) <;> cases decide (0 ≤ b ∧ b ≤ 4294967295) <;> cases decide (0 ≤ bp ∧ bp ≤ 65535) <;> simp
  split <;> rfl
theorem impl_FlowFind_ev (l : List S71) (p a ap b bp : Int) (k : Nat) (hk : 201 ≤ k) : impl_FlowFind.f k l p a ap b bp = some (findA l p a ap b bp) := by
  obtain ⟨k, rfl⟩ : ∃ z, k = z + 1 := ⟨k - 1, by omega⟩
  unfold impl_FlowFind.f impl_flowsFault.f findA
  by_cases c : (l.length : Int) > 4096
  · rw [if_pos c, if_pos c]; rfl
  rw [if_neg c, if_neg c, impl_FlowsOK_ev l (k + 1) (by omega), Option.bind_some]
  cases hf : flowsb l
  · simp
  have h8 := flows_len hf
  simp only [if_true, Option.bind_some, impl_isProto.f, within_eq, isAddress_eq, isPort_eq, impl_FlowFind.j0, impl_find_ev l (by omega) p a ap b bp k (by omega)]
  cases decide (0 ≤ p ∧ p ≤ 255) <;> cases decide (0 ≤ a ∧ a ≤ 4294967295) <;> cases decide (0 ≤ ap ∧ ap ≤ 65535) <;> cases decide (0 ≤ b ∧ b ≤ 4294967295) <;> cases decide (0 ≤ bp ∧ bp ≤ 65535) <;> simp
  split <;> rfl
end
section
theorem eq_T71_refl (x : S71) : laws_eqFlow.f (x.f0) (x.f1) (x.f2) (x.f3) (x.f4) (x.f5) (x.f6) (x.f7) (x.f8) (x.f0) (x.f1) (x.f2) (x.f3) (x.f4) (x.f5) (x.f6) (x.f7) (x.f8) = some true := by
  unfold laws_eqFlow.f
  repeat' (first | rw [if_pos rfl] | rfl | rw [if_neg (by simp)])
  all_goals simp
theorem eqS_T71_l0 (xs : List S71) : ∀ (d : Nat) (i : Int), 0 ≤ i → (xs.length : Int) - i = d → (xs.length : Int) ≤ 1152921504606846976 → Ev (fun k => laws_eqFlowS.l0 k xs xs i) true := by
  intro d
  induction d with
  | zero =>
    intro i h0 hd hx
    refine ⟨1, fun k hk => ?_⟩
    obtain ⟨k, rfl⟩ : ∃ q, k = q + 1 := ⟨k - 1, by omega⟩
    simp only [laws_eqFlowS.l0]
    rw [if_neg (by omega)]
  | succ d ih =>
    intro i h0 hd hx
    have hlt : i < (xs.length : Int) := by omega
    have ei : wrap64 (i + 1) = i + 1 := wrap_id (by omega) (by omega)
    refine Ev.step (f := fun k => laws_eqFlowS.l0 k xs xs (i + 1)) (fun k => ?_) (ih (i + 1) (by omega) (by omega) hx)
    simp only [laws_eqFlowS.l0, ei]
    rw [if_pos hlt, if_pos h0, if_pos hlt]
    simp only [eq_T71_refl, Option.bind_some, if_true]
theorem eqS_T71_ev (xs : List S71) (hx : (xs.length : Int) ≤ 1152921504606846976) : Ev (fun k => laws_eqFlowS.f k xs xs) true := by
  refine Ev.congr (f := fun k => laws_eqFlowS.l0 k xs xs 0) (fun k => ?_) (eqS_T71_l0 xs xs.length 0 (by omega) (by omega) hx)
  simp only [laws_eqFlowS.f, if_true]
end
section
def wf68 (x : S68) : Prop := (Lit.int .i64 x.f0).wf = true ∧ (x.f1.size ≤ 140737488351232 ∧ ((Lit.int .i64 x.f2).wf = true ∧ ((Lit.int .i64 x.f3).wf = true ∧ ((Lit.int .i64 x.f4).wf = true ∧ ((Lit.int .i64 x.f5).wf = true ∧ ((Lit.int .i64 x.f6).wf = true ∧ ((Lit.int .i64 x.f7).wf = true ∧ ((Lit.int .i64 x.f8).wf = true))))))))
set_option maxRecDepth 100000 in
theorem opens68 : Opens Try.prog 68 k68 wf68 :=
  Opens.iso (fun x : S68 => (x.f0, x.f1, x.f2, x.f3, x.f4, x.f5, x.f6, x.f7, x.f8)) (fun y => ⟨y.1, y.2.1, y.2.2.1, y.2.2.2.1, y.2.2.2.2.1, y.2.2.2.2.2.1, y.2.2.2.2.2.2.1, y.2.2.2.2.2.2.2.1, y.2.2.2.2.2.2.2.2⟩) (fun _ => rfl) (Opens.struct Try.underlying68 (by kernel_rfl) (OpensF.cons rfl (Opens.int Try.underlying3 (by kernel_rfl)) 1 rfl (OpensF.cons rfl (Opens.string Try.underlying9 (by kernel_rfl)) 2 rfl (OpensF.cons rfl (Opens.int Try.underlying3 (by kernel_rfl)) 3 rfl (OpensF.cons rfl (Opens.int Try.underlying3 (by kernel_rfl)) 4 rfl (OpensF.cons rfl (Opens.int Try.underlying3 (by kernel_rfl)) 5 rfl (OpensF.cons rfl (Opens.int Try.underlying3 (by kernel_rfl)) 6 rfl (OpensF.cons rfl (Opens.int Try.underlying3 (by kernel_rfl)) 7 rfl (OpensF.cons rfl (Opens.int Try.underlying3 (by kernel_rfl)) 8 rfl (OpensF.one rfl (Opens.int Try.underlying3 (by kernel_rfl))))))))))))
end
section
-- NEEDS laws.szFlowS laws.toFlowS
theorem rdmem_T68 {l : List S68} {i : Int} (h : i.toNat < l.length) : rd_T68 l i ∈ l := by
  unfold rd_T68
  rw [List.getD_eq_getElem?_getD, List.getElem?_eq_getElem h]
  exact List.getElem_mem h
theorem szFlows_l0 (l : List S68) (hw : ∀ y ∈ l, wf68 y) (hx : (l.length : Int) ≤ 1152921504606846976) : ∀ (d : Nat) (i left : Int), 0 ≤ i → (l.length : Int) - i = d → 0 ≤ left → left ≤ 1048576 →
    ∃ t, (∀ k, d + 1 ≤ k → laws_szFlowS.l0 k l left i = some t)
  | 0, i, left, h0, hd, h1, h2 => by
    refine ⟨left, fun k hk => ?_⟩
    obtain ⟨k, rfl⟩ : ∃ z, k = z + 1 := ⟨k - 1, by omega⟩
    rw [laws_szFlowS.l0, if_neg (by omega)]
  | d + 1, i, left, h0, hd, h1, h2 => by
    have hwi := (hw _ (rdmem_T68 (l := l) (i := i) (by omega))).2.1
    by_cases c : left - ((rd_T68 l i).f1.size : Int) < 0
    · refine ⟨-1, fun k hk => ?_⟩
      obtain ⟨k, rfl⟩ : ∃ z, k = z + 1 := ⟨k - 1, by omega⟩
      rw [laws_szFlowS.l0, if_pos (by omega), if_pos h0]
      simp only [laws_szFlow.f]
      rw [wrap_id (n := left - ((rd_T68 l i).f1.size : Int)) (by omega) (by omega), if_pos c]
      rfl
    · obtain ⟨u, e2⟩ := szFlows_l0 l hw hx d (i + 1) (left - ((rd_T68 l i).f1.size : Int)) (by omega) (by omega) (by omega) (by omega)
      refine ⟨u, fun k hk => ?_⟩
      obtain ⟨k, rfl⟩ : ∃ z, k = z + 1 := ⟨k - 1, by omega⟩
      rw [laws_szFlowS.l0, if_pos (by omega), if_pos h0]
      simp only [laws_szFlow.f]
      rw [wrap_id (n := left - ((rd_T68 l i).f1.size : Int)) (by omega) (by omega), if_neg c, Option.bind_some, if_neg c, wrap_id (by omega) (by omega), e2 k (by omega)]
theorem szFlows_ev (l : List S68) (hw : ∀ y ∈ l, wf68 y) (hx : l.length ≤ 140737488351232) : ∃ (t : Int) (K : Nat), (∀ k, K ≤ k → laws_szFlowS.f k l 1048576 = some t) ∧ (0 ≤ t → l.length ≤ 1048576) := by
  simp only [laws_szFlowS.f]
  rw [wrap_id (n := 1048576 - (l.length : Int)) (by omega) (by omega)]
  by_cases c : 1048576 - (l.length : Int) < 0
  · exact ⟨-1, 0, fun k _ => by rw [if_pos c], fun h => by omega⟩
  · simp only [if_neg c]
    obtain ⟨t, e⟩ := szFlows_l0 l hw (by omega) l.length 0 (1048576 - (l.length : Int)) (by omega) (by omega) (by omega) (by omega)
    exact ⟨t, l.length + 1, e, fun _ => by omega⟩
end
section
def to_T71 (x : S68) : S71 := (⟨x.f0, x.f1, x.f2, x.f3, x.f4, x.f5, x.f6, x.f7, x.f8⟩ : S71)
theorem to_T71_l0 (l : List S68) : ∀ (d : Nat) (acc : List S71) (i : Int), acc.length = l.length → 0 ≤ i → (l.length : Int) - i = d → (l.length : Int) ≤ 1152921504606846976 →
    ∃ ys : List S71, Ev (fun k => laws_toFlowS.l0 k l acc i) ys ∧ ys.length = l.length ∧ (∀ j : Nat, (j : Int) < i → ys[j]? = acc[j]?) ∧ (∀ j : Nat, i ≤ (j : Int) → ys[j]? = (l.map to_T71)[j]?) := by
  intro d
  induction d with
  | zero =>
    intro acc i ha h0 hd hx
    refine ⟨acc, ⟨1, fun k hk => ?_⟩, ha, fun _ _ => rfl, fun j hj => by rw [List.getElem?_eq_none (by omega), List.getElem?_eq_none (by rw [List.length_map]; omega)]⟩
    obtain ⟨k, rfl⟩ : ∃ q, k = q + 1 := ⟨k - 1, by omega⟩
    simp only [laws_toFlowS.l0]
    rw [if_neg (by omega)]
  | succ d ih =>
    intro acc i ha h0 hd hx
    have hlt : i < (l.length : Int) := by omega
    have hn : i.toNat < l.length := by omega
    have ei : wrap64 (i + 1) = i + 1 := wrap_id (by omega) (by omega)
    obtain ⟨ys, hev, hlen, hold, hnew⟩ := ih (acc.set i.toNat (to_T71 (rd_T68 l i))) (i + 1) (by rw [List.length_set]; exact ha) (by omega) (by omega) hx
    refine ⟨ys, Ev.step (f := fun k => laws_toFlowS.l0 k l (acc.set i.toNat (to_T71 (rd_T68 l i))) (i + 1)) (fun k => ?_) hev, hlen, fun j hj => ?_, fun j hj => ?_⟩
    · simp only [laws_toFlowS.l0]
      rw [if_pos hlt, if_pos h0]
      simp only [laws_toFlow.f, Option.bind_some, ei, to_T71]
      rw [if_pos (by omega)]
    · rw [hold j (by omega), List.getElem?_set_ne (by omega)]
    · by_cases hji : (j : Int) = i
      · have e : i.toNat = j := by omega
        rw [hold j (by omega), e, List.getElem?_set_self (by omega), List.getElem?_map, List.getElem?_eq_getElem (show j < l.length by omega)]
        simp only [Option.map_some, rd_T68, e, List.getD_eq_getElem?_getD, List.getElem?_eq_getElem (show j < l.length by omega), Option.getD_some]
      · exact hnew j (by omega)
theorem to_T71_ev (l : List S68) (hx : l.length ≤ 1048576) : Ev (fun k => laws_toFlowS.f k l) (l.map to_T71) := by
  obtain ⟨ys, hev, hlen, _, hnew⟩ := to_T71_l0 l l.length (List.replicate l.length z71) 0 (by simp) (by omega) (by omega) (by omega)
  have e : ys = l.map to_T71 := List.ext_getElem? fun j => hnew j (by omega)
  rw [← e]
  refine Ev.congr (fun k => ?_) hev
  simp only [laws_toFlowS.f]
  rw [if_pos (by omega), if_pos (by omega)]
  rfl
end
section
def P_FnExactFlowFind : Prop := ∀ (a0 : List (S68)) (a1 : Int) (a2 : Int) (a3 : Int) (a4 : Int) (a5 : Int), (a0.length * 80 ≤ 140737488351232 ∧ a0.length ≤ maxLen ∧ ∀ y ∈ a0, wf68 y) → (Lit.int .i64 a1).wf = true → (Lit.int .i64 a2).wf = true → (Lit.int .i64 a3).wf = true → (Lit.int .i64 a4).wf = true → (Lit.int .i64 a5).wf = true → ∃ k, laws_FnExactFlowFind.f k a0 a1 a2 a3 a4 a5 = some true
end
section
-- NEEDS laws.FnExactFlowFind
theorem pure_FnExactFlowFind : P_FnExactFlowFind := by
  intro l p a ap b bp hl _ _ _ _ _
  obtain ⟨t, K0, e0, hh⟩ := szFlows_ev l hl.2.2 (by have := hl.1; omega)
  by_cases ht : t < 0
  · refine ⟨K0, ?_⟩
    simp only [laws_FnExactFlowFind.f, e0 K0 (Nat.le_refl _), Option.bind_some, if_pos ht]
  have hlen := hh (by omega)
  obtain ⟨K1, h1⟩ := to_T71_ev l hlen
  have hml : (l.map to_T71).length = l.length := List.length_map ..
  obtain ⟨K4, h4⟩ := eqS_T71_ev (l.map to_T71) (by omega)
  have b0 := e0 (K0 + K1 + K4 + 200 + 1) (by omega)
  have b1 := h1 (K0 + K1 + K4 + 200 + 1) (by omega)
  have b1' := h1 (K0 + K1 + K4 + 200) (by omega)
  have b4 := h4 (K0 + K1 + K4 + 200) (by omega)
  have b2 := spec_FlowFind_ev (l.map to_T71) p a ap b bp (K0 + K1 + K4 + 200 + 1) (by omega)
  have b3 := impl_FlowFind_ev (l.map to_T71) p a ap b bp (K0 + K1 + K4 + 200 + 1) (by omega)
  dsimp only at b1 b1' b4
  refine ⟨K0 + K1 + K4 + 200 + 1, ?_⟩
  simp only [laws_FnExactFlowFind.f, b0, Option.bind_some, if_neg ht, b1, b2, b3, bne_self_eq_false, Bool.false_eq_true, if_false, if_true, laws_FnExactFlowFind.j0, b1', b4]
end
section
-- IMPORT Derived.Test.YtlpkldomoniegaaRows
-- IMPORT Derived.WalkKit
-- IMPORT Derived.ProofKit
-- IMPORT Derived.OpenShut
-- IMPORT Derived.ShutString
-- IMPORT Derived.ChangeOld
-- IMPORT Derived.Below
-- IMPORT Derived.SizedLaws
open Go.ChangeShapes Go.WideShapes Go.ChangeAt
open Go.ChangeMaps (open_string shut_string)
theorem own_FnExactFlowFind : ownKnob Try.prog.godebug = none := by kernel_rfl
theorem laidOut_FnExactFlowFind : laidOutB Try.prog = true := by kernel_rfl
set_option maxHeartbeats 4000000 in
set_option maxRecDepth 100000 in
theorem lifted_FnExactFlowFind (os : Os) (started : os.Started) (H : Type) (enc : TypeId × Value → H) :
    ReturnsInHanded {} Try.checked os 8 .any (Rows.fnExactFlowFindSpec.pre6 enc Try.prog Try.f8 Rows.fnExactFlowFindRow.domain false) (Rows.fnExactFlowFindSpec.post enc Try.prog Try.f8 false true false false) := by
  refine returnsInHanded_of_change_sized (C := Try.checked) own_FnExactFlowFind started (by kernel_rfl) Try.func8
    (ChangeSpec.witness6 (enc := enc) (C := Try.checked) false ⟨#[], #[.slice none 0 0, .int .i64 0, .int .i64 0, .int .i64 0, .int .i64 0, .int .i64 0], []⟩ 8 (by kernel_rfl) (by kernel_rfl) (by kernel_rfl) (by kernel_rfl)) ?_
  intro W base args ds gs before hval0 hW hcnd hsz0 _
  have hsz : (DataW.weightsEach Try.prog (Try.f8.params.toList ++ Rows.fnExactFlowFindSpec.plain.varTypes Try.prog) (ds ++ gs)).all (· ≤ reachBytes) = true := hsz0
  have hval : ∀ (j : Nat) t v, Try.f8.params[j]? = some t → args[j]? = some v → Value.okWide Try.prog W .any base t v := hval0
  have hW' := hW
  obtain ⟨p, q, hA0, hV, rfl, hfz, hnd⟩ := hW
  have hA : DataW.TrodAll enc Try.prog W 0 (fun _ => true) true Try.f8.params.toList args.toList ds p := hA0
  rw [Try.params8] at hA hval hsz
  obtain ⟨v0, vs0, d0, ds0, p0, q0, hargs, rfl, rfl, h0, r0⟩ := trodAll_cons hA
  obtain ⟨v1, vs1, d1, ds1, p1, q1, rfl, rfl, rfl, h1, r1⟩ := trodAll_cons r0
  obtain ⟨v2, vs2, d2, ds2, p2, q2, rfl, rfl, rfl, h2, r2⟩ := trodAll_cons r1
  obtain ⟨v3, vs3, d3, ds3, p3, q3, rfl, rfl, rfl, h3, r3⟩ := trodAll_cons r2
  obtain ⟨v4, vs4, d4, ds4, p4, q4, rfl, rfl, rfl, h4, r4⟩ := trodAll_cons r3
  obtain ⟨v5, vs5, d5, ds5, p5, q5, rfl, rfl, rfl, h5, r5⟩ := trodAll_cons r4
  obtain ⟨rfl, rfl, rfl⟩ := trodAll_nil r5
  obtain rfl : args = #[v0, v1, v2, v3, v4, v5] := by cases args; simp_all
  obtain ⟨rfl, rfl⟩ := trodVars_none hV
  have k0 := h0
  have lt0 : ∀ x ∈ p0, x.block < W.heap.size := by obtain ⟨m, hm⟩ := k0; exact DataW.trod_lt m _ _ _ hm
  obtain ⟨A0, n0, c0, rfl⟩ := okWide_slice Try.underlying37 (hval 0 37 v0 rfl rfl)
  obtain ⟨fuel0, hf0⟩ := h0
  obtain ⟨a0, ⟨A0', c0', e0, hl0, hc0⟩, w0⟩ := (Opens.slice Try.underlying37 (by kernel_rfl) 80 (by kernel_rfl) opens68).op hf0 (fun n hn => by have z := List.all_eq_true.1 hsz _ (DataW.weights_mem_each (j := 0) (t := 37) rfl rfl n hn); simpa using z)
  simp only [Value.cells, List.cons.injEq, Value.slice.injEq, and_true] at e0
  obtain ⟨rfl, rfl, rfl⟩ := e0
  obtain ⟨a1, rfl, rfl, rfl, w1⟩ := open_int Try.underlying3 (hval 1 3 v1 rfl rfl) h1
  obtain ⟨a2, rfl, rfl, rfl, w2⟩ := open_int Try.underlying3 (hval 2 3 v2 rfl rfl) h2
  obtain ⟨a3, rfl, rfl, rfl, w3⟩ := open_int Try.underlying3 (hval 3 3 v3 rfl rfl) h3
  obtain ⟨a4, rfl, rfl, rfl, w4⟩ := open_int Try.underlying3 (hval 4 3 v4 rfl rfl) h4
  obtain ⟨a5, rfl, rfl, rfl, w5⟩ := open_int Try.underlying3 (hval 5 3 v5 rfl rfl) h5
  clear hA0 hval0 hsz0 hsz
  obtain ⟨k, hk⟩ := pure_FnExactFlowFind a0 a1 a2 a3 a4 a5 w0 w1 w2 w3 w4 w5
  refine (laws_FnExactFlowFind.calls k _ _ a0 a1 a2 a3 a4 a5 true W hc0 hl0 hk).mono fun e W' hh => ?_
  obtain ⟨he, bel0⟩ := hh
  have bel : Below W.heap.size W W' := bel0
  subst he
  exact ⟨_, rfl, _, _, _, [], _, [], hW', trodAll_mk1 (shut_bool Try.underlying4 _), (trodAll_cons_mk (Below.trod laidOut_FnExactFlowFind (by kernel_rfl) (of_decide_eq_true (by kernel_rfl)) k0 bel lt0) (trodAll_cons_mk (shut_int Try.underlying3 w1) (trodAll_cons_mk (shut_int Try.underlying3 w2) (trodAll_cons_mk (shut_int Try.underlying3 w3) (trodAll_cons_mk (shut_int Try.underlying3 w4) (trodAll_cons_mk (shut_int Try.underlying3 w5) trodAll_mk0)))))), rfl, bel.frame _, fun h => by cases h⟩
theorem over_FnExactFlowFind : Rows.fnExactFlowFindRow.holds Try.pinned (OpenSpec.ofChange Rows.fnExactFlowFindSpec) :=
  OpenClaim.holds_of_wide 8 Try.f8 rfl rfl rfl rfl rfl rfl rfl ⟨rfl, rfl, rfl, rfl, rfl⟩ rfl rfl rfl rfl rfl (by kernel_rfl) Try.func8 (by kernel_rfl)
    (of_decide_eq_true (by kernel_rfl)) (by unfold Func.isWrapper; first | (rw [if_pos (by decide +kernel)]; kernel_rfl) | (rw [if_neg (by decide +kernel)]; exact ⟨rfl, rfl⟩))
    (fun os started H enc _ => lifted_FnExactFlowFind os started H enc)
theorem proved_FnExactFlowFind : Rows.FnExactFlowFindSaid := over_FnExactFlowFind
#print axioms proved_FnExactFlowFind
end
end Go.Proofs.Ytlpkldomoniegaa.X
