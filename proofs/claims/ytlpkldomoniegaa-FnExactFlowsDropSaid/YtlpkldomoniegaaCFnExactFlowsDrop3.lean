/- Texts that the row of FnExactFlowsDrop stands on: functions of the program and of the reference, each as a Lean function with the same answers, and the plain lemmas. Conditions: none beside those that each theorem names. -/
import Derived.Test.YtlpkldomoniegaaCFnExactFlowsDrop2
namespace Go.Proofs.Ytlpkldomoniegaa.X
open Go.RowKit Go.Proofs.YtlpkldomoniegaaW.PrintWords Go.Proofs.YtlpkldomoniegaaW.PrintLast Go.Proofs.YtlpkldomoniegaaW.PrintMore
attribute [local go_sem] max2_int min2_int max_two min_two max_three min_three max_four min_four   -- for this text's walks alone
set_option linter.unusedVariables false
set_option linter.unusedSimpArgs false
section
/-! ### spec_FlowsOK: function 27 -/
mutual
def spec_FlowsOK.l0 : Nat → List (S71) → Int → Option (Bool)
  | 0, _, _ => none
  | k + 1, x0, x3 => if x3 < (x0.length : Int) then (if 0 ≤ x3 then ((spec_l09Flow.f ((rd_T71 x0 x3).f0) ((rd_T71 x0 x3).f1) ((rd_T71 x0 x3).f2) ((rd_T71 x0 x3).f3) ((rd_T71 x0 x3).f4) ((rd_T71 x0 x3).f5) ((rd_T71 x0 x3).f6) ((rd_T71 x0 x3).f7) ((rd_T71 x0 x3).f8)).bind fun t220 => (if t220 = true then (spec_FlowsOK.l1 k x0 x3 0 ((rd_T71 x0 x3).f0) ((rd_T71 x0 x3).f1) ((rd_T71 x0 x3).f2) ((rd_T71 x0 x3).f3) ((rd_T71 x0 x3).f4) ((rd_T71 x0 x3).f5) ((rd_T71 x0 x3).f6) ((rd_T71 x0 x3).f7) ((rd_T71 x0 x3).f8)) else (some false))) else (none)) else (some true)
def spec_FlowsOK.l1 : Nat → List (S71) → Int → Int → Int → ByteArray → Int → Int → Int → Int → Int → Int → Int → Option (Bool)
  | 0, _, _, _, _, _, _, _, _, _, _, _, _ => none
  | k + 1, x0, x3, x5, x220000, x220001, x220002, x220003, x220004, x220005, x220006, x220007, x220008 => if x5 < x3 then (if 0 ≤ x5 then (if x5 < (x0.length : Int) then ((spec_l09Same.f ((rd_T71 x0 x5).f0) ((rd_T71 x0 x5).f1) ((rd_T71 x0 x5).f2) ((rd_T71 x0 x5).f3) ((rd_T71 x0 x5).f4) ((rd_T71 x0 x5).f5) ((rd_T71 x0 x5).f6) ((rd_T71 x0 x5).f7) ((rd_T71 x0 x5).f8) x220000 x220002 x220003 x220004 x220005).bind fun t223 => (if t223 = true then (some false) else ((spec_l09Same.f ((rd_T71 x0 x5).f0) ((rd_T71 x0 x5).f1) ((rd_T71 x0 x5).f2) ((rd_T71 x0 x5).f3) ((rd_T71 x0 x5).f4) ((rd_T71 x0 x5).f5) ((rd_T71 x0 x5).f6) ((rd_T71 x0 x5).f7) ((rd_T71 x0 x5).f8) x220000 x220004 x220005 x220002 x220003).bind fun t224 => (if t224 = true then (some false) else (spec_FlowsOK.l1 k x0 x3 (wrap64 (x5 + 1)) x220000 x220001 x220002 x220003 x220004 x220005 x220006 x220007 x220008))))) else (none)) else (none)) else (spec_FlowsOK.l0 k x0 (wrap64 (x3 + 1)))
end
def spec_FlowsOK.f (k : Nat) (l0 : List (S71)) : Option (Bool) := if (l0.length : Int) > 4096 then (some false) else (if (l0.length : Int) > 8 then (some false) else (spec_FlowsOK.l0 k l0 0))
theorem spec_FlowsOK.mono_l : ∀ k, (∀ y0 y1, LeO (spec_FlowsOK.l0 k y0 y1) (spec_FlowsOK.l0 (k + 1) y0 y1)) ∧ (∀ y0 y1 y2 y3 y4 y5 y6 y7 y8 y9 y10 y11, LeO (spec_FlowsOK.l1 k y0 y1 y2 y3 y4 y5 y6 y7 y8 y9 y10 y11) (spec_FlowsOK.l1 (k + 1) y0 y1 y2 y3 y4 y5 y6 y7 y8 y9 y10 y11))
  | 0 => ⟨fun _ _ r h => by simp [spec_FlowsOK.l0] at h, fun _ _ _ _ _ _ _ _ _ _ _ _ r h => by simp [spec_FlowsOK.l1] at h⟩
  | k + 1 => by
    obtain ⟨ih0, ih1⟩ := spec_FlowsOK.mono_l k
    refine ⟨?_, ?_⟩
    · intro y0 y1
      unfold spec_FlowsOK.l0
      repeat' first
      | (with_reducible exact ih0 _ _)
      | (with_reducible exact ih1 _ _ _ _ _ _ _ _ _ _ _ _)
      | (with_reducible exact LeO.refl _)
      | (with_reducible exact LeO.none _)
      | (with_reducible refine LeO.ite ?_ ?_)
      | (with_reducible refine LeO.bind ?_ (fun _ => ?_))
      | exact ih0 _ _
      | exact ih1 _ _ _ _ _ _ _ _ _ _ _ _
      | exact LeO.none _
      | refine LeO.ite ?_ ?_
      | refine LeO.bind ?_ (fun _ => ?_)
    · intro y0 y1 y2 y3 y4 y5 y6 y7 y8 y9 y10 y11
      unfold spec_FlowsOK.l1
      repeat' first
      | (with_reducible exact ih0 _ _)
      | (with_reducible exact ih1 _ _ _ _ _ _ _ _ _ _ _ _)
      | (with_reducible exact LeO.refl _)
      | (with_reducible exact LeO.none _)
      | (with_reducible refine LeO.ite ?_ ?_)
      | (with_reducible refine LeO.bind ?_ (fun _ => ?_))
      | exact ih0 _ _
      | exact ih1 _ _ _ _ _ _ _ _ _ _ _ _
      | exact LeO.none _
      | refine LeO.ite ?_ ?_
      | refine LeO.bind ?_ (fun _ => ?_)
theorem spec_FlowsOK.mono : ∀ a0 k, LeO (spec_FlowsOK.f k a0) (spec_FlowsOK.f (k + 1) a0) := by
  intro a0 k
  obtain ⟨ih0, ih1⟩ := spec_FlowsOK.mono_l k
  unfold spec_FlowsOK.f
  repeat' first
      | (with_reducible exact ih0 _ _)
      | (with_reducible exact ih1 _ _ _ _ _ _ _ _ _ _ _ _)
      | (with_reducible exact LeO.refl _)
      | (with_reducible exact LeO.none _)
      | (with_reducible refine LeO.ite ?_ ?_)
      | (with_reducible refine LeO.bind ?_ (fun _ => ?_))
      | exact ih0 _ _
      | exact ih1 _ _ _ _ _ _ _ _ _ _ _ _
      | exact LeO.none _
      | refine LeO.ite ?_ ?_
      | refine LeO.bind ?_ (fun _ => ?_)
set_option maxHeartbeats 8000000 in
set_option maxRecDepth 100000 in
theorem spec_FlowsOK.calls (k : Nat) (A0 : Option Addr) (c0 : Nat) (l0 : List (S71)) (r : Bool) (w : World) (hr0 : Kd.C k71 w A0 l0.length l0) (hc0 : l0.length ≤ c0) (h : spec_FlowsOK.f k l0 = some r) :
    Calls Try.prog 27 #[.slice A0 l0.length c0] w fun e w' => e = .returned (.bool r) ∧ Below w.heap.size w w' := by
  have hu71 := Try.underlying71
  have HR0 := Aside0.mk hr0
  have HC0 := Aside0.mk hc0
  clear hr0 hc0
  have HB := Aside0.mk (Below.refl w.heap.size w)
  have H : (if (l0.length : Int) > 4096 then (some false) else (if (l0.length : Int) > 8 then (some false) else (spec_FlowsOK.l0 k l0 0))) = some r := h
  clear h
  by_cases c2 : (l0.length : Int) > 4096
  · rw [if_pos c2] at H
    have c2b0 : decide (4096 < (l0.length : Int)) = true := decide_eq_true c2
    have c2b1 : decide (4096 < l0.length) = true := decide_eq_true (by omega)
    clear c2
    obtain rfl := Option.some.inj H
    go_enter Try.func27, Try.ntmps27
    go_wp2
    go_ret
    exact ⟨by first | rfl | (simp [errW_none, errW_some] <;> rfl) | (simp [*, errW_none, errW_some] <;> rfl), by repeat (first | (with_reducible first | exact HB.out | apply below_alloc | apply pw_below_drewN | apply below_drew1) | exact HB.out)⟩
  · rw [if_neg c2] at H
    have c2b0 : decide (4096 < (l0.length : Int)) = false := decide_eq_false c2
    have c2b1 : decide (4096 < l0.length) = false := decide_eq_false (by omega)
    clear c2
    by_cases c3 : (l0.length : Int) > 8
    · rw [if_pos c3] at H
      have c3b0 : decide (8 < (l0.length : Int)) = true := decide_eq_true c3
      have c3b1 : decide (8 < l0.length) = true := decide_eq_true (by omega)
      clear c3
      obtain rfl := Option.some.inj H
      go_enter Try.func27, Try.ntmps27
      go_wp2
      go_ret
      exact ⟨by first | rfl | (simp [errW_none, errW_some] <;> rfl) | (simp [*, errW_none, errW_some] <;> rfl), by repeat (first | (with_reducible first | exact HB.out | apply below_alloc | apply pw_below_drewN | apply below_drew1) | exact HB.out)⟩
    · rw [if_neg c3] at H
      have c3b0 : decide (8 < (l0.length : Int)) = false := decide_eq_false c3
      have c3b1 : decide (8 < l0.length) = false := decide_eq_false (by omega)
      clear c3
      have H' := Aside0.mk H
      clear H
      go_enter Try.func27, Try.ntmps27
      go_wp2
      go_loopg [3] k (fun kq v3 w' => ∃ (x3_1 : Int), v3 = .int .i64 x3_1 ∧ Aside0 (spec_FlowsOK.l0 kq l0 x3_1 = some r) ∧ Aside0 (kq ≤ k) ∧ Aside0 (Below w.heap.size w w'))
      case atStart => exact ⟨(0), (by first | rfl | (simp; done) | (simp [*]; done) | (simp [ne_nil_b]; done) | (simp [ne_nil_b, *]; done)), H', ⟨Nat.le_refl _⟩, ⟨by repeat (first | (with_reducible first | exact HB.out | apply below_alloc | apply pw_below_drewN | apply below_drew1) | exact HB.out)⟩⟩
      case round =>
        clear H'
        try clear c2
        try clear c2b0
        try clear c2b1
        try clear p2
        try clear c3
        try clear c3b0
        try clear c3b1
        obtain ⟨x3_1, rfl, HA, HK1, HB⟩ := hrel
        cases gk with
        | zero => exact absurd HA.out (by simp [spec_FlowsOK.l0])
        | succ k1 =>
          have H := HA.out
          clear HA
          simp only [spec_FlowsOK.l0] at H
          by_cases c4 : x3_1 < (l0.length : Int)
          · rw [if_pos c4] at H
            have c4b0 : decide (x3_1 < (l0.length : Int)) = true := decide_eq_true c4
            clear c4
            by_cases c5 : 0 ≤ x3_1
            · rw [if_pos c5] at H
              have c5b0 : decide (0 ≤ x3_1) = true := decide_eq_true c5
              clear c5
              replace H := Option.bind_eq_some_iff.mp H
              obtain ⟨t220, A60, H⟩ := H
              replace H : (if t220 = true then (spec_FlowsOK.l1 k1 l0 x3_1 0 ((rd_T71 l0 x3_1).f0) ((rd_T71 l0 x3_1).f1) ((rd_T71 l0 x3_1).f2) ((rd_T71 l0 x3_1).f3) ((rd_T71 l0 x3_1).f4) ((rd_T71 l0 x3_1).f5) ((rd_T71 l0 x3_1).f6) ((rd_T71 l0 x3_1).f7) ((rd_T71 l0 x3_1).f8)) else (some false)) = some r := H
              have A6 := Aside0.mk A60
              clear A60
              by_cases c7 : t220 = true
              · subst c7
                have H1 : (spec_FlowsOK.l1 k1 l0 x3_1 0 ((rd_T71 l0 x3_1).f0) ((rd_T71 l0 x3_1).f1) ((rd_T71 l0 x3_1).f2) ((rd_T71 l0 x3_1).f3) ((rd_T71 l0 x3_1).f4) ((rd_T71 l0 x3_1).f5) ((rd_T71 l0 x3_1).f6) ((rd_T71 l0 x3_1).f7) ((rd_T71 l0 x3_1).f8)) = some r := by rw [if_pos rfl] at H; exact H
                clear H
                have H := H1
                clear H1
                have H' := Aside0.mk H
                clear H
                have p218 : 0 ≤ (x3_1 : Int) := of_decide_eq_true (by first | (with_reducible assumption) | assumption)
                have q218 : x3_1 < (l0.length : Int) := of_decide_eq_true (by first | (with_reducible assumption) | assumption)
                obtain ⟨ad218, e218, hx218_0, hx218_1, hx218_2, hx218_3, hx218_4, hx218_5, hx218_6, hx218_7, hx218_8⟩ := at_T71 HR0.out x3_1 p218 q218
                cases e218
                replace hx218_0 := (HB.out.cell (World.block_lt_of_cell? w _ hx218_0)).trans hx218_0
                replace hx218_1 := (HB.out.cell (World.block_lt_of_cell? w _ hx218_1)).trans hx218_1
                replace hx218_2 := (HB.out.cell (World.block_lt_of_cell? w _ hx218_2)).trans hx218_2
                replace hx218_3 := (HB.out.cell (World.block_lt_of_cell? w _ hx218_3)).trans hx218_3
                replace hx218_4 := (HB.out.cell (World.block_lt_of_cell? w _ hx218_4)).trans hx218_4
                replace hx218_5 := (HB.out.cell (World.block_lt_of_cell? w _ hx218_5)).trans hx218_5
                replace hx218_6 := (HB.out.cell (World.block_lt_of_cell? w _ hx218_6)).trans hx218_6
                replace hx218_7 := (HB.out.cell (World.block_lt_of_cell? w _ hx218_7)).trans hx218_7
                replace hx218_8 := (HB.out.cell (World.block_lt_of_cell? w _ hx218_8)).trans hx218_8
                replace p218 := eq_true p218
                replace q218 := eq_true q218
                go_wp2_with (first | ((with_reducible refine gate_dst (N := 4) rfl ?_); refine box_event ?hg (N := 4) ?hd (cs := #[.int .i64 0, .string (⟨#[]⟩ : ByteArray), .int .i64 0, .int .i64 0, .int .i64 0, .int .i64 0, .int .i64 0, .int .i64 0, .int .i64 0]) (t := 71) ?hr ?_; (case hd => rfl); (case hg => rfl); (case hr => first | (go_simp; done) | (go_simp; rfl)); intro gb219 hg w8 hbox hb; have n0_ := Aside0.mk (below_step (by repeat (first | (with_reducible first | exact HB.out | apply below_alloc | apply pw_below_drewN | apply below_drew1) | exact HB.out)) hb); have n1_ := Aside0.mk (hbox); have n2_ := Aside0.mk ((by rw [hg]; exact (below_size (by repeat (first | (with_reducible first | exact HB.out | apply below_alloc | apply pw_below_drewN | apply below_drew1) | exact HB.out))) : w.heap.size ≤ gb219)); have n3_ := Aside0.mk ((by rw [hg]; exact (below_size (by repeat (first | (with_reducible first | exact HB.out | apply below_alloc | apply pw_below_drewN | apply below_drew1) | exact HB.out))) : w.heap.size ≤ gb219)); clear HB; have HB := n0_; have BK219 := n1_; have GW219 := n2_; have GE219 := n3_; clear n0_ n1_ n2_ n3_; clear hb hbox hg; have hcz9_0 : w8.cell? ⟨gb219, 0, none⟩ = some (.int .i64 0) := (blk_cell BK219.out 0).trans rfl; have hcz9_1 : w8.cell? ⟨gb219, 1, none⟩ = some (.string (⟨#[]⟩ : ByteArray)) := (blk_cell BK219.out 1).trans rfl; have hcz9_2 : w8.cell? ⟨gb219, 2, none⟩ = some (.int .i64 0) := (blk_cell BK219.out 2).trans rfl; have hcz9_3 : w8.cell? ⟨gb219, 3, none⟩ = some (.int .i64 0) := (blk_cell BK219.out 3).trans rfl; have hcz9_4 : w8.cell? ⟨gb219, 4, none⟩ = some (.int .i64 0) := (blk_cell BK219.out 4).trans rfl; have hcz9_5 : w8.cell? ⟨gb219, 5, none⟩ = some (.int .i64 0) := (blk_cell BK219.out 5).trans rfl; have hcz9_6 : w8.cell? ⟨gb219, 6, none⟩ = some (.int .i64 0) := (blk_cell BK219.out 6).trans rfl; have hcz9_7 : w8.cell? ⟨gb219, 7, none⟩ = some (.int .i64 0) := (blk_cell BK219.out 7).trans rfl; have hcz9_8 : w8.cell? ⟨gb219, 8, none⟩ = some (.int .i64 0) := (blk_cell BK219.out 8).trans rfl; have hfz9_0 := blk_frozen BK219.out 0; have hfz9_1 := blk_frozen BK219.out 1; have hfz9_2 := blk_frozen BK219.out 2; have hfz9_3 := blk_frozen BK219.out 3; have hfz9_4 := blk_frozen BK219.out 4; have hfz9_5 := blk_frozen BK219.out 5; have hfz9_6 := blk_frozen BK219.out 6; have hfz9_7 := blk_frozen BK219.out 7; have hfz9_8 := blk_frozen BK219.out 8) | ((with_reducible refine gate_callee (f := 75) rfl ?_); refine goesL_ (some 24) rfl rfl Try.func75 (by kernel_rfl) rfl #[.agg #[.int .i64 ((rd_T71 l0 x3_1).f0), .string ((rd_T71 l0 x3_1).f1), .int .i64 ((rd_T71 l0 x3_1).f2), .int .i64 ((rd_T71 l0 x3_1).f3), .int .i64 ((rd_T71 l0 x3_1).f4), .int .i64 ((rd_T71 l0 x3_1).f5), .int .i64 ((rd_T71 l0 x3_1).f6), .int .i64 ((rd_T71 l0 x3_1).f7), .int .i64 ((rd_T71 l0 x3_1).f8)]] rfl (by (try simp only [List.map_toArray, List.map_cons, List.map_nil]); first | done | rfl | (simp only [List.length_drop, List.length_take]; rfl)) ?_; (with_reducible refine (spec_l09Flow.calls ((rd_T71 l0 x3_1).f0) ((rd_T71 l0 x3_1).f1) ((rd_T71 l0 x3_1).f2) ((rd_T71 l0 x3_1).f3) ((rd_T71 l0 x3_1).f4) ((rd_T71 l0 x3_1).f5) ((rd_T71 l0 x3_1).f6) ((rd_T71 l0 x3_1).f7) ((rd_T71 l0 x3_1).f8) true _ A6.out).mono ?_); rintro e w10 ⟨rfl, hb⟩; refine ⟨_, rfl, ?_⟩; have n0_ := Aside0.mk (blk_below (g := gb219) (o := .cells #[.int .i64 ((rd_T71 l0 x3_1).f0), .string ((rd_T71 l0 x3_1).f1), .int .i64 ((rd_T71 l0 x3_1).f2), .int .i64 ((rd_T71 l0 x3_1).f3), .int .i64 ((rd_T71 l0 x3_1).f4), .int .i64 ((rd_T71 l0 x3_1).f5), .int .i64 ((rd_T71 l0 x3_1).f6), .int .i64 ((rd_T71 l0 x3_1).f7), .int .i64 ((rd_T71 l0 x3_1).f8)] 71 (0, 0)) (by (with_reducible repeat (first | refine blk_drewN ?_ _ | refine blk_drew ?_ | refine blk_alloc ?_ _)); refine blk_put (cs := #[.int .i64 ((rd_T71 l0 x3_1).f0), .string ((rd_T71 l0 x3_1).f1), .int .i64 ((rd_T71 l0 x3_1).f2), .int .i64 ((rd_T71 l0 x3_1).f3), .int .i64 ((rd_T71 l0 x3_1).f4), .int .i64 ((rd_T71 l0 x3_1).f5), .int .i64 ((rd_T71 l0 x3_1).f6), .int .i64 ((rd_T71 l0 x3_1).f7), .int .i64 0]) ?_ 8 _ rfl; (with_reducible repeat (first | refine blk_drewN ?_ _ | refine blk_drew ?_ | refine blk_alloc ?_ _)); refine blk_put (cs := #[.int .i64 ((rd_T71 l0 x3_1).f0), .string ((rd_T71 l0 x3_1).f1), .int .i64 ((rd_T71 l0 x3_1).f2), .int .i64 ((rd_T71 l0 x3_1).f3), .int .i64 ((rd_T71 l0 x3_1).f4), .int .i64 ((rd_T71 l0 x3_1).f5), .int .i64 ((rd_T71 l0 x3_1).f6), .int .i64 0, .int .i64 0]) ?_ 7 _ rfl; (with_reducible repeat (first | refine blk_drewN ?_ _ | refine blk_drew ?_ | refine blk_alloc ?_ _)); refine blk_put (cs := #[.int .i64 ((rd_T71 l0 x3_1).f0), .string ((rd_T71 l0 x3_1).f1), .int .i64 ((rd_T71 l0 x3_1).f2), .int .i64 ((rd_T71 l0 x3_1).f3), .int .i64 ((rd_T71 l0 x3_1).f4), .int .i64 ((rd_T71 l0 x3_1).f5), .int .i64 0, .int .i64 0, .int .i64 0]) ?_ 6 _ rfl; (with_reducible repeat (first | refine blk_drewN ?_ _ | refine blk_drew ?_ | refine blk_alloc ?_ _)); refine blk_put (cs := #[.int .i64 ((rd_T71 l0 x3_1).f0), .string ((rd_T71 l0 x3_1).f1), .int .i64 ((rd_T71 l0 x3_1).f2), .int .i64 ((rd_T71 l0 x3_1).f3), .int .i64 ((rd_T71 l0 x3_1).f4), .int .i64 0, .int .i64 0, .int .i64 0, .int .i64 0]) ?_ 5 _ rfl; (with_reducible repeat (first | refine blk_drewN ?_ _ | refine blk_drew ?_ | refine blk_alloc ?_ _)); refine blk_put (cs := #[.int .i64 ((rd_T71 l0 x3_1).f0), .string ((rd_T71 l0 x3_1).f1), .int .i64 ((rd_T71 l0 x3_1).f2), .int .i64 ((rd_T71 l0 x3_1).f3), .int .i64 0, .int .i64 0, .int .i64 0, .int .i64 0, .int .i64 0]) ?_ 4 _ rfl; (with_reducible repeat (first | refine blk_drewN ?_ _ | refine blk_drew ?_ | refine blk_alloc ?_ _)); refine blk_put (cs := #[.int .i64 ((rd_T71 l0 x3_1).f0), .string ((rd_T71 l0 x3_1).f1), .int .i64 ((rd_T71 l0 x3_1).f2), .int .i64 0, .int .i64 0, .int .i64 0, .int .i64 0, .int .i64 0, .int .i64 0]) ?_ 3 _ rfl; (with_reducible repeat (first | refine blk_drewN ?_ _ | refine blk_drew ?_ | refine blk_alloc ?_ _)); refine blk_put (cs := #[.int .i64 ((rd_T71 l0 x3_1).f0), .string ((rd_T71 l0 x3_1).f1), .int .i64 0, .int .i64 0, .int .i64 0, .int .i64 0, .int .i64 0, .int .i64 0, .int .i64 0]) ?_ 2 _ rfl; (with_reducible repeat (first | refine blk_drewN ?_ _ | refine blk_drew ?_ | refine blk_alloc ?_ _)); refine blk_put (cs := #[.int .i64 ((rd_T71 l0 x3_1).f0), .string (⟨#[]⟩ : ByteArray), .int .i64 0, .int .i64 0, .int .i64 0, .int .i64 0, .int .i64 0, .int .i64 0, .int .i64 0]) ?_ 1 _ rfl; (with_reducible repeat (first | refine blk_drewN ?_ _ | refine blk_drew ?_ | refine blk_alloc ?_ _)); refine blk_put (cs := #[.int .i64 0, .string (⟨#[]⟩ : ByteArray), .int .i64 0, .int .i64 0, .int .i64 0, .int .i64 0, .int .i64 0, .int .i64 0, .int .i64 0]) ?_ 0 _ rfl; (with_reducible repeat (first | refine blk_drewN ?_ _ | refine blk_drew ?_ | refine blk_alloc ?_ _)); exact BK219.out) hb); have n1_ := Aside0.mk (below_step (by repeat (first | (with_reducible first | exact HB.out | apply below_alloc | apply pw_below_drewN | apply below_drew1 | refine below_set ?_ GE219.out) | exact HB.out)) hb); clear BK219; clear HB; have BK219 := n0_; have HB := n1_; clear n0_ n1_; (try clear hb); (try clear hb2); (try clear hk); (try clear hi)))
                go_loopg [5] k1 (fun kq v5 w' => ∃ (x5_2 : Int), v5 = .int .i64 x5_2 ∧ Aside0 (spec_FlowsOK.l1 kq l0 x3_1 x5_2 ((rd_T71 l0 x3_1).f0) ((rd_T71 l0 x3_1).f1) ((rd_T71 l0 x3_1).f2) ((rd_T71 l0 x3_1).f3) ((rd_T71 l0 x3_1).f4) ((rd_T71 l0 x3_1).f5) ((rd_T71 l0 x3_1).f6) ((rd_T71 l0 x3_1).f7) ((rd_T71 l0 x3_1).f8) = some r) ∧ Aside0 (kq ≤ k1) ∧ Aside0 (w'.heap[gb219]? = some (.cells #[.int .i64 ((rd_T71 l0 x3_1).f0), .string ((rd_T71 l0 x3_1).f1), .int .i64 ((rd_T71 l0 x3_1).f2), .int .i64 ((rd_T71 l0 x3_1).f3), .int .i64 ((rd_T71 l0 x3_1).f4), .int .i64 ((rd_T71 l0 x3_1).f5), .int .i64 ((rd_T71 l0 x3_1).f6), .int .i64 ((rd_T71 l0 x3_1).f7), .int .i64 ((rd_T71 l0 x3_1).f8)] 71 (0, 0))) ∧ Aside0 (Below w.heap.size w w'))
                case atStart => exact ⟨(0), (by first | rfl | (simp; done) | (simp [*]; done) | (simp [ne_nil_b]; done) | (simp [ne_nil_b, *]; done)), H', ⟨Nat.le_refl _⟩, ⟨by (with_reducible repeat (first | refine blk_drewN ?_ _ | refine blk_drew ?_ | refine blk_alloc ?_ _)); exact BK219.out⟩, ⟨by repeat (first | (with_reducible first | exact HB.out | apply below_alloc | apply pw_below_drewN | apply below_drew1 | refine below_set ?_ GE219.out) | exact HB.out)⟩⟩
                case round =>
                  clear H'
                  try clear c2
                  try clear c2b0
                  try clear c2b1
                  try clear p2
                  try clear q2
                  try clear hx2
                  try clear c3
                  try clear c3b0
                  try clear c3b1
                  try clear c4
                  try clear c4b0
                  try clear c5
                  try clear c5b0
                  try clear c7
                  try clear hcz9_0
                  try clear hcz9_1
                  try clear hcz9_2
                  try clear hcz9_3
                  try clear hcz9_4
                  try clear hcz9_5
                  try clear hcz9_6
                  try clear hcz9_7
                  try clear hcz9_8
                  try clear hfz9_0
                  try clear hfz9_1
                  try clear hfz9_2
                  try clear hfz9_3
                  try clear hfz9_4
                  try clear hfz9_5
                  try clear hfz9_6
                  try clear hfz9_7
                  try clear hfz9_8
                  try clear hx218_0
                  try clear hx218_1
                  try clear hx218_2
                  try clear hx218_3
                  try clear hx218_4
                  try clear hx218_5
                  try clear hx218_6
                  try clear hx218_7
                  try clear hx218_8
                  try clear p2
                  try clear p218
                  try clear q218
                  obtain ⟨x5_2, rfl, HA, HK2, BK219, HB⟩ := hrel
                  cases gk with
                  | zero => exact absurd HA.out (by simp [spec_FlowsOK.l1])
                  | succ k2 =>
                    have H := HA.out
                    clear HA
                    simp only [spec_FlowsOK.l1] at H
                    by_cases c11 : x5_2 < x3_1
                    · rw [if_pos c11] at H
                      have c11b0 : decide (x5_2 < x3_1) = true := decide_eq_true c11
                      clear c11
                      by_cases c12 : 0 ≤ x5_2
                      · rw [if_pos c12] at H
                        have c12b0 : decide (0 ≤ x5_2) = true := decide_eq_true c12
                        clear c12
                        by_cases c13 : x5_2 < (l0.length : Int)
                        · rw [if_pos c13] at H
                          have c13b0 : decide (x5_2 < (l0.length : Int)) = true := decide_eq_true c13
                          clear c13
                          replace H := Option.bind_eq_some_iff.mp H
                          obtain ⟨t223, A140, H⟩ := H
                          replace H : (if t223 = true then (some false) else ((spec_l09Same.f ((rd_T71 l0 x5_2).f0) ((rd_T71 l0 x5_2).f1) ((rd_T71 l0 x5_2).f2) ((rd_T71 l0 x5_2).f3) ((rd_T71 l0 x5_2).f4) ((rd_T71 l0 x5_2).f5) ((rd_T71 l0 x5_2).f6) ((rd_T71 l0 x5_2).f7) ((rd_T71 l0 x5_2).f8) ((rd_T71 l0 x3_1).f0) ((rd_T71 l0 x3_1).f4) ((rd_T71 l0 x3_1).f5) ((rd_T71 l0 x3_1).f2) ((rd_T71 l0 x3_1).f3)).bind fun t224 => (if t224 = true then (some false) else (spec_FlowsOK.l1 k2 l0 x3_1 (wrap64 (x5_2 + 1)) ((rd_T71 l0 x3_1).f0) ((rd_T71 l0 x3_1).f1) ((rd_T71 l0 x3_1).f2) ((rd_T71 l0 x3_1).f3) ((rd_T71 l0 x3_1).f4) ((rd_T71 l0 x3_1).f5) ((rd_T71 l0 x3_1).f6) ((rd_T71 l0 x3_1).f7) ((rd_T71 l0 x3_1).f8))))) = some r := H
                          have A14 := Aside0.mk A140
                          clear A140
                          by_cases c15 : t223 = true
                          · subst c15
                            have H1 : (some false) = some r := by rw [if_pos rfl] at H; exact H
                            clear H
                            have H := H1
                            clear H1
                            obtain rfl := Option.some.inj H
                            have p221 : 0 ≤ (x5_2 : Int) := of_decide_eq_true (by first | (with_reducible assumption) | assumption)
                            have q221 : x5_2 < (l0.length : Int) := of_decide_eq_true (by first | (with_reducible assumption) | assumption)
                            obtain ⟨ad221, e221, hx221_0, hx221_1, hx221_2, hx221_3, hx221_4, hx221_5, hx221_6, hx221_7, hx221_8⟩ := at_T71 HR0.out x5_2 p221 q221
                            obtain rfl : ad218 = ad221 := (by injection e221)
                            replace hx221_0 := (HB.out.cell (World.block_lt_of_cell? w _ hx221_0)).trans hx221_0
                            replace hx221_1 := (HB.out.cell (World.block_lt_of_cell? w _ hx221_1)).trans hx221_1
                            replace hx221_2 := (HB.out.cell (World.block_lt_of_cell? w _ hx221_2)).trans hx221_2
                            replace hx221_3 := (HB.out.cell (World.block_lt_of_cell? w _ hx221_3)).trans hx221_3
                            replace hx221_4 := (HB.out.cell (World.block_lt_of_cell? w _ hx221_4)).trans hx221_4
                            replace hx221_5 := (HB.out.cell (World.block_lt_of_cell? w _ hx221_5)).trans hx221_5
                            replace hx221_6 := (HB.out.cell (World.block_lt_of_cell? w _ hx221_6)).trans hx221_6
                            replace hx221_7 := (HB.out.cell (World.block_lt_of_cell? w _ hx221_7)).trans hx221_7
                            replace hx221_8 := (HB.out.cell (World.block_lt_of_cell? w _ hx221_8)).trans hx221_8
                            replace p221 := eq_true p221
                            replace q221 := eq_true q221
                            go_wp2_with (first | ((with_reducible refine gate_dst (N := 6) rfl ?_); refine box_event ?hg (N := 6) ?hd (cs := #[.int .i64 0, .string (⟨#[]⟩ : ByteArray), .int .i64 0, .int .i64 0, .int .i64 0, .int .i64 0, .int .i64 0, .int .i64 0, .int .i64 0]) (t := 71) ?hr ?_; (case hd => rfl); (case hg => rfl); (case hr => first | (go_simp; done) | (go_simp; rfl)); intro gb222 hg w16 hbox hb; have n0_ := Aside0.mk (blk_below (g := gb219) (o := .cells #[.int .i64 ((rd_T71 l0 x3_1).f0), .string ((rd_T71 l0 x3_1).f1), .int .i64 ((rd_T71 l0 x3_1).f2), .int .i64 ((rd_T71 l0 x3_1).f3), .int .i64 ((rd_T71 l0 x3_1).f4), .int .i64 ((rd_T71 l0 x3_1).f5), .int .i64 ((rd_T71 l0 x3_1).f6), .int .i64 ((rd_T71 l0 x3_1).f7), .int .i64 ((rd_T71 l0 x3_1).f8)] 71 (0, 0)) (by (with_reducible repeat (first | refine blk_drewN ?_ _ | refine blk_drew ?_ | refine blk_alloc ?_ _)); exact BK219.out) hb); have n1_ := Aside0.mk (below_step (by repeat (first | (with_reducible first | exact HB.out | apply below_alloc | apply pw_below_drewN | apply below_drew1 | refine below_set ?_ GE219.out) | exact HB.out)) hb); have n2_ := Aside0.mk (hbox); have n3_ := Aside0.mk ((by rw [hg]; exact (below_size (by repeat (first | (with_reducible first | exact HB.out | apply below_alloc | apply pw_below_drewN | apply below_drew1 | refine below_set ?_ GE219.out) | exact HB.out))) : w.heap.size ≤ gb222)); have n4_ := Aside0.mk ((by rw [hg]; exact (below_size (by repeat (first | (with_reducible first | exact HB.out | apply below_alloc | apply pw_below_drewN | apply below_drew1 | refine below_set ?_ GE219.out) | exact HB.out))) : w.heap.size ≤ gb222)); have n5_ := Aside0.mk ((by rw [hg]; exact Nat.ne_of_lt (blk_lt (g := gb219) (o := .cells #[.int .i64 ((rd_T71 l0 x3_1).f0), .string ((rd_T71 l0 x3_1).f1), .int .i64 ((rd_T71 l0 x3_1).f2), .int .i64 ((rd_T71 l0 x3_1).f3), .int .i64 ((rd_T71 l0 x3_1).f4), .int .i64 ((rd_T71 l0 x3_1).f5), .int .i64 ((rd_T71 l0 x3_1).f6), .int .i64 ((rd_T71 l0 x3_1).f7), .int .i64 ((rd_T71 l0 x3_1).f8)] 71 (0, 0)) (by (with_reducible repeat (first | refine blk_drewN ?_ _ | refine blk_drew ?_ | refine blk_alloc ?_ _)); exact BK219.out)) : gb219 ≠ gb222)); have n6_ := Aside0.mk ((by rw [hg]; exact Nat.ne_of_gt (blk_lt (g := gb219) (o := .cells #[.int .i64 ((rd_T71 l0 x3_1).f0), .string ((rd_T71 l0 x3_1).f1), .int .i64 ((rd_T71 l0 x3_1).f2), .int .i64 ((rd_T71 l0 x3_1).f3), .int .i64 ((rd_T71 l0 x3_1).f4), .int .i64 ((rd_T71 l0 x3_1).f5), .int .i64 ((rd_T71 l0 x3_1).f6), .int .i64 ((rd_T71 l0 x3_1).f7), .int .i64 ((rd_T71 l0 x3_1).f8)] 71 (0, 0)) (by (with_reducible repeat (first | refine blk_drewN ?_ _ | refine blk_drew ?_ | refine blk_alloc ?_ _)); exact BK219.out)) : gb222 ≠ gb219)); clear BK219; clear HB; have BK219 := n0_; have HB := n1_; have BK222 := n2_; have GW222 := n3_; have GE222 := n4_; have NB219_222 := n5_; have NB222_219 := n6_; clear n0_ n1_ n2_ n3_ n4_ n5_ n6_; clear hb hbox hg; have hnb17 := NB222_219.out; have hnc17 := NB219_222.out; have hcz18_0 : w16.cell? ⟨gb222, 0, none⟩ = some (.int .i64 0) := (blk_cell BK222.out 0).trans rfl; have hcz18_1 : w16.cell? ⟨gb222, 1, none⟩ = some (.string (⟨#[]⟩ : ByteArray)) := (blk_cell BK222.out 1).trans rfl; have hcz18_2 : w16.cell? ⟨gb222, 2, none⟩ = some (.int .i64 0) := (blk_cell BK222.out 2).trans rfl; have hcz18_3 : w16.cell? ⟨gb222, 3, none⟩ = some (.int .i64 0) := (blk_cell BK222.out 3).trans rfl; have hcz18_4 : w16.cell? ⟨gb222, 4, none⟩ = some (.int .i64 0) := (blk_cell BK222.out 4).trans rfl; have hcz18_5 : w16.cell? ⟨gb222, 5, none⟩ = some (.int .i64 0) := (blk_cell BK222.out 5).trans rfl; have hcz18_6 : w16.cell? ⟨gb222, 6, none⟩ = some (.int .i64 0) := (blk_cell BK222.out 6).trans rfl; have hcz18_7 : w16.cell? ⟨gb222, 7, none⟩ = some (.int .i64 0) := (blk_cell BK222.out 7).trans rfl; have hcz18_8 : w16.cell? ⟨gb222, 8, none⟩ = some (.int .i64 0) := (blk_cell BK222.out 8).trans rfl; have hfz18_0 := blk_frozen BK222.out 0; have hfz18_1 := blk_frozen BK222.out 1; have hfz18_2 := blk_frozen BK222.out 2; have hfz18_3 := blk_frozen BK222.out 3; have hfz18_4 := blk_frozen BK222.out 4; have hfz18_5 := blk_frozen BK222.out 5; have hfz18_6 := blk_frozen BK222.out 6; have hfz18_7 := blk_frozen BK222.out 7; have hfz18_8 := blk_frozen BK222.out 8; have hcz19_0 : w16.cell? ⟨gb219, 0, none⟩ = some (.int .i64 ((rd_T71 l0 x3_1).f0)) := (blk_cell BK219.out 0).trans rfl; have hcz19_1 : w16.cell? ⟨gb219, 1, none⟩ = some (.string ((rd_T71 l0 x3_1).f1)) := (blk_cell BK219.out 1).trans rfl; have hcz19_2 : w16.cell? ⟨gb219, 2, none⟩ = some (.int .i64 ((rd_T71 l0 x3_1).f2)) := (blk_cell BK219.out 2).trans rfl; have hcz19_3 : w16.cell? ⟨gb219, 3, none⟩ = some (.int .i64 ((rd_T71 l0 x3_1).f3)) := (blk_cell BK219.out 3).trans rfl; have hcz19_4 : w16.cell? ⟨gb219, 4, none⟩ = some (.int .i64 ((rd_T71 l0 x3_1).f4)) := (blk_cell BK219.out 4).trans rfl; have hcz19_5 : w16.cell? ⟨gb219, 5, none⟩ = some (.int .i64 ((rd_T71 l0 x3_1).f5)) := (blk_cell BK219.out 5).trans rfl; have hcz19_6 : w16.cell? ⟨gb219, 6, none⟩ = some (.int .i64 ((rd_T71 l0 x3_1).f6)) := (blk_cell BK219.out 6).trans rfl; have hcz19_7 : w16.cell? ⟨gb219, 7, none⟩ = some (.int .i64 ((rd_T71 l0 x3_1).f7)) := (blk_cell BK219.out 7).trans rfl; have hcz19_8 : w16.cell? ⟨gb219, 8, none⟩ = some (.int .i64 ((rd_T71 l0 x3_1).f8)) := (blk_cell BK219.out 8).trans rfl; have hfz19_0 := blk_frozen BK219.out 0; have hfz19_1 := blk_frozen BK219.out 1; have hfz19_2 := blk_frozen BK219.out 2; have hfz19_3 := blk_frozen BK219.out 3; have hfz19_4 := blk_frozen BK219.out 4; have hfz19_5 := blk_frozen BK219.out 5; have hfz19_6 := blk_frozen BK219.out 6; have hfz19_7 := blk_frozen BK219.out 7; have hfz19_8 := blk_frozen BK219.out 8) | ((with_reducible refine gate_callee (f := 76) rfl ?_); refine goesL_ (some 46) rfl rfl Try.func76 (by kernel_rfl) rfl #[.agg #[.int .i64 ((rd_T71 l0 x5_2).f0), .string ((rd_T71 l0 x5_2).f1), .int .i64 ((rd_T71 l0 x5_2).f2), .int .i64 ((rd_T71 l0 x5_2).f3), .int .i64 ((rd_T71 l0 x5_2).f4), .int .i64 ((rd_T71 l0 x5_2).f5), .int .i64 ((rd_T71 l0 x5_2).f6), .int .i64 ((rd_T71 l0 x5_2).f7), .int .i64 ((rd_T71 l0 x5_2).f8)], .int .i64 ((rd_T71 l0 x3_1).f0), .int .i64 ((rd_T71 l0 x3_1).f2), .int .i64 ((rd_T71 l0 x3_1).f3), .int .i64 ((rd_T71 l0 x3_1).f4), .int .i64 ((rd_T71 l0 x3_1).f5)] rfl (by (try simp only [List.map_toArray, List.map_cons, List.map_nil]); first | done | rfl | (simp only [List.length_drop, List.length_take]; rfl)) ?_; (with_reducible refine (spec_l09Same.calls ((rd_T71 l0 x5_2).f0) ((rd_T71 l0 x5_2).f1) ((rd_T71 l0 x5_2).f2) ((rd_T71 l0 x5_2).f3) ((rd_T71 l0 x5_2).f4) ((rd_T71 l0 x5_2).f5) ((rd_T71 l0 x5_2).f6) ((rd_T71 l0 x5_2).f7) ((rd_T71 l0 x5_2).f8) ((rd_T71 l0 x3_1).f0) ((rd_T71 l0 x3_1).f2) ((rd_T71 l0 x3_1).f3) ((rd_T71 l0 x3_1).f4) ((rd_T71 l0 x3_1).f5) true _ A14.out).mono ?_); rintro e w20 ⟨rfl, hb⟩; refine ⟨_, rfl, ?_⟩; have n0_ := Aside0.mk (blk_below (g := gb219) (o := .cells #[.int .i64 ((rd_T71 l0 x3_1).f0), .string ((rd_T71 l0 x3_1).f1), .int .i64 ((rd_T71 l0 x3_1).f2), .int .i64 ((rd_T71 l0 x3_1).f3), .int .i64 ((rd_T71 l0 x3_1).f4), .int .i64 ((rd_T71 l0 x3_1).f5), .int .i64 ((rd_T71 l0 x3_1).f6), .int .i64 ((rd_T71 l0 x3_1).f7), .int .i64 ((rd_T71 l0 x3_1).f8)] 71 (0, 0)) (by (with_reducible repeat (first | refine blk_drewN ?_ _ | refine blk_drew ?_ | refine blk_alloc ?_ _)); refine blk_far ?_ NB219_222.out _; (with_reducible repeat (first | refine blk_drewN ?_ _ | refine blk_drew ?_ | refine blk_alloc ?_ _)); refine blk_far ?_ NB219_222.out _; (with_reducible repeat (first | refine blk_drewN ?_ _ | refine blk_drew ?_ | refine blk_alloc ?_ _)); refine blk_far ?_ NB219_222.out _; (with_reducible repeat (first | refine blk_drewN ?_ _ | refine blk_drew ?_ | refine blk_alloc ?_ _)); refine blk_far ?_ NB219_222.out _; (with_reducible repeat (first | refine blk_drewN ?_ _ | refine blk_drew ?_ | refine blk_alloc ?_ _)); refine blk_far ?_ NB219_222.out _; (with_reducible repeat (first | refine blk_drewN ?_ _ | refine blk_drew ?_ | refine blk_alloc ?_ _)); refine blk_far ?_ NB219_222.out _; (with_reducible repeat (first | refine blk_drewN ?_ _ | refine blk_drew ?_ | refine blk_alloc ?_ _)); refine blk_far ?_ NB219_222.out _; (with_reducible repeat (first | refine blk_drewN ?_ _ | refine blk_drew ?_ | refine blk_alloc ?_ _)); refine blk_far ?_ NB219_222.out _; (with_reducible repeat (first | refine blk_drewN ?_ _ | refine blk_drew ?_ | refine blk_alloc ?_ _)); refine blk_far ?_ NB219_222.out _; (with_reducible repeat (first | refine blk_drewN ?_ _ | refine blk_drew ?_ | refine blk_alloc ?_ _)); exact BK219.out) hb); have n1_ := Aside0.mk (blk_below (g := gb222) (o := .cells #[.int .i64 ((rd_T71 l0 x5_2).f0), .string ((rd_T71 l0 x5_2).f1), .int .i64 ((rd_T71 l0 x5_2).f2), .int .i64 ((rd_T71 l0 x5_2).f3), .int .i64 ((rd_T71 l0 x5_2).f4), .int .i64 ((rd_T71 l0 x5_2).f5), .int .i64 ((rd_T71 l0 x5_2).f6), .int .i64 ((rd_T71 l0 x5_2).f7), .int .i64 ((rd_T71 l0 x5_2).f8)] 71 (0, 0)) (by (with_reducible repeat (first | refine blk_drewN ?_ _ | refine blk_drew ?_ | refine blk_alloc ?_ _)); refine blk_put (cs := #[.int .i64 ((rd_T71 l0 x5_2).f0), .string ((rd_T71 l0 x5_2).f1), .int .i64 ((rd_T71 l0 x5_2).f2), .int .i64 ((rd_T71 l0 x5_2).f3), .int .i64 ((rd_T71 l0 x5_2).f4), .int .i64 ((rd_T71 l0 x5_2).f5), .int .i64 ((rd_T71 l0 x5_2).f6), .int .i64 ((rd_T71 l0 x5_2).f7), .int .i64 0]) ?_ 8 _ rfl; (with_reducible repeat (first | refine blk_drewN ?_ _ | refine blk_drew ?_ | refine blk_alloc ?_ _)); refine blk_put (cs := #[.int .i64 ((rd_T71 l0 x5_2).f0), .string ((rd_T71 l0 x5_2).f1), .int .i64 ((rd_T71 l0 x5_2).f2), .int .i64 ((rd_T71 l0 x5_2).f3), .int .i64 ((rd_T71 l0 x5_2).f4), .int .i64 ((rd_T71 l0 x5_2).f5), .int .i64 ((rd_T71 l0 x5_2).f6), .int .i64 0, .int .i64 0]) ?_ 7 _ rfl; (with_reducible repeat (first | refine blk_drewN ?_ _ | refine blk_drew ?_ | refine blk_alloc ?_ _)); refine blk_put (cs := #[.int .i64 ((rd_T71 l0 x5_2).f0), .string ((rd_T71 l0 x5_2).f1), .int .i64 ((rd_T71 l0 x5_2).f2), .int .i64 ((rd_T71 l0 x5_2).f3), .int .i64 ((rd_T71 l0 x5_2).f4), .int .i64 ((rd_T71 l0 x5_2).f5), .int .i64 0, .int .i64 0, .int .i64 0]) ?_ 6 _ rfl; (with_reducible repeat (first | refine blk_drewN ?_ _ | refine blk_drew ?_ | refine blk_alloc ?_ _)); refine blk_put (cs := #[.int .i64 ((rd_T71 l0 x5_2).f0), .string ((rd_T71 l0 x5_2).f1), .int .i64 ((rd_T71 l0 x5_2).f2), .int .i64 ((rd_T71 l0 x5_2).f3), .int .i64 ((rd_T71 l0 x5_2).f4), .int .i64 0, .int .i64 0, .int .i64 0, .int .i64 0]) ?_ 5 _ rfl; (with_reducible repeat (first | refine blk_drewN ?_ _ | refine blk_drew ?_ | refine blk_alloc ?_ _)); refine blk_put (cs := #[.int .i64 ((rd_T71 l0 x5_2).f0), .string ((rd_T71 l0 x5_2).f1), .int .i64 ((rd_T71 l0 x5_2).f2), .int .i64 ((rd_T71 l0 x5_2).f3), .int .i64 0, .int .i64 0, .int .i64 0, .int .i64 0, .int .i64 0]) ?_ 4 _ rfl; (with_reducible repeat (first | refine blk_drewN ?_ _ | refine blk_drew ?_ | refine blk_alloc ?_ _)); refine blk_put (cs := #[.int .i64 ((rd_T71 l0 x5_2).f0), .string ((rd_T71 l0 x5_2).f1), .int .i64 ((rd_T71 l0 x5_2).f2), .int .i64 0, .int .i64 0, .int .i64 0, .int .i64 0, .int .i64 0, .int .i64 0]) ?_ 3 _ rfl; (with_reducible repeat (first | refine blk_drewN ?_ _ | refine blk_drew ?_ | refine blk_alloc ?_ _)); refine blk_put (cs := #[.int .i64 ((rd_T71 l0 x5_2).f0), .string ((rd_T71 l0 x5_2).f1), .int .i64 0, .int .i64 0, .int .i64 0, .int .i64 0, .int .i64 0, .int .i64 0, .int .i64 0]) ?_ 2 _ rfl; (with_reducible repeat (first | refine blk_drewN ?_ _ | refine blk_drew ?_ | refine blk_alloc ?_ _)); refine blk_put (cs := #[.int .i64 ((rd_T71 l0 x5_2).f0), .string (⟨#[]⟩ : ByteArray), .int .i64 0, .int .i64 0, .int .i64 0, .int .i64 0, .int .i64 0, .int .i64 0, .int .i64 0]) ?_ 1 _ rfl; (with_reducible repeat (first | refine blk_drewN ?_ _ | refine blk_drew ?_ | refine blk_alloc ?_ _)); refine blk_put (cs := #[.int .i64 0, .string (⟨#[]⟩ : ByteArray), .int .i64 0, .int .i64 0, .int .i64 0, .int .i64 0, .int .i64 0, .int .i64 0, .int .i64 0]) ?_ 0 _ rfl; (with_reducible repeat (first | refine blk_drewN ?_ _ | refine blk_drew ?_ | refine blk_alloc ?_ _)); exact BK222.out) hb); have n2_ := Aside0.mk (below_step (by repeat (first | (with_reducible first | exact HB.out | apply below_alloc | apply pw_below_drewN | apply below_drew1 | refine below_set ?_ GE219.out | refine below_set ?_ GE222.out) | exact HB.out)) hb); clear BK219; clear BK222; clear HB; have BK219 := n0_; have BK222 := n1_; have HB := n2_; clear n0_ n1_ n2_; (try clear hb); (try clear hb2); (try clear hk); (try clear hi)))
                            go_ret
                            exact ⟨by first | rfl | (simp [errW_none, errW_some] <;> rfl) | (simp [*, errW_none, errW_some] <;> rfl), by repeat (first | (with_reducible first | exact HB.out | apply below_alloc | apply pw_below_drewN | apply below_drew1 | refine below_set ?_ GE219.out | refine below_set ?_ GE222.out) | exact HB.out)⟩
                          · replace c15 := Bool.eq_false_iff.mpr c15
                            subst c15
                            have H1 : ((spec_l09Same.f ((rd_T71 l0 x5_2).f0) ((rd_T71 l0 x5_2).f1) ((rd_T71 l0 x5_2).f2) ((rd_T71 l0 x5_2).f3) ((rd_T71 l0 x5_2).f4) ((rd_T71 l0 x5_2).f5) ((rd_T71 l0 x5_2).f6) ((rd_T71 l0 x5_2).f7) ((rd_T71 l0 x5_2).f8) ((rd_T71 l0 x3_1).f0) ((rd_T71 l0 x3_1).f4) ((rd_T71 l0 x3_1).f5) ((rd_T71 l0 x3_1).f2) ((rd_T71 l0 x3_1).f3)).bind fun t224 => (if t224 = true then (some false) else (spec_FlowsOK.l1 k2 l0 x3_1 (wrap64 (x5_2 + 1)) ((rd_T71 l0 x3_1).f0) ((rd_T71 l0 x3_1).f1) ((rd_T71 l0 x3_1).f2) ((rd_T71 l0 x3_1).f3) ((rd_T71 l0 x3_1).f4) ((rd_T71 l0 x3_1).f5) ((rd_T71 l0 x3_1).f6) ((rd_T71 l0 x3_1).f7) ((rd_T71 l0 x3_1).f8)))) = some r := by rw [if_neg (show ¬ (false = true) by decide)] at H; exact H
                            clear H
                            have H := H1
                            clear H1
                            replace H := Option.bind_eq_some_iff.mp H
                            obtain ⟨t224, A210, H⟩ := H
                            replace H : (if t224 = true then (some false) else (spec_FlowsOK.l1 k2 l0 x3_1 (wrap64 (x5_2 + 1)) ((rd_T71 l0 x3_1).f0) ((rd_T71 l0 x3_1).f1) ((rd_T71 l0 x3_1).f2) ((rd_T71 l0 x3_1).f3) ((rd_T71 l0 x3_1).f4) ((rd_T71 l0 x3_1).f5) ((rd_T71 l0 x3_1).f6) ((rd_T71 l0 x3_1).f7) ((rd_T71 l0 x3_1).f8))) = some r := H
                            have A21 := Aside0.mk A210
                            clear A210
                            by_cases c22 : t224 = true
                            · subst c22
                              have H1 : (some false) = some r := by rw [if_pos rfl] at H; exact H
                              clear H
                              have H := H1
                              clear H1
                              obtain rfl := Option.some.inj H
                              have p221 : 0 ≤ (x5_2 : Int) := of_decide_eq_true (by first | (with_reducible assumption) | assumption)
                              have q221 : x5_2 < (l0.length : Int) := of_decide_eq_true (by first | (with_reducible assumption) | assumption)
                              obtain ⟨ad221, e221, hx221_0, hx221_1, hx221_2, hx221_3, hx221_4, hx221_5, hx221_6, hx221_7, hx221_8⟩ := at_T71 HR0.out x5_2 p221 q221
                              obtain rfl : ad218 = ad221 := (by injection e221)
                              replace hx221_0 := (HB.out.cell (World.block_lt_of_cell? w _ hx221_0)).trans hx221_0
                              replace hx221_1 := (HB.out.cell (World.block_lt_of_cell? w _ hx221_1)).trans hx221_1
                              replace hx221_2 := (HB.out.cell (World.block_lt_of_cell? w _ hx221_2)).trans hx221_2
                              replace hx221_3 := (HB.out.cell (World.block_lt_of_cell? w _ hx221_3)).trans hx221_3
                              replace hx221_4 := (HB.out.cell (World.block_lt_of_cell? w _ hx221_4)).trans hx221_4
                              replace hx221_5 := (HB.out.cell (World.block_lt_of_cell? w _ hx221_5)).trans hx221_5
                              replace hx221_6 := (HB.out.cell (World.block_lt_of_cell? w _ hx221_6)).trans hx221_6
                              replace hx221_7 := (HB.out.cell (World.block_lt_of_cell? w _ hx221_7)).trans hx221_7
                              replace hx221_8 := (HB.out.cell (World.block_lt_of_cell? w _ hx221_8)).trans hx221_8
                              replace p221 := eq_true p221
                              replace q221 := eq_true q221
                              go_wp2_with (first | ((with_reducible refine gate_dst (N := 6) rfl ?_); refine box_event ?hg (N := 6) ?hd (cs := #[.int .i64 0, .string (⟨#[]⟩ : ByteArray), .int .i64 0, .int .i64 0, .int .i64 0, .int .i64 0, .int .i64 0, .int .i64 0, .int .i64 0]) (t := 71) ?hr ?_; (case hd => rfl); (case hg => rfl); (case hr => first | (go_simp; done) | (go_simp; rfl)); intro gb222 hg w23 hbox hb; have n0_ := Aside0.mk (blk_below (g := gb219) (o := .cells #[.int .i64 ((rd_T71 l0 x3_1).f0), .string ((rd_T71 l0 x3_1).f1), .int .i64 ((rd_T71 l0 x3_1).f2), .int .i64 ((rd_T71 l0 x3_1).f3), .int .i64 ((rd_T71 l0 x3_1).f4), .int .i64 ((rd_T71 l0 x3_1).f5), .int .i64 ((rd_T71 l0 x3_1).f6), .int .i64 ((rd_T71 l0 x3_1).f7), .int .i64 ((rd_T71 l0 x3_1).f8)] 71 (0, 0)) (by (with_reducible repeat (first | refine blk_drewN ?_ _ | refine blk_drew ?_ | refine blk_alloc ?_ _)); exact BK219.out) hb); have n1_ := Aside0.mk (below_step (by repeat (first | (with_reducible first | exact HB.out | apply below_alloc | apply pw_below_drewN | apply below_drew1 | refine below_set ?_ GE219.out) | exact HB.out)) hb); have n2_ := Aside0.mk (hbox); have n3_ := Aside0.mk ((by rw [hg]; exact (below_size (by repeat (first | (with_reducible first | exact HB.out | apply below_alloc | apply pw_below_drewN | apply below_drew1 | refine below_set ?_ GE219.out) | exact HB.out))) : w.heap.size ≤ gb222)); have n4_ := Aside0.mk ((by rw [hg]; exact (below_size (by repeat (first | (with_reducible first | exact HB.out | apply below_alloc | apply pw_below_drewN | apply below_drew1 | refine below_set ?_ GE219.out) | exact HB.out))) : w.heap.size ≤ gb222)); have n5_ := Aside0.mk ((by rw [hg]; exact Nat.ne_of_lt (blk_lt (g := gb219) (o := .cells #[.int .i64 ((rd_T71 l0 x3_1).f0), .string ((rd_T71 l0 x3_1).f1), .int .i64 ((rd_T71 l0 x3_1).f2), .int .i64 ((rd_T71 l0 x3_1).f3), .int .i64 ((rd_T71 l0 x3_1).f4), .int .i64 ((rd_T71 l0 x3_1).f5), .int .i64 ((rd_T71 l0 x3_1).f6), .int .i64 ((rd_T71 l0 x3_1).f7), .int .i64 ((rd_T71 l0 x3_1).f8)] 71 (0, 0)) (by (with_reducible repeat (first | refine blk_drewN ?_ _ | refine blk_drew ?_ | refine blk_alloc ?_ _)); exact BK219.out)) : gb219 ≠ gb222)); have n6_ := Aside0.mk ((by rw [hg]; exact Nat.ne_of_gt (blk_lt (g := gb219) (o := .cells #[.int .i64 ((rd_T71 l0 x3_1).f0), .string ((rd_T71 l0 x3_1).f1), .int .i64 ((rd_T71 l0 x3_1).f2), .int .i64 ((rd_T71 l0 x3_1).f3), .int .i64 ((rd_T71 l0 x3_1).f4), .int .i64 ((rd_T71 l0 x3_1).f5), .int .i64 ((rd_T71 l0 x3_1).f6), .int .i64 ((rd_T71 l0 x3_1).f7), .int .i64 ((rd_T71 l0 x3_1).f8)] 71 (0, 0)) (by (with_reducible repeat (first | refine blk_drewN ?_ _ | refine blk_drew ?_ | refine blk_alloc ?_ _)); exact BK219.out)) : gb222 ≠ gb219)); clear BK219; clear HB; have BK219 := n0_; have HB := n1_; have BK222 := n2_; have GW222 := n3_; have GE222 := n4_; have NB219_222 := n5_; have NB222_219 := n6_; clear n0_ n1_ n2_ n3_ n4_ n5_ n6_; clear hb hbox hg; have hnb24 := NB222_219.out; have hnc24 := NB219_222.out; have hcz25_0 : w23.cell? ⟨gb222, 0, none⟩ = some (.int .i64 0) := (blk_cell BK222.out 0).trans rfl; have hcz25_1 : w23.cell? ⟨gb222, 1, none⟩ = some (.string (⟨#[]⟩ : ByteArray)) := (blk_cell BK222.out 1).trans rfl; have hcz25_2 : w23.cell? ⟨gb222, 2, none⟩ = some (.int .i64 0) := (blk_cell BK222.out 2).trans rfl; have hcz25_3 : w23.cell? ⟨gb222, 3, none⟩ = some (.int .i64 0) := (blk_cell BK222.out 3).trans rfl; have hcz25_4 : w23.cell? ⟨gb222, 4, none⟩ = some (.int .i64 0) := (blk_cell BK222.out 4).trans rfl; have hcz25_5 : w23.cell? ⟨gb222, 5, none⟩ = some (.int .i64 0) := (blk_cell BK222.out 5).trans rfl; have hcz25_6 : w23.cell? ⟨gb222, 6, none⟩ = some (.int .i64 0) := (blk_cell BK222.out 6).trans rfl; have hcz25_7 : w23.cell? ⟨gb222, 7, none⟩ = some (.int .i64 0) := (blk_cell BK222.out 7).trans rfl; have hcz25_8 : w23.cell? ⟨gb222, 8, none⟩ = some (.int .i64 0) := (blk_cell BK222.out 8).trans rfl; have hfz25_0 := blk_frozen BK222.out 0; have hfz25_1 := blk_frozen BK222.out 1; have hfz25_2 := blk_frozen BK222.out 2; have hfz25_3 := blk_frozen BK222.out 3; have hfz25_4 := blk_frozen BK222.out 4; have hfz25_5 := blk_frozen BK222.out 5; have hfz25_6 := blk_frozen BK222.out 6; have hfz25_7 := blk_frozen BK222.out 7; have hfz25_8 := blk_frozen BK222.out 8; have hcz26_0 : w23.cell? ⟨gb219, 0, none⟩ = some (.int .i64 ((rd_T71 l0 x3_1).f0)) := (blk_cell BK219.out 0).trans rfl; have hcz26_1 : w23.cell? ⟨gb219, 1, none⟩ = some (.string ((rd_T71 l0 x3_1).f1)) := (blk_cell BK219.out 1).trans rfl; have hcz26_2 : w23.cell? ⟨gb219, 2, none⟩ = some (.int .i64 ((rd_T71 l0 x3_1).f2)) := (blk_cell BK219.out 2).trans rfl; have hcz26_3 : w23.cell? ⟨gb219, 3, none⟩ = some (.int .i64 ((rd_T71 l0 x3_1).f3)) := (blk_cell BK219.out 3).trans rfl; have hcz26_4 : w23.cell? ⟨gb219, 4, none⟩ = some (.int .i64 ((rd_T71 l0 x3_1).f4)) := (blk_cell BK219.out 4).trans rfl; have hcz26_5 : w23.cell? ⟨gb219, 5, none⟩ = some (.int .i64 ((rd_T71 l0 x3_1).f5)) := (blk_cell BK219.out 5).trans rfl; have hcz26_6 : w23.cell? ⟨gb219, 6, none⟩ = some (.int .i64 ((rd_T71 l0 x3_1).f6)) := (blk_cell BK219.out 6).trans rfl; have hcz26_7 : w23.cell? ⟨gb219, 7, none⟩ = some (.int .i64 ((rd_T71 l0 x3_1).f7)) := (blk_cell BK219.out 7).trans rfl; have hcz26_8 : w23.cell? ⟨gb219, 8, none⟩ = some (.int .i64 ((rd_T71 l0 x3_1).f8)) := (blk_cell BK219.out 8).trans rfl; have hfz26_0 := blk_frozen BK219.out 0; have hfz26_1 := blk_frozen BK219.out 1; have hfz26_2 := blk_frozen BK219.out 2; have hfz26_3 := blk_frozen BK219.out 3; have hfz26_4 := blk_frozen BK219.out 4; have hfz26_5 := blk_frozen BK219.out 5; have hfz26_6 := blk_frozen BK219.out 6; have hfz26_7 := blk_frozen BK219.out 7; have hfz26_8 := blk_frozen BK219.out 8) | ((with_reducible refine gate_callee (f := 76) rfl ?_); refine goesL_ (some 46) rfl rfl Try.func76 (by kernel_rfl) rfl #[.agg #[.int .i64 ((rd_T71 l0 x5_2).f0), .string ((rd_T71 l0 x5_2).f1), .int .i64 ((rd_T71 l0 x5_2).f2), .int .i64 ((rd_T71 l0 x5_2).f3), .int .i64 ((rd_T71 l0 x5_2).f4), .int .i64 ((rd_T71 l0 x5_2).f5), .int .i64 ((rd_T71 l0 x5_2).f6), .int .i64 ((rd_T71 l0 x5_2).f7), .int .i64 ((rd_T71 l0 x5_2).f8)], .int .i64 ((rd_T71 l0 x3_1).f0), .int .i64 ((rd_T71 l0 x3_1).f2), .int .i64 ((rd_T71 l0 x3_1).f3), .int .i64 ((rd_T71 l0 x3_1).f4), .int .i64 ((rd_T71 l0 x3_1).f5)] rfl (by (try simp only [List.map_toArray, List.map_cons, List.map_nil]); first | done | rfl | (simp only [List.length_drop, List.length_take]; rfl)) ?_; (with_reducible refine (spec_l09Same.calls ((rd_T71 l0 x5_2).f0) ((rd_T71 l0 x5_2).f1) ((rd_T71 l0 x5_2).f2) ((rd_T71 l0 x5_2).f3) ((rd_T71 l0 x5_2).f4) ((rd_T71 l0 x5_2).f5) ((rd_T71 l0 x5_2).f6) ((rd_T71 l0 x5_2).f7) ((rd_T71 l0 x5_2).f8) ((rd_T71 l0 x3_1).f0) ((rd_T71 l0 x3_1).f2) ((rd_T71 l0 x3_1).f3) ((rd_T71 l0 x3_1).f4) ((rd_T71 l0 x3_1).f5) false _ A14.out).mono ?_); rintro e w27 ⟨rfl, hb⟩; refine ⟨_, rfl, ?_⟩; have n0_ := Aside0.mk (blk_below (g := gb219) (o := .cells #[.int .i64 ((rd_T71 l0 x3_1).f0), .string ((rd_T71 l0 x3_1).f1), .int .i64 ((rd_T71 l0 x3_1).f2), .int .i64 ((rd_T71 l0 x3_1).f3), .int .i64 ((rd_T71 l0 x3_1).f4), .int .i64 ((rd_T71 l0 x3_1).f5), .int .i64 ((rd_T71 l0 x3_1).f6), .int .i64 ((rd_T71 l0 x3_1).f7), .int .i64 ((rd_T71 l0 x3_1).f8)] 71 (0, 0)) (by (with_reducible repeat (first | refine blk_drewN ?_ _ | refine blk_drew ?_ | refine blk_alloc ?_ _)); refine blk_far ?_ NB219_222.out _; (with_reducible repeat (first | refine blk_drewN ?_ _ | refine blk_drew ?_ | refine blk_alloc ?_ _)); refine blk_far ?_ NB219_222.out _; (with_reducible repeat (first | refine blk_drewN ?_ _ | refine blk_drew ?_ | refine blk_alloc ?_ _)); refine blk_far ?_ NB219_222.out _; (with_reducible repeat (first | refine blk_drewN ?_ _ | refine blk_drew ?_ | refine blk_alloc ?_ _)); refine blk_far ?_ NB219_222.out _; (with_reducible repeat (first | refine blk_drewN ?_ _ | refine blk_drew ?_ | refine blk_alloc ?_ _)); refine blk_far ?_ NB219_222.out _; (with_reducible repeat (first | refine blk_drewN ?_ _ | refine blk_drew ?_ | refine blk_alloc ?_ _)); refine blk_far ?_ NB219_222.out _; (with_reducible repeat (first | refine blk_drewN ?_ _ | refine blk_drew ?_ | refine blk_alloc ?_ _)); refine blk_far ?_ NB219_222.out _; (with_reducible repeat (first | refine blk_drewN ?_ _ | refine blk_drew ?_ | refine blk_alloc ?_ _)); refine blk_far ?_ NB219_222.out _; (with_reducible repeat (first | refine blk_drewN ?_ _ | refine blk_drew ?_ | refine blk_alloc ?_ _)); refine blk_far ?_ NB219_222.out _; (with_reducible repeat (first | refine blk_drewN ?_ _ | refine blk_drew ?_ | refine blk_alloc ?_ _)); exact BK219.out) hb); have n1_ := Aside0.mk (blk_below (g := gb222) (o := .cells #[.int .i64 ((rd_T71 l0 x5_2).f0), .string ((rd_T71 l0 x5_2).f1), .int .i64 ((rd_T71 l0 x5_2).f2), .int .i64 ((rd_T71 l0 x5_2).f3), .int .i64 ((rd_T71 l0 x5_2).f4), .int .i64 ((rd_T71 l0 x5_2).f5), .int .i64 ((rd_T71 l0 x5_2).f6), .int .i64 ((rd_T71 l0 x5_2).f7), .int .i64 ((rd_T71 l0 x5_2).f8)] 71 (0, 0)) (by (with_reducible repeat (first | refine blk_drewN ?_ _ | refine blk_drew ?_ | refine blk_alloc ?_ _)); refine blk_put (cs := #[.int .i64 ((rd_T71 l0 x5_2).f0), .string ((rd_T71 l0 x5_2).f1), .int .i64 ((rd_T71 l0 x5_2).f2), .int .i64 ((rd_T71 l0 x5_2).f3), .int .i64 ((rd_T71 l0 x5_2).f4), .int .i64 ((rd_T71 l0 x5_2).f5), .int .i64 ((rd_T71 l0 x5_2).f6), .int .i64 ((rd_T71 l0 x5_2).f7), .int .i64 0]) ?_ 8 _ rfl; (with_reducible repeat (first | refine blk_drewN ?_ _ | refine blk_drew ?_ | refine blk_alloc ?_ _)); refine blk_put (cs := #[.int .i64 ((rd_T71 l0 x5_2).f0), .string ((rd_T71 l0 x5_2).f1), .int .i64 ((rd_T71 l0 x5_2).f2), .int .i64 ((rd_T71 l0 x5_2).f3), .int .i64 ((rd_T71 l0 x5_2).f4), .int .i64 ((rd_T71 l0 x5_2).f5), .int .i64 ((rd_T71 l0 x5_2).f6), .int .i64 0, .int .i64 0]) ?_ 7 _ rfl; (with_reducible repeat (first | refine blk_drewN ?_ _ | refine blk_drew ?_ | refine blk_alloc ?_ _)); refine blk_put (cs := #[.int .i64 ((rd_T71 l0 x5_2).f0), .string ((rd_T71 l0 x5_2).f1), .int .i64 ((rd_T71 l0 x5_2).f2), .int .i64 ((rd_T71 l0 x5_2).f3), .int .i64 ((rd_T71 l0 x5_2).f4), .int .i64 ((rd_T71 l0 x5_2).f5), .int .i64 0, .int .i64 0, .int .i64 0]) ?_ 6 _ rfl; (with_reducible repeat (first | refine blk_drewN ?_ _ | refine blk_drew ?_ | refine blk_alloc ?_ _)); refine blk_put (cs := #[.int .i64 ((rd_T71 l0 x5_2).f0), .string ((rd_T71 l0 x5_2).f1), .int .i64 ((rd_T71 l0 x5_2).f2), .int .i64 ((rd_T71 l0 x5_2).f3), .int .i64 ((rd_T71 l0 x5_2).f4), .int .i64 0, .int .i64 0, .int .i64 0, .int .i64 0]) ?_ 5 _ rfl; (with_reducible repeat (first | refine blk_drewN ?_ _ | refine blk_drew ?_ | refine blk_alloc ?_ _)); refine blk_put (cs := #[.int .i64 ((rd_T71 l0 x5_2).f0), .string ((rd_T71 l0 x5_2).f1), .int .i64 ((rd_T71 l0 x5_2).f2), .int .i64 ((rd_T71 l0 x5_2).f3), .int .i64 0, .int .i64 0, .int .i64 0, .int .i64 0, .int .i64 0]) ?_ 4 _ rfl; (with_reducible repeat (first | refine blk_drewN ?_ _ | refine blk_drew ?_ | refine blk_alloc ?_ _)); refine blk_put (cs := #[.int .i64 ((rd_T71 l0 x5_2).f0), .string ((rd_T71 l0 x5_2).f1), .int .i64 ((rd_T71 l0 x5_2).f2), .int .i64 0, .int .i64 0, .int .i64 0, .int .i64 0, .int .i64 0, .int .i64 0]) ?_ 3 _ rfl; (with_reducible repeat (first | refine blk_drewN ?_ _ | refine blk_drew ?_ | refine blk_alloc ?_ _)); refine blk_put (cs := #[.int .i64 ((rd_T71 l0 x5_2).f0), .string ((rd_T71 l0 x5_2).f1), .int .i64 0, .int .i64 0, .int .i64 0, .int .i64 0, .int .i64 0, .int .i64 0, .int .i64 0]) ?_ 2 _ rfl; (with_reducible repeat (first | refine blk_drewN ?_ _ | refine blk_drew ?_ | refine blk_alloc ?_ _)); refine blk_put (cs := #[.int .i64 ((rd_T71 l0 x5_2).f0), .string (⟨#[]⟩ : ByteArray), .int .i64 0, .int .i64 0, .int .i64 0, .int .i64 0, .int .i64 0, .int .i64 0, .int .i64 0]) ?_ 1 _ rfl; (with_reducible repeat (first | refine blk_drewN ?_ _ | refine blk_drew ?_ | refine blk_alloc ?_ _)); refine blk_put (cs := #[.int .i64 0, .string (⟨#[]⟩ : ByteArray), .int .i64 0, .int .i64 0, .int .i64 0, .int .i64 0, .int .i64 0, .int .i64 0, .int .i64 0]) ?_ 0 _ rfl; (with_reducible repeat (first | refine blk_drewN ?_ _ | refine blk_drew ?_ | refine blk_alloc ?_ _)); exact BK222.out) hb); have n2_ := Aside0.mk (below_step (by repeat (first | (with_reducible first | exact HB.out | apply below_alloc | apply pw_below_drewN | apply below_drew1 | refine below_set ?_ GE219.out | refine below_set ?_ GE222.out) | exact HB.out)) hb); clear BK219; clear BK222; clear HB; have BK219 := n0_; have BK222 := n1_; have HB := n2_; clear n0_ n1_ n2_; (try clear hb); (try clear hb2); (try clear hk); (try clear hi); have hcz28_0 : w27.cell? ⟨gb222, 0, none⟩ = some (.int .i64 ((rd_T71 l0 x5_2).f0)) := (blk_cell BK222.out 0).trans rfl; have hcz28_1 : w27.cell? ⟨gb222, 1, none⟩ = some (.string ((rd_T71 l0 x5_2).f1)) := (blk_cell BK222.out 1).trans rfl; have hcz28_2 : w27.cell? ⟨gb222, 2, none⟩ = some (.int .i64 ((rd_T71 l0 x5_2).f2)) := (blk_cell BK222.out 2).trans rfl; have hcz28_3 : w27.cell? ⟨gb222, 3, none⟩ = some (.int .i64 ((rd_T71 l0 x5_2).f3)) := (blk_cell BK222.out 3).trans rfl; have hcz28_4 : w27.cell? ⟨gb222, 4, none⟩ = some (.int .i64 ((rd_T71 l0 x5_2).f4)) := (blk_cell BK222.out 4).trans rfl; have hcz28_5 : w27.cell? ⟨gb222, 5, none⟩ = some (.int .i64 ((rd_T71 l0 x5_2).f5)) := (blk_cell BK222.out 5).trans rfl; have hcz28_6 : w27.cell? ⟨gb222, 6, none⟩ = some (.int .i64 ((rd_T71 l0 x5_2).f6)) := (blk_cell BK222.out 6).trans rfl; have hcz28_7 : w27.cell? ⟨gb222, 7, none⟩ = some (.int .i64 ((rd_T71 l0 x5_2).f7)) := (blk_cell BK222.out 7).trans rfl; have hcz28_8 : w27.cell? ⟨gb222, 8, none⟩ = some (.int .i64 ((rd_T71 l0 x5_2).f8)) := (blk_cell BK222.out 8).trans rfl; have hfz28_0 := blk_frozen BK222.out 0; have hfz28_1 := blk_frozen BK222.out 1; have hfz28_2 := blk_frozen BK222.out 2; have hfz28_3 := blk_frozen BK222.out 3; have hfz28_4 := blk_frozen BK222.out 4; have hfz28_5 := blk_frozen BK222.out 5; have hfz28_6 := blk_frozen BK222.out 6; have hfz28_7 := blk_frozen BK222.out 7; have hfz28_8 := blk_frozen BK222.out 8; have hcz29_0 : w27.cell? ⟨gb219, 0, none⟩ = some (.int .i64 ((rd_T71 l0 x3_1).f0)) := (blk_cell BK219.out 0).trans rfl; have hcz29_1 : w27.cell? ⟨gb219, 1, none⟩ = some (.string ((rd_T71 l0 x3_1).f1)) := (blk_cell BK219.out 1).trans rfl; have hcz29_2 : w27.cell? ⟨gb219, 2, none⟩ = some (.int .i64 ((rd_T71 l0 x3_1).f2)) := (blk_cell BK219.out 2).trans rfl; have hcz29_3 : w27.cell? ⟨gb219, 3, none⟩ = some (.int .i64 ((rd_T71 l0 x3_1).f3)) := (blk_cell BK219.out 3).trans rfl; have hcz29_4 : w27.cell? ⟨gb219, 4, none⟩ = some (.int .i64 ((rd_T71 l0 x3_1).f4)) := (blk_cell BK219.out 4).trans rfl; have hcz29_5 : w27.cell? ⟨gb219, 5, none⟩ = some (.int .i64 ((rd_T71 l0 x3_1).f5)) := (blk_cell BK219.out 5).trans rfl; have hcz29_6 : w27.cell? ⟨gb219, 6, none⟩ = some (.int .i64 ((rd_T71 l0 x3_1).f6)) := (blk_cell BK219.out 6).trans rfl; have hcz29_7 : w27.cell? ⟨gb219, 7, none⟩ = some (.int .i64 ((rd_T71 l0 x3_1).f7)) := (blk_cell BK219.out 7).trans rfl; have hcz29_8 : w27.cell? ⟨gb219, 8, none⟩ = some (.int .i64 ((rd_T71 l0 x3_1).f8)) := (blk_cell BK219.out 8).trans rfl; have hfz29_0 := blk_frozen BK219.out 0; have hfz29_1 := blk_frozen BK219.out 1; have hfz29_2 := blk_frozen BK219.out 2; have hfz29_3 := blk_frozen BK219.out 3; have hfz29_4 := blk_frozen BK219.out 4; have hfz29_5 := blk_frozen BK219.out 5; have hfz29_6 := blk_frozen BK219.out 6; have hfz29_7 := blk_frozen BK219.out 7; have hfz29_8 := blk_frozen BK219.out 8) | (go_at_call 76; (with_reducible refine (spec_l09Same.calls ((rd_T71 l0 x5_2).f0) ((rd_T71 l0 x5_2).f1) ((rd_T71 l0 x5_2).f2) ((rd_T71 l0 x5_2).f3) ((rd_T71 l0 x5_2).f4) ((rd_T71 l0 x5_2).f5) ((rd_T71 l0 x5_2).f6) ((rd_T71 l0 x5_2).f7) ((rd_T71 l0 x5_2).f8) ((rd_T71 l0 x3_1).f0) ((rd_T71 l0 x3_1).f4) ((rd_T71 l0 x3_1).f5) ((rd_T71 l0 x3_1).f2) ((rd_T71 l0 x3_1).f3) true _ A21.out).mono ?_); rintro e w30 ⟨rfl, hb⟩; have n0_ := Aside0.mk (blk_below (g := gb219) (o := .cells #[.int .i64 ((rd_T71 l0 x3_1).f0), .string ((rd_T71 l0 x3_1).f1), .int .i64 ((rd_T71 l0 x3_1).f2), .int .i64 ((rd_T71 l0 x3_1).f3), .int .i64 ((rd_T71 l0 x3_1).f4), .int .i64 ((rd_T71 l0 x3_1).f5), .int .i64 ((rd_T71 l0 x3_1).f6), .int .i64 ((rd_T71 l0 x3_1).f7), .int .i64 ((rd_T71 l0 x3_1).f8)] 71 (0, 0)) (by (with_reducible repeat (first | refine blk_drewN ?_ _ | refine blk_drew ?_ | refine blk_alloc ?_ _)); exact BK219.out) hb); have n1_ := Aside0.mk (blk_below (g := gb222) (o := .cells #[.int .i64 ((rd_T71 l0 x5_2).f0), .string ((rd_T71 l0 x5_2).f1), .int .i64 ((rd_T71 l0 x5_2).f2), .int .i64 ((rd_T71 l0 x5_2).f3), .int .i64 ((rd_T71 l0 x5_2).f4), .int .i64 ((rd_T71 l0 x5_2).f5), .int .i64 ((rd_T71 l0 x5_2).f6), .int .i64 ((rd_T71 l0 x5_2).f7), .int .i64 ((rd_T71 l0 x5_2).f8)] 71 (0, 0)) (by (with_reducible repeat (first | refine blk_drewN ?_ _ | refine blk_drew ?_ | refine blk_alloc ?_ _)); exact BK222.out) hb); have n2_ := Aside0.mk (below_step (by repeat (first | (with_reducible first | exact HB.out | apply below_alloc | apply pw_below_drewN | apply below_drew1 | refine below_set ?_ GE219.out | refine below_set ?_ GE222.out) | exact HB.out)) hb); clear BK219; clear BK222; clear HB; have BK219 := n0_; have BK222 := n1_; have HB := n2_; clear n0_ n1_ n2_; (try clear hb); (try clear hb2); (try clear hk); (try clear hi)))
                              go_ret
                              exact ⟨by first | rfl | (simp [errW_none, errW_some] <;> rfl) | (simp [*, errW_none, errW_some] <;> rfl), by repeat (first | (with_reducible first | exact HB.out | apply below_alloc | apply pw_below_drewN | apply below_drew1 | refine below_set ?_ GE219.out | refine below_set ?_ GE222.out) | exact HB.out)⟩
                            · replace c22 := Bool.eq_false_iff.mpr c22
                              subst c22
                              have H1 : (spec_FlowsOK.l1 k2 l0 x3_1 (wrap64 (x5_2 + 1)) ((rd_T71 l0 x3_1).f0) ((rd_T71 l0 x3_1).f1) ((rd_T71 l0 x3_1).f2) ((rd_T71 l0 x3_1).f3) ((rd_T71 l0 x3_1).f4) ((rd_T71 l0 x3_1).f5) ((rd_T71 l0 x3_1).f6) ((rd_T71 l0 x3_1).f7) ((rd_T71 l0 x3_1).f8)) = some r := by rw [if_neg (show ¬ (false = true) by decide)] at H; exact H
                              clear H
                              have H := H1
                              clear H1
                              have H' := Aside0.mk H
                              clear H
                              have p221 : 0 ≤ (x5_2 : Int) := of_decide_eq_true (by first | (with_reducible assumption) | assumption)
                              have q221 : x5_2 < (l0.length : Int) := of_decide_eq_true (by first | (with_reducible assumption) | assumption)
                              obtain ⟨ad221, e221, hx221_0, hx221_1, hx221_2, hx221_3, hx221_4, hx221_5, hx221_6, hx221_7, hx221_8⟩ := at_T71 HR0.out x5_2 p221 q221
                              obtain rfl : ad218 = ad221 := (by injection e221)
                              replace hx221_0 := (HB.out.cell (World.block_lt_of_cell? w _ hx221_0)).trans hx221_0
                              replace hx221_1 := (HB.out.cell (World.block_lt_of_cell? w _ hx221_1)).trans hx221_1
                              replace hx221_2 := (HB.out.cell (World.block_lt_of_cell? w _ hx221_2)).trans hx221_2
                              replace hx221_3 := (HB.out.cell (World.block_lt_of_cell? w _ hx221_3)).trans hx221_3
                              replace hx221_4 := (HB.out.cell (World.block_lt_of_cell? w _ hx221_4)).trans hx221_4
                              replace hx221_5 := (HB.out.cell (World.block_lt_of_cell? w _ hx221_5)).trans hx221_5
                              replace hx221_6 := (HB.out.cell (World.block_lt_of_cell? w _ hx221_6)).trans hx221_6
                              replace hx221_7 := (HB.out.cell (World.block_lt_of_cell? w _ hx221_7)).trans hx221_7
                              replace hx221_8 := (HB.out.cell (World.block_lt_of_cell? w _ hx221_8)).trans hx221_8
                              replace p221 := eq_true p221
                              replace q221 := eq_true q221
                              go_wp2_with (first | ((with_reducible refine gate_dst (N := 6) rfl ?_); refine box_event ?hg (N := 6) ?hd (cs := #[.int .i64 0, .string (⟨#[]⟩ : ByteArray), .int .i64 0, .int .i64 0, .int .i64 0, .int .i64 0, .int .i64 0, .int .i64 0, .int .i64 0]) (t := 71) ?hr ?_; (case hd => rfl); (case hg => rfl); (case hr => first | (go_simp; done) | (go_simp; rfl)); intro gb222 hg w31 hbox hb; have n0_ := Aside0.mk (blk_below (g := gb219) (o := .cells #[.int .i64 ((rd_T71 l0 x3_1).f0), .string ((rd_T71 l0 x3_1).f1), .int .i64 ((rd_T71 l0 x3_1).f2), .int .i64 ((rd_T71 l0 x3_1).f3), .int .i64 ((rd_T71 l0 x3_1).f4), .int .i64 ((rd_T71 l0 x3_1).f5), .int .i64 ((rd_T71 l0 x3_1).f6), .int .i64 ((rd_T71 l0 x3_1).f7), .int .i64 ((rd_T71 l0 x3_1).f8)] 71 (0, 0)) (by (with_reducible repeat (first | refine blk_drewN ?_ _ | refine blk_drew ?_ | refine blk_alloc ?_ _)); exact BK219.out) hb); have n1_ := Aside0.mk (below_step (by repeat (first | (with_reducible first | exact HB.out | apply below_alloc | apply pw_below_drewN | apply below_drew1 | refine below_set ?_ GE219.out) | exact HB.out)) hb); have n2_ := Aside0.mk (hbox); have n3_ := Aside0.mk ((by rw [hg]; exact (below_size (by repeat (first | (with_reducible first | exact HB.out | apply below_alloc | apply pw_below_drewN | apply below_drew1 | refine below_set ?_ GE219.out) | exact HB.out))) : w.heap.size ≤ gb222)); have n4_ := Aside0.mk ((by rw [hg]; exact (below_size (by repeat (first | (with_reducible first | exact HB.out | apply below_alloc | apply pw_below_drewN | apply below_drew1 | refine below_set ?_ GE219.out) | exact HB.out))) : w.heap.size ≤ gb222)); have n5_ := Aside0.mk ((by rw [hg]; exact Nat.ne_of_lt (blk_lt (g := gb219) (o := .cells #[.int .i64 ((rd_T71 l0 x3_1).f0), .string ((rd_T71 l0 x3_1).f1), .int .i64 ((rd_T71 l0 x3_1).f2), .int .i64 ((rd_T71 l0 x3_1).f3), .int .i64 ((rd_T71 l0 x3_1).f4), .int .i64 ((rd_T71 l0 x3_1).f5), .int .i64 ((rd_T71 l0 x3_1).f6), .int .i64 ((rd_T71 l0 x3_1).f7), .int .i64 ((rd_T71 l0 x3_1).f8)] 71 (0, 0)) (by (with_reducible repeat (first | refine blk_drewN ?_ _ | refine blk_drew ?_ | refine blk_alloc ?_ _)); exact BK219.out)) : gb219 ≠ gb222)); have n6_ := Aside0.mk ((by rw [hg]; exact Nat.ne_of_gt (blk_lt (g := gb219) (o := .cells #[.int .i64 ((rd_T71 l0 x3_1).f0), .string ((rd_T71 l0 x3_1).f1), .int .i64 ((rd_T71 l0 x3_1).f2), .int .i64 ((rd_T71 l0 x3_1).f3), .int .i64 ((rd_T71 l0 x3_1).f4), .int .i64 ((rd_T71 l0 x3_1).f5), .int .i64 ((rd_T71 l0 x3_1).f6), .int .i64 ((rd_T71 l0 x3_1).f7), .int .i64 ((rd_T71 l0 x3_1).f8)] 71 (0, 0)) (by (with_reducible repeat (first | refine blk_drewN ?_ _ | refine blk_drew ?_ | refine blk_alloc ?_ _)); exact BK219.out)) : gb222 ≠ gb219)); clear BK219; clear HB; have BK219 := n0_; have HB := n1_; have BK222 := n2_; have GW222 := n3_; have GE222 := n4_; have NB219_222 := n5_; have NB222_219 := n6_; clear n0_ n1_ n2_ n3_ n4_ n5_ n6_; clear hb hbox hg; have hnb32 := NB222_219.out; have hnc32 := NB219_222.out; have hcz33_0 : w31.cell? ⟨gb222, 0, none⟩ = some (.int .i64 0) := (blk_cell BK222.out 0).trans rfl; have hcz33_1 : w31.cell? ⟨gb222, 1, none⟩ = some (.string (⟨#[]⟩ : ByteArray)) := (blk_cell BK222.out 1).trans rfl; have hcz33_2 : w31.cell? ⟨gb222, 2, none⟩ = some (.int .i64 0) := (blk_cell BK222.out 2).trans rfl; have hcz33_3 : w31.cell? ⟨gb222, 3, none⟩ = some (.int .i64 0) := (blk_cell BK222.out 3).trans rfl; have hcz33_4 : w31.cell? ⟨gb222, 4, none⟩ = some (.int .i64 0) := (blk_cell BK222.out 4).trans rfl; have hcz33_5 : w31.cell? ⟨gb222, 5, none⟩ = some (.int .i64 0) := (blk_cell BK222.out 5).trans rfl; have hcz33_6 : w31.cell? ⟨gb222, 6, none⟩ = some (.int .i64 0) := (blk_cell BK222.out 6).trans rfl; have hcz33_7 : w31.cell? ⟨gb222, 7, none⟩ = some (.int .i64 0) := (blk_cell BK222.out 7).trans rfl; have hcz33_8 : w31.cell? ⟨gb222, 8, none⟩ = some (.int .i64 0) := (blk_cell BK222.out 8).trans rfl; have hfz33_0 := blk_frozen BK222.out 0; have hfz33_1 := blk_frozen BK222.out 1; have hfz33_2 := blk_frozen BK222.out 2; have hfz33_3 := blk_frozen BK222.out 3; have hfz33_4 := blk_frozen BK222.out 4; have hfz33_5 := blk_frozen BK222.out 5; have hfz33_6 := blk_frozen BK222.out 6; have hfz33_7 := blk_frozen BK222.out 7; have hfz33_8 := blk_frozen BK222.out 8; have hcz34_0 : w31.cell? ⟨gb219, 0, none⟩ = some (.int .i64 ((rd_T71 l0 x3_1).f0)) := (blk_cell BK219.out 0).trans rfl; have hcz34_1 : w31.cell? ⟨gb219, 1, none⟩ = some (.string ((rd_T71 l0 x3_1).f1)) := (blk_cell BK219.out 1).trans rfl; have hcz34_2 : w31.cell? ⟨gb219, 2, none⟩ = some (.int .i64 ((rd_T71 l0 x3_1).f2)) := (blk_cell BK219.out 2).trans rfl; have hcz34_3 : w31.cell? ⟨gb219, 3, none⟩ = some (.int .i64 ((rd_T71 l0 x3_1).f3)) := (blk_cell BK219.out 3).trans rfl; have hcz34_4 : w31.cell? ⟨gb219, 4, none⟩ = some (.int .i64 ((rd_T71 l0 x3_1).f4)) := (blk_cell BK219.out 4).trans rfl; have hcz34_5 : w31.cell? ⟨gb219, 5, none⟩ = some (.int .i64 ((rd_T71 l0 x3_1).f5)) := (blk_cell BK219.out 5).trans rfl; have hcz34_6 : w31.cell? ⟨gb219, 6, none⟩ = some (.int .i64 ((rd_T71 l0 x3_1).f6)) := (blk_cell BK219.out 6).trans rfl; have hcz34_7 : w31.cell? ⟨gb219, 7, none⟩ = some (.int .i64 ((rd_T71 l0 x3_1).f7)) := (blk_cell BK219.out 7).trans rfl; have hcz34_8 : w31.cell? ⟨gb219, 8, none⟩ = some (.int .i64 ((rd_T71 l0 x3_1).f8)) := (blk_cell BK219.out 8).trans rfl; have hfz34_0 := blk_frozen BK219.out 0; have hfz34_1 := blk_frozen BK219.out 1; have hfz34_2 := blk_frozen BK219.out 2; have hfz34_3 := blk_frozen BK219.out 3; have hfz34_4 := blk_frozen BK219.out 4; have hfz34_5 := blk_frozen BK219.out 5; have hfz34_6 := blk_frozen BK219.out 6; have hfz34_7 := blk_frozen BK219.out 7; have hfz34_8 := blk_frozen BK219.out 8) | ((with_reducible refine gate_callee (f := 76) rfl ?_); refine goesL_ (some 46) rfl rfl Try.func76 (by kernel_rfl) rfl #[.agg #[.int .i64 ((rd_T71 l0 x5_2).f0), .string ((rd_T71 l0 x5_2).f1), .int .i64 ((rd_T71 l0 x5_2).f2), .int .i64 ((rd_T71 l0 x5_2).f3), .int .i64 ((rd_T71 l0 x5_2).f4), .int .i64 ((rd_T71 l0 x5_2).f5), .int .i64 ((rd_T71 l0 x5_2).f6), .int .i64 ((rd_T71 l0 x5_2).f7), .int .i64 ((rd_T71 l0 x5_2).f8)], .int .i64 ((rd_T71 l0 x3_1).f0), .int .i64 ((rd_T71 l0 x3_1).f2), .int .i64 ((rd_T71 l0 x3_1).f3), .int .i64 ((rd_T71 l0 x3_1).f4), .int .i64 ((rd_T71 l0 x3_1).f5)] rfl (by (try simp only [List.map_toArray, List.map_cons, List.map_nil]); first | done | rfl | (simp only [List.length_drop, List.length_take]; rfl)) ?_; (with_reducible refine (spec_l09Same.calls ((rd_T71 l0 x5_2).f0) ((rd_T71 l0 x5_2).f1) ((rd_T71 l0 x5_2).f2) ((rd_T71 l0 x5_2).f3) ((rd_T71 l0 x5_2).f4) ((rd_T71 l0 x5_2).f5) ((rd_T71 l0 x5_2).f6) ((rd_T71 l0 x5_2).f7) ((rd_T71 l0 x5_2).f8) ((rd_T71 l0 x3_1).f0) ((rd_T71 l0 x3_1).f2) ((rd_T71 l0 x3_1).f3) ((rd_T71 l0 x3_1).f4) ((rd_T71 l0 x3_1).f5) false _ A14.out).mono ?_); rintro e w35 ⟨rfl, hb⟩; refine ⟨_, rfl, ?_⟩; have n0_ := Aside0.mk (blk_below (g := gb219) (o := .cells #[.int .i64 ((rd_T71 l0 x3_1).f0), .string ((rd_T71 l0 x3_1).f1), .int .i64 ((rd_T71 l0 x3_1).f2), .int .i64 ((rd_T71 l0 x3_1).f3), .int .i64 ((rd_T71 l0 x3_1).f4), .int .i64 ((rd_T71 l0 x3_1).f5), .int .i64 ((rd_T71 l0 x3_1).f6), .int .i64 ((rd_T71 l0 x3_1).f7), .int .i64 ((rd_T71 l0 x3_1).f8)] 71 (0, 0)) (by (with_reducible repeat (first | refine blk_drewN ?_ _ | refine blk_drew ?_ | refine blk_alloc ?_ _)); refine blk_far ?_ NB219_222.out _; (with_reducible repeat (first | refine blk_drewN ?_ _ | refine blk_drew ?_ | refine blk_alloc ?_ _)); refine blk_far ?_ NB219_222.out _; (with_reducible repeat (first | refine blk_drewN ?_ _ | refine blk_drew ?_ | refine blk_alloc ?_ _)); refine blk_far ?_ NB219_222.out _; (with_reducible repeat (first | refine blk_drewN ?_ _ | refine blk_drew ?_ | refine blk_alloc ?_ _)); refine blk_far ?_ NB219_222.out _; (with_reducible repeat (first | refine blk_drewN ?_ _ | refine blk_drew ?_ | refine blk_alloc ?_ _)); refine blk_far ?_ NB219_222.out _; (with_reducible repeat (first | refine blk_drewN ?_ _ | refine blk_drew ?_ | refine blk_alloc ?_ _)); refine blk_far ?_ NB219_222.out _; (with_reducible repeat (first | refine blk_drewN ?_ _ | refine blk_drew ?_ | refine blk_alloc ?_ _)); refine blk_far ?_ NB219_222.out _; (with_reducible repeat (first | refine blk_drewN ?_ _ | refine blk_drew ?_ | refine blk_alloc ?_ _)); refine blk_far ?_ NB219_222.out _; (with_reducible repeat (first | refine blk_drewN ?_ _ | refine blk_drew ?_ | refine blk_alloc ?_ _)); refine blk_far ?_ NB219_222.out _; (with_reducible repeat (first | refine blk_drewN ?_ _ | refine blk_drew ?_ | refine blk_alloc ?_ _)); exact BK219.out) hb); have n1_ := Aside0.mk (blk_below (g := gb222) (o := .cells #[.int .i64 ((rd_T71 l0 x5_2).f0), .string ((rd_T71 l0 x5_2).f1), .int .i64 ((rd_T71 l0 x5_2).f2), .int .i64 ((rd_T71 l0 x5_2).f3), .int .i64 ((rd_T71 l0 x5_2).f4), .int .i64 ((rd_T71 l0 x5_2).f5), .int .i64 ((rd_T71 l0 x5_2).f6), .int .i64 ((rd_T71 l0 x5_2).f7), .int .i64 ((rd_T71 l0 x5_2).f8)] 71 (0, 0)) (by (with_reducible repeat (first | refine blk_drewN ?_ _ | refine blk_drew ?_ | refine blk_alloc ?_ _)); refine blk_put (cs := #[.int .i64 ((rd_T71 l0 x5_2).f0), .string ((rd_T71 l0 x5_2).f1), .int .i64 ((rd_T71 l0 x5_2).f2), .int .i64 ((rd_T71 l0 x5_2).f3), .int .i64 ((rd_T71 l0 x5_2).f4), .int .i64 ((rd_T71 l0 x5_2).f5), .int .i64 ((rd_T71 l0 x5_2).f6), .int .i64 ((rd_T71 l0 x5_2).f7), .int .i64 0]) ?_ 8 _ rfl; (with_reducible repeat (first | refine blk_drewN ?_ _ | refine blk_drew ?_ | refine blk_alloc ?_ _)); refine blk_put (cs := #[.int .i64 ((rd_T71 l0 x5_2).f0), .string ((rd_T71 l0 x5_2).f1), .int .i64 ((rd_T71 l0 x5_2).f2), .int .i64 ((rd_T71 l0 x5_2).f3), .int .i64 ((rd_T71 l0 x5_2).f4), .int .i64 ((rd_T71 l0 x5_2).f5), .int .i64 ((rd_T71 l0 x5_2).f6), .int .i64 0, .int .i64 0]) ?_ 7 _ rfl; (with_reducible repeat (first | refine blk_drewN ?_ _ | refine blk_drew ?_ | refine blk_alloc ?_ _)); refine blk_put (cs := #[.int .i64 ((rd_T71 l0 x5_2).f0), .string ((rd_T71 l0 x5_2).f1), .int .i64 ((rd_T71 l0 x5_2).f2), .int .i64 ((rd_T71 l0 x5_2).f3), .int .i64 ((rd_T71 l0 x5_2).f4), .int .i64 ((rd_T71 l0 x5_2).f5), .int .i64 0, .int .i64 0, .int .i64 0]) ?_ 6 _ rfl; (with_reducible repeat (first | refine blk_drewN ?_ _ | refine blk_drew ?_ | refine blk_alloc ?_ _)); refine blk_put (cs := #[.int .i64 ((rd_T71 l0 x5_2).f0), .string ((rd_T71 l0 x5_2).f1), .int .i64 ((rd_T71 l0 x5_2).f2), .int .i64 ((rd_T71 l0 x5_2).f3), .int .i64 ((rd_T71 l0 x5_2).f4), .int .i64 0, .int .i64 0, .int .i64 0, .int .i64 0]) ?_ 5 _ rfl; (with_reducible repeat (first | refine blk_drewN ?_ _ | refine blk_drew ?_ | refine blk_alloc ?_ _)); refine blk_put (cs := #[.int .i64 ((rd_T71 l0 x5_2).f0), .string ((rd_T71 l0 x5_2).f1), .int .i64 ((rd_T71 l0 x5_2).f2), .int .i64 ((rd_T71 l0 x5_2).f3), .int .i64 0, .int .i64 0, .int .i64 0, .int .i64 0, .int .i64 0]) ?_ 4 _ rfl; (with_reducible repeat (first | refine blk_drewN ?_ _ | refine blk_drew ?_ | refine blk_alloc ?_ _)); refine blk_put (cs := #[.int .i64 ((rd_T71 l0 x5_2).f0), .string ((rd_T71 l0 x5_2).f1), .int .i64 ((rd_T71 l0 x5_2).f2), .int .i64 0, .int .i64 0, .int .i64 0, .int .i64 0, .int .i64 0, .int .i64 0]) ?_ 3 _ rfl; (with_reducible repeat (first | refine blk_drewN ?_ _ | refine blk_drew ?_ | refine blk_alloc ?_ _)); refine blk_put (cs := #[.int .i64 ((rd_T71 l0 x5_2).f0), .string ((rd_T71 l0 x5_2).f1), .int .i64 0, .int .i64 0, .int .i64 0, .int .i64 0, .int .i64 0, .int .i64 0, .int .i64 0]) ?_ 2 _ rfl; (with_reducible repeat (first | refine blk_drewN ?_ _ | refine blk_drew ?_ | refine blk_alloc ?_ _)); refine blk_put (cs := #[.int .i64 ((rd_T71 l0 x5_2).f0), .string (⟨#[]⟩ : ByteArray), .int .i64 0, .int .i64 0, .int .i64 0, .int .i64 0, .int .i64 0, .int .i64 0, .int .i64 0]) ?_ 1 _ rfl; (with_reducible repeat (first | refine blk_drewN ?_ _ | refine blk_drew ?_ | refine blk_alloc ?_ _)); refine blk_put (cs := #[.int .i64 0, .string (⟨#[]⟩ : ByteArray), .int .i64 0, .int .i64 0, .int .i64 0, .int .i64 0, .int .i64 0, .int .i64 0, .int .i64 0]) ?_ 0 _ rfl; (with_reducible repeat (first | refine blk_drewN ?_ _ | refine blk_drew ?_ | refine blk_alloc ?_ _)); exact BK222.out) hb); have n2_ := Aside0.mk (below_step (by repeat (first | (with_reducible first | exact HB.out | apply below_alloc | apply pw_below_drewN | apply below_drew1 | refine below_set ?_ GE219.out | refine below_set ?_ GE222.out) | exact HB.out)) hb); clear BK219; clear BK222; clear HB; have BK219 := n0_; have BK222 := n1_; have HB := n2_; clear n0_ n1_ n2_; (try clear hb); (try clear hb2); (try clear hk); (try clear hi); have hcz36_0 : w35.cell? ⟨gb222, 0, none⟩ = some (.int .i64 ((rd_T71 l0 x5_2).f0)) := (blk_cell BK222.out 0).trans rfl; have hcz36_1 : w35.cell? ⟨gb222, 1, none⟩ = some (.string ((rd_T71 l0 x5_2).f1)) := (blk_cell BK222.out 1).trans rfl; have hcz36_2 : w35.cell? ⟨gb222, 2, none⟩ = some (.int .i64 ((rd_T71 l0 x5_2).f2)) := (blk_cell BK222.out 2).trans rfl; have hcz36_3 : w35.cell? ⟨gb222, 3, none⟩ = some (.int .i64 ((rd_T71 l0 x5_2).f3)) := (blk_cell BK222.out 3).trans rfl; have hcz36_4 : w35.cell? ⟨gb222, 4, none⟩ = some (.int .i64 ((rd_T71 l0 x5_2).f4)) := (blk_cell BK222.out 4).trans rfl; have hcz36_5 : w35.cell? ⟨gb222, 5, none⟩ = some (.int .i64 ((rd_T71 l0 x5_2).f5)) := (blk_cell BK222.out 5).trans rfl; have hcz36_6 : w35.cell? ⟨gb222, 6, none⟩ = some (.int .i64 ((rd_T71 l0 x5_2).f6)) := (blk_cell BK222.out 6).trans rfl; have hcz36_7 : w35.cell? ⟨gb222, 7, none⟩ = some (.int .i64 ((rd_T71 l0 x5_2).f7)) := (blk_cell BK222.out 7).trans rfl; have hcz36_8 : w35.cell? ⟨gb222, 8, none⟩ = some (.int .i64 ((rd_T71 l0 x5_2).f8)) := (blk_cell BK222.out 8).trans rfl; have hfz36_0 := blk_frozen BK222.out 0; have hfz36_1 := blk_frozen BK222.out 1; have hfz36_2 := blk_frozen BK222.out 2; have hfz36_3 := blk_frozen BK222.out 3; have hfz36_4 := blk_frozen BK222.out 4; have hfz36_5 := blk_frozen BK222.out 5; have hfz36_6 := blk_frozen BK222.out 6; have hfz36_7 := blk_frozen BK222.out 7; have hfz36_8 := blk_frozen BK222.out 8; have hcz37_0 : w35.cell? ⟨gb219, 0, none⟩ = some (.int .i64 ((rd_T71 l0 x3_1).f0)) := (blk_cell BK219.out 0).trans rfl; have hcz37_1 : w35.cell? ⟨gb219, 1, none⟩ = some (.string ((rd_T71 l0 x3_1).f1)) := (blk_cell BK219.out 1).trans rfl; have hcz37_2 : w35.cell? ⟨gb219, 2, none⟩ = some (.int .i64 ((rd_T71 l0 x3_1).f2)) := (blk_cell BK219.out 2).trans rfl; have hcz37_3 : w35.cell? ⟨gb219, 3, none⟩ = some (.int .i64 ((rd_T71 l0 x3_1).f3)) := (blk_cell BK219.out 3).trans rfl; have hcz37_4 : w35.cell? ⟨gb219, 4, none⟩ = some (.int .i64 ((rd_T71 l0 x3_1).f4)) := (blk_cell BK219.out 4).trans rfl; have hcz37_5 : w35.cell? ⟨gb219, 5, none⟩ = some (.int .i64 ((rd_T71 l0 x3_1).f5)) := (blk_cell BK219.out 5).trans rfl; have hcz37_6 : w35.cell? ⟨gb219, 6, none⟩ = some (.int .i64 ((rd_T71 l0 x3_1).f6)) := (blk_cell BK219.out 6).trans rfl; have hcz37_7 : w35.cell? ⟨gb219, 7, none⟩ = some (.int .i64 ((rd_T71 l0 x3_1).f7)) := (blk_cell BK219.out 7).trans rfl; have hcz37_8 : w35.cell? ⟨gb219, 8, none⟩ = some (.int .i64 ((rd_T71 l0 x3_1).f8)) := (blk_cell BK219.out 8).trans rfl; have hfz37_0 := blk_frozen BK219.out 0; have hfz37_1 := blk_frozen BK219.out 1; have hfz37_2 := blk_frozen BK219.out 2; have hfz37_3 := blk_frozen BK219.out 3; have hfz37_4 := blk_frozen BK219.out 4; have hfz37_5 := blk_frozen BK219.out 5; have hfz37_6 := blk_frozen BK219.out 6; have hfz37_7 := blk_frozen BK219.out 7; have hfz37_8 := blk_frozen BK219.out 8) | (go_at_call 76; (with_reducible refine (spec_l09Same.calls ((rd_T71 l0 x5_2).f0) ((rd_T71 l0 x5_2).f1) ((rd_T71 l0 x5_2).f2) ((rd_T71 l0 x5_2).f3) ((rd_T71 l0 x5_2).f4) ((rd_T71 l0 x5_2).f5) ((rd_T71 l0 x5_2).f6) ((rd_T71 l0 x5_2).f7) ((rd_T71 l0 x5_2).f8) ((rd_T71 l0 x3_1).f0) ((rd_T71 l0 x3_1).f4) ((rd_T71 l0 x3_1).f5) ((rd_T71 l0 x3_1).f2) ((rd_T71 l0 x3_1).f3) false _ A21.out).mono ?_); rintro e w38 ⟨rfl, hb⟩; have n0_ := Aside0.mk (blk_below (g := gb219) (o := .cells #[.int .i64 ((rd_T71 l0 x3_1).f0), .string ((rd_T71 l0 x3_1).f1), .int .i64 ((rd_T71 l0 x3_1).f2), .int .i64 ((rd_T71 l0 x3_1).f3), .int .i64 ((rd_T71 l0 x3_1).f4), .int .i64 ((rd_T71 l0 x3_1).f5), .int .i64 ((rd_T71 l0 x3_1).f6), .int .i64 ((rd_T71 l0 x3_1).f7), .int .i64 ((rd_T71 l0 x3_1).f8)] 71 (0, 0)) (by (with_reducible repeat (first | refine blk_drewN ?_ _ | refine blk_drew ?_ | refine blk_alloc ?_ _)); exact BK219.out) hb); have n1_ := Aside0.mk (blk_below (g := gb222) (o := .cells #[.int .i64 ((rd_T71 l0 x5_2).f0), .string ((rd_T71 l0 x5_2).f1), .int .i64 ((rd_T71 l0 x5_2).f2), .int .i64 ((rd_T71 l0 x5_2).f3), .int .i64 ((rd_T71 l0 x5_2).f4), .int .i64 ((rd_T71 l0 x5_2).f5), .int .i64 ((rd_T71 l0 x5_2).f6), .int .i64 ((rd_T71 l0 x5_2).f7), .int .i64 ((rd_T71 l0 x5_2).f8)] 71 (0, 0)) (by (with_reducible repeat (first | refine blk_drewN ?_ _ | refine blk_drew ?_ | refine blk_alloc ?_ _)); exact BK222.out) hb); have n2_ := Aside0.mk (below_step (by repeat (first | (with_reducible first | exact HB.out | apply below_alloc | apply pw_below_drewN | apply below_drew1 | refine below_set ?_ GE219.out | refine below_set ?_ GE222.out) | exact HB.out)) hb); clear BK219; clear BK222; clear HB; have BK219 := n0_; have BK222 := n1_; have HB := n2_; clear n0_ n1_ n2_; (try clear hb); (try clear hb2); (try clear hk); (try clear hi)))
                              go_roundg k2
                              case measure => have := HK1.out; have := HK2.out; omega
                              case rel => exact ⟨(wrap64 (x5_2 + 1)), (by first | rfl | (simp; done) | (simp [*]; done) | (simp [ne_nil_b]; done) | (simp [ne_nil_b, *]; done)), H', ⟨by have := HK1.out; have := HK2.out; omega⟩, ⟨by (with_reducible repeat (first | refine blk_drewN ?_ _ | refine blk_drew ?_ | refine blk_alloc ?_ _)); exact BK219.out⟩, ⟨by repeat (first | (with_reducible first | exact HB.out | apply below_alloc | apply pw_below_drewN | apply below_drew1 | refine below_set ?_ GE219.out | refine below_set ?_ GE222.out) | exact HB.out)⟩⟩
                        · rw [if_neg c13] at H
                          exact absurd H (by simp)
                      · rw [if_neg c12] at H
                        exact absurd H (by simp)
                    · rw [if_neg c11] at H
                      have c11b0 : decide (x5_2 < x3_1) = false := decide_eq_false c11
                      clear c11
                      have H' := Aside0.mk H
                      clear H
                      go_wp2
                      go_roundg k2
                      case measure => have := HK1.out; have := HK2.out; omega
                      case rel => exact ⟨(wrap64 (x3_1 + 1)), (by first | rfl | (simp; done) | (simp [*]; done) | (simp [ne_nil_b]; done) | (simp [ne_nil_b, *]; done)), H', ⟨by have := HK1.out; have := HK2.out; omega⟩, ⟨by repeat (first | (with_reducible first | exact HB.out | apply below_alloc | apply pw_below_drewN | apply below_drew1 | refine below_set ?_ GE219.out) | exact HB.out)⟩⟩
              · replace c7 := Bool.eq_false_iff.mpr c7
                subst c7
                have H1 : (some false) = some r := by rw [if_neg (show ¬ (false = true) by decide)] at H; exact H
                clear H
                have H := H1
                clear H1
                obtain rfl := Option.some.inj H
                have p218 : 0 ≤ (x3_1 : Int) := of_decide_eq_true (by first | (with_reducible assumption) | assumption)
                have q218 : x3_1 < (l0.length : Int) := of_decide_eq_true (by first | (with_reducible assumption) | assumption)
                obtain ⟨ad218, e218, hx218_0, hx218_1, hx218_2, hx218_3, hx218_4, hx218_5, hx218_6, hx218_7, hx218_8⟩ := at_T71 HR0.out x3_1 p218 q218
                cases e218
                replace hx218_0 := (HB.out.cell (World.block_lt_of_cell? w _ hx218_0)).trans hx218_0
                replace hx218_1 := (HB.out.cell (World.block_lt_of_cell? w _ hx218_1)).trans hx218_1
                replace hx218_2 := (HB.out.cell (World.block_lt_of_cell? w _ hx218_2)).trans hx218_2
                replace hx218_3 := (HB.out.cell (World.block_lt_of_cell? w _ hx218_3)).trans hx218_3
                replace hx218_4 := (HB.out.cell (World.block_lt_of_cell? w _ hx218_4)).trans hx218_4
                replace hx218_5 := (HB.out.cell (World.block_lt_of_cell? w _ hx218_5)).trans hx218_5
                replace hx218_6 := (HB.out.cell (World.block_lt_of_cell? w _ hx218_6)).trans hx218_6
                replace hx218_7 := (HB.out.cell (World.block_lt_of_cell? w _ hx218_7)).trans hx218_7
                replace hx218_8 := (HB.out.cell (World.block_lt_of_cell? w _ hx218_8)).trans hx218_8
                replace p218 := eq_true p218
                replace q218 := eq_true q218
                go_wp2_with (first | ((with_reducible refine gate_dst (N := 4) rfl ?_); refine box_event ?hg (N := 4) ?hd (cs := #[.int .i64 0, .string (⟨#[]⟩ : ByteArray), .int .i64 0, .int .i64 0, .int .i64 0, .int .i64 0, .int .i64 0, .int .i64 0, .int .i64 0]) (t := 71) ?hr ?_; (case hd => rfl); (case hg => rfl); (case hr => first | (go_simp; done) | (go_simp; rfl)); intro gb219 hg w39 hbox hb; have n0_ := Aside0.mk (below_step (by repeat (first | (with_reducible first | exact HB.out | apply below_alloc | apply pw_below_drewN | apply below_drew1) | exact HB.out)) hb); have n1_ := Aside0.mk (hbox); have n2_ := Aside0.mk ((by rw [hg]; exact (below_size (by repeat (first | (with_reducible first | exact HB.out | apply below_alloc | apply pw_below_drewN | apply below_drew1) | exact HB.out))) : w.heap.size ≤ gb219)); have n3_ := Aside0.mk ((by rw [hg]; exact (below_size (by repeat (first | (with_reducible first | exact HB.out | apply below_alloc | apply pw_below_drewN | apply below_drew1) | exact HB.out))) : w.heap.size ≤ gb219)); clear HB; have HB := n0_; have BK219 := n1_; have GW219 := n2_; have GE219 := n3_; clear n0_ n1_ n2_ n3_; clear hb hbox hg; have hcz40_0 : w39.cell? ⟨gb219, 0, none⟩ = some (.int .i64 0) := (blk_cell BK219.out 0).trans rfl; have hcz40_1 : w39.cell? ⟨gb219, 1, none⟩ = some (.string (⟨#[]⟩ : ByteArray)) := (blk_cell BK219.out 1).trans rfl; have hcz40_2 : w39.cell? ⟨gb219, 2, none⟩ = some (.int .i64 0) := (blk_cell BK219.out 2).trans rfl; have hcz40_3 : w39.cell? ⟨gb219, 3, none⟩ = some (.int .i64 0) := (blk_cell BK219.out 3).trans rfl; have hcz40_4 : w39.cell? ⟨gb219, 4, none⟩ = some (.int .i64 0) := (blk_cell BK219.out 4).trans rfl; have hcz40_5 : w39.cell? ⟨gb219, 5, none⟩ = some (.int .i64 0) := (blk_cell BK219.out 5).trans rfl; have hcz40_6 : w39.cell? ⟨gb219, 6, none⟩ = some (.int .i64 0) := (blk_cell BK219.out 6).trans rfl; have hcz40_7 : w39.cell? ⟨gb219, 7, none⟩ = some (.int .i64 0) := (blk_cell BK219.out 7).trans rfl; have hcz40_8 : w39.cell? ⟨gb219, 8, none⟩ = some (.int .i64 0) := (blk_cell BK219.out 8).trans rfl; have hfz40_0 := blk_frozen BK219.out 0; have hfz40_1 := blk_frozen BK219.out 1; have hfz40_2 := blk_frozen BK219.out 2; have hfz40_3 := blk_frozen BK219.out 3; have hfz40_4 := blk_frozen BK219.out 4; have hfz40_5 := blk_frozen BK219.out 5; have hfz40_6 := blk_frozen BK219.out 6; have hfz40_7 := blk_frozen BK219.out 7; have hfz40_8 := blk_frozen BK219.out 8) | ((with_reducible refine gate_callee (f := 75) rfl ?_); refine goesL_ (some 24) rfl rfl Try.func75 (by kernel_rfl) rfl #[.agg #[.int .i64 ((rd_T71 l0 x3_1).f0), .string ((rd_T71 l0 x3_1).f1), .int .i64 ((rd_T71 l0 x3_1).f2), .int .i64 ((rd_T71 l0 x3_1).f3), .int .i64 ((rd_T71 l0 x3_1).f4), .int .i64 ((rd_T71 l0 x3_1).f5), .int .i64 ((rd_T71 l0 x3_1).f6), .int .i64 ((rd_T71 l0 x3_1).f7), .int .i64 ((rd_T71 l0 x3_1).f8)]] rfl (by (try simp only [List.map_toArray, List.map_cons, List.map_nil]); first | done | rfl | (simp only [List.length_drop, List.length_take]; rfl)) ?_; (with_reducible refine (spec_l09Flow.calls ((rd_T71 l0 x3_1).f0) ((rd_T71 l0 x3_1).f1) ((rd_T71 l0 x3_1).f2) ((rd_T71 l0 x3_1).f3) ((rd_T71 l0 x3_1).f4) ((rd_T71 l0 x3_1).f5) ((rd_T71 l0 x3_1).f6) ((rd_T71 l0 x3_1).f7) ((rd_T71 l0 x3_1).f8) false _ A6.out).mono ?_); rintro e w41 ⟨rfl, hb⟩; refine ⟨_, rfl, ?_⟩; have n0_ := Aside0.mk (blk_below (g := gb219) (o := .cells #[.int .i64 ((rd_T71 l0 x3_1).f0), .string ((rd_T71 l0 x3_1).f1), .int .i64 ((rd_T71 l0 x3_1).f2), .int .i64 ((rd_T71 l0 x3_1).f3), .int .i64 ((rd_T71 l0 x3_1).f4), .int .i64 ((rd_T71 l0 x3_1).f5), .int .i64 ((rd_T71 l0 x3_1).f6), .int .i64 ((rd_T71 l0 x3_1).f7), .int .i64 ((rd_T71 l0 x3_1).f8)] 71 (0, 0)) (by (with_reducible repeat (first | refine blk_drewN ?_ _ | refine blk_drew ?_ | refine blk_alloc ?_ _)); refine blk_put (cs := #[.int .i64 ((rd_T71 l0 x3_1).f0), .string ((rd_T71 l0 x3_1).f1), .int .i64 ((rd_T71 l0 x3_1).f2), .int .i64 ((rd_T71 l0 x3_1).f3), .int .i64 ((rd_T71 l0 x3_1).f4), .int .i64 ((rd_T71 l0 x3_1).f5), .int .i64 ((rd_T71 l0 x3_1).f6), .int .i64 ((rd_T71 l0 x3_1).f7), .int .i64 0]) ?_ 8 _ rfl; (with_reducible repeat (first | refine blk_drewN ?_ _ | refine blk_drew ?_ | refine blk_alloc ?_ _)); refine blk_put (cs := #[.int .i64 ((rd_T71 l0 x3_1).f0), .string ((rd_T71 l0 x3_1).f1), .int .i64 ((rd_T71 l0 x3_1).f2), .int .i64 ((rd_T71 l0 x3_1).f3), .int .i64 ((rd_T71 l0 x3_1).f4), .int .i64 ((rd_T71 l0 x3_1).f5), .int .i64 ((rd_T71 l0 x3_1).f6), .int .i64 0, .int .i64 0]) ?_ 7 _ rfl; (with_reducible repeat (first | refine blk_drewN ?_ _ | refine blk_drew ?_ | refine blk_alloc ?_ _)); refine blk_put (cs := #[.int .i64 ((rd_T71 l0 x3_1).f0), .string ((rd_T71 l0 x3_1).f1), .int .i64 ((rd_T71 l0 x3_1).f2), .int .i64 ((rd_T71 l0 x3_1).f3), .int .i64 ((rd_T71 l0 x3_1).f4), .int .i64 ((rd_T71 l0 x3_1).f5), .int .i64 0, .int .i64 0, .int .i64 0]) ?_ 6 _ rfl; (with_reducible repeat (first | refine blk_drewN ?_ _ | refine blk_drew ?_ | refine blk_alloc ?_ _)); refine blk_put (cs := #[.int .i64 ((rd_T71 l0 x3_1).f0), .string ((rd_T71 l0 x3_1).f1), .int .i64 ((rd_T71 l0 x3_1).f2), .int .i64 ((rd_T71 l0 x3_1).f3), .int .i64 ((rd_T71 l0 x3_1).f4), .int .i64 0, .int .i64 0, .int .i64 0, .int .i64 0]) ?_ 5 _ rfl; (with_reducible repeat (first | refine blk_drewN ?_ _ | refine blk_drew ?_ | refine blk_alloc ?_ _)); refine blk_put (cs := #[.int .i64 ((rd_T71 l0 x3_1).f0), .string ((rd_T71 l0 x3_1).f1), .int .i64 ((rd_T71 l0 x3_1).f2), .int .i64 ((rd_T71 l0 x3_1).f3), .int .i64 0, .int .i64 0, .int .i64 0, .int .i64 0, .int .i64 0]) ?_ 4 _ rfl; (with_reducible repeat (first | refine blk_drewN ?_ _ | refine blk_drew ?_ | refine blk_alloc ?_ _)); refine blk_put (cs := #[.int .i64 ((rd_T71 l0 x3_1).f0), .string ((rd_T71 l0 x3_1).f1), .int .i64 ((rd_T71 l0 x3_1).f2), .int .i64 0, .int .i64 0, .int .i64 0, .int .i64 0, .int .i64 0, .int .i64 0]) ?_ 3 _ rfl; (with_reducible repeat (first | refine blk_drewN ?_ _ | refine blk_drew ?_ | refine blk_alloc ?_ _)); refine blk_put (cs := #[.int .i64 ((rd_T71 l0 x3_1).f0), .string ((rd_T71 l0 x3_1).f1), .int .i64 0, .int .i64 0, .int .i64 0, .int .i64 0, .int .i64 0, .int .i64 0, .int .i64 0]) ?_ 2 _ rfl; (with_reducible repeat (first | refine blk_drewN ?_ _ | refine blk_drew ?_ | refine blk_alloc ?_ _)); refine blk_put (cs := #[.int .i64 ((rd_T71 l0 x3_1).f0), .string (⟨#[]⟩ : ByteArray), .int .i64 0, .int .i64 0, .int .i64 0, .int .i64 0, .int .i64 0, .int .i64 0, .int .i64 0]) ?_ 1 _ rfl; (with_reducible repeat (first | refine blk_drewN ?_ _ | refine blk_drew ?_ | refine blk_alloc ?_ _)); refine blk_put (cs := #[.int .i64 0, .string (⟨#[]⟩ : ByteArray), .int .i64 0, .int .i64 0, .int .i64 0, .int .i64 0, .int .i64 0, .int .i64 0, .int .i64 0]) ?_ 0 _ rfl; (with_reducible repeat (first | refine blk_drewN ?_ _ | refine blk_drew ?_ | refine blk_alloc ?_ _)); exact BK219.out) hb); have n1_ := Aside0.mk (below_step (by repeat (first | (with_reducible first | exact HB.out | apply below_alloc | apply pw_below_drewN | apply below_drew1 | refine below_set ?_ GE219.out) | exact HB.out)) hb); clear BK219; clear HB; have BK219 := n0_; have HB := n1_; clear n0_ n1_; (try clear hb); (try clear hb2); (try clear hk); (try clear hi)))
                go_ret
                exact ⟨by first | rfl | (simp [errW_none, errW_some] <;> rfl) | (simp [*, errW_none, errW_some] <;> rfl), by repeat (first | (with_reducible first | exact HB.out | apply below_alloc | apply pw_below_drewN | apply below_drew1 | refine below_set ?_ GE219.out) | exact HB.out)⟩
            · rw [if_neg c5] at H
              exact absurd H (by simp)
          · rw [if_neg c4] at H
            have c4b0 : decide (x3_1 < (l0.length : Int)) = false := decide_eq_false c4
            clear c4
            obtain rfl := Option.some.inj H
            go_wp2
            go_ret
            exact ⟨by first | rfl | (simp [errW_none, errW_some] <;> rfl) | (simp [*, errW_none, errW_some] <;> rfl), by repeat (first | (with_reducible first | exact HB.out | apply below_alloc | apply pw_below_drewN | apply below_drew1) | exact HB.out)⟩
end
section
/-! ### spec_l09Keep: function 94 -/
def spec_l09Keep.l0 : Nat → List (S71) → Int → Int → List (S71) → Int → Option ((List (S71)))
  | 0, _, _, _, _, _ => none
  | k + 1, x0, x1, x2, x7, x8 => if x8 < (x0.length : Int) then (if 0 ≤ x8 then (if ((rd_T71 x0 x8).f7) > x1 then (if ((rd_T71 x0 x8).f8) = x2 then (spec_l09Keep.l0 k x0 x1 x2 x7 (wrap64 (x8 + 1))) else (if x7.length < 1759218604441 then (spec_l09Keep.l0 k x0 x1 x2 (x7 ++ [(⟨(rd_T71 x0 x8).f0, (rd_T71 x0 x8).f1, (rd_T71 x0 x8).f2, (rd_T71 x0 x8).f3, (rd_T71 x0 x8).f4, (rd_T71 x0 x8).f5, (rd_T71 x0 x8).f6, (rd_T71 x0 x8).f7, (rd_T71 x0 x8).f8⟩ : S71)]) (wrap64 (x8 + 1))) else (none))) else (spec_l09Keep.l0 k x0 x1 x2 x7 (wrap64 (x8 + 1)))) else (none)) else (some x7)
def spec_l09Keep.f (k : Nat) (l0 : List (S71)) (a1 : Int) (a2 : Int) : Option ((List (S71))) := spec_l09Keep.l0 k l0 a1 a2 (([] : List (S71))) 0
theorem spec_l09Keep.mono_l : ∀ k, (∀ y0 y1 y2 y3 y4, LeO (spec_l09Keep.l0 k y0 y1 y2 y3 y4) (spec_l09Keep.l0 (k + 1) y0 y1 y2 y3 y4))
  | 0 => fun _ _ _ _ _ r h => by simp [spec_l09Keep.l0] at h
  | k + 1 => by
    have ih0 := spec_l09Keep.mono_l k
    · intro y0 y1 y2 y3 y4
      unfold spec_l09Keep.l0
      repeat' first
      | (with_reducible exact ih0 _ _ _ _ _)
      | (with_reducible exact LeO.refl _)
      | (with_reducible exact LeO.none _)
      | (with_reducible refine LeO.ite ?_ ?_)
      | (with_reducible refine LeO.bind ?_ (fun _ => ?_))
      | exact ih0 _ _ _ _ _
      | exact LeO.none _
      | refine LeO.ite ?_ ?_
      | refine LeO.bind ?_ (fun _ => ?_)
theorem spec_l09Keep.mono : ∀ a0 a1 a2 k, LeO (spec_l09Keep.f k a0 a1 a2) (spec_l09Keep.f (k + 1) a0 a1 a2) := by
  intro a0 a1 a2 k
  have ih0 := spec_l09Keep.mono_l k
  unfold spec_l09Keep.f
  repeat' first
      | (with_reducible exact ih0 _ _ _ _ _)
      | (with_reducible exact LeO.refl _)
      | (with_reducible exact LeO.none _)
      | (with_reducible refine LeO.ite ?_ ?_)
      | (with_reducible refine LeO.bind ?_ (fun _ => ?_))
      | exact ih0 _ _ _ _ _
      | exact LeO.none _
      | refine LeO.ite ?_ ?_
      | refine LeO.bind ?_ (fun _ => ?_)
set_option maxHeartbeats 8000000 in
set_option maxRecDepth 100000 in
theorem spec_l09Keep.calls (k : Nat) (A0 : Option Addr) (c0 : Nat) (l0 : List (S71)) (a1 : Int) (a2 : Int) (r : List (S71)) (w : World) (hr0 : Kd.C k71 w A0 l0.length l0) (hc0 : l0.length ≤ c0) (h : spec_l09Keep.f k l0 a1 a2 = some r) :
    Calls Try.prog 94 #[.slice A0 l0.length c0, .int .i64 a1, .int .i64 a2] w fun e w' => ∃ v0_ : Value, e = .returned (v0_) ∧ Kd.R k71 71 w' w.heap.size (fun _ => True) v0_ r ∧ Below w.heap.size w w' := by
  have hu71 := Try.underlying71
  have HR0 := Aside0.mk hr0
  have HC0 := Aside0.mk hc0
  clear hr0 hc0
  have HB := Aside0.mk (Below.refl w.heap.size w)
  have H : (spec_l09Keep.l0 k l0 a1 a2 (([] : List (S71))) 0) = some r := h
  clear h
  obtain ⟨y832, hy832⟩ : ∃ y_ : List (S71), y_ = (([] : List (S71))) := ⟨_, rfl⟩
  replace H : (spec_l09Keep.l0 k l0 a1 a2 y832 0) = some r := by first | (rw [hy832]; with_reducible exact H) | (have H2_ := (Option.bind_some _ _).symm.trans H; rw [hy832]; with_reducible exact H2_) | (have H2_ := (Option.bind_some _ _).symm.trans H; with_reducible exact H2_) | with_reducible exact H | (rw [hy832]; exact H) | exact H
  have Ny832 := Aside0.mk hy832
  clear hy832
  have H' := Aside0.mk H
  clear H
  go_enter Try.func94, Try.ntmps94
  go_wp2_with (first | ((with_reducible refine gate_dst (N := 9) rfl ?_); refine Kd.R_lit k71 _ 71 ?hg (N := 9) ?hd (xs := ([] : List (S71))) (inner := []) (ok := fun _ => True) (okp := fun _ => True) ?hr ?hp (fun _ hk => hk) trivial (Below.refl _ _) (Nat.le_refl _) (by simp) ?_; (case hd => rfl); (case hg => rfl); (case hr => first | (go_simp; done) | (go_simp; rfl)); (case hp => exact (Reps.none _ _)); intro v833 w4 ho5 hb hg_ hnew_; clear hg_ hnew_; (first | rw [← Ny832.out] at ho5 | (simp only [Int.reduceToNat] at ho5; rw [← Ny832.out] at ho5)); have n0_ := Aside0.mk (Kd.R_lower ho5 (below_size (by repeat (first | (with_reducible first | exact HB.out | apply below_alloc | apply pw_below_drewN | apply below_drew1) | exact HB.out)))); have n1_ := Aside0.mk (below_step (by repeat (first | (with_reducible first | exact HB.out | apply below_alloc | apply pw_below_drewN | apply below_drew1) | exact HB.out)) hb); clear HB; have HO834 := n0_; have HB := n1_; clear n0_ n1_; clear hb ho5))
  go_loopg [7, 8] k (fun kq v7 v8 w' => ∃ (x7_1 : List (S71)) (x8_1 : Int), v8 = .int .i64 x8_1 ∧ Aside0 (spec_l09Keep.l0 kq l0 a1 a2 x7_1 x8_1 = some r) ∧ Aside0 (kq ≤ k) ∧ Aside0 (Kd.R k71 71 w' w.heap.size (fun _ => True) v7 x7_1) ∧ Aside0 (Below w.heap.size w w'))
  case atStart => exact ⟨(y832), (0), (by first | rfl | (simp; done) | (simp [*]; done) | (simp [ne_nil_b]; done) | (simp [ne_nil_b, *]; done)), H', ⟨Nat.le_refl _⟩, ⟨by (with_reducible repeat (first | apply Kd.R_alloc | apply Kd.R_drewN | apply Kd.R_drew)); exact HO834.out⟩, ⟨by repeat (first | (with_reducible first | exact HB.out | apply below_alloc | apply pw_below_drewN | apply below_drew1) | exact HB.out)⟩⟩
  case round =>
    clear H'
    try clear p2
    obtain ⟨x7_1, x8_1, rfl, HA, HK1, HO_7, HB⟩ := hrel
    cases gk with
    | zero => exact absurd HA.out (by simp [spec_l09Keep.l0])
    | succ k1 =>
      have H := HA.out
      clear HA
      simp only [spec_l09Keep.l0] at H
      by_cases c6 : x8_1 < (l0.length : Int)
      · rw [if_pos c6] at H
        have c6b0 : decide (x8_1 < (l0.length : Int)) = true := decide_eq_true c6
        clear c6
        by_cases c7 : 0 ≤ x8_1
        · rw [if_pos c7] at H
          have c7b0 : decide (0 ≤ x8_1) = true := decide_eq_true c7
          clear c7
          by_cases c8 : ((rd_T71 l0 x8_1).f7) > a1
          · rw [if_pos c8] at H
            have c8b0 : decide (a1 < ((rd_T71 l0 x8_1).f7)) = true := decide_eq_true c8
            clear c8
            by_cases c9 : ((rd_T71 l0 x8_1).f8) = a2
            · rw [if_pos c9] at H
              have c9b0 : (((rd_T71 l0 x8_1).f8) == a2) = true := beq_iff_eq.mpr c9
              have c9b1 : (((rd_T71 l0 x8_1).f8) != a2) = false := bne_eq_false_iff_eq.mpr c9
              clear c9
              have H' := Aside0.mk H
              clear H
              have p835 : 0 ≤ (x8_1 : Int) := of_decide_eq_true (by first | (with_reducible assumption) | assumption)
              have q835 : x8_1 < (l0.length : Int) := of_decide_eq_true (by first | (with_reducible assumption) | assumption)
              obtain ⟨ad835, e835, hx835_0, hx835_1, hx835_2, hx835_3, hx835_4, hx835_5, hx835_6, hx835_7, hx835_8⟩ := at_T71 HR0.out x8_1 p835 q835
              cases e835
              replace hx835_0 := (HB.out.cell (World.block_lt_of_cell? w _ hx835_0)).trans hx835_0
              replace hx835_1 := (HB.out.cell (World.block_lt_of_cell? w _ hx835_1)).trans hx835_1
              replace hx835_2 := (HB.out.cell (World.block_lt_of_cell? w _ hx835_2)).trans hx835_2
              replace hx835_3 := (HB.out.cell (World.block_lt_of_cell? w _ hx835_3)).trans hx835_3
              replace hx835_4 := (HB.out.cell (World.block_lt_of_cell? w _ hx835_4)).trans hx835_4
              replace hx835_5 := (HB.out.cell (World.block_lt_of_cell? w _ hx835_5)).trans hx835_5
              replace hx835_6 := (HB.out.cell (World.block_lt_of_cell? w _ hx835_6)).trans hx835_6
              replace hx835_7 := (HB.out.cell (World.block_lt_of_cell? w _ hx835_7)).trans hx835_7
              replace hx835_8 := (HB.out.cell (World.block_lt_of_cell? w _ hx835_8)).trans hx835_8
              replace p835 := eq_true p835
              replace q835 := eq_true q835
              have p836 : 0 ≤ (x8_1 : Int) := of_decide_eq_true (by first | (with_reducible assumption) | assumption)
              have q836 : x8_1 < (l0.length : Int) := of_decide_eq_true (by first | (with_reducible assumption) | assumption)
              obtain ⟨ad836, e836, hx836_0, hx836_1, hx836_2, hx836_3, hx836_4, hx836_5, hx836_6, hx836_7, hx836_8⟩ := at_T71 HR0.out x8_1 p836 q836
              obtain rfl : ad835 = ad836 := (by injection e836)
              replace hx836_0 := (HB.out.cell (World.block_lt_of_cell? w _ hx836_0)).trans hx836_0
              replace hx836_1 := (HB.out.cell (World.block_lt_of_cell? w _ hx836_1)).trans hx836_1
              replace hx836_2 := (HB.out.cell (World.block_lt_of_cell? w _ hx836_2)).trans hx836_2
              replace hx836_3 := (HB.out.cell (World.block_lt_of_cell? w _ hx836_3)).trans hx836_3
              replace hx836_4 := (HB.out.cell (World.block_lt_of_cell? w _ hx836_4)).trans hx836_4
              replace hx836_5 := (HB.out.cell (World.block_lt_of_cell? w _ hx836_5)).trans hx836_5
              replace hx836_6 := (HB.out.cell (World.block_lt_of_cell? w _ hx836_6)).trans hx836_6
              replace hx836_7 := (HB.out.cell (World.block_lt_of_cell? w _ hx836_7)).trans hx836_7
              replace hx836_8 := (HB.out.cell (World.block_lt_of_cell? w _ hx836_8)).trans hx836_8
              replace p836 := eq_true p836
              replace q836 := eq_true q836
              go_wp2
              go_roundg k1
              case measure => have := HK1.out; omega
              case rel => exact ⟨(x7_1), (wrap64 (x8_1 + 1)), (by first | rfl | (simp; done) | (simp [*]; done) | (simp [ne_nil_b]; done) | (simp [ne_nil_b, *]; done)), H', ⟨by have := HK1.out; omega⟩, ⟨by (with_reducible repeat (first | apply Kd.R_alloc | apply Kd.R_drewN | apply Kd.R_drew)); exact HO_7.out⟩, ⟨by repeat (first | (with_reducible first | exact HB.out | apply below_alloc | apply pw_below_drewN | apply below_drew1) | exact HB.out)⟩⟩
            · rw [if_neg c9] at H
              have c9b0 : (((rd_T71 l0 x8_1).f8) == a2) = false := beq_eq_false_iff_ne.mpr c9
              have c9b1 : (((rd_T71 l0 x8_1).f8) != a2) = true := bne_iff_ne.mpr c9
              by_cases c10 : x7_1.length < 1759218604441
              · rw [if_pos c10] at H
                have LMc10 := Aside0.mk c10
                clear c10
                obtain ⟨y838, hy838⟩ : ∃ y_ : List (S71), y_ = (x7_1 ++ [(⟨(rd_T71 l0 x8_1).f0, (rd_T71 l0 x8_1).f1, (rd_T71 l0 x8_1).f2, (rd_T71 l0 x8_1).f3, (rd_T71 l0 x8_1).f4, (rd_T71 l0 x8_1).f5, (rd_T71 l0 x8_1).f6, (rd_T71 l0 x8_1).f7, (rd_T71 l0 x8_1).f8⟩ : S71)]) := ⟨_, rfl⟩
                replace H : (spec_l09Keep.l0 k1 l0 a1 a2 y838 (wrap64 (x8_1 + 1))) = some r := by first | (rw [hy838]; with_reducible exact H) | (have H2_ := (Option.bind_some _ _).symm.trans H; rw [hy838]; with_reducible exact H2_) | (have H2_ := (Option.bind_some _ _).symm.trans H; with_reducible exact H2_) | with_reducible exact H | (rw [hy838]; exact H) | exact H
                have Ny838 := Aside0.mk hy838
                clear hy838
                have H' := Aside0.mk H
                clear H
                have p835 : 0 ≤ (x8_1 : Int) := of_decide_eq_true (by first | (with_reducible assumption) | assumption)
                have q835 : x8_1 < (l0.length : Int) := of_decide_eq_true (by first | (with_reducible assumption) | assumption)
                obtain ⟨ad835, e835, hx835_0, hx835_1, hx835_2, hx835_3, hx835_4, hx835_5, hx835_6, hx835_7, hx835_8⟩ := at_T71 HR0.out x8_1 p835 q835
                cases e835
                replace hx835_0 := (HB.out.cell (World.block_lt_of_cell? w _ hx835_0)).trans hx835_0
                replace hx835_1 := (HB.out.cell (World.block_lt_of_cell? w _ hx835_1)).trans hx835_1
                replace hx835_2 := (HB.out.cell (World.block_lt_of_cell? w _ hx835_2)).trans hx835_2
                replace hx835_3 := (HB.out.cell (World.block_lt_of_cell? w _ hx835_3)).trans hx835_3
                replace hx835_4 := (HB.out.cell (World.block_lt_of_cell? w _ hx835_4)).trans hx835_4
                replace hx835_5 := (HB.out.cell (World.block_lt_of_cell? w _ hx835_5)).trans hx835_5
                replace hx835_6 := (HB.out.cell (World.block_lt_of_cell? w _ hx835_6)).trans hx835_6
                replace hx835_7 := (HB.out.cell (World.block_lt_of_cell? w _ hx835_7)).trans hx835_7
                replace hx835_8 := (HB.out.cell (World.block_lt_of_cell? w _ hx835_8)).trans hx835_8
                replace p835 := eq_true p835
                replace q835 := eq_true q835
                have p836 : 0 ≤ (x8_1 : Int) := of_decide_eq_true (by first | (with_reducible assumption) | assumption)
                have q836 : x8_1 < (l0.length : Int) := of_decide_eq_true (by first | (with_reducible assumption) | assumption)
                obtain ⟨ad836, e836, hx836_0, hx836_1, hx836_2, hx836_3, hx836_4, hx836_5, hx836_6, hx836_7, hx836_8⟩ := at_T71 HR0.out x8_1 p836 q836
                obtain rfl : ad835 = ad836 := (by injection e836)
                replace hx836_0 := (HB.out.cell (World.block_lt_of_cell? w _ hx836_0)).trans hx836_0
                replace hx836_1 := (HB.out.cell (World.block_lt_of_cell? w _ hx836_1)).trans hx836_1
                replace hx836_2 := (HB.out.cell (World.block_lt_of_cell? w _ hx836_2)).trans hx836_2
                replace hx836_3 := (HB.out.cell (World.block_lt_of_cell? w _ hx836_3)).trans hx836_3
                replace hx836_4 := (HB.out.cell (World.block_lt_of_cell? w _ hx836_4)).trans hx836_4
                replace hx836_5 := (HB.out.cell (World.block_lt_of_cell? w _ hx836_5)).trans hx836_5
                replace hx836_6 := (HB.out.cell (World.block_lt_of_cell? w _ hx836_6)).trans hx836_6
                replace hx836_7 := (HB.out.cell (World.block_lt_of_cell? w _ hx836_7)).trans hx836_7
                replace hx836_8 := (HB.out.cell (World.block_lt_of_cell? w _ hx836_8)).trans hx836_8
                replace p836 := eq_true p836
                replace q836 := eq_true q836
                have p837 : 0 ≤ (x8_1 : Int) := of_decide_eq_true (by first | (with_reducible assumption) | assumption)
                have q837 : x8_1 < (l0.length : Int) := of_decide_eq_true (by first | (with_reducible assumption) | assumption)
                obtain ⟨ad837, e837, hx837_0, hx837_1, hx837_2, hx837_3, hx837_4, hx837_5, hx837_6, hx837_7, hx837_8⟩ := at_T71 HR0.out x8_1 p837 q837
                obtain rfl : ad835 = ad837 := (by injection e837)
                replace hx837_0 := (HB.out.cell (World.block_lt_of_cell? w _ hx837_0)).trans hx837_0
                replace hx837_1 := (HB.out.cell (World.block_lt_of_cell? w _ hx837_1)).trans hx837_1
                replace hx837_2 := (HB.out.cell (World.block_lt_of_cell? w _ hx837_2)).trans hx837_2
                replace hx837_3 := (HB.out.cell (World.block_lt_of_cell? w _ hx837_3)).trans hx837_3
                replace hx837_4 := (HB.out.cell (World.block_lt_of_cell? w _ hx837_4)).trans hx837_4
                replace hx837_5 := (HB.out.cell (World.block_lt_of_cell? w _ hx837_5)).trans hx837_5
                replace hx837_6 := (HB.out.cell (World.block_lt_of_cell? w _ hx837_6)).trans hx837_6
                replace hx837_7 := (HB.out.cell (World.block_lt_of_cell? w _ hx837_7)).trans hx837_7
                replace hx837_8 := (HB.out.cell (World.block_lt_of_cell? w _ hx837_8)).trans hx837_8
                replace p837 := eq_true p837
                replace q837 := eq_true q837
                go_wp2_with (first | ((with_reducible refine gate_builtin (b := .append) (xs := #[.tmp 32, .tmp 37]) rfl ?_); at_builtin; refine Kd.R_append k71 (w0 := w) w.heap.size rfl (.tmp 32) (.tmp 37) 40 71 (.agg #[(.int .i64 0), (.string ⟨#[]⟩), (.int .i64 0), (.int .i64 0), (.int .i64 0), (.int .i64 0), (.int .i64 0), (.int .i64 0), (.int .i64 0)]) 80 rfl Try.underlying40 info71 rfl (by decide) (by omega) u7 x7_1 (⟨(rd_T71 l0 x8_1).f0, (rd_T71 l0 x8_1).f1, (rd_T71 l0 x8_1).f2, (rd_T71 l0 x8_1).f3, (rd_T71 l0 x8_1).f4, (rd_T71 l0 x8_1).f5, (rd_T71 l0 x8_1).f6, (rd_T71 l0 x8_1).f7, (rd_T71 l0 x8_1).f8⟩ : S71) [.int .i64 ((rd_T71 l0 x8_1).f0), .string ((rd_T71 l0 x8_1).f1), .int .i64 ((rd_T71 l0 x8_1).f2), .int .i64 ((rd_T71 l0 x8_1).f3), .int .i64 ((rd_T71 l0 x8_1).f4), .int .i64 ((rd_T71 l0 x8_1).f5), .int .i64 ((rd_T71 l0 x8_1).f6), .int .i64 ((rd_T71 l0 x8_1).f7), .int .i64 ((rd_T71 l0 x8_1).f8)] (fun _ => True) (fun _ => False) rfl rfl ?aP (fun _ hk => hk.elim) ?aF ?aO ?aB ?aS ?aL ?_; (case aP => exact k71_mkM _ _ _ (⟨(rd_T71 l0 x8_1).f0, (rd_T71 l0 x8_1).f1, (rd_T71 l0 x8_1).f2, (rd_T71 l0 x8_1).f3, (rd_T71 l0 x8_1).f4, (rd_T71 l0 x8_1).f5, (rd_T71 l0 x8_1).f6, (rd_T71 l0 x8_1).f7, (rd_T71 l0 x8_1).f8⟩ : S71)); (case aB => exact (by repeat (first | (with_reducible first | exact HB.out | apply below_alloc | apply pw_below_drewN | apply below_drew1) | exact HB.out))); (case aF => exact (fun _ _ => trivial)); (case aO => exact (by (with_reducible repeat (first | apply Kd.R_alloc | apply Kd.R_drewN | apply Kd.R_drew)); exact HO_7.out)); (case aS => exact (below_size (by repeat (first | (with_reducible first | exact HB.out | apply below_alloc | apply pw_below_drewN | apply below_drew1) | exact HB.out)))); (case aL => have := LMc10.out; omega); intro v839 w11 ho hb hg hat; rw [← Ny838.out] at ho; have n0_ := Aside0.mk (hb); have n1_ := Aside0.mk (ho); clear HB; clear HO_7; have HB := n0_; have HO840 := n1_; clear n0_ n1_; clear ho hb hg hat))
                go_roundg k1
                case measure => have := HK1.out; omega
                case rel => exact ⟨(y838), (wrap64 (x8_1 + 1)), (by first | rfl | (simp; done) | (simp [*]; done) | (simp [ne_nil_b]; done) | (simp [ne_nil_b, *]; done)), H', ⟨by have := HK1.out; omega⟩, ⟨by (with_reducible repeat (first | apply Kd.R_alloc | apply Kd.R_drewN | apply Kd.R_drew)); exact HO840.out⟩, ⟨by repeat (first | (with_reducible first | exact HB.out | apply below_alloc | apply pw_below_drewN | apply below_drew1) | exact HB.out)⟩⟩
              · rw [if_neg c10] at H
                exact absurd H (by simp)
          · rw [if_neg c8] at H
            have c8b0 : decide (a1 < ((rd_T71 l0 x8_1).f7)) = false := decide_eq_false c8
            clear c8
            have H' := Aside0.mk H
            clear H
            have p835 : 0 ≤ (x8_1 : Int) := of_decide_eq_true (by first | (with_reducible assumption) | assumption)
            have q835 : x8_1 < (l0.length : Int) := of_decide_eq_true (by first | (with_reducible assumption) | assumption)
            obtain ⟨ad835, e835, hx835_0, hx835_1, hx835_2, hx835_3, hx835_4, hx835_5, hx835_6, hx835_7, hx835_8⟩ := at_T71 HR0.out x8_1 p835 q835
            cases e835
            replace hx835_0 := (HB.out.cell (World.block_lt_of_cell? w _ hx835_0)).trans hx835_0
            replace hx835_1 := (HB.out.cell (World.block_lt_of_cell? w _ hx835_1)).trans hx835_1
            replace hx835_2 := (HB.out.cell (World.block_lt_of_cell? w _ hx835_2)).trans hx835_2
            replace hx835_3 := (HB.out.cell (World.block_lt_of_cell? w _ hx835_3)).trans hx835_3
            replace hx835_4 := (HB.out.cell (World.block_lt_of_cell? w _ hx835_4)).trans hx835_4
            replace hx835_5 := (HB.out.cell (World.block_lt_of_cell? w _ hx835_5)).trans hx835_5
            replace hx835_6 := (HB.out.cell (World.block_lt_of_cell? w _ hx835_6)).trans hx835_6
            replace hx835_7 := (HB.out.cell (World.block_lt_of_cell? w _ hx835_7)).trans hx835_7
            replace hx835_8 := (HB.out.cell (World.block_lt_of_cell? w _ hx835_8)).trans hx835_8
            replace p835 := eq_true p835
            replace q835 := eq_true q835
            go_wp2
            go_roundg k1
            case measure => have := HK1.out; omega
            case rel => exact ⟨(x7_1), (wrap64 (x8_1 + 1)), (by first | rfl | (simp; done) | (simp [*]; done) | (simp [ne_nil_b]; done) | (simp [ne_nil_b, *]; done)), H', ⟨by have := HK1.out; omega⟩, ⟨by (with_reducible repeat (first | apply Kd.R_alloc | apply Kd.R_drewN | apply Kd.R_drew)); exact HO_7.out⟩, ⟨by repeat (first | (with_reducible first | exact HB.out | apply below_alloc | apply pw_below_drewN | apply below_drew1) | exact HB.out)⟩⟩
        · rw [if_neg c7] at H
          exact absurd H (by simp)
      · rw [if_neg c6] at H
        have c6b0 : decide (x8_1 < (l0.length : Int)) = false := decide_eq_false c6
        clear c6
        obtain rfl := Option.some.inj H
        go_wp2
        go_ret
        exact ⟨_, by first | rfl | (simp [errW_none, errW_some] <;> rfl) | (simp [*, errW_none, errW_some] <;> rfl), by (with_reducible repeat (first | apply Kd.R_alloc | apply Kd.R_drewN | apply Kd.R_drew)); exact HO_7.out, by repeat (first | (with_reducible first | exact HB.out | apply below_alloc | apply pw_below_drewN | apply below_drew1) | exact HB.out)⟩
end
section
/-! ### spec_FlowsDrop: function 49 -/
def spec_FlowsDrop.f (k : Nat) (l0 : List (S71)) (a1 : Int) : Option ((List (S71)) × Int) := if (l0.length : Int) > 4096 then (some ((([] : List (S71))), 2)) else ((spec_FlowsOK.f k l0).bind fun t920 => (if t920 = true then ((spec_l01In.f a1 0 10000).bind fun t924 => (if t924 = true then ((spec_l09Keep.f k l0 (-1) a1).bind fun t925 => (some (t925, 0))) else (some ((([] : List (S71))), 4)))) else (some ((([] : List (S71))), 1))))
theorem spec_FlowsDrop.mono : ∀ a0 a1 k, LeO (spec_FlowsDrop.f k a0 a1) (spec_FlowsDrop.f (k + 1) a0 a1) := by
  intro a0 a1 k
  unfold spec_FlowsDrop.f
  repeat' first
      | (with_reducible exact spec_FlowsOK.mono ..)
      | (with_reducible exact spec_l09Keep.mono ..)
      | (with_reducible exact LeO.refl _)
      | (with_reducible exact LeO.none _)
      | (with_reducible refine LeO.ite ?_ ?_)
      | (with_reducible refine LeO.bind ?_ (fun _ => ?_))
      | exact spec_FlowsOK.mono ..
      | exact spec_l09Keep.mono ..
      | exact LeO.none _
      | refine LeO.ite ?_ ?_
      | refine LeO.bind ?_ (fun _ => ?_)
set_option maxHeartbeats 8000000 in
set_option maxRecDepth 100000 in
theorem spec_FlowsDrop.calls (k : Nat) (A0 : Option Addr) (c0 : Nat) (l0 : List (S71)) (a1 : Int) (r1 : List (S71)) (r2 : Int) (w : World) (hr0 : Kd.C k71 w A0 l0.length l0) (hc0 : l0.length ≤ c0) (h : spec_FlowsDrop.f k l0 a1 = some (r1, r2)) :
    Calls Try.prog 49 #[.slice A0 l0.length c0, .int .i64 a1] w fun e w' => ∃ v0_ : Value, e = .returned (.tuple #[v0_, .int .i64 r2]) ∧ Kd.R k71 71 w' w.heap.size (fun _ => True) v0_ r1 ∧ Below w.heap.size w w' := by
  have HR0 := Aside0.mk hr0
  have HC0 := Aside0.mk hc0
  clear hr0 hc0
  have HB := Aside0.mk (Below.refl w.heap.size w)
  have H : (if (l0.length : Int) > 4096 then (some ((([] : List (S71))), 2)) else ((spec_FlowsOK.f k l0).bind fun t920 => (if t920 = true then ((spec_l01In.f a1 0 10000).bind fun t924 => (if t924 = true then ((spec_l09Keep.f k l0 (-1) a1).bind fun t925 => (some (t925, 0))) else (some ((([] : List (S71))), 4)))) else (some ((([] : List (S71))), 1))))) = some (r1, r2) := h
  clear h
  by_cases c3 : (l0.length : Int) > 4096
  · rw [if_pos c3] at H
    have c3b0 : decide (4096 < (l0.length : Int)) = true := decide_eq_true c3
    have c3b1 : decide (4096 < l0.length) = true := decide_eq_true (by omega)
    clear c3
    obtain ⟨y917, hy917⟩ : ∃ y_ : List (S71), y_ = (([] : List (S71))) := ⟨_, rfl⟩
    replace H : (some (y917, 2)) = some (r1, r2) := by first | (rw [hy917]; with_reducible exact H) | (have H2_ := (Option.bind_some _ _).symm.trans H; rw [hy917]; with_reducible exact H2_) | (have H2_ := (Option.bind_some _ _).symm.trans H; with_reducible exact H2_) | with_reducible exact H | (rw [hy917]; exact H) | exact H
    have Ny917 := Aside0.mk hy917
    clear hy917
    simp only [Option.some.injEq, Prod.mk.injEq] at H
    obtain ⟨rfl, rfl⟩ := H
    go_enter Try.func49, Try.ntmps49
    go_wp2_with (first | ((with_reducible refine gate_dst (N := 9) rfl ?_); refine Kd.R_lit k71 _ 71 ?hg (N := 9) ?hd (xs := ([] : List (S71))) (inner := []) (ok := fun _ => True) (okp := fun _ => True) ?hr ?hp (fun _ hk => hk) trivial (Below.refl _ _) (Nat.le_refl _) (by simp) ?_; (case hd => rfl); (case hg => rfl); (case hr => first | (go_simp; done) | (go_simp; rfl)); (case hp => exact (Reps.none _ _)); intro v918 w4 ho5 hb hg_ hnew_; clear hg_ hnew_; (first | rw [← Ny917.out] at ho5 | (simp only [Int.reduceToNat] at ho5; rw [← Ny917.out] at ho5)); have n0_ := Aside0.mk (Kd.R_lower ho5 (below_size (by repeat (first | (with_reducible first | exact HB.out | apply below_alloc | apply pw_below_drewN | apply below_drew1) | exact HB.out)))); have n1_ := Aside0.mk (below_step (by repeat (first | (with_reducible first | exact HB.out | apply below_alloc | apply pw_below_drewN | apply below_drew1) | exact HB.out)) hb); clear HB; have HO919 := n0_; have HB := n1_; clear n0_ n1_; clear hb ho5))
    go_ret2
    exact ⟨_, by first | rfl | (simp [errW_none, errW_some] <;> rfl) | (simp [*, errW_none, errW_some] <;> rfl), by (with_reducible repeat (first | apply Kd.R_alloc | apply Kd.R_drewN | apply Kd.R_drew)); exact HO919.out, by repeat (first | (with_reducible first | exact HB.out | apply below_alloc | apply pw_below_drewN | apply below_drew1) | exact HB.out)⟩
  · rw [if_neg c3] at H
    have c3b0 : decide (4096 < (l0.length : Int)) = false := decide_eq_false c3
    have c3b1 : decide (4096 < l0.length) = false := decide_eq_false (by omega)
    clear c3
    replace H := Option.bind_eq_some_iff.mp H
    obtain ⟨t920, A60, H⟩ := H
    replace H : (if t920 = true then ((spec_l01In.f a1 0 10000).bind fun t924 => (if t924 = true then ((spec_l09Keep.f k l0 (-1) a1).bind fun t925 => (some (t925, 0))) else (some ((([] : List (S71))), 4)))) else (some ((([] : List (S71))), 1))) = some (r1, r2) := H
    have A6 := Aside0.mk A60
    clear A60
    by_cases c7 : t920 = true
    · subst c7
      have H1 : ((spec_l01In.f a1 0 10000).bind fun t924 => (if t924 = true then ((spec_l09Keep.f k l0 (-1) a1).bind fun t925 => (some (t925, 0))) else (some ((([] : List (S71))), 4)))) = some (r1, r2) := by rw [if_pos rfl] at H; exact H
      clear H
      have H := H1
      clear H1
      replace H := Option.bind_eq_some_iff.mp H
      obtain ⟨t924, A80, H⟩ := H
      replace H : (if t924 = true then ((spec_l09Keep.f k l0 (-1) a1).bind fun t925 => (some (t925, 0))) else (some ((([] : List (S71))), 4))) = some (r1, r2) := H
      have A8 := Aside0.mk A80
      clear A80
      by_cases c9 : t924 = true
      · subst c9
        have H1 : ((spec_l09Keep.f k l0 (-1) a1).bind fun t925 => (some (t925, 0))) = some (r1, r2) := by rw [if_pos rfl] at H; exact H
        clear H
        have H := H1
        clear H1
        replace H := Option.bind_eq_some_iff.mp H
        obtain ⟨t925, A100, H⟩ := H
        replace H : (some (t925, 0)) = some (r1, r2) := H
        have A10 := Aside0.mk A100
        clear A100
        simp only [Option.some.injEq, Prod.mk.injEq] at H
        obtain ⟨rfl, rfl⟩ := H
        go_enter Try.func49, Try.ntmps49
        go_wp2_with (first | ((with_reducible refine gate_callee (f := 27) rfl ?_); refine goesL_ (some 11) rfl rfl Try.func27 (by kernel_rfl) rfl #[.slice A0 l0.length c0] rfl (by (try simp only [List.map_toArray, List.map_cons, List.map_nil]); first | done | rfl | (simp only [List.length_drop, List.length_take]; rfl)) ?_; (with_reducible refine (spec_FlowsOK.calls k _ _ l0 true _ ?side1 ?side2 A6.out).mono ?_); (case side1 => repeat (first | exact HR0.out | (with_reducible refine Kd.C_alloc ?_ _) | (with_reducible refine Kd.C_drewN ?_ _) | (with_reducible refine Kd.C_drew ?_))); (case side2 => exact HC0.out); rintro e w11 ⟨rfl, hb⟩; refine ⟨_, rfl, ?_⟩; have n0_ := Aside0.mk (below_step (by repeat (first | (with_reducible first | exact HB.out | apply below_alloc | apply pw_below_drewN | apply below_drew1) | exact HB.out)) hb); clear HB; have HB := n0_; clear n0_; (try clear hb); (try clear hb2); (try clear hk); (try clear hi)) | ((with_reducible refine gate_callee (f := 64) rfl ?_); refine goesL_ (some 15) rfl rfl Try.func64 (by kernel_rfl) rfl #[.int .i64 a1, .int .i64 0, .int .i64 10000] rfl (by (try simp only [List.map_toArray, List.map_cons, List.map_nil]); first | done | rfl | (simp only [List.length_drop, List.length_take]; rfl)) ?_; (with_reducible refine (spec_l01In.calls a1 0 10000 true _ A8.out).mono ?_); rintro e w' ⟨rfl, ⟨nd, rfl⟩⟩; refine ⟨_, rfl, ?_⟩) | ((with_reducible refine gate_callee (f := 94) rfl ?_); refine goesL_ (some 20) rfl rfl Try.func94 (by kernel_rfl) rfl #[.slice A0 l0.length c0, .int .i64 (-1), .int .i64 a1] rfl (by (try simp only [List.map_toArray, List.map_cons, List.map_nil]); first | done | rfl | (simp only [List.length_drop, List.length_take]; rfl)) ?_; (with_reducible refine (spec_l09Keep.calls k _ _ l0 (-1) a1 t925 _ ?side1 ?side2 A10.out).mono ?_); (case side1 => repeat (first | exact (Kd.C_below HR0.out (by repeat (first | (with_reducible first | exact HB.out | apply below_alloc | apply pw_below_drewN | apply below_drew1) | exact HB.out))) | (with_reducible refine Kd.C_alloc ?_ _) | (with_reducible refine Kd.C_drewN ?_ _) | (with_reducible refine Kd.C_drew ?_))); (case side2 => exact HC0.out); rintro e w12 ⟨v926, rfl, ho0, hb⟩; refine ⟨_, rfl, ?_⟩; have n0_ := Aside0.mk (Kd.R_lower ho0 (below_size (by repeat (first | (with_reducible first | exact HB.out | apply below_alloc | apply pw_below_drewN | apply below_drew1) | exact HB.out)))); have n1_ := Aside0.mk (below_step (by repeat (first | (with_reducible first | exact HB.out | apply below_alloc | apply pw_below_drewN | apply below_drew1) | exact HB.out)) hb); clear HB; have HO927 := n0_; have HB := n1_; clear n0_ n1_; (try clear hb); (try clear hb2); (try clear hk); (try clear hi); (try clear ho0)))
        go_ret2
        exact ⟨_, by first | rfl | (simp [errW_none, errW_some] <;> rfl) | (simp [*, errW_none, errW_some] <;> rfl), by (with_reducible repeat (first | apply Kd.R_alloc | apply Kd.R_drewN | apply Kd.R_drew)); exact HO927.out, by repeat (first | (with_reducible first | exact HB.out | apply below_alloc | apply pw_below_drewN | apply below_drew1) | exact HB.out)⟩
      · replace c9 := Bool.eq_false_iff.mpr c9
        subst c9
        have H1 : (some ((([] : List (S71))), 4)) = some (r1, r2) := by rw [if_neg (show ¬ (false = true) by decide)] at H; exact H
        clear H
        have H := H1
        clear H1
        obtain ⟨y928, hy928⟩ : ∃ y_ : List (S71), y_ = (([] : List (S71))) := ⟨_, rfl⟩
        replace H : (some (y928, 4)) = some (r1, r2) := by first | (rw [hy928]; with_reducible exact H) | (have H2_ := (Option.bind_some _ _).symm.trans H; rw [hy928]; with_reducible exact H2_) | (have H2_ := (Option.bind_some _ _).symm.trans H; with_reducible exact H2_) | with_reducible exact H | (rw [hy928]; exact H) | exact H
        have Ny928 := Aside0.mk hy928
        clear hy928
        simp only [Option.some.injEq, Prod.mk.injEq] at H
        obtain ⟨rfl, rfl⟩ := H
        go_enter Try.func49, Try.ntmps49
        go_wp2_with (first | ((with_reducible refine gate_callee (f := 27) rfl ?_); refine goesL_ (some 11) rfl rfl Try.func27 (by kernel_rfl) rfl #[.slice A0 l0.length c0] rfl (by (try simp only [List.map_toArray, List.map_cons, List.map_nil]); first | done | rfl | (simp only [List.length_drop, List.length_take]; rfl)) ?_; (with_reducible refine (spec_FlowsOK.calls k _ _ l0 true _ ?side1 ?side2 A6.out).mono ?_); (case side1 => repeat (first | exact HR0.out | (with_reducible refine Kd.C_alloc ?_ _) | (with_reducible refine Kd.C_drewN ?_ _) | (with_reducible refine Kd.C_drew ?_))); (case side2 => exact HC0.out); rintro e w13 ⟨rfl, hb⟩; refine ⟨_, rfl, ?_⟩; have n0_ := Aside0.mk (below_step (by repeat (first | (with_reducible first | exact HB.out | apply below_alloc | apply pw_below_drewN | apply below_drew1) | exact HB.out)) hb); clear HB; have HB := n0_; clear n0_; (try clear hb); (try clear hb2); (try clear hk); (try clear hi)) | ((with_reducible refine gate_callee (f := 64) rfl ?_); refine goesL_ (some 15) rfl rfl Try.func64 (by kernel_rfl) rfl #[.int .i64 a1, .int .i64 0, .int .i64 10000] rfl (by (try simp only [List.map_toArray, List.map_cons, List.map_nil]); first | done | rfl | (simp only [List.length_drop, List.length_take]; rfl)) ?_; (with_reducible refine (spec_l01In.calls a1 0 10000 false _ A8.out).mono ?_); rintro e w' ⟨rfl, ⟨nd, rfl⟩⟩; refine ⟨_, rfl, ?_⟩) | ((with_reducible refine gate_dst (N := 17) rfl ?_); refine Kd.R_lit k71 _ 71 ?hg (N := 17) ?hd (xs := ([] : List (S71))) (inner := []) (ok := fun _ => True) (okp := fun _ => True) ?hr ?hp (fun _ hk => hk) trivial (Below.refl _ _) (Nat.le_refl _) (by simp) ?_; (case hd => rfl); (case hg => rfl); (case hr => first | (go_simp; done) | (go_simp; rfl)); (case hp => exact (Reps.none _ _)); intro v929 w14 ho15 hb hg_ hnew_; clear hg_ hnew_; (first | rw [← Ny928.out] at ho15 | (simp only [Int.reduceToNat] at ho15; rw [← Ny928.out] at ho15)); have n0_ := Aside0.mk (Kd.R_lower ho15 (below_size (by repeat (first | (with_reducible first | exact HB.out | apply below_alloc | apply pw_below_drewN | apply below_drew1) | exact HB.out)))); have n1_ := Aside0.mk (below_step (by repeat (first | (with_reducible first | exact HB.out | apply below_alloc | apply pw_below_drewN | apply below_drew1) | exact HB.out)) hb); clear HB; have HO930 := n0_; have HB := n1_; clear n0_ n1_; clear hb ho15))
        go_ret2
        exact ⟨_, by first | rfl | (simp [errW_none, errW_some] <;> rfl) | (simp [*, errW_none, errW_some] <;> rfl), by (with_reducible repeat (first | apply Kd.R_alloc | apply Kd.R_drewN | apply Kd.R_drew)); exact HO930.out, by repeat (first | (with_reducible first | exact HB.out | apply below_alloc | apply pw_below_drewN | apply below_drew1) | exact HB.out)⟩
    · replace c7 := Bool.eq_false_iff.mpr c7
      subst c7
      have H1 : (some ((([] : List (S71))), 1)) = some (r1, r2) := by rw [if_neg (show ¬ (false = true) by decide)] at H; exact H
      clear H
      have H := H1
      clear H1
      obtain ⟨y921, hy921⟩ : ∃ y_ : List (S71), y_ = (([] : List (S71))) := ⟨_, rfl⟩
      replace H : (some (y921, 1)) = some (r1, r2) := by first | (rw [hy921]; with_reducible exact H) | (have H2_ := (Option.bind_some _ _).symm.trans H; rw [hy921]; with_reducible exact H2_) | (have H2_ := (Option.bind_some _ _).symm.trans H; with_reducible exact H2_) | with_reducible exact H | (rw [hy921]; exact H) | exact H
      have Ny921 := Aside0.mk hy921
      clear hy921
      simp only [Option.some.injEq, Prod.mk.injEq] at H
      obtain ⟨rfl, rfl⟩ := H
      go_enter Try.func49, Try.ntmps49
      go_wp2_with (first | ((with_reducible refine gate_callee (f := 27) rfl ?_); refine goesL_ (some 11) rfl rfl Try.func27 (by kernel_rfl) rfl #[.slice A0 l0.length c0] rfl (by (try simp only [List.map_toArray, List.map_cons, List.map_nil]); first | done | rfl | (simp only [List.length_drop, List.length_take]; rfl)) ?_; (with_reducible refine (spec_FlowsOK.calls k _ _ l0 false _ ?side1 ?side2 A6.out).mono ?_); (case side1 => repeat (first | exact HR0.out | (with_reducible refine Kd.C_alloc ?_ _) | (with_reducible refine Kd.C_drewN ?_ _) | (with_reducible refine Kd.C_drew ?_))); (case side2 => exact HC0.out); rintro e w16 ⟨rfl, hb⟩; refine ⟨_, rfl, ?_⟩; have n0_ := Aside0.mk (below_step (by repeat (first | (with_reducible first | exact HB.out | apply below_alloc | apply pw_below_drewN | apply below_drew1) | exact HB.out)) hb); clear HB; have HB := n0_; clear n0_; (try clear hb); (try clear hb2); (try clear hk); (try clear hi)) | ((with_reducible refine gate_dst (N := 13) rfl ?_); refine Kd.R_lit k71 _ 71 ?hg (N := 13) ?hd (xs := ([] : List (S71))) (inner := []) (ok := fun _ => True) (okp := fun _ => True) ?hr ?hp (fun _ hk => hk) trivial (Below.refl _ _) (Nat.le_refl _) (by simp) ?_; (case hd => rfl); (case hg => rfl); (case hr => first | (go_simp; done) | (go_simp; rfl)); (case hp => exact (Reps.none _ _)); intro v922 w17 ho18 hb hg_ hnew_; clear hg_ hnew_; (first | rw [← Ny921.out] at ho18 | (simp only [Int.reduceToNat] at ho18; rw [← Ny921.out] at ho18)); have n0_ := Aside0.mk (Kd.R_lower ho18 (below_size (by repeat (first | (with_reducible first | exact HB.out | apply below_alloc | apply pw_below_drewN | apply below_drew1) | exact HB.out)))); have n1_ := Aside0.mk (below_step (by repeat (first | (with_reducible first | exact HB.out | apply below_alloc | apply pw_below_drewN | apply below_drew1) | exact HB.out)) hb); clear HB; have HO923 := n0_; have HB := n1_; clear n0_ n1_; clear hb ho18))
      go_ret2
      exact ⟨_, by first | rfl | (simp [errW_none, errW_some] <;> rfl) | (simp [*, errW_none, errW_some] <;> rfl), by (with_reducible repeat (first | apply Kd.R_alloc | apply Kd.R_drewN | apply Kd.R_drew)); exact HO923.out, by repeat (first | (with_reducible first | exact HB.out | apply below_alloc | apply pw_below_drewN | apply below_drew1) | exact HB.out)⟩
end
section
/-! ### impl_within: function 62 -/
def impl_within.f (a0 : Int) (a1 : Int) (a2 : Int) : Option (Bool) := if a0 ≥ a1 then (some (decide (a0 ≤ a2))) else (some false)
set_option maxHeartbeats 8000000 in
set_option maxRecDepth 100000 in
theorem impl_within.calls (a0 : Int) (a1 : Int) (a2 : Int) (r : Bool) (w : World) (h : impl_within.f a0 a1 a2 = some r) :
    Calls Try.prog 62 #[.int .i64 a0, .int .i64 a1, .int .i64 a2] w fun e w' => e = .returned (.bool r) ∧ Drawn0 w w' := by
  have H : (if a0 ≥ a1 then (some (decide (a0 ≤ a2))) else (some false)) = some r := h
  clear h
  by_cases c4 : a0 ≥ a1
  · rw [if_pos c4] at H
    have c4b0 : decide (a1 ≤ a0) = true := decide_eq_true c4
    clear c4
    obtain rfl := Option.some.inj H
    go_enter Try.func62, Try.ntmps62
    go_wp2
    go_ret
    exact ⟨by first | rfl | (simp; done) | (simp [*]; done) | (simp [ne_nil_b]; done) | (simp [ne_nil_b, *]; done), by repeat (first | exact Drawn0.refl _ | apply Drawn0.step)⟩
  · rw [if_neg c4] at H
    have c4b0 : decide (a1 ≤ a0) = false := decide_eq_false c4
    clear c4
    obtain rfl := Option.some.inj H
    go_enter Try.func62, Try.ntmps62
    go_wp2
    go_ret
    exact ⟨by first | rfl | (simp; done) | (simp [*]; done) | (simp [ne_nil_b]; done) | (simp [ne_nil_b, *]; done), by repeat (first | exact Drawn0.refl _ | apply Drawn0.step)⟩
end
section
/-! ### impl_isAddress: function 61 -/
def impl_isAddress.f (a0 : Int) : Option (Bool) := (impl_within.f a0 0 4294967295).bind fun t106 => (some t106)
set_option maxHeartbeats 8000000 in
set_option maxRecDepth 100000 in
theorem impl_isAddress.calls (a0 : Int) (r : Bool) (w : World) (h : impl_isAddress.f a0 = some r) :
    Calls Try.prog 61 #[.int .i64 a0] w fun e w' => e = .returned (.bool r) ∧ Drawn0 w w' := by
  have H : ((impl_within.f a0 0 4294967295).bind fun t106 => (some t106)) = some r := h
  clear h
  replace H := Option.bind_eq_some_iff.mp H
  obtain ⟨t106, A20, H⟩ := H
  replace H : (some t106) = some r := H
  have A2 := Aside0.mk A20
  clear A20
  obtain rfl := Option.some.inj H
  go_enter Try.func61, Try.ntmps61
  go_wp2_with (first | ((with_reducible refine gate_callee (f := 62) rfl ?_); refine goesL_ (some 4) rfl rfl Try.func62 (by kernel_rfl) rfl #[.int .i64 a0, .int .i64 0, .int .i64 4294967295] rfl (by (try simp only [List.map_toArray, List.map_cons, List.map_nil]); first | done | rfl | (simp only [List.length_drop, List.length_take]; rfl)) ?_; (with_reducible refine (impl_within.calls a0 0 4294967295 t106 _ A2.out).mono ?_); rintro e w' ⟨rfl, ⟨nd, rfl⟩⟩; refine ⟨_, rfl, ?_⟩))
  go_ret
  exact ⟨by first | rfl | (simp; done) | (simp [*]; done) | (simp [ne_nil_b]; done) | (simp [ne_nil_b, *]; done), by repeat (first | exact Drawn0.refl _ | apply Drawn0.step)⟩
end
section
/-! ### impl_isProto: function 66 -/
def impl_isProto.f (a0 : Int) : Option (Bool) := (impl_within.f a0 0 255).bind fun t137 => (some t137)
set_option maxHeartbeats 8000000 in
set_option maxRecDepth 100000 in
theorem impl_isProto.calls (a0 : Int) (r : Bool) (w : World) (h : impl_isProto.f a0 = some r) :
    Calls Try.prog 66 #[.int .i64 a0] w fun e w' => e = .returned (.bool r) ∧ Drawn0 w w' := by
  have H : ((impl_within.f a0 0 255).bind fun t137 => (some t137)) = some r := h
  clear h
  replace H := Option.bind_eq_some_iff.mp H
  obtain ⟨t137, A20, H⟩ := H
  replace H : (some t137) = some r := H
  have A2 := Aside0.mk A20
  clear A20
  obtain rfl := Option.some.inj H
  go_enter Try.func66, Try.ntmps66
  go_wp2_with (first | ((with_reducible refine gate_callee (f := 62) rfl ?_); refine goesL_ (some 4) rfl rfl Try.func62 (by kernel_rfl) rfl #[.int .i64 a0, .int .i64 0, .int .i64 255] rfl (by (try simp only [List.map_toArray, List.map_cons, List.map_nil]); first | done | rfl | (simp only [List.length_drop, List.length_take]; rfl)) ?_; (with_reducible refine (impl_within.calls a0 0 255 t137 _ A2.out).mono ?_); rintro e w' ⟨rfl, ⟨nd, rfl⟩⟩; refine ⟨_, rfl, ?_⟩))
  go_ret
  exact ⟨by first | rfl | (simp; done) | (simp [*]; done) | (simp [ne_nil_b]; done) | (simp [ne_nil_b, *]; done), by repeat (first | exact Drawn0.refl _ | apply Drawn0.step)⟩
end
section
/-! ### impl_macOK: function 72 -/
def impl_macOK.f (a0 : ByteArray) : Option (Bool) := some ((a0.size : Int) == 6)
set_option maxHeartbeats 8000000 in
set_option maxRecDepth 100000 in
theorem impl_macOK.calls (a0 : ByteArray) (r : Bool) (w : World) (h : impl_macOK.f a0 = some r) :
    Calls Try.prog 72 #[.string a0] w fun e w' => e = .returned (.bool r) ∧ Drawn0 w w' := by
  have H : (some ((a0.size : Int) == 6)) = some r := h
  clear h
  obtain rfl := Option.some.inj H
  go_enter Try.func72, Try.ntmps72
  go_wp2
  go_ret
  exact ⟨by first | rfl | (simp; done) | (simp [*]; done) | (simp [ne_nil_b]; done) | (simp [ne_nil_b, *]; done), by repeat (first | exact Drawn0.refl _ | apply Drawn0.step)⟩
end
section
/-! ### impl_isPort: function 73 -/
def impl_isPort.f (a0 : Int) : Option (Bool) := (impl_within.f a0 0 65535).bind fun t165 => (some t165)
set_option maxHeartbeats 8000000 in
set_option maxRecDepth 100000 in
theorem impl_isPort.calls (a0 : Int) (r : Bool) (w : World) (h : impl_isPort.f a0 = some r) :
    Calls Try.prog 73 #[.int .i64 a0] w fun e w' => e = .returned (.bool r) ∧ Drawn0 w w' := by
  have H : ((impl_within.f a0 0 65535).bind fun t165 => (some t165)) = some r := h
  clear h
  replace H := Option.bind_eq_some_iff.mp H
  obtain ⟨t165, A20, H⟩ := H
  replace H : (some t165) = some r := H
  have A2 := Aside0.mk A20
  clear A20
  obtain rfl := Option.some.inj H
  go_enter Try.func73, Try.ntmps73
  go_wp2_with (first | ((with_reducible refine gate_callee (f := 62) rfl ?_); refine goesL_ (some 4) rfl rfl Try.func62 (by kernel_rfl) rfl #[.int .i64 a0, .int .i64 0, .int .i64 65535] rfl (by (try simp only [List.map_toArray, List.map_cons, List.map_nil]); first | done | rfl | (simp only [List.length_drop, List.length_take]; rfl)) ?_; (with_reducible refine (impl_within.calls a0 0 65535 t165 _ A2.out).mono ?_); rintro e w' ⟨rfl, ⟨nd, rfl⟩⟩; refine ⟨_, rfl, ?_⟩))
  go_ret
  exact ⟨by first | rfl | (simp; done) | (simp [*]; done) | (simp [ne_nil_b]; done) | (simp [ne_nil_b, *]; done), by repeat (first | exact Drawn0.refl _ | apply Drawn0.step)⟩
end
section
/-! ### impl_Flow_endsOKAt: function 1077 -/
def impl_Flow_endsOKAt.f (a0_0 : Int) (a0_1 : ByteArray) (a0_2 : Int) (a0_3 : Int) (a0_4 : Int) (a0_5 : Int) (a0_6 : Int) (a0_7 : Int) (a0_8 : Int) : Option (Bool) := (impl_isProto.f a0_0).bind fun t249 => (if t249 = true then ((impl_macOK.f a0_1).bind fun t250 => (if t250 = true then ((impl_isAddress.f a0_2).bind fun t251 => (if t251 = true then ((impl_isAddress.f a0_4).bind fun t252 => (if t252 = true then ((impl_isPort.f a0_3).bind fun t253 => (if t253 = true then ((impl_isPort.f a0_5).bind fun t254 => (if t254 = true then ((impl_within.f a0_8 0 10000).bind fun t255 => (some t255)) else (some false))) else (some false))) else (some false))) else (some false))) else (some false))) else (some false))
set_option maxHeartbeats 8000000 in
set_option maxRecDepth 100000 in
theorem impl_Flow_endsOKAt.calls0 (A_ : Addr) (n_ : Nat) (a0_0 : Int) (a0_1 : ByteArray) (a0_2 : Int) (a0_3 : Int) (a0_4 : Int) (a0_5 : Int) (a0_6 : Int) (a0_7 : Int) (a0_8 : Int) (r : Bool) (w : World) (hq0 : w.cell? (A_.add n_) = some (.int .i64 a0_0)) (hq1 : w.cell? (⟨(A_.add n_).block, (A_.add n_).off + 1, none⟩) = some (.string a0_1)) (hq2 : w.cell? (⟨(A_.add n_).block, (A_.add n_).off + 2, none⟩) = some (.int .i64 a0_2)) (hq3 : w.cell? (⟨(A_.add n_).block, (A_.add n_).off + 3, none⟩) = some (.int .i64 a0_3)) (hq4 : w.cell? (⟨(A_.add n_).block, (A_.add n_).off + 4, none⟩) = some (.int .i64 a0_4)) (hq5 : w.cell? (⟨(A_.add n_).block, (A_.add n_).off + 5, none⟩) = some (.int .i64 a0_5)) (hq6 : w.cell? (⟨(A_.add n_).block, (A_.add n_).off + 6, none⟩) = some (.int .i64 a0_6)) (hq7 : w.cell? (⟨(A_.add n_).block, (A_.add n_).off + 7, none⟩) = some (.int .i64 a0_7)) (hq8 : w.cell? (⟨(A_.add n_).block, (A_.add n_).off + 8, none⟩) = some (.int .i64 a0_8)) (h : impl_Flow_endsOKAt.f a0_0 a0_1 a0_2 a0_3 a0_4 a0_5 a0_6 a0_7 a0_8 = some r) :
    Calls Try.prog 77 #[.pointer (some (A_.add n_))] w fun e w' => e = .returned (.bool r) ∧ Drawn0 w w' := by
  have HQ0 := Aside0.mk hq0
  clear hq0
  have HQ1 := Aside0.mk hq1
  clear hq1
  have HQ2 := Aside0.mk hq2
  clear hq2
  have HQ3 := Aside0.mk hq3
  clear hq3
  have HQ4 := Aside0.mk hq4
  clear hq4
  have HQ5 := Aside0.mk hq5
  clear hq5
  have HQ6 := Aside0.mk hq6
  clear hq6
  have HQ7 := Aside0.mk hq7
  clear hq7
  have HQ8 := Aside0.mk hq8
  clear hq8
  have H : ((impl_isProto.f a0_0).bind fun t249 => (if t249 = true then ((impl_macOK.f a0_1).bind fun t250 => (if t250 = true then ((impl_isAddress.f a0_2).bind fun t251 => (if t251 = true then ((impl_isAddress.f a0_4).bind fun t252 => (if t252 = true then ((impl_isPort.f a0_3).bind fun t253 => (if t253 = true then ((impl_isPort.f a0_5).bind fun t254 => (if t254 = true then ((impl_within.f a0_8 0 10000).bind fun t255 => (some t255)) else (some false))) else (some false))) else (some false))) else (some false))) else (some false))) else (some false))) = some r := h
  clear h
  replace H := Option.bind_eq_some_iff.mp H
  obtain ⟨t249, A20, H⟩ := H
  replace H : (if t249 = true then ((impl_macOK.f a0_1).bind fun t250 => (if t250 = true then ((impl_isAddress.f a0_2).bind fun t251 => (if t251 = true then ((impl_isAddress.f a0_4).bind fun t252 => (if t252 = true then ((impl_isPort.f a0_3).bind fun t253 => (if t253 = true then ((impl_isPort.f a0_5).bind fun t254 => (if t254 = true then ((impl_within.f a0_8 0 10000).bind fun t255 => (some t255)) else (some false))) else (some false))) else (some false))) else (some false))) else (some false))) else (some false)) = some r := H
  have A2 := Aside0.mk A20
  clear A20
  by_cases c3 : t249 = true
  · subst c3
    have H1 : ((impl_macOK.f a0_1).bind fun t250 => (if t250 = true then ((impl_isAddress.f a0_2).bind fun t251 => (if t251 = true then ((impl_isAddress.f a0_4).bind fun t252 => (if t252 = true then ((impl_isPort.f a0_3).bind fun t253 => (if t253 = true then ((impl_isPort.f a0_5).bind fun t254 => (if t254 = true then ((impl_within.f a0_8 0 10000).bind fun t255 => (some t255)) else (some false))) else (some false))) else (some false))) else (some false))) else (some false))) = some r := by rw [if_pos rfl] at H; exact H
    clear H
    have H := H1
    clear H1
    replace H := Option.bind_eq_some_iff.mp H
    obtain ⟨t250, A40, H⟩ := H
    replace H : (if t250 = true then ((impl_isAddress.f a0_2).bind fun t251 => (if t251 = true then ((impl_isAddress.f a0_4).bind fun t252 => (if t252 = true then ((impl_isPort.f a0_3).bind fun t253 => (if t253 = true then ((impl_isPort.f a0_5).bind fun t254 => (if t254 = true then ((impl_within.f a0_8 0 10000).bind fun t255 => (some t255)) else (some false))) else (some false))) else (some false))) else (some false))) else (some false)) = some r := H
    have A4 := Aside0.mk A40
    clear A40
    by_cases c5 : t250 = true
    · subst c5
      have H1 : ((impl_isAddress.f a0_2).bind fun t251 => (if t251 = true then ((impl_isAddress.f a0_4).bind fun t252 => (if t252 = true then ((impl_isPort.f a0_3).bind fun t253 => (if t253 = true then ((impl_isPort.f a0_5).bind fun t254 => (if t254 = true then ((impl_within.f a0_8 0 10000).bind fun t255 => (some t255)) else (some false))) else (some false))) else (some false))) else (some false))) = some r := by rw [if_pos rfl] at H; exact H
      clear H
      have H := H1
      clear H1
      replace H := Option.bind_eq_some_iff.mp H
      obtain ⟨t251, A60, H⟩ := H
      replace H : (if t251 = true then ((impl_isAddress.f a0_4).bind fun t252 => (if t252 = true then ((impl_isPort.f a0_3).bind fun t253 => (if t253 = true then ((impl_isPort.f a0_5).bind fun t254 => (if t254 = true then ((impl_within.f a0_8 0 10000).bind fun t255 => (some t255)) else (some false))) else (some false))) else (some false))) else (some false)) = some r := H
      have A6 := Aside0.mk A60
      clear A60
      by_cases c7 : t251 = true
      · subst c7
        have H1 : ((impl_isAddress.f a0_4).bind fun t252 => (if t252 = true then ((impl_isPort.f a0_3).bind fun t253 => (if t253 = true then ((impl_isPort.f a0_5).bind fun t254 => (if t254 = true then ((impl_within.f a0_8 0 10000).bind fun t255 => (some t255)) else (some false))) else (some false))) else (some false))) = some r := by rw [if_pos rfl] at H; exact H
        clear H
        have H := H1
        clear H1
        replace H := Option.bind_eq_some_iff.mp H
        obtain ⟨t252, A80, H⟩ := H
        replace H : (if t252 = true then ((impl_isPort.f a0_3).bind fun t253 => (if t253 = true then ((impl_isPort.f a0_5).bind fun t254 => (if t254 = true then ((impl_within.f a0_8 0 10000).bind fun t255 => (some t255)) else (some false))) else (some false))) else (some false)) = some r := H
        have A8 := Aside0.mk A80
        clear A80
        by_cases c9 : t252 = true
        · subst c9
          have H1 : ((impl_isPort.f a0_3).bind fun t253 => (if t253 = true then ((impl_isPort.f a0_5).bind fun t254 => (if t254 = true then ((impl_within.f a0_8 0 10000).bind fun t255 => (some t255)) else (some false))) else (some false))) = some r := by rw [if_pos rfl] at H; exact H
          clear H
          have H := H1
          clear H1
          replace H := Option.bind_eq_some_iff.mp H
          obtain ⟨t253, A100, H⟩ := H
          replace H : (if t253 = true then ((impl_isPort.f a0_5).bind fun t254 => (if t254 = true then ((impl_within.f a0_8 0 10000).bind fun t255 => (some t255)) else (some false))) else (some false)) = some r := H
          have A10 := Aside0.mk A100
          clear A100
          by_cases c11 : t253 = true
          · subst c11
            have H1 : ((impl_isPort.f a0_5).bind fun t254 => (if t254 = true then ((impl_within.f a0_8 0 10000).bind fun t255 => (some t255)) else (some false))) = some r := by rw [if_pos rfl] at H; exact H
            clear H
            have H := H1
            clear H1
            replace H := Option.bind_eq_some_iff.mp H
            obtain ⟨t254, A120, H⟩ := H
            replace H : (if t254 = true then ((impl_within.f a0_8 0 10000).bind fun t255 => (some t255)) else (some false)) = some r := H
            have A12 := Aside0.mk A120
            clear A120
            by_cases c13 : t254 = true
            · subst c13
              have H1 : ((impl_within.f a0_8 0 10000).bind fun t255 => (some t255)) = some r := by rw [if_pos rfl] at H; exact H
              clear H
              have H := H1
              clear H1
              replace H := Option.bind_eq_some_iff.mp H
              obtain ⟨t255, A140, H⟩ := H
              replace H : (some t255) = some r := H
              have A14 := Aside0.mk A140
              clear A140
              obtain rfl := Option.some.inj H
              have hcq0 := HQ0.out
              have hcq1 := HQ1.out
              have hcq2 := HQ2.out
              have hcq3 := HQ3.out
              have hcq4 := HQ4.out
              have hcq5 := HQ5.out
              have hcq6 := HQ6.out
              have hcq7 := HQ7.out
              have hcq8 := HQ8.out
              go_enter Try.func77, Try.ntmps77
              go_wp2_with (first | ((with_reducible refine gate_callee (f := 66) rfl ?_); refine goesL_ (some 8) rfl rfl Try.func66 (by kernel_rfl) rfl #[.int .i64 a0_0] rfl (by (try simp only [List.map_toArray, List.map_cons, List.map_nil]); first | done | rfl | (simp only [List.length_drop, List.length_take]; rfl)) ?_; (with_reducible refine (impl_isProto.calls a0_0 true _ A2.out).mono ?_); rintro e w' ⟨rfl, ⟨nd, rfl⟩⟩; refine ⟨_, rfl, ?_⟩) | (go_at_call 72; (with_reducible refine (impl_macOK.calls a0_1 true _ A4.out).mono ?_); rintro e w' ⟨rfl, ⟨nd, rfl⟩⟩) | (go_at_call 61; (with_reducible refine (impl_isAddress.calls a0_2 true _ A6.out).mono ?_); rintro e w' ⟨rfl, ⟨nd, rfl⟩⟩) | (go_at_call 61; (with_reducible refine (impl_isAddress.calls a0_4 true _ A8.out).mono ?_); rintro e w' ⟨rfl, ⟨nd, rfl⟩⟩) | (go_at_call 73; (with_reducible refine (impl_isPort.calls a0_3 true _ A10.out).mono ?_); rintro e w' ⟨rfl, ⟨nd, rfl⟩⟩) | (go_at_call 73; (with_reducible refine (impl_isPort.calls a0_5 true _ A12.out).mono ?_); rintro e w' ⟨rfl, ⟨nd, rfl⟩⟩) | (go_at_call 62; (with_reducible refine (impl_within.calls a0_8 0 10000 t255 _ A14.out).mono ?_); rintro e w' ⟨rfl, ⟨nd, rfl⟩⟩))
              go_ret
              exact ⟨by first | rfl | (simp; done) | (simp [*]; done) | (simp [ne_nil_b]; done) | (simp [ne_nil_b, *]; done), by repeat (first | exact Drawn0.refl _ | apply Drawn0.step)⟩
            · replace c13 := Bool.eq_false_iff.mpr c13
              subst c13
              have H1 : (some false) = some r := by rw [if_neg (show ¬ (false = true) by decide)] at H; exact H
              clear H
              have H := H1
              clear H1
              obtain rfl := Option.some.inj H
              have hcq0 := HQ0.out
              have hcq1 := HQ1.out
              have hcq2 := HQ2.out
              have hcq3 := HQ3.out
              have hcq4 := HQ4.out
              have hcq5 := HQ5.out
              have hcq6 := HQ6.out
              have hcq7 := HQ7.out
              have hcq8 := HQ8.out
              go_enter Try.func77, Try.ntmps77
              go_wp2_with (first | ((with_reducible refine gate_callee (f := 66) rfl ?_); refine goesL_ (some 8) rfl rfl Try.func66 (by kernel_rfl) rfl #[.int .i64 a0_0] rfl (by (try simp only [List.map_toArray, List.map_cons, List.map_nil]); first | done | rfl | (simp only [List.length_drop, List.length_take]; rfl)) ?_; (with_reducible refine (impl_isProto.calls a0_0 true _ A2.out).mono ?_); rintro e w' ⟨rfl, ⟨nd, rfl⟩⟩; refine ⟨_, rfl, ?_⟩) | (go_at_call 72; (with_reducible refine (impl_macOK.calls a0_1 true _ A4.out).mono ?_); rintro e w' ⟨rfl, ⟨nd, rfl⟩⟩) | (go_at_call 61; (with_reducible refine (impl_isAddress.calls a0_2 true _ A6.out).mono ?_); rintro e w' ⟨rfl, ⟨nd, rfl⟩⟩) | (go_at_call 61; (with_reducible refine (impl_isAddress.calls a0_4 true _ A8.out).mono ?_); rintro e w' ⟨rfl, ⟨nd, rfl⟩⟩) | (go_at_call 73; (with_reducible refine (impl_isPort.calls a0_3 true _ A10.out).mono ?_); rintro e w' ⟨rfl, ⟨nd, rfl⟩⟩) | (go_at_call 73; (with_reducible refine (impl_isPort.calls a0_5 false _ A12.out).mono ?_); rintro e w' ⟨rfl, ⟨nd, rfl⟩⟩))
              go_ret
              exact ⟨by first | rfl | (simp; done) | (simp [*]; done) | (simp [ne_nil_b]; done) | (simp [ne_nil_b, *]; done), by repeat (first | exact Drawn0.refl _ | apply Drawn0.step)⟩
          · replace c11 := Bool.eq_false_iff.mpr c11
            subst c11
            have H1 : (some false) = some r := by rw [if_neg (show ¬ (false = true) by decide)] at H; exact H
            clear H
            have H := H1
            clear H1
            obtain rfl := Option.some.inj H
            have hcq0 := HQ0.out
            have hcq1 := HQ1.out
            have hcq2 := HQ2.out
            have hcq3 := HQ3.out
            have hcq4 := HQ4.out
            have hcq5 := HQ5.out
            have hcq6 := HQ6.out
            have hcq7 := HQ7.out
            have hcq8 := HQ8.out
            go_enter Try.func77, Try.ntmps77
            go_wp2_with (first | ((with_reducible refine gate_callee (f := 66) rfl ?_); refine goesL_ (some 8) rfl rfl Try.func66 (by kernel_rfl) rfl #[.int .i64 a0_0] rfl (by (try simp only [List.map_toArray, List.map_cons, List.map_nil]); first | done | rfl | (simp only [List.length_drop, List.length_take]; rfl)) ?_; (with_reducible refine (impl_isProto.calls a0_0 true _ A2.out).mono ?_); rintro e w' ⟨rfl, ⟨nd, rfl⟩⟩; refine ⟨_, rfl, ?_⟩) | (go_at_call 72; (with_reducible refine (impl_macOK.calls a0_1 true _ A4.out).mono ?_); rintro e w' ⟨rfl, ⟨nd, rfl⟩⟩) | (go_at_call 61; (with_reducible refine (impl_isAddress.calls a0_2 true _ A6.out).mono ?_); rintro e w' ⟨rfl, ⟨nd, rfl⟩⟩) | (go_at_call 61; (with_reducible refine (impl_isAddress.calls a0_4 true _ A8.out).mono ?_); rintro e w' ⟨rfl, ⟨nd, rfl⟩⟩) | (go_at_call 73; (with_reducible refine (impl_isPort.calls a0_3 false _ A10.out).mono ?_); rintro e w' ⟨rfl, ⟨nd, rfl⟩⟩))
            go_ret
            exact ⟨by first | rfl | (simp; done) | (simp [*]; done) | (simp [ne_nil_b]; done) | (simp [ne_nil_b, *]; done), by repeat (first | exact Drawn0.refl _ | apply Drawn0.step)⟩
        · replace c9 := Bool.eq_false_iff.mpr c9
          subst c9
          have H1 : (some false) = some r := by rw [if_neg (show ¬ (false = true) by decide)] at H; exact H
          clear H
          have H := H1
          clear H1
          obtain rfl := Option.some.inj H
          have hcq0 := HQ0.out
          have hcq1 := HQ1.out
          have hcq2 := HQ2.out
          have hcq3 := HQ3.out
          have hcq4 := HQ4.out
          have hcq5 := HQ5.out
          have hcq6 := HQ6.out
          have hcq7 := HQ7.out
          have hcq8 := HQ8.out
          go_enter Try.func77, Try.ntmps77
          go_wp2_with (first | ((with_reducible refine gate_callee (f := 66) rfl ?_); refine goesL_ (some 8) rfl rfl Try.func66 (by kernel_rfl) rfl #[.int .i64 a0_0] rfl (by (try simp only [List.map_toArray, List.map_cons, List.map_nil]); first | done | rfl | (simp only [List.length_drop, List.length_take]; rfl)) ?_; (with_reducible refine (impl_isProto.calls a0_0 true _ A2.out).mono ?_); rintro e w' ⟨rfl, ⟨nd, rfl⟩⟩; refine ⟨_, rfl, ?_⟩) | (go_at_call 72; (with_reducible refine (impl_macOK.calls a0_1 true _ A4.out).mono ?_); rintro e w' ⟨rfl, ⟨nd, rfl⟩⟩) | (go_at_call 61; (with_reducible refine (impl_isAddress.calls a0_2 true _ A6.out).mono ?_); rintro e w' ⟨rfl, ⟨nd, rfl⟩⟩) | (go_at_call 61; (with_reducible refine (impl_isAddress.calls a0_4 false _ A8.out).mono ?_); rintro e w' ⟨rfl, ⟨nd, rfl⟩⟩))
          go_ret
          exact ⟨by first | rfl | (simp; done) | (simp [*]; done) | (simp [ne_nil_b]; done) | (simp [ne_nil_b, *]; done), by repeat (first | exact Drawn0.refl _ | apply Drawn0.step)⟩
      · replace c7 := Bool.eq_false_iff.mpr c7
        subst c7
        have H1 : (some false) = some r := by rw [if_neg (show ¬ (false = true) by decide)] at H; exact H
        clear H
        have H := H1
        clear H1
        obtain rfl := Option.some.inj H
        have hcq0 := HQ0.out
        have hcq1 := HQ1.out
        have hcq2 := HQ2.out
        have hcq3 := HQ3.out
        have hcq4 := HQ4.out
        have hcq5 := HQ5.out
        have hcq6 := HQ6.out
        have hcq7 := HQ7.out
        have hcq8 := HQ8.out
        go_enter Try.func77, Try.ntmps77
        go_wp2_with (first | ((with_reducible refine gate_callee (f := 66) rfl ?_); refine goesL_ (some 8) rfl rfl Try.func66 (by kernel_rfl) rfl #[.int .i64 a0_0] rfl (by (try simp only [List.map_toArray, List.map_cons, List.map_nil]); first | done | rfl | (simp only [List.length_drop, List.length_take]; rfl)) ?_; (with_reducible refine (impl_isProto.calls a0_0 true _ A2.out).mono ?_); rintro e w' ⟨rfl, ⟨nd, rfl⟩⟩; refine ⟨_, rfl, ?_⟩) | (go_at_call 72; (with_reducible refine (impl_macOK.calls a0_1 true _ A4.out).mono ?_); rintro e w' ⟨rfl, ⟨nd, rfl⟩⟩) | (go_at_call 61; (with_reducible refine (impl_isAddress.calls a0_2 false _ A6.out).mono ?_); rintro e w' ⟨rfl, ⟨nd, rfl⟩⟩))
        go_ret
        exact ⟨by first | rfl | (simp; done) | (simp [*]; done) | (simp [ne_nil_b]; done) | (simp [ne_nil_b, *]; done), by repeat (first | exact Drawn0.refl _ | apply Drawn0.step)⟩
    · replace c5 := Bool.eq_false_iff.mpr c5
      subst c5
      have H1 : (some false) = some r := by rw [if_neg (show ¬ (false = true) by decide)] at H; exact H
      clear H
      have H := H1
      clear H1
      obtain rfl := Option.some.inj H
      have hcq0 := HQ0.out
      have hcq1 := HQ1.out
      have hcq2 := HQ2.out
      have hcq3 := HQ3.out
      have hcq4 := HQ4.out
      have hcq5 := HQ5.out
      have hcq6 := HQ6.out
      have hcq7 := HQ7.out
      have hcq8 := HQ8.out
      go_enter Try.func77, Try.ntmps77
      go_wp2_with (first | ((with_reducible refine gate_callee (f := 66) rfl ?_); refine goesL_ (some 8) rfl rfl Try.func66 (by kernel_rfl) rfl #[.int .i64 a0_0] rfl (by (try simp only [List.map_toArray, List.map_cons, List.map_nil]); first | done | rfl | (simp only [List.length_drop, List.length_take]; rfl)) ?_; (with_reducible refine (impl_isProto.calls a0_0 true _ A2.out).mono ?_); rintro e w' ⟨rfl, ⟨nd, rfl⟩⟩; refine ⟨_, rfl, ?_⟩) | (go_at_call 72; (with_reducible refine (impl_macOK.calls a0_1 false _ A4.out).mono ?_); rintro e w' ⟨rfl, ⟨nd, rfl⟩⟩))
      go_ret
      exact ⟨by first | rfl | (simp; done) | (simp [*]; done) | (simp [ne_nil_b]; done) | (simp [ne_nil_b, *]; done), by repeat (first | exact Drawn0.refl _ | apply Drawn0.step)⟩
  · replace c3 := Bool.eq_false_iff.mpr c3
    subst c3
    have H1 : (some false) = some r := by rw [if_neg (show ¬ (false = true) by decide)] at H; exact H
    clear H
    have H := H1
    clear H1
    obtain rfl := Option.some.inj H
    have hcq0 := HQ0.out
    have hcq1 := HQ1.out
    have hcq2 := HQ2.out
    have hcq3 := HQ3.out
    have hcq4 := HQ4.out
    have hcq5 := HQ5.out
    have hcq6 := HQ6.out
    have hcq7 := HQ7.out
    have hcq8 := HQ8.out
    go_enter Try.func77, Try.ntmps77
    go_wp2_with (first | ((with_reducible refine gate_callee (f := 66) rfl ?_); refine goesL_ (some 8) rfl rfl Try.func66 (by kernel_rfl) rfl #[.int .i64 a0_0] rfl (by (try simp only [List.map_toArray, List.map_cons, List.map_nil]); first | done | rfl | (simp only [List.length_drop, List.length_take]; rfl)) ?_; (with_reducible refine (impl_isProto.calls a0_0 false _ A2.out).mono ?_); rintro e w' ⟨rfl, ⟨nd, rfl⟩⟩; refine ⟨_, rfl, ?_⟩))
    go_ret
    exact ⟨by first | rfl | (simp; done) | (simp [*]; done) | (simp [ne_nil_b]; done) | (simp [ne_nil_b, *]; done), by repeat (first | exact Drawn0.refl _ | apply Drawn0.step)⟩
theorem impl_Flow_endsOKAt.calls (A_ : Addr) (n_ : Nat) (a0_0 : Int) (a0_1 : ByteArray) (a0_2 : Int) (a0_3 : Int) (a0_4 : Int) (a0_5 : Int) (a0_6 : Int) (a0_7 : Int) (a0_8 : Int) (r : Bool) (w : World) (hq0 : w.cell? (A_.add n_) = some (.int .i64 a0_0)) (hq1 : w.cell? (⟨(A_.add n_).block, (A_.add n_).off + 1, none⟩) = some (.string a0_1)) (hq2 : w.cell? (⟨(A_.add n_).block, (A_.add n_).off + 2, none⟩) = some (.int .i64 a0_2)) (hq3 : w.cell? (⟨(A_.add n_).block, (A_.add n_).off + 3, none⟩) = some (.int .i64 a0_3)) (hq4 : w.cell? (⟨(A_.add n_).block, (A_.add n_).off + 4, none⟩) = some (.int .i64 a0_4)) (hq5 : w.cell? (⟨(A_.add n_).block, (A_.add n_).off + 5, none⟩) = some (.int .i64 a0_5)) (hq6 : w.cell? (⟨(A_.add n_).block, (A_.add n_).off + 6, none⟩) = some (.int .i64 a0_6)) (hq7 : w.cell? (⟨(A_.add n_).block, (A_.add n_).off + 7, none⟩) = some (.int .i64 a0_7)) (hq8 : w.cell? (⟨(A_.add n_).block, (A_.add n_).off + 8, none⟩) = some (.int .i64 a0_8)) (h : impl_Flow_endsOKAt.f a0_0 a0_1 a0_2 a0_3 a0_4 a0_5 a0_6 a0_7 a0_8 = some r) :
    Calls Try.prog 77 #[.pointer (some (A_.add n_))] w fun e w' => e = .returned (.bool r) ∧ Below w.heap.size w w' := by
  refine (impl_Flow_endsOKAt.calls0 A_ n_ a0_0 a0_1 a0_2 a0_3 a0_4 a0_5 a0_6 a0_7 a0_8 r w hq0 hq1 hq2 hq3 hq4 hq5 hq6 hq7 hq8 h).mono fun e w' hh => ⟨hh.1, ?_⟩
  obtain ⟨nd, hq⟩ := hh.2
  rw [hq]
  exact pw_below_drewN (Below.refl _ _) nd
end
section
/-! ### impl_Flow_107: function 107 -/
def idxP71 (p : S71 → Option Bool) (l : List S71) : Nat → Int → Option Int
  | 0, _ => none
  | k + 1, i => if i < (l.length : Int) then (if 0 ≤ i then ((p (rd_T71 l i)).bind fun t => (if t = true then some i else idxP71 p l k (wrap64 (i + 1)))) else none) else some (-1)
theorem idxP71_mono (p q : S71 → Option Bool) (hpq : ∀ x, LeO (p x) (q x)) (l : List S71) : ∀ k i, LeO (idxP71 p l k i) (idxP71 q l (k + 1) i)
  | 0, i => fun r h => by simp [idxP71] at h
  | k + 1, i => by
    have ih := idxP71_mono p q hpq l k
    rw [idxP71, idxP71]
    refine LeO.ite (LeO.ite (LeO.bind (hpq _) (fun t => LeO.ite (LeO.refl _) (ih _))) (LeO.refl _)) (LeO.refl _)
set_option maxHeartbeats 8000000 in
set_option maxRecDepth 100000 in
theorem indexFunc71 (g : FuncId) (lb : Array Value) (eg : ∀ args w, (callFunc g args).run Try.prog w = .ok (.enter g args) w) (p : S71 → Option Bool) (k : Nat) (A0 : Option Addr) (c0 : Nat) (l0 : List S71) (r : Int) (w : World)
    (hp : ∀ (W : World) (x : S71) (b : Bool), Below w.heap.size w W → p x = some b → Calls Try.prog g (#[.agg #[.int .i64 x.f0, .string x.f1, .int .i64 x.f2, .int .i64 x.f3, .int .i64 x.f4, .int .i64 x.f5, .int .i64 x.f6, .int .i64 x.f7, .int .i64 x.f8]] ++ lb) W fun e w' => e = .returned (.bool b) ∧ Below w.heap.size w w')
    (hr0 : Kd.C k71 w A0 l0.length l0) (h : idxP71 p l0 k 0 = some r) :
    Calls Try.prog 107 #[.slice A0 l0.length c0, .func (.func g) #[] lb] w fun e w' => e = .returned (.int .i64 r) ∧ Below w.heap.size w w' := by
  have hu71 := Try.underlying71
  have HR0 := Aside0.mk hr0
  have HP := Aside0.mk hp
  clear hr0 hp
  have HB := Aside0.mk (Below.refl w.heap.size w)
  have H' := Aside0.mk h
  clear h
  go_enter Try.func107, Try.ntmps107
  go_wp2
  go_loopg [5, 8] k (fun kq _ v8 w' => ∃ (x : Int), v8 = .int .i64 x ∧ Aside0 (idxP71 p l0 kq x = some r) ∧ Aside0 (kq ≤ k) ∧ Aside0 (Below w.heap.size w w'))
  case atStart => exact ⟨0, rfl, H', ⟨Nat.le_refl _⟩, HB⟩
  case round =>
    clear H'
    obtain ⟨x, rfl, HA, HK1, HB⟩ := hrel
    cases gk with
    | zero => exact absurd HA.out (by simp [idxP71])
    | succ k1 =>
      have H := HA.out
      clear HA
      simp only [idxP71] at H
      by_cases c2 : x < (l0.length : Int)
      · rw [if_pos c2] at H
        have c2b0 : decide (x < (l0.length : Int)) = true := decide_eq_true c2
        clear c2
        by_cases c3 : 0 ≤ x
        · rw [if_pos c3] at H
          have c3b0 : decide (0 ≤ x) = true := decide_eq_true c3
          clear c3
          replace H := Option.bind_eq_some_iff.mp H
          obtain ⟨t, A40, H⟩ := H
          have p179 : 0 ≤ (x : Int) := of_decide_eq_true (by first | (with_reducible assumption) | assumption)
          have q179 : x < (l0.length : Int) := of_decide_eq_true (by first | (with_reducible assumption) | assumption)
          obtain ⟨ad179, e179, hx0, hx1, hx2, hx3, hx4, hx5, hx6, hx7, hx8⟩ := at_T71 HR0.out x p179 q179
          cases e179
          replace hx0 := (HB.out.cell (World.block_lt_of_cell? w _ hx0)).trans hx0
          replace hx1 := (HB.out.cell (World.block_lt_of_cell? w _ hx1)).trans hx1
          replace hx2 := (HB.out.cell (World.block_lt_of_cell? w _ hx2)).trans hx2
          replace hx3 := (HB.out.cell (World.block_lt_of_cell? w _ hx3)).trans hx3
          replace hx4 := (HB.out.cell (World.block_lt_of_cell? w _ hx4)).trans hx4
          replace hx5 := (HB.out.cell (World.block_lt_of_cell? w _ hx5)).trans hx5
          replace hx6 := (HB.out.cell (World.block_lt_of_cell? w _ hx6)).trans hx6
          replace hx7 := (HB.out.cell (World.block_lt_of_cell? w _ hx7)).trans hx7
          replace hx8 := (HB.out.cell (World.block_lt_of_cell? w _ hx8)).trans hx8
          replace p179 := eq_true p179
          replace q179 := eq_true q179
          have HC := Aside0.mk (HP.out _ _ _ HB.out A40)
          clear A40
          cases t
          · have H1 : idxP71 p l0 k1 (wrap64 (x + 1)) = some r := by simpa using H
            clear H
            have H' := Aside0.mk H1
            clear H1
            go_wp2_with (refine HC.out.mono ?_; rintro e w6 ⟨rfl, hb⟩; clear HB; have HB := Aside0.mk hb; clear hb)
            go_roundg k1
            case measure => have := HK1.out; omega
            case rel => exact ⟨_, rfl, H', ⟨by have := HK1.out; omega⟩, HB⟩
          · obtain rfl : x = r := by simpa using H
            clear H
            go_wp2_with (refine HC.out.mono ?_; rintro e w6 ⟨rfl, hb⟩; clear HB; have HB := Aside0.mk hb; clear hb)
            go_ret
            exact ⟨rfl, HB.out⟩
        · rw [if_neg c3] at H
          exact absurd H (by simp)
      · rw [if_neg c2] at H
        have c2b0 : decide (x < (l0.length : Int)) = false := decide_eq_false c2
        clear c2
        obtain rfl := Option.some.inj H
        go_wp2
        go_ret
        exact ⟨by first | rfl | (simp [errW_none, errW_some] <;> rfl) | (simp [*, errW_none, errW_some] <;> rfl), HB.out⟩
end
section
/-- A state of type 71 at block g of W; what its slices lead to came in by w0. -/
def IsS71 (w0 W : World) (g : Nat) (f0 : Int) (f1 : ByteArray) (f2 : Int) (f3 : Int) (f4 : Int) (f5 : Int) (f6 : Int) (f7 : Int) (f8 : Int) : Prop := W.heap[g]? = some (.cells #[.int .i64 f0, .string f1, .int .i64 f2, .int .i64 f3, .int .i64 f4, .int .i64 f5, .int .i64 f6, .int .i64 f7, .int .i64 f8] 71 (0, 0)) ∧ w0.heap.size ≤ g
theorem IsS71.grown {w0 W : World} {g : Nat} {f0 : Int} {f1 : ByteArray} {f2 : Int} {f3 : Int} {f4 : Int} {f5 : Int} {f6 : Int} {f7 : Int} {f8 : Int} {W1 : World} {row : Option Nat} (h : IsS71 w0 W g f0 f1 f2 f3 f4 f5 f6 f7 f8) (hw : W.grownBy W1 row) (hne : some g ≠ row) : IsS71 w0 W1 g f0 f1 f2 f3 f4 f5 f6 f7 f8 := by
  obtain ⟨hb, hg⟩ := h
  exact ⟨blk_grown hb hw hne, hg⟩
theorem IsS71.kept {w0 W : World} {g : Nat} {f0 : Int} {f1 : ByteArray} {f2 : Int} {f3 : Int} {f4 : Int} {f5 : Int} {f6 : Int} {f7 : Int} {f8 : Int} {W1 : World} {S : Nat → Prop} (h : IsS71 w0 W g f0 f1 f2 f3 f4 f5 f6 f7 f8) (hk : Kept W W1 S) (hne : ¬ S g) : IsS71 w0 W1 g f0 f1 f2 f3 f4 f5 f6 f7 f8 := by
  obtain ⟨hb, hg⟩ := h
  exact ⟨blk_kept hb hk hne, hg⟩
theorem IsS71.below {w0 W : World} {g : Nat} {f0 : Int} {f1 : ByteArray} {f2 : Int} {f3 : Int} {f4 : Int} {f5 : Int} {f6 : Int} {f7 : Int} {f8 : Int} {W1 : World} (h : IsS71 w0 W g f0 f1 f2 f3 f4 f5 f6 f7 f8) (hw : Below W.heap.size W W1) : IsS71 w0 W1 g f0 f1 f2 f3 f4 f5 f6 f7 f8 := h.grown (grown_of_below hw none) (by simp)
theorem IsS71.alloc {w0 W : World} {g : Nat} {f0 : Int} {f1 : ByteArray} {f2 : Int} {f3 : Int} {f4 : Int} {f5 : Int} {f6 : Int} {f7 : Int} {f8 : Int} (h : IsS71 w0 W g f0 f1 f2 f3 f4 f5 f6 f7 f8) (o : Obj) : IsS71 w0 (W.alloc o) g f0 f1 f2 f3 f4 f5 f6 f7 f8 := h.below (below_alloc (Below.refl _ _) o)
theorem IsS71.drewN {w0 W : World} {g : Nat} {f0 : Int} {f1 : ByteArray} {f2 : Int} {f3 : Int} {f4 : Int} {f5 : Int} {f6 : Int} {f7 : Int} {f8 : Int} (h : IsS71 w0 W g f0 f1 f2 f3 f4 f5 f6 f7 f8) (m : Nat) : IsS71 w0 (W.drewN m) g f0 f1 f2 f3 f4 f5 f6 f7 f8 := h
theorem IsS71.drew {w0 W : World} {g : Nat} {f0 : Int} {f1 : ByteArray} {f2 : Int} {f3 : Int} {f4 : Int} {f5 : Int} {f6 : Int} {f7 : Int} {f8 : Int} (h : IsS71 w0 W g f0 f1 f2 f3 f4 f5 f6 f7 f8) : IsS71 w0 W.drew g f0 f1 f2 f3 f4 f5 f6 f7 f8 := h
theorem IsS71.at_ {w0 W : World} {g : Nat} {f0 : Int} {f1 : ByteArray} {f2 : Int} {f3 : Int} {f4 : Int} {f5 : Int} {f6 : Int} {f7 : Int} {f8 : Int} {w' : World} {m : Nat} (hq : W.drewN m = w') (h : IsS71 w0 W g f0 f1 f2 f3 f4 f5 f6 f7 f8) : IsS71 w0 w' g f0 f1 f2 f3 f4 f5 f6 f7 f8 := by subst hq; exact IsS71.drewN h m
theorem IsS71.apart {w0 W : World} {g : Nat} {f0 : Int} {f1 : ByteArray} {f2 : Int} {f3 : Int} {f4 : Int} {f5 : Int} {f6 : Int} {f7 : Int} {f8 : Int} {α : Type} {d : Kd α} {e : Nat} {base : Nat} {ok : Nat → Prop} {v : Value} {xs : List α} (h : IsS71 w0 W g f0 f1 f2 f3 f4 f5 f6 f7 f8) (ho : d.R e W base ok v xs) (ht : ∀ q, q ∈ e :: d.E → q ≠ 71) : d.R e W base (fun k => ok k ∧ k ≠ g) v xs := by
  obtain ⟨hb, hg⟩ := h
  exact Kd.R_types ho hb ht
theorem IsS71.own_ne {w0 W : World} {g : Nat} {f0 : Int} {f1 : ByteArray} {f2 : Int} {f3 : Int} {f4 : Int} {f5 : Int} {f6 : Int} {f7 : Int} {f8 : Int} {α : Type} {d : Kd α} {e : Nat} {base : Nat} {ok : Nat → Prop} {v : Value} {xs : List α} (h : IsS71 w0 W g f0 f1 f2 f3 f4 f5 f6 f7 f8) (ho : d.R e W base ok v xs) (ht : e ≠ 71) : some g ≠ v.ownBlock := by
  obtain ⟨hb, hg⟩ := h
  exact Kd.R_ne ho hb ht
theorem IsS71.lt {w0 W : World} {g : Nat} {f0 : Int} {f1 : ByteArray} {f2 : Int} {f3 : Int} {f4 : Int} {f5 : Int} {f6 : Int} {f7 : Int} {f8 : Int} (h : IsS71 w0 W g f0 f1 f2 f3 f4 f5 f6 f7 f8) : g < W.heap.size := by
  obtain ⟨hb, hg⟩ := h
  exact blk_lt hb
theorem IsS71.ge {w0 W : World} {g : Nat} {f0 : Int} {f1 : ByteArray} {f2 : Int} {f3 : Int} {f4 : Int} {f5 : Int} {f6 : Int} {f7 : Int} {f8 : Int} (h : IsS71 w0 W g f0 f1 f2 f3 f4 f5 f6 f7 f8) : w0.heap.size ≤ g := by
  obtain ⟨hb, hg⟩ := h
  exact hg
theorem IsS71.far {w0 W : World} {g : Nat} {f0 : Int} {f1 : ByteArray} {f2 : Int} {f3 : Int} {f4 : Int} {f5 : Int} {f6 : Int} {f7 : Int} {f8 : Int} {p : Addr} (h : IsS71 w0 W g f0 f1 f2 f3 f4 f5 f6 f7 f8) (hne : g ≠ p.block) (u : Value) : IsS71 w0 (W.setCell p u) g f0 f1 f2 f3 f4 f5 f6 f7 f8 := by
  obtain ⟨hb, hg⟩ := h
  exact ⟨blk_far hb hne u, hg⟩
theorem cellS71_0 {W : World} {g : Nat} {f0 : Int} {f1 : ByteArray} {f2 : Int} {f3 : Int} {f4 : Int} {f5 : Int} {f6 : Int} {f7 : Int} {f8 : Int} (h : W.heap[g]? = some (.cells #[.int .i64 f0, .string f1, .int .i64 f2, .int .i64 f3, .int .i64 f4, .int .i64 f5, .int .i64 f6, .int .i64 f7, .int .i64 f8] 71 (0, 0))) : W.cell? ⟨g, 0, none⟩ = some (.int .i64 f0) := (blk_cell h 0).trans rfl
theorem IsS71.set_0 {w0 W : World} {g : Nat} {f0 : Int} {f1 : ByteArray} {f2 : Int} {f3 : Int} {f4 : Int} {f5 : Int} {f6 : Int} {f7 : Int} {f8 : Int} (h : IsS71 w0 W g f0 f1 f2 f3 f4 f5 f6 f7 f8) (x : Int) : IsS71 w0 (W.setCell ⟨g, 0, none⟩ (.int .i64 x)) g x f1 f2 f3 f4 f5 f6 f7 f8 := by
  obtain ⟨hb, hg⟩ := h
  exact ⟨by simpa using blk_set hb 0 (.int .i64 x), hg⟩
theorem cellS71_1 {W : World} {g : Nat} {f0 : Int} {f1 : ByteArray} {f2 : Int} {f3 : Int} {f4 : Int} {f5 : Int} {f6 : Int} {f7 : Int} {f8 : Int} (h : W.heap[g]? = some (.cells #[.int .i64 f0, .string f1, .int .i64 f2, .int .i64 f3, .int .i64 f4, .int .i64 f5, .int .i64 f6, .int .i64 f7, .int .i64 f8] 71 (0, 0))) : W.cell? ⟨g, 1, none⟩ = some (.string f1) := (blk_cell h 1).trans rfl
theorem IsS71.set_1 {w0 W : World} {g : Nat} {f0 : Int} {f1 : ByteArray} {f2 : Int} {f3 : Int} {f4 : Int} {f5 : Int} {f6 : Int} {f7 : Int} {f8 : Int} (h : IsS71 w0 W g f0 f1 f2 f3 f4 f5 f6 f7 f8) (x : ByteArray) : IsS71 w0 (W.setCell ⟨g, 1, none⟩ (.string x)) g f0 x f2 f3 f4 f5 f6 f7 f8 := by
  obtain ⟨hb, hg⟩ := h
  exact ⟨by simpa using blk_set hb 1 (.string x), hg⟩
theorem cellS71_2 {W : World} {g : Nat} {f0 : Int} {f1 : ByteArray} {f2 : Int} {f3 : Int} {f4 : Int} {f5 : Int} {f6 : Int} {f7 : Int} {f8 : Int} (h : W.heap[g]? = some (.cells #[.int .i64 f0, .string f1, .int .i64 f2, .int .i64 f3, .int .i64 f4, .int .i64 f5, .int .i64 f6, .int .i64 f7, .int .i64 f8] 71 (0, 0))) : W.cell? ⟨g, 2, none⟩ = some (.int .i64 f2) := (blk_cell h 2).trans rfl
theorem IsS71.set_2 {w0 W : World} {g : Nat} {f0 : Int} {f1 : ByteArray} {f2 : Int} {f3 : Int} {f4 : Int} {f5 : Int} {f6 : Int} {f7 : Int} {f8 : Int} (h : IsS71 w0 W g f0 f1 f2 f3 f4 f5 f6 f7 f8) (x : Int) : IsS71 w0 (W.setCell ⟨g, 2, none⟩ (.int .i64 x)) g f0 f1 x f3 f4 f5 f6 f7 f8 := by
  obtain ⟨hb, hg⟩ := h
  exact ⟨by simpa using blk_set hb 2 (.int .i64 x), hg⟩
theorem cellS71_3 {W : World} {g : Nat} {f0 : Int} {f1 : ByteArray} {f2 : Int} {f3 : Int} {f4 : Int} {f5 : Int} {f6 : Int} {f7 : Int} {f8 : Int} (h : W.heap[g]? = some (.cells #[.int .i64 f0, .string f1, .int .i64 f2, .int .i64 f3, .int .i64 f4, .int .i64 f5, .int .i64 f6, .int .i64 f7, .int .i64 f8] 71 (0, 0))) : W.cell? ⟨g, 3, none⟩ = some (.int .i64 f3) := (blk_cell h 3).trans rfl
theorem IsS71.set_3 {w0 W : World} {g : Nat} {f0 : Int} {f1 : ByteArray} {f2 : Int} {f3 : Int} {f4 : Int} {f5 : Int} {f6 : Int} {f7 : Int} {f8 : Int} (h : IsS71 w0 W g f0 f1 f2 f3 f4 f5 f6 f7 f8) (x : Int) : IsS71 w0 (W.setCell ⟨g, 3, none⟩ (.int .i64 x)) g f0 f1 f2 x f4 f5 f6 f7 f8 := by
  obtain ⟨hb, hg⟩ := h
  exact ⟨by simpa using blk_set hb 3 (.int .i64 x), hg⟩
theorem cellS71_4 {W : World} {g : Nat} {f0 : Int} {f1 : ByteArray} {f2 : Int} {f3 : Int} {f4 : Int} {f5 : Int} {f6 : Int} {f7 : Int} {f8 : Int} (h : W.heap[g]? = some (.cells #[.int .i64 f0, .string f1, .int .i64 f2, .int .i64 f3, .int .i64 f4, .int .i64 f5, .int .i64 f6, .int .i64 f7, .int .i64 f8] 71 (0, 0))) : W.cell? ⟨g, 4, none⟩ = some (.int .i64 f4) := (blk_cell h 4).trans rfl
theorem IsS71.set_4 {w0 W : World} {g : Nat} {f0 : Int} {f1 : ByteArray} {f2 : Int} {f3 : Int} {f4 : Int} {f5 : Int} {f6 : Int} {f7 : Int} {f8 : Int} (h : IsS71 w0 W g f0 f1 f2 f3 f4 f5 f6 f7 f8) (x : Int) : IsS71 w0 (W.setCell ⟨g, 4, none⟩ (.int .i64 x)) g f0 f1 f2 f3 x f5 f6 f7 f8 := by
  obtain ⟨hb, hg⟩ := h
  exact ⟨by simpa using blk_set hb 4 (.int .i64 x), hg⟩
theorem cellS71_5 {W : World} {g : Nat} {f0 : Int} {f1 : ByteArray} {f2 : Int} {f3 : Int} {f4 : Int} {f5 : Int} {f6 : Int} {f7 : Int} {f8 : Int} (h : W.heap[g]? = some (.cells #[.int .i64 f0, .string f1, .int .i64 f2, .int .i64 f3, .int .i64 f4, .int .i64 f5, .int .i64 f6, .int .i64 f7, .int .i64 f8] 71 (0, 0))) : W.cell? ⟨g, 5, none⟩ = some (.int .i64 f5) := (blk_cell h 5).trans rfl
theorem IsS71.set_5 {w0 W : World} {g : Nat} {f0 : Int} {f1 : ByteArray} {f2 : Int} {f3 : Int} {f4 : Int} {f5 : Int} {f6 : Int} {f7 : Int} {f8 : Int} (h : IsS71 w0 W g f0 f1 f2 f3 f4 f5 f6 f7 f8) (x : Int) : IsS71 w0 (W.setCell ⟨g, 5, none⟩ (.int .i64 x)) g f0 f1 f2 f3 f4 x f6 f7 f8 := by
  obtain ⟨hb, hg⟩ := h
  exact ⟨by simpa using blk_set hb 5 (.int .i64 x), hg⟩
theorem cellS71_6 {W : World} {g : Nat} {f0 : Int} {f1 : ByteArray} {f2 : Int} {f3 : Int} {f4 : Int} {f5 : Int} {f6 : Int} {f7 : Int} {f8 : Int} (h : W.heap[g]? = some (.cells #[.int .i64 f0, .string f1, .int .i64 f2, .int .i64 f3, .int .i64 f4, .int .i64 f5, .int .i64 f6, .int .i64 f7, .int .i64 f8] 71 (0, 0))) : W.cell? ⟨g, 6, none⟩ = some (.int .i64 f6) := (blk_cell h 6).trans rfl
theorem IsS71.set_6 {w0 W : World} {g : Nat} {f0 : Int} {f1 : ByteArray} {f2 : Int} {f3 : Int} {f4 : Int} {f5 : Int} {f6 : Int} {f7 : Int} {f8 : Int} (h : IsS71 w0 W g f0 f1 f2 f3 f4 f5 f6 f7 f8) (x : Int) : IsS71 w0 (W.setCell ⟨g, 6, none⟩ (.int .i64 x)) g f0 f1 f2 f3 f4 f5 x f7 f8 := by
  obtain ⟨hb, hg⟩ := h
  exact ⟨by simpa using blk_set hb 6 (.int .i64 x), hg⟩
theorem cellS71_7 {W : World} {g : Nat} {f0 : Int} {f1 : ByteArray} {f2 : Int} {f3 : Int} {f4 : Int} {f5 : Int} {f6 : Int} {f7 : Int} {f8 : Int} (h : W.heap[g]? = some (.cells #[.int .i64 f0, .string f1, .int .i64 f2, .int .i64 f3, .int .i64 f4, .int .i64 f5, .int .i64 f6, .int .i64 f7, .int .i64 f8] 71 (0, 0))) : W.cell? ⟨g, 7, none⟩ = some (.int .i64 f7) := (blk_cell h 7).trans rfl
theorem IsS71.set_7 {w0 W : World} {g : Nat} {f0 : Int} {f1 : ByteArray} {f2 : Int} {f3 : Int} {f4 : Int} {f5 : Int} {f6 : Int} {f7 : Int} {f8 : Int} (h : IsS71 w0 W g f0 f1 f2 f3 f4 f5 f6 f7 f8) (x : Int) : IsS71 w0 (W.setCell ⟨g, 7, none⟩ (.int .i64 x)) g f0 f1 f2 f3 f4 f5 f6 x f8 := by
  obtain ⟨hb, hg⟩ := h
  exact ⟨by simpa using blk_set hb 7 (.int .i64 x), hg⟩
theorem cellS71_8 {W : World} {g : Nat} {f0 : Int} {f1 : ByteArray} {f2 : Int} {f3 : Int} {f4 : Int} {f5 : Int} {f6 : Int} {f7 : Int} {f8 : Int} (h : W.heap[g]? = some (.cells #[.int .i64 f0, .string f1, .int .i64 f2, .int .i64 f3, .int .i64 f4, .int .i64 f5, .int .i64 f6, .int .i64 f7, .int .i64 f8] 71 (0, 0))) : W.cell? ⟨g, 8, none⟩ = some (.int .i64 f8) := (blk_cell h 8).trans rfl
theorem IsS71.set_8 {w0 W : World} {g : Nat} {f0 : Int} {f1 : ByteArray} {f2 : Int} {f3 : Int} {f4 : Int} {f5 : Int} {f6 : Int} {f7 : Int} {f8 : Int} (h : IsS71 w0 W g f0 f1 f2 f3 f4 f5 f6 f7 f8) (x : Int) : IsS71 w0 (W.setCell ⟨g, 8, none⟩ (.int .i64 x)) g f0 f1 f2 f3 f4 f5 f6 f7 x := by
  obtain ⟨hb, hg⟩ := h
  exact ⟨by simpa using blk_set hb 8 (.int .i64 x), hg⟩
theorem IsS71.new (w0 W : World) (f0 : Int) (f1 : ByteArray) (f2 : Int) (f3 : Int) (f4 : Int) (f5 : Int) (f6 : Int) (f7 : Int) (f8 : Int) (hB : Below w0.heap.size w0 W) : IsS71 w0 (W.alloc (.cells #[.int .i64 f0, .string f1, .int .i64 f2, .int .i64 f3, .int .i64 f4, .int .i64 f5, .int .i64 f6, .int .i64 f7, .int .i64 f8] 71)) W.heap.size f0 f1 f2 f3 f4 f5 f6 f7 f8 := ⟨by simpa using heap_alloc_new W _, hB.size⟩
end
section
/-! ### impl_Flow_is: function 109 -/
def impl_Flow_is.f (s0_0 : Int) (s0_1 : ByteArray) (s0_2 : Int) (s0_3 : Int) (s0_4 : Int) (s0_5 : Int) (s0_6 : Int) (s0_7 : Int) (s0_8 : Int) (a1 : Int) (a2 : Int) (a3 : Int) (a4 : Int) (a5 : Int) : Option (Bool) := if s0_0 = a1 then (if s0_2 = a2 then (if s0_3 = a3 then (if s0_4 = a4 then (some (s0_5 == a5)) else (some false)) else (some false)) else (some false)) else (some false)
set_option maxHeartbeats 8000000 in
set_option maxRecDepth 100000 in
theorem impl_Flow_is.calls (g : Nat) (s0_0 : Int) (s0_1 : ByteArray) (s0_2 : Int) (s0_3 : Int) (s0_4 : Int) (s0_5 : Int) (s0_6 : Int) (s0_7 : Int) (s0_8 : Int) (a1 : Int) (a2 : Int) (a3 : Int) (a4 : Int) (a5 : Int) (r : Bool) (w0 w : World) (hI : IsS71 w0 w g s0_0 s0_1 s0_2 s0_3 s0_4 s0_5 s0_6 s0_7 s0_8) (hB : Below w0.heap.size w0 w) (h : impl_Flow_is.f s0_0 s0_1 s0_2 s0_3 s0_4 s0_5 s0_6 s0_7 s0_8 a1 a2 a3 a4 a5 = some r) :
    Calls Try.prog 109 #[.pointer (some ⟨g, 0, none⟩), .int .i64 a1, .int .i64 a2, .int .i64 a3, .int .i64 a4, .int .i64 a5] w fun e w' => e = .returned (.bool r) ∧ IsS71 w0 w' g s0_0 s0_1 s0_2 s0_3 s0_4 s0_5 s0_6 s0_7 s0_8 ∧ Below w0.heap.size w0 w' ∧ KeepBut w w' g none := by
  have HI0 := Aside0.mk hI
  have HK := Aside0.mk (KeepBut.refl w g none)
  have HL := Aside0.mk hB.size
  clear hI
  have HW0 := Aside0.mk hB.size
  have HB := Aside0.mk hB
  clear hB
  have H : (if s0_0 = a1 then (if s0_2 = a2 then (if s0_3 = a3 then (if s0_4 = a4 then (some (s0_5 == a5)) else (some false)) else (some false)) else (some false)) else (some false)) = some r := h
  clear h
  by_cases c7 : s0_0 = a1
  · rw [if_pos c7] at H
    have c7b0 : (s0_0 == a1) = true := beq_iff_eq.mpr c7
    have c7b1 : (s0_0 != a1) = false := bne_eq_false_iff_eq.mpr c7
    clear c7
    by_cases c8 : s0_2 = a2
    · rw [if_pos c8] at H
      have c8b0 : (s0_2 == a2) = true := beq_iff_eq.mpr c8
      have c8b1 : (s0_2 != a2) = false := bne_eq_false_iff_eq.mpr c8
      clear c8
      by_cases c9 : s0_3 = a3
      · rw [if_pos c9] at H
        have c9b0 : (s0_3 == a3) = true := beq_iff_eq.mpr c9
        have c9b1 : (s0_3 != a3) = false := bne_eq_false_iff_eq.mpr c9
        clear c9
        by_cases c10 : s0_4 = a4
        · rw [if_pos c10] at H
          have c10b0 : (s0_4 == a4) = true := beq_iff_eq.mpr c10
          have c10b1 : (s0_4 != a4) = false := bne_eq_false_iff_eq.mpr c10
          clear c10
          obtain rfl := Option.some.inj H
          obtain ⟨HGz11, hgz11⟩ := HI0.out
          have hcz11_0 := cellS71_0 HGz11
          have hcz11_1 := cellS71_1 HGz11
          have hcz11_2 := cellS71_2 HGz11
          have hcz11_3 := cellS71_3 HGz11
          have hcz11_4 := cellS71_4 HGz11
          have hcz11_5 := cellS71_5 HGz11
          have hcz11_6 := cellS71_6 HGz11
          have hcz11_7 := cellS71_7 HGz11
          have hcz11_8 := cellS71_8 HGz11
          have hfz11_0 := blk_frozen HGz11 0
          have hfz11_1 := blk_frozen HGz11 1
          have hfz11_2 := blk_frozen HGz11 2
          have hfz11_3 := blk_frozen HGz11 3
          have hfz11_4 := blk_frozen HGz11 4
          have hfz11_5 := blk_frozen HGz11 5
          have hfz11_6 := blk_frozen HGz11 6
          have hfz11_7 := blk_frozen HGz11 7
          have hfz11_8 := blk_frozen HGz11 8
          clear HGz11 hgz11
          go_enter Try.func109, Try.ntmps109
          go_wp2
          go_ret
          exact ⟨by first | rfl | (simp [errW_none, errW_some] <;> rfl) | (simp [*, errW_none, errW_some] <;> rfl), by repeat (first | (with_reducible first | exact HI0.out | apply IsS71.alloc | apply IsS71.drewN | apply IsS71.drew | apply IsS71.set_0 | apply IsS71.set_1 | apply IsS71.set_2 | apply IsS71.set_3 | apply IsS71.set_4 | apply IsS71.set_5 | apply IsS71.set_6 | apply IsS71.set_7 | apply IsS71.set_8) | exact HI0.out), by repeat (first | (with_reducible first | exact HB.out | apply below_alloc | apply pw_below_drewN | apply below_drew1 | refine below_set ?_ (IsS71.ge HI0.out)) | exact HB.out), by repeat (first | (with_reducible first | exact HK.out | apply KeepBut.set_ | apply keep_drewN | apply keep_drew | apply keep_alloc) | exact HK.out)⟩
        · rw [if_neg c10] at H
          have c10b0 : (s0_4 == a4) = false := beq_eq_false_iff_ne.mpr c10
          have c10b1 : (s0_4 != a4) = true := bne_iff_ne.mpr c10
          obtain rfl := Option.some.inj H
          obtain ⟨HGz12, hgz12⟩ := HI0.out
          have hcz12_0 := cellS71_0 HGz12
          have hcz12_1 := cellS71_1 HGz12
          have hcz12_2 := cellS71_2 HGz12
          have hcz12_3 := cellS71_3 HGz12
          have hcz12_4 := cellS71_4 HGz12
          have hcz12_5 := cellS71_5 HGz12
          have hcz12_6 := cellS71_6 HGz12
          have hcz12_7 := cellS71_7 HGz12
          have hcz12_8 := cellS71_8 HGz12
          have hfz12_0 := blk_frozen HGz12 0
          have hfz12_1 := blk_frozen HGz12 1
          have hfz12_2 := blk_frozen HGz12 2
          have hfz12_3 := blk_frozen HGz12 3
          have hfz12_4 := blk_frozen HGz12 4
          have hfz12_5 := blk_frozen HGz12 5
          have hfz12_6 := blk_frozen HGz12 6
          have hfz12_7 := blk_frozen HGz12 7
          have hfz12_8 := blk_frozen HGz12 8
          clear HGz12 hgz12
          go_enter Try.func109, Try.ntmps109
          go_wp2
          go_ret
          exact ⟨by first | rfl | (simp [errW_none, errW_some] <;> rfl) | (simp [*, errW_none, errW_some] <;> rfl), by repeat (first | (with_reducible first | exact HI0.out | apply IsS71.alloc | apply IsS71.drewN | apply IsS71.drew | apply IsS71.set_0 | apply IsS71.set_1 | apply IsS71.set_2 | apply IsS71.set_3 | apply IsS71.set_4 | apply IsS71.set_5 | apply IsS71.set_6 | apply IsS71.set_7 | apply IsS71.set_8) | exact HI0.out), by repeat (first | (with_reducible first | exact HB.out | apply below_alloc | apply pw_below_drewN | apply below_drew1 | refine below_set ?_ (IsS71.ge HI0.out)) | exact HB.out), by repeat (first | (with_reducible first | exact HK.out | apply KeepBut.set_ | apply keep_drewN | apply keep_drew | apply keep_alloc) | exact HK.out)⟩
      · rw [if_neg c9] at H
        have c9b0 : (s0_3 == a3) = false := beq_eq_false_iff_ne.mpr c9
        have c9b1 : (s0_3 != a3) = true := bne_iff_ne.mpr c9
        obtain rfl := Option.some.inj H
        obtain ⟨HGz13, hgz13⟩ := HI0.out
        have hcz13_0 := cellS71_0 HGz13
        have hcz13_1 := cellS71_1 HGz13
        have hcz13_2 := cellS71_2 HGz13
        have hcz13_3 := cellS71_3 HGz13
        have hcz13_4 := cellS71_4 HGz13
        have hcz13_5 := cellS71_5 HGz13
        have hcz13_6 := cellS71_6 HGz13
        have hcz13_7 := cellS71_7 HGz13
        have hcz13_8 := cellS71_8 HGz13
        have hfz13_0 := blk_frozen HGz13 0
        have hfz13_1 := blk_frozen HGz13 1
        have hfz13_2 := blk_frozen HGz13 2
        have hfz13_3 := blk_frozen HGz13 3
        have hfz13_4 := blk_frozen HGz13 4
        have hfz13_5 := blk_frozen HGz13 5
        have hfz13_6 := blk_frozen HGz13 6
        have hfz13_7 := blk_frozen HGz13 7
        have hfz13_8 := blk_frozen HGz13 8
        clear HGz13 hgz13
        go_enter Try.func109, Try.ntmps109
        go_wp2
        go_ret
        exact ⟨by first | rfl | (simp [errW_none, errW_some] <;> rfl) | (simp [*, errW_none, errW_some] <;> rfl), by repeat (first | (with_reducible first | exact HI0.out | apply IsS71.alloc | apply IsS71.drewN | apply IsS71.drew | apply IsS71.set_0 | apply IsS71.set_1 | apply IsS71.set_2 | apply IsS71.set_3 | apply IsS71.set_4 | apply IsS71.set_5 | apply IsS71.set_6 | apply IsS71.set_7 | apply IsS71.set_8) | exact HI0.out), by repeat (first | (with_reducible first | exact HB.out | apply below_alloc | apply pw_below_drewN | apply below_drew1 | refine below_set ?_ (IsS71.ge HI0.out)) | exact HB.out), by repeat (first | (with_reducible first | exact HK.out | apply KeepBut.set_ | apply keep_drewN | apply keep_drew | apply keep_alloc) | exact HK.out)⟩
    · rw [if_neg c8] at H
      have c8b0 : (s0_2 == a2) = false := beq_eq_false_iff_ne.mpr c8
      have c8b1 : (s0_2 != a2) = true := bne_iff_ne.mpr c8
      obtain rfl := Option.some.inj H
      obtain ⟨HGz14, hgz14⟩ := HI0.out
      have hcz14_0 := cellS71_0 HGz14
      have hcz14_1 := cellS71_1 HGz14
      have hcz14_2 := cellS71_2 HGz14
      have hcz14_3 := cellS71_3 HGz14
      have hcz14_4 := cellS71_4 HGz14
      have hcz14_5 := cellS71_5 HGz14
      have hcz14_6 := cellS71_6 HGz14
      have hcz14_7 := cellS71_7 HGz14
      have hcz14_8 := cellS71_8 HGz14
      have hfz14_0 := blk_frozen HGz14 0
      have hfz14_1 := blk_frozen HGz14 1
      have hfz14_2 := blk_frozen HGz14 2
      have hfz14_3 := blk_frozen HGz14 3
      have hfz14_4 := blk_frozen HGz14 4
      have hfz14_5 := blk_frozen HGz14 5
      have hfz14_6 := blk_frozen HGz14 6
      have hfz14_7 := blk_frozen HGz14 7
      have hfz14_8 := blk_frozen HGz14 8
      clear HGz14 hgz14
      go_enter Try.func109, Try.ntmps109
      go_wp2
      go_ret
      exact ⟨by first | rfl | (simp [errW_none, errW_some] <;> rfl) | (simp [*, errW_none, errW_some] <;> rfl), by repeat (first | (with_reducible first | exact HI0.out | apply IsS71.alloc | apply IsS71.drewN | apply IsS71.drew | apply IsS71.set_0 | apply IsS71.set_1 | apply IsS71.set_2 | apply IsS71.set_3 | apply IsS71.set_4 | apply IsS71.set_5 | apply IsS71.set_6 | apply IsS71.set_7 | apply IsS71.set_8) | exact HI0.out), by repeat (first | (with_reducible first | exact HB.out | apply below_alloc | apply pw_below_drewN | apply below_drew1 | refine below_set ?_ (IsS71.ge HI0.out)) | exact HB.out), by repeat (first | (with_reducible first | exact HK.out | apply KeepBut.set_ | apply keep_drewN | apply keep_drew | apply keep_alloc) | exact HK.out)⟩
  · rw [if_neg c7] at H
    have c7b0 : (s0_0 == a1) = false := beq_eq_false_iff_ne.mpr c7
    have c7b1 : (s0_0 != a1) = true := bne_iff_ne.mpr c7
    obtain rfl := Option.some.inj H
    obtain ⟨HGz15, hgz15⟩ := HI0.out
    have hcz15_0 := cellS71_0 HGz15
    have hcz15_1 := cellS71_1 HGz15
    have hcz15_2 := cellS71_2 HGz15
    have hcz15_3 := cellS71_3 HGz15
    have hcz15_4 := cellS71_4 HGz15
    have hcz15_5 := cellS71_5 HGz15
    have hcz15_6 := cellS71_6 HGz15
    have hcz15_7 := cellS71_7 HGz15
    have hcz15_8 := cellS71_8 HGz15
    have hfz15_0 := blk_frozen HGz15 0
    have hfz15_1 := blk_frozen HGz15 1
    have hfz15_2 := blk_frozen HGz15 2
    have hfz15_3 := blk_frozen HGz15 3
    have hfz15_4 := blk_frozen HGz15 4
    have hfz15_5 := blk_frozen HGz15 5
    have hfz15_6 := blk_frozen HGz15 6
    have hfz15_7 := blk_frozen HGz15 7
    have hfz15_8 := blk_frozen HGz15 8
    clear HGz15 hgz15
    go_enter Try.func109, Try.ntmps109
    go_wp2
    go_ret
    exact ⟨by first | rfl | (simp [errW_none, errW_some] <;> rfl) | (simp [*, errW_none, errW_some] <;> rfl), by repeat (first | (with_reducible first | exact HI0.out | apply IsS71.alloc | apply IsS71.drewN | apply IsS71.drew | apply IsS71.set_0 | apply IsS71.set_1 | apply IsS71.set_2 | apply IsS71.set_3 | apply IsS71.set_4 | apply IsS71.set_5 | apply IsS71.set_6 | apply IsS71.set_7 | apply IsS71.set_8) | exact HI0.out), by repeat (first | (with_reducible first | exact HB.out | apply below_alloc | apply pw_below_drewN | apply below_drew1 | refine below_set ?_ (IsS71.ge HI0.out)) | exact HB.out), by repeat (first | (with_reducible first | exact HK.out | apply KeepBut.set_ | apply keep_drewN | apply keep_drew | apply keep_alloc) | exact HK.out)⟩
end
section
/-! ### impl_find_1: function 108 -/
def impl_find_1.f (a0_0 : Int) (a0_1 : ByteArray) (a0_2 : Int) (a0_3 : Int) (a0_4 : Int) (a0_5 : Int) (a0_6 : Int) (a0_7 : Int) (a0_8 : Int) (a1 : Int) (a2 : Int) (a3 : Int) (a4 : Int) (a5 : Int) : Option (Bool) := (impl_Flow_is.f a0_0 a0_1 a0_2 a0_3 a0_4 a0_5 a0_6 a0_7 a0_8 a1 a2 a3 a4 a5).bind fun t257 => (some t257)
set_option maxHeartbeats 8000000 in
set_option maxRecDepth 100000 in
theorem impl_find_1.calls (q1 q2 q3 q4 q5 : Nat) (a0_0 : Int) (a0_1 : ByteArray) (a0_2 : Int) (a0_3 : Int) (a0_4 : Int) (a0_5 : Int) (a0_6 : Int) (a0_7 : Int) (a0_8 : Int) (a1 : Int) (a2 : Int) (a3 : Int) (a4 : Int) (a5 : Int) (r : Bool) (w : World) (hq1 : w.cell? ⟨q1, 0, none⟩ = some (.int .i64 a1)) (hq2 : w.cell? ⟨q2, 0, none⟩ = some (.int .i64 a2)) (hq3 : w.cell? ⟨q3, 0, none⟩ = some (.int .i64 a3)) (hq4 : w.cell? ⟨q4, 0, none⟩ = some (.int .i64 a4)) (hq5 : w.cell? ⟨q5, 0, none⟩ = some (.int .i64 a5)) (h : impl_find_1.f a0_0 a0_1 a0_2 a0_3 a0_4 a0_5 a0_6 a0_7 a0_8 a1 a2 a3 a4 a5 = some r) :
    Calls Try.prog 108 #[.agg #[.int .i64 a0_0, .string a0_1, .int .i64 a0_2, .int .i64 a0_3, .int .i64 a0_4, .int .i64 a0_5, .int .i64 a0_6, .int .i64 a0_7, .int .i64 a0_8], .pointer (some ⟨q1, 0, none⟩), .pointer (some ⟨q2, 0, none⟩), .pointer (some ⟨q3, 0, none⟩), .pointer (some ⟨q4, 0, none⟩), .pointer (some ⟨q5, 0, none⟩)] w fun e w' => e = .returned (.bool r) ∧ Below w.heap.size w w' := by
  have HQ1 := Aside0.mk hq1
  clear hq1
  have HQ2 := Aside0.mk hq2
  clear hq2
  have HQ3 := Aside0.mk hq3
  clear hq3
  have HQ4 := Aside0.mk hq4
  clear hq4
  have HQ5 := Aside0.mk hq5
  clear hq5
  have hu71 := Try.underlying71
  have HB := Aside0.mk (Below.refl w.heap.size w)
  have H : ((impl_Flow_is.f a0_0 a0_1 a0_2 a0_3 a0_4 a0_5 a0_6 a0_7 a0_8 a1 a2 a3 a4 a5).bind fun t257 => (some t257)) = some r := h
  clear h
  replace H := Option.bind_eq_some_iff.mp H
  obtain ⟨t257, A70, H⟩ := H
  replace H : (some t257) = some r := H
  have A7 := Aside0.mk A70
  clear A70
  obtain rfl := Option.some.inj H
  have hcq1 := HQ1.out
  have hcq2 := HQ2.out
  have hcq3 := HQ3.out
  have hcq4 := HQ4.out
  have hcq5 := HQ5.out
  go_enter Try.func108, Try.ntmps108
  go_wp2_with (first | ((with_reducible refine gate_dst (N := 6) rfl ?_); refine box_event ?hg (N := 6) ?hd (cs := #[.int .i64 a0_0, .string a0_1, .int .i64 a0_2, .int .i64 a0_3, .int .i64 a0_4, .int .i64 a0_5, .int .i64 a0_6, .int .i64 a0_7, .int .i64 a0_8]) (t := 71) ?hr ?_; (case hd => rfl); (case hg => rfl); (case hr => first | (go_simp; done) | (go_simp; rfl)); intro gb256 hg w8 hbox hb; have n0_ := Aside0.mk (below_step (by repeat (first | (with_reducible first | exact HB.out | apply below_alloc | apply pw_below_drewN | apply below_drew1) | exact HB.out)) hb); have n1_ := Aside0.mk ((show IsS71 w w8 gb256 a0_0 a0_1 a0_2 a0_3 a0_4 a0_5 a0_6 a0_7 a0_8 from ⟨hbox, (by rw [hg]; exact (below_size (by repeat (first | (with_reducible first | exact HB.out | apply below_alloc | apply pw_below_drewN | apply below_drew1) | exact HB.out))) : w.heap.size ≤ gb256)⟩)); clear HB; have HB := n0_; have hcq1 := (HB.out.cell (World.block_lt_of_cell? w _ HQ1.out)).trans HQ1.out; have hcq2 := (HB.out.cell (World.block_lt_of_cell? w _ HQ2.out)).trans HQ2.out; have hcq3 := (HB.out.cell (World.block_lt_of_cell? w _ HQ3.out)).trans HQ3.out; have hcq4 := (HB.out.cell (World.block_lt_of_cell? w _ HQ4.out)).trans HQ4.out; have hcq5 := (HB.out.cell (World.block_lt_of_cell? w _ HQ5.out)).trans HQ5.out; have HI256 := n1_; clear n0_ n1_; clear hb hbox hg) | ((with_reducible refine gate_callee (f := 109) rfl ?_); refine goesL_ (some 13) rfl rfl Try.func109 (by kernel_rfl) rfl #[.pointer (some ⟨gb256, 0, none⟩), .int .i64 a1, .int .i64 a2, .int .i64 a3, .int .i64 a4, .int .i64 a5] rfl (by (try simp only [List.map_toArray, List.map_cons, List.map_nil]); first | done | rfl | (simp only [List.length_drop, List.length_take]; rfl)) ?_; (with_reducible refine (impl_Flow_is.calls gb256 a0_0 a0_1 a0_2 a0_3 a0_4 a0_5 a0_6 a0_7 a0_8 a1 a2 a3 a4 a5 t257 w _ ?side1 ?side2 A7.out).mono ?_); (case side1 => repeat (first | (with_reducible first | exact HI256.out | apply IsS71.alloc | apply IsS71.drewN | apply IsS71.drew | apply IsS71.set_0 | apply IsS71.set_1 | apply IsS71.set_2 | apply IsS71.set_3 | apply IsS71.set_4 | apply IsS71.set_5 | apply IsS71.set_6 | apply IsS71.set_7 | apply IsS71.set_8) | exact HI256.out)); (case side2 => repeat (first | (with_reducible first | exact HB.out | apply below_alloc | apply pw_below_drewN | apply below_drew1 | refine below_set ?_ (IsS71.ge HI256.out)) | exact HB.out)); rintro e w9 ⟨rfl, hi, hb, hk⟩; refine ⟨_, rfl, ?_⟩; have n0_ := Aside0.mk (hb); have n1_ := Aside0.mk (hi); clear HB; clear HI256; have HB := n0_; have hcq1 := (HB.out.cell (World.block_lt_of_cell? w _ HQ1.out)).trans HQ1.out; have hcq2 := (HB.out.cell (World.block_lt_of_cell? w _ HQ2.out)).trans HQ2.out; have hcq3 := (HB.out.cell (World.block_lt_of_cell? w _ HQ3.out)).trans HQ3.out; have hcq4 := (HB.out.cell (World.block_lt_of_cell? w _ HQ4.out)).trans HQ4.out; have hcq5 := (HB.out.cell (World.block_lt_of_cell? w _ HQ5.out)).trans HQ5.out; have HI256 := n1_; clear n0_ n1_; (try clear hb); (try clear hb2); (try clear hk); (try clear hi)))
  go_ret
  exact ⟨by first | rfl | (simp [errW_none, errW_some] <;> rfl) | (simp [*, errW_none, errW_some] <;> rfl), by repeat (first | (with_reducible first | exact HB.out | apply below_alloc | apply pw_below_drewN | apply below_drew1 | refine below_set ?_ (IsS71.ge HI256.out)) | exact HB.out)⟩
end
section
/-! ### impl_find_2: function 110 -/
def impl_find_2.f (a0_0 : Int) (a0_1 : ByteArray) (a0_2 : Int) (a0_3 : Int) (a0_4 : Int) (a0_5 : Int) (a0_6 : Int) (a0_7 : Int) (a0_8 : Int) (a1 : Int) (a2 : Int) (a3 : Int) (a4 : Int) (a5 : Int) : Option (Bool) := (impl_Flow_is.f a0_0 a0_1 a0_2 a0_3 a0_4 a0_5 a0_6 a0_7 a0_8 a1 a2 a3 a4 a5).bind fun t259 => (some t259)
set_option maxHeartbeats 8000000 in
set_option maxRecDepth 100000 in
theorem impl_find_2.calls (q1 q2 q3 q4 q5 : Nat) (a0_0 : Int) (a0_1 : ByteArray) (a0_2 : Int) (a0_3 : Int) (a0_4 : Int) (a0_5 : Int) (a0_6 : Int) (a0_7 : Int) (a0_8 : Int) (a1 : Int) (a2 : Int) (a3 : Int) (a4 : Int) (a5 : Int) (r : Bool) (w : World) (hq1 : w.cell? ⟨q1, 0, none⟩ = some (.int .i64 a1)) (hq2 : w.cell? ⟨q2, 0, none⟩ = some (.int .i64 a2)) (hq3 : w.cell? ⟨q3, 0, none⟩ = some (.int .i64 a3)) (hq4 : w.cell? ⟨q4, 0, none⟩ = some (.int .i64 a4)) (hq5 : w.cell? ⟨q5, 0, none⟩ = some (.int .i64 a5)) (h : impl_find_2.f a0_0 a0_1 a0_2 a0_3 a0_4 a0_5 a0_6 a0_7 a0_8 a1 a2 a3 a4 a5 = some r) :
    Calls Try.prog 110 #[.agg #[.int .i64 a0_0, .string a0_1, .int .i64 a0_2, .int .i64 a0_3, .int .i64 a0_4, .int .i64 a0_5, .int .i64 a0_6, .int .i64 a0_7, .int .i64 a0_8], .pointer (some ⟨q1, 0, none⟩), .pointer (some ⟨q2, 0, none⟩), .pointer (some ⟨q3, 0, none⟩), .pointer (some ⟨q4, 0, none⟩), .pointer (some ⟨q5, 0, none⟩)] w fun e w' => e = .returned (.bool r) ∧ Below w.heap.size w w' := by
  have HQ1 := Aside0.mk hq1
  clear hq1
  have HQ2 := Aside0.mk hq2
  clear hq2
  have HQ3 := Aside0.mk hq3
  clear hq3
  have HQ4 := Aside0.mk hq4
  clear hq4
  have HQ5 := Aside0.mk hq5
  clear hq5
  have hu71 := Try.underlying71
  have HB := Aside0.mk (Below.refl w.heap.size w)
  have H : ((impl_Flow_is.f a0_0 a0_1 a0_2 a0_3 a0_4 a0_5 a0_6 a0_7 a0_8 a1 a2 a3 a4 a5).bind fun t259 => (some t259)) = some r := h
  clear h
  replace H := Option.bind_eq_some_iff.mp H
  obtain ⟨t259, A70, H⟩ := H
  replace H : (some t259) = some r := H
  have A7 := Aside0.mk A70
  clear A70
  obtain rfl := Option.some.inj H
  have hcq1 := HQ1.out
  have hcq2 := HQ2.out
  have hcq3 := HQ3.out
  have hcq4 := HQ4.out
  have hcq5 := HQ5.out
  go_enter Try.func110, Try.ntmps110
  go_wp2_with (first | ((with_reducible refine gate_dst (N := 6) rfl ?_); refine box_event ?hg (N := 6) ?hd (cs := #[.int .i64 a0_0, .string a0_1, .int .i64 a0_2, .int .i64 a0_3, .int .i64 a0_4, .int .i64 a0_5, .int .i64 a0_6, .int .i64 a0_7, .int .i64 a0_8]) (t := 71) ?hr ?_; (case hd => rfl); (case hg => rfl); (case hr => first | (go_simp; done) | (go_simp; rfl)); intro gb258 hg w8 hbox hb; have n0_ := Aside0.mk (below_step (by repeat (first | (with_reducible first | exact HB.out | apply below_alloc | apply pw_below_drewN | apply below_drew1) | exact HB.out)) hb); have n1_ := Aside0.mk ((show IsS71 w w8 gb258 a0_0 a0_1 a0_2 a0_3 a0_4 a0_5 a0_6 a0_7 a0_8 from ⟨hbox, (by rw [hg]; exact (below_size (by repeat (first | (with_reducible first | exact HB.out | apply below_alloc | apply pw_below_drewN | apply below_drew1) | exact HB.out))) : w.heap.size ≤ gb258)⟩)); clear HB; have HB := n0_; have hcq1 := (HB.out.cell (World.block_lt_of_cell? w _ HQ1.out)).trans HQ1.out; have hcq2 := (HB.out.cell (World.block_lt_of_cell? w _ HQ2.out)).trans HQ2.out; have hcq3 := (HB.out.cell (World.block_lt_of_cell? w _ HQ3.out)).trans HQ3.out; have hcq4 := (HB.out.cell (World.block_lt_of_cell? w _ HQ4.out)).trans HQ4.out; have hcq5 := (HB.out.cell (World.block_lt_of_cell? w _ HQ5.out)).trans HQ5.out; have HI258 := n1_; clear n0_ n1_; clear hb hbox hg) | ((with_reducible refine gate_callee (f := 109) rfl ?_); refine goesL_ (some 13) rfl rfl Try.func109 (by kernel_rfl) rfl #[.pointer (some ⟨gb258, 0, none⟩), .int .i64 a1, .int .i64 a2, .int .i64 a3, .int .i64 a4, .int .i64 a5] rfl (by (try simp only [List.map_toArray, List.map_cons, List.map_nil]); first | done | rfl | (simp only [List.length_drop, List.length_take]; rfl)) ?_; (with_reducible refine (impl_Flow_is.calls gb258 a0_0 a0_1 a0_2 a0_3 a0_4 a0_5 a0_6 a0_7 a0_8 a1 a2 a3 a4 a5 t259 w _ ?side1 ?side2 A7.out).mono ?_); (case side1 => repeat (first | (with_reducible first | exact HI258.out | apply IsS71.alloc | apply IsS71.drewN | apply IsS71.drew | apply IsS71.set_0 | apply IsS71.set_1 | apply IsS71.set_2 | apply IsS71.set_3 | apply IsS71.set_4 | apply IsS71.set_5 | apply IsS71.set_6 | apply IsS71.set_7 | apply IsS71.set_8) | exact HI258.out)); (case side2 => repeat (first | (with_reducible first | exact HB.out | apply below_alloc | apply pw_below_drewN | apply below_drew1 | refine below_set ?_ (IsS71.ge HI258.out)) | exact HB.out)); rintro e w9 ⟨rfl, hi, hb, hk⟩; refine ⟨_, rfl, ?_⟩; have n0_ := Aside0.mk (hb); have n1_ := Aside0.mk (hi); clear HB; clear HI258; have HB := n0_; have hcq1 := (HB.out.cell (World.block_lt_of_cell? w _ HQ1.out)).trans HQ1.out; have hcq2 := (HB.out.cell (World.block_lt_of_cell? w _ HQ2.out)).trans HQ2.out; have hcq3 := (HB.out.cell (World.block_lt_of_cell? w _ HQ3.out)).trans HQ3.out; have hcq4 := (HB.out.cell (World.block_lt_of_cell? w _ HQ4.out)).trans HQ4.out; have hcq5 := (HB.out.cell (World.block_lt_of_cell? w _ HQ5.out)).trans HQ5.out; have HI258 := n1_; clear n0_ n1_; (try clear hb); (try clear hb2); (try clear hk); (try clear hi)))
  go_ret
  exact ⟨by first | rfl | (simp [errW_none, errW_some] <;> rfl) | (simp [*, errW_none, errW_some] <;> rfl), by repeat (first | (with_reducible first | exact HB.out | apply below_alloc | apply pw_below_drewN | apply below_drew1 | refine below_set ?_ (IsS71.ge HI258.out)) | exact HB.out)⟩
end
section
/-! ### impl_find: function 78 -/
-- USES 108 110 107
def impl_find.f (k : Nat) (l0 : List S71) (a1 : Int) (a2 : Int) (a3 : Int) (a4 : Int) (a5 : Int) : Option (Int × Bool) := (idxP71 (fun x => impl_find_1.f x.f0 x.f1 x.f2 x.f3 x.f4 x.f5 x.f6 x.f7 x.f8 a1 a2 a3 a4 a5) l0 k 0).bind fun t => if t ≥ 0 then some (t, false) else (idxP71 (fun x => impl_find_2.f x.f0 x.f1 x.f2 x.f3 x.f4 x.f5 x.f6 x.f7 x.f8 a1 a4 a5 a2 a3) l0 k 0).bind fun u => some (u, decide (u ≥ 0))
theorem impl_find.mono : ∀ y0 y1 y2 y3 y4 y5 k, LeO (impl_find.f k y0 y1 y2 y3 y4 y5) (impl_find.f (k + 1) y0 y1 y2 y3 y4 y5) := fun l _ _ _ _ _ k => LeO.bind (idxP71_mono _ _ (fun _ => LeO.refl _) l k 0) (fun _ => LeO.ite (LeO.refl _) (LeO.bind (idxP71_mono _ _ (fun _ => LeO.refl _) l k 0) (fun _ => LeO.refl _)))
set_option maxHeartbeats 8000000 in
set_option maxRecDepth 100000 in
theorem impl_find.calls (k : Nat) (A0 : Option Addr) (c0 : Nat) (l0 : List S71) (a1 : Int) (a2 : Int) (a3 : Int) (a4 : Int) (a5 : Int) (r1 : Int) (r2 : Bool) (w : World) (hr0 : Kd.C k71 w A0 l0.length l0) (hc0 : l0.length ≤ c0) (h : impl_find.f k l0 a1 a2 a3 a4 a5 = some (r1, r2)) :
    Calls Try.prog 78 #[.slice A0 l0.length c0, .int .i64 a1, .int .i64 a2, .int .i64 a3, .int .i64 a4, .int .i64 a5] w fun e w' => e = .returned (.tuple #[.int .i64 r1, .bool r2]) ∧ Below w.heap.size w w' := by
  have HR := Aside0.mk hr0
  clear hr0 hc0
  have HB := Aside0.mk (Below.refl w.heap.size w)
  obtain ⟨t, h1, h2⟩ := Option.bind_eq_some_iff.mp (show ((idxP71 (fun x => impl_find_1.f x.f0 x.f1 x.f2 x.f3 x.f4 x.f5 x.f6 x.f7 x.f8 a1 a2 a3 a4 a5) l0 k 0).bind fun t => if t ≥ 0 then some (t, false) else (idxP71 (fun x => impl_find_2.f x.f0 x.f1 x.f2 x.f3 x.f4 x.f5 x.f6 x.f7 x.f8 a1 a4 a5 a2 a3) l0 k 0).bind fun u => some (u, decide (u ≥ 0))) = some (r1, r2) from h)
  clear h
  have H1 := Aside0.mk h1
  clear h1
  by_cases c : t ≥ 0
  · rw [if_pos c] at h2
    have cb0 : decide (0 ≤ t) = true := decide_eq_true c
    simp only [Option.some.injEq, Prod.mk.injEq] at h2
    obtain ⟨rfl, rfl⟩ := h2
    go_enter Try.func78, Try.ntmps78
    go_wp2_with (first | ((with_reducible refine gate_dst (N := 7) rfl ?_); refine box_event ?hg (N := 7) ?hd (cs := #[.int .i64 a1]) (t := 3) ?hr ?_; (case hd => rfl); (case hg => rfl); (case hr => first | (go_simp; done) | (go_simp; rfl)); intro gb7 hg w7 hbox hb; have n0_ := Aside0.mk (below_step HB.out hb); clear HB; have HB := n0_; clear n0_; have BK7 := Aside0.mk hbox; clear hg hb hbox) | ((with_reducible refine gate_dst (N := 8) rfl ?_); refine box_event ?hg (N := 8) ?hd (cs := #[.int .i64 a2]) (t := 3) ?hr ?_; (case hd => rfl); (case hg => rfl); (case hr => first | (go_simp; done) | (go_simp; rfl)); intro gb8 hg w8 hbox hb; have n0_ := Aside0.mk (below_step HB.out hb); clear HB; have HB := n0_; clear n0_; have n0_ := Aside0.mk (blk_below (g := gb7) (o := .cells #[.int .i64 a1] 3 (0, 0)) BK7.out hb); clear BK7; have BK7 := n0_; clear n0_; have BK8 := Aside0.mk hbox; clear hg hb hbox) | ((with_reducible refine gate_dst (N := 9) rfl ?_); refine box_event ?hg (N := 9) ?hd (cs := #[.int .i64 a3]) (t := 3) ?hr ?_; (case hd => rfl); (case hg => rfl); (case hr => first | (go_simp; done) | (go_simp; rfl)); intro gb9 hg w9 hbox hb; have n0_ := Aside0.mk (below_step HB.out hb); clear HB; have HB := n0_; clear n0_; have n0_ := Aside0.mk (blk_below (g := gb7) (o := .cells #[.int .i64 a1] 3 (0, 0)) BK7.out hb); clear BK7; have BK7 := n0_; clear n0_; have n0_ := Aside0.mk (blk_below (g := gb8) (o := .cells #[.int .i64 a2] 3 (0, 0)) BK8.out hb); clear BK8; have BK8 := n0_; clear n0_; have BK9 := Aside0.mk hbox; clear hg hb hbox) | ((with_reducible refine gate_dst (N := 10) rfl ?_); refine box_event ?hg (N := 10) ?hd (cs := #[.int .i64 a4]) (t := 3) ?hr ?_; (case hd => rfl); (case hg => rfl); (case hr => first | (go_simp; done) | (go_simp; rfl)); intro gb10 hg w10 hbox hb; have n0_ := Aside0.mk (below_step HB.out hb); clear HB; have HB := n0_; clear n0_; have n0_ := Aside0.mk (blk_below (g := gb7) (o := .cells #[.int .i64 a1] 3 (0, 0)) BK7.out hb); clear BK7; have BK7 := n0_; clear n0_; have n0_ := Aside0.mk (blk_below (g := gb8) (o := .cells #[.int .i64 a2] 3 (0, 0)) BK8.out hb); clear BK8; have BK8 := n0_; clear n0_; have n0_ := Aside0.mk (blk_below (g := gb9) (o := .cells #[.int .i64 a3] 3 (0, 0)) BK9.out hb); clear BK9; have BK9 := n0_; clear n0_; have BK10 := Aside0.mk hbox; clear hg hb hbox) | ((with_reducible refine gate_dst (N := 11) rfl ?_); refine box_event ?hg (N := 11) ?hd (cs := #[.int .i64 a5]) (t := 3) ?hr ?_; (case hd => rfl); (case hg => rfl); (case hr => first | (go_simp; done) | (go_simp; rfl)); intro gb11 hg w11 hbox hb; have n0_ := Aside0.mk (below_step HB.out hb); clear HB; have HB := n0_; clear n0_; have n0_ := Aside0.mk (blk_below (g := gb7) (o := .cells #[.int .i64 a1] 3 (0, 0)) BK7.out hb); clear BK7; have BK7 := n0_; clear n0_; have n0_ := Aside0.mk (blk_below (g := gb8) (o := .cells #[.int .i64 a2] 3 (0, 0)) BK8.out hb); clear BK8; have BK8 := n0_; clear n0_; have n0_ := Aside0.mk (blk_below (g := gb9) (o := .cells #[.int .i64 a3] 3 (0, 0)) BK9.out hb); clear BK9; have BK9 := n0_; clear n0_; have n0_ := Aside0.mk (blk_below (g := gb10) (o := .cells #[.int .i64 a4] 3 (0, 0)) BK10.out hb); clear BK10; have BK10 := n0_; clear n0_; have BK11 := Aside0.mk hbox; clear hg hb hbox) | (have h1_ := H1.out; clear H1; refine (indexFunc71 108 #[.pointer (some ⟨gb7, 0, none⟩), .pointer (some ⟨gb8, 0, none⟩), .pointer (some ⟨gb9, 0, none⟩), .pointer (some ⟨gb10, 0, none⟩), .pointer (some ⟨gb11, 0, none⟩)] (enters_ Try.func108 (by kernel_rfl) rfl) _ k A0 c0 l0 t _ (fun W x b hbW hx => (impl_find_1.calls gb7 gb8 gb9 gb10 gb11 x.f0 x.f1 x.f2 x.f3 x.f4 x.f5 x.f6 x.f7 x.f8 a1 a2 a3 a4 a5 b W ((hbW.cell (World.block_lt_of_cell? _ _ (blk_cell BK7.out 0))).trans ((blk_cell BK7.out 0).trans rfl)) ((hbW.cell (World.block_lt_of_cell? _ _ (blk_cell BK8.out 0))).trans ((blk_cell BK8.out 0).trans rfl)) ((hbW.cell (World.block_lt_of_cell? _ _ (blk_cell BK9.out 0))).trans ((blk_cell BK9.out 0).trans rfl)) ((hbW.cell (World.block_lt_of_cell? _ _ (blk_cell BK10.out 0))).trans ((blk_cell BK10.out 0).trans rfl)) ((hbW.cell (World.block_lt_of_cell? _ _ (blk_cell BK11.out 0))).trans ((blk_cell BK11.out 0).trans rfl)) hx).mono fun e w' h => ⟨h.1, below_step hbW h.2⟩) (Kd.C_below HR.out (by repeat (first | (with_reducible first | exact HB.out | apply below_alloc | apply pw_below_drewN | apply below_drew1) | exact HB.out))) h1_).mono ?_; clear h1_; rintro e w12 ⟨rfl, hb⟩; have n0_ := Aside0.mk (below_step (by repeat (first | (with_reducible first | exact HB.out | apply below_alloc | apply pw_below_drewN | apply below_drew1) | exact HB.out)) hb); clear HB; have HB := n0_; clear n0_; have n0_ := Aside0.mk (blk_below (g := gb7) (o := .cells #[.int .i64 a1] 3 (0, 0)) (by (with_reducible repeat (first | refine blk_drewN ?_ _ | refine blk_drew ?_ | refine blk_alloc ?_ _)); exact BK7.out) hb); clear BK7; have BK7 := n0_; clear n0_; have n0_ := Aside0.mk (blk_below (g := gb8) (o := .cells #[.int .i64 a2] 3 (0, 0)) (by (with_reducible repeat (first | refine blk_drewN ?_ _ | refine blk_drew ?_ | refine blk_alloc ?_ _)); exact BK8.out) hb); clear BK8; have BK8 := n0_; clear n0_; have n0_ := Aside0.mk (blk_below (g := gb9) (o := .cells #[.int .i64 a3] 3 (0, 0)) (by (with_reducible repeat (first | refine blk_drewN ?_ _ | refine blk_drew ?_ | refine blk_alloc ?_ _)); exact BK9.out) hb); clear BK9; have BK9 := n0_; clear n0_; have n0_ := Aside0.mk (blk_below (g := gb10) (o := .cells #[.int .i64 a4] 3 (0, 0)) (by (with_reducible repeat (first | refine blk_drewN ?_ _ | refine blk_drew ?_ | refine blk_alloc ?_ _)); exact BK10.out) hb); clear BK10; have BK10 := n0_; clear n0_; have n0_ := Aside0.mk (blk_below (g := gb11) (o := .cells #[.int .i64 a5] 3 (0, 0)) (by (with_reducible repeat (first | refine blk_drewN ?_ _ | refine blk_drew ?_ | refine blk_alloc ?_ _)); exact BK11.out) hb); clear BK11; have BK11 := n0_; clear n0_; clear hb))
    go_ret2
    exact ⟨rfl, by repeat (first | (with_reducible first | exact HB.out | apply below_alloc | apply pw_below_drewN | apply below_drew1) | exact HB.out)⟩
  · rw [if_neg c] at h2
    have cb0 : decide (0 ≤ t) = false := decide_eq_false c
    obtain ⟨u, h3, h4⟩ := Option.bind_eq_some_iff.mp h2
    simp only [Option.some.injEq, Prod.mk.injEq] at h4
    obtain ⟨rfl, rfl⟩ := h4
    have H3 := Aside0.mk h3
    clear h2 h3
    go_enter Try.func78, Try.ntmps78
    go_wp2_with (first | ((with_reducible refine gate_dst (N := 7) rfl ?_); refine box_event ?hg (N := 7) ?hd (cs := #[.int .i64 a1]) (t := 3) ?hr ?_; (case hd => rfl); (case hg => rfl); (case hr => first | (go_simp; done) | (go_simp; rfl)); intro gb7 hg w7 hbox hb; have n0_ := Aside0.mk (below_step HB.out hb); clear HB; have HB := n0_; clear n0_; have BK7 := Aside0.mk hbox; clear hg hb hbox) | ((with_reducible refine gate_dst (N := 8) rfl ?_); refine box_event ?hg (N := 8) ?hd (cs := #[.int .i64 a2]) (t := 3) ?hr ?_; (case hd => rfl); (case hg => rfl); (case hr => first | (go_simp; done) | (go_simp; rfl)); intro gb8 hg w8 hbox hb; have n0_ := Aside0.mk (below_step HB.out hb); clear HB; have HB := n0_; clear n0_; have n0_ := Aside0.mk (blk_below (g := gb7) (o := .cells #[.int .i64 a1] 3 (0, 0)) BK7.out hb); clear BK7; have BK7 := n0_; clear n0_; have BK8 := Aside0.mk hbox; clear hg hb hbox) | ((with_reducible refine gate_dst (N := 9) rfl ?_); refine box_event ?hg (N := 9) ?hd (cs := #[.int .i64 a3]) (t := 3) ?hr ?_; (case hd => rfl); (case hg => rfl); (case hr => first | (go_simp; done) | (go_simp; rfl)); intro gb9 hg w9 hbox hb; have n0_ := Aside0.mk (below_step HB.out hb); clear HB; have HB := n0_; clear n0_; have n0_ := Aside0.mk (blk_below (g := gb7) (o := .cells #[.int .i64 a1] 3 (0, 0)) BK7.out hb); clear BK7; have BK7 := n0_; clear n0_; have n0_ := Aside0.mk (blk_below (g := gb8) (o := .cells #[.int .i64 a2] 3 (0, 0)) BK8.out hb); clear BK8; have BK8 := n0_; clear n0_; have BK9 := Aside0.mk hbox; clear hg hb hbox) | ((with_reducible refine gate_dst (N := 10) rfl ?_); refine box_event ?hg (N := 10) ?hd (cs := #[.int .i64 a4]) (t := 3) ?hr ?_; (case hd => rfl); (case hg => rfl); (case hr => first | (go_simp; done) | (go_simp; rfl)); intro gb10 hg w10 hbox hb; have n0_ := Aside0.mk (below_step HB.out hb); clear HB; have HB := n0_; clear n0_; have n0_ := Aside0.mk (blk_below (g := gb7) (o := .cells #[.int .i64 a1] 3 (0, 0)) BK7.out hb); clear BK7; have BK7 := n0_; clear n0_; have n0_ := Aside0.mk (blk_below (g := gb8) (o := .cells #[.int .i64 a2] 3 (0, 0)) BK8.out hb); clear BK8; have BK8 := n0_; clear n0_; have n0_ := Aside0.mk (blk_below (g := gb9) (o := .cells #[.int .i64 a3] 3 (0, 0)) BK9.out hb); clear BK9; have BK9 := n0_; clear n0_; have BK10 := Aside0.mk hbox; clear hg hb hbox) | ((with_reducible refine gate_dst (N := 11) rfl ?_); refine box_event ?hg (N := 11) ?hd (cs := #[.int .i64 a5]) (t := 3) ?hr ?_; (case hd => rfl); (case hg => rfl); (case hr => first | (go_simp; done) | (go_simp; rfl)); intro gb11 hg w11 hbox hb; have n0_ := Aside0.mk (below_step HB.out hb); clear HB; have HB := n0_; clear n0_; have n0_ := Aside0.mk (blk_below (g := gb7) (o := .cells #[.int .i64 a1] 3 (0, 0)) BK7.out hb); clear BK7; have BK7 := n0_; clear n0_; have n0_ := Aside0.mk (blk_below (g := gb8) (o := .cells #[.int .i64 a2] 3 (0, 0)) BK8.out hb); clear BK8; have BK8 := n0_; clear n0_; have n0_ := Aside0.mk (blk_below (g := gb9) (o := .cells #[.int .i64 a3] 3 (0, 0)) BK9.out hb); clear BK9; have BK9 := n0_; clear n0_; have n0_ := Aside0.mk (blk_below (g := gb10) (o := .cells #[.int .i64 a4] 3 (0, 0)) BK10.out hb); clear BK10; have BK10 := n0_; clear n0_; have BK11 := Aside0.mk hbox; clear hg hb hbox) | (have h1_ := H1.out; clear H1; refine (indexFunc71 108 #[.pointer (some ⟨gb7, 0, none⟩), .pointer (some ⟨gb8, 0, none⟩), .pointer (some ⟨gb9, 0, none⟩), .pointer (some ⟨gb10, 0, none⟩), .pointer (some ⟨gb11, 0, none⟩)] (enters_ Try.func108 (by kernel_rfl) rfl) _ k A0 c0 l0 t _ (fun W x b hbW hx => (impl_find_1.calls gb7 gb8 gb9 gb10 gb11 x.f0 x.f1 x.f2 x.f3 x.f4 x.f5 x.f6 x.f7 x.f8 a1 a2 a3 a4 a5 b W ((hbW.cell (World.block_lt_of_cell? _ _ (blk_cell BK7.out 0))).trans ((blk_cell BK7.out 0).trans rfl)) ((hbW.cell (World.block_lt_of_cell? _ _ (blk_cell BK8.out 0))).trans ((blk_cell BK8.out 0).trans rfl)) ((hbW.cell (World.block_lt_of_cell? _ _ (blk_cell BK9.out 0))).trans ((blk_cell BK9.out 0).trans rfl)) ((hbW.cell (World.block_lt_of_cell? _ _ (blk_cell BK10.out 0))).trans ((blk_cell BK10.out 0).trans rfl)) ((hbW.cell (World.block_lt_of_cell? _ _ (blk_cell BK11.out 0))).trans ((blk_cell BK11.out 0).trans rfl)) hx).mono fun e w' h => ⟨h.1, below_step hbW h.2⟩) (Kd.C_below HR.out (by repeat (first | (with_reducible first | exact HB.out | apply below_alloc | apply pw_below_drewN | apply below_drew1) | exact HB.out))) h1_).mono ?_; clear h1_; rintro e w12 ⟨rfl, hb⟩; have n0_ := Aside0.mk (below_step (by repeat (first | (with_reducible first | exact HB.out | apply below_alloc | apply pw_below_drewN | apply below_drew1) | exact HB.out)) hb); clear HB; have HB := n0_; clear n0_; have n0_ := Aside0.mk (blk_below (g := gb7) (o := .cells #[.int .i64 a1] 3 (0, 0)) (by (with_reducible repeat (first | refine blk_drewN ?_ _ | refine blk_drew ?_ | refine blk_alloc ?_ _)); exact BK7.out) hb); clear BK7; have BK7 := n0_; clear n0_; have n0_ := Aside0.mk (blk_below (g := gb8) (o := .cells #[.int .i64 a2] 3 (0, 0)) (by (with_reducible repeat (first | refine blk_drewN ?_ _ | refine blk_drew ?_ | refine blk_alloc ?_ _)); exact BK8.out) hb); clear BK8; have BK8 := n0_; clear n0_; have n0_ := Aside0.mk (blk_below (g := gb9) (o := .cells #[.int .i64 a3] 3 (0, 0)) (by (with_reducible repeat (first | refine blk_drewN ?_ _ | refine blk_drew ?_ | refine blk_alloc ?_ _)); exact BK9.out) hb); clear BK9; have BK9 := n0_; clear n0_; have n0_ := Aside0.mk (blk_below (g := gb10) (o := .cells #[.int .i64 a4] 3 (0, 0)) (by (with_reducible repeat (first | refine blk_drewN ?_ _ | refine blk_drew ?_ | refine blk_alloc ?_ _)); exact BK10.out) hb); clear BK10; have BK10 := n0_; clear n0_; have n0_ := Aside0.mk (blk_below (g := gb11) (o := .cells #[.int .i64 a5] 3 (0, 0)) (by (with_reducible repeat (first | refine blk_drewN ?_ _ | refine blk_drew ?_ | refine blk_alloc ?_ _)); exact BK11.out) hb); clear BK11; have BK11 := n0_; clear n0_; clear hb) | (have h1_ := H3.out; clear H3; refine (indexFunc71 110 #[.pointer (some ⟨gb7, 0, none⟩), .pointer (some ⟨gb10, 0, none⟩), .pointer (some ⟨gb11, 0, none⟩), .pointer (some ⟨gb8, 0, none⟩), .pointer (some ⟨gb9, 0, none⟩)] (enters_ Try.func110 (by kernel_rfl) rfl) _ k A0 c0 l0 u _ (fun W x b hbW hx => (impl_find_2.calls gb7 gb10 gb11 gb8 gb9 x.f0 x.f1 x.f2 x.f3 x.f4 x.f5 x.f6 x.f7 x.f8 a1 a4 a5 a2 a3 b W ((hbW.cell (World.block_lt_of_cell? _ _ (blk_cell BK7.out 0))).trans ((blk_cell BK7.out 0).trans rfl)) ((hbW.cell (World.block_lt_of_cell? _ _ (blk_cell BK10.out 0))).trans ((blk_cell BK10.out 0).trans rfl)) ((hbW.cell (World.block_lt_of_cell? _ _ (blk_cell BK11.out 0))).trans ((blk_cell BK11.out 0).trans rfl)) ((hbW.cell (World.block_lt_of_cell? _ _ (blk_cell BK8.out 0))).trans ((blk_cell BK8.out 0).trans rfl)) ((hbW.cell (World.block_lt_of_cell? _ _ (blk_cell BK9.out 0))).trans ((blk_cell BK9.out 0).trans rfl)) hx).mono fun e w' h => ⟨h.1, below_step hbW h.2⟩) (Kd.C_below HR.out (by repeat (first | (with_reducible first | exact HB.out | apply below_alloc | apply pw_below_drewN | apply below_drew1) | exact HB.out))) h1_).mono ?_; clear h1_; rintro e w13 ⟨rfl, hb⟩; have n0_ := Aside0.mk (below_step (by repeat (first | (with_reducible first | exact HB.out | apply below_alloc | apply pw_below_drewN | apply below_drew1) | exact HB.out)) hb); clear HB; have HB := n0_; clear n0_; have n0_ := Aside0.mk (blk_below (g := gb7) (o := .cells #[.int .i64 a1] 3 (0, 0)) (by (with_reducible repeat (first | refine blk_drewN ?_ _ | refine blk_drew ?_ | refine blk_alloc ?_ _)); exact BK7.out) hb); clear BK7; have BK7 := n0_; clear n0_; have n0_ := Aside0.mk (blk_below (g := gb8) (o := .cells #[.int .i64 a2] 3 (0, 0)) (by (with_reducible repeat (first | refine blk_drewN ?_ _ | refine blk_drew ?_ | refine blk_alloc ?_ _)); exact BK8.out) hb); clear BK8; have BK8 := n0_; clear n0_; have n0_ := Aside0.mk (blk_below (g := gb9) (o := .cells #[.int .i64 a3] 3 (0, 0)) (by (with_reducible repeat (first | refine blk_drewN ?_ _ | refine blk_drew ?_ | refine blk_alloc ?_ _)); exact BK9.out) hb); clear BK9; have BK9 := n0_; clear n0_; have n0_ := Aside0.mk (blk_below (g := gb10) (o := .cells #[.int .i64 a4] 3 (0, 0)) (by (with_reducible repeat (first | refine blk_drewN ?_ _ | refine blk_drew ?_ | refine blk_alloc ?_ _)); exact BK10.out) hb); clear BK10; have BK10 := n0_; clear n0_; have n0_ := Aside0.mk (blk_below (g := gb11) (o := .cells #[.int .i64 a5] 3 (0, 0)) (by (with_reducible repeat (first | refine blk_drewN ?_ _ | refine blk_drew ?_ | refine blk_alloc ?_ _)); exact BK11.out) hb); clear BK11; have BK11 := n0_; clear n0_; clear hb))
    go_ret2
    exact ⟨rfl, by repeat (first | (with_reducible first | exact HB.out | apply below_alloc | apply pw_below_drewN | apply below_drew1) | exact HB.out)⟩
end
end Go.Proofs.Ytlpkldomoniegaa.X
