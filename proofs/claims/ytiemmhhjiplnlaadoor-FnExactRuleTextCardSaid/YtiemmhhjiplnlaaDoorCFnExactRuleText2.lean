/- The program's RuleText returns what the reference's RuleText returns, for all arguments. Conditions: the package-level variables that the row lists read as the program's own text lays them (tied by the card). -/
import Derived.Test.YtiemmhhjiplnlaaDoorCFnExactRuleText1
import Derived.Test.YtiemmhhjiplnlaaDoorRows
import Derived.Test.YtiemmhhjiplnlaaDoorCards
import Derived.Test.YtiemmhhjiplnlaaDoorTie
namespace Go.Proofs.YtiemmhhjiplnlaaDoor.X
open Go.RowKit Go.Proofs.YtiemmhhjiplnlaaDoorW.PrintWords Go.Proofs.YtiemmhhjiplnlaaDoorW.PrintLast Go.Proofs.YtiemmhhjiplnlaaDoorW.PrintMore
attribute [local go_sem] max2_int min2_int max_two min_two max_three min_three max_four min_four   -- for this text's walks alone
set_option linter.unusedVariables false
set_option linter.unusedSimpArgs false
section
/-! ### impl_RuleOK: function 18 -/
def impl_RuleOK.f (k : Nat) (a0_0 : Int) (a0_1 : Int) (a0_2 : Int) (a0_3 : Int) (a0_4 : Int) (a0_5 : Bool) : Option (Bool) := (slices_Contains_int_int.f k (([0, 1, 6, 17] : List Int)) a0_0).bind fun t174 => (if t174 = true then ((impl_NetOK.f a0_1 a0_2).bind fun t175 => (if t175 = true then ((impl_rangeOK.f a0_3 a0_4).bind fun t176 => (some t176)) else (some false))) else (some false))
theorem impl_RuleOK.mono : ∀ a0 a1 a2 a3 a4 a5 k, LeO (impl_RuleOK.f k a0 a1 a2 a3 a4 a5) (impl_RuleOK.f (k + 1) a0 a1 a2 a3 a4 a5) := by
  intro a0 a1 a2 a3 a4 a5 k
  unfold impl_RuleOK.f
  repeat' first
      | (with_reducible exact slices_Contains_int_int.mono _ _ _)
      | (with_reducible exact LeO.refl _)
      | (with_reducible exact LeO.none _)
      | (with_reducible refine LeO.ite ?_ ?_)
      | (with_reducible refine LeO.bind ?_ (fun _ => ?_))
      | exact slices_Contains_int_int.mono _ _ _
      | exact LeO.none _
      | refine LeO.ite ?_ ?_
      | refine LeO.bind ?_ (fun _ => ?_)
set_option maxHeartbeats 8000000 in
set_option maxRecDepth 100000 in
theorem impl_RuleOK.calls (k : Nat) (a0_0 : Int) (a0_1 : Int) (a0_2 : Int) (a0_3 : Int) (a0_4 : Int) (a0_5 : Bool) (r : Bool) (w : World) (h : impl_RuleOK.f k a0_0 a0_1 a0_2 a0_3 a0_4 a0_5 = some r) :
    Calls Tryd.prog 18 #[.agg #[.int .i64 a0_0, .int .i64 a0_1, .int .i64 a0_2, .int .i64 a0_3, .int .i64 a0_4, .bool a0_5]] w fun e w' => e = .returned (.bool r) ∧ Below w.heap.size w w' := by
  have hu33 := Tryd.underlying33
  have hu30 := Tryd.underlying30
  have hu31 := Tryd.underlying31
  have HB := Aside0.mk (Below.refl w.heap.size w)
  have H : ((slices_Contains_int_int.f k (([0, 1, 6, 17] : List Int)) a0_0).bind fun t174 => (if t174 = true then ((impl_NetOK.f a0_1 a0_2).bind fun t175 => (if t175 = true then ((impl_rangeOK.f a0_3 a0_4).bind fun t176 => (some t176)) else (some false))) else (some false))) = some r := h
  clear h
  obtain ⟨y171, hy171⟩ : ∃ y_ : List Int, y_ = (([0, 1, 6, 17] : List Int)) := ⟨_, rfl⟩
  replace H : ((slices_Contains_int_int.f k y171 a0_0).bind fun t174 => (if t174 = true then ((impl_NetOK.f a0_1 a0_2).bind fun t175 => (if t175 = true then ((impl_rangeOK.f a0_3 a0_4).bind fun t176 => (some t176)) else (some false))) else (some false))) = some r := by first | (rw [hy171]; with_reducible exact H) | (have H2_ := (Option.bind_some _ _).symm.trans H; rw [hy171]; with_reducible exact H2_) | (have H2_ := (Option.bind_some _ _).symm.trans H; with_reducible exact H2_) | with_reducible exact H | (rw [hy171]; exact H) | exact H
  have Ny171 := Aside0.mk hy171
  clear hy171
  replace H := Option.bind_eq_some_iff.mp H
  obtain ⟨t174, A20, H⟩ := H
  replace H : (if t174 = true then ((impl_NetOK.f a0_1 a0_2).bind fun t175 => (if t175 = true then ((impl_rangeOK.f a0_3 a0_4).bind fun t176 => (some t176)) else (some false))) else (some false)) = some r := H
  have A2 := Aside0.mk A20
  clear A20
  by_cases c3 : t174 = true
  · subst c3
    have H1 : ((impl_NetOK.f a0_1 a0_2).bind fun t175 => (if t175 = true then ((impl_rangeOK.f a0_3 a0_4).bind fun t176 => (some t176)) else (some false))) = some r := by rw [if_pos rfl] at H; exact H
    clear H
    have H := H1
    clear H1
    replace H := Option.bind_eq_some_iff.mp H
    obtain ⟨t175, A40, H⟩ := H
    replace H : (if t175 = true then ((impl_rangeOK.f a0_3 a0_4).bind fun t176 => (some t176)) else (some false)) = some r := H
    have A4 := Aside0.mk A40
    clear A40
    by_cases c5 : t175 = true
    · subst c5
      have H1 : ((impl_rangeOK.f a0_3 a0_4).bind fun t176 => (some t176)) = some r := by rw [if_pos rfl] at H; exact H
      clear H
      have H := H1
      clear H1
      replace H := Option.bind_eq_some_iff.mp H
      obtain ⟨t176, A60, H⟩ := H
      replace H : (some t176) = some r := H
      have A6 := Aside0.mk A60
      clear A60
      obtain rfl := Option.some.inj H
      go_enter Tryd.func18, Tryd.ntmps18
      go_wp2_with (first | ((with_reducible refine gate_dst (N := 1) rfl ?_); refine box_event ?hg (N := 1) ?hd (cs := #[.int .i64 a0_0, .int .i64 a0_1, .int .i64 a0_2, .int .i64 a0_3, .int .i64 a0_4, .bool a0_5]) (t := 33) ?hr ?_; (case hd => rfl); (case hg => rfl); (case hr => first | (go_simp; done) | (go_simp; rfl)); intro gb170 hg w7 hbox hb; have n0_ := Aside0.mk (below_step (by repeat (first | (with_reducible first | exact HB.out | apply below_alloc | apply pw_below_drewN | apply below_drew1) | exact HB.out)) hb); have n1_ := Aside0.mk (hbox); have n2_ := Aside0.mk ((by rw [hg]; exact (below_size (by repeat (first | (with_reducible first | exact HB.out | apply below_alloc | apply pw_below_drewN | apply below_drew1) | exact HB.out))) : w.heap.size ≤ gb170)); have n3_ := Aside0.mk ((by rw [hg]; exact (below_size (by repeat (first | (with_reducible first | exact HB.out | apply below_alloc | apply pw_below_drewN | apply below_drew1) | exact HB.out))) : w.heap.size ≤ gb170)); clear HB; have HB := n0_; have BK170 := n1_; have GW170 := n2_; have GE170 := n3_; clear n0_ n1_ n2_ n3_; clear hb hbox hg) | ((with_reducible refine gate_dst (N := 3) rfl ?_); refine Kd.R_lit (Kd.int .i64) _ 3 ?hg (N := 3) ?hd (xs := ([0, 1, 6, 17] : List Int)) (inner := [.int .i64 0, .int .i64 1, .int .i64 6, .int .i64 17]) (ok := fun _ => True) (okp := fun _ => True) ?hr ?hp (fun _ hk => hk) trivial (Below.refl _ _) (Nat.le_refl _) (by simp) ?_; (case hd => rfl); (case hg => rfl); (case hr => first | (go_simp; done) | (go_simp; rfl)); (case hp => exact (Reps.one (show Kd.M (Kd.int .i64) _ _ _ 0 [.int .i64 0] from rfl) (Reps.one (show Kd.M (Kd.int .i64) _ _ _ 1 [.int .i64 1] from rfl) (Reps.one (show Kd.M (Kd.int .i64) _ _ _ 6 [.int .i64 6] from rfl) (Reps.one (show Kd.M (Kd.int .i64) _ _ _ 17 [.int .i64 17] from rfl) (Reps.none _ _)))))); intro v172 w8 ho9 hb hg_ hnew_; clear hg_ hnew_; (first | rw [← Ny171.out] at ho9 | (simp only [Int.reduceToNat] at ho9; rw [← Ny171.out] at ho9)); have n0_ := Aside0.mk (Kd.R_lower ho9 (below_size (by repeat (first | (with_reducible first | exact HB.out | apply below_alloc | apply pw_below_drewN | apply below_drew1 | refine below_set ?_ GE170.out) | exact HB.out)))); have n1_ := Aside0.mk (blk_below (g := gb170) (o := .cells #[.int .i64 a0_0, .int .i64 a0_1, .int .i64 a0_2, .int .i64 a0_3, .int .i64 a0_4, .bool a0_5] 33 (0, 0)) (by (with_reducible repeat (first | refine blk_drewN ?_ _ | refine blk_drew ?_ | refine blk_alloc ?_ _)); exact BK170.out) hb); have n2_ := Aside0.mk (below_step (by repeat (first | (with_reducible first | exact HB.out | apply below_alloc | apply pw_below_drewN | apply below_drew1 | refine below_set ?_ GE170.out) | exact HB.out)) hb); clear BK170; clear HB; have HO173 := n0_; have BK170 := n1_; have HB := n2_; clear n0_ n1_ n2_; clear hb ho9; have hcz10_0 : w8.cell? ⟨gb170, 0, none⟩ = some (.int .i64 a0_0) := (blk_cell BK170.out 0).trans rfl; have hcz10_1 : w8.cell? ⟨gb170, 1, none⟩ = some (.int .i64 a0_1) := (blk_cell BK170.out 1).trans rfl; have hcz10_2 : w8.cell? ⟨gb170, 2, none⟩ = some (.int .i64 a0_2) := (blk_cell BK170.out 2).trans rfl; have hcz10_3 : w8.cell? ⟨gb170, 3, none⟩ = some (.int .i64 a0_3) := (blk_cell BK170.out 3).trans rfl; have hcz10_4 : w8.cell? ⟨gb170, 4, none⟩ = some (.int .i64 a0_4) := (blk_cell BK170.out 4).trans rfl; have hcz10_5 : w8.cell? ⟨gb170, 5, none⟩ = some (.bool a0_5) := (blk_cell BK170.out 5).trans rfl; have hfz10_0 := blk_frozen BK170.out 0; have hfz10_1 := blk_frozen BK170.out 1; have hfz10_2 := blk_frozen BK170.out 2; have hfz10_3 := blk_frozen BK170.out 3; have hfz10_4 := blk_frozen BK170.out 4; have hfz10_5 := blk_frozen BK170.out 5; obtain ⟨Ao11, co11, eo11⟩ := Kd.R_slice HO173.out; subst eo11) | ((with_reducible refine gate_callee (f := 32) rfl ?_); refine goesL_ (some 6) rfl rfl Tryd.func32 (by kernel_rfl) rfl #[.slice Ao11 y171.length co11, .int .i64 a0_0] rfl (by (try simp only [List.map_toArray, List.map_cons, List.map_nil]); first | done | rfl | (simp only [List.length_drop, List.length_take]; rfl)) ?_; (with_reducible refine (slices_Contains_int_int.calls k _ _ y171 a0_0 true _ ?side1 ?side2 A2.out).mono ?_); (case side1 => repeat (first | exact (Kd.R_reads' HO173.out).2.2 | (with_reducible refine Kd.C_alloc ?_ _) | (with_reducible refine Kd.C_drewN ?_ _) | (with_reducible refine Kd.C_drew ?_))); (case side2 => exact (Kd.R_reads' HO173.out).2.1); rintro e w' ⟨rfl, ⟨nd, rfl⟩⟩; refine ⟨_, rfl, ?_⟩) | (go_at_call 33; (with_reducible refine (impl_NetOK.calls a0_1 a0_2 true _ A4.out).mono ?_); rintro e w12 ⟨rfl, hb⟩; have n0_ := Aside0.mk (Kd.R_below (by (with_reducible repeat (first | apply Kd.R_alloc | apply Kd.R_drewN | apply Kd.R_drew)); exact HO173.out) hb); have n1_ := Aside0.mk (blk_below (g := gb170) (o := .cells #[.int .i64 a0_0, .int .i64 a0_1, .int .i64 a0_2, .int .i64 a0_3, .int .i64 a0_4, .bool a0_5] 33 (0, 0)) (by (with_reducible repeat (first | refine blk_drewN ?_ _ | refine blk_drew ?_ | refine blk_alloc ?_ _)); exact BK170.out) hb); have n2_ := Aside0.mk (below_step (by repeat (first | (with_reducible first | exact HB.out | apply below_alloc | apply pw_below_drewN | apply below_drew1 | refine below_set ?_ GE170.out) | exact HB.out)) hb); clear HO173; clear BK170; clear HB; have HO173 := n0_; have BK170 := n1_; have HB := n2_; clear n0_ n1_ n2_; (try clear hb); (try clear hb2); (try clear hk); (try clear hi); have hcz13_0 : w12.cell? ⟨gb170, 0, none⟩ = some (.int .i64 a0_0) := (blk_cell BK170.out 0).trans rfl; have hcz13_1 : w12.cell? ⟨gb170, 1, none⟩ = some (.int .i64 a0_1) := (blk_cell BK170.out 1).trans rfl; have hcz13_2 : w12.cell? ⟨gb170, 2, none⟩ = some (.int .i64 a0_2) := (blk_cell BK170.out 2).trans rfl; have hcz13_3 : w12.cell? ⟨gb170, 3, none⟩ = some (.int .i64 a0_3) := (blk_cell BK170.out 3).trans rfl; have hcz13_4 : w12.cell? ⟨gb170, 4, none⟩ = some (.int .i64 a0_4) := (blk_cell BK170.out 4).trans rfl; have hcz13_5 : w12.cell? ⟨gb170, 5, none⟩ = some (.bool a0_5) := (blk_cell BK170.out 5).trans rfl; have hfz13_0 := blk_frozen BK170.out 0; have hfz13_1 := blk_frozen BK170.out 1; have hfz13_2 := blk_frozen BK170.out 2; have hfz13_3 := blk_frozen BK170.out 3; have hfz13_4 := blk_frozen BK170.out 4; have hfz13_5 := blk_frozen BK170.out 5) | (go_at_call 34; (with_reducible refine (impl_rangeOK.calls a0_3 a0_4 t176 _ A6.out).mono ?_); rintro e w14 ⟨rfl, hb⟩; have n0_ := Aside0.mk (Kd.R_below (by (with_reducible repeat (first | apply Kd.R_alloc | apply Kd.R_drewN | apply Kd.R_drew)); exact HO173.out) hb); have n1_ := Aside0.mk (blk_below (g := gb170) (o := .cells #[.int .i64 a0_0, .int .i64 a0_1, .int .i64 a0_2, .int .i64 a0_3, .int .i64 a0_4, .bool a0_5] 33 (0, 0)) (by (with_reducible repeat (first | refine blk_drewN ?_ _ | refine blk_drew ?_ | refine blk_alloc ?_ _)); exact BK170.out) hb); have n2_ := Aside0.mk (below_step (by repeat (first | (with_reducible first | exact HB.out | apply below_alloc | apply pw_below_drewN | apply below_drew1 | refine below_set ?_ GE170.out) | exact HB.out)) hb); clear HO173; clear BK170; clear HB; have HO173 := n0_; have BK170 := n1_; have HB := n2_; clear n0_ n1_ n2_; (try clear hb); (try clear hb2); (try clear hk); (try clear hi)))
      go_ret
      exact ⟨by first | rfl | (simp [errW_none, errW_some] <;> rfl) | (simp [*, errW_none, errW_some] <;> rfl), by repeat (first | (with_reducible first | exact HB.out | apply below_alloc | apply pw_below_drewN | apply below_drew1 | refine below_set ?_ GE170.out) | exact HB.out)⟩
    · replace c5 := Bool.eq_false_iff.mpr c5
      subst c5
      have H1 : (some false) = some r := by rw [if_neg (show ¬ (false = true) by decide)] at H; exact H
      clear H
      have H := H1
      clear H1
      obtain rfl := Option.some.inj H
      go_enter Tryd.func18, Tryd.ntmps18
      go_wp2_with (first | ((with_reducible refine gate_dst (N := 1) rfl ?_); refine box_event ?hg (N := 1) ?hd (cs := #[.int .i64 a0_0, .int .i64 a0_1, .int .i64 a0_2, .int .i64 a0_3, .int .i64 a0_4, .bool a0_5]) (t := 33) ?hr ?_; (case hd => rfl); (case hg => rfl); (case hr => first | (go_simp; done) | (go_simp; rfl)); intro gb170 hg w15 hbox hb; have n0_ := Aside0.mk (below_step (by repeat (first | (with_reducible first | exact HB.out | apply below_alloc | apply pw_below_drewN | apply below_drew1) | exact HB.out)) hb); have n1_ := Aside0.mk (hbox); have n2_ := Aside0.mk ((by rw [hg]; exact (below_size (by repeat (first | (with_reducible first | exact HB.out | apply below_alloc | apply pw_below_drewN | apply below_drew1) | exact HB.out))) : w.heap.size ≤ gb170)); have n3_ := Aside0.mk ((by rw [hg]; exact (below_size (by repeat (first | (with_reducible first | exact HB.out | apply below_alloc | apply pw_below_drewN | apply below_drew1) | exact HB.out))) : w.heap.size ≤ gb170)); clear HB; have HB := n0_; have BK170 := n1_; have GW170 := n2_; have GE170 := n3_; clear n0_ n1_ n2_ n3_; clear hb hbox hg) | ((with_reducible refine gate_dst (N := 3) rfl ?_); refine Kd.R_lit (Kd.int .i64) _ 3 ?hg (N := 3) ?hd (xs := ([0, 1, 6, 17] : List Int)) (inner := [.int .i64 0, .int .i64 1, .int .i64 6, .int .i64 17]) (ok := fun _ => True) (okp := fun _ => True) ?hr ?hp (fun _ hk => hk) trivial (Below.refl _ _) (Nat.le_refl _) (by simp) ?_; (case hd => rfl); (case hg => rfl); (case hr => first | (go_simp; done) | (go_simp; rfl)); (case hp => exact (Reps.one (show Kd.M (Kd.int .i64) _ _ _ 0 [.int .i64 0] from rfl) (Reps.one (show Kd.M (Kd.int .i64) _ _ _ 1 [.int .i64 1] from rfl) (Reps.one (show Kd.M (Kd.int .i64) _ _ _ 6 [.int .i64 6] from rfl) (Reps.one (show Kd.M (Kd.int .i64) _ _ _ 17 [.int .i64 17] from rfl) (Reps.none _ _)))))); intro v172 w16 ho17 hb hg_ hnew_; clear hg_ hnew_; (first | rw [← Ny171.out] at ho17 | (simp only [Int.reduceToNat] at ho17; rw [← Ny171.out] at ho17)); have n0_ := Aside0.mk (Kd.R_lower ho17 (below_size (by repeat (first | (with_reducible first | exact HB.out | apply below_alloc | apply pw_below_drewN | apply below_drew1 | refine below_set ?_ GE170.out) | exact HB.out)))); have n1_ := Aside0.mk (blk_below (g := gb170) (o := .cells #[.int .i64 a0_0, .int .i64 a0_1, .int .i64 a0_2, .int .i64 a0_3, .int .i64 a0_4, .bool a0_5] 33 (0, 0)) (by (with_reducible repeat (first | refine blk_drewN ?_ _ | refine blk_drew ?_ | refine blk_alloc ?_ _)); exact BK170.out) hb); have n2_ := Aside0.mk (below_step (by repeat (first | (with_reducible first | exact HB.out | apply below_alloc | apply pw_below_drewN | apply below_drew1 | refine below_set ?_ GE170.out) | exact HB.out)) hb); clear BK170; clear HB; have HO173 := n0_; have BK170 := n1_; have HB := n2_; clear n0_ n1_ n2_; clear hb ho17; have hcz18_0 : w16.cell? ⟨gb170, 0, none⟩ = some (.int .i64 a0_0) := (blk_cell BK170.out 0).trans rfl; have hcz18_1 : w16.cell? ⟨gb170, 1, none⟩ = some (.int .i64 a0_1) := (blk_cell BK170.out 1).trans rfl; have hcz18_2 : w16.cell? ⟨gb170, 2, none⟩ = some (.int .i64 a0_2) := (blk_cell BK170.out 2).trans rfl; have hcz18_3 : w16.cell? ⟨gb170, 3, none⟩ = some (.int .i64 a0_3) := (blk_cell BK170.out 3).trans rfl; have hcz18_4 : w16.cell? ⟨gb170, 4, none⟩ = some (.int .i64 a0_4) := (blk_cell BK170.out 4).trans rfl; have hcz18_5 : w16.cell? ⟨gb170, 5, none⟩ = some (.bool a0_5) := (blk_cell BK170.out 5).trans rfl; have hfz18_0 := blk_frozen BK170.out 0; have hfz18_1 := blk_frozen BK170.out 1; have hfz18_2 := blk_frozen BK170.out 2; have hfz18_3 := blk_frozen BK170.out 3; have hfz18_4 := blk_frozen BK170.out 4; have hfz18_5 := blk_frozen BK170.out 5; obtain ⟨Ao19, co19, eo19⟩ := Kd.R_slice HO173.out; subst eo19) | ((with_reducible refine gate_callee (f := 32) rfl ?_); refine goesL_ (some 6) rfl rfl Tryd.func32 (by kernel_rfl) rfl #[.slice Ao19 y171.length co19, .int .i64 a0_0] rfl (by (try simp only [List.map_toArray, List.map_cons, List.map_nil]); first | done | rfl | (simp only [List.length_drop, List.length_take]; rfl)) ?_; (with_reducible refine (slices_Contains_int_int.calls k _ _ y171 a0_0 true _ ?side1 ?side2 A2.out).mono ?_); (case side1 => repeat (first | exact (Kd.R_reads' HO173.out).2.2 | (with_reducible refine Kd.C_alloc ?_ _) | (with_reducible refine Kd.C_drewN ?_ _) | (with_reducible refine Kd.C_drew ?_))); (case side2 => exact (Kd.R_reads' HO173.out).2.1); rintro e w' ⟨rfl, ⟨nd, rfl⟩⟩; refine ⟨_, rfl, ?_⟩) | (go_at_call 33; (with_reducible refine (impl_NetOK.calls a0_1 a0_2 false _ A4.out).mono ?_); rintro e w20 ⟨rfl, hb⟩; have n0_ := Aside0.mk (Kd.R_below (by (with_reducible repeat (first | apply Kd.R_alloc | apply Kd.R_drewN | apply Kd.R_drew)); exact HO173.out) hb); have n1_ := Aside0.mk (blk_below (g := gb170) (o := .cells #[.int .i64 a0_0, .int .i64 a0_1, .int .i64 a0_2, .int .i64 a0_3, .int .i64 a0_4, .bool a0_5] 33 (0, 0)) (by (with_reducible repeat (first | refine blk_drewN ?_ _ | refine blk_drew ?_ | refine blk_alloc ?_ _)); exact BK170.out) hb); have n2_ := Aside0.mk (below_step (by repeat (first | (with_reducible first | exact HB.out | apply below_alloc | apply pw_below_drewN | apply below_drew1 | refine below_set ?_ GE170.out) | exact HB.out)) hb); clear HO173; clear BK170; clear HB; have HO173 := n0_; have BK170 := n1_; have HB := n2_; clear n0_ n1_ n2_; (try clear hb); (try clear hb2); (try clear hk); (try clear hi)))
      go_ret
      exact ⟨by first | rfl | (simp [errW_none, errW_some] <;> rfl) | (simp [*, errW_none, errW_some] <;> rfl), by repeat (first | (with_reducible first | exact HB.out | apply below_alloc | apply pw_below_drewN | apply below_drew1 | refine below_set ?_ GE170.out) | exact HB.out)⟩
  · replace c3 := Bool.eq_false_iff.mpr c3
    subst c3
    have H1 : (some false) = some r := by rw [if_neg (show ¬ (false = true) by decide)] at H; exact H
    clear H
    have H := H1
    clear H1
    obtain rfl := Option.some.inj H
    go_enter Tryd.func18, Tryd.ntmps18
    go_wp2_with (first | ((with_reducible refine gate_dst (N := 1) rfl ?_); refine box_event ?hg (N := 1) ?hd (cs := #[.int .i64 a0_0, .int .i64 a0_1, .int .i64 a0_2, .int .i64 a0_3, .int .i64 a0_4, .bool a0_5]) (t := 33) ?hr ?_; (case hd => rfl); (case hg => rfl); (case hr => first | (go_simp; done) | (go_simp; rfl)); intro gb170 hg w21 hbox hb; have n0_ := Aside0.mk (below_step (by repeat (first | (with_reducible first | exact HB.out | apply below_alloc | apply pw_below_drewN | apply below_drew1) | exact HB.out)) hb); have n1_ := Aside0.mk (hbox); have n2_ := Aside0.mk ((by rw [hg]; exact (below_size (by repeat (first | (with_reducible first | exact HB.out | apply below_alloc | apply pw_below_drewN | apply below_drew1) | exact HB.out))) : w.heap.size ≤ gb170)); have n3_ := Aside0.mk ((by rw [hg]; exact (below_size (by repeat (first | (with_reducible first | exact HB.out | apply below_alloc | apply pw_below_drewN | apply below_drew1) | exact HB.out))) : w.heap.size ≤ gb170)); clear HB; have HB := n0_; have BK170 := n1_; have GW170 := n2_; have GE170 := n3_; clear n0_ n1_ n2_ n3_; clear hb hbox hg) | ((with_reducible refine gate_dst (N := 3) rfl ?_); refine Kd.R_lit (Kd.int .i64) _ 3 ?hg (N := 3) ?hd (xs := ([0, 1, 6, 17] : List Int)) (inner := [.int .i64 0, .int .i64 1, .int .i64 6, .int .i64 17]) (ok := fun _ => True) (okp := fun _ => True) ?hr ?hp (fun _ hk => hk) trivial (Below.refl _ _) (Nat.le_refl _) (by simp) ?_; (case hd => rfl); (case hg => rfl); (case hr => first | (go_simp; done) | (go_simp; rfl)); (case hp => exact (Reps.one (show Kd.M (Kd.int .i64) _ _ _ 0 [.int .i64 0] from rfl) (Reps.one (show Kd.M (Kd.int .i64) _ _ _ 1 [.int .i64 1] from rfl) (Reps.one (show Kd.M (Kd.int .i64) _ _ _ 6 [.int .i64 6] from rfl) (Reps.one (show Kd.M (Kd.int .i64) _ _ _ 17 [.int .i64 17] from rfl) (Reps.none _ _)))))); intro v172 w22 ho23 hb hg_ hnew_; clear hg_ hnew_; (first | rw [← Ny171.out] at ho23 | (simp only [Int.reduceToNat] at ho23; rw [← Ny171.out] at ho23)); have n0_ := Aside0.mk (Kd.R_lower ho23 (below_size (by repeat (first | (with_reducible first | exact HB.out | apply below_alloc | apply pw_below_drewN | apply below_drew1 | refine below_set ?_ GE170.out) | exact HB.out)))); have n1_ := Aside0.mk (blk_below (g := gb170) (o := .cells #[.int .i64 a0_0, .int .i64 a0_1, .int .i64 a0_2, .int .i64 a0_3, .int .i64 a0_4, .bool a0_5] 33 (0, 0)) (by (with_reducible repeat (first | refine blk_drewN ?_ _ | refine blk_drew ?_ | refine blk_alloc ?_ _)); exact BK170.out) hb); have n2_ := Aside0.mk (below_step (by repeat (first | (with_reducible first | exact HB.out | apply below_alloc | apply pw_below_drewN | apply below_drew1 | refine below_set ?_ GE170.out) | exact HB.out)) hb); clear BK170; clear HB; have HO173 := n0_; have BK170 := n1_; have HB := n2_; clear n0_ n1_ n2_; clear hb ho23; have hcz24_0 : w22.cell? ⟨gb170, 0, none⟩ = some (.int .i64 a0_0) := (blk_cell BK170.out 0).trans rfl; have hcz24_1 : w22.cell? ⟨gb170, 1, none⟩ = some (.int .i64 a0_1) := (blk_cell BK170.out 1).trans rfl; have hcz24_2 : w22.cell? ⟨gb170, 2, none⟩ = some (.int .i64 a0_2) := (blk_cell BK170.out 2).trans rfl; have hcz24_3 : w22.cell? ⟨gb170, 3, none⟩ = some (.int .i64 a0_3) := (blk_cell BK170.out 3).trans rfl; have hcz24_4 : w22.cell? ⟨gb170, 4, none⟩ = some (.int .i64 a0_4) := (blk_cell BK170.out 4).trans rfl; have hcz24_5 : w22.cell? ⟨gb170, 5, none⟩ = some (.bool a0_5) := (blk_cell BK170.out 5).trans rfl; have hfz24_0 := blk_frozen BK170.out 0; have hfz24_1 := blk_frozen BK170.out 1; have hfz24_2 := blk_frozen BK170.out 2; have hfz24_3 := blk_frozen BK170.out 3; have hfz24_4 := blk_frozen BK170.out 4; have hfz24_5 := blk_frozen BK170.out 5; obtain ⟨Ao25, co25, eo25⟩ := Kd.R_slice HO173.out; subst eo25) | ((with_reducible refine gate_callee (f := 32) rfl ?_); refine goesL_ (some 6) rfl rfl Tryd.func32 (by kernel_rfl) rfl #[.slice Ao25 y171.length co25, .int .i64 a0_0] rfl (by (try simp only [List.map_toArray, List.map_cons, List.map_nil]); first | done | rfl | (simp only [List.length_drop, List.length_take]; rfl)) ?_; (with_reducible refine (slices_Contains_int_int.calls k _ _ y171 a0_0 false _ ?side1 ?side2 A2.out).mono ?_); (case side1 => repeat (first | exact (Kd.R_reads' HO173.out).2.2 | (with_reducible refine Kd.C_alloc ?_ _) | (with_reducible refine Kd.C_drewN ?_ _) | (with_reducible refine Kd.C_drew ?_))); (case side2 => exact (Kd.R_reads' HO173.out).2.1); rintro e w' ⟨rfl, ⟨nd, rfl⟩⟩; refine ⟨_, rfl, ?_⟩))
    go_ret
    exact ⟨by first | rfl | (simp [errW_none, errW_some] <;> rfl) | (simp [*, errW_none, errW_some] <;> rfl), by repeat (first | (with_reducible first | exact HB.out | apply below_alloc | apply pw_below_drewN | apply below_drew1 | refine below_set ?_ GE170.out) | exact HB.out)⟩
end
section
/-! ### strings_Join: function 19 -/
-- IMPORT Derived.Shelf.Strings.OnBuilder
-- IMPORT Derived.Lib.Join
def joinRen : Go.Shelf.Ren := ⟨fun x => match x with | 156 => 19 | 165 => 35 | 166 => 36 | 169 => 37 | 240 => 56 | 241 => 57 | 276 => 67 | 277 => 68 | n => n, fun x => match x with | 31 => 43 | 9 => 9 | 3 => 3 | 4 => 4 | 0 => 0 | 20 => 20 | 72 => 66 | 76 => 70 | 70 => 64 | 37 => 62 | 75 => 69 | 127 => 82 | 164 => 88 | 5 => 5 | 80 => 72 | n => n, fun n => n⟩
set_option maxRecDepth 100000 in
theorem joinLays : Go.Proofs.Lays.n156 Tryd.prog joinRen := { mixed := by kernel_rfl, f156 := Tryd.func19.trans (congrArg some (by kernel_rfl)), f165 := Tryd.func35.trans (congrArg some (by kernel_rfl)), f166 := Tryd.func36.trans (congrArg some (by kernel_rfl)), f169 := Tryd.func37.trans (congrArg some (by kernel_rfl)), f240 := Tryd.func56.trans (congrArg some (by kernel_rfl)), f241 := Tryd.func57.trans (congrArg some (by kernel_rfl)), f276 := Tryd.func67.trans (congrArg some (by kernel_rfl)), f277 := Tryd.func68.trans (congrArg some (by kernel_rfl)), t0 := Tryd.underlying0, a0 := Tryd.isAgg0, z0 := Tryd.sizeOf0, v0 := Tryd.zeroValue0, t3 := Tryd.underlying3, a3 := Tryd.isAgg3, z3 := Tryd.sizeOf3, v3 := Tryd.zeroValue3, t4 := Tryd.underlying4, a4 := Tryd.isAgg4, z4 := Tryd.sizeOf4, v4 := Tryd.zeroValue4, t9 := Tryd.underlying9, a9 := Tryd.isAgg9, z9 := Tryd.sizeOf9, v9 := Tryd.zeroValue9, t20 := Tryd.underlying20, a20 := Tryd.isAgg20, z20 := Tryd.sizeOf20, v20 := Tryd.zeroValue20, t31 := Tryd.underlying43, a31 := Tryd.isAgg43, z31 := Tryd.sizeOf43, v31 := Tryd.zeroValue43, t37 := Tryd.underlying62, a37 := Tryd.isAgg62, z37 := Tryd.sizeOf62, v37 := Tryd.zeroValue62, t70 := Tryd.underlying64, a70 := Tryd.isAgg64, z70 := Tryd.sizeOf64, v70 := Tryd.zeroValue64, t72 := Tryd.underlying66, a72 := Tryd.isAgg66, z72 := Tryd.sizeOf66, v72 := Tryd.zeroValue66, t75 := Tryd.underlying69, a75 := Tryd.isAgg69, z75 := Tryd.sizeOf69, v75 := Tryd.zeroValue69, t76 := Tryd.underlying70, a76 := Tryd.isAgg70, z76 := Tryd.sizeOf70, v76 := Tryd.zeroValue70, t127 := Tryd.underlying82, a127 := Tryd.isAgg82, z127 := Tryd.sizeOf82, v127 := Tryd.zeroValue82, t164 := Tryd.underlying88, a164 := Tryd.isAgg88, z164 := Tryd.sizeOf88, v164 := Tryd.zeroValue88 }
theorem joinExtra : Go.Proofs.Builder.Extra Tryd.prog joinRen := { sizeBuilder := by kernel_rfl, liesBuilder := by kernel_rfl, t5 := Tryd.underlying5, a5 := Tryd.isAgg5, z5 := Tryd.sizeOf5, v5 := Tryd.zeroValue5, infoByte := by kernel_rfl, cellsByte := by kernel_rfl, sizeByte := by kernel_rfl, neB5 := by decide }
def joinB (l : List ByteArray) (sep : ByteArray) : List UInt8 := Lib.join (l.map (·.data.toList)) sep.data.toList
def strings_Join.f (l0 : List ByteArray) (a1 : ByteArray) : Option ByteArray := if (joinB l0 a1).length ≤ 140737488355328 ∧ l0.length ≤ 140737488355328 then some ⟨(joinB l0 a1).toArray⟩ else none
theorem strings_Join.calls (A0 : Option Addr) (c0 : Nat) (l0 : List ByteArray) (a1 : ByteArray) (r : ByteArray) (w : World) (hr0 : Kd.C Kd.string w A0 l0.length l0) (hc0 : l0.length ≤ c0) (h : strings_Join.f l0 a1 = some r) :
    Calls Tryd.prog 19 #[.slice A0 l0.length c0, .string a1] w fun e w' => e = .returned (.string r) ∧ Below w.heap.size w w' := by
  by_cases hb : (joinB l0 a1).length ≤ 140737488355328 ∧ l0.length ≤ 140737488355328
  · rw [strings_Join.f, if_pos hb] at h
    obtain rfl := Option.some.inj h
    rcases Nat.eq_zero_or_pos l0.length with h0 | h0
    · obtain rfl := List.eq_nil_of_length_eq_zero h0
      refine (Any.strings_Join_none joinLays joinExtra A0 c0 a1 w).mono fun e w' hh => ?_
      obtain ⟨he, rfl⟩ := hh
      exact ⟨he, Below.refl _ _⟩
    · obtain ⟨ad, rfl, hc⟩ := Kd.at_string hr0 0 (by omega) (by omega)
      have hspot : ad.spot = none := by
        rw [show ((0 : Int)).toNat = 0 from rfl, Addr.add_zero'] at hc
        cases hs : ad.spot with
        | none => rfl
        | some q =>
          exfalso
          unfold World.cell? at hc
          rw [hs] at hc
          split at hc
          · simp at hc
          · cases hc
      have hlt : ad.block < w.heap.size := Kd.C_lt hr0 h0 (by decide)
      obtain ⟨bk, o, sp⟩ := ad
      have hsp : sp = none := hspot
      subst hsp
      refine (Any.strings_Join joinLays joinExtra bk o c0 l0 a1 w (fun j x hj => ?_) hlt hb.2 hc0 hb.1).mono fun e w' hh => hh
      have hjl : j < l0.length := (List.getElem?_eq_some_iff.1 hj).1
      obtain ⟨ad2, he2, hc2⟩ := Kd.at_string hr0 (j : Int) (by omega) (by omega)
      obtain rfl := Option.some.inj he2
      have ea : (⟨bk, o, none⟩ : Addr).add j = ⟨bk, o + j, none⟩ := by unfold Addr.add; split <;> simp_all
      rw [Int.toNat_natCast, ea] at hc2
      rw [hc2, rdOf, Int.toNat_natCast, List.getD_eq_getElem?_getD, hj]
      rfl
  · rw [strings_Join.f, if_neg hb] at h
    cases h
end
section
/-! ### impl_protoWord: function 20 -/
def impl_protoWord.f (a0 : Int) : Option (ByteArray) := if a0 = 1 then (some (⟨#[105, 99, 109, 112]⟩ : ByteArray)) else (if a0 = 6 then (some (⟨#[116, 99, 112]⟩ : ByteArray)) else (if a0 = 17 then (some (⟨#[117, 100, 112]⟩ : ByteArray)) else (some (⟨#[97, 110, 121]⟩ : ByteArray))))
set_option maxHeartbeats 8000000 in
set_option maxRecDepth 100000 in
theorem impl_protoWord.calls (a0 : Int) (r : ByteArray) (w : World) (h : impl_protoWord.f a0 = some r) :
    Calls Tryd.prog 20 #[.int .i64 a0] w fun e w' => e = .returned (.string r) ∧ Drawn0 w w' := by
  have H : (if a0 = 1 then (some (⟨#[105, 99, 109, 112]⟩ : ByteArray)) else (if a0 = 6 then (some (⟨#[116, 99, 112]⟩ : ByteArray)) else (if a0 = 17 then (some (⟨#[117, 100, 112]⟩ : ByteArray)) else (some (⟨#[97, 110, 121]⟩ : ByteArray))))) = some r := h
  clear h
  by_cases c2 : a0 = 1
  · rw [if_pos c2] at H
    have c2b0 : (a0 == 1) = true := beq_iff_eq.mpr c2
    have c2b1 : (a0 != 1) = false := bne_eq_false_iff_eq.mpr c2
    clear c2
    obtain rfl := Option.some.inj H
    go_enter Tryd.func20, Tryd.ntmps20
    go_wp2
    go_ret
    exact ⟨by first | rfl | (simp; done) | (simp [*]; done) | (simp [ne_nil_b]; done) | (simp [ne_nil_b, *]; done), by repeat (first | exact Drawn0.refl _ | apply Drawn0.step)⟩
  · rw [if_neg c2] at H
    have c2b0 : (a0 == 1) = false := beq_eq_false_iff_ne.mpr c2
    have c2b1 : (a0 != 1) = true := bne_iff_ne.mpr c2
    by_cases c3 : a0 = 6
    · rw [if_pos c3] at H
      have c3b0 : (a0 == 6) = true := beq_iff_eq.mpr c3
      have c3b1 : (a0 != 6) = false := bne_eq_false_iff_eq.mpr c3
      clear c3
      obtain rfl := Option.some.inj H
      go_enter Tryd.func20, Tryd.ntmps20
      go_wp2
      go_ret
      exact ⟨by first | rfl | (simp; done) | (simp [*]; done) | (simp [ne_nil_b]; done) | (simp [ne_nil_b, *]; done), by repeat (first | exact Drawn0.refl _ | apply Drawn0.step)⟩
    · rw [if_neg c3] at H
      have c3b0 : (a0 == 6) = false := beq_eq_false_iff_ne.mpr c3
      have c3b1 : (a0 != 6) = true := bne_iff_ne.mpr c3
      by_cases c4 : a0 = 17
      · rw [if_pos c4] at H
        have c4b0 : (a0 == 17) = true := beq_iff_eq.mpr c4
        have c4b1 : (a0 != 17) = false := bne_eq_false_iff_eq.mpr c4
        clear c4
        obtain rfl := Option.some.inj H
        go_enter Tryd.func20, Tryd.ntmps20
        go_wp2
        go_ret
        exact ⟨by first | rfl | (simp; done) | (simp [*]; done) | (simp [ne_nil_b]; done) | (simp [ne_nil_b, *]; done), by repeat (first | exact Drawn0.refl _ | apply Drawn0.step)⟩
      · rw [if_neg c4] at H
        have c4b0 : (a0 == 17) = false := beq_eq_false_iff_ne.mpr c4
        have c4b1 : (a0 != 17) = true := bne_iff_ne.mpr c4
        obtain rfl := Option.some.inj H
        go_enter Tryd.func20, Tryd.ntmps20
        go_wp2
        go_ret
        exact ⟨by first | rfl | (simp; done) | (simp [*]; done) | (simp [ne_nil_b]; done) | (simp [ne_nil_b, *]; done), by repeat (first | exact Drawn0.refl _ | apply Drawn0.step)⟩
end
section
-- IMPORT Derived.Lib.LaidTab
-- IMPORT Derived.Lib.ItoaNum
def GLp (w : World) : Prop := Lib.TabIs Tryd.prog w "internal/strconv.uint64pow10" .u64 Lib.pow10Tab
theorem GLp_below {w w' : World} (h : GLp w) (hb : Below w.heap.size w w') : GLp w' := by
  unfold GLp Lib.TabIs World.var? at h ⊢
  cases hg : Tryd.prog.globalNamed "internal/strconv.uint64pow10" with
  | none => rw [hg] at h; cases h
  | some g =>
    rw [hg] at h
    simp only [Option.bind_some] at h ⊢
    cases hh : w.heap[g]? with
    | none => rw [hh] at h; cases h
    | some o => rw [hb.block g (blk_lt hh)]; exact h
end
section
/-! ### strconv_Itoa_22: function 22 -/
-- IMPORT Derived.Shelf.Strconv.Itoa3
-- IMPORT Derived.Lib.AppendIntMem
def itoaRen : Go.Shelf.Ren := ⟨fun x => match x with | 171 => 22 | 243 => 39 | 246 => 58 | 283 => 69 | 284 => 70 | 285 => 71 | 286 => 72 | 129 => 84 | 317 => 83 | 318 => 85 | 319 => 86 | 320 => 87 | 337 => 98 | 338 => 99 | n => n, fun x => match x with | 3 => 3 | 9 => 9 | 2 => 2 | 4 => 4 | 171 => 91 | 0 => 0 | 53 => 92 | 37 => 62 | 5 => 5 | 173 => 95 | 212 => 108 | 51 => 109 | 20 => 20 | 213 => 110 | 46 => 61 | 232 => 129 | 233 => 130 | n => n, fun x => match x with | 17 => 1 | 18 => 4 | 19 => 5 | n => n⟩
set_option maxRecDepth 100000 in
theorem itoaLays : Go.Proofs.LaysM.n171 Tryd.prog itoaRen := { mixed := by kernel_rfl, f129 := Tryd.func84.trans (congrArg some (by kernel_rfl)), f171 := Tryd.func22.trans (congrArg some (by kernel_rfl)), f243 := Tryd.func39.trans (congrArg some (by kernel_rfl)), f246 := Tryd.func58.trans (congrArg some (by kernel_rfl)), f283 := Tryd.func69.trans (congrArg some (by kernel_rfl)), f284 := Tryd.func70.trans (congrArg some (by kernel_rfl)), f285 := Tryd.func71.trans (congrArg some (by kernel_rfl)), f286 := Tryd.func72.trans (congrArg some (by kernel_rfl)), f317 := Tryd.func83.trans (congrArg some (by kernel_rfl)), f318 := Tryd.func85.trans (congrArg some (by kernel_rfl)), f319 := Tryd.func86.trans (congrArg some (by kernel_rfl)), f320 := Tryd.func87.trans (congrArg some (by kernel_rfl)), f337 := Tryd.func98.trans (congrArg some (by kernel_rfl)), f338 := Tryd.func99.trans (congrArg some (by kernel_rfl)), t0 := Tryd.underlying0, a0 := Tryd.isAgg0, z0 := Tryd.sizeOf0, v0 := Tryd.zeroValue0, t2 := Tryd.underlying2, a2 := Tryd.isAgg2, z2 := Tryd.sizeOf2, v2 := Tryd.zeroValue2, t3 := Tryd.underlying3, a3 := Tryd.isAgg3, z3 := Tryd.sizeOf3, v3 := Tryd.zeroValue3, t4 := Tryd.underlying4, a4 := Tryd.isAgg4, z4 := Tryd.sizeOf4, v4 := Tryd.zeroValue4, t5 := Tryd.underlying5, a5 := Tryd.isAgg5, z5 := Tryd.sizeOf5, v5 := Tryd.zeroValue5, t9 := Tryd.underlying9, a9 := Tryd.isAgg9, z9 := Tryd.sizeOf9, v9 := Tryd.zeroValue9, t20 := Tryd.underlying20, a20 := Tryd.isAgg20, z20 := Tryd.sizeOf20, v20 := Tryd.zeroValue20, t37 := Tryd.underlying62, a37 := Tryd.isAgg62, z37 := Tryd.sizeOf62, v37 := Tryd.zeroValue62, t46 := Tryd.underlying61, a46 := Tryd.isAgg61, z46 := Tryd.sizeOf61, v46 := Tryd.zeroValue61, t51 := Tryd.underlying109, a51 := Tryd.isAgg109, z51 := Tryd.sizeOf109, v51 := Tryd.zeroValue109, t53 := Tryd.underlying92, a53 := Tryd.isAgg92, z53 := Tryd.sizeOf92, v53 := Tryd.zeroValue92, t171 := Tryd.underlying91, a171 := Tryd.isAgg91, z171 := Tryd.sizeOf91, v171 := Tryd.zeroValue91, t173 := Tryd.underlying95, a173 := Tryd.isAgg95, z173 := Tryd.sizeOf95, v173 := Tryd.zeroValue95, t212 := Tryd.underlying108, a212 := Tryd.isAgg108, z212 := Tryd.sizeOf108, v212 := Tryd.zeroValue108, t213 := Tryd.underlying110, a213 := Tryd.isAgg110, z213 := Tryd.sizeOf110, t232 := Tryd.underlying129, a232 := Tryd.isAgg129, z232 := Tryd.sizeOf129, v232 := Tryd.zeroValue129, t233 := Tryd.underlying130, a233 := Tryd.isAgg130, z233 := Tryd.sizeOf130, v233 := Tryd.zeroValue130, g17 := by kernel_rfl, g18 := by kernel_rfl, g19 := by kernel_rfl, i0 := by kernel_rfl, i2 := by kernel_rfl, i3 := by kernel_rfl, i4 := by kernel_rfl, i5 := by kernel_rfl, i9 := by kernel_rfl, i20 := by kernel_rfl, i37 := by kernel_rfl, i46 := by kernel_rfl, i51 := by kernel_rfl, i53 := by kernel_rfl, i171 := by kernel_rfl, i173 := by kernel_rfl, i212 := by kernel_rfl, i232 := by kernel_rfl, i233 := by kernel_rfl, m17 := by kernel_rfl, m18 := by kernel_rfl, m19 := by kernel_rfl }
def strconv_Itoa_22.f (a0 : Int) : Option ByteArray := if -9223372036854775808 ≤ a0 ∧ a0 ≤ 9223372036854775807 then some ⟨(Lib.itoa a0).toArray⟩ else none
theorem itoa_f (n : Int) (h0 : -9223372036854775808 ≤ n) (h1 : n ≤ 9223372036854775807) : strconv_Itoa_22.f n = some ⟨(Lib.itoa n).toArray⟩ := if_pos ⟨h0, h1⟩
theorem strconv_Itoa_22.calls (a0 : Int) (r : ByteArray) (w : World) (hGp : GLp w) (h : strconv_Itoa_22.f a0 = some r) :
    Calls Tryd.prog 22 #[.int .i64 a0] w fun e w' => e = .returned (.string r) ∧ Below w.heap.size w w' := by
  by_cases hb : -9223372036854775808 ≤ a0 ∧ a0 ≤ 9223372036854775807
  · rw [strconv_Itoa_22.f, if_pos hb] at h
    obtain rfl := Option.some.inj h
    refine (Any.strconv_Itoa itoaLays a0 hb.1 hb.2 w hGp).mono fun e w' hh => ?_
    obtain ⟨he, k, os, rfl⟩ := hh
    exact ⟨he, Lib.below_grow _ _ (Nat.le_refl _) _ _⟩
  · rw [strconv_Itoa_22.f, if_neg hb] at h
    cases h
end
section
/-! ### impl_addressText: function 38 -/
def impl_addressText.l0 : Nat → Int → List ByteArray → Int → Option (ByteArray)
  | 0, _, _, _ => none
  | k + 1, x0, x3, x4 => if x4 ≥ 0 then (if 0 ≤ x4 then ((strconv_Itoa_22.f (Go.bits .and .i64 (shr .i64 x0 x4) 255)).bind fun t199 => (if x3.length < 8796093022208 then (impl_addressText.l0 k x0 (x3 ++ [t199]) (wrap64 (x4 - 8))) else (none))) else (none)) else ((strings_Join.f x3 (⟨#[46]⟩ : ByteArray)).bind fun t203 => (some t203))
def impl_addressText.f (k : Nat) (a0 : Int) : Option (ByteArray) := impl_addressText.l0 k a0 (([] : List ByteArray)) 24
theorem impl_addressText.mono_l : ∀ k, (∀ y0 y1 y2, LeO (impl_addressText.l0 k y0 y1 y2) (impl_addressText.l0 (k + 1) y0 y1 y2))
  | 0 => fun _ _ _ r h => by simp [impl_addressText.l0] at h
  | k + 1 => by
    have ih0 := impl_addressText.mono_l k
    · intro y0 y1 y2
      unfold impl_addressText.l0
      repeat' first
      | (with_reducible exact ih0 _ _ _)
      | (with_reducible exact LeO.refl _)
      | (with_reducible exact LeO.none _)
      | (with_reducible refine LeO.ite ?_ ?_)
      | (with_reducible refine LeO.bind ?_ (fun _ => ?_))
      | exact ih0 _ _ _
      | exact LeO.none _
      | refine LeO.ite ?_ ?_
      | refine LeO.bind ?_ (fun _ => ?_)
theorem impl_addressText.mono : ∀ a0 k, LeO (impl_addressText.f k a0) (impl_addressText.f (k + 1) a0) := by
  intro a0 k
  have ih0 := impl_addressText.mono_l k
  unfold impl_addressText.f
  repeat' first
      | (with_reducible exact ih0 _ _ _)
      | (with_reducible exact LeO.refl _)
      | (with_reducible exact LeO.none _)
      | (with_reducible refine LeO.ite ?_ ?_)
      | (with_reducible refine LeO.bind ?_ (fun _ => ?_))
      | exact ih0 _ _ _
      | exact LeO.none _
      | refine LeO.ite ?_ ?_
      | refine LeO.bind ?_ (fun _ => ?_)
set_option maxHeartbeats 8000000 in
set_option maxRecDepth 100000 in
theorem impl_addressText.calls (k : Nat) (a0 : Int) (r : ByteArray) (w : World) (hGp : GLp w) (h : impl_addressText.f k a0 = some r) :
    Calls Tryd.prog 38 #[.int .i64 a0] w fun e w' => e = .returned (.string r) ∧ Below w.heap.size w w' := by
  have HGp_ := Aside0.mk hGp
  clear hGp
  have HB := Aside0.mk (Below.refl w.heap.size w)
  have H : (impl_addressText.l0 k a0 (([] : List ByteArray)) 24) = some r := h
  clear h
  obtain ⟨y196, hy196⟩ : ∃ y_ : List ByteArray, y_ = (([] : List ByteArray)) := ⟨_, rfl⟩
  replace H : (impl_addressText.l0 k a0 y196 24) = some r := by first | (rw [hy196]; with_reducible exact H) | (have H2_ := (Option.bind_some _ _).symm.trans H; rw [hy196]; with_reducible exact H2_) | (have H2_ := (Option.bind_some _ _).symm.trans H; with_reducible exact H2_) | with_reducible exact H | (rw [hy196]; exact H) | exact H
  have Ny196 := Aside0.mk hy196
  clear hy196
  have H' := Aside0.mk H
  clear H
  go_enter Tryd.func38, Tryd.ntmps38
  go_wp2_with (first | ((with_reducible refine gate_dst (N := 5) rfl ?_); refine Kd.R_lit Kd.string _ 9 ?hg (N := 5) ?hd (xs := ([] : List ByteArray)) (inner := []) (ok := fun _ => True) (okp := fun _ => True) ?hr ?hp (fun _ hk => hk) trivial (Below.refl _ _) (Nat.le_refl _) (by simp) ?_; (case hd => rfl); (case hg => rfl); (case hr => first | (go_simp; done) | (go_simp; rfl)); (case hp => exact (Reps.none _ _)); intro v197 w2 ho3 hb hg_ hnew_; clear hg_ hnew_; (first | rw [← Ny196.out] at ho3 | (simp only [Int.reduceToNat] at ho3; rw [← Ny196.out] at ho3)); have n0_ := Aside0.mk (Kd.R_lower ho3 (below_size (by repeat (first | (with_reducible first | exact HB.out | apply below_alloc | apply pw_below_drewN | apply below_drew1) | exact HB.out)))); have n1_ := Aside0.mk (below_step (by repeat (first | (with_reducible first | exact HB.out | apply below_alloc | apply pw_below_drewN | apply below_drew1) | exact HB.out)) hb); clear HB; have HO198 := n0_; have HB := n1_; clear n0_ n1_; clear hb ho3))
  go_loopg [3, 4] k (fun kq v3 v4 w' => ∃ (x3_1 : List ByteArray) (x4_1 : Int), v4 = .int .i64 x4_1 ∧ Aside0 (impl_addressText.l0 kq a0 x3_1 x4_1 = some r) ∧ Aside0 (kq ≤ k) ∧ Aside0 (Kd.R Kd.string 9 w' w.heap.size (fun _ => True) v3 x3_1) ∧ Aside0 (Below w.heap.size w w'))
  case atStart => exact ⟨(y196), (24), (by first | rfl | (simp; done) | (simp [*]; done) | (simp [ne_nil_b]; done) | (simp [ne_nil_b, *]; done)), H', ⟨Nat.le_refl _⟩, ⟨by (with_reducible repeat (first | apply Kd.R_alloc | apply Kd.R_drewN | apply Kd.R_drew)); exact HO198.out⟩, ⟨by repeat (first | (with_reducible first | exact HB.out | apply below_alloc | apply pw_below_drewN | apply below_drew1) | exact HB.out)⟩⟩
  case round =>
    clear H'
    try clear p2
    try clear c3
    obtain ⟨x3_1, x4_1, rfl, HA, HK1, HO_3, HB⟩ := hrel
    cases gk with
    | zero => exact absurd HA.out (by simp [impl_addressText.l0])
    | succ k1 =>
      have H := HA.out
      clear HA
      simp only [impl_addressText.l0] at H
      by_cases c4 : x4_1 ≥ 0
      · rw [if_pos c4] at H
        have c4b0 : decide (0 ≤ x4_1) = true := decide_eq_true c4
        clear c4
        by_cases c5 : 0 ≤ x4_1
        · rw [if_pos c5] at H
          have c5b0 := eq_true c5
          have c5b1 : decide (0 ≤ x4_1) = true := decide_eq_true c5
          clear c5
          obtain ⟨ji6, hji6⟩ : ∃ j_ : Int, (shr .i64 a0 x4_1) = j_ := ⟨_, rfl⟩
          replace H : ((strconv_Itoa_22.f (Go.bits .and .i64 (ji6) 255)).bind fun t199 => (if x3_1.length < 8796093022208 then (impl_addressText.l0 k1 a0 (x3_1 ++ [t199]) (wrap64 (x4_1 - 8))) else (none))) = some r := by first | (rw [hji6] at H; exact H) | (simp only [hji6] at H ⊢; exact H)
          have hji6_ : (a0 / 2 ^ min x4_1.toNat 64) = ji6 := hji6
          have hji6z : x4_1 ≤ 64 → (a0 / 2 ^ x4_1.toNat) = ji6 := shr_small hji6
          replace H := Option.bind_eq_some_iff.mp H
          obtain ⟨t199, A70, H⟩ := H
          replace H : (if x3_1.length < 8796093022208 then (impl_addressText.l0 k1 a0 (x3_1 ++ [t199]) (wrap64 (x4_1 - 8))) else (none)) = some r := H
          have A7 := Aside0.mk A70
          clear A70
          by_cases c8 : x3_1.length < 8796093022208
          · rw [if_pos c8] at H
            have LMc8 := Aside0.mk c8
            clear c8
            obtain ⟨y200, hy200⟩ : ∃ y_ : List ByteArray, y_ = (x3_1 ++ [t199]) := ⟨_, rfl⟩
            replace H : (impl_addressText.l0 k1 a0 y200 (wrap64 (x4_1 - 8))) = some r := by first | (rw [hy200]; with_reducible exact H) | (have H2_ := (Option.bind_some _ _).symm.trans H; rw [hy200]; with_reducible exact H2_) | (have H2_ := (Option.bind_some _ _).symm.trans H; with_reducible exact H2_) | with_reducible exact H | (rw [hy200]; exact H) | exact H
            have Ny200 := Aside0.mk hy200
            clear hy200
            have H' := Aside0.mk H
            clear H
            go_wp2_with (first | ((with_reducible refine gate_callee (f := 22) rfl ?_); refine goesL_ (some 15) rfl rfl Tryd.func22 (by kernel_rfl) rfl #[.int .i64 (Go.bits .and .i64 (ji6) 255)] rfl (by (try simp only [List.map_toArray, List.map_cons, List.map_nil]); first | done | (simp only [hji6]; rfl) | rfl | (simp only [List.length_drop, List.length_take]; rfl)) ?_; (with_reducible refine (strconv_Itoa_22.calls (Go.bits .and .i64 (ji6) 255) t199 _ ?sideGp A7.out).mono ?_); (case sideGp => exact GLp_below HGp_.out (by repeat (first | (with_reducible first | exact HB.out | apply below_alloc | apply pw_below_drewN | apply below_drew1) | exact HB.out))); rintro e w9 ⟨rfl, hb⟩; refine ⟨_, rfl, ?_⟩; have n0_ := Aside0.mk (Kd.R_below (by (with_reducible repeat (first | apply Kd.R_alloc | apply Kd.R_drewN | apply Kd.R_drew)); exact HO_3.out) hb); have n1_ := Aside0.mk (below_step (by repeat (first | (with_reducible first | exact HB.out | apply below_alloc | apply pw_below_drewN | apply below_drew1) | exact HB.out)) hb); clear HO_3; clear HB; have HO_3 := n0_; have HB := n1_; clear n0_ n1_; (try clear hb); (try clear hb2); (try clear hk); (try clear hi)) | ((with_reducible refine gate_builtin (b := .append) (xs := #[.tmp 10, .tmp 16]) rfl ?_); at_builtin; refine Kd.R_append Kd.string (w0 := w) w.heap.size rfl (.tmp 10) (.tmp 16) 43 9 (.string ⟨#[]⟩) 16 rfl Tryd.underlying43 info9 rfl (by decide) (by omega) u3 x3_1 t199 [.string t199] (fun _ => True) (fun _ => False) rfl rfl ?aP (fun _ hk => hk.elim) ?aF ?aO ?aB ?aS ?aL ?_; (case aP => exact rfl); (case aB => exact (by repeat (first | (with_reducible first | exact HB.out | apply below_alloc | apply pw_below_drewN | apply below_drew1) | exact HB.out))); (case aF => exact (fun _ _ => trivial)); (case aO => exact (by (with_reducible repeat (first | apply Kd.R_alloc | apply Kd.R_drewN | apply Kd.R_drew)); exact HO_3.out)); (case aS => exact (below_size (by repeat (first | (with_reducible first | exact HB.out | apply below_alloc | apply pw_below_drewN | apply below_drew1) | exact HB.out)))); (case aL => have := LMc8.out; omega); intro v201 w10 ho hb hg hat; rw [← Ny200.out] at ho; have n0_ := Aside0.mk (hb); have n1_ := Aside0.mk (ho); clear HB; clear HO_3; have HB := n0_; have HO202 := n1_; clear n0_ n1_; clear ho hb hg hat))
            go_roundg k1
            case measure => have := HK1.out; omega
            case rel => exact ⟨(y200), (wrap64 (x4_1 - 8)), (by first | rfl | (simp; done) | (simp [*]; done) | (simp [ne_nil_b]; done) | (simp [ne_nil_b, *]; done)), H', ⟨by have := HK1.out; omega⟩, ⟨by (with_reducible repeat (first | apply Kd.R_alloc | apply Kd.R_drewN | apply Kd.R_drew)); exact HO202.out⟩, ⟨by repeat (first | (with_reducible first | exact HB.out | apply below_alloc | apply pw_below_drewN | apply below_drew1) | exact HB.out)⟩⟩
          · rw [if_neg c8] at H
            exact absurd H (by simp)
        · rw [if_neg c5] at H
          exact absurd H (by simp)
      · rw [if_neg c4] at H
        have c4b0 : decide (0 ≤ x4_1) = false := decide_eq_false c4
        clear c4
        replace H := Option.bind_eq_some_iff.mp H
        obtain ⟨t203, A110, H⟩ := H
        replace H : (some t203) = some r := H
        have A11 := Aside0.mk A110
        clear A110
        obtain rfl := Option.some.inj H
        obtain ⟨Ao12, co12, eo12⟩ := Kd.R_slice HO_3.out
        subst eo12
        go_wp2_with (first | ((with_reducible refine gate_callee (f := 19) rfl ?_); refine goesL_ (some 19) rfl rfl Tryd.func19 (by kernel_rfl) rfl #[.slice Ao12 x3_1.length co12, .string (⟨#[46]⟩ : ByteArray)] rfl (by (try simp only [List.map_toArray, List.map_cons, List.map_nil]); first | done | rfl | (simp only [List.length_drop, List.length_take]; rfl)) ?_; (with_reducible refine (strings_Join.calls _ _ x3_1 (⟨#[46]⟩ : ByteArray) t203 _ ?side1 ?side2 A11.out).mono ?_); (case side1 => repeat (first | exact (Kd.R_reads' HO_3.out).2.2 | (with_reducible refine Kd.C_alloc ?_ _) | (with_reducible refine Kd.C_drewN ?_ _) | (with_reducible refine Kd.C_drew ?_))); (case side2 => exact (Kd.R_reads' HO_3.out).2.1); rintro e w13 ⟨rfl, hb⟩; refine ⟨_, rfl, ?_⟩; have n0_ := Aside0.mk (Kd.R_below (by (with_reducible repeat (first | apply Kd.R_alloc | apply Kd.R_drewN | apply Kd.R_drew)); exact HO_3.out) hb); have n1_ := Aside0.mk (below_step (by repeat (first | (with_reducible first | exact HB.out | apply below_alloc | apply pw_below_drewN | apply below_drew1) | exact HB.out)) hb); clear HO_3; clear HB; have HO_3 := n0_; have HB := n1_; clear n0_ n1_; (try clear hb); (try clear hb2); (try clear hk); (try clear hi)))
        go_ret
        exact ⟨by first | rfl | (simp [errW_none, errW_some] <;> rfl) | (simp [*, errW_none, errW_some] <;> rfl), by repeat (first | (with_reducible first | exact HB.out | apply below_alloc | apply pw_below_drewN | apply below_drew1) | exact HB.out)⟩
end
section
/-! ### impl_netText: function 21 -/
def impl_netText.f (k : Nat) (a0_0 : Int) (a0_1 : Int) : Option (ByteArray) := (impl_addressText.f k a0_0).bind fun t205 => (if t205.size + 1 ≤ 9223372036854775807 then ((strconv_Itoa_22.f a0_1).bind fun t206 => (if (t205 ++ (⟨#[47]⟩ : ByteArray)).size + t206.size ≤ 9223372036854775807 then (some ((t205 ++ (⟨#[47]⟩ : ByteArray)) ++ t206)) else (none))) else (none))
theorem impl_netText.mono : ∀ a0 a1 k, LeO (impl_netText.f k a0 a1) (impl_netText.f (k + 1) a0 a1) := by
  intro a0 a1 k
  unfold impl_netText.f
  repeat' first
      | (with_reducible exact impl_addressText.mono _ _)
      | (with_reducible exact LeO.refl _)
      | (with_reducible exact LeO.none _)
      | (with_reducible refine LeO.ite ?_ ?_)
      | (with_reducible refine LeO.bind ?_ (fun _ => ?_))
      | exact impl_addressText.mono _ _
      | exact LeO.none _
      | refine LeO.ite ?_ ?_
      | refine LeO.bind ?_ (fun _ => ?_)
def impl_netText.T1 : Bool × List (List Nat × List Nat) := (true, [([], []), ([0], [0]), ([1], [1]), ([2], [2]), ([], []), ([4], [4]), ([5, 2], [5]), ([3, 6], [3, 6]), ([7, 6, 0, 1, 2, 3, 4, 5, 6, 7], [7])])
def impl_netText.B1 : List Nat := [0, 1, 3, 7, 0, 16, 55, 127, 255]
theorem impl_netText.tab1 : rtab .any (opsOf Tryd.f21 1) = impl_netText.T1 := by kernel_rfl
theorem impl_netText.bits1 : waitsOk impl_netText.T1.2 impl_netText.B1 = true := by kernel_rfl
set_option maxHeartbeats 8000000 in
set_option maxRecDepth 100000 in
theorem impl_netText.calls (k : Nat) (a0_0 : Int) (a0_1 : Int) (r : ByteArray) (w : World) (hGp : GLp w) (h : impl_netText.f k a0_0 a0_1 = some r) :
    Calls Tryd.prog 21 #[.agg #[.int .i64 a0_0, .int .i64 a0_1]] w fun e w' => e = .returned (.string r) ∧ Below w.heap.size w w' := by
  have HGp_ := Aside0.mk hGp
  clear hGp
  have hu30 := Tryd.underlying30
  have HB := Aside0.mk (Below.refl w.heap.size w)
  have H : ((impl_addressText.f k a0_0).bind fun t205 => (if t205.size + 1 ≤ 9223372036854775807 then ((strconv_Itoa_22.f a0_1).bind fun t206 => (if (t205 ++ (⟨#[47]⟩ : ByteArray)).size + t206.size ≤ 9223372036854775807 then (some ((t205 ++ (⟨#[47]⟩ : ByteArray)) ++ t206)) else (none))) else (none))) = some r := h
  clear h
  replace H := Option.bind_eq_some_iff.mp H
  obtain ⟨t205, A20, H⟩ := H
  replace H : (if t205.size + 1 ≤ 9223372036854775807 then ((strconv_Itoa_22.f a0_1).bind fun t206 => (if (t205 ++ (⟨#[47]⟩ : ByteArray)).size + t206.size ≤ 9223372036854775807 then (some ((t205 ++ (⟨#[47]⟩ : ByteArray)) ++ t206)) else (none))) else (none)) = some r := H
  have A2 := Aside0.mk A20
  clear A20
  by_cases c3 : t205.size + 1 ≤ 9223372036854775807
  · rw [if_pos c3] at H
    have c3b0 := eq_true c3
    have c3b1 : decide (t205.size + 1 ≤ 9223372036854775807) = true := decide_eq_true c3
    try have c3b2 : (9223372036854775807 < t205.size + 1) = False := eq_false (Nat.not_lt.2 c3)
    replace H := Option.bind_eq_some_iff.mp H
    obtain ⟨t206, A40, H⟩ := H
    replace H : (if (t205 ++ (⟨#[47]⟩ : ByteArray)).size + t206.size ≤ 9223372036854775807 then (some ((t205 ++ (⟨#[47]⟩ : ByteArray)) ++ t206)) else (none)) = some r := H
    have A4 := Aside0.mk A40
    clear A40
    by_cases c5 : (t205 ++ (⟨#[47]⟩ : ByteArray)).size + t206.size ≤ 9223372036854775807
    · rw [if_pos c5] at H
      have c5b0 := eq_true c5
      have c5b1 : decide ((t205 ++ (⟨#[47]⟩ : ByteArray)).size + t206.size ≤ 9223372036854775807) = true := decide_eq_true c5
      try have c5b2 : (9223372036854775807 < (t205 ++ (⟨#[47]⟩ : ByteArray)).size + t206.size) = False := eq_false (Nat.not_lt.2 c5)
      try have c5b3 : (9223372036854775807 < t205.size + 1 + t206.size) = False := by rw [← show (t205 ++ (⟨#[47]⟩ : ByteArray)).size = t205.size + 1 from by (simp only [ByteArray.size_append]; rfl)]; exact c5b2
      obtain rfl := Option.some.inj H
      go_enter Tryd.func21, Tryd.ntmps21
      try go_wp2_with (first | ((with_reducible refine gate_dst (N := 1) rfl ?_); refine box_event ?hg (N := 1) ?hd (cs := #[.int .i64 a0_0, .int .i64 a0_1]) (t := 30) ?hr ?_; (case hd => rfl); (case hg => rfl); (case hr => first | (go_simp; done) | (go_simp; rfl)); intro gb204 hg w6 hbox hb; have n0_ := Aside0.mk (below_step (by repeat (first | (with_reducible first | exact HB.out | apply below_alloc | apply pw_below_drewN | apply below_drew1) | exact HB.out)) hb); have n1_ := Aside0.mk (hbox); have n2_ := Aside0.mk ((by rw [hg]; exact (below_size (by repeat (first | (with_reducible first | exact HB.out | apply below_alloc | apply pw_below_drewN | apply below_drew1) | exact HB.out))) : w.heap.size ≤ gb204)); have n3_ := Aside0.mk ((by rw [hg]; exact (below_size (by repeat (first | (with_reducible first | exact HB.out | apply below_alloc | apply pw_below_drewN | apply below_drew1) | exact HB.out))) : w.heap.size ≤ gb204)); clear HB; have HB := n0_; have BK204 := n1_; have GW204 := n2_; have GE204 := n3_; clear n0_ n1_ n2_ n3_; clear hb hbox hg))
      have n0_ := Aside0.mk (blk_drew BK204.out)
      have n1_ := Aside0.mk (below_drew1 HB.out)
      clear BK204
      clear HB
      have BK204 := n0_
      have HB := n1_
      clear n0_ n1_
      refine start_ (n := 9) (S := fun w' => w'.cell? ⟨gb204, 0, none⟩ = some (.int .i64 a0_0) ∧ w'.cell? ⟨gb204, 1, none⟩ = some (.int .i64 a0_1)) (ds := []) #[false, false, false, false, false, false, false, false, false] (by kernel_rfl) rfl rfl ⟨(blk_cell BK204.out 0).trans rfl, (blk_cell BK204.out 1).trans rfl⟩ (fun hHeld => ?_); refine with_tabW impl_netText.tab1 impl_netText.bits1 (fun HT_ HW_ => ?_)
      generalize w6.drew = w7 at BK204 HB hHeld ⊢
      refine pure_ (i := 0) (N := some 3) (v := ?_) (a' := ?_) #[true, false, false, false, false, false, false, false, false] rfl rfl (any_of HT_.out (by kernel_rfl)) (fun _ _ _ h => h) (Or.inl ⟨by rfl, ?_⟩) ?_ ?_
      rotate_left
      · intro w'
        go_simp
        with_reducible rfl
      rotate_left
      · simp only [Act.put, List.setIfInBounds_toArray, List.set_cons_zero, List.set_cons_succ, i64_w, i32_w]
        rfl
      refine pure_ (i := 4) (N := some 7) (v := ?_) (a' := ?_) #[true, false, false, false, true, false, false, false, false] rfl rfl (any_of HT_.out (by kernel_rfl)) (fun _ _ _ h => h) (Or.inl ⟨by rfl, ?_⟩) ?_ ?_
      rotate_left
      · intro w'
        go_simp
        with_reducible rfl
      rotate_left
      · simp only [Act.put, List.setIfInBounds_toArray, List.set_cons_zero, List.set_cons_succ, i64_w, i32_w]
        rfl
      refine take_ (i := 1) (N := some 4) (v := ?_) (a' := ?_) #[true, true, false, false, true, false, false, false, false] rfl rfl (take_ofW HT_.out HW_.out (by kernel_rfl)) (fun _ _ _ h => h) (Or.inl ⟨by rfl, ?_⟩) hHeld ?_ ?_
      rotate_left
      · rintro w' ⟨s0, s1⟩
        go_simp
        with_reducible rfl
      rotate_left
      · simp only [Act.put, List.setIfInBounds_toArray, List.set_cons_zero, List.set_cons_succ, i64_w, i32_w]
        rfl
      refine take_ (i := 5) (N := some 8) (v := ?_) (a' := ?_) #[true, true, false, false, true, true, false, false, false] rfl rfl (take_ofW HT_.out HW_.out (by kernel_rfl)) (fun _ _ _ h => h) (Or.inl ⟨by rfl, ?_⟩) hHeld ?_ ?_
      rotate_left
      · rintro w' ⟨s0, s1⟩
        go_simp
        with_reducible rfl
      rotate_left
      · simp only [Act.put, List.setIfInBounds_toArray, List.set_cons_zero, List.set_cons_succ, i64_w, i32_w]
        rfl
      refine one_ (i := 2) (N := some 5) #[true, true, true, false, true, true, false, false, false] rfl rfl (one_of HT_.out (by kernel_rfl)) (by decide) (fun K hK => ?_)
      refine goes_ Tryd.func38 (by kernel_rfl) rfl #[.int .i64 a0_0] (by rfl) rfl rfl (by (try simp only [List.map_toArray, List.map_cons, List.map_nil]); first | done | rfl | (simp only [List.length_drop, List.length_take]; rfl)) ?_
      with_reducible refine (impl_addressText.calls k a0_0 t205 _ ?sideGp A2.out).mono ?_
      case sideGp => exact GLp_below HGp_.out (by repeat (first | (with_reducible first | exact HB.out | apply below_alloc | apply pw_below_drewN | apply below_drew1) | exact HB.out))
      rintro e w8 ⟨rfl, hb⟩
      refine ⟨_, rfl, ?_⟩
      have n0_ := Aside0.mk (blk_below (g := gb204) (o := .cells #[.int .i64 a0_0, .int .i64 a0_1] 30 (0, 0)) (by (with_reducible repeat (first | refine blk_drewN ?_ _ | refine blk_drew ?_ | refine blk_alloc ?_ _)); exact BK204.out) hb)
      have n1_ := Aside0.mk (below_step (by repeat (first | (with_reducible first | exact HB.out | apply below_alloc | apply pw_below_drewN | apply below_drew1 | refine below_set ?_ GE204.out) | exact HB.out)) hb)
      clear BK204
      clear HB
      have BK204 := n0_
      have HB := n1_
      clear n0_ n1_
      (try clear hb)
      (try clear hb2)
      (try clear hk)
      (try clear hi)
      refine hK.out _ _ ⟨(blk_cell BK204.out 0).trans rfl, (blk_cell BK204.out 1).trans rfl⟩ (fun hHeld => ?_)
      clear hK K
      refine norm_ (a' := ?_) ?_ ?_
      rotate_left
      · show Act.put _ (some 5) _ = _
        simp only [Act.put, List.setIfInBounds_toArray, List.set_cons_zero, List.set_cons_succ, i64_w, i32_w]
        rfl
      refine pure_ (i := 3) (N := some 6) (v := ?_) (a' := ?_) #[true, true, true, true, true, true, false, false, false] rfl rfl (any_of HT_.out (by kernel_rfl)) (fun _ _ _ h => h) (Or.inl ⟨by rfl, ?_⟩) ?_ ?_
      rotate_left
      · intro w'
        go_simp
        with_reducible rfl
      rotate_left
      · simp only [Act.put, List.setIfInBounds_toArray, List.set_cons_zero, List.set_cons_succ, i64_w, i32_w]
        rfl
      refine one_ (i := 6) (N := some 9) #[true, true, true, true, true, true, true, false, false] rfl rfl (one_of HT_.out (by kernel_rfl)) (by decide) (fun K hK => ?_)
      refine goes_ Tryd.func22 (by kernel_rfl) rfl #[.int .i64 a0_1] (by rfl) rfl rfl (by (try simp only [List.map_toArray, List.map_cons, List.map_nil]); first | done | rfl | (simp only [List.length_drop, List.length_take]; rfl)) ?_
      with_reducible refine (strconv_Itoa_22.calls a0_1 t206 _ ?sideGp A4.out).mono ?_
      case sideGp => exact GLp_below HGp_.out (by repeat (first | (with_reducible first | exact HB.out | apply below_alloc | apply pw_below_drewN | apply below_drew1) | exact HB.out))
      rintro e w9 ⟨rfl, hb⟩
      refine ⟨_, rfl, ?_⟩
      have n0_ := Aside0.mk (blk_below (g := gb204) (o := .cells #[.int .i64 a0_0, .int .i64 a0_1] 30 (0, 0)) (by (with_reducible repeat (first | refine blk_drewN ?_ _ | refine blk_drew ?_ | refine blk_alloc ?_ _)); exact BK204.out) hb)
      have n1_ := Aside0.mk (below_step (by repeat (first | (with_reducible first | exact HB.out | apply below_alloc | apply pw_below_drewN | apply below_drew1 | refine below_set ?_ GE204.out) | exact HB.out)) hb)
      clear BK204
      clear HB
      have BK204 := n0_
      have HB := n1_
      clear n0_ n1_
      (try clear hb)
      (try clear hb2)
      (try clear hk)
      (try clear hi)
      refine hK.out _ _ ⟨(blk_cell BK204.out 0).trans rfl, (blk_cell BK204.out 1).trans rfl⟩ (fun hHeld => ?_)
      clear hK K
      refine norm_ (a' := ?_) ?_ ?_
      rotate_left
      · show Act.put _ (some 9) _ = _
        simp only [Act.put, List.setIfInBounds_toArray, List.set_cons_zero, List.set_cons_succ, i64_w, i32_w]
        rfl
      refine pure_ (i := 7) (N := some 10) (v := ?_) (a' := ?_) #[true, true, true, true, true, true, true, true, false] rfl rfl (any_of HT_.out (by kernel_rfl)) (fun _ _ _ h => h) (Or.inl ⟨by rfl, ?_⟩) ?_ ?_
      rotate_left
      · intro w'
        go_simp
        with_reducible rfl
      rotate_left
      · simp only [Act.put, List.setIfInBounds_toArray, List.set_cons_zero, List.set_cons_succ, i64_w, i32_w]
        rfl
      refine pure_ (i := 8) (N := some 2) (v := ?_) (a' := ?_) #[true, true, true, true, true, true, true, true, true] rfl rfl (any_of HT_.out (by kernel_rfl)) (fun _ _ _ h => h) (Or.inl ⟨by rfl, ?_⟩) ?_ ?_
      rotate_left
      · intro w'
        go_simp
        with_reducible rfl
      rotate_left
      · simp only [Act.put, List.setIfInBounds_toArray, List.set_cons_zero, List.set_cons_succ, i64_w, i32_w]
        rfl
      refine done_ (done_of HT_.out (by kernel_rfl)) ?_
      try go_wp2
      go_ret
      exact ⟨by first | rfl | (simp [errW_none, errW_some] <;> rfl) | (simp [*, errW_none, errW_some] <;> rfl), by repeat (first | (with_reducible first | exact HB.out | apply below_alloc | apply pw_below_drewN | apply below_drew1 | refine below_set ?_ GE204.out) | exact HB.out)⟩
    · rw [if_neg c5] at H
      exact absurd H (by simp)
  · rw [if_neg c3] at H
    exact absurd H (by simp)
end
section
/-! ### impl_RuleText: function 7 -/
def impl_RuleText.j0 : Nat → ByteArray → Int → Int → Int → Int → Int → Bool → Option (ByteArray × Int)
  | 0, _, _, _, _, _, _, _ => none
  | k + 1, x4, x208000, x208001, x208002, x208003, x208004, x208005 => (impl_protoWord.f x208000).bind fun t209 => ((impl_netText.f k x208001 x208002).bind fun t210 => ((strconv_Itoa_22.f x208003).bind fun t211 => ((strconv_Itoa_22.f x208004).bind fun t212 => ((strings_Join.f (([x4, t209, t210, t211, t212] : List ByteArray)) (⟨#[32]⟩ : ByteArray)).bind fun t216 => (some (t216, 0))))))
def impl_RuleText.f (k : Nat) (a0_0 : Int) (a0_1 : Int) (a0_2 : Int) (a0_3 : Int) (a0_4 : Int) (a0_5 : Bool) : Option (ByteArray × Int) := (impl_RuleOK.f k a0_0 a0_1 a0_2 a0_3 a0_4 a0_5).bind fun t208 => (if t208 = true then (if a0_5 = true then (impl_RuleText.j0 k (⟨#[97, 108, 108, 111, 119]⟩ : ByteArray) a0_0 a0_1 a0_2 a0_3 a0_4 a0_5) else (impl_RuleText.j0 k (⟨#[100, 101, 110, 121]⟩ : ByteArray) a0_0 a0_1 a0_2 a0_3 a0_4 a0_5)) else (some ((⟨#[]⟩ : ByteArray), 1)))
theorem impl_RuleText.mono_l : ∀ k, (∀ y0 y1 y2 y3 y4 y5 y6, LeO (impl_RuleText.j0 k y0 y1 y2 y3 y4 y5 y6) (impl_RuleText.j0 (k + 1) y0 y1 y2 y3 y4 y5 y6))
  | 0 => fun _ _ _ _ _ _ _ r h => by simp [impl_RuleText.j0] at h
  | k + 1 => by
    have ih0 := impl_RuleText.mono_l k
    · intro y0 y1 y2 y3 y4 y5 y6
      unfold impl_RuleText.j0
      repeat' first
      | (with_reducible exact ih0 _ _ _ _ _ _ _)
      | (with_reducible exact impl_RuleOK.mono _ _ _ _ _ _ _)
      | (with_reducible exact impl_netText.mono _ _ _)
      | (with_reducible exact LeO.refl _)
      | (with_reducible exact LeO.none _)
      | (with_reducible refine LeO.ite ?_ ?_)
      | (with_reducible refine LeO.bind ?_ (fun _ => ?_))
      | exact ih0 _ _ _ _ _ _ _
      | exact impl_RuleOK.mono _ _ _ _ _ _ _
      | exact impl_netText.mono _ _ _
      | exact LeO.none _
      | refine LeO.ite ?_ ?_
      | refine LeO.bind ?_ (fun _ => ?_)
theorem impl_RuleText.mono : ∀ a0 a1 a2 a3 a4 a5 k, LeO (impl_RuleText.f k a0 a1 a2 a3 a4 a5) (impl_RuleText.f (k + 1) a0 a1 a2 a3 a4 a5) := by
  intro a0 a1 a2 a3 a4 a5 k
  have ih0 := impl_RuleText.mono_l k
  unfold impl_RuleText.f
  repeat' first
      | (with_reducible exact ih0 _ _ _ _ _ _ _)
      | (with_reducible exact impl_RuleOK.mono _ _ _ _ _ _ _)
      | (with_reducible exact impl_netText.mono _ _ _)
      | (with_reducible exact LeO.refl _)
      | (with_reducible exact LeO.none _)
      | (with_reducible refine LeO.ite ?_ ?_)
      | (with_reducible refine LeO.bind ?_ (fun _ => ?_))
      | exact ih0 _ _ _ _ _ _ _
      | exact impl_RuleOK.mono _ _ _ _ _ _ _
      | exact impl_netText.mono _ _ _
      | exact LeO.none _
      | refine LeO.ite ?_ ?_
      | refine LeO.bind ?_ (fun _ => ?_)
def impl_RuleText.T6 : Bool × List (List Nat × List Nat) := (true, [([], []), ([], []), ([1], [1]), ([2], [2]), ([], []), ([4], [4]), ([5, 3], [5]), ([], []), ([7], [7]), ([8], [8]), ([9, 6], [9]), ([], []), ([11], [11]), ([12], [12]), ([13, 10], [13]), ([0, 3, 6, 10, 14], [0, 3, 6, 10, 14]), ([15, 14], [15]), ([16, 16, 0, 1, 2, 3, 4, 5, 6, 7, 8, 9, 10, 11, 12, 13, 14, 15, 16], [16]), ([17, 0, 1, 2, 3, 4, 5, 6, 7, 8, 9, 10, 11, 12, 13, 14, 15, 16, 17], [])])
def impl_RuleText.B6 : List Nat := [0, 0, 2, 6, 0, 16, 62, 0, 128, 384, 1022, 0, 2048, 6144, 16382, 32767, 65535, 131071, 262143]
theorem impl_RuleText.tab6 : rtab .any (opsOf Tryd.f7 6) = impl_RuleText.T6 := by kernel_rfl
theorem impl_RuleText.bits6 : waitsOk impl_RuleText.T6.2 impl_RuleText.B6 = true := by kernel_rfl
set_option maxHeartbeats 8000000 in
set_option maxRecDepth 100000 in
theorem impl_RuleText.calls (k : Nat) (a0_0 : Int) (a0_1 : Int) (a0_2 : Int) (a0_3 : Int) (a0_4 : Int) (a0_5 : Bool) (r1 : ByteArray) (r2 : Int) (w : World) (hGp : GLp w) (h : impl_RuleText.f k a0_0 a0_1 a0_2 a0_3 a0_4 a0_5 = some (r1, r2)) :
    Calls Tryd.prog 7 #[.agg #[.int .i64 a0_0, .int .i64 a0_1, .int .i64 a0_2, .int .i64 a0_3, .int .i64 a0_4, .bool a0_5]] w fun e w' => e = .returned (.tuple #[.string r1, .int .i64 r2]) ∧ Below w.heap.size w w' := by
  have HGp_ := Aside0.mk hGp
  clear hGp
  have hu33 := Tryd.underlying33
  have hu30 := Tryd.underlying30
  have HB := Aside0.mk (Below.refl w.heap.size w)
  have H : ((impl_RuleOK.f k a0_0 a0_1 a0_2 a0_3 a0_4 a0_5).bind fun t208 => (if t208 = true then (if a0_5 = true then (impl_RuleText.j0 k (⟨#[97, 108, 108, 111, 119]⟩ : ByteArray) a0_0 a0_1 a0_2 a0_3 a0_4 a0_5) else (impl_RuleText.j0 k (⟨#[100, 101, 110, 121]⟩ : ByteArray) a0_0 a0_1 a0_2 a0_3 a0_4 a0_5)) else (some ((⟨#[]⟩ : ByteArray), 1)))) = some (r1, r2) := h
  clear h
  replace H := Option.bind_eq_some_iff.mp H
  obtain ⟨t208, A20, H⟩ := H
  replace H : (if t208 = true then (if a0_5 = true then (impl_RuleText.j0 k (⟨#[97, 108, 108, 111, 119]⟩ : ByteArray) a0_0 a0_1 a0_2 a0_3 a0_4 a0_5) else (impl_RuleText.j0 k (⟨#[100, 101, 110, 121]⟩ : ByteArray) a0_0 a0_1 a0_2 a0_3 a0_4 a0_5)) else (some ((⟨#[]⟩ : ByteArray), 1))) = some (r1, r2) := H
  have A2 := Aside0.mk A20
  clear A20
  by_cases c3 : t208 = true
  · subst c3
    have H1 : (if a0_5 = true then (impl_RuleText.j0 k (⟨#[97, 108, 108, 111, 119]⟩ : ByteArray) a0_0 a0_1 a0_2 a0_3 a0_4 a0_5) else (impl_RuleText.j0 k (⟨#[100, 101, 110, 121]⟩ : ByteArray) a0_0 a0_1 a0_2 a0_3 a0_4 a0_5)) = some (r1, r2) := by rw [if_pos rfl] at H; exact H
    clear H
    have H := H1
    clear H1
    have HC4 := Aside0.mk H
    clear H
    go_enter Tryd.func7, Tryd.ntmps7
    go_upto_if 9 with (first | ((with_reducible refine gate_dst (N := 1) rfl ?_); refine box_event ?hg (N := 1) ?hd (cs := #[.int .i64 a0_0, .int .i64 a0_1, .int .i64 a0_2, .int .i64 a0_3, .int .i64 a0_4, .bool a0_5]) (t := 33) ?hr ?_; (case hd => rfl); (case hg => rfl); (case hr => first | (go_simp; done) | (go_simp; rfl)); intro gb207 hg w5 hbox hb; have n0_ := Aside0.mk (below_step (by repeat (first | (with_reducible first | exact HB.out | apply below_alloc | apply pw_below_drewN | apply below_drew1) | exact HB.out)) hb); have n1_ := Aside0.mk (hbox); have n2_ := Aside0.mk ((by rw [hg]; exact (below_size (by repeat (first | (with_reducible first | exact HB.out | apply below_alloc | apply pw_below_drewN | apply below_drew1) | exact HB.out))) : w.heap.size ≤ gb207)); have n3_ := Aside0.mk ((by rw [hg]; exact (below_size (by repeat (first | (with_reducible first | exact HB.out | apply below_alloc | apply pw_below_drewN | apply below_drew1) | exact HB.out))) : w.heap.size ≤ gb207)); clear HB; have HB := n0_; have BK207 := n1_; have GW207 := n2_; have GE207 := n3_; clear n0_ n1_ n2_ n3_; clear hb hbox hg; have hcz6_0 : w5.cell? ⟨gb207, 0, none⟩ = some (.int .i64 a0_0) := (blk_cell BK207.out 0).trans rfl; have hcz6_1 : w5.cell? ⟨gb207, 1, none⟩ = some (.int .i64 a0_1) := (blk_cell BK207.out 1).trans rfl; have hcz6_2 : w5.cell? ⟨gb207, 2, none⟩ = some (.int .i64 a0_2) := (blk_cell BK207.out 2).trans rfl; have hcz6_3 : w5.cell? ⟨gb207, 3, none⟩ = some (.int .i64 a0_3) := (blk_cell BK207.out 3).trans rfl; have hcz6_4 : w5.cell? ⟨gb207, 4, none⟩ = some (.int .i64 a0_4) := (blk_cell BK207.out 4).trans rfl; have hcz6_5 : w5.cell? ⟨gb207, 5, none⟩ = some (.bool a0_5) := (blk_cell BK207.out 5).trans rfl; have hfz6_0 := blk_frozen BK207.out 0; have hfz6_1 := blk_frozen BK207.out 1; have hfz6_2 := blk_frozen BK207.out 2; have hfz6_3 := blk_frozen BK207.out 3; have hfz6_4 := blk_frozen BK207.out 4; have hfz6_5 := blk_frozen BK207.out 5) | ((with_reducible refine gate_callee (f := 18) rfl ?_); refine goesL_ (some 6) rfl rfl Tryd.func18 (by kernel_rfl) rfl #[.agg #[.int .i64 a0_0, .int .i64 a0_1, .int .i64 a0_2, .int .i64 a0_3, .int .i64 a0_4, .bool a0_5]] rfl (by (try simp only [List.map_toArray, List.map_cons, List.map_nil]); first | done | rfl | (simp only [List.length_drop, List.length_take]; rfl)) ?_; (with_reducible refine (impl_RuleOK.calls k a0_0 a0_1 a0_2 a0_3 a0_4 a0_5 true _ A2.out).mono ?_); rintro e w7 ⟨rfl, hb⟩; refine ⟨_, rfl, ?_⟩; have n0_ := Aside0.mk (blk_below (g := gb207) (o := .cells #[.int .i64 a0_0, .int .i64 a0_1, .int .i64 a0_2, .int .i64 a0_3, .int .i64 a0_4, .bool a0_5] 33 (0, 0)) (by (with_reducible repeat (first | refine blk_drewN ?_ _ | refine blk_drew ?_ | refine blk_alloc ?_ _)); exact BK207.out) hb); have n1_ := Aside0.mk (below_step (by repeat (first | (with_reducible first | exact HB.out | apply below_alloc | apply pw_below_drewN | apply below_drew1 | refine below_set ?_ GE207.out) | exact HB.out)) hb); clear BK207; clear HB; have BK207 := n0_; have HB := n1_; clear n0_ n1_; (try clear hb); (try clear hb2); (try clear hk); (try clear hi); have hcz8_0 : w7.cell? ⟨gb207, 0, none⟩ = some (.int .i64 a0_0) := (blk_cell BK207.out 0).trans rfl; have hcz8_1 : w7.cell? ⟨gb207, 1, none⟩ = some (.int .i64 a0_1) := (blk_cell BK207.out 1).trans rfl; have hcz8_2 : w7.cell? ⟨gb207, 2, none⟩ = some (.int .i64 a0_2) := (blk_cell BK207.out 2).trans rfl; have hcz8_3 : w7.cell? ⟨gb207, 3, none⟩ = some (.int .i64 a0_3) := (blk_cell BK207.out 3).trans rfl; have hcz8_4 : w7.cell? ⟨gb207, 4, none⟩ = some (.int .i64 a0_4) := (blk_cell BK207.out 4).trans rfl; have hcz8_5 : w7.cell? ⟨gb207, 5, none⟩ = some (.bool a0_5) := (blk_cell BK207.out 5).trans rfl; have hfz8_0 := blk_frozen BK207.out 0; have hfz8_1 := blk_frozen BK207.out 1; have hfz8_2 := blk_frozen BK207.out 2; have hfz8_3 := blk_frozen BK207.out 3; have hfz8_4 := blk_frozen BK207.out 4; have hfz8_5 := blk_frozen BK207.out 5))
    (try simp only [Act.put, List.setIfInBounds_toArray, List.set_cons_zero, List.set_cons_succ])
    go_cut [4] (fun v4 wc => ∃ (kq : Nat) (x4_3 : ByteArray), v4 = .string x4_3 ∧ Aside0 (impl_RuleText.j0 kq x4_3 a0_0 a0_1 a0_2 a0_3 a0_4 a0_5 = some (r1, r2)) ∧ Aside0 (kq ≤ k) ∧ Aside0 (wc.heap[gb207]? = some (.cells #[.int .i64 a0_0, .int .i64 a0_1, .int .i64 a0_2, .int .i64 a0_3, .int .i64 a0_4, .bool a0_5] 33 (0, 0))) ∧ Aside0 (Below w.heap.size w wc))
    case first =>
      have H := HC4.out
      clear HC4
      by_cases c9 : a0_5 = true
      · subst c9
        have H1 : (impl_RuleText.j0 k (⟨#[97, 108, 108, 111, 119]⟩ : ByteArray) a0_0 a0_1 a0_2 a0_3 a0_4 true) = some (r1, r2) := by rw [if_pos rfl] at H; exact H
        clear H
        have H := H1
        clear H1
        have H' := Aside0.mk H
        clear H
        go_wp2
        go_meet
        case rel => exact ⟨_, ((⟨#[97, 108, 108, 111, 119]⟩ : ByteArray)), (by first | rfl | (simp; done) | (simp [*]; done) | (simp [ne_nil_b]; done) | (simp [ne_nil_b, *]; done)), H', ⟨by first | omega | exact Nat.le_refl _⟩, ⟨by (with_reducible repeat (first | refine blk_drewN ?_ _ | refine blk_drew ?_ | refine blk_alloc ?_ _)); exact BK207.out⟩, ⟨by repeat (first | (with_reducible first | exact HB.out | apply below_alloc | apply pw_below_drewN | apply below_drew1 | refine below_set ?_ GE207.out) | exact HB.out)⟩⟩
      · replace c9 := Bool.eq_false_iff.mpr c9
        subst c9
        have H1 : (impl_RuleText.j0 k (⟨#[100, 101, 110, 121]⟩ : ByteArray) a0_0 a0_1 a0_2 a0_3 a0_4 false) = some (r1, r2) := by rw [if_neg (show ¬ (false = true) by decide)] at H; exact H
        clear H
        have H := H1
        clear H1
        have H' := Aside0.mk H
        clear H
        go_wp2
        go_meet
        case rel => exact ⟨_, ((⟨#[100, 101, 110, 121]⟩ : ByteArray)), (by first | rfl | (simp; done) | (simp [*]; done) | (simp [ne_nil_b]; done) | (simp [ne_nil_b, *]; done)), H', ⟨by first | omega | exact Nat.le_refl _⟩, ⟨by (with_reducible repeat (first | refine blk_drewN ?_ _ | refine blk_drew ?_ | refine blk_alloc ?_ _)); exact BK207.out⟩, ⟨by repeat (first | (with_reducible first | exact HB.out | apply below_alloc | apply pw_below_drewN | apply below_drew1 | refine below_set ?_ GE207.out) | exact HB.out)⟩⟩
    case rest =>
      clear HC4
      try clear c1
      try clear p2
      try clear c3
      try clear c7
      try clear c9
      try clear hcz6_0
      try clear hcz6_1
      try clear hcz6_2
      try clear hcz6_3
      try clear hcz6_4
      try clear hcz6_5
      try clear hcz8_0
      try clear hcz8_1
      try clear hcz8_2
      try clear hcz8_3
      try clear hcz8_4
      try clear hcz8_5
      try clear hfz6_0
      try clear hfz6_1
      try clear hfz6_2
      try clear hfz6_3
      try clear hfz6_4
      try clear hfz6_5
      try clear hfz8_0
      try clear hfz8_1
      try clear hfz8_2
      try clear hfz8_3
      try clear hfz8_4
      try clear hfz8_5
      obtain ⟨kq, x4_3, rfl, HA, HJ3, BK207, HB⟩ := hcut
      cases kq with
      | zero => exact absurd HA.out (by simp [impl_RuleText.j0])
      | succ kj3 =>
        have H := HA.out
        clear HA
        simp only [impl_RuleText.j0] at H
        replace H := Option.bind_eq_some_iff.mp H
        obtain ⟨t209, A100, H⟩ := H
        replace H : ((impl_netText.f kj3 a0_1 a0_2).bind fun t210 => ((strconv_Itoa_22.f a0_3).bind fun t211 => ((strconv_Itoa_22.f a0_4).bind fun t212 => ((strings_Join.f (([x4_3, t209, t210, t211, t212] : List ByteArray)) (⟨#[32]⟩ : ByteArray)).bind fun t216 => (some (t216, 0)))))) = some (r1, r2) := H
        have A10 := Aside0.mk A100
        clear A100
        replace H := Option.bind_eq_some_iff.mp H
        obtain ⟨t210, A110, H⟩ := H
        replace H : ((strconv_Itoa_22.f a0_3).bind fun t211 => ((strconv_Itoa_22.f a0_4).bind fun t212 => ((strings_Join.f (([x4_3, t209, t210, t211, t212] : List ByteArray)) (⟨#[32]⟩ : ByteArray)).bind fun t216 => (some (t216, 0))))) = some (r1, r2) := H
        have A11 := Aside0.mk A110
        clear A110
        replace H := Option.bind_eq_some_iff.mp H
        obtain ⟨t211, A120, H⟩ := H
        replace H : ((strconv_Itoa_22.f a0_4).bind fun t212 => ((strings_Join.f (([x4_3, t209, t210, t211, t212] : List ByteArray)) (⟨#[32]⟩ : ByteArray)).bind fun t216 => (some (t216, 0)))) = some (r1, r2) := H
        have A12 := Aside0.mk A120
        clear A120
        replace H := Option.bind_eq_some_iff.mp H
        obtain ⟨t212, A130, H⟩ := H
        replace H : ((strings_Join.f (([x4_3, t209, t210, t211, t212] : List ByteArray)) (⟨#[32]⟩ : ByteArray)).bind fun t216 => (some (t216, 0))) = some (r1, r2) := H
        have A13 := Aside0.mk A130
        clear A130
        obtain ⟨y213, hy213⟩ : ∃ y_ : List ByteArray, y_ = (([x4_3, t209, t210, t211, t212] : List ByteArray)) := ⟨_, rfl⟩
        replace H : ((strings_Join.f y213 (⟨#[32]⟩ : ByteArray)).bind fun t216 => (some (t216, 0))) = some (r1, r2) := by first | (rw [hy213]; with_reducible exact H) | (have H2_ := (Option.bind_some _ _).symm.trans H; rw [hy213]; with_reducible exact H2_) | (have H2_ := (Option.bind_some _ _).symm.trans H; with_reducible exact H2_) | with_reducible exact H | (rw [hy213]; exact H) | exact H
        have Ny213 := Aside0.mk hy213
        clear hy213
        replace H := Option.bind_eq_some_iff.mp H
        obtain ⟨t216, A140, H⟩ := H
        replace H : (some (t216, 0)) = some (r1, r2) := H
        have A14 := Aside0.mk A140
        clear A140
        simp only [Option.some.injEq, Prod.mk.injEq] at H
        obtain ⟨rfl, rfl⟩ := H
        try go_wp2
        have n0_ := Aside0.mk (blk_drew BK207.out)
        have n1_ := Aside0.mk (below_drew1 HB.out)
        clear BK207
        clear HB
        have BK207 := n0_
        have HB := n1_
        clear n0_ n1_
        refine start_ (n := 19) (S := fun w' => w'.cell? ⟨gb207, 0, none⟩ = some (.int .i64 a0_0) ∧ w'.cell? ⟨gb207, 1, none⟩ = some (.int .i64 a0_1) ∧ w'.cell? ⟨gb207, 2, none⟩ = some (.int .i64 a0_2) ∧ w'.cell? ⟨gb207, 3, none⟩ = some (.int .i64 a0_3) ∧ w'.cell? ⟨gb207, 4, none⟩ = some (.int .i64 a0_4) ∧ w'.cell? ⟨gb207, 5, none⟩ = some (.bool a0_5)) (ds := []) #[false, false, false, false, false, false, false, false, false, false, false, false, false, false, false, false, false, false, false] (by kernel_rfl) rfl rfl ⟨(blk_cell BK207.out 0).trans rfl, (blk_cell BK207.out 1).trans rfl, (blk_cell BK207.out 2).trans rfl, (blk_cell BK207.out 3).trans rfl, (blk_cell BK207.out 4).trans rfl, (blk_cell BK207.out 5).trans rfl⟩ (fun hHeld => ?_); refine with_tabW impl_RuleText.tab6 impl_RuleText.bits6 (fun HT_ HW_ => ?_)
        generalize wc.drew = w15 at BK207 HB hHeld ⊢
        refine pure_ (i := 0) (N := some 10) (v := ?_) (a' := ?_) #[true, false, false, false, false, false, false, false, false, false, false, false, false, false, false, false, false, false, false] rfl rfl (any_of HT_.out (by kernel_rfl)) (fun _ _ _ h => h) (Or.inl ⟨by rfl, ?_⟩) ?_ ?_
        rotate_left
        · intro w'
          go_simp
          with_reducible rfl
        rotate_left
        · simp only [Act.put, List.setIfInBounds_toArray, List.set_cons_zero, List.set_cons_succ, i64_w, i32_w]
          rfl
        refine pure_ (i := 1) (N := some 11) (v := ?_) (a' := ?_) #[true, true, false, false, false, false, false, false, false, false, false, false, false, false, false, false, false, false, false] rfl rfl (any_of HT_.out (by kernel_rfl)) (fun _ _ _ h => h) (Or.inl ⟨by rfl, ?_⟩) ?_ ?_
        rotate_left
        · intro w'
          go_simp
          with_reducible rfl
        rotate_left
        · simp only [Act.put, List.setIfInBounds_toArray, List.set_cons_zero, List.set_cons_succ, i64_w, i32_w]
          rfl
        refine pure_ (i := 4) (N := some 14) (v := ?_) (a' := ?_) #[true, true, false, false, true, false, false, false, false, false, false, false, false, false, false, false, false, false, false] rfl rfl (any_of HT_.out (by kernel_rfl)) (fun _ _ _ h => h) (Or.inl ⟨by rfl, ?_⟩) ?_ ?_
        rotate_left
        · intro w'
          go_simp
          with_reducible rfl
        rotate_left
        · simp only [Act.put, List.setIfInBounds_toArray, List.set_cons_zero, List.set_cons_succ, i64_w, i32_w]
          rfl
        refine pure_ (i := 7) (N := some 17) (v := ?_) (a' := ?_) #[true, true, false, false, true, false, false, true, false, false, false, false, false, false, false, false, false, false, false] rfl rfl (any_of HT_.out (by kernel_rfl)) (fun _ _ _ h => h) (Or.inl ⟨by rfl, ?_⟩) ?_ ?_
        rotate_left
        · intro w'
          go_simp
          with_reducible rfl
        rotate_left
        · simp only [Act.put, List.setIfInBounds_toArray, List.set_cons_zero, List.set_cons_succ, i64_w, i32_w]
          rfl
        refine pure_ (i := 8) (N := some 18) (v := ?_) (a' := ?_) #[true, true, false, false, true, false, false, true, true, false, false, false, false, false, false, false, false, false, false] rfl rfl (any_of HT_.out (by kernel_rfl)) (fun _ _ _ h => h) (Or.inl ⟨by rfl, ?_⟩) ?_ ?_
        rotate_left
        · intro w'
          go_simp
          with_reducible rfl
        rotate_left
        · simp only [Act.put, List.setIfInBounds_toArray, List.set_cons_zero, List.set_cons_succ, i64_w, i32_w]
          rfl
        refine pure_ (i := 11) (N := some 21) (v := ?_) (a' := ?_) #[true, true, false, false, true, false, false, true, true, false, false, true, false, false, false, false, false, false, false] rfl rfl (any_of HT_.out (by kernel_rfl)) (fun _ _ _ h => h) (Or.inl ⟨by rfl, ?_⟩) ?_ ?_
        rotate_left
        · intro w'
          go_simp
          with_reducible rfl
        rotate_left
        · simp only [Act.put, List.setIfInBounds_toArray, List.set_cons_zero, List.set_cons_succ, i64_w, i32_w]
          rfl
        refine pure_ (i := 12) (N := some 22) (v := ?_) (a' := ?_) #[true, true, false, false, true, false, false, true, true, false, false, true, true, false, false, false, false, false, false] rfl rfl (any_of HT_.out (by kernel_rfl)) (fun _ _ _ h => h) (Or.inl ⟨by rfl, ?_⟩) ?_ ?_
        rotate_left
        · intro w'
          go_simp
          with_reducible rfl
        rotate_left
        · simp only [Act.put, List.setIfInBounds_toArray, List.set_cons_zero, List.set_cons_succ, i64_w, i32_w]
          rfl
        refine take_ (i := 2) (N := some 12) (v := ?_) (a' := ?_) #[true, true, true, false, true, false, false, true, true, false, false, true, true, false, false, false, false, false, false] rfl rfl (take_ofW HT_.out HW_.out (by kernel_rfl)) (fun _ _ _ h => h) (Or.inl ⟨by rfl, ?_⟩) hHeld ?_ ?_
        rotate_left
        · rintro w' ⟨s0, s1, s2, s3, s4, s5⟩
          go_simp
          with_reducible rfl
        rotate_left
        · simp only [Act.put, List.setIfInBounds_toArray, List.set_cons_zero, List.set_cons_succ, i64_w, i32_w]
          rfl
        refine take_ (i := 5) (N := some 15) (v := ?_) (a' := ?_) #[true, true, true, false, true, true, false, true, true, false, false, true, true, false, false, false, false, false, false] rfl rfl (take_ofW HT_.out HW_.out (by kernel_rfl)) (fun _ _ _ h => h) (Or.inl ⟨by rfl, ?_⟩) hHeld ?_ ?_
        rotate_left
        · rintro w' ⟨s0, s1, s2, s3, s4, s5⟩
          go_simp
          with_reducible rfl
        rotate_left
        · simp only [Act.put, List.setIfInBounds_toArray, List.set_cons_zero, List.set_cons_succ, i64_w, i32_w]
          rfl
        refine take_ (i := 9) (N := some 19) (v := ?_) (a' := ?_) #[true, true, true, false, true, true, false, true, true, true, false, true, true, false, false, false, false, false, false] rfl rfl (take_ofW HT_.out HW_.out (by kernel_rfl)) (fun _ _ _ h => h) (Or.inl ⟨by rfl, ?_⟩) hHeld ?_ ?_
        rotate_left
        · rintro w' ⟨s0, s1, s2, s3, s4, s5⟩
          go_simp
          with_reducible rfl
        rotate_left
        · simp only [Act.put, List.setIfInBounds_toArray, List.set_cons_zero, List.set_cons_succ, i64_w, i32_w]
          rfl
        refine take_ (i := 13) (N := some 23) (v := ?_) (a' := ?_) #[true, true, true, false, true, true, false, true, true, true, false, true, true, true, false, false, false, false, false] rfl rfl (take_ofW HT_.out HW_.out (by kernel_rfl)) (fun _ _ _ h => h) (Or.inl ⟨by rfl, ?_⟩) hHeld ?_ ?_
        rotate_left
        · rintro w' ⟨s0, s1, s2, s3, s4, s5⟩
          go_simp
          with_reducible rfl
        rotate_left
        · simp only [Act.put, List.setIfInBounds_toArray, List.set_cons_zero, List.set_cons_succ, i64_w, i32_w]
          rfl
        refine one_ (i := 3) (N := some 13) #[true, true, true, true, true, true, false, true, true, true, false, true, true, true, false, false, false, false, false] rfl rfl (one_of HT_.out (by kernel_rfl)) (by decide) (fun K hK => ?_)
        refine goes_ Tryd.func20 (by kernel_rfl) rfl #[.int .i64 a0_0] (by rfl) rfl rfl (by (try simp only [List.map_toArray, List.map_cons, List.map_nil]); first | done | rfl | (simp only [List.length_drop, List.length_take]; rfl)) ?_
        with_reducible refine (impl_protoWord.calls a0_0 t209 _ A10.out).mono ?_
        rintro e w' ⟨rfl, ⟨nd, rfl⟩⟩
        refine ⟨_, rfl, ?_⟩
        refine hK.out _ _ ⟨(blk_cell BK207.out 0).trans rfl, (blk_cell BK207.out 1).trans rfl, (blk_cell BK207.out 2).trans rfl, (blk_cell BK207.out 3).trans rfl, (blk_cell BK207.out 4).trans rfl, (blk_cell BK207.out 5).trans rfl⟩ (fun hHeld => ?_)
        clear hK K
        refine norm_ (a' := ?_) ?_ ?_
        rotate_left
        · show Act.put _ (some 13) _ = _
          simp only [Act.put, List.setIfInBounds_toArray, List.set_cons_zero, List.set_cons_succ, i64_w, i32_w]
          rfl
        refine one_ (i := 6) (N := some 16) #[true, true, true, true, true, true, true, true, true, true, false, true, true, true, false, false, false, false, false] rfl rfl (one_of HT_.out (by kernel_rfl)) (by decide) (fun K hK => ?_)
        refine goes_ Tryd.func21 (by kernel_rfl) rfl #[.agg #[.int .i64 a0_1, .int .i64 a0_2]] (by rfl) rfl rfl (by (try simp only [List.map_toArray, List.map_cons, List.map_nil]); first | done | rfl | (simp only [List.length_drop, List.length_take]; rfl)) ?_
        with_reducible refine (impl_netText.calls kj3 a0_1 a0_2 t210 _ ?sideGp A11.out).mono ?_
        case sideGp => exact GLp_below HGp_.out (by repeat (first | (with_reducible first | exact HB.out | apply below_alloc | apply pw_below_drewN | apply below_drew1) | exact HB.out))
        rintro e w16 ⟨rfl, hb⟩
        refine ⟨_, rfl, ?_⟩
        have n0_ := Aside0.mk (blk_below (g := gb207) (o := .cells #[.int .i64 a0_0, .int .i64 a0_1, .int .i64 a0_2, .int .i64 a0_3, .int .i64 a0_4, .bool a0_5] 33 (0, 0)) (by (with_reducible repeat (first | refine blk_drewN ?_ _ | refine blk_drew ?_ | refine blk_alloc ?_ _)); exact BK207.out) hb)
        have n1_ := Aside0.mk (below_step (by repeat (first | (with_reducible first | exact HB.out | apply below_alloc | apply pw_below_drewN | apply below_drew1 | refine below_set ?_ GE207.out) | exact HB.out)) hb)
        clear BK207
        clear HB
        have BK207 := n0_
        have HB := n1_
        clear n0_ n1_
        (try clear hb)
        (try clear hb2)
        (try clear hk)
        (try clear hi)
        refine hK.out _ _ ⟨(blk_cell BK207.out 0).trans rfl, (blk_cell BK207.out 1).trans rfl, (blk_cell BK207.out 2).trans rfl, (blk_cell BK207.out 3).trans rfl, (blk_cell BK207.out 4).trans rfl, (blk_cell BK207.out 5).trans rfl⟩ (fun hHeld => ?_)
        clear hK K
        refine norm_ (a' := ?_) ?_ ?_
        rotate_left
        · show Act.put _ (some 16) _ = _
          simp only [Act.put, List.setIfInBounds_toArray, List.set_cons_zero, List.set_cons_succ, i64_w, i32_w]
          rfl
        refine one_ (i := 10) (N := some 20) #[true, true, true, true, true, true, true, true, true, true, true, true, true, true, false, false, false, false, false] rfl rfl (one_of HT_.out (by kernel_rfl)) (by decide) (fun K hK => ?_)
        refine goes_ Tryd.func22 (by kernel_rfl) rfl #[.int .i64 a0_3] (by rfl) rfl rfl (by (try simp only [List.map_toArray, List.map_cons, List.map_nil]); first | done | rfl | (simp only [List.length_drop, List.length_take]; rfl)) ?_
        with_reducible refine (strconv_Itoa_22.calls a0_3 t211 _ ?sideGp A12.out).mono ?_
        case sideGp => exact GLp_below HGp_.out (by repeat (first | (with_reducible first | exact HB.out | apply below_alloc | apply pw_below_drewN | apply below_drew1) | exact HB.out))
        rintro e w17 ⟨rfl, hb⟩
        refine ⟨_, rfl, ?_⟩
        have n0_ := Aside0.mk (blk_below (g := gb207) (o := .cells #[.int .i64 a0_0, .int .i64 a0_1, .int .i64 a0_2, .int .i64 a0_3, .int .i64 a0_4, .bool a0_5] 33 (0, 0)) (by (with_reducible repeat (first | refine blk_drewN ?_ _ | refine blk_drew ?_ | refine blk_alloc ?_ _)); exact BK207.out) hb)
        have n1_ := Aside0.mk (below_step (by repeat (first | (with_reducible first | exact HB.out | apply below_alloc | apply pw_below_drewN | apply below_drew1 | refine below_set ?_ GE207.out) | exact HB.out)) hb)
        clear BK207
        clear HB
        have BK207 := n0_
        have HB := n1_
        clear n0_ n1_
        (try clear hb)
        (try clear hb2)
        (try clear hk)
        (try clear hi)
        refine hK.out _ _ ⟨(blk_cell BK207.out 0).trans rfl, (blk_cell BK207.out 1).trans rfl, (blk_cell BK207.out 2).trans rfl, (blk_cell BK207.out 3).trans rfl, (blk_cell BK207.out 4).trans rfl, (blk_cell BK207.out 5).trans rfl⟩ (fun hHeld => ?_)
        clear hK K
        refine norm_ (a' := ?_) ?_ ?_
        rotate_left
        · show Act.put _ (some 20) _ = _
          simp only [Act.put, List.setIfInBounds_toArray, List.set_cons_zero, List.set_cons_succ, i64_w, i32_w]
          rfl
        refine one_ (i := 14) (N := some 24) #[true, true, true, true, true, true, true, true, true, true, true, true, true, true, true, false, false, false, false] rfl rfl (one_of HT_.out (by kernel_rfl)) (by decide) (fun K hK => ?_)
        refine goes_ Tryd.func22 (by kernel_rfl) rfl #[.int .i64 a0_4] (by rfl) rfl rfl (by (try simp only [List.map_toArray, List.map_cons, List.map_nil]); first | done | rfl | (simp only [List.length_drop, List.length_take]; rfl)) ?_
        with_reducible refine (strconv_Itoa_22.calls a0_4 t212 _ ?sideGp A13.out).mono ?_
        case sideGp => exact GLp_below HGp_.out (by repeat (first | (with_reducible first | exact HB.out | apply below_alloc | apply pw_below_drewN | apply below_drew1) | exact HB.out))
        rintro e w18 ⟨rfl, hb⟩
        refine ⟨_, rfl, ?_⟩
        have n0_ := Aside0.mk (blk_below (g := gb207) (o := .cells #[.int .i64 a0_0, .int .i64 a0_1, .int .i64 a0_2, .int .i64 a0_3, .int .i64 a0_4, .bool a0_5] 33 (0, 0)) (by (with_reducible repeat (first | refine blk_drewN ?_ _ | refine blk_drew ?_ | refine blk_alloc ?_ _)); exact BK207.out) hb)
        have n1_ := Aside0.mk (below_step (by repeat (first | (with_reducible first | exact HB.out | apply below_alloc | apply pw_below_drewN | apply below_drew1 | refine below_set ?_ GE207.out) | exact HB.out)) hb)
        clear BK207
        clear HB
        have BK207 := n0_
        have HB := n1_
        clear n0_ n1_
        (try clear hb)
        (try clear hb2)
        (try clear hk)
        (try clear hi)
        refine hK.out _ _ ⟨(blk_cell BK207.out 0).trans rfl, (blk_cell BK207.out 1).trans rfl, (blk_cell BK207.out 2).trans rfl, (blk_cell BK207.out 3).trans rfl, (blk_cell BK207.out 4).trans rfl, (blk_cell BK207.out 5).trans rfl⟩ (fun hHeld => ?_)
        clear hK K
        refine norm_ (a' := ?_) ?_ ?_
        rotate_left
        · show Act.put _ (some 24) _ = _
          simp only [Act.put, List.setIfInBounds_toArray, List.set_cons_zero, List.set_cons_succ, i64_w, i32_w]
          rfl
        refine one_ (i := 15) (N := some 25) #[true, true, true, true, true, true, true, true, true, true, true, true, true, true, true, true, false, false, false] rfl rfl (one_of HT_.out (by kernel_rfl)) (by decide) (fun K hK => ?_)
        refine Kd.R_lit_step Kd.string _ 9 ?hg (N := 25) ?hd (xs := ([x4_3, t209, t210, t211, t212] : List ByteArray)) (inner := [.string x4_3, .string t209, .string t210, .string t211, .string t212]) (ok := fun _ => True) (okp := fun _ => True) ?hr ?hp (fun _ hk => hk) trivial (Below.refl _ _) (Nat.le_refl _) (by simp) ?_; (case hd => rfl); (case hg => rfl); (case hr => first | (go_simp; done) | (go_simp; rfl)); (case hp => exact (Reps.one (show Kd.M Kd.string _ _ _ x4_3 [.string x4_3] from rfl) (Reps.one (show Kd.M Kd.string _ _ _ t209 [.string t209] from rfl) (Reps.one (show Kd.M Kd.string _ _ _ t210 [.string t210] from rfl) (Reps.one (show Kd.M Kd.string _ _ _ t211 [.string t211] from rfl) (Reps.one (show Kd.M Kd.string _ _ _ t212 [.string t212] from rfl) (Reps.none _ _)))))))
        intro v214 w19 ho20 hb hg_ hnew_
        clear hg_ hnew_
        (first | rw [← Ny213.out] at ho20 | (simp only [Int.reduceToNat] at ho20; rw [← Ny213.out] at ho20))
        have n0_ := Aside0.mk (Kd.R_lower ho20 (below_size (by repeat (first | (with_reducible first | exact HB.out | apply below_alloc | apply pw_below_drewN | apply below_drew1 | refine below_set ?_ GE207.out) | exact HB.out))))
        have n1_ := Aside0.mk (blk_below (g := gb207) (o := .cells #[.int .i64 a0_0, .int .i64 a0_1, .int .i64 a0_2, .int .i64 a0_3, .int .i64 a0_4, .bool a0_5] 33 (0, 0)) (by (with_reducible repeat (first | refine blk_drewN ?_ _ | refine blk_drew ?_ | refine blk_alloc ?_ _)); exact BK207.out) hb)
        have n2_ := Aside0.mk (below_step (by repeat (first | (with_reducible first | exact HB.out | apply below_alloc | apply pw_below_drewN | apply below_drew1 | refine below_set ?_ GE207.out) | exact HB.out)) hb)
        clear BK207
        clear HB
        have HO215 := n0_
        have BK207 := n1_
        have HB := n2_
        clear n0_ n1_ n2_
        clear hb ho20
        obtain ⟨Ao21, co21, eo21⟩ := Kd.R_slice HO215.out
        (first | subst eo21 | (injection eo21 with f1_ f2_ f3_; have f4_ := f1_.symm; have f5_ := f3_.symm; clear f1_ f2_ f3_; subst f4_; subst f5_))
        refine hK.out _ _ ⟨(blk_cell BK207.out 0).trans rfl, (blk_cell BK207.out 1).trans rfl, (blk_cell BK207.out 2).trans rfl, (blk_cell BK207.out 3).trans rfl, (blk_cell BK207.out 4).trans rfl, (blk_cell BK207.out 5).trans rfl⟩ (fun hHeld => ?_)
        clear hK K
        refine norm_ (a' := ?_) ?_ ?_
        rotate_left
        · show Act.put _ (some 25) _ = _
          simp only [Act.put, List.setIfInBounds_toArray, List.set_cons_zero, List.set_cons_succ, i64_w, i32_w]
          rfl
        refine one_ (i := 16) (N := some 26) #[true, true, true, true, true, true, true, true, true, true, true, true, true, true, true, true, true, false, false] rfl rfl (one_of HT_.out (by kernel_rfl)) (by decide) (fun K hK => ?_)
        refine goes_ Tryd.func19 (by kernel_rfl) rfl #[.slice Ao21 y213.length co21, .string (⟨#[32]⟩ : ByteArray)] (by rfl) rfl rfl (by (try simp only [List.map_toArray, List.map_cons, List.map_nil]); first | done | rfl | (simp only [List.length_drop, List.length_take]; rfl)) ?_
        with_reducible refine (strings_Join.calls _ _ y213 (⟨#[32]⟩ : ByteArray) t216 _ ?side1 ?side2 A14.out).mono ?_
        (case side1 => repeat (first | exact (Kd.R_reads' HO215.out).2.2 | (with_reducible refine Kd.C_alloc ?_ _) | (with_reducible refine Kd.C_drewN ?_ _) | (with_reducible refine Kd.C_drew ?_)))
        (case side2 => exact (Kd.R_reads' HO215.out).2.1)
        rintro e w22 ⟨rfl, hb⟩
        refine ⟨_, rfl, ?_⟩
        have n0_ := Aside0.mk (Kd.R_below (by (with_reducible repeat (first | apply Kd.R_alloc | apply Kd.R_drewN | apply Kd.R_drew)); exact HO215.out) hb)
        have n1_ := Aside0.mk (blk_below (g := gb207) (o := .cells #[.int .i64 a0_0, .int .i64 a0_1, .int .i64 a0_2, .int .i64 a0_3, .int .i64 a0_4, .bool a0_5] 33 (0, 0)) (by (with_reducible repeat (first | refine blk_drewN ?_ _ | refine blk_drew ?_ | refine blk_alloc ?_ _)); exact BK207.out) hb)
        have n2_ := Aside0.mk (below_step (by repeat (first | (with_reducible first | exact HB.out | apply below_alloc | apply pw_below_drewN | apply below_drew1 | refine below_set ?_ GE207.out) | exact HB.out)) hb)
        clear HO215
        clear BK207
        clear HB
        have HO215 := n0_
        have BK207 := n1_
        have HB := n2_
        clear n0_ n1_ n2_
        (try clear hb)
        (try clear hb2)
        (try clear hk)
        (try clear hi)
        refine hK.out _ _ ⟨(blk_cell BK207.out 0).trans rfl, (blk_cell BK207.out 1).trans rfl, (blk_cell BK207.out 2).trans rfl, (blk_cell BK207.out 3).trans rfl, (blk_cell BK207.out 4).trans rfl, (blk_cell BK207.out 5).trans rfl⟩ (fun hHeld => ?_)
        clear hK K
        refine norm_ (a' := ?_) ?_ ?_
        rotate_left
        · show Act.put _ (some 26) _ = _
          simp only [Act.put, List.setIfInBounds_toArray, List.set_cons_zero, List.set_cons_succ, i64_w, i32_w]
          rfl
        refine pure_ (i := 17) (N := some 2) (v := ?_) (a' := ?_) #[true, true, true, true, true, true, true, true, true, true, true, true, true, true, true, true, true, true, false] rfl rfl (any_of HT_.out (by kernel_rfl)) (fun _ _ _ h => h) (Or.inl ⟨by rfl, ?_⟩) ?_ ?_
        rotate_left
        · intro w'
          go_simp
          with_reducible rfl
        rotate_left
        · simp only [Act.put, List.setIfInBounds_toArray, List.set_cons_zero, List.set_cons_succ, i64_w, i32_w]
          rfl
        refine pure_ (i := 18) (N := some 3) (v := ?_) (a' := ?_) #[true, true, true, true, true, true, true, true, true, true, true, true, true, true, true, true, true, true, true] rfl rfl (any_of HT_.out (by kernel_rfl)) (fun _ _ _ h => h) (Or.inl ⟨by rfl, ?_⟩) ?_ ?_
        rotate_left
        · intro w'
          go_simp
          with_reducible rfl
        rotate_left
        · simp only [Act.put, List.setIfInBounds_toArray, List.set_cons_zero, List.set_cons_succ, i64_w, i32_w]
          rfl
        refine done_ (done_of HT_.out (by kernel_rfl)) ?_
        try go_wp2
        go_ret2
        exact ⟨by first | rfl | (simp [errW_none, errW_some] <;> rfl) | (simp [*, errW_none, errW_some] <;> rfl), by repeat (first | (with_reducible first | exact HB.out | apply below_alloc | apply pw_below_drewN | apply below_drew1 | refine below_set ?_ GE207.out) | exact HB.out)⟩
  · replace c3 := Bool.eq_false_iff.mpr c3
    subst c3
    have H1 : (some ((⟨#[]⟩ : ByteArray), 1)) = some (r1, r2) := by rw [if_neg (show ¬ (false = true) by decide)] at H; exact H
    clear H
    have H := H1
    clear H1
    simp only [Option.some.injEq, Prod.mk.injEq] at H
    obtain ⟨rfl, rfl⟩ := H
    go_enter Tryd.func7, Tryd.ntmps7
    go_wp2_with (first | ((with_reducible refine gate_dst (N := 1) rfl ?_); refine box_event ?hg (N := 1) ?hd (cs := #[.int .i64 a0_0, .int .i64 a0_1, .int .i64 a0_2, .int .i64 a0_3, .int .i64 a0_4, .bool a0_5]) (t := 33) ?hr ?_; (case hd => rfl); (case hg => rfl); (case hr => first | (go_simp; done) | (go_simp; rfl)); intro gb207 hg w23 hbox hb; have n0_ := Aside0.mk (below_step (by repeat (first | (with_reducible first | exact HB.out | apply below_alloc | apply pw_below_drewN | apply below_drew1) | exact HB.out)) hb); have n1_ := Aside0.mk (hbox); have n2_ := Aside0.mk ((by rw [hg]; exact (below_size (by repeat (first | (with_reducible first | exact HB.out | apply below_alloc | apply pw_below_drewN | apply below_drew1) | exact HB.out))) : w.heap.size ≤ gb207)); have n3_ := Aside0.mk ((by rw [hg]; exact (below_size (by repeat (first | (with_reducible first | exact HB.out | apply below_alloc | apply pw_below_drewN | apply below_drew1) | exact HB.out))) : w.heap.size ≤ gb207)); clear HB; have HB := n0_; have BK207 := n1_; have GW207 := n2_; have GE207 := n3_; clear n0_ n1_ n2_ n3_; clear hb hbox hg; have hcz24_0 : w23.cell? ⟨gb207, 0, none⟩ = some (.int .i64 a0_0) := (blk_cell BK207.out 0).trans rfl; have hcz24_1 : w23.cell? ⟨gb207, 1, none⟩ = some (.int .i64 a0_1) := (blk_cell BK207.out 1).trans rfl; have hcz24_2 : w23.cell? ⟨gb207, 2, none⟩ = some (.int .i64 a0_2) := (blk_cell BK207.out 2).trans rfl; have hcz24_3 : w23.cell? ⟨gb207, 3, none⟩ = some (.int .i64 a0_3) := (blk_cell BK207.out 3).trans rfl; have hcz24_4 : w23.cell? ⟨gb207, 4, none⟩ = some (.int .i64 a0_4) := (blk_cell BK207.out 4).trans rfl; have hcz24_5 : w23.cell? ⟨gb207, 5, none⟩ = some (.bool a0_5) := (blk_cell BK207.out 5).trans rfl; have hfz24_0 := blk_frozen BK207.out 0; have hfz24_1 := blk_frozen BK207.out 1; have hfz24_2 := blk_frozen BK207.out 2; have hfz24_3 := blk_frozen BK207.out 3; have hfz24_4 := blk_frozen BK207.out 4; have hfz24_5 := blk_frozen BK207.out 5) | ((with_reducible refine gate_callee (f := 18) rfl ?_); refine goesL_ (some 6) rfl rfl Tryd.func18 (by kernel_rfl) rfl #[.agg #[.int .i64 a0_0, .int .i64 a0_1, .int .i64 a0_2, .int .i64 a0_3, .int .i64 a0_4, .bool a0_5]] rfl (by (try simp only [List.map_toArray, List.map_cons, List.map_nil]); first | done | rfl | (simp only [List.length_drop, List.length_take]; rfl)) ?_; (with_reducible refine (impl_RuleOK.calls k a0_0 a0_1 a0_2 a0_3 a0_4 a0_5 false _ A2.out).mono ?_); rintro e w25 ⟨rfl, hb⟩; refine ⟨_, rfl, ?_⟩; have n0_ := Aside0.mk (blk_below (g := gb207) (o := .cells #[.int .i64 a0_0, .int .i64 a0_1, .int .i64 a0_2, .int .i64 a0_3, .int .i64 a0_4, .bool a0_5] 33 (0, 0)) (by (with_reducible repeat (first | refine blk_drewN ?_ _ | refine blk_drew ?_ | refine blk_alloc ?_ _)); exact BK207.out) hb); have n1_ := Aside0.mk (below_step (by repeat (first | (with_reducible first | exact HB.out | apply below_alloc | apply pw_below_drewN | apply below_drew1 | refine below_set ?_ GE207.out) | exact HB.out)) hb); clear BK207; clear HB; have BK207 := n0_; have HB := n1_; clear n0_ n1_; (try clear hb); (try clear hb2); (try clear hk); (try clear hi)))
    go_ret2
    exact ⟨by first | rfl | (simp [errW_none, errW_some] <;> rfl) | (simp [*, errW_none, errW_some] <;> rfl), by repeat (first | (with_reducible first | exact HB.out | apply below_alloc | apply pw_below_drewN | apply below_drew1 | refine below_set ?_ GE207.out) | exact HB.out)⟩
end
section
/-! ### laws_FnExactRuleText: function 3 -/
def laws_FnExactRuleText.f (k : Nat) (a0_0 : Int) (a0_1 : Int) (a0_2 : Int) (a0_3 : Int) (a0_4 : Int) (a0_5 : Bool) : Option (Bool) := (laws_toRule.f a0_0 a0_1 a0_2 a0_3 a0_4 a0_5).bind fun bt218 => ((spec_RuleText.f k bt218.1 bt218.2.1 bt218.2.2.1 bt218.2.2.2.1 bt218.2.2.2.2.1 bt218.2.2.2.2.2).bind fun bt224 => ((laws_toRule.f a0_0 a0_1 a0_2 a0_3 a0_4 a0_5).bind fun bt226 => ((impl_RuleText.f k bt226.1 bt226.2.1 bt226.2.2.1 bt226.2.2.2.1 bt226.2.2.2.2.1 bt226.2.2.2.2.2).bind fun bt232 => (if bt232.1.toList = bt224.1.toList then (if bt232.2 = bt224.2 then (some true) else (some false)) else (some false)))))
theorem laws_FnExactRuleText.mono : ∀ a0 a1 a2 a3 a4 a5 k, LeO (laws_FnExactRuleText.f k a0 a1 a2 a3 a4 a5) (laws_FnExactRuleText.f (k + 1) a0 a1 a2 a3 a4 a5) := by
  intro a0 a1 a2 a3 a4 a5 k
  unfold laws_FnExactRuleText.f
  repeat' first
      | (with_reducible exact impl_RuleText.mono _ _ _ _ _ _ _)
      | (with_reducible exact spec_RuleText.mono _ _ _ _ _ _ _)
      | (with_reducible exact LeO.refl _)
      | (with_reducible exact LeO.none _)
      | (with_reducible refine LeO.ite ?_ ?_)
      | (with_reducible refine LeO.bind ?_ (fun _ => ?_))
      | exact impl_RuleText.mono _ _ _ _ _ _ _
      | exact spec_RuleText.mono _ _ _ _ _ _ _
      | exact LeO.none _
      | refine LeO.ite ?_ ?_
      | refine LeO.bind ?_ (fun _ => ?_)
set_option maxHeartbeats 8000000 in
set_option maxRecDepth 100000 in
theorem laws_FnExactRuleText.calls (k : Nat) (a0_0 : Int) (a0_1 : Int) (a0_2 : Int) (a0_3 : Int) (a0_4 : Int) (a0_5 : Bool) (r : Bool) (w : World) (hGp : GLp w) (h : laws_FnExactRuleText.f k a0_0 a0_1 a0_2 a0_3 a0_4 a0_5 = some r) :
    Calls Tryd.prog 3 #[.agg #[.int .i64 a0_0, .int .i64 a0_1, .int .i64 a0_2, .int .i64 a0_3, .int .i64 a0_4, .bool a0_5]] w fun e w' => e = .returned (.bool r) ∧ Below w.heap.size w w' := by
  have HGp_ := Aside0.mk hGp
  clear hGp
  have hu27 := Tryd.underlying27
  have HB := Aside0.mk (Below.refl w.heap.size w)
  have H : ((laws_toRule.f a0_0 a0_1 a0_2 a0_3 a0_4 a0_5).bind fun bt218 => ((spec_RuleText.f k bt218.1 bt218.2.1 bt218.2.2.1 bt218.2.2.2.1 bt218.2.2.2.2.1 bt218.2.2.2.2.2).bind fun bt224 => ((laws_toRule.f a0_0 a0_1 a0_2 a0_3 a0_4 a0_5).bind fun bt226 => ((impl_RuleText.f k bt226.1 bt226.2.1 bt226.2.2.1 bt226.2.2.2.1 bt226.2.2.2.2.1 bt226.2.2.2.2.2).bind fun bt232 => (if bt232.1.toList = bt224.1.toList then (if bt232.2 = bt224.2 then (some true) else (some false)) else (some false)))))) = some r := h
  clear h
  replace H := Option.bind_eq_some_iff.mp H
  obtain ⟨⟨t218, t219, t220, t221, t222, t223⟩, A20, H⟩ := H
  replace H : ((spec_RuleText.f k t218 t219 t220 t221 t222 t223).bind fun bt224 => ((laws_toRule.f a0_0 a0_1 a0_2 a0_3 a0_4 a0_5).bind fun bt226 => ((impl_RuleText.f k bt226.1 bt226.2.1 bt226.2.2.1 bt226.2.2.2.1 bt226.2.2.2.2.1 bt226.2.2.2.2.2).bind fun bt232 => (if bt232.1.toList = bt224.1.toList then (if bt232.2 = bt224.2 then (some true) else (some false)) else (some false))))) = some r := H
  have A2 := Aside0.mk A20
  clear A20
  replace H := Option.bind_eq_some_iff.mp H
  obtain ⟨⟨t224, t225⟩, A30, H⟩ := H
  replace H : ((laws_toRule.f a0_0 a0_1 a0_2 a0_3 a0_4 a0_5).bind fun bt226 => ((impl_RuleText.f k bt226.1 bt226.2.1 bt226.2.2.1 bt226.2.2.2.1 bt226.2.2.2.2.1 bt226.2.2.2.2.2).bind fun bt232 => (if bt232.1.toList = t224.toList then (if bt232.2 = t225 then (some true) else (some false)) else (some false)))) = some r := H
  have A3 := Aside0.mk A30
  clear A30
  replace H := Option.bind_eq_some_iff.mp H
  obtain ⟨⟨t226, t227, t228, t229, t230, t231⟩, A40, H⟩ := H
  replace H : ((impl_RuleText.f k t226 t227 t228 t229 t230 t231).bind fun bt232 => (if bt232.1.toList = t224.toList then (if bt232.2 = t225 then (some true) else (some false)) else (some false))) = some r := H
  have A4 := Aside0.mk A40
  clear A40
  replace H := Option.bind_eq_some_iff.mp H
  obtain ⟨⟨t232, t233⟩, A50, H⟩ := H
  replace H : (if t232.toList = t224.toList then (if t233 = t225 then (some true) else (some false)) else (some false)) = some r := H
  have A5 := Aside0.mk A50
  clear A50
  by_cases c6 : t232.toList = t224.toList
  · rw [if_pos c6] at H
    have c6b0 : (t232.toList == t224.toList) = true := beq_iff_eq.mpr c6
    have c6b1 : (t232.toList != t224.toList) = false := bne_eq_false_iff_eq.mpr c6
    clear c6
    by_cases c7 : t233 = t225
    · rw [if_pos c7] at H
      have c7b0 : (t233 == t225) = true := beq_iff_eq.mpr c7
      have c7b1 : (t233 != t225) = false := bne_eq_false_iff_eq.mpr c7
      clear c7
      obtain rfl := Option.some.inj H
      go_enter Tryd.func3, Tryd.ntmps3
      go_wp2_with (first | ((with_reducible refine gate_dst (N := 1) rfl ?_); refine box_event ?hg (N := 1) ?hd (cs := #[.int .i64 a0_0, .int .i64 a0_1, .int .i64 a0_2, .int .i64 a0_3, .int .i64 a0_4, .bool a0_5]) (t := 27) ?hr ?_; (case hd => rfl); (case hg => rfl); (case hr => first | (go_simp; done) | (go_simp; rfl)); intro gb217 hg w8 hbox hb; have n0_ := Aside0.mk (below_step (by repeat (first | (with_reducible first | exact HB.out | apply below_alloc | apply pw_below_drewN | apply below_drew1) | exact HB.out)) hb); have n1_ := Aside0.mk (hbox); have n2_ := Aside0.mk ((by rw [hg]; exact (below_size (by repeat (first | (with_reducible first | exact HB.out | apply below_alloc | apply pw_below_drewN | apply below_drew1) | exact HB.out))) : w.heap.size ≤ gb217)); have n3_ := Aside0.mk ((by rw [hg]; exact (below_size (by repeat (first | (with_reducible first | exact HB.out | apply below_alloc | apply pw_below_drewN | apply below_drew1) | exact HB.out))) : w.heap.size ≤ gb217)); clear HB; have HB := n0_; have BK217 := n1_; have GW217 := n2_; have GE217 := n3_; clear n0_ n1_ n2_ n3_; clear hb hbox hg; have hcz9_0 : w8.cell? ⟨gb217, 0, none⟩ = some (.int .i64 a0_0) := (blk_cell BK217.out 0).trans rfl; have hcz9_1 : w8.cell? ⟨gb217, 1, none⟩ = some (.int .i64 a0_1) := (blk_cell BK217.out 1).trans rfl; have hcz9_2 : w8.cell? ⟨gb217, 2, none⟩ = some (.int .i64 a0_2) := (blk_cell BK217.out 2).trans rfl; have hcz9_3 : w8.cell? ⟨gb217, 3, none⟩ = some (.int .i64 a0_3) := (blk_cell BK217.out 3).trans rfl; have hcz9_4 : w8.cell? ⟨gb217, 4, none⟩ = some (.int .i64 a0_4) := (blk_cell BK217.out 4).trans rfl; have hcz9_5 : w8.cell? ⟨gb217, 5, none⟩ = some (.bool a0_5) := (blk_cell BK217.out 5).trans rfl; have hfz9_0 := blk_frozen BK217.out 0; have hfz9_1 := blk_frozen BK217.out 1; have hfz9_2 := blk_frozen BK217.out 2; have hfz9_3 := blk_frozen BK217.out 3; have hfz9_4 := blk_frozen BK217.out 4; have hfz9_5 := blk_frozen BK217.out 5) | ((with_reducible refine gate_callee (f := 6) rfl ?_); refine goesL_ (some 9) rfl rfl Tryd.func6 (by kernel_rfl) rfl #[.agg #[.int .i64 a0_0, .int .i64 a0_1, .int .i64 a0_2, .int .i64 a0_3, .int .i64 a0_4, .bool a0_5]] rfl (by (try simp only [List.map_toArray, List.map_cons, List.map_nil]); first | done | rfl | (simp only [List.length_drop, List.length_take]; rfl)) ?_; (with_reducible refine (laws_toRule.calls a0_0 a0_1 a0_2 a0_3 a0_4 a0_5 t218 t219 t220 t221 t222 t223 _ A2.out).mono ?_); rintro e w10 ⟨rfl, hb⟩; refine ⟨_, rfl, ?_⟩; have n0_ := Aside0.mk (blk_below (g := gb217) (o := .cells #[.int .i64 a0_0, .int .i64 a0_1, .int .i64 a0_2, .int .i64 a0_3, .int .i64 a0_4, .bool a0_5] 27 (0, 0)) (by (with_reducible repeat (first | refine blk_drewN ?_ _ | refine blk_drew ?_ | refine blk_alloc ?_ _)); exact BK217.out) hb); have n1_ := Aside0.mk (below_step (by repeat (first | (with_reducible first | exact HB.out | apply below_alloc | apply pw_below_drewN | apply below_drew1 | refine below_set ?_ GE217.out) | exact HB.out)) hb); clear BK217; clear HB; have BK217 := n0_; have HB := n1_; clear n0_ n1_; (try clear hb); (try clear hb2); (try clear hk); (try clear hi)) | ((with_reducible refine gate_callee (f := 5) rfl ?_); refine goesL_ (some 10) rfl rfl Tryd.func5 (by kernel_rfl) rfl #[.agg #[.int .i64 t218, .int .i64 t219, .int .i64 t220, .int .i64 t221, .int .i64 t222, .bool t223]] rfl (by (try simp only [List.map_toArray, List.map_cons, List.map_nil]); first | done | rfl | (simp only [List.length_drop, List.length_take]; rfl)) ?_; (with_reducible refine (spec_RuleText.calls k t218 t219 t220 t221 t222 t223 t224 t225 _ A3.out).mono ?_); rintro e w11 ⟨rfl, hb⟩; refine ⟨_, rfl, ?_⟩; have n0_ := Aside0.mk (blk_below (g := gb217) (o := .cells #[.int .i64 a0_0, .int .i64 a0_1, .int .i64 a0_2, .int .i64 a0_3, .int .i64 a0_4, .bool a0_5] 27 (0, 0)) (by (with_reducible repeat (first | refine blk_drewN ?_ _ | refine blk_drew ?_ | refine blk_alloc ?_ _)); exact BK217.out) hb); have n1_ := Aside0.mk (below_step (by repeat (first | (with_reducible first | exact HB.out | apply below_alloc | apply pw_below_drewN | apply below_drew1 | refine below_set ?_ GE217.out) | exact HB.out)) hb); clear BK217; clear HB; have BK217 := n0_; have HB := n1_; clear n0_ n1_; (try clear hb); (try clear hb2); (try clear hk); (try clear hi); have hcz12_0 : w11.cell? ⟨gb217, 0, none⟩ = some (.int .i64 a0_0) := (blk_cell BK217.out 0).trans rfl; have hcz12_1 : w11.cell? ⟨gb217, 1, none⟩ = some (.int .i64 a0_1) := (blk_cell BK217.out 1).trans rfl; have hcz12_2 : w11.cell? ⟨gb217, 2, none⟩ = some (.int .i64 a0_2) := (blk_cell BK217.out 2).trans rfl; have hcz12_3 : w11.cell? ⟨gb217, 3, none⟩ = some (.int .i64 a0_3) := (blk_cell BK217.out 3).trans rfl; have hcz12_4 : w11.cell? ⟨gb217, 4, none⟩ = some (.int .i64 a0_4) := (blk_cell BK217.out 4).trans rfl; have hcz12_5 : w11.cell? ⟨gb217, 5, none⟩ = some (.bool a0_5) := (blk_cell BK217.out 5).trans rfl; have hfz12_0 := blk_frozen BK217.out 0; have hfz12_1 := blk_frozen BK217.out 1; have hfz12_2 := blk_frozen BK217.out 2; have hfz12_3 := blk_frozen BK217.out 3; have hfz12_4 := blk_frozen BK217.out 4; have hfz12_5 := blk_frozen BK217.out 5) | ((with_reducible refine gate_callee (f := 6) rfl ?_); refine goesL_ (some 15) rfl rfl Tryd.func6 (by kernel_rfl) rfl #[.agg #[.int .i64 a0_0, .int .i64 a0_1, .int .i64 a0_2, .int .i64 a0_3, .int .i64 a0_4, .bool a0_5]] rfl (by (try simp only [List.map_toArray, List.map_cons, List.map_nil]); first | done | rfl | (simp only [List.length_drop, List.length_take]; rfl)) ?_; (with_reducible refine (laws_toRule.calls a0_0 a0_1 a0_2 a0_3 a0_4 a0_5 t226 t227 t228 t229 t230 t231 _ A4.out).mono ?_); rintro e w13 ⟨rfl, hb⟩; refine ⟨_, rfl, ?_⟩; have n0_ := Aside0.mk (blk_below (g := gb217) (o := .cells #[.int .i64 a0_0, .int .i64 a0_1, .int .i64 a0_2, .int .i64 a0_3, .int .i64 a0_4, .bool a0_5] 27 (0, 0)) (by (with_reducible repeat (first | refine blk_drewN ?_ _ | refine blk_drew ?_ | refine blk_alloc ?_ _)); exact BK217.out) hb); have n1_ := Aside0.mk (below_step (by repeat (first | (with_reducible first | exact HB.out | apply below_alloc | apply pw_below_drewN | apply below_drew1 | refine below_set ?_ GE217.out) | exact HB.out)) hb); clear BK217; clear HB; have BK217 := n0_; have HB := n1_; clear n0_ n1_; (try clear hb); (try clear hb2); (try clear hk); (try clear hi)) | ((with_reducible refine gate_callee (f := 7) rfl ?_); refine goesL_ (some 16) rfl rfl Tryd.func7 (by kernel_rfl) rfl #[.agg #[.int .i64 t226, .int .i64 t227, .int .i64 t228, .int .i64 t229, .int .i64 t230, .bool t231]] rfl (by (try simp only [List.map_toArray, List.map_cons, List.map_nil]); first | done | rfl | (simp only [List.length_drop, List.length_take]; rfl)) ?_; (with_reducible refine (impl_RuleText.calls k t226 t227 t228 t229 t230 t231 t232 t233 _ ?sideGp A5.out).mono ?_); (case sideGp => exact GLp_below HGp_.out (by repeat (first | (with_reducible first | exact HB.out | apply below_alloc | apply pw_below_drewN | apply below_drew1) | exact HB.out))); rintro e w14 ⟨rfl, hb⟩; refine ⟨_, rfl, ?_⟩; have n0_ := Aside0.mk (blk_below (g := gb217) (o := .cells #[.int .i64 a0_0, .int .i64 a0_1, .int .i64 a0_2, .int .i64 a0_3, .int .i64 a0_4, .bool a0_5] 27 (0, 0)) (by (with_reducible repeat (first | refine blk_drewN ?_ _ | refine blk_drew ?_ | refine blk_alloc ?_ _)); exact BK217.out) hb); have n1_ := Aside0.mk (below_step (by repeat (first | (with_reducible first | exact HB.out | apply below_alloc | apply pw_below_drewN | apply below_drew1 | refine below_set ?_ GE217.out) | exact HB.out)) hb); clear BK217; clear HB; have BK217 := n0_; have HB := n1_; clear n0_ n1_; (try clear hb); (try clear hb2); (try clear hk); (try clear hi)))
      go_ret
      exact ⟨by first | rfl | (simp [errW_none, errW_some] <;> rfl) | (simp [*, errW_none, errW_some] <;> rfl), by repeat (first | (with_reducible first | exact HB.out | apply below_alloc | apply pw_below_drewN | apply below_drew1 | refine below_set ?_ GE217.out) | exact HB.out)⟩
    · rw [if_neg c7] at H
      have c7b0 : (t233 == t225) = false := beq_eq_false_iff_ne.mpr c7
      have c7b1 : (t233 != t225) = true := bne_iff_ne.mpr c7
      obtain rfl := Option.some.inj H
      go_enter Tryd.func3, Tryd.ntmps3
      go_wp2_with (first | ((with_reducible refine gate_dst (N := 1) rfl ?_); refine box_event ?hg (N := 1) ?hd (cs := #[.int .i64 a0_0, .int .i64 a0_1, .int .i64 a0_2, .int .i64 a0_3, .int .i64 a0_4, .bool a0_5]) (t := 27) ?hr ?_; (case hd => rfl); (case hg => rfl); (case hr => first | (go_simp; done) | (go_simp; rfl)); intro gb217 hg w15 hbox hb; have n0_ := Aside0.mk (below_step (by repeat (first | (with_reducible first | exact HB.out | apply below_alloc | apply pw_below_drewN | apply below_drew1) | exact HB.out)) hb); have n1_ := Aside0.mk (hbox); have n2_ := Aside0.mk ((by rw [hg]; exact (below_size (by repeat (first | (with_reducible first | exact HB.out | apply below_alloc | apply pw_below_drewN | apply below_drew1) | exact HB.out))) : w.heap.size ≤ gb217)); have n3_ := Aside0.mk ((by rw [hg]; exact (below_size (by repeat (first | (with_reducible first | exact HB.out | apply below_alloc | apply pw_below_drewN | apply below_drew1) | exact HB.out))) : w.heap.size ≤ gb217)); clear HB; have HB := n0_; have BK217 := n1_; have GW217 := n2_; have GE217 := n3_; clear n0_ n1_ n2_ n3_; clear hb hbox hg; have hcz16_0 : w15.cell? ⟨gb217, 0, none⟩ = some (.int .i64 a0_0) := (blk_cell BK217.out 0).trans rfl; have hcz16_1 : w15.cell? ⟨gb217, 1, none⟩ = some (.int .i64 a0_1) := (blk_cell BK217.out 1).trans rfl; have hcz16_2 : w15.cell? ⟨gb217, 2, none⟩ = some (.int .i64 a0_2) := (blk_cell BK217.out 2).trans rfl; have hcz16_3 : w15.cell? ⟨gb217, 3, none⟩ = some (.int .i64 a0_3) := (blk_cell BK217.out 3).trans rfl; have hcz16_4 : w15.cell? ⟨gb217, 4, none⟩ = some (.int .i64 a0_4) := (blk_cell BK217.out 4).trans rfl; have hcz16_5 : w15.cell? ⟨gb217, 5, none⟩ = some (.bool a0_5) := (blk_cell BK217.out 5).trans rfl; have hfz16_0 := blk_frozen BK217.out 0; have hfz16_1 := blk_frozen BK217.out 1; have hfz16_2 := blk_frozen BK217.out 2; have hfz16_3 := blk_frozen BK217.out 3; have hfz16_4 := blk_frozen BK217.out 4; have hfz16_5 := blk_frozen BK217.out 5) | ((with_reducible refine gate_callee (f := 6) rfl ?_); refine goesL_ (some 9) rfl rfl Tryd.func6 (by kernel_rfl) rfl #[.agg #[.int .i64 a0_0, .int .i64 a0_1, .int .i64 a0_2, .int .i64 a0_3, .int .i64 a0_4, .bool a0_5]] rfl (by (try simp only [List.map_toArray, List.map_cons, List.map_nil]); first | done | rfl | (simp only [List.length_drop, List.length_take]; rfl)) ?_; (with_reducible refine (laws_toRule.calls a0_0 a0_1 a0_2 a0_3 a0_4 a0_5 t218 t219 t220 t221 t222 t223 _ A2.out).mono ?_); rintro e w17 ⟨rfl, hb⟩; refine ⟨_, rfl, ?_⟩; have n0_ := Aside0.mk (blk_below (g := gb217) (o := .cells #[.int .i64 a0_0, .int .i64 a0_1, .int .i64 a0_2, .int .i64 a0_3, .int .i64 a0_4, .bool a0_5] 27 (0, 0)) (by (with_reducible repeat (first | refine blk_drewN ?_ _ | refine blk_drew ?_ | refine blk_alloc ?_ _)); exact BK217.out) hb); have n1_ := Aside0.mk (below_step (by repeat (first | (with_reducible first | exact HB.out | apply below_alloc | apply pw_below_drewN | apply below_drew1 | refine below_set ?_ GE217.out) | exact HB.out)) hb); clear BK217; clear HB; have BK217 := n0_; have HB := n1_; clear n0_ n1_; (try clear hb); (try clear hb2); (try clear hk); (try clear hi)) | ((with_reducible refine gate_callee (f := 5) rfl ?_); refine goesL_ (some 10) rfl rfl Tryd.func5 (by kernel_rfl) rfl #[.agg #[.int .i64 t218, .int .i64 t219, .int .i64 t220, .int .i64 t221, .int .i64 t222, .bool t223]] rfl (by (try simp only [List.map_toArray, List.map_cons, List.map_nil]); first | done | rfl | (simp only [List.length_drop, List.length_take]; rfl)) ?_; (with_reducible refine (spec_RuleText.calls k t218 t219 t220 t221 t222 t223 t224 t225 _ A3.out).mono ?_); rintro e w18 ⟨rfl, hb⟩; refine ⟨_, rfl, ?_⟩; have n0_ := Aside0.mk (blk_below (g := gb217) (o := .cells #[.int .i64 a0_0, .int .i64 a0_1, .int .i64 a0_2, .int .i64 a0_3, .int .i64 a0_4, .bool a0_5] 27 (0, 0)) (by (with_reducible repeat (first | refine blk_drewN ?_ _ | refine blk_drew ?_ | refine blk_alloc ?_ _)); exact BK217.out) hb); have n1_ := Aside0.mk (below_step (by repeat (first | (with_reducible first | exact HB.out | apply below_alloc | apply pw_below_drewN | apply below_drew1 | refine below_set ?_ GE217.out) | exact HB.out)) hb); clear BK217; clear HB; have BK217 := n0_; have HB := n1_; clear n0_ n1_; (try clear hb); (try clear hb2); (try clear hk); (try clear hi); have hcz19_0 : w18.cell? ⟨gb217, 0, none⟩ = some (.int .i64 a0_0) := (blk_cell BK217.out 0).trans rfl; have hcz19_1 : w18.cell? ⟨gb217, 1, none⟩ = some (.int .i64 a0_1) := (blk_cell BK217.out 1).trans rfl; have hcz19_2 : w18.cell? ⟨gb217, 2, none⟩ = some (.int .i64 a0_2) := (blk_cell BK217.out 2).trans rfl; have hcz19_3 : w18.cell? ⟨gb217, 3, none⟩ = some (.int .i64 a0_3) := (blk_cell BK217.out 3).trans rfl; have hcz19_4 : w18.cell? ⟨gb217, 4, none⟩ = some (.int .i64 a0_4) := (blk_cell BK217.out 4).trans rfl; have hcz19_5 : w18.cell? ⟨gb217, 5, none⟩ = some (.bool a0_5) := (blk_cell BK217.out 5).trans rfl; have hfz19_0 := blk_frozen BK217.out 0; have hfz19_1 := blk_frozen BK217.out 1; have hfz19_2 := blk_frozen BK217.out 2; have hfz19_3 := blk_frozen BK217.out 3; have hfz19_4 := blk_frozen BK217.out 4; have hfz19_5 := blk_frozen BK217.out 5) | ((with_reducible refine gate_callee (f := 6) rfl ?_); refine goesL_ (some 15) rfl rfl Tryd.func6 (by kernel_rfl) rfl #[.agg #[.int .i64 a0_0, .int .i64 a0_1, .int .i64 a0_2, .int .i64 a0_3, .int .i64 a0_4, .bool a0_5]] rfl (by (try simp only [List.map_toArray, List.map_cons, List.map_nil]); first | done | rfl | (simp only [List.length_drop, List.length_take]; rfl)) ?_; (with_reducible refine (laws_toRule.calls a0_0 a0_1 a0_2 a0_3 a0_4 a0_5 t226 t227 t228 t229 t230 t231 _ A4.out).mono ?_); rintro e w20 ⟨rfl, hb⟩; refine ⟨_, rfl, ?_⟩; have n0_ := Aside0.mk (blk_below (g := gb217) (o := .cells #[.int .i64 a0_0, .int .i64 a0_1, .int .i64 a0_2, .int .i64 a0_3, .int .i64 a0_4, .bool a0_5] 27 (0, 0)) (by (with_reducible repeat (first | refine blk_drewN ?_ _ | refine blk_drew ?_ | refine blk_alloc ?_ _)); exact BK217.out) hb); have n1_ := Aside0.mk (below_step (by repeat (first | (with_reducible first | exact HB.out | apply below_alloc | apply pw_below_drewN | apply below_drew1 | refine below_set ?_ GE217.out) | exact HB.out)) hb); clear BK217; clear HB; have BK217 := n0_; have HB := n1_; clear n0_ n1_; (try clear hb); (try clear hb2); (try clear hk); (try clear hi)) | ((with_reducible refine gate_callee (f := 7) rfl ?_); refine goesL_ (some 16) rfl rfl Tryd.func7 (by kernel_rfl) rfl #[.agg #[.int .i64 t226, .int .i64 t227, .int .i64 t228, .int .i64 t229, .int .i64 t230, .bool t231]] rfl (by (try simp only [List.map_toArray, List.map_cons, List.map_nil]); first | done | rfl | (simp only [List.length_drop, List.length_take]; rfl)) ?_; (with_reducible refine (impl_RuleText.calls k t226 t227 t228 t229 t230 t231 t232 t233 _ ?sideGp A5.out).mono ?_); (case sideGp => exact GLp_below HGp_.out (by repeat (first | (with_reducible first | exact HB.out | apply below_alloc | apply pw_below_drewN | apply below_drew1) | exact HB.out))); rintro e w21 ⟨rfl, hb⟩; refine ⟨_, rfl, ?_⟩; have n0_ := Aside0.mk (blk_below (g := gb217) (o := .cells #[.int .i64 a0_0, .int .i64 a0_1, .int .i64 a0_2, .int .i64 a0_3, .int .i64 a0_4, .bool a0_5] 27 (0, 0)) (by (with_reducible repeat (first | refine blk_drewN ?_ _ | refine blk_drew ?_ | refine blk_alloc ?_ _)); exact BK217.out) hb); have n1_ := Aside0.mk (below_step (by repeat (first | (with_reducible first | exact HB.out | apply below_alloc | apply pw_below_drewN | apply below_drew1 | refine below_set ?_ GE217.out) | exact HB.out)) hb); clear BK217; clear HB; have BK217 := n0_; have HB := n1_; clear n0_ n1_; (try clear hb); (try clear hb2); (try clear hk); (try clear hi)))
      go_ret
      exact ⟨by first | rfl | (simp [errW_none, errW_some] <;> rfl) | (simp [*, errW_none, errW_some] <;> rfl), by repeat (first | (with_reducible first | exact HB.out | apply below_alloc | apply pw_below_drewN | apply below_drew1 | refine below_set ?_ GE217.out) | exact HB.out)⟩
  · rw [if_neg c6] at H
    have c6b0 : (t232.toList == t224.toList) = false := beq_eq_false_iff_ne.mpr c6
    have c6b1 : (t232.toList != t224.toList) = true := bne_iff_ne.mpr c6
    obtain rfl := Option.some.inj H
    go_enter Tryd.func3, Tryd.ntmps3
    go_wp2_with (first | ((with_reducible refine gate_dst (N := 1) rfl ?_); refine box_event ?hg (N := 1) ?hd (cs := #[.int .i64 a0_0, .int .i64 a0_1, .int .i64 a0_2, .int .i64 a0_3, .int .i64 a0_4, .bool a0_5]) (t := 27) ?hr ?_; (case hd => rfl); (case hg => rfl); (case hr => first | (go_simp; done) | (go_simp; rfl)); intro gb217 hg w22 hbox hb; have n0_ := Aside0.mk (below_step (by repeat (first | (with_reducible first | exact HB.out | apply below_alloc | apply pw_below_drewN | apply below_drew1) | exact HB.out)) hb); have n1_ := Aside0.mk (hbox); have n2_ := Aside0.mk ((by rw [hg]; exact (below_size (by repeat (first | (with_reducible first | exact HB.out | apply below_alloc | apply pw_below_drewN | apply below_drew1) | exact HB.out))) : w.heap.size ≤ gb217)); have n3_ := Aside0.mk ((by rw [hg]; exact (below_size (by repeat (first | (with_reducible first | exact HB.out | apply below_alloc | apply pw_below_drewN | apply below_drew1) | exact HB.out))) : w.heap.size ≤ gb217)); clear HB; have HB := n0_; have BK217 := n1_; have GW217 := n2_; have GE217 := n3_; clear n0_ n1_ n2_ n3_; clear hb hbox hg; have hcz23_0 : w22.cell? ⟨gb217, 0, none⟩ = some (.int .i64 a0_0) := (blk_cell BK217.out 0).trans rfl; have hcz23_1 : w22.cell? ⟨gb217, 1, none⟩ = some (.int .i64 a0_1) := (blk_cell BK217.out 1).trans rfl; have hcz23_2 : w22.cell? ⟨gb217, 2, none⟩ = some (.int .i64 a0_2) := (blk_cell BK217.out 2).trans rfl; have hcz23_3 : w22.cell? ⟨gb217, 3, none⟩ = some (.int .i64 a0_3) := (blk_cell BK217.out 3).trans rfl; have hcz23_4 : w22.cell? ⟨gb217, 4, none⟩ = some (.int .i64 a0_4) := (blk_cell BK217.out 4).trans rfl; have hcz23_5 : w22.cell? ⟨gb217, 5, none⟩ = some (.bool a0_5) := (blk_cell BK217.out 5).trans rfl; have hfz23_0 := blk_frozen BK217.out 0; have hfz23_1 := blk_frozen BK217.out 1; have hfz23_2 := blk_frozen BK217.out 2; have hfz23_3 := blk_frozen BK217.out 3; have hfz23_4 := blk_frozen BK217.out 4; have hfz23_5 := blk_frozen BK217.out 5) | ((with_reducible refine gate_callee (f := 6) rfl ?_); refine goesL_ (some 9) rfl rfl Tryd.func6 (by kernel_rfl) rfl #[.agg #[.int .i64 a0_0, .int .i64 a0_1, .int .i64 a0_2, .int .i64 a0_3, .int .i64 a0_4, .bool a0_5]] rfl (by (try simp only [List.map_toArray, List.map_cons, List.map_nil]); first | done | rfl | (simp only [List.length_drop, List.length_take]; rfl)) ?_; (with_reducible refine (laws_toRule.calls a0_0 a0_1 a0_2 a0_3 a0_4 a0_5 t218 t219 t220 t221 t222 t223 _ A2.out).mono ?_); rintro e w24 ⟨rfl, hb⟩; refine ⟨_, rfl, ?_⟩; have n0_ := Aside0.mk (blk_below (g := gb217) (o := .cells #[.int .i64 a0_0, .int .i64 a0_1, .int .i64 a0_2, .int .i64 a0_3, .int .i64 a0_4, .bool a0_5] 27 (0, 0)) (by (with_reducible repeat (first | refine blk_drewN ?_ _ | refine blk_drew ?_ | refine blk_alloc ?_ _)); exact BK217.out) hb); have n1_ := Aside0.mk (below_step (by repeat (first | (with_reducible first | exact HB.out | apply below_alloc | apply pw_below_drewN | apply below_drew1 | refine below_set ?_ GE217.out) | exact HB.out)) hb); clear BK217; clear HB; have BK217 := n0_; have HB := n1_; clear n0_ n1_; (try clear hb); (try clear hb2); (try clear hk); (try clear hi)) | ((with_reducible refine gate_callee (f := 5) rfl ?_); refine goesL_ (some 10) rfl rfl Tryd.func5 (by kernel_rfl) rfl #[.agg #[.int .i64 t218, .int .i64 t219, .int .i64 t220, .int .i64 t221, .int .i64 t222, .bool t223]] rfl (by (try simp only [List.map_toArray, List.map_cons, List.map_nil]); first | done | rfl | (simp only [List.length_drop, List.length_take]; rfl)) ?_; (with_reducible refine (spec_RuleText.calls k t218 t219 t220 t221 t222 t223 t224 t225 _ A3.out).mono ?_); rintro e w25 ⟨rfl, hb⟩; refine ⟨_, rfl, ?_⟩; have n0_ := Aside0.mk (blk_below (g := gb217) (o := .cells #[.int .i64 a0_0, .int .i64 a0_1, .int .i64 a0_2, .int .i64 a0_3, .int .i64 a0_4, .bool a0_5] 27 (0, 0)) (by (with_reducible repeat (first | refine blk_drewN ?_ _ | refine blk_drew ?_ | refine blk_alloc ?_ _)); exact BK217.out) hb); have n1_ := Aside0.mk (below_step (by repeat (first | (with_reducible first | exact HB.out | apply below_alloc | apply pw_below_drewN | apply below_drew1 | refine below_set ?_ GE217.out) | exact HB.out)) hb); clear BK217; clear HB; have BK217 := n0_; have HB := n1_; clear n0_ n1_; (try clear hb); (try clear hb2); (try clear hk); (try clear hi); have hcz26_0 : w25.cell? ⟨gb217, 0, none⟩ = some (.int .i64 a0_0) := (blk_cell BK217.out 0).trans rfl; have hcz26_1 : w25.cell? ⟨gb217, 1, none⟩ = some (.int .i64 a0_1) := (blk_cell BK217.out 1).trans rfl; have hcz26_2 : w25.cell? ⟨gb217, 2, none⟩ = some (.int .i64 a0_2) := (blk_cell BK217.out 2).trans rfl; have hcz26_3 : w25.cell? ⟨gb217, 3, none⟩ = some (.int .i64 a0_3) := (blk_cell BK217.out 3).trans rfl; have hcz26_4 : w25.cell? ⟨gb217, 4, none⟩ = some (.int .i64 a0_4) := (blk_cell BK217.out 4).trans rfl; have hcz26_5 : w25.cell? ⟨gb217, 5, none⟩ = some (.bool a0_5) := (blk_cell BK217.out 5).trans rfl; have hfz26_0 := blk_frozen BK217.out 0; have hfz26_1 := blk_frozen BK217.out 1; have hfz26_2 := blk_frozen BK217.out 2; have hfz26_3 := blk_frozen BK217.out 3; have hfz26_4 := blk_frozen BK217.out 4; have hfz26_5 := blk_frozen BK217.out 5) | ((with_reducible refine gate_callee (f := 6) rfl ?_); refine goesL_ (some 15) rfl rfl Tryd.func6 (by kernel_rfl) rfl #[.agg #[.int .i64 a0_0, .int .i64 a0_1, .int .i64 a0_2, .int .i64 a0_3, .int .i64 a0_4, .bool a0_5]] rfl (by (try simp only [List.map_toArray, List.map_cons, List.map_nil]); first | done | rfl | (simp only [List.length_drop, List.length_take]; rfl)) ?_; (with_reducible refine (laws_toRule.calls a0_0 a0_1 a0_2 a0_3 a0_4 a0_5 t226 t227 t228 t229 t230 t231 _ A4.out).mono ?_); rintro e w27 ⟨rfl, hb⟩; refine ⟨_, rfl, ?_⟩; have n0_ := Aside0.mk (blk_below (g := gb217) (o := .cells #[.int .i64 a0_0, .int .i64 a0_1, .int .i64 a0_2, .int .i64 a0_3, .int .i64 a0_4, .bool a0_5] 27 (0, 0)) (by (with_reducible repeat (first | refine blk_drewN ?_ _ | refine blk_drew ?_ | refine blk_alloc ?_ _)); exact BK217.out) hb); have n1_ := Aside0.mk (below_step (by repeat (first | (with_reducible first | exact HB.out | apply below_alloc | apply pw_below_drewN | apply below_drew1 | refine below_set ?_ GE217.out) | exact HB.out)) hb); clear BK217; clear HB; have BK217 := n0_; have HB := n1_; clear n0_ n1_; (try clear hb); (try clear hb2); (try clear hk); (try clear hi)) | ((with_reducible refine gate_callee (f := 7) rfl ?_); refine goesL_ (some 16) rfl rfl Tryd.func7 (by kernel_rfl) rfl #[.agg #[.int .i64 t226, .int .i64 t227, .int .i64 t228, .int .i64 t229, .int .i64 t230, .bool t231]] rfl (by (try simp only [List.map_toArray, List.map_cons, List.map_nil]); first | done | rfl | (simp only [List.length_drop, List.length_take]; rfl)) ?_; (with_reducible refine (impl_RuleText.calls k t226 t227 t228 t229 t230 t231 t232 t233 _ ?sideGp A5.out).mono ?_); (case sideGp => exact GLp_below HGp_.out (by repeat (first | (with_reducible first | exact HB.out | apply below_alloc | apply pw_below_drewN | apply below_drew1) | exact HB.out))); rintro e w28 ⟨rfl, hb⟩; refine ⟨_, rfl, ?_⟩; have n0_ := Aside0.mk (blk_below (g := gb217) (o := .cells #[.int .i64 a0_0, .int .i64 a0_1, .int .i64 a0_2, .int .i64 a0_3, .int .i64 a0_4, .bool a0_5] 27 (0, 0)) (by (with_reducible repeat (first | refine blk_drewN ?_ _ | refine blk_drew ?_ | refine blk_alloc ?_ _)); exact BK217.out) hb); have n1_ := Aside0.mk (below_step (by repeat (first | (with_reducible first | exact HB.out | apply below_alloc | apply pw_below_drewN | apply below_drew1 | refine below_set ?_ GE217.out) | exact HB.out)) hb); clear BK217; clear HB; have BK217 := n0_; have HB := n1_; clear n0_ n1_; (try clear hb); (try clear hb2); (try clear hk); (try clear hi)))
    go_ret
    exact ⟨by first | rfl | (simp [errW_none, errW_some] <;> rfl) | (simp [*, errW_none, errW_some] <;> rfl), by repeat (first | (with_reducible first | exact HB.out | apply below_alloc | apply pw_below_drewN | apply below_drew1 | refine below_set ?_ GE217.out) | exact HB.out)⟩
end
section
-- IMPORT Derived.Laws.BitsLemmas
-- IMPORT Derived.OpenShut
/-- A mask of low bits is a remainder, of whatever number. -/
theorem and_low (x : Int) (j : Nat) (hj : j ≤ 62) : Go.bits .and .i64 x (2 ^ j - 1) = x % 2 ^ j := by
  have hm : ((2 : Int) ^ j - 1) = ((2 ^ j - 1 : Nat) : Int) := by
    rw [Int.natCast_sub (Nat.two_pow_pos j), Int.natCast_pow]; rfl
  have hlt : 2 ^ j - 1 < 2 ^ 64 := Nat.lt_of_lt_of_le (Nat.sub_lt (Nat.two_pow_pos j) (by decide)) (Nat.pow_le_pow_right (by decide) (by omega))
  have hle : (2 : Nat) ^ j ≤ 2 ^ 62 := Nat.pow_le_pow_right (by decide) hj
  have hd : (2 : Nat) ^ j ∣ 2 ^ 64 := Nat.pow_dvd_pow 2 (by omega)
  rw [hm]
  have hb : Go.bits .and .i64 x ((2 ^ j - 1 : Nat) : Int) = IntKind.i64.wrap (((BitVec.ofInt 64 x &&& BitVec.ofInt 64 ((2 ^ j - 1 : Nat) : Int)).toNat : Nat) : Int) := rfl
  rw [hb, BitVec.toNat_and, BitVec.ofInt_natCast, BitVec.toNat_ofNat, BitVec.toNat_ofInt, Nat.mod_eq_of_lt hlt, Nat.and_two_pow_sub_one_eq_mod, IntKind.wrap_i64]
  have e : (((x % ((2 ^ 64 : Nat) : Int)).toNat % 2 ^ j : Nat) : Int) = x % ((2 ^ j : Nat) : Int) := by
    rw [Int.natCast_emod, Int.toNat_of_nonneg (Int.emod_nonneg _ (by decide)), Int.emod_emod_of_dvd]
    exact Int.natCast_dvd_natCast.2 hd
  rw [e]
  have hp : (0 : Int) < ((2 ^ j : Nat) : Int) := by exact_mod_cast Nat.two_pow_pos j
  have h0 := Int.emod_nonneg x (Int.ne_of_gt hp)
  have h1 := Int.emod_lt_of_pos x hp
  have h2 : ((2 ^ j : Nat) : Int) ≤ ((4611686018427387904 : Nat) : Int) := Int.ofNat_le.2 (Nat.le_trans hle (by decide))
  have h3 : ((2 : Int) ^ j) = ((2 ^ j : Nat) : Int) := by rw [Int.natCast_pow]; rfl
  rw [h3, Int.emod_eq_of_lt (by omega) (by omega)]
  omega
theorem wrap_id {n : Int} (h0 : -9223372036854775808 ≤ n) (h1 : n ≤ 9223372036854775807) : wrap64 n = n := by
  unfold wrap64; omega
end
section
-- NEEDS spec.l00Digits
-- IMPORT Derived.Lib.ItoaNum
theorem app_mk (a b : List UInt8) : (⟨a.toArray⟩ : ByteArray) ++ ⟨b.toArray⟩ = ⟨(a ++ b).toArray⟩ := by
  apply ByteArray.ext
  rw [ByteArray.data_append]
  simp
theorem mk_size (a : List UInt8) : (⟨a.toArray⟩ : ByteArray).size = a.length := by simp [ByteArray.size]
theorem strOfNums_one (c : Nat) : strOfNums [(c : Int)] = ⟨[UInt8.ofNat c].toArray⟩ := by
  simp [strOfNums]
theorem l00Digits_run : ∀ (d n : Nat), n < 10 ^ d → 1 ≤ d → d ≤ 18 → ∀ k, d ≤ k → spec_l00Digits.f k (n : Int) = some ⟨(Lib.decDigits n).toArray⟩ ∧ (Lib.decDigits n).length ≤ d := by
  intro d
  induction d with
  | zero => intro n _ h; omega
  | succ d ih =>
    intro n hn _ hd k hk
    obtain ⟨k, rfl⟩ : ∃ q, k = q + 1 := ⟨k - 1, by omega⟩
    have hb : n < 1000000000000000000 := Nat.lt_of_lt_of_le hn (Nat.pow_le_pow_right (by decide) hd)
    rw [spec_l00Digits.f, if_neg (by omega), if_neg (by omega)]
    by_cases h : n < 10
    · rw [if_pos (by omega), wrap_id (by omega) (by omega), show ((48 : Int) + (n : Int)) % 256 = ((48 + n : Nat) : Int) by omega, strOfNums_one, Lib.decDigits, dif_pos h]
      exact ⟨rfl, by simp⟩
    · have hd1 : 1 ≤ d := by
        rcases Nat.eq_zero_or_pos d with h0 | h0
        · subst h0; simp at hn; omega
        · exact h0
      have e1 : wrap64 (Int.tdiv (n : Int) 10) = ((n / 10 : Nat) : Int) := by
        rw [Int.tdiv_eq_ediv_of_nonneg (by omega), wrap_id (by omega) (by omega)]; omega
      have e2 : (wrap64 (48 + Int.tmod (n : Int) 10)) % 256 = ((48 + n % 10 : Nat) : Int) := by
        rw [Int.tmod_eq_emod_of_nonneg (by omega), wrap_id (by omega) (by omega)]; omega
      obtain ⟨f1, f2⟩ := ih (n / 10) (by rw [Nat.pow_succ] at hn; omega) hd1 (by omega) k (by omega)
      rw [if_neg (by omega), e1, f1, Option.bind_some, Option.bind_some, e2, strOfNums_one, mk_size, mk_size, app_mk, if_pos (by simp; omega)]
      have e3 : Lib.decDigits n = Lib.decDigits (n / 10) ++ [UInt8.ofNat (48 + n % 10)] := by rw [Lib.decDigits, dif_neg h]
      rw [e3]
      exact ⟨rfl, by simp; omega⟩
theorem itoa_nat (n : Nat) : Lib.itoa (n : Int) = Lib.decDigits n := by
  rw [Lib.itoa, if_neg (by omega), Int.toNat_natCast]
end
section
-- NEEDS spec.l01Address impl.addressText spec.l00Digits strconv.Itoa strings.Join
-- IMPORT Derived.Lib.Join
theorem shr24 (x : Int) : shr .i64 x 24 = x / 16777216 := rfl
theorem shr16 (x : Int) : shr .i64 x 16 = x / 65536 := rfl
theorem shr8 (x : Int) : shr .i64 x 8 = x / 256 := rfl
theorem shr0 (x : Int) : shr .i64 x 0 = x := by show x / 1 = x; omega
theorem and255 (x : Int) : Go.bits .and .i64 x 255 = x % 256 := and_low x 8 (by decide)
/-- A number's digits, as a text. -/
def digT (n : Nat) : ByteArray := ⟨(Lib.decDigits n).toArray⟩
theorem digT_size (n : Nat) (h : n < 1000000000000000000) : (digT n).size ≤ 18 := by
  rw [digT, mk_size]
  exact (l00Digits_run 18 n h (by decide) (by decide) 18 (by decide)).2
theorem digits_ev (n : Nat) (h : n < 1000000000000000000) (k : Nat) (hk : 18 ≤ k) : spec_l00Digits.f k (n : Int) = some (digT n) := (l00Digits_run 18 n h (by decide) (by decide) k hk).1
theorem itoa_ev (n : Nat) (h : n < 1000000000000000000) : strconv_Itoa_22.f (n : Int) = some (digT n) := by
  rw [itoa_f (n : Int) (by omega) (by omega), itoa_nat]
  rfl
theorem join4 (a b c d s : ByteArray) : (⟨(joinB [a, b, c, d] s).toArray⟩ : ByteArray) = (((((a ++ s) ++ b) ++ s) ++ c) ++ s) ++ d := by
  apply ByteArray.ext
  apply Array.ext'
  simp [joinB, Lib.join_cons, Lib.joinTail, ByteArray.data_append]
theorem join5 (a b c d e s : ByteArray) : (⟨(joinB [a, b, c, d, e] s).toArray⟩ : ByteArray) = (((((((a ++ s) ++ b) ++ s) ++ c) ++ s) ++ d) ++ s) ++ e := by
  apply ByteArray.ext
  apply Array.ext'
  simp [joinB, Lib.join_cons, Lib.joinTail, ByteArray.data_append]
def addrT (ip : Nat) : ByteArray := ((((((digT (ip / 16777216)) ++ (⟨#[46]⟩ : ByteArray)) ++ digT (ip / 65536 % 256)) ++ (⟨#[46]⟩ : ByteArray)) ++ digT (ip / 256 % 256)) ++ (⟨#[46]⟩ : ByteArray)) ++ digT (ip % 256)
theorem dot_size : (⟨#[46]⟩ : ByteArray).size = 1 := rfl
theorem addrT_size (ip : Nat) (h : ip ≤ 4294967295) : (addrT ip).size ≤ 75 := by
  have h1 := digT_size (ip / 16777216) (by omega)
  have h2 := digT_size (ip / 65536 % 256) (by omega)
  have h3 := digT_size (ip / 256 % 256) (by omega)
  have h4 := digT_size (ip % 256) (by omega)
  simp only [addrT, ByteArray.size_append, dot_size]
  omega
theorem spec_addr (ip : Nat) (h : ip ≤ 4294967295) (k : Nat) (hk : 18 ≤ k) : spec_l01Address.f k (ip : Int) = some (addrT ip) := by
  have h1 := digT_size (ip / 16777216) (by omega)
  have h2 := digT_size (ip / 65536 % 256) (by omega)
  have h3 := digT_size (ip / 256 % 256) (by omega)
  have h4 := digT_size (ip % 256) (by omega)
  rw [spec_l01Address.f]
  rw [show (ip : Int) / 16777216 = ((ip / 16777216 : Nat) : Int) by omega, and255, and255, and255, show (ip : Int) / 65536 % 256 = ((ip / 65536 % 256 : Nat) : Int) by omega, show (ip : Int) / 256 % 256 = ((ip / 256 % 256 : Nat) : Int) by omega, show (ip : Int) % 256 = ((ip % 256 : Nat) : Int) by omega]
  simp only [digits_ev _ (show ip / 16777216 < 1000000000000000000 by omega) k hk, digits_ev _ (show ip / 65536 % 256 < 1000000000000000000 by omega) k hk, digits_ev _ (show ip / 256 % 256 < 1000000000000000000 by omega) k hk, digits_ev _ (show ip % 256 < 1000000000000000000 by omega) k hk, Option.bind_some]
  repeat rw [if_pos (by (try simp only [ByteArray.size_append, dot_size]); omega)]
  rfl
theorem impl_addr (ip : Nat) (h : ip ≤ 4294967295) (k : Nat) (hk : 5 ≤ k) : impl_addressText.f k (ip : Int) = some (addrT ip) := by
  obtain ⟨k, rfl⟩ : ∃ q, k = q + 5 := ⟨k - 5, by omega⟩
  have h1 := digT_size (ip / 16777216) (by omega)
  have h2 := digT_size (ip / 65536 % 256) (by omega)
  have h3 := digT_size (ip / 256 % 256) (by omega)
  have h4 := digT_size (ip % 256) (by omega)
  have w1 : wrap64 (24 - 8) = 16 := by rw [wrap_id (by omega) (by omega)]; rfl
  have w2 : wrap64 (16 - 8) = 8 := by rw [wrap_id (by omega) (by omega)]; rfl
  have w3 : wrap64 (8 - 8) = 0 := by rw [wrap_id (by omega) (by omega)]; rfl
  have w4 : wrap64 (0 - 8) = -8 := by rw [wrap_id (by omega) (by omega)]; rfl
  have e1 : (ip : Int) / 16777216 % 256 = ((ip / 16777216 : Nat) : Int) := by omega
  have e2 : (ip : Int) / 65536 % 256 = ((ip / 65536 % 256 : Nat) : Int) := by omega
  have e3 : (ip : Int) / 256 % 256 = ((ip / 256 % 256 : Nat) : Int) := by omega
  have e4 : (ip : Int) % 256 = ((ip % 256 : Nat) : Int) := by omega
  rw [impl_addressText.f, impl_addressText.l0, if_pos (by decide), if_pos (by decide), shr24, and255, e1, itoa_ev _ (by omega), Option.bind_some, if_pos (by decide), w1]
  rw [impl_addressText.l0, if_pos (by decide), if_pos (by decide), shr16, and255, e2, itoa_ev _ (by omega), Option.bind_some, if_pos (by simp), w2]
  rw [impl_addressText.l0, if_pos (by decide), if_pos (by decide), shr8, and255, e3, itoa_ev _ (by omega), Option.bind_some, if_pos (by simp), w3]
  rw [impl_addressText.l0, if_pos (by decide), if_pos (by decide), shr0, and255, e4, itoa_ev _ (by omega), Option.bind_some, if_pos (by simp), w4]
  rw [impl_addressText.l0, if_neg (by decide)]
  simp only [List.nil_append, List.cons_append]
  have hj := join4 (digT (ip / 16777216)) (digT (ip / 65536 % 256)) (digT (ip / 256 % 256)) (digT (ip % 256)) ⟨#[46]⟩
  have hs := addrT_size ip h
  rw [addrT, ← hj, mk_size] at hs
  rw [strings_Join.f, if_pos ⟨by omega, by simp⟩, hj]
  rfl
end
section
-- NEEDS spec.l01In impl.within
theorem l01In_eq (a b c : Int) : spec_l01In.f a b c = some (decide (b ≤ a ∧ a ≤ c)) := by unfold spec_l01In.f; grind
theorem within_eq (a b c : Int) : impl_within.f a b c = some (decide (b ≤ a ∧ a ≤ c)) := by unfold impl_within.f; grind
end
section
-- NEEDS spec.l07Range impl.rangeOK
def rangeb (lo hi : Int) : Bool := decide (0 ≤ lo ∧ lo ≤ 65535) && decide (lo ≤ hi ∧ hi ≤ 65535)
theorem spec_range_eq (lo hi : Int) : spec_l07Range.f lo hi = some (rangeb lo hi) := by
  simp only [spec_l07Range.f, l01In_eq, Option.bind_some, rangeb]
  by_cases h : 0 ≤ lo ∧ lo ≤ 65535
  · rw [decide_eq_true h]; rfl
  · rw [decide_eq_false h]; rfl
theorem impl_range_eq (lo hi : Int) : impl_rangeOK.f lo hi = some (rangeb lo hi) := by
  simp only [impl_rangeOK.f, within_eq, Option.bind_some, rangeb]
  by_cases h : 0 ≤ lo ∧ lo ≤ hi
  · rw [decide_eq_true h, if_pos rfl, ← Bool.decide_and]
    congr 1; exact decide_eq_decide.2 (by omega)
  · rw [decide_eq_false h, if_neg (by decide), ← Bool.decide_and, decide_eq_false (by omega)]
end
section
-- NEEDS spec.l01Ip impl.isAddress
theorem l01Ip_eq (a : Int) : spec_l01Ip.f a = some (decide (0 ≤ a ∧ a ≤ 4294967295)) := by simp only [spec_l01Ip.f, l01In_eq, Option.bind_some]
theorem isAddress_eq (a : Int) : impl_isAddress.f a = some (decide (0 ≤ a ∧ a ≤ 4294967295)) := by simp only [impl_isAddress.f, within_eq, Option.bind_some]
end
section
-- NEEDS spec.NetOK impl.NetOK
-- IMPORT Derived.Laws.Bits64
theorem wrapu_id {n : Int} (h0 : 0 ≤ n) (h1 : n ≤ 9223372036854775807) : IntKind.u64.wrap n = n := by
  rw [IntKind.wrap_u64]; omega
def netb (ip b : Int) : Bool := decide (0 ≤ ip ∧ ip ≤ 4294967295) && (decide (0 ≤ b ∧ b ≤ 32) && (Go.bits .and .i64 ip (wrap64 ((shl .i64 1 (32 - b)) - 1)) == 0))
theorem net_ite (p q x : Bool) : (if p = true then (if q = true then some x else some false) else some false) = some (p && (q && x)) := by cases p <;> cases q <;> rfl
theorem spec_NetOK_eq (ip b : Int) : spec_NetOK.f ip b = some (netb ip b) := by
  simp only [spec_NetOK.f, l01Ip_eq, l01In_eq, Option.bind_some]
  by_cases h : 0 ≤ b ∧ b ≤ 32
  · rw [wrap_id (n := 32 - b) (by omega) (by omega), wrapu_id (by omega) (by omega), if_pos (show 0 ≤ 32 - b by omega), net_ite]; rfl
  · rw [decide_eq_false h]; simp [netb, h]
theorem impl_NetOK_eq (ip b : Int) : impl_NetOK.f ip b = some (netb ip b) := by
  simp only [impl_NetOK.f, isAddress_eq, within_eq, Option.bind_some]
  by_cases h : 0 ≤ b ∧ b ≤ 32
  · rw [wrap_id (n := 32 - b) (by omega) (by omega), if_pos (show 0 ≤ 32 - b by omega), net_ite]; rfl
  · rw [decide_eq_false h]; simp [netb, h]
end
section
-- NEEDS spec.RuleOK impl.RuleOK
def ruleb (p ip b lo hi : Int) : Bool := decide (p = 0 ∨ p = 1 ∨ p = 6 ∨ p = 17) && (netb ip b && rangeb lo hi)
theorem spec_RuleOK_eq (p ip b lo hi : Int) (w : Bool) : spec_RuleOK.f p ip b lo hi w = some (ruleb p ip b lo hi) := by
  simp only [spec_RuleOK.f, spec_NetOK_eq, spec_range_eq, Option.bind_some, ruleb]
  by_cases h0 : p = 0
  · rw [if_pos h0]; simp only [h0]; cases netb ip b <;> simp
  by_cases h1 : p = 1
  · rw [if_neg h0, if_pos h1]; simp only [h1]; cases netb ip b <;> simp
  by_cases h2 : p = 6
  · rw [if_neg h0, if_neg h1, if_pos h2]; simp only [h2]; cases netb ip b <;> simp
  by_cases h3 : p = 17
  · rw [if_neg h0, if_neg h1, if_neg h2, if_pos h3]; simp only [h3]; cases netb ip b <;> simp
  rw [if_neg h0, if_neg h1, if_neg h2, if_neg h3, decide_eq_false (by omega)]; rfl
theorem contains4 (k : Nat) (p : Int) : slices_Contains_int_int.f (k + 5) [0, 1, 6, 17] p = some (decide (p = 0 ∨ p = 1 ∨ p = 6 ∨ p = 17)) := by
  have w1 : wrap64 (0 + 1) = 1 := by rw [wrap_id (by omega) (by omega)]; rfl
  have w2 : wrap64 (1 + 1) = 2 := by rw [wrap_id (by omega) (by omega)]; rfl
  have w3 : wrap64 (2 + 1) = 3 := by rw [wrap_id (by omega) (by omega)]; rfl
  have w4 : wrap64 (3 + 1) = 4 := by rw [wrap_id (by omega) (by omega)]; rfl
  have r0 : rd [0, 1, 6, 17] 0 = 0 := by decide
  have r1 : rd [0, 1, 6, 17] 1 = 1 := by decide
  have r2 : rd [0, 1, 6, 17] 2 = 6 := by decide
  have r3 : rd [0, 1, 6, 17] 3 = 17 := by decide
  have l : ((([0, 1, 6, 17] : List Int).length : Nat) : Int) = 4 := by decide
  simp only [slices_Contains_int_int.f, slices_Index_int_int.f, slices_Index_int_int.l0, l, w1, w2, w3, w4, r0, r1, r2, r3]
  by_cases h0 : p = 0
  · simp [h0]
  by_cases h1 : p = 1
  · simp [h1]
  by_cases h2 : p = 6
  · simp [h2]
  by_cases h3 : p = 17
  · simp [h3]
  simp [h0, h1, h2, h3]
theorem impl_RuleOK_eq (k : Nat) (p ip b lo hi : Int) (w : Bool) : impl_RuleOK.f (k + 5) p ip b lo hi w = some (ruleb p ip b lo hi) := by
  simp only [impl_RuleOK.f, contains4, impl_NetOK_eq, impl_range_eq, Option.bind_some, ruleb]
  cases decide (p = 0 ∨ p = 1 ∨ p = 6 ∨ p = 17) <;> cases netb ip b <;> simp
end
section
-- NEEDS spec.RuleText impl.RuleText spec.l01Address impl.addressText spec.l00Digits strconv.Itoa strings.Join impl.netText impl.protoWord spec.RuleOK impl.RuleOK
theorem ruleb_at {p ip b lo hi : Int} (h : ruleb p ip b lo hi = true) : (p = 0 ∨ p = 1 ∨ p = 6 ∨ p = 17) ∧ (0 ≤ ip ∧ ip ≤ 4294967295) ∧ (0 ≤ b ∧ b ≤ 32) ∧ (0 ≤ lo ∧ lo ≤ 65535) ∧ (0 ≤ hi ∧ hi ≤ 65535) := by
  simp only [ruleb, netb, rangeb, Bool.and_eq_true, decide_eq_true_eq] at h
  omega
def protoT (p : Int) : ByteArray := if p = 1 then ⟨#[105, 99, 109, 112]⟩ else if p = 6 then ⟨#[116, 99, 112]⟩ else if p = 17 then ⟨#[117, 100, 112]⟩ else ⟨#[97, 110, 121]⟩
theorem protoT_size (p : Int) : (protoT p).size ≤ 4 := by
  unfold protoT
  split
  · decide
  · split
    · decide
    · split <;> decide
theorem impl_proto (p : Int) : impl_protoWord.f p = some (protoT p) := by
  unfold impl_protoWord.f protoT
  split
  · rfl
  · split
    · rfl
    · split <;> rfl
def ruleT (al : Bool) (p : Int) (ip b lo hi : Nat) : ByteArray :=
  (((((((((if al = true then (⟨#[97, 108, 108, 111, 119]⟩ : ByteArray) else ⟨#[100, 101, 110, 121]⟩) ++ (⟨#[32]⟩ : ByteArray)) ++ protoT p) ++ (⟨#[32]⟩ : ByteArray)) ++ ((addrT ip ++ (⟨#[47]⟩ : ByteArray)) ++ digT b)) ++ (⟨#[32]⟩ : ByteArray)) ++ digT lo) ++ (⟨#[32]⟩ : ByteArray)) ++ digT hi)
theorem lits_size : (⟨#[32]⟩ : ByteArray).size = 1 ∧ (⟨#[47]⟩ : ByteArray).size = 1 ∧ (⟨#[97, 108, 108, 111, 119]⟩ : ByteArray).size = 5 ∧ (⟨#[100, 101, 110, 121]⟩ : ByteArray).size = 4 ∧ (⟨#[97, 108, 108, 111, 119, 32]⟩ : ByteArray).size = 6 ∧ (⟨#[100, 101, 110, 121, 32]⟩ : ByteArray).size = 5 := ⟨rfl, rfl, rfl, rfl, rfl, rfl⟩
theorem ruleT_size (al : Bool) (p : Int) (ip b lo hi : Nat) (h1 : ip ≤ 4294967295) (h2 : b ≤ 32) (h3 : lo ≤ 65535) (h4 : hi ≤ 65535) : (ruleT al p ip b lo hi).size ≤ 400 := by
  obtain ⟨z1, z2, z3, z4, _, _⟩ := lits_size
  have a1 := protoT_size p
  have a2 := addrT_size ip h1
  have a3 := digT_size b (by omega)
  have a4 := digT_size lo (by omega)
  have a5 := digT_size hi (by omega)
  cases al
  all_goals
    simp only [ruleT, Bool.false_eq_true, if_false, if_true, ByteArray.size_append, z1, z2, z3, z4]
    omega
theorem impl_rule (al : Bool) (p : Int) (ip b lo hi : Nat) (h1 : ip ≤ 4294967295) (h2 : b ≤ 32) (h3 : lo ≤ 65535) (h4 : hi ≤ 65535) (k : Nat) (hk : 5 ≤ k) :
    impl_RuleText.j0 (k + 1) (if al = true then (⟨#[97, 108, 108, 111, 119]⟩ : ByteArray) else ⟨#[100, 101, 110, 121]⟩) p (ip : Int) (b : Int) (lo : Int) (hi : Int) al = some (ruleT al p ip b lo hi, 0) := by
  obtain ⟨z1, z2, z3, z4, _, _⟩ := lits_size
  have a2 := addrT_size ip h1
  have a3 := digT_size b (by omega)
  have hn : impl_netText.f k (ip : Int) (b : Int) = some ((addrT ip ++ (⟨#[47]⟩ : ByteArray)) ++ digT b) := by
    rw [impl_netText.f, impl_addr ip h1 k hk, Option.bind_some, if_pos (by omega), itoa_ev b (by omega), Option.bind_some, if_pos (by rw [ByteArray.size_append, z2]; omega)]
  rw [impl_RuleText.j0, impl_proto, Option.bind_some, hn, Option.bind_some, itoa_ev lo (by omega), Option.bind_some, itoa_ev hi (by omega), Option.bind_some]
  have hj := join5 (if al = true then (⟨#[97, 108, 108, 111, 119]⟩ : ByteArray) else ⟨#[100, 101, 110, 121]⟩) (protoT p) ((addrT ip ++ (⟨#[47]⟩ : ByteArray)) ++ digT b) (digT lo) (digT hi) ⟨#[32]⟩
  have hs := ruleT_size al p ip b lo hi h1 h2 h3 h4
  rw [ruleT, ← hj, mk_size] at hs
  rw [strings_Join.f, if_pos ⟨by omega, by simp⟩, Option.bind_some, hj]
  rfl
theorem spec_rule (al : Bool) (p : Int) (hp : p = 0 ∨ p = 1 ∨ p = 6 ∨ p = 17) (ip b lo hi : Nat) (h1 : ip ≤ 4294967295) (h2 : b ≤ 32) (h3 : lo ≤ 65535) (h4 : hi ≤ 65535) (k : Nat) (hk : 18 ≤ k) :
    spec_RuleText.j0 (k + 6) (if al = true then (⟨#[97, 108, 108, 111, 119, 32]⟩ : ByteArray) else ⟨#[100, 101, 110, 121, 32]⟩) p (ip : Int) (b : Int) (lo : Int) (hi : Int) al = some (ruleT al p ip b lo hi, 0) := by
  obtain ⟨z1, z2, z3, z4, z5, z6⟩ := lits_size
  have a1 := protoT_size p
  have a2 := addrT_size ip h1
  have a3 := digT_size b (by omega)
  have a4 := digT_size lo (by omega)
  have a5 := digT_size hi (by omega)
  have w1 : wrap64 (0 + 1) = 1 := by rw [wrap_id (by omega) (by omega)]; rfl
  have w2 : wrap64 (1 + 1) = 2 := by rw [wrap_id (by omega) (by omega)]; rfl
  have w3 : wrap64 (2 + 1) = 3 := by rw [wrap_id (by omega) (by omega)]; rfl
  have w4 : wrap64 (3 + 1) = 4 := by rw [wrap_id (by omega) (by omega)]; rfl
  have hal : ∃ A : ByteArray, A.size ≤ 6 ∧ (if al = true then (⟨#[97, 108, 108, 111, 119, 32]⟩ : ByteArray) else ⟨#[100, 101, 110, 121, 32]⟩) = A ∧ ((if al = true then (⟨#[97, 108, 108, 111, 119]⟩ : ByteArray) else ⟨#[100, 101, 110, 121]⟩) ++ (⟨#[32]⟩ : ByteArray)) = A := by
    cases al
    · exact ⟨⟨#[100, 101, 110, 121, 32]⟩, by decide, rfl, rfl⟩
    · exact ⟨⟨#[97, 108, 108, 111, 119, 32]⟩, by decide, rfl, rfl⟩
  obtain ⟨A, hA, e1, e2⟩ := hal
  rw [e1, ruleT, e2]
  have fin : ∀ X : ByteArray, X.size ≤ 20 → ∀ k, 18 ≤ k → spec_RuleText.l0 (k + 1) X 4 p (ip : Int) (b : Int) (lo : Int) (hi : Int) al = some ((((((((X ++ (⟨#[32]⟩ : ByteArray)) ++ addrT ip) ++ (⟨#[47]⟩ : ByteArray)) ++ digT b) ++ (⟨#[32]⟩ : ByteArray)) ++ digT lo) ++ (⟨#[32]⟩ : ByteArray)) ++ digT hi, 0) := by
    intro X hX k hk
    rw [spec_RuleText.l0, if_neg (by decide), if_pos (by omega), spec_addr ip h1 k hk, Option.bind_some, digits_ev b (by omega) k hk, digits_ev lo (by omega) k hk, digits_ev hi (by omega) k hk]
    simp only [Option.bind_some]
    repeat rw [if_pos (by (try simp only [ByteArray.size_append, z1, z2]); omega)]
  have step : ∀ (X : ByteArray) (i j : Int) (q : Int) (w : ByteArray) (k : Nat), X.size ≤ 20 → w.size ≤ 10 → i < 4 → 0 ≤ i → rd [0, 1, 6, 17] i = q → rdOf ByteArray.empty [(⟨#[97, 110, 121]⟩ : ByteArray), (⟨#[105, 99, 109, 112]⟩ : ByteArray), (⟨#[116, 99, 112]⟩ : ByteArray), (⟨#[117, 100, 112]⟩ : ByteArray)] i = w → wrap64 (i + 1) = j →
      spec_RuleText.l0 (k + 1) X i p (ip : Int) (b : Int) (lo : Int) (hi : Int) al = spec_RuleText.l0 k (if q = p then X ++ w else X) j p (ip : Int) (b : Int) (lo : Int) (hi : Int) al := by
    intro X i j q w k hX hw h4 h0 hr hz hj
    have hl4 : i < (([0, 1, 6, 17] : List Int).length : Int) := h4
    have hl5 : i < (([(⟨#[97, 110, 121]⟩ : ByteArray), (⟨#[105, 99, 109, 112]⟩ : ByteArray), (⟨#[116, 99, 112]⟩ : ByteArray), (⟨#[117, 100, 112]⟩ : ByteArray)] : List ByteArray).length : Int) := h4
    rw [spec_RuleText.l0, if_pos h4, spec_l07ProtoNumbers.f, Option.bind_some, if_pos h0, if_pos hl4, hr, hj]
    by_cases hq : q = p
    · rw [if_pos hq, if_pos hq, spec_l07Protos.f, Option.bind_some, if_pos hl5, hz, if_pos (by omega)]
    · rw [if_neg hq, if_neg hq]
  rw [show k + 6 = k + 5 + 1 from rfl, spec_RuleText.j0]
  rw [step A 0 1 0 ⟨#[97, 110, 121]⟩ (k + 4) (by omega) (by decide) (by decide) (by decide) (by decide) rfl w1]
  have s1 : (if (0 : Int) = p then A ++ (⟨#[97, 110, 121]⟩ : ByteArray) else A).size ≤ 9 := by split <;> (try rw [ByteArray.size_append, show (⟨#[97, 110, 121]⟩ : ByteArray).size = 3 from rfl]) <;> omega
  rw [step _ 1 2 1 ⟨#[105, 99, 109, 112]⟩ (k + 3) (by omega) (by decide) (by decide) (by decide) (by decide) rfl w2]
  have fA : ∀ q : Int, ∀ w : ByteArray, q = p → protoT p = w → (A ++ w).size ≤ 20 := fun q w _ hw => by rw [ByteArray.size_append, ← hw]; omega
  have goal : ∀ X, X = A ++ protoT p → spec_RuleText.l0 (k + 1) X 4 p (ip : Int) (b : Int) (lo : Int) (hi : Int) al = some (((((((A ++ protoT p) ++ (⟨#[32]⟩ : ByteArray)) ++ ((addrT ip ++ (⟨#[47]⟩ : ByteArray)) ++ digT b)) ++ (⟨#[32]⟩ : ByteArray)) ++ digT lo) ++ (⟨#[32]⟩ : ByteArray)) ++ digT hi, 0) := fun X hX => by
    subst hX
    rw [fin (A ++ protoT p) (by rw [ByteArray.size_append]; omega) k hk]
    simp only [ByteArray.append_assoc]
  rcases hp with rfl | rfl | rfl | rfl
  · simp only [if_true, show ¬ ((1 : Int) = 0) by decide, if_false]
    rw [step _ 2 3 6 ⟨#[116, 99, 112]⟩ (k + 2) (by rw [ByteArray.size_append, show (⟨#[97, 110, 121]⟩ : ByteArray).size = 3 from rfl]; omega) (by decide) (by decide) (by decide) (by decide) rfl w3, if_neg (by decide)]
    rw [step _ 3 4 17 ⟨#[117, 100, 112]⟩ (k + 1) (by rw [ByteArray.size_append, show (⟨#[97, 110, 121]⟩ : ByteArray).size = 3 from rfl]; omega) (by decide) (by decide) (by decide) (by decide) rfl w4, if_neg (by decide)]
    exact goal _ rfl
  · simp only [if_true, show ¬ ((0 : Int) = 1) by decide, if_false]
    rw [step _ 2 3 6 ⟨#[116, 99, 112]⟩ (k + 2) (by rw [ByteArray.size_append, show (⟨#[105, 99, 109, 112]⟩ : ByteArray).size = 4 from rfl]; omega) (by decide) (by decide) (by decide) (by decide) rfl w3, if_neg (by decide)]
    rw [step _ 3 4 17 ⟨#[117, 100, 112]⟩ (k + 1) (by rw [ByteArray.size_append, show (⟨#[105, 99, 109, 112]⟩ : ByteArray).size = 4 from rfl]; omega) (by decide) (by decide) (by decide) (by decide) rfl w4, if_neg (by decide)]
    exact goal _ rfl
  · simp only [show ¬ ((0 : Int) = 6) by decide, show ¬ ((1 : Int) = 6) by decide, if_false]
    rw [step _ 2 3 6 ⟨#[116, 99, 112]⟩ (k + 2) (by omega) (by decide) (by decide) (by decide) (by decide) rfl w3, if_pos rfl]
    rw [step _ 3 4 17 ⟨#[117, 100, 112]⟩ (k + 1) (by rw [ByteArray.size_append, show (⟨#[116, 99, 112]⟩ : ByteArray).size = 3 from rfl]; omega) (by decide) (by decide) (by decide) (by decide) rfl w4, if_neg (by decide)]
    exact goal _ rfl
  · simp only [show ¬ ((0 : Int) = 17) by decide, show ¬ ((1 : Int) = 17) by decide, if_false]
    rw [step _ 2 3 6 ⟨#[116, 99, 112]⟩ (k + 2) (by omega) (by decide) (by decide) (by decide) (by decide) rfl w3, if_neg (by decide)]
    rw [step _ 3 4 17 ⟨#[117, 100, 112]⟩ (k + 1) (by omega) (by decide) (by decide) (by decide) (by decide) rfl w4, if_pos rfl]
    exact goal _ rfl
theorem RuleText_both (p ip b lo hi : Int) (al : Bool) : ∃ r, ∀ k, 50 ≤ k → spec_RuleText.f k p ip b lo hi al = some r ∧ impl_RuleText.f k p ip b lo hi al = some r := by
  cases hr : ruleb p ip b lo hi with
  | false =>
    refine ⟨(⟨#[]⟩, 1), fun k hk => ?_⟩
    obtain ⟨k, rfl⟩ : ∃ q, k = q + 5 := ⟨k - 5, by omega⟩
    rw [spec_RuleText.f, impl_RuleText.f, spec_RuleOK_eq, impl_RuleOK_eq, hr, Option.bind_some, Option.bind_some, if_neg (by decide), if_neg (by decide)]
    exact ⟨rfl, rfl⟩
  | true =>
    obtain ⟨hp, h1, h2, h3, h4⟩ := ruleb_at hr
    obtain ⟨ip, rfl⟩ : ∃ q : Nat, ip = q := ⟨ip.toNat, by omega⟩
    obtain ⟨b, rfl⟩ : ∃ q : Nat, b = q := ⟨b.toNat, by omega⟩
    obtain ⟨lo, rfl⟩ : ∃ q : Nat, lo = q := ⟨lo.toNat, by omega⟩
    obtain ⟨hi, rfl⟩ : ∃ q : Nat, hi = q := ⟨hi.toNat, by omega⟩
    refine ⟨(ruleT al p ip b lo hi, 0), fun k hk => ?_⟩
    obtain ⟨k, rfl⟩ : ∃ q, k = q + 6 := ⟨k - 6, by omega⟩
    have s := spec_rule al p hp ip b lo hi (by omega) (by omega) (by omega) (by omega) k (by omega)
    have i := impl_rule al p ip b lo hi (by omega) (by omega) (by omega) (by omega) (k + 5) (by omega)
    rw [spec_RuleText.f, impl_RuleText.f, spec_RuleOK_eq, impl_RuleOK_eq (k + 1), hr, Option.bind_some, Option.bind_some, if_pos rfl, if_pos rfl]
    cases al
    · exact ⟨s, i⟩
    · exact ⟨s, i⟩
end
section
-- IMPORT Derived.SizedLaws
-- IMPORT Derived.ProofKit
-- IMPORT Derived.WalkKit
-- IMPORT Derived.OpenShut
-- IMPORT Derived.ShutString
-- IMPORT Derived.ChangeOld
-- IMPORT Derived.Below
-- IMPORT Derived.Deep.Slices
open Go.ChangeShapes Go.WideShapes Go.ChangeAt Go.Deep
/-- What reads as data of type t is a value of the kind d, and meets wf. -/
structure Opens (P : Program) (t : TypeId) {α : Type} (d : Kd α) (wf : α → Prop) : Prop where
  sz : P.cellsOf t = d.sz
  op : ∀ {H : Type} {enc : TypeId × Value → H} {w : World} {fuel : Nat} {cs : List Value} {y : DataW H × List MemPlace}, DataW.trod enc P w 0 (fun _ => true) true fuel t cs = some y → (∀ n ∈ y.1.weights P t, n ≤ reachBytes) → ∃ x, d.K w x cs ∧ wf x
theorem Opens.int {P : Program} {t : TypeId} {k : IntKind} (hu : P.underlying t = some (.int k)) (hc : P.cellsOf t = 1) : Opens P t (Kd.int k) (fun n => (Lit.int k n).wf = true) :=
  ⟨hc, fun h _ => by obtain ⟨n, rfl, rfl, wf⟩ := DataW.trod_int hu h; exact ⟨n, rfl, wf⟩⟩
theorem Opens.bool {P : Program} {t : TypeId} (hu : P.underlying t = some .bool) (hc : P.cellsOf t = 1) : Opens P t Kd.bool (fun _ => True) :=
  ⟨hc, fun h _ => by obtain ⟨n, rfl, rfl⟩ := DataW.trod_bool hu h; exact ⟨n, rfl, trivial⟩⟩
theorem Opens.string {P : Program} {t : TypeId} (hu : P.underlying t = some .string) (hc : P.cellsOf t = 1) : Opens P t Kd.string (fun s => s.size ≤ 140737488351232) :=
  ⟨hc, fun h hw => by
    obtain ⟨s, rfl, rfl, _⟩ := DataW.trod_string hu h
    refine ⟨s, rfl, ?_⟩
    have := hw s.data.toList.length (by simp [DataW.weights])
    simpa [reachBytes] using this⟩
theorem weights_mem_all {H : Type} {P : Program} {e : TypeId} {n : Nat} : ∀ {l : List (DataW H)} {d : DataW H}, d ∈ l → n ∈ d.weights P e → n ∈ DataW.weightsAll P e l
  | d0 :: l, d, hd, hn => by
    simp only [DataW.weightsAll, List.mem_append]
    rcases List.mem_cons.1 hd with rfl | hd
    · exact .inl hn
    · exact .inr (weights_mem_all hd hn)
  | [], _, hd, _ => by cases hd
theorem list_of_all {α : Type} {Q : Nat → α → Prop} (n : Nat) (h : ∀ i, i < n → ∃ x, Q i x) : ∃ xs : List α, xs.length = n ∧ ∀ j x, xs[j]? = some x → Q j x := by
  induction n with
  | zero => exact ⟨[], rfl, fun j x h => by simp at h⟩
  | succ n ih =>
    obtain ⟨xs, hl, hx⟩ := ih (fun i hi => h i (by omega))
    obtain ⟨x, hq⟩ := h n (by omega)
    refine ⟨xs ++ [x], by simp [hl], fun j y hj => ?_⟩
    rcases Nat.lt_or_ge j xs.length with hlt | hge
    · rw [List.getElem?_append_left hlt] at hj
      exact hx j y hj
    · rw [List.getElem?_append_right hge] at hj
      have : j - xs.length = 0 := by
        rcases Nat.lt_or_ge (j - xs.length) 1 with h1 | h1
        · omega
        · rw [List.getElem?_eq_none (by simpa using h1)] at hj; cases hj
      rw [this] at hj
      simp at hj
      subst hj
      have : j = n := by omega
      subst this
      exact hq
theorem Opens.slice {α : Type} {P : Program} {t e : TypeId} {d : Kd α} {wf : α → Prop} (hu : P.underlying t = some (.slice e)) (hc : P.cellsOf t = 1) (B : Nat) (hB : P.bytesOf e = B) (he : Opens P e d wf) :
    Opens P t (Kd.slice e d) (fun xs => xs.length * B ≤ 140737488351232 ∧ xs.length ≤ maxLen ∧ ∀ x ∈ xs, wf x) :=
  ⟨hc, fun {H enc w fuel cs y} h hw => by
    rcases open_slice hu h with ⟨rfl, rfl⟩ | ⟨a, len, cap, m, n, D, Pl, rfl, _, hl, hm, hmm, rfl, hel⟩
    · exact ⟨[], ⟨none, 0, rfl, Nat.le_refl _, Kd.C_nil d w⟩, by simp, by simp, fun x hx => by cases hx⟩
    have hmc : m = cap := by rw [hmm]; rfl
    subst hmc
    have hwt : ∀ i, i < len → ∀ z ∈ (D i).weights P e, z ≤ reachBytes := fun i hi z hz => hw z (by
      simp only [DataW.weights, hu]
      exact List.mem_cons_of_mem _ (List.mem_append_left _ (weights_mem_all (List.mem_map.2 ⟨i, List.mem_range.2 hi, rfl⟩) hz)))
    have hall : ∀ i, i < len → ∃ x : α, (∃ c, c.length = d.sz ∧ d.K w x c ∧ ∀ j u, c[j]? = some u → w.cell? (a.add (i * d.sz + j)) = some u) ∧ wf x := by
      intro i hi
      obtain ⟨cs', hcs, htr⟩ := hel i (by omega)
      obtain ⟨x, hk, hx⟩ := he.op htr (hwt i hi)
      obtain ⟨_, hlen, hcell⟩ := World.cells?_some hcs
      refine ⟨x, ⟨cs', by rw [hlen, he.sz], hk, fun j u hu' => ?_⟩, hx⟩
      have hj : j < cs'.length := by
        rcases Nat.lt_or_ge j cs'.length with h1 | h1
        · exact h1
        · rw [List.getElem?_eq_none h1] at hu'; cases hu'
      rw [hlen] at hj
      have hcj := hcell j hj
      rw [hu', he.sz, Addr.add_add] at hcj
      exact hcj
    obtain ⟨xs, hxl, hxs⟩ := list_of_all (Q := fun i x => (∃ c, c.length = d.sz ∧ d.K w x c ∧ ∀ j u, c[j]? = some u → w.cell? (a.add (i * d.sz + j)) = some u) ∧ wf x) len hall
    subst hxl
    refine ⟨xs, ⟨some a, m, rfl, hl, rfl, ?_, fun _ => ⟨a, rfl, fun j p hp => (hxs j p hp).1⟩⟩, ?_, ?_, ?_⟩
    · unfold maxLen at hm; omega
    · have := hw ((List.map D (List.range xs.length)).length + (List.map (fun j => D (xs.length + j)) (List.range (m - xs.length))).length) |> fun h => h
      have h1 := hw (((List.map D (List.range xs.length)).length + (List.map (fun j => D (xs.length + j)) (List.range (m - xs.length))).length) * P.bytesOf e) (by simp only [DataW.weights, hu]; exact List.mem_cons_self)
      rw [hB] at h1
      simp only [List.length_map, List.length_range] at h1
      have h2 : xs.length * B ≤ (xs.length + (m - xs.length)) * B := Nat.mul_le_mul_right _ (by omega)
      exact Nat.le_trans h2 h1
    · omega
    · intro x hx
      obtain ⟨j, hj, rfl⟩ := List.getElem_of_mem hx
      exact (hxs j _ (List.getElem?_eq_getElem hj)).2⟩
/-- Fields in line from cell o on. -/
structure OpensF (P : Program) (fs : List Field) (o : Nat) {α : Type} (d : Kd α) (wf : α → Prop) : Prop where
  op : ∀ {H : Type} {enc : TypeId × Value → H} {w : World} {n : Nat} {cs : List Value} {xs : List (DataW H × List MemPlace)}, o + d.sz ≤ cs.length → xs.length = fs.length →
    (∀ (i : Nat) (f : Field), fs[i]? = some f → DataW.trod enc P w 0 (fun _ => true) true n f.type ((cs.drop f.offset).take (P.cellsOf f.type)) = xs[i]?) →
    (∀ z ∈ DataW.weightsEach P (fs.map (·.type)) (xs.map (·.1)), z ≤ reachBytes) → ∃ x, d.K w x ((cs.drop o).take d.sz) ∧ wf x
theorem OpensF.one {α : Type} {P : Program} {f : Field} {o : Nat} {d : Kd α} {wf : α → Prop} (ho : f.offset = o) (h : Opens P f.type d wf) : OpensF P [f] o d wf := by
  refine ⟨fun {H enc w n cs xs} hlen hxl htr hw => ?_⟩
  match xs, hxl with
  | [y], _ =>
    have h1 := htr 0 f rfl
    rw [ho, h.sz] at h1
    exact h.op (y := y) h1 (fun z hz => hw z (by simpa [DataW.weightsEach] using hz))
theorem OpensF.cons {α β : Type} {P : Program} {f : Field} {fs : List Field} {o : Nat} {a : Kd α} {b : Kd β} {wa : α → Prop} {wb : β → Prop} (ho : f.offset = o) (h : Opens P f.type a wa) (o' : Nat) (ho' : o + a.sz = o') (hr : OpensF P fs o' b wb) :
    OpensF P (f :: fs) o (Kd.pair a b) (fun x => wa x.1 ∧ wb x.2) := by
  refine ⟨fun {H enc w n cs xs} hlen hxl htr hw => ?_⟩
  match xs, hxl with
  | y :: ys, hxl =>
    have h1 := htr 0 f rfl
    rw [ho, h.sz] at h1
    have hsz : (Kd.pair a b).sz = a.sz + b.sz := rfl
    rw [hsz] at hlen
    obtain ⟨x0, k0, w0⟩ := h.op (y := y) h1 (fun z hz => hw z (by simp only [List.map_cons, DataW.weightsEach, List.mem_append]; exact .inl hz))
    obtain ⟨x1, k1, w1⟩ := hr.op (n := n) (cs := cs) (xs := ys) (enc := enc) (w := w) (by omega) (by simpa using hxl) (fun i g hg => by have := htr (i + 1) g (by simpa using hg); simpa using this) (fun z hz => hw z (by simp only [List.map_cons, DataW.weightsEach, List.mem_append]; exact .inr hz))
    refine ⟨(x0, x1), ⟨(cs.drop o).take a.sz, (cs.drop o').take b.sz, ?_, k0, k1⟩, w0, w1⟩
    rw [hsz, ← ho', List.take_add, List.drop_drop]
theorem Opens.struct {α : Type} {P : Program} {t : TypeId} {fs : Array Field} {d : Kd α} {wf : α → Prop} (hu : P.underlying t = some (.struct fs)) (hc : P.cellsOf t = d.sz) (h : OpensF P fs.toList 0 d wf) : Opens P t d wf :=
  ⟨hc, fun {H enc w fuel cs y} ht hw => by
    obtain ⟨xs, n, rfl, rfl, hlen, hxl, htr⟩ := DataW.trod_struct hu ht
    obtain ⟨x, hk, hx⟩ := h.op (enc := enc) (w := w) (n := n) (cs := cs) (xs := xs) (by omega) (by simpa using hxl) (fun i f hf => htr i f (by simpa using hf)) (fun z hz => hw z (by simp only [DataW.weights, hu]; exact hz))
    refine ⟨x, ?_, hx⟩
    rw [List.drop_zero, List.take_of_length_le (by omega)] at hk
    exact hk⟩
theorem Opens.iso {α β : Type} {P : Program} {t : TypeId} {d : Kd α} {wf : α → Prop} (f : β → α) (g : α → β) (hfg : ∀ x, f (g x) = x) (h : Opens P t d wf) : Opens P t (Kd.iso d f) (fun x => wf (f x)) :=
  ⟨h.sz, fun ht hw => by
    obtain ⟨x, hk, hx⟩ := h.op ht hw
    exact ⟨g x, by show d.K _ (f (g x)) _; rw [hfg]; exact hk, by rw [hfg]; exact hx⟩⟩
end
section
def wf23 (x : S23) : Prop := (Lit.int .i64 x.f0).wf = true ∧ ((Lit.int .i64 x.f1).wf = true)
set_option maxRecDepth 100000 in
theorem opens23 : Opens Tryd.prog 23 k23 wf23 :=
  Opens.iso (fun x : S23 => (x.f0, x.f1)) (fun y => ⟨y.1, y.2⟩) (fun _ => rfl) (Opens.struct Tryd.underlying23 (by kernel_rfl) (OpensF.cons rfl (Opens.int Tryd.underlying3 (by kernel_rfl)) 1 rfl (OpensF.one rfl (Opens.int Tryd.underlying3 (by kernel_rfl)))))
end
section
def wf25 (x : S25) : Prop := (Lit.int .i64 x.f0).wf = true ∧ ((Lit.int .i64 x.f1).wf = true)
set_option maxRecDepth 100000 in
theorem opens25 : Opens Tryd.prog 25 k25 wf25 :=
  Opens.iso (fun x : S25 => (x.f0, x.f1)) (fun y => ⟨y.1, y.2⟩) (fun _ => rfl) (Opens.struct Tryd.underlying25 (by kernel_rfl) (OpensF.cons rfl (Opens.int Tryd.underlying3 (by kernel_rfl)) 1 rfl (OpensF.one rfl (Opens.int Tryd.underlying3 (by kernel_rfl)))))
end
section
def wf27 (x : S27) : Prop := (Lit.int .i64 x.f0).wf = true ∧ (wf23 x.f1 ∧ (wf25 x.f2 ∧ (True)))
set_option maxRecDepth 100000 in
theorem opens27 : Opens Tryd.prog 27 k27 wf27 :=
  Opens.iso (fun x : S27 => (x.f0, x.f1, x.f2, x.f3)) (fun y => ⟨y.1, y.2.1, y.2.2.1, y.2.2.2⟩) (fun _ => rfl) (Opens.struct Tryd.underlying27 (by kernel_rfl) (OpensF.cons rfl (Opens.int Tryd.underlying3 (by kernel_rfl)) 1 rfl (OpensF.cons rfl opens23 3 rfl (OpensF.cons rfl opens25 5 rfl (OpensF.one rfl (Opens.bool Tryd.underlying4 (by kernel_rfl)))))))
end
section
def P_FnExactRuleText : Prop := ∀ (a0 : S27), wf27 a0 → ∃ k, laws_FnExactRuleText.f k a0.f0 a0.f1.f0 a0.f1.f1 a0.f2.f0 a0.f2.f1 a0.f3 = some true
end
section
-- NEEDS laws.FnExactRuleText
theorem pure_FnExactRuleText : P_FnExactRuleText := by
  intro r _
  obtain ⟨t, ht⟩ := RuleText_both r.f0 r.f1.f0 r.f1.f1 r.f2.f0 r.f2.f1 r.f3
  obtain ⟨h1, h2⟩ := ht 50 (Nat.le_refl _)
  refine ⟨50, ?_⟩
  simp only [laws_FnExactRuleText.f, laws_toRule.f, laws_toNet.f, laws_toRange.f, Option.bind_some, h1, h2, if_true]
end
section
-- IMPORT Derived.Test.YtiemmhhjiplnlaaDoorRows
-- IMPORT Derived.Test.YtiemmhhjiplnlaaDoorCards
-- IMPORT Derived.Test.YtiemmhhjiplnlaaDoorTie
-- IMPORT Derived.LaidMore
-- IMPORT Derived.Lay
-- IMPORT Derived.SevenTiedAt
-- IMPORT Derived.Stop.Joined
-- IMPORT Derived.Stop.LaidErr
-- IMPORT Derived.Handed
-- IMPORT Derived.Lib.LaidTab
-- IMPORT Derived.Lib.ItoaNum
-- IMPORT Derived.WalkKit
-- IMPORT Derived.ProofKit
-- IMPORT Derived.OpenShut
-- IMPORT Derived.ShutString
-- IMPORT Derived.ChangeOld
-- IMPORT Derived.Below
-- IMPORT Derived.SizedLaws
open Go.ChangeShapes Go.WideShapes Go.ChangeAt
open Go.ChangeMaps (open_string shut_string)
theorem own_FnExactRuleText : ownKnob Tryd.prog.godebug = none := by kernel_rfl
theorem laidOut_FnExactRuleText : laidOutB Tryd.prog = true := by kernel_rfl
noncomputable def laidL_FnExactRuleText : List (String × DataW Unit) := Rows.fnExactRuleTextRow.laid
set_option maxHeartbeats 4000000 in
set_option maxRecDepth 100000 in
theorem lifted_FnExactRuleText (os : Os) (started : os.Started) (H : Type) (enc : TypeId × Value → H) :
    ReturnsInHanded {} Tryd.checked os 3 .any (fun w args => (Rows.fnExactRuleTextSpec.pre enc Tryd.prog Tryd.f3 Rows.fnExactRuleTextRow.domain false w args ∧ laidMetH Tryd.prog laidL_FnExactRuleText w) ∧ sizedMet enc Tryd.prog Tryd.f3 (OpenSpec.ofChange Rows.fnExactRuleTextSpec) false w args) (Rows.fnExactRuleTextSpec.post enc Tryd.prog Tryd.f3 false true false false) := by
  refine returnsInHanded_of_change_and (C := Tryd.checked) (X := fun w _ => laidMetH Tryd.prog laidL_FnExactRuleText w) (fun _ _ _ hh h => h.of_heap hh) own_FnExactRuleText started (by kernel_rfl) Tryd.func3
    (ChangeSpec.witness_shaped (enc := enc) (C := Tryd.checked) (os := os) (X := fun w _ => laidMetH Tryd.prog laidL_FnExactRuleText w) false (World.laidAll Tryd.prog os laidL_FnExactRuleText) #[.agg #[.int .i64 0, .int .i64 0, .int .i64 0, .int .i64 0, .int .i64 0, .bool false]] 8 (World.laidAll_os _ _ _)
      (World.shaped_of_ZipB (by kernel_rfl) (by kernel_rfl)) (by kernel_rfl) (by kernel_rfl) (by kernel_rfl) (by rw [MakeChecks.laidMetH_plain _ _ _ (by kernel_rfl)]; exact laidMet_laidAll _ (by kernel_rfl) (by kernel_rfl))) ?_
  intro W base args ds gs before hval0 hW hcnd hsz0 hL _
  have hsz : (DataW.weightsEach Tryd.prog (Tryd.f3.params.toList ++ Rows.fnExactRuleTextSpec.plain.varTypes Tryd.prog) (ds ++ gs)).all (· ≤ reachBytes) = true := hsz0
  have hval : ∀ (j : Nat) t v, Tryd.f3.params[j]? = some t → args[j]? = some v → Value.okWide Tryd.prog W .any base t v := hval0
  have hW' := hW
  obtain ⟨p, q, hA0, hV, rfl, hfz, hnd⟩ := hW
  have hA : DataW.TrodAll enc Tryd.prog W 0 (fun _ => true) true Tryd.f3.params.toList args.toList ds p := hA0
  rw [Tryd.params3] at hA hval hsz
  obtain ⟨v0, vs0, d0, ds0, p0, q0, hargs, rfl, rfl, h0, r0⟩ := trodAll_cons hA
  obtain ⟨rfl, rfl, rfl⟩ := trodAll_nil r0
  obtain rfl : args = #[v0] := by cases args; simp_all
  obtain ⟨rfl, rfl⟩ := trodVars_none hV
  have k0 := h0
  have lt0 : ∀ x ∈ p0, x.block < W.heap.size := by obtain ⟨m, hm⟩ := k0; exact DataW.trod_lt m _ _ _ hm
  obtain ⟨cs0, rfl, _⟩ := okWide_struct Tryd.underlying27 (hval 0 27 v0 rfl rfl)
  obtain ⟨fuel0, hf0⟩ := h0
  obtain ⟨a0, kx0, w0⟩ := opens27.op hf0 (fun n hn => by have z := List.all_eq_true.1 hsz _ (DataW.weights_mem_each (j := 0) (t := 27) rfl rfl n hn); simpa using z)
  have e0 := k27_open kx0
  obtain rfl : cs0 = #[.int .i64 a0.f0, .int .i64 a0.f1.f0, .int .i64 a0.f1.f1, .int .i64 a0.f2.f0, .int .i64 a0.f2.f1, .bool a0.f3] := Array.toList_inj.1 e0
  have hL1 := hL
  rw [MakeChecks.laidMetH_plain _ _ _ (by kernel_rfl)] at hL1
  have hL2 : laidMet Tryd.prog [("math/bits.deBruijn32tab", Rows.laid_math_bits_deBruijn32tab), ("math/bits.deBruijn64tab", Rows.laid_math_bits_deBruijn64tab), ("internal/strconv.uint64pow10", Rows.laid_internal_strconv_uint64pow10)] W := hL1
  have hL3 : laidMet Tryd.prog (("internal/strconv.uint64pow10", Lib.tabData .u64 Lib.pow10Tab) :: []) W := by
    have e_ : (Rows.laid_internal_strconv_uint64pow10 : DataW Unit) = Lib.tabData .u64 Lib.pow10Tab := by kernel_rfl
    have h_ := laidMet.tail (laidMet.tail (hL2))
    rw [e_] at h_
    exact h_
  have hGp : GLp W := Lib.tabIs_of_head (g := 1) (t := 108) (e := 92) (n := 20) (by kernel_rfl) (by kernel_rfl) (by kernel_rfl) (by kernel_rfl) (by kernel_rfl) (by kernel_rfl) hL3
  clear hL1 hL2 hL3
  clear hL
  clear hA0 hval0 hsz0 hsz
  obtain ⟨k, hk⟩ := pure_FnExactRuleText a0 w0
  refine (laws_FnExactRuleText.calls k a0.f0 a0.f1.f0 a0.f1.f1 a0.f2.f0 a0.f2.f1 a0.f3 true W  hGp hk).mono fun e W' hh => ?_
  obtain ⟨he, bel0⟩ := hh
  have bel : Below W.heap.size W W' := bel0
  subst he
  exact ⟨_, rfl, _, _, _, [], _, [], hW', trodAll_mk1 (shut_bool Tryd.underlying4 _), (trodAll_cons_mk (Below.trod laidOut_FnExactRuleText (by kernel_rfl) (of_decide_eq_true (by kernel_rfl)) k0 bel lt0) trodAll_mk0), rfl, bel.frame _, fun h => by cases h⟩
theorem over_FnExactRuleText : Rows.fnExactRuleTextRow.holds Tryd.pinned (OpenSpec.ofChange Rows.fnExactRuleTextSpec) :=
  OpenClaim.holds_of_wide 3 Tryd.f3 rfl rfl rfl rfl rfl rfl rfl ⟨rfl, rfl, rfl, rfl, rfl⟩ rfl rfl rfl rfl rfl (by kernel_rfl) Tryd.func3 (by kernel_rfl)
    (of_decide_eq_true (by kernel_rfl)) (by unfold Func.isWrapper; first | (rw [if_pos (by decide +kernel)]; kernel_rfl) | (rw [if_neg (by decide +kernel)]; exact ⟨rfl, rfl⟩))
    (fun os started H enc _ => lifted_FnExactRuleText os started H enc)
theorem proved_FnExactRuleText : Rows.FnExactRuleTextCardSaid :=
  Claim7.holds_tied_plain_at .later [] [.data, .data, .data] true (true, "85bbebc138b4395892a062e8f118e8fc7922ebafbd3a14bf9c694507a37ef1a4") true over_FnExactRuleText (fun _ h => by cases h) (by kernel_rfl) (fun _ h => by cases h) fnExactRuleText_row_tie rfl ⟨rfl, rfl⟩ (by kernel_rfl) rfl
    (fun f fn hf hfn => by
      obtain rfl : f = 3 := Option.some.inj ((show Tryd.prog.funcNamed "loop.example/g00356/laws.FnExactRuleText" = some 3 by kernel_rfl).symm.trans hf) |>.symm
      obtain rfl : fn = Tryd.f3 := (Option.some.inj (Tryd.func3.symm.trans hfn)).symm
      exact ⟨by kernel_rfl, fun j t ht => by
        rw [Tryd.params3] at ht
        have hm : t ∈ [27] := by simpa using Array.mem_of_getElem? ht
        have hall : ([27].all fun u => !Tryd.prog.wantsStandIn u) = true := by kernel_rfl
        exact (show Tryd.prog.wantsStandIn t = false by simpa using List.all_eq_true.1 hall t hm)⟩)
    (by kernel_rfl)
#print axioms proved_FnExactRuleText
end
end Go.Proofs.YtiemmhhjiplnlaaDoor.X
