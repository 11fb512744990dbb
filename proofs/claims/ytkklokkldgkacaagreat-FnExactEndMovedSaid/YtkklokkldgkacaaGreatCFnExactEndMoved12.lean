/- Texts that the row of FnExactEndMoved stands on: functions of the program and of the reference, each as a Lean function with the same answers, and the plain lemmas. Conditions: none beside those that each theorem names. -/
import Derived.Test.YtkklokkldgkacaaGreatCFnExactEndMoved11
namespace Go.Proofs.YtkklokkldgkacaaGreat.X
open Go.RowKit Go.Proofs.YtkklokkldgkacaaGreatW.PrintWords Go.Proofs.YtkklokkldgkacaaGreatW.PrintLast Go.Proofs.YtkklokkldgkacaaGreatW.PrintMore
attribute [local go_sem] max2_int min2_int max_two min_two max_three min_three max_four min_four   -- for this text's walks alone
set_option linter.unusedVariables false
set_option linter.unusedSimpArgs false
section
/-! ### impl_cloneGuests: function 68 -/
def impl_cloneGuests.f (l0_0 : List (S92)) (l0_1 : List (S76)) (l0_2 : List (S81)) (l0_3 : List (S83)) (a0_4 : Int) : Option ((List (S92)) × (List (S76)) × (List (S81)) × (List (S83)) × Int) := (impl_User.f l0_0).bind fun t612 => ((impl_Session_122.f l0_1).bind fun t615 => ((impl_Fail.f l0_2).bind fun t618 => ((impl_Record_124.f l0_3).bind fun t621 => (some (t612, t615, t618, t621, a0_4)))))
def impl_cloneGuests.T1 : Bool × List (List Nat × List Nat) := (true, [([], []), ([0], [0]), ([1], [1]), ([], []), ([3], [3]), ([4, 2], [4]), ([], []), ([6], [6]), ([7, 5], [7]), ([], []), ([9], [9]), ([10, 8], [10]), ([0, 1, 2, 3, 4, 6, 7, 9, 10], []), ([12, 2, 11, 0, 1, 2, 3, 4, 6, 7, 9, 10], [2, 12]), ([0, 1, 2, 3, 4, 5, 6, 7, 9, 10, 12, 13], []), ([14, 5, 13, 0, 1, 2, 3, 4, 5, 6, 7, 9, 10, 12, 13], [5, 14]), ([0, 1, 2, 3, 4, 5, 6, 7, 8, 9, 10, 12, 13, 14, 15], []), ([16, 8, 15, 0, 1, 2, 3, 4, 5, 6, 7, 8, 9, 10, 12, 13, 14, 15], [8, 16]), ([0, 1, 2, 3, 4, 5, 6, 7, 8, 9, 10, 11, 12, 13, 14, 15, 16, 17], []), ([18, 11, 17, 0, 1, 2, 3, 4, 5, 6, 7, 8, 9, 10, 11, 12, 13, 14, 15, 16, 17], [11, 18])])
def impl_cloneGuests.B1 : List Nat := [0, 1, 3, 0, 8, 31, 0, 64, 255, 0, 512, 2047, 1759, 8191, 16383, 32767, 65535, 131071, 262143, 524287]
theorem impl_cloneGuests.tab1 : rtab .any (opsOf Tryz.f68 1) = impl_cloneGuests.T1 := by kernel_rfl
theorem impl_cloneGuests.bits1 : waitsOk impl_cloneGuests.T1.2 impl_cloneGuests.B1 = true := by kernel_rfl
set_option maxHeartbeats 8000000 in
set_option maxRecDepth 100000 in
theorem impl_cloneGuests.calls (A0_0 : Option Addr) (c0_0 : Nat) (l0_0 : List (S92)) (A0_1 : Option Addr) (c0_1 : Nat) (l0_1 : List (S76)) (A0_2 : Option Addr) (c0_2 : Nat) (l0_2 : List (S81)) (A0_3 : Option Addr) (c0_3 : Nat) (l0_3 : List (S83)) (a0_4 : Int) (r1 : List (S92)) (r2 : List (S76)) (r3 : List (S81)) (r4 : List (S83)) (r5 : Int) (w : World) (hr0_0 : Kd.C k92 w A0_0 l0_0.length l0_0) (hc0_0 : l0_0.length ≤ c0_0) (hr0_1 : Kd.C k76 w A0_1 l0_1.length l0_1) (hc0_1 : l0_1.length ≤ c0_1) (hr0_2 : Kd.C k81 w A0_2 l0_2.length l0_2) (hc0_2 : l0_2.length ≤ c0_2) (hr0_3 : Kd.C k83 w A0_3 l0_3.length l0_3) (hc0_3 : l0_3.length ≤ c0_3) (h : impl_cloneGuests.f l0_0 l0_1 l0_2 l0_3 a0_4 = some (r1, r2, r3, r4, r5)) :
    Calls Tryz.prog 68 #[.agg #[.slice A0_0 l0_0.length c0_0, .slice A0_1 l0_1.length c0_1, .slice A0_2 l0_2.length c0_2, .slice A0_3 l0_3.length c0_3, .int .i64 a0_4]] w fun e w' => ∃ v0_ v1_ v2_ v3_ : Value, e = .returned (.agg #[v0_, v1_, v2_, v3_, .int .i64 r5]) ∧ Kd.R k92 92 w' w.heap.size (fun _ => True) v0_ r1 ∧ Kd.R k76 76 w' w.heap.size (fun _ => True) v1_ r2 ∧ Kd.R k81 81 w' w.heap.size (fun _ => True) v2_ r3 ∧ Kd.R k83 83 w' w.heap.size (fun _ => True) v3_ r4 ∧ Below w.heap.size w w' := by
  have hu48 := Tryz.underlying48
  have HR0_0 := Aside0.mk hr0_0
  have HC0_0 := Aside0.mk hc0_0
  clear hr0_0 hc0_0
  have HR0_1 := Aside0.mk hr0_1
  have HC0_1 := Aside0.mk hc0_1
  clear hr0_1 hc0_1
  have HR0_2 := Aside0.mk hr0_2
  have HC0_2 := Aside0.mk hc0_2
  clear hr0_2 hc0_2
  have HR0_3 := Aside0.mk hr0_3
  have HC0_3 := Aside0.mk hc0_3
  clear hr0_3 hc0_3
  have HB := Aside0.mk (Below.refl w.heap.size w)
  have H : ((impl_User.f l0_0).bind fun t612 => ((impl_Session_122.f l0_1).bind fun t615 => ((impl_Fail.f l0_2).bind fun t618 => ((impl_Record_124.f l0_3).bind fun t621 => (some (t612, t615, t618, t621, a0_4)))))) = some (r1, r2, r3, r4, r5) := h
  clear h
  replace H := Option.bind_eq_some_iff.mp H
  obtain ⟨t612, A20, H⟩ := H
  replace H : ((impl_Session_122.f l0_1).bind fun t615 => ((impl_Fail.f l0_2).bind fun t618 => ((impl_Record_124.f l0_3).bind fun t621 => (some (t612, t615, t618, t621, a0_4))))) = some (r1, r2, r3, r4, r5) := H
  have A2 := Aside0.mk A20
  clear A20
  replace H := Option.bind_eq_some_iff.mp H
  obtain ⟨t615, A30, H⟩ := H
  replace H : ((impl_Fail.f l0_2).bind fun t618 => ((impl_Record_124.f l0_3).bind fun t621 => (some (t612, t615, t618, t621, a0_4)))) = some (r1, r2, r3, r4, r5) := H
  have A3 := Aside0.mk A30
  clear A30
  replace H := Option.bind_eq_some_iff.mp H
  obtain ⟨t618, A40, H⟩ := H
  replace H : ((impl_Record_124.f l0_3).bind fun t621 => (some (t612, t615, t618, t621, a0_4))) = some (r1, r2, r3, r4, r5) := H
  have A4 := Aside0.mk A40
  clear A40
  replace H := Option.bind_eq_some_iff.mp H
  obtain ⟨t621, A50, H⟩ := H
  replace H : (some (t612, t615, t618, t621, a0_4)) = some (r1, r2, r3, r4, r5) := H
  have A5 := Aside0.mk A50
  clear A50
  simp only [Option.some.injEq, Prod.mk.injEq] at H
  obtain ⟨rfl, rfl, rfl, rfl, rfl⟩ := H
  go_enter Tryz.func68, Tryz.ntmps68
  try go_wp2_with (first | ((with_reducible refine gate_dst (N := 1) rfl ?_); refine box_event ?hg (N := 1) ?hd (cs := #[.slice A0_0 l0_0.length c0_0, .slice A0_1 l0_1.length c0_1, .slice A0_2 l0_2.length c0_2, .slice A0_3 l0_3.length c0_3, .int .i64 a0_4]) (t := 48) ?hr ?_; (case hd => rfl); (case hg => rfl); (case hr => first | (go_simp; done) | (go_simp; rfl)); intro gb610 hg w6 hbox hb; have n0_ := Aside0.mk (below_step (by repeat (first | (with_reducible first | exact HB.out | apply below_alloc | apply pw_below_drewN | apply below_drew1) | exact HB.out)) hb); have n1_ := Aside0.mk (hbox); have n2_ := Aside0.mk ((by rw [hg]; exact (below_size (by repeat (first | (with_reducible first | exact HB.out | apply below_alloc | apply pw_below_drewN | apply below_drew1) | exact HB.out))) : w.heap.size ≤ gb610)); have n3_ := Aside0.mk ((by rw [hg]; exact (below_size (by repeat (first | (with_reducible first | exact HB.out | apply below_alloc | apply pw_below_drewN | apply below_drew1) | exact HB.out))) : w.heap.size ≤ gb610)); clear HB; have HB := n0_; have BK610 := n1_; have GW610 := n2_; have GE610 := n3_; clear n0_ n1_ n2_ n3_; clear hb hbox hg) | ((with_reducible refine gate_dst (N := 2) rfl ?_); refine box_event ?hg (N := 2) ?hd (cs := #[.slice none 0 0, .slice none 0 0, .slice none 0 0, .slice none 0 0, .int .i64 0]) (t := 48) ?hr ?_; (case hd => rfl); (case hg => rfl); (case hr => first | (go_simp; done) | (go_simp; rfl)); intro gb611 hg w7 hbox hb; have n0_ := Aside0.mk (blk_below (g := gb610) (o := .cells #[.slice A0_0 l0_0.length c0_0, .slice A0_1 l0_1.length c0_1, .slice A0_2 l0_2.length c0_2, .slice A0_3 l0_3.length c0_3, .int .i64 a0_4] 48 (0, 0)) (by (with_reducible repeat (first | refine blk_drewN ?_ _ | refine blk_drew ?_ | refine blk_alloc ?_ _)); exact BK610.out) hb); have n1_ := Aside0.mk (below_step (by repeat (first | (with_reducible first | exact HB.out | apply below_alloc | apply pw_below_drewN | apply below_drew1 | refine below_set ?_ GE610.out) | exact HB.out)) hb); have n2_ := Aside0.mk (hbox); have n3_ := Aside0.mk ((by rw [hg]; exact (below_size (by repeat (first | (with_reducible first | exact HB.out | apply below_alloc | apply pw_below_drewN | apply below_drew1 | refine below_set ?_ GE610.out) | exact HB.out))) : w.heap.size ≤ gb611)); have n4_ := Aside0.mk ((by rw [hg]; exact (below_size (by repeat (first | (with_reducible first | exact HB.out | apply below_alloc | apply pw_below_drewN | apply below_drew1 | refine below_set ?_ GE610.out) | exact HB.out))) : w.heap.size ≤ gb611)); have n5_ := Aside0.mk ((by rw [hg]; exact Nat.ne_of_lt (blk_lt (g := gb610) (o := .cells #[.slice A0_0 l0_0.length c0_0, .slice A0_1 l0_1.length c0_1, .slice A0_2 l0_2.length c0_2, .slice A0_3 l0_3.length c0_3, .int .i64 a0_4] 48 (0, 0)) (by (with_reducible repeat (first | refine blk_drewN ?_ _ | refine blk_drew ?_ | refine blk_alloc ?_ _)); exact BK610.out)) : gb610 ≠ gb611)); have n6_ := Aside0.mk ((by rw [hg]; exact Nat.ne_of_gt (blk_lt (g := gb610) (o := .cells #[.slice A0_0 l0_0.length c0_0, .slice A0_1 l0_1.length c0_1, .slice A0_2 l0_2.length c0_2, .slice A0_3 l0_3.length c0_3, .int .i64 a0_4] 48 (0, 0)) (by (with_reducible repeat (first | refine blk_drewN ?_ _ | refine blk_drew ?_ | refine blk_alloc ?_ _)); exact BK610.out)) : gb611 ≠ gb610)); clear BK610; clear HB; have BK610 := n0_; have HB := n1_; have BK611 := n2_; have GW611 := n3_; have GE611 := n4_; have NB610_611 := n5_; have NB611_610 := n6_; clear n0_ n1_ n2_ n3_ n4_ n5_ n6_; clear hb hbox hg))
  have n0_ := Aside0.mk (blk_drew BK610.out)
  have n1_ := Aside0.mk (blk_drew BK611.out)
  have n2_ := Aside0.mk (below_drew1 HB.out)
  clear BK610
  clear BK611
  clear HB
  have BK610 := n0_
  have BK611 := n1_
  have HB := n2_
  clear n0_ n1_ n2_
  refine start_ (n := 20) (S := fun w' => w'.cell? ⟨gb610, 0, none⟩ = some (.slice A0_0 l0_0.length c0_0) ∧ w'.cell? ⟨gb610, 1, none⟩ = some (.slice A0_1 l0_1.length c0_1) ∧ w'.cell? ⟨gb610, 2, none⟩ = some (.slice A0_2 l0_2.length c0_2) ∧ w'.cell? ⟨gb610, 3, none⟩ = some (.slice A0_3 l0_3.length c0_3) ∧ w'.cell? ⟨gb610, 4, none⟩ = some (.int .i64 a0_4)) (ds := [13, 15, 17, 19]) #[false, false, false, false, false, false, false, false, false, false, false, false, false, false, false, false, false, false, false, false] (by kernel_rfl) rfl rfl ⟨(blk_cell BK610.out 0).trans rfl, (blk_cell BK610.out 1).trans rfl, (blk_cell BK610.out 2).trans rfl, (blk_cell BK610.out 3).trans rfl, (blk_cell BK610.out 4).trans rfl⟩ (fun hHeld => ?_); refine with_tabW impl_cloneGuests.tab1 impl_cloneGuests.bits1 (fun HT_ HW_ => ?_)
  generalize w7.drew = w8 at BK610 BK611 HB hHeld ⊢
  refine pure_ (i := 0) (N := some 3) (v := ?_) (a' := ?_) #[true, false, false, false, false, false, false, false, false, false, false, false, false, false, false, false, false, false, false, false] rfl rfl (any_of HT_.out (by kernel_rfl)) (fun _ _ _ h => h) (Or.inl ⟨by rfl, ?_⟩) ?_ ?_
  rotate_left
  · intro w'
    go_simp
    with_reducible rfl
  rotate_left
  · simp only [Act.put, List.setIfInBounds_toArray, List.set_cons_zero, List.set_cons_succ, i64_w, i32_w]
    rfl
  refine pure_ (i := 3) (N := some 6) (v := ?_) (a' := ?_) #[true, false, false, true, false, false, false, false, false, false, false, false, false, false, false, false, false, false, false, false] rfl rfl (any_of HT_.out (by kernel_rfl)) (fun _ _ _ h => h) (Or.inl ⟨by rfl, ?_⟩) ?_ ?_
  rotate_left
  · intro w'
    go_simp
    with_reducible rfl
  rotate_left
  · simp only [Act.put, List.setIfInBounds_toArray, List.set_cons_zero, List.set_cons_succ, i64_w, i32_w]
    rfl
  refine pure_ (i := 6) (N := some 9) (v := ?_) (a' := ?_) #[true, false, false, true, false, false, true, false, false, false, false, false, false, false, false, false, false, false, false, false] rfl rfl (any_of HT_.out (by kernel_rfl)) (fun _ _ _ h => h) (Or.inl ⟨by rfl, ?_⟩) ?_ ?_
  rotate_left
  · intro w'
    go_simp
    with_reducible rfl
  rotate_left
  · simp only [Act.put, List.setIfInBounds_toArray, List.set_cons_zero, List.set_cons_succ, i64_w, i32_w]
    rfl
  refine pure_ (i := 9) (N := some 12) (v := ?_) (a' := ?_) #[true, false, false, true, false, false, true, false, false, true, false, false, false, false, false, false, false, false, false, false] rfl rfl (any_of HT_.out (by kernel_rfl)) (fun _ _ _ h => h) (Or.inl ⟨by rfl, ?_⟩) ?_ ?_
  rotate_left
  · intro w'
    go_simp
    with_reducible rfl
  rotate_left
  · simp only [Act.put, List.setIfInBounds_toArray, List.set_cons_zero, List.set_cons_succ, i64_w, i32_w]
    rfl
  refine take_ (i := 1) (N := some 4) (v := ?_) (a' := ?_) #[true, true, false, true, false, false, true, false, false, true, false, false, false, false, false, false, false, false, false, false] rfl rfl (take_ofW HT_.out HW_.out (by kernel_rfl)) (fun _ _ _ h => h) (Or.inl ⟨by rfl, ?_⟩) hHeld ?_ ?_
  rotate_left
  · rintro w' ⟨s0, s1, s2, s3, s4⟩
    go_simp
    with_reducible rfl
  rotate_left
  · simp only [Act.put, List.setIfInBounds_toArray, List.set_cons_zero, List.set_cons_succ, i64_w, i32_w]
    rfl
  refine take_ (i := 4) (N := some 7) (v := ?_) (a' := ?_) #[true, true, false, true, true, false, true, false, false, true, false, false, false, false, false, false, false, false, false, false] rfl rfl (take_ofW HT_.out HW_.out (by kernel_rfl)) (fun _ _ _ h => h) (Or.inl ⟨by rfl, ?_⟩) hHeld ?_ ?_
  rotate_left
  · rintro w' ⟨s0, s1, s2, s3, s4⟩
    go_simp
    with_reducible rfl
  rotate_left
  · simp only [Act.put, List.setIfInBounds_toArray, List.set_cons_zero, List.set_cons_succ, i64_w, i32_w]
    rfl
  refine take_ (i := 7) (N := some 10) (v := ?_) (a' := ?_) #[true, true, false, true, true, false, true, true, false, true, false, false, false, false, false, false, false, false, false, false] rfl rfl (take_ofW HT_.out HW_.out (by kernel_rfl)) (fun _ _ _ h => h) (Or.inl ⟨by rfl, ?_⟩) hHeld ?_ ?_
  rotate_left
  · rintro w' ⟨s0, s1, s2, s3, s4⟩
    go_simp
    with_reducible rfl
  rotate_left
  · simp only [Act.put, List.setIfInBounds_toArray, List.set_cons_zero, List.set_cons_succ, i64_w, i32_w]
    rfl
  refine take_ (i := 10) (N := some 13) (v := ?_) (a' := ?_) #[true, true, false, true, true, false, true, true, false, true, true, false, false, false, false, false, false, false, false, false] rfl rfl (take_ofW HT_.out HW_.out (by kernel_rfl)) (fun _ _ _ h => h) (Or.inl ⟨by rfl, ?_⟩) hHeld ?_ ?_
  rotate_left
  · rintro w' ⟨s0, s1, s2, s3, s4⟩
    go_simp
    with_reducible rfl
  rotate_left
  · simp only [Act.put, List.setIfInBounds_toArray, List.set_cons_zero, List.set_cons_succ, i64_w, i32_w]
    rfl
  refine one_ (i := 2) (N := some 5) #[true, true, true, true, true, false, true, true, false, true, true, false, false, false, false, false, false, false, false, false] rfl rfl (one_of HT_.out (by kernel_rfl)) (by decide) (fun K hK => ?_)
  refine goes_ Tryz.func121 (by kernel_rfl) rfl #[.slice A0_0 l0_0.length c0_0] (by rfl) rfl rfl (by (try simp only [List.map_toArray, List.map_cons, List.map_nil]); first | done | rfl | (simp only [List.length_drop, List.length_take]; rfl)) ?_
  with_reducible refine (impl_User.calls _ _ l0_0 t612 _ ?side1 ?side2 A2.out).mono ?_
  (case side1 => repeat (first | exact (Kd.C_below HR0_0.out HB.out) | (with_reducible refine Kd.C_alloc ?_ _) | (with_reducible refine Kd.C_drewN ?_ _) | (with_reducible refine Kd.C_drew ?_)))
  (case side2 => exact HC0_0.out)
  rintro e w9 ⟨v613, rfl, ho0, hb⟩
  refine ⟨_, rfl, ?_⟩
  have n0_ := Aside0.mk (Kd.R_lower ho0 (below_size (by repeat (first | (with_reducible first | exact HB.out | apply below_alloc | apply pw_below_drewN | apply below_drew1 | refine below_set ?_ GE610.out | refine below_set ?_ GE611.out) | exact HB.out))))
  have n1_ := Aside0.mk (blk_below (g := gb610) (o := .cells #[.slice A0_0 l0_0.length c0_0, .slice A0_1 l0_1.length c0_1, .slice A0_2 l0_2.length c0_2, .slice A0_3 l0_3.length c0_3, .int .i64 a0_4] 48 (0, 0)) (by (with_reducible repeat (first | refine blk_drewN ?_ _ | refine blk_drew ?_ | refine blk_alloc ?_ _)); exact BK610.out) hb)
  have n2_ := Aside0.mk (blk_below (g := gb611) (o := .cells #[.slice none 0 0, .slice none 0 0, .slice none 0 0, .slice none 0 0, .int .i64 0] 48 (0, 0)) (by (with_reducible repeat (first | refine blk_drewN ?_ _ | refine blk_drew ?_ | refine blk_alloc ?_ _)); exact BK611.out) hb)
  have n3_ := Aside0.mk (below_step (by repeat (first | (with_reducible first | exact HB.out | apply below_alloc | apply pw_below_drewN | apply below_drew1 | refine below_set ?_ GE610.out | refine below_set ?_ GE611.out) | exact HB.out)) hb)
  clear BK610
  clear BK611
  clear HB
  have HO614 := n0_
  have BK610 := n1_
  have BK611 := n2_
  have HB := n3_
  clear n0_ n1_ n2_ n3_
  (try clear hb)
  (try clear hb2)
  (try clear hk)
  (try clear hi)
  (try clear ho0)
  refine hK.out _ _ ⟨(blk_cell BK610.out 0).trans rfl, (blk_cell BK610.out 1).trans rfl, (blk_cell BK610.out 2).trans rfl, (blk_cell BK610.out 3).trans rfl, (blk_cell BK610.out 4).trans rfl⟩ (fun hHeld => ?_)
  clear hK K
  refine norm_ (a' := ?_) ?_ ?_
  rotate_left
  · show Act.put _ (some 5) _ = _
    simp only [Act.put, List.setIfInBounds_toArray, List.set_cons_zero, List.set_cons_succ, i64_w, i32_w]
    rfl
  refine pure_ (i := 12) (N := some 15) (v := ?_) (a' := ?_) #[true, true, true, true, true, false, true, true, false, true, true, false, true, false, false, false, false, false, false, false] rfl rfl (any_of HT_.out (by kernel_rfl)) (fun _ _ _ h => h) (Or.inl ⟨by rfl, ?_⟩) ?_ ?_
  rotate_left
  · intro w'
    go_simp
    with_reducible rfl
  rotate_left
  · simp only [Act.put, List.setIfInBounds_toArray, List.set_cons_zero, List.set_cons_succ, i64_w, i32_w]
    rfl
  refine one_ (i := 5) (N := some 8) #[true, true, true, true, true, true, true, true, false, true, true, false, true, false, false, false, false, false, false, false] rfl rfl (one_of HT_.out (by kernel_rfl)) (by decide) (fun K hK => ?_)
  refine goes_ Tryz.func122 (by kernel_rfl) rfl #[.slice A0_1 l0_1.length c0_1] (by rfl) rfl rfl (by (try simp only [List.map_toArray, List.map_cons, List.map_nil]); first | done | rfl | (simp only [List.length_drop, List.length_take]; rfl)) ?_
  with_reducible refine (impl_Session_122.calls _ _ l0_1 t615 _ ?side1 ?side2 A3.out).mono ?_
  (case side1 => repeat (first | exact (Kd.C_below HR0_1.out HB.out) | (with_reducible refine Kd.C_alloc ?_ _) | (with_reducible refine Kd.C_drewN ?_ _) | (with_reducible refine Kd.C_drew ?_)))
  (case side2 => exact HC0_1.out)
  rintro e w10 ⟨v616, rfl, ho0, hb⟩
  refine ⟨_, rfl, ?_⟩
  have n0_ := Aside0.mk (Kd.R_below (by (with_reducible repeat (first | apply Kd.R_alloc | apply Kd.R_drewN | apply Kd.R_drew)); exact HO614.out) hb)
  have n1_ := Aside0.mk (Kd.R_lower ho0 (below_size (by repeat (first | (with_reducible first | exact HB.out | apply below_alloc | apply pw_below_drewN | apply below_drew1 | refine below_set ?_ GE610.out | refine below_set ?_ GE611.out) | exact HB.out))))
  have n2_ := Aside0.mk (blk_below (g := gb610) (o := .cells #[.slice A0_0 l0_0.length c0_0, .slice A0_1 l0_1.length c0_1, .slice A0_2 l0_2.length c0_2, .slice A0_3 l0_3.length c0_3, .int .i64 a0_4] 48 (0, 0)) (by (with_reducible repeat (first | refine blk_drewN ?_ _ | refine blk_drew ?_ | refine blk_alloc ?_ _)); exact BK610.out) hb)
  have n3_ := Aside0.mk (blk_below (g := gb611) (o := .cells #[.slice none 0 0, .slice none 0 0, .slice none 0 0, .slice none 0 0, .int .i64 0] 48 (0, 0)) (by (with_reducible repeat (first | refine blk_drewN ?_ _ | refine blk_drew ?_ | refine blk_alloc ?_ _)); exact BK611.out) hb)
  have n4_ := Aside0.mk (below_step (by repeat (first | (with_reducible first | exact HB.out | apply below_alloc | apply pw_below_drewN | apply below_drew1 | refine below_set ?_ GE610.out | refine below_set ?_ GE611.out) | exact HB.out)) hb)
  clear HO614
  clear BK610
  clear BK611
  clear HB
  have HO614 := n0_
  have HO617 := n1_
  have BK610 := n2_
  have BK611 := n3_
  have HB := n4_
  clear n0_ n1_ n2_ n3_ n4_
  (try clear hb)
  (try clear hb2)
  (try clear hk)
  (try clear hi)
  (try clear ho0)
  refine hK.out _ _ ⟨(blk_cell BK610.out 0).trans rfl, (blk_cell BK610.out 1).trans rfl, (blk_cell BK610.out 2).trans rfl, (blk_cell BK610.out 3).trans rfl, (blk_cell BK610.out 4).trans rfl⟩ (fun hHeld => ?_)
  clear hK K
  refine norm_ (a' := ?_) ?_ ?_
  rotate_left
  · show Act.put _ (some 8) _ = _
    simp only [Act.put, List.setIfInBounds_toArray, List.set_cons_zero, List.set_cons_succ, i64_w, i32_w]
    rfl
  refine one_ (i := 8) (N := some 11) #[true, true, true, true, true, true, true, true, true, true, true, false, true, false, false, false, false, false, false, false] rfl rfl (one_of HT_.out (by kernel_rfl)) (by decide) (fun K hK => ?_)
  refine goes_ Tryz.func123 (by kernel_rfl) rfl #[.slice A0_2 l0_2.length c0_2] (by rfl) rfl rfl (by (try simp only [List.map_toArray, List.map_cons, List.map_nil]); first | done | rfl | (simp only [List.length_drop, List.length_take]; rfl)) ?_
  with_reducible refine (impl_Fail.calls _ _ l0_2 t618 _ ?side1 ?side2 A4.out).mono ?_
  (case side1 => repeat (first | exact (Kd.C_below HR0_2.out HB.out) | (with_reducible refine Kd.C_alloc ?_ _) | (with_reducible refine Kd.C_drewN ?_ _) | (with_reducible refine Kd.C_drew ?_)))
  (case side2 => exact HC0_2.out)
  rintro e w11 ⟨v619, rfl, ho0, hb⟩
  refine ⟨_, rfl, ?_⟩
  have n0_ := Aside0.mk (Kd.R_below (by (with_reducible repeat (first | apply Kd.R_alloc | apply Kd.R_drewN | apply Kd.R_drew)); exact HO614.out) hb)
  have n1_ := Aside0.mk (Kd.R_below (by (with_reducible repeat (first | apply Kd.R_alloc | apply Kd.R_drewN | apply Kd.R_drew)); exact HO617.out) hb)
  have n2_ := Aside0.mk (Kd.R_lower ho0 (below_size (by repeat (first | (with_reducible first | exact HB.out | apply below_alloc | apply pw_below_drewN | apply below_drew1 | refine below_set ?_ GE610.out | refine below_set ?_ GE611.out) | exact HB.out))))
  have n3_ := Aside0.mk (blk_below (g := gb610) (o := .cells #[.slice A0_0 l0_0.length c0_0, .slice A0_1 l0_1.length c0_1, .slice A0_2 l0_2.length c0_2, .slice A0_3 l0_3.length c0_3, .int .i64 a0_4] 48 (0, 0)) (by (with_reducible repeat (first | refine blk_drewN ?_ _ | refine blk_drew ?_ | refine blk_alloc ?_ _)); exact BK610.out) hb)
  have n4_ := Aside0.mk (blk_below (g := gb611) (o := .cells #[.slice none 0 0, .slice none 0 0, .slice none 0 0, .slice none 0 0, .int .i64 0] 48 (0, 0)) (by (with_reducible repeat (first | refine blk_drewN ?_ _ | refine blk_drew ?_ | refine blk_alloc ?_ _)); exact BK611.out) hb)
  have n5_ := Aside0.mk (below_step (by repeat (first | (with_reducible first | exact HB.out | apply below_alloc | apply pw_below_drewN | apply below_drew1 | refine below_set ?_ GE610.out | refine below_set ?_ GE611.out) | exact HB.out)) hb)
  clear HO614
  clear HO617
  clear BK610
  clear BK611
  clear HB
  have HO614 := n0_
  have HO617 := n1_
  have HO620 := n2_
  have BK610 := n3_
  have BK611 := n4_
  have HB := n5_
  clear n0_ n1_ n2_ n3_ n4_ n5_
  (try clear hb)
  (try clear hb2)
  (try clear hk)
  (try clear hi)
  (try clear ho0)
  refine hK.out _ _ ⟨(blk_cell BK610.out 0).trans rfl, (blk_cell BK610.out 1).trans rfl, (blk_cell BK610.out 2).trans rfl, (blk_cell BK610.out 3).trans rfl, (blk_cell BK610.out 4).trans rfl⟩ (fun hHeld => ?_)
  clear hK K
  refine norm_ (a' := ?_) ?_ ?_
  rotate_left
  · show Act.put _ (some 11) _ = _
    simp only [Act.put, List.setIfInBounds_toArray, List.set_cons_zero, List.set_cons_succ, i64_w, i32_w]
    rfl
  refine one_ (i := 11) (N := some 14) #[true, true, true, true, true, true, true, true, true, true, true, true, true, false, false, false, false, false, false, false] rfl rfl (one_of HT_.out (by kernel_rfl)) (by decide) (fun K hK => ?_)
  refine goes_ Tryz.func124 (by kernel_rfl) rfl #[.slice A0_3 l0_3.length c0_3] (by rfl) rfl rfl (by (try simp only [List.map_toArray, List.map_cons, List.map_nil]); first | done | rfl | (simp only [List.length_drop, List.length_take]; rfl)) ?_
  with_reducible refine (impl_Record_124.calls _ _ l0_3 t621 _ ?side1 ?side2 A5.out).mono ?_
  (case side1 => repeat (first | exact (Kd.C_below HR0_3.out HB.out) | (with_reducible refine Kd.C_alloc ?_ _) | (with_reducible refine Kd.C_drewN ?_ _) | (with_reducible refine Kd.C_drew ?_)))
  (case side2 => exact HC0_3.out)
  rintro e w12 ⟨v622, rfl, ho0, hb⟩
  refine ⟨_, rfl, ?_⟩
  have n0_ := Aside0.mk (Kd.R_below (by (with_reducible repeat (first | apply Kd.R_alloc | apply Kd.R_drewN | apply Kd.R_drew)); exact HO614.out) hb)
  have n1_ := Aside0.mk (Kd.R_below (by (with_reducible repeat (first | apply Kd.R_alloc | apply Kd.R_drewN | apply Kd.R_drew)); exact HO617.out) hb)
  have n2_ := Aside0.mk (Kd.R_below (by (with_reducible repeat (first | apply Kd.R_alloc | apply Kd.R_drewN | apply Kd.R_drew)); exact HO620.out) hb)
  have n3_ := Aside0.mk (Kd.R_lower ho0 (below_size (by repeat (first | (with_reducible first | exact HB.out | apply below_alloc | apply pw_below_drewN | apply below_drew1 | refine below_set ?_ GE610.out | refine below_set ?_ GE611.out) | exact HB.out))))
  have n4_ := Aside0.mk (blk_below (g := gb610) (o := .cells #[.slice A0_0 l0_0.length c0_0, .slice A0_1 l0_1.length c0_1, .slice A0_2 l0_2.length c0_2, .slice A0_3 l0_3.length c0_3, .int .i64 a0_4] 48 (0, 0)) (by (with_reducible repeat (first | refine blk_drewN ?_ _ | refine blk_drew ?_ | refine blk_alloc ?_ _)); exact BK610.out) hb)
  have n5_ := Aside0.mk (blk_below (g := gb611) (o := .cells #[.slice none 0 0, .slice none 0 0, .slice none 0 0, .slice none 0 0, .int .i64 0] 48 (0, 0)) (by (with_reducible repeat (first | refine blk_drewN ?_ _ | refine blk_drew ?_ | refine blk_alloc ?_ _)); exact BK611.out) hb)
  have n6_ := Aside0.mk (below_step (by repeat (first | (with_reducible first | exact HB.out | apply below_alloc | apply pw_below_drewN | apply below_drew1 | refine below_set ?_ GE610.out | refine below_set ?_ GE611.out) | exact HB.out)) hb)
  clear HO614
  clear HO617
  clear HO620
  clear BK610
  clear BK611
  clear HB
  have HO614 := n0_
  have HO617 := n1_
  have HO620 := n2_
  have HO623 := n3_
  have BK610 := n4_
  have BK611 := n5_
  have HB := n6_
  clear n0_ n1_ n2_ n3_ n4_ n5_ n6_
  (try clear hb)
  (try clear hb2)
  (try clear hk)
  (try clear hi)
  (try clear ho0)
  obtain ⟨Ao13, co13, eo13⟩ := Kd.R_slice HO614.out
  (first | subst eo13 | (injection eo13 with f1_ f2_ f3_; have f4_ := f1_.symm; have f5_ := f3_.symm; clear f1_ f2_ f3_; subst f4_; subst f5_))
  obtain ⟨Ao15, co15, eo15⟩ := Kd.R_slice HO617.out
  (first | subst eo15 | (injection eo15 with f1_ f2_ f3_; have f4_ := f1_.symm; have f5_ := f3_.symm; clear f1_ f2_ f3_; subst f4_; subst f5_))
  obtain ⟨Ao17, co17, eo17⟩ := Kd.R_slice HO620.out
  (first | subst eo17 | (injection eo17 with f1_ f2_ f3_; have f4_ := f1_.symm; have f5_ := f3_.symm; clear f1_ f2_ f3_; subst f4_; subst f5_))
  obtain ⟨Ao19, co19, eo19⟩ := Kd.R_slice HO623.out
  (first | subst eo19 | (injection eo19 with f1_ f2_ f3_; have f4_ := f1_.symm; have f5_ := f3_.symm; clear f1_ f2_ f3_; subst f4_; subst f5_))
  refine hK.out _ _ ⟨(blk_cell BK610.out 0).trans rfl, (blk_cell BK610.out 1).trans rfl, (blk_cell BK610.out 2).trans rfl, (blk_cell BK610.out 3).trans rfl, (blk_cell BK610.out 4).trans rfl⟩ (fun hHeld => ?_)
  clear hK K
  refine norm_ (a' := ?_) ?_ ?_
  rotate_left
  · show Act.put _ (some 14) _ = _
    simp only [Act.put, List.setIfInBounds_toArray, List.set_cons_zero, List.set_cons_succ, i64_w, i32_w]
    rfl
  refine last_ (i := 13) (N := none) #[true, true, true, true, true, true, true, true, true, true, true, true, true, true, false, false, false, false, false, false] rfl rfl (one_of HT_.out (by kernel_rfl)) (by decide) (fun K hK => ?_)
  have hs14 : w12.cell? ⟨gb610, 0, none⟩ = some (.slice A0_0 l0_0.length c0_0) := (blk_cell BK610.out 0).trans rfl
  have hfs14 := blk_frozen BK610.out 0
  have hns14_1 := NB611_610.out
  have hms14_1 := NB610_611.out
  refine skip_ (w1 := ?_) (by rfl) rfl ?_ ?_
  rotate_left
  · go_simp
    rfl
  refine hK.out _ _ ?_
  clear hK K
  refine pure_ (i := 14) (N := some 16) (v := ?_) (a' := ?_) #[true, true, true, true, true, true, true, true, true, true, true, true, true, true, true, false, false, false, false, false] rfl rfl (any_of HT_.out (by kernel_rfl)) (fun _ _ _ h => h) (Or.inl ⟨by rfl, ?_⟩) ?_ ?_
  rotate_left
  · intro w'
    go_simp
    with_reducible rfl
  rotate_left
  · simp only [Act.put, List.setIfInBounds_toArray, List.set_cons_zero, List.set_cons_succ, i64_w, i32_w]
    rfl
  refine last_ (i := 15) (N := none) #[true, true, true, true, true, true, true, true, true, true, true, true, true, true, true, true, false, false, false, false] rfl rfl (one_of HT_.out (by kernel_rfl)) (by decide) (fun K hK => ?_)
  have hs16 : w12.cell? ⟨gb610, 1, none⟩ = some (.slice A0_1 l0_1.length c0_1) := (blk_cell BK610.out 1).trans rfl
  have hfs16 := blk_frozen BK610.out 1
  have hns16_1 := NB611_610.out
  have hms16_1 := NB610_611.out
  refine skip_ (w1 := ?_) (by rfl) rfl ?_ ?_
  rotate_left
  · go_simp
    rfl
  refine hK.out _ _ ?_
  clear hK K
  refine pure_ (i := 16) (N := some 17) (v := ?_) (a' := ?_) #[true, true, true, true, true, true, true, true, true, true, true, true, true, true, true, true, true, false, false, false] rfl rfl (any_of HT_.out (by kernel_rfl)) (fun _ _ _ h => h) (Or.inl ⟨by rfl, ?_⟩) ?_ ?_
  rotate_left
  · intro w'
    go_simp
    with_reducible rfl
  rotate_left
  · simp only [Act.put, List.setIfInBounds_toArray, List.set_cons_zero, List.set_cons_succ, i64_w, i32_w]
    rfl
  refine last_ (i := 17) (N := none) #[true, true, true, true, true, true, true, true, true, true, true, true, true, true, true, true, true, true, false, false] rfl rfl (one_of HT_.out (by kernel_rfl)) (by decide) (fun K hK => ?_)
  have hs18 : w12.cell? ⟨gb610, 2, none⟩ = some (.slice A0_2 l0_2.length c0_2) := (blk_cell BK610.out 2).trans rfl
  have hfs18 := blk_frozen BK610.out 2
  have hns18_1 := NB611_610.out
  have hms18_1 := NB610_611.out
  refine skip_ (w1 := ?_) (by rfl) rfl ?_ ?_
  rotate_left
  · go_simp
    rfl
  refine hK.out _ _ ?_
  clear hK K
  refine pure_ (i := 18) (N := some 18) (v := ?_) (a' := ?_) #[true, true, true, true, true, true, true, true, true, true, true, true, true, true, true, true, true, true, true, false] rfl rfl (any_of HT_.out (by kernel_rfl)) (fun _ _ _ h => h) (Or.inl ⟨by rfl, ?_⟩) ?_ ?_
  rotate_left
  · intro w'
    go_simp
    with_reducible rfl
  rotate_left
  · simp only [Act.put, List.setIfInBounds_toArray, List.set_cons_zero, List.set_cons_succ, i64_w, i32_w]
    rfl
  refine last_ (i := 19) (N := none) #[true, true, true, true, true, true, true, true, true, true, true, true, true, true, true, true, true, true, true, true] rfl rfl (one_of HT_.out (by kernel_rfl)) (by decide) (fun K hK => ?_)
  have hs20 : w12.cell? ⟨gb610, 3, none⟩ = some (.slice A0_3 l0_3.length c0_3) := (blk_cell BK610.out 3).trans rfl
  have hfs20 := blk_frozen BK610.out 3
  have hns20_1 := NB611_610.out
  have hms20_1 := NB610_611.out
  refine skip_ (w1 := ?_) (by rfl) rfl ?_ ?_
  rotate_left
  · go_simp
    rfl
  refine hK.out _ _ ?_
  clear hK K
  refine done_ (done_of HT_.out (by kernel_rfl)) ?_
  have hnb21 := NB610_611.out
  have hnc21 := NB611_610.out
  have hcz22_0 : w12.cell? ⟨gb610, 0, none⟩ = some (.slice A0_0 l0_0.length c0_0) := (blk_cell BK610.out 0).trans rfl
  have hcz22_1 : w12.cell? ⟨gb610, 1, none⟩ = some (.slice A0_1 l0_1.length c0_1) := (blk_cell BK610.out 1).trans rfl
  have hcz22_2 : w12.cell? ⟨gb610, 2, none⟩ = some (.slice A0_2 l0_2.length c0_2) := (blk_cell BK610.out 2).trans rfl
  have hcz22_3 : w12.cell? ⟨gb610, 3, none⟩ = some (.slice A0_3 l0_3.length c0_3) := (blk_cell BK610.out 3).trans rfl
  have hcz22_4 : w12.cell? ⟨gb610, 4, none⟩ = some (.int .i64 a0_4) := (blk_cell BK610.out 4).trans rfl
  have hfz22_0 := blk_frozen BK610.out 0
  have hfz22_1 := blk_frozen BK610.out 1
  have hfz22_2 := blk_frozen BK610.out 2
  have hfz22_3 := blk_frozen BK610.out 3
  have hfz22_4 := blk_frozen BK610.out 4
  have hcz23_0 : w12.cell? ⟨gb611, 0, none⟩ = some (.slice none 0 0) := (blk_cell BK611.out 0).trans rfl
  have hcz23_1 : w12.cell? ⟨gb611, 1, none⟩ = some (.slice none 0 0) := (blk_cell BK611.out 1).trans rfl
  have hcz23_2 : w12.cell? ⟨gb611, 2, none⟩ = some (.slice none 0 0) := (blk_cell BK611.out 2).trans rfl
  have hcz23_3 : w12.cell? ⟨gb611, 3, none⟩ = some (.slice none 0 0) := (blk_cell BK611.out 3).trans rfl
  have hcz23_4 : w12.cell? ⟨gb611, 4, none⟩ = some (.int .i64 0) := (blk_cell BK611.out 4).trans rfl
  have hfz23_0 := blk_frozen BK611.out 0
  have hfz23_1 := blk_frozen BK611.out 1
  have hfz23_2 := blk_frozen BK611.out 2
  have hfz23_3 := blk_frozen BK611.out 3
  have hfz23_4 := blk_frozen BK611.out 4
  try go_wp2
  refine bodyPost_ret (results_cell_row rfl _ _ gb611 48 #[.slice Ao13 t612.length co13, .slice Ao15 t615.length co15, .slice Ao17 t618.length co17, .slice Ao19 t621.length co19, .int .i64 a0_4] (0, 0) _ rfl (by (with_reducible repeat (first | refine blk_drewN ?_ _ | refine blk_drew ?_ | refine blk_alloc ?_ _)); refine blk_put (cs := #[.slice Ao13 t612.length co13, .slice Ao15 t615.length co15, .slice Ao17 t618.length co17, .slice Ao19 t621.length co19, .int .i64 0]) ?_ 4 _ rfl; (with_reducible repeat (first | refine blk_drewN ?_ _ | refine blk_drew ?_ | refine blk_alloc ?_ _)); refine blk_put (cs := #[.slice Ao13 t612.length co13, .slice Ao15 t615.length co15, .slice Ao17 t618.length co17, .slice none 0 0, .int .i64 0]) ?_ 3 _ rfl; (with_reducible repeat (first | refine blk_drewN ?_ _ | refine blk_drew ?_ | refine blk_alloc ?_ _)); refine blk_put (cs := #[.slice Ao13 t612.length co13, .slice Ao15 t615.length co15, .slice none 0 0, .slice none 0 0, .int .i64 0]) ?_ 2 _ rfl; (with_reducible repeat (first | refine blk_drewN ?_ _ | refine blk_drew ?_ | refine blk_alloc ?_ _)); refine blk_put (cs := #[.slice Ao13 t612.length co13, .slice none 0 0, .slice none 0 0, .slice none 0 0, .int .i64 0]) ?_ 1 _ rfl; (with_reducible repeat (first | refine blk_drewN ?_ _ | refine blk_drew ?_ | refine blk_alloc ?_ _)); refine blk_put (cs := #[.slice none 0 0, .slice none 0 0, .slice none 0 0, .slice none 0 0, .int .i64 0]) ?_ 0 _ rfl; (with_reducible repeat (first | refine blk_drewN ?_ _ | refine blk_drew ?_ | refine blk_alloc ?_ _)); refine blk_far ?_ NB611_610.out _; (with_reducible repeat (first | refine blk_drewN ?_ _ | refine blk_drew ?_ | refine blk_alloc ?_ _)); refine blk_far ?_ NB611_610.out _; (with_reducible repeat (first | refine blk_drewN ?_ _ | refine blk_drew ?_ | refine blk_alloc ?_ _)); refine blk_far ?_ NB611_610.out _; (with_reducible repeat (first | refine blk_drewN ?_ _ | refine blk_drew ?_ | refine blk_alloc ?_ _)); refine blk_far ?_ NB611_610.out _; (with_reducible repeat (first | refine blk_drewN ?_ _ | refine blk_drew ?_ | refine blk_alloc ?_ _)); exact BK611.out) Tryz.underlying48 rfl (by kernel_rfl)) rfl ?_
  exact ⟨_, _, _, _, by first | rfl | (simp [errW_none, errW_some] <;> rfl) | (simp [*, errW_none, errW_some] <;> rfl), by (with_reducible repeat (first | apply Kd.R_alloc | apply Kd.R_drewN | apply Kd.R_drew)); exact Kd.R_mono (Kd.R_far (p := ⟨gb611, 4, none⟩) (Kd.R_far (p := ⟨gb611, 3, none⟩) (Kd.R_far (p := ⟨gb611, 2, none⟩) (Kd.R_far (p := ⟨gb611, 1, none⟩) (Kd.R_far (p := ⟨gb611, 0, none⟩) (Kd.R_far (p := ⟨gb610, 3, none⟩) (Kd.R_far (p := ⟨gb610, 2, none⟩) (Kd.R_far (p := ⟨gb610, 1, none⟩) (Kd.R_far (p := ⟨gb610, 0, none⟩) (Kd.R_types (Kd.R_types HO614.out BK610.out (by decide)) BK611.out (by decide)) (fun _ hk => hk.1.2) (.slice Ao13 t612.length co13)) (fun _ hk => hk.1.2) (.slice Ao15 t615.length co15)) (fun _ hk => hk.1.2) (.slice Ao17 t618.length co17)) (fun _ hk => hk.1.2) (.slice Ao19 t621.length co19)) (fun _ hk => hk.2) (.slice Ao13 t612.length co13)) (fun _ hk => hk.2) (.slice Ao15 t615.length co15)) (fun _ hk => hk.2) (.slice Ao17 t618.length co17)) (fun _ hk => hk.2) (.slice Ao19 t621.length co19)) (fun _ hk => hk.2) (.int .i64 a0_4)) (fun _ hk => trivial), by (with_reducible repeat (first | apply Kd.R_alloc | apply Kd.R_drewN | apply Kd.R_drew)); exact Kd.R_mono (Kd.R_far (p := ⟨gb611, 4, none⟩) (Kd.R_far (p := ⟨gb611, 3, none⟩) (Kd.R_far (p := ⟨gb611, 2, none⟩) (Kd.R_far (p := ⟨gb611, 1, none⟩) (Kd.R_far (p := ⟨gb611, 0, none⟩) (Kd.R_far (p := ⟨gb610, 3, none⟩) (Kd.R_far (p := ⟨gb610, 2, none⟩) (Kd.R_far (p := ⟨gb610, 1, none⟩) (Kd.R_far (p := ⟨gb610, 0, none⟩) (Kd.R_types (Kd.R_types HO617.out BK610.out (by decide)) BK611.out (by decide)) (fun _ hk => hk.1.2) (.slice Ao13 t612.length co13)) (fun _ hk => hk.1.2) (.slice Ao15 t615.length co15)) (fun _ hk => hk.1.2) (.slice Ao17 t618.length co17)) (fun _ hk => hk.1.2) (.slice Ao19 t621.length co19)) (fun _ hk => hk.2) (.slice Ao13 t612.length co13)) (fun _ hk => hk.2) (.slice Ao15 t615.length co15)) (fun _ hk => hk.2) (.slice Ao17 t618.length co17)) (fun _ hk => hk.2) (.slice Ao19 t621.length co19)) (fun _ hk => hk.2) (.int .i64 a0_4)) (fun _ hk => trivial), by (with_reducible repeat (first | apply Kd.R_alloc | apply Kd.R_drewN | apply Kd.R_drew)); exact Kd.R_mono (Kd.R_far (p := ⟨gb611, 4, none⟩) (Kd.R_far (p := ⟨gb611, 3, none⟩) (Kd.R_far (p := ⟨gb611, 2, none⟩) (Kd.R_far (p := ⟨gb611, 1, none⟩) (Kd.R_far (p := ⟨gb611, 0, none⟩) (Kd.R_far (p := ⟨gb610, 3, none⟩) (Kd.R_far (p := ⟨gb610, 2, none⟩) (Kd.R_far (p := ⟨gb610, 1, none⟩) (Kd.R_far (p := ⟨gb610, 0, none⟩) (Kd.R_types (Kd.R_types HO620.out BK610.out (by decide)) BK611.out (by decide)) (fun _ hk => hk.1.2) (.slice Ao13 t612.length co13)) (fun _ hk => hk.1.2) (.slice Ao15 t615.length co15)) (fun _ hk => hk.1.2) (.slice Ao17 t618.length co17)) (fun _ hk => hk.1.2) (.slice Ao19 t621.length co19)) (fun _ hk => hk.2) (.slice Ao13 t612.length co13)) (fun _ hk => hk.2) (.slice Ao15 t615.length co15)) (fun _ hk => hk.2) (.slice Ao17 t618.length co17)) (fun _ hk => hk.2) (.slice Ao19 t621.length co19)) (fun _ hk => hk.2) (.int .i64 a0_4)) (fun _ hk => trivial), by (with_reducible repeat (first | apply Kd.R_alloc | apply Kd.R_drewN | apply Kd.R_drew)); exact Kd.R_mono (Kd.R_far (p := ⟨gb611, 4, none⟩) (Kd.R_far (p := ⟨gb611, 3, none⟩) (Kd.R_far (p := ⟨gb611, 2, none⟩) (Kd.R_far (p := ⟨gb611, 1, none⟩) (Kd.R_far (p := ⟨gb611, 0, none⟩) (Kd.R_far (p := ⟨gb610, 3, none⟩) (Kd.R_far (p := ⟨gb610, 2, none⟩) (Kd.R_far (p := ⟨gb610, 1, none⟩) (Kd.R_far (p := ⟨gb610, 0, none⟩) (Kd.R_types (Kd.R_types HO623.out BK610.out (by decide)) BK611.out (by decide)) (fun _ hk => hk.1.2) (.slice Ao13 t612.length co13)) (fun _ hk => hk.1.2) (.slice Ao15 t615.length co15)) (fun _ hk => hk.1.2) (.slice Ao17 t618.length co17)) (fun _ hk => hk.1.2) (.slice Ao19 t621.length co19)) (fun _ hk => hk.2) (.slice Ao13 t612.length co13)) (fun _ hk => hk.2) (.slice Ao15 t615.length co15)) (fun _ hk => hk.2) (.slice Ao17 t618.length co17)) (fun _ hk => hk.2) (.slice Ao19 t621.length co19)) (fun _ hk => hk.2) (.int .i64 a0_4)) (fun _ hk => trivial), by repeat (first | (with_reducible first | exact HB.out | apply below_alloc | apply pw_below_drewN | apply below_drew1 | refine below_set ?_ GE610.out | refine below_set ?_ GE611.out) | exact HB.out)⟩
end
section
/-! ### impl_Guests_expire_1: function 130 -/
def impl_Guests_expire_1.f (a0_0 : Int) (a0_1 : Int) (a0_2 : ByteArray) (a0_3 : Int) (a0_4 : Int) (a0_5 : Int) (a0_6 : Int) (a0_7 : Int) (a0_8 : Int) (a0_9 : Int) (a1 : Int) : Option (Int) := if a0_8 ≤ a1 then (some 3) else (if (wrap64 (a1 - a0_5)) ≥ a0_9 then (some 2) else (some 0))
set_option maxHeartbeats 8000000 in
set_option maxRecDepth 100000 in
theorem impl_Guests_expire_1.calls (q1 : Nat) (a0_0 : Int) (a0_1 : Int) (a0_2 : ByteArray) (a0_3 : Int) (a0_4 : Int) (a0_5 : Int) (a0_6 : Int) (a0_7 : Int) (a0_8 : Int) (a0_9 : Int) (a1 : Int) (r : Int) (w : World) (hq1 : w.cell? ⟨q1, 0, none⟩ = some (.int .i64 a1)) (h : impl_Guests_expire_1.f a0_0 a0_1 a0_2 a0_3 a0_4 a0_5 a0_6 a0_7 a0_8 a0_9 a1 = some r) :
    Calls Tryz.prog 130 #[.agg #[.int .i64 a0_0, .int .i64 a0_1, .string a0_2, .int .i64 a0_3, .int .i64 a0_4, .int .i64 a0_5, .int .i64 a0_6, .int .i64 a0_7, .int .i64 a0_8, .int .i64 a0_9], .pointer (some ⟨q1, 0, none⟩)] w fun e w' => e = .returned (.int .i64 r) ∧ Below w.heap.size w w' := by
  have HQ1 := Aside0.mk hq1
  clear hq1
  have hu76 := Tryz.underlying76
  have HB := Aside0.mk (Below.refl w.heap.size w)
  have H : (if a0_8 ≤ a1 then (some 3) else (if (wrap64 (a1 - a0_5)) ≥ a0_9 then (some 2) else (some 0))) = some r := h
  clear h
  by_cases c3 : a0_8 ≤ a1
  · rw [if_pos c3] at H
    have c3b0 : decide (a0_8 ≤ a1) = true := decide_eq_true c3
    clear c3
    obtain rfl := Option.some.inj H
    have hcq1 := HQ1.out
    go_enter Tryz.func130, Tryz.ntmps130
    go_wp2_with (first | ((with_reducible refine gate_dst (N := 2) rfl ?_); refine box_event ?hg (N := 2) ?hd (cs := #[.int .i64 a0_0, .int .i64 a0_1, .string a0_2, .int .i64 a0_3, .int .i64 a0_4, .int .i64 a0_5, .int .i64 a0_6, .int .i64 a0_7, .int .i64 a0_8, .int .i64 a0_9]) (t := 76) ?hr ?_; (case hd => rfl); (case hg => rfl); (case hr => first | (go_simp; done) | (go_simp; rfl)); intro gb788 hg w4 hbox hb; have n0_ := Aside0.mk (below_step (by repeat (first | (with_reducible first | exact HB.out | apply below_alloc | apply pw_below_drewN | apply below_drew1) | exact HB.out)) hb); have n1_ := Aside0.mk (hbox); have n2_ := Aside0.mk ((by rw [hg]; exact (below_size (by repeat (first | (with_reducible first | exact HB.out | apply below_alloc | apply pw_below_drewN | apply below_drew1) | exact HB.out))) : w.heap.size ≤ gb788)); have n3_ := Aside0.mk ((by rw [hg]; exact (below_size (by repeat (first | (with_reducible first | exact HB.out | apply below_alloc | apply pw_below_drewN | apply below_drew1) | exact HB.out))) : w.heap.size ≤ gb788)); clear HB; have HB := n0_; have hcq1 := (HB.out.cell (World.block_lt_of_cell? w _ HQ1.out)).trans HQ1.out; have BK788 := n1_; have GW788 := n2_; have GE788 := n3_; clear n0_ n1_ n2_ n3_; clear hb hbox hg; have hcz5_0 : w4.cell? ⟨gb788, 0, none⟩ = some (.int .i64 a0_0) := (blk_cell BK788.out 0).trans rfl; have hcz5_1 : w4.cell? ⟨gb788, 1, none⟩ = some (.int .i64 a0_1) := (blk_cell BK788.out 1).trans rfl; have hcz5_2 : w4.cell? ⟨gb788, 2, none⟩ = some (.string a0_2) := (blk_cell BK788.out 2).trans rfl; have hcz5_3 : w4.cell? ⟨gb788, 3, none⟩ = some (.int .i64 a0_3) := (blk_cell BK788.out 3).trans rfl; have hcz5_4 : w4.cell? ⟨gb788, 4, none⟩ = some (.int .i64 a0_4) := (blk_cell BK788.out 4).trans rfl; have hcz5_5 : w4.cell? ⟨gb788, 5, none⟩ = some (.int .i64 a0_5) := (blk_cell BK788.out 5).trans rfl; have hcz5_6 : w4.cell? ⟨gb788, 6, none⟩ = some (.int .i64 a0_6) := (blk_cell BK788.out 6).trans rfl; have hcz5_7 : w4.cell? ⟨gb788, 7, none⟩ = some (.int .i64 a0_7) := (blk_cell BK788.out 7).trans rfl; have hcz5_8 : w4.cell? ⟨gb788, 8, none⟩ = some (.int .i64 a0_8) := (blk_cell BK788.out 8).trans rfl; have hcz5_9 : w4.cell? ⟨gb788, 9, none⟩ = some (.int .i64 a0_9) := (blk_cell BK788.out 9).trans rfl; have hfz5_0 := blk_frozen BK788.out 0; have hfz5_1 := blk_frozen BK788.out 1; have hfz5_2 := blk_frozen BK788.out 2; have hfz5_3 := blk_frozen BK788.out 3; have hfz5_4 := blk_frozen BK788.out 4; have hfz5_5 := blk_frozen BK788.out 5; have hfz5_6 := blk_frozen BK788.out 6; have hfz5_7 := blk_frozen BK788.out 7; have hfz5_8 := blk_frozen BK788.out 8; have hfz5_9 := blk_frozen BK788.out 9))
    go_ret
    exact ⟨by first | rfl | (simp [errW_none, errW_some] <;> rfl) | (simp [*, errW_none, errW_some] <;> rfl), by repeat (first | (with_reducible first | exact HB.out | apply below_alloc | apply pw_below_drewN | apply below_drew1 | refine below_set ?_ GE788.out) | exact HB.out)⟩
  · rw [if_neg c3] at H
    have c3b0 : decide (a0_8 ≤ a1) = false := decide_eq_false c3
    clear c3
    by_cases c6 : (wrap64 (a1 - a0_5)) ≥ a0_9
    · rw [if_pos c6] at H
      have c6b0 : decide (a0_9 ≤ (wrap64 (a1 - a0_5))) = true := decide_eq_true c6
      clear c6
      obtain rfl := Option.some.inj H
      have hcq1 := HQ1.out
      go_enter Tryz.func130, Tryz.ntmps130
      go_wp2_with (first | ((with_reducible refine gate_dst (N := 2) rfl ?_); refine box_event ?hg (N := 2) ?hd (cs := #[.int .i64 a0_0, .int .i64 a0_1, .string a0_2, .int .i64 a0_3, .int .i64 a0_4, .int .i64 a0_5, .int .i64 a0_6, .int .i64 a0_7, .int .i64 a0_8, .int .i64 a0_9]) (t := 76) ?hr ?_; (case hd => rfl); (case hg => rfl); (case hr => first | (go_simp; done) | (go_simp; rfl)); intro gb788 hg w7 hbox hb; have n0_ := Aside0.mk (below_step (by repeat (first | (with_reducible first | exact HB.out | apply below_alloc | apply pw_below_drewN | apply below_drew1) | exact HB.out)) hb); have n1_ := Aside0.mk (hbox); have n2_ := Aside0.mk ((by rw [hg]; exact (below_size (by repeat (first | (with_reducible first | exact HB.out | apply below_alloc | apply pw_below_drewN | apply below_drew1) | exact HB.out))) : w.heap.size ≤ gb788)); have n3_ := Aside0.mk ((by rw [hg]; exact (below_size (by repeat (first | (with_reducible first | exact HB.out | apply below_alloc | apply pw_below_drewN | apply below_drew1) | exact HB.out))) : w.heap.size ≤ gb788)); clear HB; have HB := n0_; have hcq1 := (HB.out.cell (World.block_lt_of_cell? w _ HQ1.out)).trans HQ1.out; have BK788 := n1_; have GW788 := n2_; have GE788 := n3_; clear n0_ n1_ n2_ n3_; clear hb hbox hg; have hcz8_0 : w7.cell? ⟨gb788, 0, none⟩ = some (.int .i64 a0_0) := (blk_cell BK788.out 0).trans rfl; have hcz8_1 : w7.cell? ⟨gb788, 1, none⟩ = some (.int .i64 a0_1) := (blk_cell BK788.out 1).trans rfl; have hcz8_2 : w7.cell? ⟨gb788, 2, none⟩ = some (.string a0_2) := (blk_cell BK788.out 2).trans rfl; have hcz8_3 : w7.cell? ⟨gb788, 3, none⟩ = some (.int .i64 a0_3) := (blk_cell BK788.out 3).trans rfl; have hcz8_4 : w7.cell? ⟨gb788, 4, none⟩ = some (.int .i64 a0_4) := (blk_cell BK788.out 4).trans rfl; have hcz8_5 : w7.cell? ⟨gb788, 5, none⟩ = some (.int .i64 a0_5) := (blk_cell BK788.out 5).trans rfl; have hcz8_6 : w7.cell? ⟨gb788, 6, none⟩ = some (.int .i64 a0_6) := (blk_cell BK788.out 6).trans rfl; have hcz8_7 : w7.cell? ⟨gb788, 7, none⟩ = some (.int .i64 a0_7) := (blk_cell BK788.out 7).trans rfl; have hcz8_8 : w7.cell? ⟨gb788, 8, none⟩ = some (.int .i64 a0_8) := (blk_cell BK788.out 8).trans rfl; have hcz8_9 : w7.cell? ⟨gb788, 9, none⟩ = some (.int .i64 a0_9) := (blk_cell BK788.out 9).trans rfl; have hfz8_0 := blk_frozen BK788.out 0; have hfz8_1 := blk_frozen BK788.out 1; have hfz8_2 := blk_frozen BK788.out 2; have hfz8_3 := blk_frozen BK788.out 3; have hfz8_4 := blk_frozen BK788.out 4; have hfz8_5 := blk_frozen BK788.out 5; have hfz8_6 := blk_frozen BK788.out 6; have hfz8_7 := blk_frozen BK788.out 7; have hfz8_8 := blk_frozen BK788.out 8; have hfz8_9 := blk_frozen BK788.out 9))
      go_ret
      exact ⟨by first | rfl | (simp [errW_none, errW_some] <;> rfl) | (simp [*, errW_none, errW_some] <;> rfl), by repeat (first | (with_reducible first | exact HB.out | apply below_alloc | apply pw_below_drewN | apply below_drew1 | refine below_set ?_ GE788.out) | exact HB.out)⟩
    · rw [if_neg c6] at H
      have c6b0 : decide (a0_9 ≤ (wrap64 (a1 - a0_5))) = false := decide_eq_false c6
      clear c6
      obtain rfl := Option.some.inj H
      have hcq1 := HQ1.out
      go_enter Tryz.func130, Tryz.ntmps130
      go_wp2_with (first | ((with_reducible refine gate_dst (N := 2) rfl ?_); refine box_event ?hg (N := 2) ?hd (cs := #[.int .i64 a0_0, .int .i64 a0_1, .string a0_2, .int .i64 a0_3, .int .i64 a0_4, .int .i64 a0_5, .int .i64 a0_6, .int .i64 a0_7, .int .i64 a0_8, .int .i64 a0_9]) (t := 76) ?hr ?_; (case hd => rfl); (case hg => rfl); (case hr => first | (go_simp; done) | (go_simp; rfl)); intro gb788 hg w9 hbox hb; have n0_ := Aside0.mk (below_step (by repeat (first | (with_reducible first | exact HB.out | apply below_alloc | apply pw_below_drewN | apply below_drew1) | exact HB.out)) hb); have n1_ := Aside0.mk (hbox); have n2_ := Aside0.mk ((by rw [hg]; exact (below_size (by repeat (first | (with_reducible first | exact HB.out | apply below_alloc | apply pw_below_drewN | apply below_drew1) | exact HB.out))) : w.heap.size ≤ gb788)); have n3_ := Aside0.mk ((by rw [hg]; exact (below_size (by repeat (first | (with_reducible first | exact HB.out | apply below_alloc | apply pw_below_drewN | apply below_drew1) | exact HB.out))) : w.heap.size ≤ gb788)); clear HB; have HB := n0_; have hcq1 := (HB.out.cell (World.block_lt_of_cell? w _ HQ1.out)).trans HQ1.out; have BK788 := n1_; have GW788 := n2_; have GE788 := n3_; clear n0_ n1_ n2_ n3_; clear hb hbox hg; have hcz10_0 : w9.cell? ⟨gb788, 0, none⟩ = some (.int .i64 a0_0) := (blk_cell BK788.out 0).trans rfl; have hcz10_1 : w9.cell? ⟨gb788, 1, none⟩ = some (.int .i64 a0_1) := (blk_cell BK788.out 1).trans rfl; have hcz10_2 : w9.cell? ⟨gb788, 2, none⟩ = some (.string a0_2) := (blk_cell BK788.out 2).trans rfl; have hcz10_3 : w9.cell? ⟨gb788, 3, none⟩ = some (.int .i64 a0_3) := (blk_cell BK788.out 3).trans rfl; have hcz10_4 : w9.cell? ⟨gb788, 4, none⟩ = some (.int .i64 a0_4) := (blk_cell BK788.out 4).trans rfl; have hcz10_5 : w9.cell? ⟨gb788, 5, none⟩ = some (.int .i64 a0_5) := (blk_cell BK788.out 5).trans rfl; have hcz10_6 : w9.cell? ⟨gb788, 6, none⟩ = some (.int .i64 a0_6) := (blk_cell BK788.out 6).trans rfl; have hcz10_7 : w9.cell? ⟨gb788, 7, none⟩ = some (.int .i64 a0_7) := (blk_cell BK788.out 7).trans rfl; have hcz10_8 : w9.cell? ⟨gb788, 8, none⟩ = some (.int .i64 a0_8) := (blk_cell BK788.out 8).trans rfl; have hcz10_9 : w9.cell? ⟨gb788, 9, none⟩ = some (.int .i64 a0_9) := (blk_cell BK788.out 9).trans rfl; have hfz10_0 := blk_frozen BK788.out 0; have hfz10_1 := blk_frozen BK788.out 1; have hfz10_2 := blk_frozen BK788.out 2; have hfz10_3 := blk_frozen BK788.out 3; have hfz10_4 := blk_frozen BK788.out 4; have hfz10_5 := blk_frozen BK788.out 5; have hfz10_6 := blk_frozen BK788.out 6; have hfz10_7 := blk_frozen BK788.out 7; have hfz10_8 := blk_frozen BK788.out 8; have hfz10_9 := blk_frozen BK788.out 9))
      go_ret
      exact ⟨by first | rfl | (simp [errW_none, errW_some] <;> rfl) | (simp [*, errW_none, errW_some] <;> rfl), by repeat (first | (with_reducible first | exact HB.out | apply below_alloc | apply pw_below_drewN | apply below_drew1 | refine below_set ?_ GE788.out) | exact HB.out)⟩
end
section
/-! ### impl_Guests_moved_1: function 131 -/
def impl_Guests_moved_1.f (a0_0 : Int) (a0_1 : Int) (a0_2 : ByteArray) (a0_3 : Int) (a0_4 : Int) (a0_5 : Int) (a0_6 : Int) (a0_7 : Int) (a0_8 : Int) (a0_9 : Int) (a1 : ByteArray) (a2 : Int) : Option (Int) := if ((a0_2.toList == a1.toList) != (a0_3 == a2)) = true then (some 5) else (some 0)
set_option maxHeartbeats 8000000 in
set_option maxRecDepth 100000 in
theorem impl_Guests_moved_1.calls (q1 q2 : Nat) (a0_0 : Int) (a0_1 : Int) (a0_2 : ByteArray) (a0_3 : Int) (a0_4 : Int) (a0_5 : Int) (a0_6 : Int) (a0_7 : Int) (a0_8 : Int) (a0_9 : Int) (a1 : ByteArray) (a2 : Int) (r : Int) (w : World) (hq1 : w.cell? ⟨q1, 0, none⟩ = some (.string a1)) (hq2 : w.cell? ⟨q2, 0, none⟩ = some (.int .i64 a2)) (h : impl_Guests_moved_1.f a0_0 a0_1 a0_2 a0_3 a0_4 a0_5 a0_6 a0_7 a0_8 a0_9 a1 a2 = some r) :
    Calls Tryz.prog 131 #[.agg #[.int .i64 a0_0, .int .i64 a0_1, .string a0_2, .int .i64 a0_3, .int .i64 a0_4, .int .i64 a0_5, .int .i64 a0_6, .int .i64 a0_7, .int .i64 a0_8, .int .i64 a0_9], .pointer (some ⟨q1, 0, none⟩), .pointer (some ⟨q2, 0, none⟩)] w fun e w' => e = .returned (.int .i64 r) ∧ Below w.heap.size w w' := by
  have HQ1 := Aside0.mk hq1
  clear hq1
  have HQ2 := Aside0.mk hq2
  clear hq2
  have hu76 := Tryz.underlying76
  have HB := Aside0.mk (Below.refl w.heap.size w)
  have H : (if ((a0_2.toList == a1.toList) != (a0_3 == a2)) = true then (some 5) else (some 0)) = some r := h
  clear h
  by_cases c4 : ((a0_2.toList == a1.toList) != (a0_3 == a2)) = true
  · rw [if_pos c4] at H
    have c4b0 : ((a0_2.toList == a1.toList) != (a0_3 == a2)) = true := c4
    (try (have c4b1 : decide ((a0_2.toList == a1.toList) = (a0_3 == a2)) = false := by simpa using c4))
    (try (have c4b2 : ((a0_2.toList == a1.toList) == (a0_3 == a2)) = false := by simpa using c4))
    (try (have c4b3 : ¬ ((a0_2.toList == a1.toList) = (a0_3 == a2)) := by simpa using c4))
    clear c4
    obtain rfl := Option.some.inj H
    have hcq1 := HQ1.out
    have hcq2 := HQ2.out
    go_enter Tryz.func131, Tryz.ntmps131
    go_wp2_with (first | ((with_reducible refine gate_dst (N := 3) rfl ?_); refine box_event ?hg (N := 3) ?hd (cs := #[.int .i64 a0_0, .int .i64 a0_1, .string a0_2, .int .i64 a0_3, .int .i64 a0_4, .int .i64 a0_5, .int .i64 a0_6, .int .i64 a0_7, .int .i64 a0_8, .int .i64 a0_9]) (t := 76) ?hr ?_; (case hd => rfl); (case hg => rfl); (case hr => first | (go_simp; done) | (go_simp; rfl)); intro gb859 hg w5 hbox hb; have n0_ := Aside0.mk (below_step (by repeat (first | (with_reducible first | exact HB.out | apply below_alloc | apply pw_below_drewN | apply below_drew1) | exact HB.out)) hb); have n1_ := Aside0.mk (hbox); have n2_ := Aside0.mk ((by rw [hg]; exact (below_size (by repeat (first | (with_reducible first | exact HB.out | apply below_alloc | apply pw_below_drewN | apply below_drew1) | exact HB.out))) : w.heap.size ≤ gb859)); have n3_ := Aside0.mk ((by rw [hg]; exact (below_size (by repeat (first | (with_reducible first | exact HB.out | apply below_alloc | apply pw_below_drewN | apply below_drew1) | exact HB.out))) : w.heap.size ≤ gb859)); clear HB; have HB := n0_; have hcq1 := (HB.out.cell (World.block_lt_of_cell? w _ HQ1.out)).trans HQ1.out; have hcq2 := (HB.out.cell (World.block_lt_of_cell? w _ HQ2.out)).trans HQ2.out; have BK859 := n1_; have GW859 := n2_; have GE859 := n3_; clear n0_ n1_ n2_ n3_; clear hb hbox hg; have hcz6_0 : w5.cell? ⟨gb859, 0, none⟩ = some (.int .i64 a0_0) := (blk_cell BK859.out 0).trans rfl; have hcz6_1 : w5.cell? ⟨gb859, 1, none⟩ = some (.int .i64 a0_1) := (blk_cell BK859.out 1).trans rfl; have hcz6_2 : w5.cell? ⟨gb859, 2, none⟩ = some (.string a0_2) := (blk_cell BK859.out 2).trans rfl; have hcz6_3 : w5.cell? ⟨gb859, 3, none⟩ = some (.int .i64 a0_3) := (blk_cell BK859.out 3).trans rfl; have hcz6_4 : w5.cell? ⟨gb859, 4, none⟩ = some (.int .i64 a0_4) := (blk_cell BK859.out 4).trans rfl; have hcz6_5 : w5.cell? ⟨gb859, 5, none⟩ = some (.int .i64 a0_5) := (blk_cell BK859.out 5).trans rfl; have hcz6_6 : w5.cell? ⟨gb859, 6, none⟩ = some (.int .i64 a0_6) := (blk_cell BK859.out 6).trans rfl; have hcz6_7 : w5.cell? ⟨gb859, 7, none⟩ = some (.int .i64 a0_7) := (blk_cell BK859.out 7).trans rfl; have hcz6_8 : w5.cell? ⟨gb859, 8, none⟩ = some (.int .i64 a0_8) := (blk_cell BK859.out 8).trans rfl; have hcz6_9 : w5.cell? ⟨gb859, 9, none⟩ = some (.int .i64 a0_9) := (blk_cell BK859.out 9).trans rfl; have hfz6_0 := blk_frozen BK859.out 0; have hfz6_1 := blk_frozen BK859.out 1; have hfz6_2 := blk_frozen BK859.out 2; have hfz6_3 := blk_frozen BK859.out 3; have hfz6_4 := blk_frozen BK859.out 4; have hfz6_5 := blk_frozen BK859.out 5; have hfz6_6 := blk_frozen BK859.out 6; have hfz6_7 := blk_frozen BK859.out 7; have hfz6_8 := blk_frozen BK859.out 8; have hfz6_9 := blk_frozen BK859.out 9))
    go_ret
    exact ⟨by first | rfl | (simp [errW_none, errW_some] <;> rfl) | (simp [*, errW_none, errW_some] <;> rfl), by repeat (first | (with_reducible first | exact HB.out | apply below_alloc | apply pw_below_drewN | apply below_drew1 | refine below_set ?_ GE859.out) | exact HB.out)⟩
  · rw [if_neg c4] at H
    have c4b0 : ((a0_2.toList == a1.toList) != (a0_3 == a2)) = false := by simpa using c4
    (try (have c4b1 : decide ((a0_2.toList == a1.toList) = (a0_3 == a2)) = true := by simpa using c4))
    (try (have c4b2 : ((a0_2.toList == a1.toList) == (a0_3 == a2)) = true := by simpa using c4))
    clear c4
    obtain rfl := Option.some.inj H
    have hcq1 := HQ1.out
    have hcq2 := HQ2.out
    go_enter Tryz.func131, Tryz.ntmps131
    go_wp2_with (first | ((with_reducible refine gate_dst (N := 3) rfl ?_); refine box_event ?hg (N := 3) ?hd (cs := #[.int .i64 a0_0, .int .i64 a0_1, .string a0_2, .int .i64 a0_3, .int .i64 a0_4, .int .i64 a0_5, .int .i64 a0_6, .int .i64 a0_7, .int .i64 a0_8, .int .i64 a0_9]) (t := 76) ?hr ?_; (case hd => rfl); (case hg => rfl); (case hr => first | (go_simp; done) | (go_simp; rfl)); intro gb859 hg w7 hbox hb; have n0_ := Aside0.mk (below_step (by repeat (first | (with_reducible first | exact HB.out | apply below_alloc | apply pw_below_drewN | apply below_drew1) | exact HB.out)) hb); have n1_ := Aside0.mk (hbox); have n2_ := Aside0.mk ((by rw [hg]; exact (below_size (by repeat (first | (with_reducible first | exact HB.out | apply below_alloc | apply pw_below_drewN | apply below_drew1) | exact HB.out))) : w.heap.size ≤ gb859)); have n3_ := Aside0.mk ((by rw [hg]; exact (below_size (by repeat (first | (with_reducible first | exact HB.out | apply below_alloc | apply pw_below_drewN | apply below_drew1) | exact HB.out))) : w.heap.size ≤ gb859)); clear HB; have HB := n0_; have hcq1 := (HB.out.cell (World.block_lt_of_cell? w _ HQ1.out)).trans HQ1.out; have hcq2 := (HB.out.cell (World.block_lt_of_cell? w _ HQ2.out)).trans HQ2.out; have BK859 := n1_; have GW859 := n2_; have GE859 := n3_; clear n0_ n1_ n2_ n3_; clear hb hbox hg; have hcz8_0 : w7.cell? ⟨gb859, 0, none⟩ = some (.int .i64 a0_0) := (blk_cell BK859.out 0).trans rfl; have hcz8_1 : w7.cell? ⟨gb859, 1, none⟩ = some (.int .i64 a0_1) := (blk_cell BK859.out 1).trans rfl; have hcz8_2 : w7.cell? ⟨gb859, 2, none⟩ = some (.string a0_2) := (blk_cell BK859.out 2).trans rfl; have hcz8_3 : w7.cell? ⟨gb859, 3, none⟩ = some (.int .i64 a0_3) := (blk_cell BK859.out 3).trans rfl; have hcz8_4 : w7.cell? ⟨gb859, 4, none⟩ = some (.int .i64 a0_4) := (blk_cell BK859.out 4).trans rfl; have hcz8_5 : w7.cell? ⟨gb859, 5, none⟩ = some (.int .i64 a0_5) := (blk_cell BK859.out 5).trans rfl; have hcz8_6 : w7.cell? ⟨gb859, 6, none⟩ = some (.int .i64 a0_6) := (blk_cell BK859.out 6).trans rfl; have hcz8_7 : w7.cell? ⟨gb859, 7, none⟩ = some (.int .i64 a0_7) := (blk_cell BK859.out 7).trans rfl; have hcz8_8 : w7.cell? ⟨gb859, 8, none⟩ = some (.int .i64 a0_8) := (blk_cell BK859.out 8).trans rfl; have hcz8_9 : w7.cell? ⟨gb859, 9, none⟩ = some (.int .i64 a0_9) := (blk_cell BK859.out 9).trans rfl; have hfz8_0 := blk_frozen BK859.out 0; have hfz8_1 := blk_frozen BK859.out 1; have hfz8_2 := blk_frozen BK859.out 2; have hfz8_3 := blk_frozen BK859.out 3; have hfz8_4 := blk_frozen BK859.out 4; have hfz8_5 := blk_frozen BK859.out 5; have hfz8_6 := blk_frozen BK859.out 6; have hfz8_7 := blk_frozen BK859.out 7; have hfz8_8 := blk_frozen BK859.out 8; have hfz8_9 := blk_frozen BK859.out 9))
    go_ret
    exact ⟨by first | rfl | (simp [errW_none, errW_some] <;> rfl) | (simp [*, errW_none, errW_some] <;> rfl), by repeat (first | (with_reducible first | exact HB.out | apply below_alloc | apply pw_below_drewN | apply below_drew1 | refine below_set ?_ GE859.out) | exact HB.out)⟩
end
section
-- NEEDS laws.eqConfig
-- IMPORT Derived.Shelf.RegionOpenPlain
-- IMPORT Derived.Deep.RegionLaw
-- IMPORT Derived.Lib.OwnBridge
open Go.Lib
open Go.Lib (lay lay_get? putRow_setCells)
open Go.Sort (Holds putRow putCells mapBlock onCells) 
theorem clear_cells {P : Program} (w : World) (t e ty : TypeId) (z : Value) (ht : P.underlying t = some (.slice e)) (hv : ∀ w, (zeroValue e).run P w = .ok z w) (h1 : ∀ v ∈ z.cells.toList, v.oneCell' = true) (b o n c : Nat) (hn : 0 < n)
    (hc : ∀ j, j < n * z.cells.size → (w.cell? ⟨b, o + j, none⟩).isSome = true) (hf : ∀ j, j < n * z.cells.size → w.frozen? ⟨b, o + j, none⟩ = false) :
    (Builtin.clear_ #[t] ty #[.slice (some ⟨b, o, none⟩) n c]).run P w = .ok (.tuple #[]) (w.setCells b o (Builtin.zeroCells z.cells n).toList) := by
  have hlen : (Builtin.zeroCells z.cells n).toList.length = n * z.cells.size := by simp [Builtin.zeroCells]
  have hst := run_storeCells_cells (P := P) b o (Builtin.zeroCells z.cells n).toList 0 w (by simpa [hlen] using hc) (by simpa [hlen] using hf) (by
    intro v hv'
    simp only [Builtin.zeroCells, Array.toList_map, List.mem_map, Array.toList_range, List.mem_range] at hv'
    obtain ⟨i, hi, rfl⟩ := hv'
    have hp : 0 < z.cells.size := Nat.pos_of_ne_zero (fun e => by rw [e] at hi; omega)
    have hm : i % z.cells.size < z.cells.size := Nat.mod_lt _ hp
    rw [getElem!_pos z.cells _ hm]
    exact h1 _ (by simp))
  simp only [Nat.add_zero] at hst
  obtain ⟨m, rfl⟩ : ∃ m, n = m + 1 := ⟨n - 1, by omega⟩
  simp [Builtin.clear_, run_underlying ht, hv, hst]
/-- The cells of a row of elements. -/
def flatC {α : Type} (enc : α → List Value) (l : List α) : List Value := l.flatMap enc
theorem flatC_length {α : Type} {enc : α → List Value} {s : Nat} (he : ∀ x, (enc x).length = s) : ∀ l : List α, (flatC enc l).length = l.length * s
  | [] => by simp [flatC]
  | x :: l => by
    have := flatC_length he l
    rw [flatC] at this ⊢
    rw [List.flatMap_cons, List.length_append, he, this, List.length_cons, Nat.add_mul, Nat.one_mul, Nat.add_comm]
theorem flatC_append {α : Type} (enc : α → List Value) (l m : List α) : flatC enc (l ++ m) = flatC enc l ++ flatC enc m := List.flatMap_append
theorem flatC_at {α : Type} {enc : α → List Value} {s : Nat} (he : ∀ x, (enc x).length = s) (l : List α) (j c : Nat) (hj : j < l.length) (hc : c < s) : (flatC enc l)[j * s + c]? = (enc l[j])[c]? := by
  have hsp : l = l.take j ++ l[j] :: l.drop (j + 1) := by rw [← List.drop_eq_getElem_cons hj, List.take_append_drop]
  have hl : (flatC enc (l.take j)).length = j * s := by rw [flatC_length he, List.length_take, Nat.min_eq_left (by omega)]
  have h2 : flatC enc l = flatC enc (l.take j) ++ (enc l[j] ++ flatC enc (l.drop (j + 1))) := by
    conv => lhs; rw [hsp, flatC_append]
    rfl
  rw [h2, List.getElem?_append_right (by omega), hl, show j * s + c - j * s = c by omega, List.getElem?_append_left (by rw [he]; exact hc)]
def encS (x : S76) : List Value := [.int .i64 x.f0, .int .i64 x.f1, .string x.f2, .int .i64 x.f3, .int .i64 x.f4, .int .i64 x.f5, .int .i64 x.f6, .int .i64 x.f7, .int .i64 x.f8, .int .i64 x.f9]
theorem encS_len (x : S76) : (encS x).length = 10 := rfl
instance : Inhabited S76 := ⟨z76⟩
structure RowS (W : World) (blk cap : Nat) (D : List S76) : Prop where
  ex : ∃ cur : Array Value, W.heap[blk]? = some (.cells cur 76 (0, 0)) ∧ cur.size = cap * 10 ∧ cur.toList.take (D.length * 10) = flatC encS D
theorem RowS.cell {W : World} {blk cap : Nat} {D : List S76} (h : RowS W blk cap D) (j c : Nat) (hj : j < D.length) (hc : c < 10) : W.cell? ⟨blk, j * 10 + c, none⟩ = (encS D[j])[c]? := by
  obtain ⟨cur, h1, h2, h3⟩ := h.ex
  rw [blk_cell h1, ← flatC_at encS_len D j c hj hc, ← h3, List.getElem?_take, if_pos (by omega), Array.getElem?_toList]
theorem RowS.below {W W' : World} {blk cap : Nat} {D : List S76} (h : RowS W blk cap D) (hb : Below W.heap.size W W') : RowS W' blk cap D := by
  obtain ⟨cur, h1, h2, h3⟩ := h.ex
  exact ⟨cur, blk_below h1 hb, h2, h3⟩
theorem RowS.frozen {W : World} {blk cap : Nat} {D : List S76} (h : RowS W blk cap D) (i : Nat) : W.frozen? ⟨blk, i, none⟩ = false := by
  obtain ⟨cur, h1, h2, h3⟩ := h.ex
  exact blk_frozen h1 i
theorem RowS.lt {W : World} {blk cap : Nat} {D : List S76} (h : RowS W blk cap D) : blk < W.heap.size := by
  obtain ⟨cur, h1, h2, h3⟩ := h.ex
  exact blk_lt h1
theorem flatS_take (D : List S76) (i : Nat) (h : i ≤ D.length) : (flatC encS D).take (i * 10) = flatC encS (D.take i) := by
  conv => lhs; rw [← List.take_append_drop i D, flatC_append]
  exact List.take_left' (by rw [flatC_length encS_len, List.length_take, Nat.min_eq_left h])
theorem RowS.cut {W : World} {blk cap : Nat} {D : List S76} (h : RowS W blk cap D) (hcap : D.length ≤ cap) (i : Nat) (hi : i ≤ D.length) (xs : List Value) (hx : xs.length = (D.length - i) * 10) : RowS (W.setCells blk (i * 10) xs) blk cap (D.take i) := by
  obtain ⟨cur, h1, h2, h3⟩ := h.ex
  obtain ⟨cur', e1, e2, e3⟩ := setCells_row xs (i * 10) W cur h1 (by omega)
  refine ⟨cur', e1, by omega, ?_⟩
  rw [List.length_take, Nat.min_eq_left hi, e3, List.append_assoc, List.take_left' (by rw [List.length_take, Array.length_toList]; omega), ← flatS_take D i hi, ← h3, List.take_take, Nat.min_eq_left (by omega)]
structure KB (w W : World) (g : Nat) : Prop where
  keep : KeepBut w W g none
  bel : Below g w W
  le : g ≤ W.heap.size
theorem KB.refl {w : World} {g : Nat} (h : g < w.heap.size) : KB w w g := ⟨KeepBut.refl _ _ _, Below.refl _ _, Nat.le_of_lt h⟩
theorem KB.step {w W W2 : World} {g : Nat} (h : KB w W g) (k : Below W.heap.size W W2) : KB w W2 g := ⟨h.keep.trans (KeepBut.of_below k g none) (.inl rfl), below_then h.bel h.le k, Nat.le_trans h.le k.size⟩
theorem KB.set_ {w W : World} {g : Nat} (h : KB w W g) (j : Nat) (u : Value) : KB w (W.setCell ⟨g, j, none⟩ u) g := ⟨h.keep.set_ j u, h.bel.setCell (Nat.le_refl g) _, by simpa [World.setCell] using h.le⟩
theorem KB.sets {g : Nat} : ∀ (vs : List Value) (o : Nat) {w W : World}, KB w W g → KB w (W.setCells g o vs) g
  | [], _, _, _, h => h
  | u :: vs, o, _, _, h => KB.sets vs (o + 1) (h.set_ o u)
theorem encS_reps {R : S76 → List Value → Prop} (hR : ∀ x cs, R x cs → cs = encS x) {l : List S76} {cs : List Value} (h : Reps R 10 l cs) : cs = flatC encS l := by
  apply List.ext_getElem?
  intro i
  have h1 := h.1
  have hf := flatC_length encS_len l
  rcases Nat.lt_or_ge i (l.length * 10) with hi | hi
  · have hq : i / 10 < l.length := by omega
    have hc := h.2 (i / 10) l[i / 10] (List.getElem?_eq_getElem hq)
    have he := congrArg (fun z => z[i % 10]?) (hR _ _ hc)
    simp only [List.getElem?_take, List.getElem?_drop] at he
    rw [if_pos (by omega), ← flatC_at encS_len l (i / 10) (i % 10) hq (by omega), show i / 10 * 10 + i % 10 = i by omega] at he
    exact he
  · rw [List.getElem?_eq_none (by omega), List.getElem?_eq_none (by omega)]
theorem reps_encS {R : S76 → List Value → Prop} (hR : ∀ x, R x (encS x)) (l : List S76) : Reps R 10 l (flatC encS l) := by
  refine ⟨flatC_length encS_len l, fun j p hj => ?_⟩
  obtain ⟨hlt, rfl⟩ := List.getElem?_eq_some_iff.1 hj
  have e : ((flatC encS l).drop (j * 10)).take 10 = encS l[j] := by
    apply List.ext_getElem?
    intro c
    rw [List.getElem?_take]
    by_cases hc : c < 10
    · rw [if_pos hc, List.getElem?_drop, flatC_at encS_len l j c hlt hc]
    · rw [if_neg hc, List.getElem?_eq_none (by rw [encS_len]; omega)]
  rw [e]
  exact hR _
theorem RowS.of_R {w : World} {base : Nat} {ok : Nat → Prop} {v : Value} {l : List S76} (h : Kd.R k76 76 w base ok v l) (hn : 0 < l.length) :
    ∃ g cap, v = .slice (some ⟨g, 0, none⟩) l.length cap ∧ base ≤ g ∧ RowS w g cap l ∧ l.length ≤ cap ∧ cap ≤ 9223372036854775807 ∧ ok g := by
  obtain ⟨h0, inner, ho, hr⟩ := h
  have hi := encS_reps (fun x cs hx => k76_openM hx) hr
  rcases ho.2 with ⟨_, e0⟩ | ⟨g, cap, cur, rfl, hb, hg, hnc, hm, hs, ht⟩
  · omega
  · refine ⟨g, cap, rfl, hb, ⟨cur, hg, hs, ?_⟩, hnc, ?_, h0 g rfl⟩
    · rw [← hi]; exact ht
    · simpa [maxLen] using hm
theorem RowS.toR {w : World} {base g cap : Nat} {ok : Nat → Prop} {l : List S76} (h : RowS w g cap l) (hb : base ≤ g) (hc : l.length ≤ cap) (hm : cap ≤ 9223372036854775807) (hok : ok g) :
    Kd.R k76 76 w base ok (.slice (some ⟨g, 0, none⟩) l.length cap) l := by
  obtain ⟨cur, h1, h2, h3⟩ := h.ex
  refine ⟨fun k hk => ?_, flatC encS l, ⟨flatC_length encS_len l, .inr ⟨g, cap, cur, rfl, hb, h1, hc, by simpa [maxLen] using hm, h2, h3⟩⟩, reps_encS (fun x => k76_mkM _ _ _ x) l⟩
  obtain rfl : g = k := by simpa [Value.ownBlock] using hk
  exact hok
theorem flatS_drop (D : List S76) (i : Nat) (h : i ≤ D.length) : (flatC encS D).drop (i * 10) = flatC encS (D.drop i) := by
  conv => lhs; rw [← List.take_append_drop i D, flatC_append]
  exact List.drop_left' (by rw [flatC_length encS_len, List.length_take, Nat.min_eq_left h])
theorem RowS.sets {W : World} {blk cap : Nat} {D : List S76} (h : RowS W blk cap D) (hcap : D.length ≤ cap) (i : Nat) (us : List S76) (hi : i + us.length ≤ D.length) : RowS (W.setCells blk (i * 10) (flatC encS us)) blk cap (D.take i ++ us ++ D.drop (i + us.length)) := by
  obtain ⟨cur, h1, h2, h3⟩ := h.ex
  have hu := flatC_length encS_len us
  obtain ⟨cur', e1, e2, e3⟩ := setCells_row (flatC encS us) (i * 10) W cur h1 (by omega)
  refine ⟨cur', e1, by omega, ?_⟩
  have hlen : (D.take i ++ us ++ D.drop (i + us.length)).length = D.length := by simp; omega
  rw [hlen, e3, flatC_append, flatC_append, ← flatS_take D i (by omega), ← flatS_drop D (i + us.length) hi, ← h3, hu]
  apply List.ext_getElem?
  intro j
  have hl1 : (cur.toList.take (i * 10)).length = i * 10 := by rw [List.length_take, Array.length_toList]; omega
  have hl2 : ((cur.toList.take (D.length * 10)).take (i * 10)).length = i * 10 := by rw [List.length_take, List.length_take, Array.length_toList (xs := cur)]; omega
  rw [List.getElem?_take]
  rcases Nat.lt_or_ge j (i * 10) with hj | hj
  · rw [if_pos (by omega), List.getElem?_append_left (by rw [List.length_append, hl1]; omega), List.getElem?_append_left (by rw [hl1]; omega), List.getElem?_append_left (by rw [List.length_append, hl2]; omega), List.getElem?_append_left (by rw [hl2]; omega), List.getElem?_take, List.getElem?_take, List.getElem?_take, if_pos hj, if_pos hj, if_pos (by omega)]
  rcases Nat.lt_or_ge j ((i + us.length) * 10) with hj2 | hj2
  · rw [if_pos (by omega), List.getElem?_append_left (by rw [List.length_append, hl1, hu]; omega), List.getElem?_append_right (by rw [hl1]; omega), List.getElem?_append_left (by rw [List.length_append, hl2, hu]; omega), List.getElem?_append_right (by rw [hl2]; omega), hl1, hl2]
  · rw [List.getElem?_append_right (by rw [List.length_append, hl1, hu]; omega), List.getElem?_append_right (by rw [List.length_append, hl2, hu]; omega), List.length_append, List.length_append, hl1, hl2, hu, List.getElem?_drop, List.getElem?_drop, List.getElem?_take]
    rw [show i * 10 + us.length * 10 + (j - (i * 10 + us.length * 10)) = j by omega, show (i + us.length) * 10 + (j - (i * 10 + us.length * 10)) = j by omega]
set_option maxHeartbeats 4000000 in
set_option maxRecDepth 1000000 in
theorem delAtS (blk cap : Nat) (l : List S76) (i j : Nat) (hj1 : j = i + 1) (w : World) (hi : i < l.length) (hr : RowS w blk cap l) (hln : l.length ≤ cap) (hcm : cap ≤ 9223372036854775807) :
    Calls Tryz.prog 126 #[.slice (some ⟨blk, 0, none⟩) l.length cap, .int .i64 i, .int .i64 (j : Nat)] w fun e w' => e = .returned (.slice (some ⟨blk, 0, none⟩) (l.length - 1) cap) ∧ KB w w' blk ∧ RowS w' blk cap (l.eraseIdx i) := by
  obtain ⟨i0, hi0, hz9⟩ : ∃ i0, Tryz.prog.info? 76 = some i0 ∧ i0.size = 10 := by
    obtain ⟨i0, h0, h1⟩ := Option.map_eq_some_iff.1 info76
    exact ⟨i0, h0, by injection h1 with _ h2; injection h2⟩
  obtain ⟨news, hnews⟩ : ∃ news, news = flatC encS (l.drop j) := ⟨_, rfl⟩
  have hlen : news.length = (l.length - j) * 10 := by rw [hnews, flatC_length encS_len, List.length_drop]
  obtain ⟨A, hA, hsrc⟩ : ∃ A : Addr, (if cap = j then (some (⟨blk, 0, none⟩ : Addr)) else some ⟨blk, j * 10, none⟩) = some A ∧ Hid (∀ t u, news[t]? = some u → w.drew.cell? (A.add t) = some u) := by
    by_cases h : cap = j
    · refine ⟨⟨blk, 0, none⟩, by simp [h], fun t u hu => ?_⟩
      have h0 : news.length = 0 := by rw [hlen]; omega
      rw [List.length_eq_zero_iff.1 h0] at hu
      simp at hu
    · refine ⟨⟨blk, j * 10, none⟩, by simp [h], fun t u hu => ?_⟩
      have ht : t < (l.length - j) * 10 := by
        have := (List.getElem?_eq_some_iff.1 hu).1
        rwa [hlen] at this
      have hq : t / 10 < l.length - j := by omega
      have e1 := flatC_at encS_len (l.drop j) (t / 10) (t % 10) (by rw [List.length_drop]; exact hq) (by omega)
      rw [show t / 10 * 10 + t % 10 = t by omega, ← hnews, hu] at e1
      have e2 := hr.cell (j + t / 10) (t % 10) (by omega) (by omega)
      rw [Addr.add_lit, show j * 10 + t = (j + t / 10) * 10 + t % 10 by omega]
      show w.cell? _ = _
      rw [e2, e1]
      congr 2
      rw [List.getElem_drop]
  have s2 : Hid (∀ u ∈ news, u.oneCell' = true) := by
    intro u hu
    rw [hnews] at hu
    obtain ⟨x, _, hx⟩ := List.mem_flatMap.1 hu
    simp [encS] at hx
    rcases hx with rfl | rfl | rfl | rfl | rfl | rfl | rfl | rfl | rfl | rfl <;> rfl
  have s3 : Hid (∀ t, t < news.length → (w.drew.cell? ⟨blk, 0 + i * 10 + t, none⟩).isSome = true ∧ w.drew.frozen? ⟨blk, 0 + i * 10 + t, none⟩ = false) := by
    intro t ht
    rw [hlen] at ht
    have e2 := hr.cell (i + t / 10) (t % 10) (by omega) (by omega)
    refine ⟨?_, hr.frozen _⟩
    show (w.cell? _).isSome = true
    rw [show 0 + i * 10 + t = (i + t / 10) * 10 + t % 10 by omega, e2, List.getElem?_eq_getElem (by rw [encS_len]; omega)]
    rfl
  obtain ⟨W1, hW1⟩ : ∃ W1, W1 = w.drew.setCells blk (0 + i * 10) news := ⟨_, rfl⟩
  have hrd : RowS w.drew blk cap l := ⟨hr.ex⟩
  have hR1 := hrd.sets hln i (l.drop j) (by rw [List.length_drop]; omega)
  rw [← hnews, ← Nat.zero_add (i * 10), ← hW1] at hR1
  obtain ⟨L1, hL1⟩ : ∃ L1, L1 = l.take i ++ l.drop j ++ l.drop (i + (l.drop j).length) := ⟨_, rfl⟩
  rw [← hL1] at hR1
  have hl1 : L1.length = l.length := by rw [hL1]; simp; omega
  have hK1 : KB w W1 blk := by
    rw [hW1]
    exact KB.sets news (0 + i * 10) ((KB.refl hr.lt).step (below_drew (Below.refl _ _)))
  have hcl : ∀ ty, (Builtin.clear_ #[44] ty #[.slice (some ⟨blk, (l.length - 1) * 10, none⟩) (l.length - (l.length - 1)) (cap - (l.length - 1))]).run Tryz.prog W1 = .ok (.tuple #[]) (W1.setCells blk ((l.length - 1) * 10) (Builtin.zeroCells (Value.agg #[.int .i64 0, .int .i64 0, .string ⟨#[]⟩, .int .i64 0, .int .i64 0, .int .i64 0, .int .i64 0, .int .i64 0, .int .i64 0, .int .i64 0]).cells (l.length - (l.length - 1))).toList) := fun ty => by
    obtain ⟨cur, h1, h2, h3⟩ := hR1.ex
    refine clear_cells W1 44 76 ty _ Tryz.underlying44 Tryz.zeroValue76 ?_ blk ((l.length - 1) * 10) _ _ (by omega) (fun t ht => ?_) (fun t ht => hR1.frozen _)
    · intro v hv
      simp [Value.cells] at hv
      rcases hv with rfl | rfl | rfl <;> rfl
    · have ht' : t < (l.length - (l.length - 1)) * 10 := ht
      rw [blk_cell h1, Array.getElem?_eq_getElem (by omega)]
      rfl
  have hK' := KB.sets (Builtin.zeroCells (Value.agg #[.int .i64 0, .int .i64 0, .string ⟨#[]⟩, .int .i64 0, .int .i64 0, .int .i64 0, .int .i64 0, .int .i64 0, .int .i64 0, .int .i64 0]).cells (l.length - (l.length - 1))).toList ((l.length - 1) * 10) hK1
  have hR' := hR1.cut (by omega) (l.length - 1) (by omega) (Builtin.zeroCells (Value.agg #[.int .i64 0, .int .i64 0, .string ⟨#[]⟩, .int .i64 0, .int .i64 0, .int .i64 0, .int .i64 0, .int .i64 0, .int .i64 0, .int .i64 0]).cells (l.length - (l.length - 1))).toList (by rw [hl1]; simp [Builtin.zeroCells, Value.cells])
  have hE : L1.take (l.length - 1) = l.eraseIdx i := by
    rw [hL1, List.take_left' (by simp; omega), List.eraseIdx_eq_take_drop_succ, hj1]
  rw [hE] at hR'
  have HF := Aside0.mk (And.intro hK' hR')
  have hW : Hid (W1 = w.drew.setCells blk (0 + i * 10) news) := hW1
  have s1 : Hid (news.length = (l.length - j) * 10) := hlen
  have hic : i ≤ cap := by omega
  have hjc : j ≤ cap := by omega
  have hij : ((i : Int) == ((j : Nat) : Int)) = false := beq_eq_false_iff_ne.2 (by omega)
  have hrm : i + (l.length - j) ≤ cap := by omega
  have hpl : i + (l.length - j) = l.length - 1 := by omega
  have hl0 : 1 ≤ l.length := by omega
  have mixed : Tryz.prog.follows .mixedOrders = true := by kernel_rfl
  have hjl : j ≤ l.length := by omega
  have HJ := Aside0.mk hj1
  clear hj1
  clear hE hR' hK' hK1 hR1 hl1 hL1 hrd hW1 hlen hnews hr
  go_enter Tryz.func126, Tryz.ntmps126
  go_wp2_with fail
  go_region_law_o (refine step_append_room rfl (.tmp 22) (.tmp 25) 44 rfl 76 i0 10 Tryz.underlying44 hi0 hz9 blk 0 i cap (by simp [Act.eval, Act.put]) A (l.length - j) (cap - j) news (by simp [Act.eval, Act.put]) s1.out hsrc.out s2.out (by omega) s3.out ?_; rw [← hW.out])
  go_wp2
  go_ret
  exact ⟨rfl, HF.out⟩
end
section
/-! ### laws_markText: function 127 -/
def laws_markText.l0 : Nat → Int → ByteArray → Option (ByteArray)
  | 0, _, _ => none
  | k + 1, x0, x3 => if x0 > 0 then ((some (([(wrap64 (48 + (Int.tmod x0 10))) % 256] : List Int) : List Int)).bind fun y631 => (if (strOfNums y631).size + x3.size ≤ 9223372036854775807 then (laws_markText.l0 k (wrap64 (Int.tdiv x0 10)) ((strOfNums y631) ++ x3)) else (none))) else (if 1 + x3.size ≤ 9223372036854775807 then (some ((⟨#[109]⟩ : ByteArray) ++ x3)) else (none))
def laws_markText.f (k : Nat) (a0 : Int) : Option (ByteArray) := if a0 ≤ 0 then (some (⟨#[109, 48]⟩ : ByteArray)) else (laws_markText.l0 k a0 (⟨#[]⟩ : ByteArray))
theorem laws_markText.mono_l : ∀ k, (∀ y0 y1, LeO (laws_markText.l0 k y0 y1) (laws_markText.l0 (k + 1) y0 y1))
  | 0 => fun _ _ r h => by simp [laws_markText.l0] at h
  | k + 1 => by
    have ih0 := laws_markText.mono_l k
    · intro y0 y1
      unfold laws_markText.l0
      repeat' first
      | (with_reducible exact ih0 _ _)
      | (with_reducible exact LeO.refl _)
      | (with_reducible exact LeO.none _)
      | (with_reducible refine LeO.ite ?_ ?_)
      | (with_reducible refine LeO.bind ?_ (fun _ => ?_))
      | exact ih0 _ _
      | exact LeO.none _
      | refine LeO.ite ?_ ?_
      | refine LeO.bind ?_ (fun _ => ?_)
theorem laws_markText.mono : ∀ a0 k, LeO (laws_markText.f k a0) (laws_markText.f (k + 1) a0) := by
  intro a0 k
  have ih0 := laws_markText.mono_l k
  unfold laws_markText.f
  repeat' first
      | (with_reducible exact ih0 _ _)
      | (with_reducible exact LeO.refl _)
      | (with_reducible exact LeO.none _)
      | (with_reducible refine LeO.ite ?_ ?_)
      | (with_reducible refine LeO.bind ?_ (fun _ => ?_))
      | exact ih0 _ _
      | exact LeO.none _
      | refine LeO.ite ?_ ?_
      | refine LeO.bind ?_ (fun _ => ?_)
set_option maxHeartbeats 8000000 in
set_option maxRecDepth 100000 in
theorem laws_markText.calls (k : Nat) (a0 : Int) (r : ByteArray) (w : World) (h : laws_markText.f k a0 = some r) :
    Calls Tryz.prog 127 #[.int .i64 a0] w fun e w' => e = .returned (.string r) ∧ Below w.heap.size w w' := by
  have HB := Aside0.mk (Below.refl w.heap.size w)
  have H : (if a0 ≤ 0 then (some (⟨#[109, 48]⟩ : ByteArray)) else (laws_markText.l0 k a0 (⟨#[]⟩ : ByteArray))) = some r := h
  clear h
  by_cases c2 : a0 ≤ 0
  · rw [if_pos c2] at H
    have c2b0 : decide (a0 ≤ 0) = true := decide_eq_true c2
    clear c2
    obtain rfl := Option.some.inj H
    go_enter Tryz.func127, Tryz.ntmps127
    go_wp2
    go_ret
    exact ⟨by first | rfl | (simp [errW_none, errW_some] <;> rfl) | (simp [*, errW_none, errW_some] <;> rfl), by repeat (first | (with_reducible first | exact HB.out | apply below_alloc | apply pw_below_drewN | apply below_drew1) | exact HB.out)⟩
  · rw [if_neg c2] at H
    have c2b0 : decide (a0 ≤ 0) = false := decide_eq_false c2
    clear c2
    have H' := Aside0.mk H
    clear H
    go_enter Tryz.func127, Tryz.ntmps127
    go_wp2
    go_loopg [0, 3] k (fun kq v0 v3 w' => ∃ (x0_1 : Int) (x3_1 : ByteArray), v0 = .int .i64 x0_1 ∧ v3 = .string x3_1 ∧ Aside0 (laws_markText.l0 kq x0_1 x3_1 = some r) ∧ Aside0 (kq ≤ k) ∧ Aside0 (Below w.heap.size w w'))
    case atStart => exact ⟨(a0), ((⟨#[]⟩ : ByteArray)), (by first | rfl | (simp; done) | (simp [*]; done) | (simp [ne_nil_b]; done) | (simp [ne_nil_b, *]; done)), (by first | rfl | (simp; done) | (simp [*]; done) | (simp [ne_nil_b]; done) | (simp [ne_nil_b, *]; done)), H', ⟨Nat.le_refl _⟩, ⟨by repeat (first | (with_reducible first | exact HB.out | apply below_alloc | apply pw_below_drewN | apply below_drew1) | exact HB.out)⟩⟩
    case round =>
      clear H'
      try clear c1
      try clear c2
      try clear c2b0
      try clear p2
      obtain ⟨x0_1, x3_1, rfl, rfl, HA, HK1, HB⟩ := hrel
      cases gk with
      | zero => exact absurd HA.out (by simp [laws_markText.l0])
      | succ k1 =>
        have H := HA.out
        clear HA
        simp only [laws_markText.l0] at H
        by_cases c3 : x0_1 > 0
        · rw [if_pos c3] at H
          have c3b0 : decide (0 < x0_1) = true := decide_eq_true c3
          clear c3
          obtain ⟨y631, hy631⟩ : ∃ y_ : List Int, y_ = (([(wrap64 (48 + (Int.tmod x0_1 10))) % 256] : List Int)) := ⟨_, rfl⟩
          replace H : (if (strOfNums y631).size + x3_1.size ≤ 9223372036854775807 then (laws_markText.l0 k1 (wrap64 (Int.tdiv x0_1 10)) ((strOfNums y631) ++ x3_1)) else (none)) = some r := by first | (rw [hy631]; with_reducible exact H) | (have H2_ := (Option.bind_some _ _).symm.trans H; rw [hy631]; with_reducible exact H2_) | (have H2_ := (Option.bind_some _ _).symm.trans H; with_reducible exact H2_) | with_reducible exact H | (rw [hy631]; exact H) | exact H
          have Ny631 := Aside0.mk hy631
          clear hy631
          by_cases c4 : (strOfNums y631).size + x3_1.size ≤ 9223372036854775807
          · rw [if_pos c4] at H
            have c4b0 := eq_true c4
            have c4b1 : decide ((strOfNums y631).size + x3_1.size ≤ 9223372036854775807) = true := decide_eq_true c4
            try have c4b2 : (9223372036854775807 < (strOfNums y631).size + x3_1.size) = False := eq_false (Nat.not_lt.2 c4)
            have H' := Aside0.mk H
            clear H
            go_wp2_with (first | ((with_reducible refine gate_dst (N := 12) rfl ?_); refine Kd.R_lit (Kd.int .u8) _ 5 ?hg (N := 12) ?hd (xs := ([(wrap64 (48 + (Int.tmod x0_1 10))) % 256] : List Int)) (inner := [.int .u8 ((wrap64 (48 + (Int.tmod x0_1 10))) % 256)]) (ok := fun _ => True) (okp := fun _ => True) ?hr ?hp (fun _ hk => hk) trivial (Below.refl _ _) (Nat.le_refl _) (by simp) ?_; (case hd => rfl); (case hg => rfl); (case hr => first | (go_simp; done) | (go_simp; rfl)); (case hp => exact (Reps.one (show Kd.M (Kd.int .u8) _ _ _ ((wrap64 (48 + (Int.tmod x0_1 10))) % 256) [.int .u8 ((wrap64 (48 + (Int.tmod x0_1 10))) % 256)] from rfl) (Reps.none _ _))); intro v632 w5 ho6 hb hg_ hnew_; clear hg_ hnew_; (first | rw [← Ny631.out] at ho6 | (simp only [Int.reduceToNat] at ho6; rw [← Ny631.out] at ho6)); have n0_ := Aside0.mk (Kd.R_lower ho6 (below_size (by repeat (first | (with_reducible first | exact HB.out | apply below_alloc | apply pw_below_drewN | apply below_drew1) | exact HB.out)))); have n1_ := Aside0.mk (below_step (by repeat (first | (with_reducible first | exact HB.out | apply below_alloc | apply pw_below_drewN | apply below_drew1) | exact HB.out)) hb); clear HB; have HO633 := n0_; have HB := n1_; clear n0_ n1_; clear hb ho6; have hcv7 := own_string (P := Tryz.prog) Tryz.underlying190 Tryz.underlying5 Tryz.underlying9 (Kd.own_of_R HO633.out)))
            go_roundg k1
            case measure => have := HK1.out; omega
            case rel => exact ⟨(wrap64 (Int.tdiv x0_1 10)), ((strOfNums y631) ++ x3_1), (by first | rfl | (simp; done) | (simp [*]; done) | (simp [ne_nil_b]; done) | (simp [ne_nil_b, *]; done)), (by first | rfl | (simp; done) | (simp [*]; done) | (simp [ne_nil_b]; done) | (simp [ne_nil_b, *]; done)), H', ⟨by have := HK1.out; omega⟩, ⟨by repeat (first | (with_reducible first | exact HB.out | apply below_alloc | apply pw_below_drewN | apply below_drew1) | exact HB.out)⟩⟩
          · rw [if_neg c4] at H
            exact absurd H (by simp)
        · rw [if_neg c3] at H
          have c3b0 : decide (0 < x0_1) = false := decide_eq_false c3
          clear c3
          by_cases c8 : 1 + x3_1.size ≤ 9223372036854775807
          · rw [if_pos c8] at H
            have c8b0 := eq_true c8
            have c8b1 : decide (1 + x3_1.size ≤ 9223372036854775807) = true := decide_eq_true c8
            try have c8b2 : (9223372036854775807 < 1 + x3_1.size) = False := eq_false (Nat.not_lt.2 c8)
            obtain rfl := Option.some.inj H
            go_wp2
            go_ret
            exact ⟨by first | rfl | (simp [errW_none, errW_some] <;> rfl) | (simp [*, errW_none, errW_some] <;> rfl), by repeat (first | (with_reducible first | exact HB.out | apply below_alloc | apply pw_below_drewN | apply below_drew1) | exact HB.out)⟩
          · rw [if_neg c8] at H
            exact absurd H (by simp)
end
end Go.Proofs.YtkklokkldgkacaaGreat.X
