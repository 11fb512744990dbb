/- The program's ConnAgain returns what the reference's ConnAgain returns, for all arguments. Conditions: none beyond the row's own reach. -/
import Derived.Test.YtlpkldomoniegaaCFnExactConnAgain3
import Derived.Test.YtlpkldomoniegaaRows
namespace Go.Proofs.Ytlpkldomoniegaa.X
open Go.RowKit Go.Proofs.YtlpkldomoniegaaW.PrintWords Go.Proofs.YtlpkldomoniegaaW.PrintLast Go.Proofs.YtlpkldomoniegaaW.PrintMore
attribute [local go_sem] max2_int min2_int max_two min_two max_three min_three max_four min_four   -- for this text's walks alone
set_option linter.unusedVariables false
set_option linter.unusedSimpArgs false
section
/-! ### laws_FnExactConnAgain: function 10 -/
mutual
def laws_FnExactConnAgain.j0 : Nat → List (S53) → Int → List (S53) → Bool → ByteArray → Int → Int → Int → Int → Int → Int → Int → ByteArray → ByteArray → Bool → Option (Bool)
  | 0, _, _, _, _, _, _, _, _, _, _, _, _, _, _, _ => none
  | k + 1, x4, x5, x6, x37, x582000, x582001, x582002, x582003, x582004, x582005, x582006, x582007, x582008, x582009, x582010 => if x37 = true then (some false) else ((laws_markSegmentS.f k x6 1).bind fun bt614 => ((laws_heldSegmentS.f k bt614.2 1).bind fun t616 => (if t616 < 0 then (some false) else (if t616 = bt614.1 then ((laws_toConn.f x582000 x582001 x582002 x582003 x582004 x582005 x582006 x582007 x582008 x582009 x582010).bind fun bt617 => ((impl_ConnAgain.f k bt617.1 bt617.2.1 bt617.2.2.1 bt617.2.2.2.1 bt617.2.2.2.2.1 bt617.2.2.2.2.2.1 bt617.2.2.2.2.2.2.1 bt617.2.2.2.2.2.2.2.1 bt617.2.2.2.2.2.2.2.2.1 bt617.2.2.2.2.2.2.2.2.2.1 bt617.2.2.2.2.2.2.2.2.2.2).bind fun bt628 => ((laws_eqSegmentS.f k bt628.1 x4).bind fun t632 => (if t632 = true then (laws_FnExactConnAgain.j1 k bt614.2 bt614.1 (bt628.2 != x5)) else (laws_FnExactConnAgain.j1 k bt614.2 bt614.1 true))))) else (some false)))))
def laws_FnExactConnAgain.j1 : Nat → List (S53) → Int → Bool → Option (Bool)
  | 0, _, _, _ => none
  | k + 1, x6, x8, x63 => if x63 = true then (some false) else ((laws_heldSegmentS.f k x6 1).bind fun t633 => (if t633 < 0 then (some false) else (if t633 = x8 then (some true) else (some false))))
end
def laws_FnExactConnAgain.f (k : Nat) (a0_0 : ByteArray) (a0_1 : Int) (a0_2 : Int) (a0_3 : Int) (a0_4 : Int) (a0_5 : Int) (a0_6 : Int) (a0_7 : Int) (a0_8 : ByteArray) (a0_9 : ByteArray) (a0_10 : Bool) : Option (Bool) := (laws_szConn.f a0_0 a0_1 a0_2 a0_3 a0_4 a0_5 a0_6 a0_7 a0_8 a0_9 a0_10 1048576).bind fun t582 => (if t582 < 0 then (some true) else ((laws_toConn.f a0_0 a0_1 a0_2 a0_3 a0_4 a0_5 a0_6 a0_7 a0_8 a0_9 a0_10).bind fun bt583 => ((spec_ConnAgain.f k bt583.1 bt583.2.1 bt583.2.2.1 bt583.2.2.2.1 bt583.2.2.2.2.1 bt583.2.2.2.2.2.1 bt583.2.2.2.2.2.2.1 bt583.2.2.2.2.2.2.2.1 bt583.2.2.2.2.2.2.2.2.1 bt583.2.2.2.2.2.2.2.2.2.1 bt583.2.2.2.2.2.2.2.2.2.2).bind fun bt594 => ((laws_toConn.f a0_0 a0_1 a0_2 a0_3 a0_4 a0_5 a0_6 a0_7 a0_8 a0_9 a0_10).bind fun bt598 => ((impl_ConnAgain.f k bt598.1 bt598.2.1 bt598.2.2.1 bt598.2.2.2.1 bt598.2.2.2.2.1 bt598.2.2.2.2.2.1 bt598.2.2.2.2.2.2.1 bt598.2.2.2.2.2.2.2.1 bt598.2.2.2.2.2.2.2.2.1 bt598.2.2.2.2.2.2.2.2.2.1 bt598.2.2.2.2.2.2.2.2.2.2).bind fun bt609 => ((laws_eqSegmentS.f k bt609.1 bt594.1).bind fun t613 => (if t613 = true then (laws_FnExactConnAgain.j0 k bt594.1 bt594.2 bt609.1 (bt609.2 != bt594.2) a0_0 a0_1 a0_2 a0_3 a0_4 a0_5 a0_6 a0_7 a0_8 a0_9 a0_10) else (laws_FnExactConnAgain.j0 k bt594.1 bt594.2 bt609.1 true a0_0 a0_1 a0_2 a0_3 a0_4 a0_5 a0_6 a0_7 a0_8 a0_9 a0_10))))))))
theorem laws_FnExactConnAgain.mono_l : ∀ k, (∀ y0 y1 y2 y3 y4 y5 y6 y7 y8 y9 y10 y11 y12 y13 y14, LeO (laws_FnExactConnAgain.j0 k y0 y1 y2 y3 y4 y5 y6 y7 y8 y9 y10 y11 y12 y13 y14) (laws_FnExactConnAgain.j0 (k + 1) y0 y1 y2 y3 y4 y5 y6 y7 y8 y9 y10 y11 y12 y13 y14)) ∧ (∀ y0 y1 y2, LeO (laws_FnExactConnAgain.j1 k y0 y1 y2) (laws_FnExactConnAgain.j1 (k + 1) y0 y1 y2))
  | 0 => ⟨fun _ _ _ _ _ _ _ _ _ _ _ _ _ _ _ r h => by simp [laws_FnExactConnAgain.j0] at h, fun _ _ _ r h => by simp [laws_FnExactConnAgain.j1] at h⟩
  | k + 1 => by
    obtain ⟨ih0, ih1⟩ := laws_FnExactConnAgain.mono_l k
    refine ⟨?_, ?_⟩
    · intro y0 y1 y2 y3 y4 y5 y6 y7 y8 y9 y10 y11 y12 y13 y14
      unfold laws_FnExactConnAgain.j0
      repeat' first
      | (with_reducible exact ih0 _ _ _ _ _ _ _ _ _ _ _ _ _ _ _)
      | (with_reducible exact ih1 _ _ _)
      | (with_reducible exact impl_ConnAgain.mono _ _ _ _ _ _ _ _ _ _ _ _)
      | (with_reducible exact laws_eqSegmentS.mono _ _ _)
      | (with_reducible exact laws_heldSegmentS.mono _ _ _)
      | (with_reducible exact laws_markSegmentS.mono _ _ _)
      | (with_reducible exact spec_ConnAgain.mono _ _ _ _ _ _ _ _ _ _ _ _)
      | (with_reducible exact LeO.refl _)
      | (with_reducible exact LeO.none _)
      | (with_reducible refine LeO.ite ?_ ?_)
      | (with_reducible refine LeO.bind ?_ (fun _ => ?_))
      | exact ih0 _ _ _ _ _ _ _ _ _ _ _ _ _ _ _
      | exact ih1 _ _ _
      | exact impl_ConnAgain.mono _ _ _ _ _ _ _ _ _ _ _ _
      | exact laws_eqSegmentS.mono _ _ _
      | exact laws_heldSegmentS.mono _ _ _
      | exact laws_markSegmentS.mono _ _ _
      | exact spec_ConnAgain.mono _ _ _ _ _ _ _ _ _ _ _ _
      | exact LeO.none _
      | refine LeO.ite ?_ ?_
      | refine LeO.bind ?_ (fun _ => ?_)
    · intro y0 y1 y2
      unfold laws_FnExactConnAgain.j1
      repeat' first
      | (with_reducible exact ih0 _ _ _ _ _ _ _ _ _ _ _ _ _ _ _)
      | (with_reducible exact ih1 _ _ _)
      | (with_reducible exact impl_ConnAgain.mono _ _ _ _ _ _ _ _ _ _ _ _)
      | (with_reducible exact laws_eqSegmentS.mono _ _ _)
      | (with_reducible exact laws_heldSegmentS.mono _ _ _)
      | (with_reducible exact laws_markSegmentS.mono _ _ _)
      | (with_reducible exact spec_ConnAgain.mono _ _ _ _ _ _ _ _ _ _ _ _)
      | (with_reducible exact LeO.refl _)
      | (with_reducible exact LeO.none _)
      | (with_reducible refine LeO.ite ?_ ?_)
      | (with_reducible refine LeO.bind ?_ (fun _ => ?_))
      | exact ih0 _ _ _ _ _ _ _ _ _ _ _ _ _ _ _
      | exact ih1 _ _ _
      | exact impl_ConnAgain.mono _ _ _ _ _ _ _ _ _ _ _ _
      | exact laws_eqSegmentS.mono _ _ _
      | exact laws_heldSegmentS.mono _ _ _
      | exact laws_markSegmentS.mono _ _ _
      | exact spec_ConnAgain.mono _ _ _ _ _ _ _ _ _ _ _ _
      | exact LeO.none _
      | refine LeO.ite ?_ ?_
      | refine LeO.bind ?_ (fun _ => ?_)
theorem laws_FnExactConnAgain.mono : ∀ a0 a1 a2 a3 a4 a5 a6 a7 a8 a9 a10 k, LeO (laws_FnExactConnAgain.f k a0 a1 a2 a3 a4 a5 a6 a7 a8 a9 a10) (laws_FnExactConnAgain.f (k + 1) a0 a1 a2 a3 a4 a5 a6 a7 a8 a9 a10) := by
  intro a0 a1 a2 a3 a4 a5 a6 a7 a8 a9 a10 k
  obtain ⟨ih0, ih1⟩ := laws_FnExactConnAgain.mono_l k
  unfold laws_FnExactConnAgain.f
  repeat' first
      | (with_reducible exact ih0 _ _ _ _ _ _ _ _ _ _ _ _ _ _ _)
      | (with_reducible exact ih1 _ _ _)
      | (with_reducible exact impl_ConnAgain.mono _ _ _ _ _ _ _ _ _ _ _ _)
      | (with_reducible exact laws_eqSegmentS.mono _ _ _)
      | (with_reducible exact laws_heldSegmentS.mono _ _ _)
      | (with_reducible exact laws_markSegmentS.mono _ _ _)
      | (with_reducible exact spec_ConnAgain.mono _ _ _ _ _ _ _ _ _ _ _ _)
      | (with_reducible exact LeO.refl _)
      | (with_reducible exact LeO.none _)
      | (with_reducible refine LeO.ite ?_ ?_)
      | (with_reducible refine LeO.bind ?_ (fun _ => ?_))
      | exact ih0 _ _ _ _ _ _ _ _ _ _ _ _ _ _ _
      | exact ih1 _ _ _
      | exact impl_ConnAgain.mono _ _ _ _ _ _ _ _ _ _ _ _
      | exact laws_eqSegmentS.mono _ _ _
      | exact laws_heldSegmentS.mono _ _ _
      | exact laws_markSegmentS.mono _ _ _
      | exact spec_ConnAgain.mono _ _ _ _ _ _ _ _ _ _ _ _
      | exact LeO.none _
      | refine LeO.ite ?_ ?_
      | refine LeO.bind ?_ (fun _ => ?_)
set_option maxHeartbeats 8000000 in
set_option maxRecDepth 100000 in
theorem laws_FnExactConnAgain.calls (k : Nat) (a0_0 : ByteArray) (a0_1 : Int) (a0_2 : Int) (a0_3 : Int) (a0_4 : Int) (a0_5 : Int) (a0_6 : Int) (a0_7 : Int) (a0_8 : ByteArray) (a0_9 : ByteArray) (a0_10 : Bool) (r : Bool) (w : World) (h : laws_FnExactConnAgain.f k a0_0 a0_1 a0_2 a0_3 a0_4 a0_5 a0_6 a0_7 a0_8 a0_9 a0_10 = some r) :
    Calls Try.prog 10 #[.agg #[.string a0_0, .int .i64 a0_1, .int .i64 a0_2, .int .i64 a0_3, .int .i64 a0_4, .int .i64 a0_5, .int .i64 a0_6, .int .i64 a0_7, .string a0_8, .string a0_9, .bool a0_10]] w fun e w' => e = .returned (.bool r) ∧ Below w.heap.size w w' := by
  have hu31 := Try.underlying31
  have HB := Aside0.mk (Below.refl w.heap.size w)
  have H : ((laws_szConn.f a0_0 a0_1 a0_2 a0_3 a0_4 a0_5 a0_6 a0_7 a0_8 a0_9 a0_10 1048576).bind fun t582 => (if t582 < 0 then (some true) else ((laws_toConn.f a0_0 a0_1 a0_2 a0_3 a0_4 a0_5 a0_6 a0_7 a0_8 a0_9 a0_10).bind fun bt583 => ((spec_ConnAgain.f k bt583.1 bt583.2.1 bt583.2.2.1 bt583.2.2.2.1 bt583.2.2.2.2.1 bt583.2.2.2.2.2.1 bt583.2.2.2.2.2.2.1 bt583.2.2.2.2.2.2.2.1 bt583.2.2.2.2.2.2.2.2.1 bt583.2.2.2.2.2.2.2.2.2.1 bt583.2.2.2.2.2.2.2.2.2.2).bind fun bt594 => ((laws_toConn.f a0_0 a0_1 a0_2 a0_3 a0_4 a0_5 a0_6 a0_7 a0_8 a0_9 a0_10).bind fun bt598 => ((impl_ConnAgain.f k bt598.1 bt598.2.1 bt598.2.2.1 bt598.2.2.2.1 bt598.2.2.2.2.1 bt598.2.2.2.2.2.1 bt598.2.2.2.2.2.2.1 bt598.2.2.2.2.2.2.2.1 bt598.2.2.2.2.2.2.2.2.1 bt598.2.2.2.2.2.2.2.2.2.1 bt598.2.2.2.2.2.2.2.2.2.2).bind fun bt609 => ((laws_eqSegmentS.f k bt609.1 bt594.1).bind fun t613 => (if t613 = true then (laws_FnExactConnAgain.j0 k bt594.1 bt594.2 bt609.1 (bt609.2 != bt594.2) a0_0 a0_1 a0_2 a0_3 a0_4 a0_5 a0_6 a0_7 a0_8 a0_9 a0_10) else (laws_FnExactConnAgain.j0 k bt594.1 bt594.2 bt609.1 true a0_0 a0_1 a0_2 a0_3 a0_4 a0_5 a0_6 a0_7 a0_8 a0_9 a0_10))))))))) = some r := h
  clear h
  replace H := Option.bind_eq_some_iff.mp H
  obtain ⟨t582, A20, H⟩ := H
  replace H : (if t582 < 0 then (some true) else ((laws_toConn.f a0_0 a0_1 a0_2 a0_3 a0_4 a0_5 a0_6 a0_7 a0_8 a0_9 a0_10).bind fun bt583 => ((spec_ConnAgain.f k bt583.1 bt583.2.1 bt583.2.2.1 bt583.2.2.2.1 bt583.2.2.2.2.1 bt583.2.2.2.2.2.1 bt583.2.2.2.2.2.2.1 bt583.2.2.2.2.2.2.2.1 bt583.2.2.2.2.2.2.2.2.1 bt583.2.2.2.2.2.2.2.2.2.1 bt583.2.2.2.2.2.2.2.2.2.2).bind fun bt594 => ((laws_toConn.f a0_0 a0_1 a0_2 a0_3 a0_4 a0_5 a0_6 a0_7 a0_8 a0_9 a0_10).bind fun bt598 => ((impl_ConnAgain.f k bt598.1 bt598.2.1 bt598.2.2.1 bt598.2.2.2.1 bt598.2.2.2.2.1 bt598.2.2.2.2.2.1 bt598.2.2.2.2.2.2.1 bt598.2.2.2.2.2.2.2.1 bt598.2.2.2.2.2.2.2.2.1 bt598.2.2.2.2.2.2.2.2.2.1 bt598.2.2.2.2.2.2.2.2.2.2).bind fun bt609 => ((laws_eqSegmentS.f k bt609.1 bt594.1).bind fun t613 => (if t613 = true then (laws_FnExactConnAgain.j0 k bt594.1 bt594.2 bt609.1 (bt609.2 != bt594.2) a0_0 a0_1 a0_2 a0_3 a0_4 a0_5 a0_6 a0_7 a0_8 a0_9 a0_10) else (laws_FnExactConnAgain.j0 k bt594.1 bt594.2 bt609.1 true a0_0 a0_1 a0_2 a0_3 a0_4 a0_5 a0_6 a0_7 a0_8 a0_9 a0_10)))))))) = some r := H
  have A2 := Aside0.mk A20
  clear A20
  by_cases c3 : t582 < 0
  · rw [if_pos c3] at H
    have c3b0 : decide (t582 < 0) = true := decide_eq_true c3
    clear c3
    obtain rfl := Option.some.inj H
    go_enter Try.func10, Try.ntmps10
    go_wp2_with (first | ((with_reducible refine gate_dst (N := 1) rfl ?_); refine box_event ?hg (N := 1) ?hd (cs := #[.string a0_0, .int .i64 a0_1, .int .i64 a0_2, .int .i64 a0_3, .int .i64 a0_4, .int .i64 a0_5, .int .i64 a0_6, .int .i64 a0_7, .string a0_8, .string a0_9, .bool a0_10]) (t := 31) ?hr ?_; (case hd => rfl); (case hg => rfl); (case hr => first | (go_simp; done) | (go_simp; rfl)); intro gb581 hg w4 hbox hb; have n0_ := Aside0.mk (below_step (by repeat (first | (with_reducible first | exact HB.out | apply below_alloc | apply pw_below_drewN | apply below_drew1) | exact HB.out)) hb); have n1_ := Aside0.mk (hbox); have n2_ := Aside0.mk ((by rw [hg]; exact (below_size (by repeat (first | (with_reducible first | exact HB.out | apply below_alloc | apply pw_below_drewN | apply below_drew1) | exact HB.out))) : w.heap.size ≤ gb581)); have n3_ := Aside0.mk ((by rw [hg]; exact (below_size (by repeat (first | (with_reducible first | exact HB.out | apply below_alloc | apply pw_below_drewN | apply below_drew1) | exact HB.out))) : w.heap.size ≤ gb581)); clear HB; have HB := n0_; have BK581 := n1_; have GW581 := n2_; have GE581 := n3_; clear n0_ n1_ n2_ n3_; clear hb hbox hg; have hcz5_0 : w4.cell? ⟨gb581, 0, none⟩ = some (.string a0_0) := (blk_cell BK581.out 0).trans rfl; have hcz5_1 : w4.cell? ⟨gb581, 1, none⟩ = some (.int .i64 a0_1) := (blk_cell BK581.out 1).trans rfl; have hcz5_2 : w4.cell? ⟨gb581, 2, none⟩ = some (.int .i64 a0_2) := (blk_cell BK581.out 2).trans rfl; have hcz5_3 : w4.cell? ⟨gb581, 3, none⟩ = some (.int .i64 a0_3) := (blk_cell BK581.out 3).trans rfl; have hcz5_4 : w4.cell? ⟨gb581, 4, none⟩ = some (.int .i64 a0_4) := (blk_cell BK581.out 4).trans rfl; have hcz5_5 : w4.cell? ⟨gb581, 5, none⟩ = some (.int .i64 a0_5) := (blk_cell BK581.out 5).trans rfl; have hcz5_6 : w4.cell? ⟨gb581, 6, none⟩ = some (.int .i64 a0_6) := (blk_cell BK581.out 6).trans rfl; have hcz5_7 : w4.cell? ⟨gb581, 7, none⟩ = some (.int .i64 a0_7) := (blk_cell BK581.out 7).trans rfl; have hcz5_8 : w4.cell? ⟨gb581, 8, none⟩ = some (.string a0_8) := (blk_cell BK581.out 8).trans rfl; have hcz5_9 : w4.cell? ⟨gb581, 9, none⟩ = some (.string a0_9) := (blk_cell BK581.out 9).trans rfl; have hcz5_10 : w4.cell? ⟨gb581, 10, none⟩ = some (.bool a0_10) := (blk_cell BK581.out 10).trans rfl; have hfz5_0 := blk_frozen BK581.out 0; have hfz5_1 := blk_frozen BK581.out 1; have hfz5_2 := blk_frozen BK581.out 2; have hfz5_3 := blk_frozen BK581.out 3; have hfz5_4 := blk_frozen BK581.out 4; have hfz5_5 := blk_frozen BK581.out 5; have hfz5_6 := blk_frozen BK581.out 6; have hfz5_7 := blk_frozen BK581.out 7; have hfz5_8 := blk_frozen BK581.out 8; have hfz5_9 := blk_frozen BK581.out 9; have hfz5_10 := blk_frozen BK581.out 10) | ((with_reducible refine gate_callee (f := 22) rfl ?_); refine goesL_ (some 14) rfl rfl Try.func22 (by kernel_rfl) rfl #[.agg #[.string a0_0, .int .i64 a0_1, .int .i64 a0_2, .int .i64 a0_3, .int .i64 a0_4, .int .i64 a0_5, .int .i64 a0_6, .int .i64 a0_7, .string a0_8, .string a0_9, .bool a0_10], .int .i64 1048576] rfl (by (try simp only [List.map_toArray, List.map_cons, List.map_nil]); first | done | rfl | (simp only [List.length_drop, List.length_take]; rfl)) ?_; (with_reducible refine (laws_szConn.calls a0_0 a0_1 a0_2 a0_3 a0_4 a0_5 a0_6 a0_7 a0_8 a0_9 a0_10 1048576 t582 _ A2.out).mono ?_); rintro e w6 ⟨rfl, hb⟩; refine ⟨_, rfl, ?_⟩; have n0_ := Aside0.mk (blk_below (g := gb581) (o := .cells #[.string a0_0, .int .i64 a0_1, .int .i64 a0_2, .int .i64 a0_3, .int .i64 a0_4, .int .i64 a0_5, .int .i64 a0_6, .int .i64 a0_7, .string a0_8, .string a0_9, .bool a0_10] 31 (0, 0)) (by (with_reducible repeat (first | refine blk_drewN ?_ _ | refine blk_drew ?_ | refine blk_alloc ?_ _)); exact BK581.out) hb); have n1_ := Aside0.mk (below_step (by repeat (first | (with_reducible first | exact HB.out | apply below_alloc | apply pw_below_drewN | apply below_drew1 | refine below_set ?_ GE581.out) | exact HB.out)) hb); clear BK581; clear HB; have BK581 := n0_; have HB := n1_; clear n0_ n1_; (try clear hb); (try clear hb2); (try clear hk); (try clear hi)))
    go_ret
    exact ⟨by first | rfl | (simp [errW_none, errW_some] <;> rfl) | (simp [*, errW_none, errW_some] <;> rfl), by repeat (first | (with_reducible first | exact HB.out | apply below_alloc | apply pw_below_drewN | apply below_drew1 | refine below_set ?_ GE581.out) | exact HB.out)⟩
  · rw [if_neg c3] at H
    have c3b0 : decide (t582 < 0) = false := decide_eq_false c3
    clear c3
    replace H := Option.bind_eq_some_iff.mp H
    obtain ⟨⟨t583, t584, t585, t586, t587, t588, t589, t590, t591, t592, t593⟩, A70, H⟩ := H
    replace H : ((spec_ConnAgain.f k t583 t584 t585 t586 t587 t588 t589 t590 t591 t592 t593).bind fun bt594 => ((laws_toConn.f a0_0 a0_1 a0_2 a0_3 a0_4 a0_5 a0_6 a0_7 a0_8 a0_9 a0_10).bind fun bt598 => ((impl_ConnAgain.f k bt598.1 bt598.2.1 bt598.2.2.1 bt598.2.2.2.1 bt598.2.2.2.2.1 bt598.2.2.2.2.2.1 bt598.2.2.2.2.2.2.1 bt598.2.2.2.2.2.2.2.1 bt598.2.2.2.2.2.2.2.2.1 bt598.2.2.2.2.2.2.2.2.2.1 bt598.2.2.2.2.2.2.2.2.2.2).bind fun bt609 => ((laws_eqSegmentS.f k bt609.1 bt594.1).bind fun t613 => (if t613 = true then (laws_FnExactConnAgain.j0 k bt594.1 bt594.2 bt609.1 (bt609.2 != bt594.2) a0_0 a0_1 a0_2 a0_3 a0_4 a0_5 a0_6 a0_7 a0_8 a0_9 a0_10) else (laws_FnExactConnAgain.j0 k bt594.1 bt594.2 bt609.1 true a0_0 a0_1 a0_2 a0_3 a0_4 a0_5 a0_6 a0_7 a0_8 a0_9 a0_10)))))) = some r := H
    have A7 := Aside0.mk A70
    clear A70
    replace H := Option.bind_eq_some_iff.mp H
    obtain ⟨⟨t594, t597⟩, A80, H⟩ := H
    replace H : ((laws_toConn.f a0_0 a0_1 a0_2 a0_3 a0_4 a0_5 a0_6 a0_7 a0_8 a0_9 a0_10).bind fun bt598 => ((impl_ConnAgain.f k bt598.1 bt598.2.1 bt598.2.2.1 bt598.2.2.2.1 bt598.2.2.2.2.1 bt598.2.2.2.2.2.1 bt598.2.2.2.2.2.2.1 bt598.2.2.2.2.2.2.2.1 bt598.2.2.2.2.2.2.2.2.1 bt598.2.2.2.2.2.2.2.2.2.1 bt598.2.2.2.2.2.2.2.2.2.2).bind fun bt609 => ((laws_eqSegmentS.f k bt609.1 t594).bind fun t613 => (if t613 = true then (laws_FnExactConnAgain.j0 k t594 t597 bt609.1 (bt609.2 != t597) a0_0 a0_1 a0_2 a0_3 a0_4 a0_5 a0_6 a0_7 a0_8 a0_9 a0_10) else (laws_FnExactConnAgain.j0 k t594 t597 bt609.1 true a0_0 a0_1 a0_2 a0_3 a0_4 a0_5 a0_6 a0_7 a0_8 a0_9 a0_10))))) = some r := H
    have A8 := Aside0.mk A80
    clear A80
    replace H := Option.bind_eq_some_iff.mp H
    obtain ⟨⟨t598, t599, t600, t601, t602, t603, t604, t605, t606, t607, t608⟩, A90, H⟩ := H
    replace H : ((impl_ConnAgain.f k t598 t599 t600 t601 t602 t603 t604 t605 t606 t607 t608).bind fun bt609 => ((laws_eqSegmentS.f k bt609.1 t594).bind fun t613 => (if t613 = true then (laws_FnExactConnAgain.j0 k t594 t597 bt609.1 (bt609.2 != t597) a0_0 a0_1 a0_2 a0_3 a0_4 a0_5 a0_6 a0_7 a0_8 a0_9 a0_10) else (laws_FnExactConnAgain.j0 k t594 t597 bt609.1 true a0_0 a0_1 a0_2 a0_3 a0_4 a0_5 a0_6 a0_7 a0_8 a0_9 a0_10)))) = some r := H
    have A9 := Aside0.mk A90
    clear A90
    replace H := Option.bind_eq_some_iff.mp H
    obtain ⟨⟨t609, t612⟩, A100, H⟩ := H
    replace H : ((laws_eqSegmentS.f k t609 t594).bind fun t613 => (if t613 = true then (laws_FnExactConnAgain.j0 k t594 t597 t609 (t612 != t597) a0_0 a0_1 a0_2 a0_3 a0_4 a0_5 a0_6 a0_7 a0_8 a0_9 a0_10) else (laws_FnExactConnAgain.j0 k t594 t597 t609 true a0_0 a0_1 a0_2 a0_3 a0_4 a0_5 a0_6 a0_7 a0_8 a0_9 a0_10))) = some r := H
    have A10 := Aside0.mk A100
    clear A100
    have HC11 := Aside0.mk H
    clear H
    go_enter Try.func10, Try.ntmps10
    go_upto_region 7 with (first | ((with_reducible refine gate_dst (N := 1) rfl ?_); refine box_event ?hg (N := 1) ?hd (cs := #[.string a0_0, .int .i64 a0_1, .int .i64 a0_2, .int .i64 a0_3, .int .i64 a0_4, .int .i64 a0_5, .int .i64 a0_6, .int .i64 a0_7, .string a0_8, .string a0_9, .bool a0_10]) (t := 31) ?hr ?_; (case hd => rfl); (case hg => rfl); (case hr => first | (go_simp; done) | (go_simp; rfl)); intro gb581 hg w12 hbox hb; have n0_ := Aside0.mk (below_step (by repeat (first | (with_reducible first | exact HB.out | apply below_alloc | apply pw_below_drewN | apply below_drew1) | exact HB.out)) hb); have n1_ := Aside0.mk (hbox); have n2_ := Aside0.mk ((by rw [hg]; exact (below_size (by repeat (first | (with_reducible first | exact HB.out | apply below_alloc | apply pw_below_drewN | apply below_drew1) | exact HB.out))) : w.heap.size ≤ gb581)); have n3_ := Aside0.mk ((by rw [hg]; exact (below_size (by repeat (first | (with_reducible first | exact HB.out | apply below_alloc | apply pw_below_drewN | apply below_drew1) | exact HB.out))) : w.heap.size ≤ gb581)); clear HB; have HB := n0_; have BK581 := n1_; have GW581 := n2_; have GE581 := n3_; clear n0_ n1_ n2_ n3_; clear hb hbox hg; have hcz13_0 : w12.cell? ⟨gb581, 0, none⟩ = some (.string a0_0) := (blk_cell BK581.out 0).trans rfl; have hcz13_1 : w12.cell? ⟨gb581, 1, none⟩ = some (.int .i64 a0_1) := (blk_cell BK581.out 1).trans rfl; have hcz13_2 : w12.cell? ⟨gb581, 2, none⟩ = some (.int .i64 a0_2) := (blk_cell BK581.out 2).trans rfl; have hcz13_3 : w12.cell? ⟨gb581, 3, none⟩ = some (.int .i64 a0_3) := (blk_cell BK581.out 3).trans rfl; have hcz13_4 : w12.cell? ⟨gb581, 4, none⟩ = some (.int .i64 a0_4) := (blk_cell BK581.out 4).trans rfl; have hcz13_5 : w12.cell? ⟨gb581, 5, none⟩ = some (.int .i64 a0_5) := (blk_cell BK581.out 5).trans rfl; have hcz13_6 : w12.cell? ⟨gb581, 6, none⟩ = some (.int .i64 a0_6) := (blk_cell BK581.out 6).trans rfl; have hcz13_7 : w12.cell? ⟨gb581, 7, none⟩ = some (.int .i64 a0_7) := (blk_cell BK581.out 7).trans rfl; have hcz13_8 : w12.cell? ⟨gb581, 8, none⟩ = some (.string a0_8) := (blk_cell BK581.out 8).trans rfl; have hcz13_9 : w12.cell? ⟨gb581, 9, none⟩ = some (.string a0_9) := (blk_cell BK581.out 9).trans rfl; have hcz13_10 : w12.cell? ⟨gb581, 10, none⟩ = some (.bool a0_10) := (blk_cell BK581.out 10).trans rfl; have hfz13_0 := blk_frozen BK581.out 0; have hfz13_1 := blk_frozen BK581.out 1; have hfz13_2 := blk_frozen BK581.out 2; have hfz13_3 := blk_frozen BK581.out 3; have hfz13_4 := blk_frozen BK581.out 4; have hfz13_5 := blk_frozen BK581.out 5; have hfz13_6 := blk_frozen BK581.out 6; have hfz13_7 := blk_frozen BK581.out 7; have hfz13_8 := blk_frozen BK581.out 8; have hfz13_9 := blk_frozen BK581.out 9; have hfz13_10 := blk_frozen BK581.out 10) | ((with_reducible refine gate_callee (f := 22) rfl ?_); refine goesL_ (some 14) rfl rfl Try.func22 (by kernel_rfl) rfl #[.agg #[.string a0_0, .int .i64 a0_1, .int .i64 a0_2, .int .i64 a0_3, .int .i64 a0_4, .int .i64 a0_5, .int .i64 a0_6, .int .i64 a0_7, .string a0_8, .string a0_9, .bool a0_10], .int .i64 1048576] rfl (by (try simp only [List.map_toArray, List.map_cons, List.map_nil]); first | done | rfl | (simp only [List.length_drop, List.length_take]; rfl)) ?_; (with_reducible refine (laws_szConn.calls a0_0 a0_1 a0_2 a0_3 a0_4 a0_5 a0_6 a0_7 a0_8 a0_9 a0_10 1048576 t582 _ A2.out).mono ?_); rintro e w14 ⟨rfl, hb⟩; refine ⟨_, rfl, ?_⟩; have n0_ := Aside0.mk (blk_below (g := gb581) (o := .cells #[.string a0_0, .int .i64 a0_1, .int .i64 a0_2, .int .i64 a0_3, .int .i64 a0_4, .int .i64 a0_5, .int .i64 a0_6, .int .i64 a0_7, .string a0_8, .string a0_9, .bool a0_10] 31 (0, 0)) (by (with_reducible repeat (first | refine blk_drewN ?_ _ | refine blk_drew ?_ | refine blk_alloc ?_ _)); exact BK581.out) hb); have n1_ := Aside0.mk (below_step (by repeat (first | (with_reducible first | exact HB.out | apply below_alloc | apply pw_below_drewN | apply below_drew1 | refine below_set ?_ GE581.out) | exact HB.out)) hb); clear BK581; clear HB; have BK581 := n0_; have HB := n1_; clear n0_ n1_; (try clear hb); (try clear hb2); (try clear hk); (try clear hi); have hcz15_0 : w14.cell? ⟨gb581, 0, none⟩ = some (.string a0_0) := (blk_cell BK581.out 0).trans rfl; have hcz15_1 : w14.cell? ⟨gb581, 1, none⟩ = some (.int .i64 a0_1) := (blk_cell BK581.out 1).trans rfl; have hcz15_2 : w14.cell? ⟨gb581, 2, none⟩ = some (.int .i64 a0_2) := (blk_cell BK581.out 2).trans rfl; have hcz15_3 : w14.cell? ⟨gb581, 3, none⟩ = some (.int .i64 a0_3) := (blk_cell BK581.out 3).trans rfl; have hcz15_4 : w14.cell? ⟨gb581, 4, none⟩ = some (.int .i64 a0_4) := (blk_cell BK581.out 4).trans rfl; have hcz15_5 : w14.cell? ⟨gb581, 5, none⟩ = some (.int .i64 a0_5) := (blk_cell BK581.out 5).trans rfl; have hcz15_6 : w14.cell? ⟨gb581, 6, none⟩ = some (.int .i64 a0_6) := (blk_cell BK581.out 6).trans rfl; have hcz15_7 : w14.cell? ⟨gb581, 7, none⟩ = some (.int .i64 a0_7) := (blk_cell BK581.out 7).trans rfl; have hcz15_8 : w14.cell? ⟨gb581, 8, none⟩ = some (.string a0_8) := (blk_cell BK581.out 8).trans rfl; have hcz15_9 : w14.cell? ⟨gb581, 9, none⟩ = some (.string a0_9) := (blk_cell BK581.out 9).trans rfl; have hcz15_10 : w14.cell? ⟨gb581, 10, none⟩ = some (.bool a0_10) := (blk_cell BK581.out 10).trans rfl; have hfz15_0 := blk_frozen BK581.out 0; have hfz15_1 := blk_frozen BK581.out 1; have hfz15_2 := blk_frozen BK581.out 2; have hfz15_3 := blk_frozen BK581.out 3; have hfz15_4 := blk_frozen BK581.out 4; have hfz15_5 := blk_frozen BK581.out 5; have hfz15_6 := blk_frozen BK581.out 6; have hfz15_7 := blk_frozen BK581.out 7; have hfz15_8 := blk_frozen BK581.out 8; have hfz15_9 := blk_frozen BK581.out 9; have hfz15_10 := blk_frozen BK581.out 10) | ((with_reducible refine gate_callee (f := 24) rfl ?_); refine goesL_ (some 19) rfl rfl Try.func24 (by kernel_rfl) rfl #[.agg #[.string a0_0, .int .i64 a0_1, .int .i64 a0_2, .int .i64 a0_3, .int .i64 a0_4, .int .i64 a0_5, .int .i64 a0_6, .int .i64 a0_7, .string a0_8, .string a0_9, .bool a0_10]] rfl (by (try simp only [List.map_toArray, List.map_cons, List.map_nil]); first | done | rfl | (simp only [List.length_drop, List.length_take]; rfl)) ?_; (with_reducible refine (laws_toConn.calls a0_0 a0_1 a0_2 a0_3 a0_4 a0_5 a0_6 a0_7 a0_8 a0_9 a0_10 t583 t584 t585 t586 t587 t588 t589 t590 t591 t592 t593 _ A7.out).mono ?_); rintro e w16 ⟨rfl, hb⟩; refine ⟨_, rfl, ?_⟩; have n0_ := Aside0.mk (blk_below (g := gb581) (o := .cells #[.string a0_0, .int .i64 a0_1, .int .i64 a0_2, .int .i64 a0_3, .int .i64 a0_4, .int .i64 a0_5, .int .i64 a0_6, .int .i64 a0_7, .string a0_8, .string a0_9, .bool a0_10] 31 (0, 0)) (by (with_reducible repeat (first | refine blk_drewN ?_ _ | refine blk_drew ?_ | refine blk_alloc ?_ _)); exact BK581.out) hb); have n1_ := Aside0.mk (below_step (by repeat (first | (with_reducible first | exact HB.out | apply below_alloc | apply pw_below_drewN | apply below_drew1 | refine below_set ?_ GE581.out) | exact HB.out)) hb); clear BK581; clear HB; have BK581 := n0_; have HB := n1_; clear n0_ n1_; (try clear hb); (try clear hb2); (try clear hk); (try clear hi)) | ((with_reducible refine gate_callee (f := 41) rfl ?_); refine goesL_ (some 20) rfl rfl Try.func41 (by kernel_rfl) rfl #[.agg #[.string t583, .int .i64 t584, .int .i64 t585, .int .i64 t586, .int .i64 t587, .int .i64 t588, .int .i64 t589, .int .i64 t590, .string t591, .string t592, .bool t593]] rfl (by (try simp only [List.map_toArray, List.map_cons, List.map_nil]); first | done | rfl | (simp only [List.length_drop, List.length_take]; rfl)) ?_; (with_reducible refine (spec_ConnAgain.calls k t583 t584 t585 t586 t587 t588 t589 t590 t591 t592 t593 t594 t597 _ A8.out).mono ?_); rintro e w17 ⟨v595, rfl, ho0, hb⟩; refine ⟨_, rfl, ?_⟩; have n0_ := Aside0.mk (Kd.R_lower ho0 (below_size (by repeat (first | (with_reducible first | exact HB.out | apply below_alloc | apply pw_below_drewN | apply below_drew1 | refine below_set ?_ GE581.out) | exact HB.out)))); have n1_ := Aside0.mk (blk_below (g := gb581) (o := .cells #[.string a0_0, .int .i64 a0_1, .int .i64 a0_2, .int .i64 a0_3, .int .i64 a0_4, .int .i64 a0_5, .int .i64 a0_6, .int .i64 a0_7, .string a0_8, .string a0_9, .bool a0_10] 31 (0, 0)) (by (with_reducible repeat (first | refine blk_drewN ?_ _ | refine blk_drew ?_ | refine blk_alloc ?_ _)); exact BK581.out) hb); have n2_ := Aside0.mk (below_step (by repeat (first | (with_reducible first | exact HB.out | apply below_alloc | apply pw_below_drewN | apply below_drew1 | refine below_set ?_ GE581.out) | exact HB.out)) hb); clear BK581; clear HB; have HO596 := n0_; have BK581 := n1_; have HB := n2_; clear n0_ n1_ n2_; (try clear hb); (try clear hb2); (try clear hk); (try clear hi); (try clear ho0); have hcz18_0 : w17.cell? ⟨gb581, 0, none⟩ = some (.string a0_0) := (blk_cell BK581.out 0).trans rfl; have hcz18_1 : w17.cell? ⟨gb581, 1, none⟩ = some (.int .i64 a0_1) := (blk_cell BK581.out 1).trans rfl; have hcz18_2 : w17.cell? ⟨gb581, 2, none⟩ = some (.int .i64 a0_2) := (blk_cell BK581.out 2).trans rfl; have hcz18_3 : w17.cell? ⟨gb581, 3, none⟩ = some (.int .i64 a0_3) := (blk_cell BK581.out 3).trans rfl; have hcz18_4 : w17.cell? ⟨gb581, 4, none⟩ = some (.int .i64 a0_4) := (blk_cell BK581.out 4).trans rfl; have hcz18_5 : w17.cell? ⟨gb581, 5, none⟩ = some (.int .i64 a0_5) := (blk_cell BK581.out 5).trans rfl; have hcz18_6 : w17.cell? ⟨gb581, 6, none⟩ = some (.int .i64 a0_6) := (blk_cell BK581.out 6).trans rfl; have hcz18_7 : w17.cell? ⟨gb581, 7, none⟩ = some (.int .i64 a0_7) := (blk_cell BK581.out 7).trans rfl; have hcz18_8 : w17.cell? ⟨gb581, 8, none⟩ = some (.string a0_8) := (blk_cell BK581.out 8).trans rfl; have hcz18_9 : w17.cell? ⟨gb581, 9, none⟩ = some (.string a0_9) := (blk_cell BK581.out 9).trans rfl; have hcz18_10 : w17.cell? ⟨gb581, 10, none⟩ = some (.bool a0_10) := (blk_cell BK581.out 10).trans rfl; have hfz18_0 := blk_frozen BK581.out 0; have hfz18_1 := blk_frozen BK581.out 1; have hfz18_2 := blk_frozen BK581.out 2; have hfz18_3 := blk_frozen BK581.out 3; have hfz18_4 := blk_frozen BK581.out 4; have hfz18_5 := blk_frozen BK581.out 5; have hfz18_6 := blk_frozen BK581.out 6; have hfz18_7 := blk_frozen BK581.out 7; have hfz18_8 := blk_frozen BK581.out 8; have hfz18_9 := blk_frozen BK581.out 9; have hfz18_10 := blk_frozen BK581.out 10) | ((with_reducible refine gate_callee (f := 24) rfl ?_); refine goesL_ (some 25) rfl rfl Try.func24 (by kernel_rfl) rfl #[.agg #[.string a0_0, .int .i64 a0_1, .int .i64 a0_2, .int .i64 a0_3, .int .i64 a0_4, .int .i64 a0_5, .int .i64 a0_6, .int .i64 a0_7, .string a0_8, .string a0_9, .bool a0_10]] rfl (by (try simp only [List.map_toArray, List.map_cons, List.map_nil]); first | done | rfl | (simp only [List.length_drop, List.length_take]; rfl)) ?_; (with_reducible refine (laws_toConn.calls a0_0 a0_1 a0_2 a0_3 a0_4 a0_5 a0_6 a0_7 a0_8 a0_9 a0_10 t598 t599 t600 t601 t602 t603 t604 t605 t606 t607 t608 _ A9.out).mono ?_); rintro e w19 ⟨rfl, hb⟩; refine ⟨_, rfl, ?_⟩; have n0_ := Aside0.mk (Kd.R_below (by (with_reducible repeat (first | apply Kd.R_alloc | apply Kd.R_drewN | apply Kd.R_drew)); exact HO596.out) hb); have n1_ := Aside0.mk (blk_below (g := gb581) (o := .cells #[.string a0_0, .int .i64 a0_1, .int .i64 a0_2, .int .i64 a0_3, .int .i64 a0_4, .int .i64 a0_5, .int .i64 a0_6, .int .i64 a0_7, .string a0_8, .string a0_9, .bool a0_10] 31 (0, 0)) (by (with_reducible repeat (first | refine blk_drewN ?_ _ | refine blk_drew ?_ | refine blk_alloc ?_ _)); exact BK581.out) hb); have n2_ := Aside0.mk (below_step (by repeat (first | (with_reducible first | exact HB.out | apply below_alloc | apply pw_below_drewN | apply below_drew1 | refine below_set ?_ GE581.out) | exact HB.out)) hb); clear HO596; clear BK581; clear HB; have HO596 := n0_; have BK581 := n1_; have HB := n2_; clear n0_ n1_ n2_; (try clear hb); (try clear hb2); (try clear hk); (try clear hi)) | ((with_reducible refine gate_callee (f := 42) rfl ?_); refine goesL_ (some 26) rfl rfl Try.func42 (by kernel_rfl) rfl #[.agg #[.string t598, .int .i64 t599, .int .i64 t600, .int .i64 t601, .int .i64 t602, .int .i64 t603, .int .i64 t604, .int .i64 t605, .string t606, .string t607, .bool t608]] rfl (by (try simp only [List.map_toArray, List.map_cons, List.map_nil]); first | done | rfl | (simp only [List.length_drop, List.length_take]; rfl)) ?_; (with_reducible refine (impl_ConnAgain.calls k t598 t599 t600 t601 t602 t603 t604 t605 t606 t607 t608 t609 t612 _ A10.out).mono ?_); rintro e w20 ⟨v610, rfl, ho0, hb⟩; refine ⟨_, rfl, ?_⟩; have n0_ := Aside0.mk (Kd.R_elder' (by (with_reducible repeat (first | apply Kd.R_alloc | apply Kd.R_drewN | apply Kd.R_drew)); exact HO596.out) (Kd.R_base ho0) hb); have n1_ := Aside0.mk (Kd.R_lower (Kd.R_new' ho0 (Kd.R_lt (by (with_reducible repeat (first | apply Kd.R_alloc | apply Kd.R_drewN | apply Kd.R_drew)); exact HO596.out))) (below_size (by repeat (first | (with_reducible first | exact HB.out | apply below_alloc | apply pw_below_drewN | apply below_drew1 | refine below_set ?_ GE581.out) | exact HB.out)))); have n2_ := Aside0.mk (blk_below (g := gb581) (o := .cells #[.string a0_0, .int .i64 a0_1, .int .i64 a0_2, .int .i64 a0_3, .int .i64 a0_4, .int .i64 a0_5, .int .i64 a0_6, .int .i64 a0_7, .string a0_8, .string a0_9, .bool a0_10] 31 (0, 0)) (by (with_reducible repeat (first | refine blk_drewN ?_ _ | refine blk_drew ?_ | refine blk_alloc ?_ _)); exact BK581.out) hb); have n3_ := Aside0.mk (below_step (by repeat (first | (with_reducible first | exact HB.out | apply below_alloc | apply pw_below_drewN | apply below_drew1 | refine below_set ?_ GE581.out) | exact HB.out)) hb); clear HO596; clear BK581; clear HB; have HO596 := n0_; have HO611 := n1_; have BK581 := n2_; have HB := n3_; clear n0_ n1_ n2_ n3_; (try clear hb); (try clear hb2); (try clear hk); (try clear hi); (try clear ho0)))
    (try simp only [Act.put, List.setIfInBounds_toArray, List.set_cons_zero, List.set_cons_succ])
    go_cut [37] (fun v37 wc => ∃ (kq : Nat) (x37_10 : Bool), v37 = .bool x37_10 ∧ Aside0 (laws_FnExactConnAgain.j0 kq t594 t597 t609 x37_10 a0_0 a0_1 a0_2 a0_3 a0_4 a0_5 a0_6 a0_7 a0_8 a0_9 a0_10 = some r) ∧ Aside0 (kq ≤ k) ∧ Aside0 (Kd.R k53 53 wc w.heap.size (fun k_ => some k_ ≠ (v610 : Value).ownBlock) v595 t594) ∧ Aside0 (Kd.R k53 53 wc w.heap.size (fun k_ => some k_ ≠ (v595 : Value).ownBlock) v610 t609) ∧ Aside0 (wc.heap[gb581]? = some (.cells #[.string a0_0, .int .i64 a0_1, .int .i64 a0_2, .int .i64 a0_3, .int .i64 a0_4, .int .i64 a0_5, .int .i64 a0_6, .int .i64 a0_7, .string a0_8, .string a0_9, .bool a0_10] 31 (0, 0))) ∧ Aside0 (Below w.heap.size w wc))
    case first =>
      have H := HC11.out
      clear HC11
      replace H := Option.bind_eq_some_iff.mp H
      obtain ⟨t613, A210, H⟩ := H
      replace H : (if t613 = true then (laws_FnExactConnAgain.j0 k t594 t597 t609 (t612 != t597) a0_0 a0_1 a0_2 a0_3 a0_4 a0_5 a0_6 a0_7 a0_8 a0_9 a0_10) else (laws_FnExactConnAgain.j0 k t594 t597 t609 true a0_0 a0_1 a0_2 a0_3 a0_4 a0_5 a0_6 a0_7 a0_8 a0_9 a0_10)) = some r := H
      have A21 := Aside0.mk A210
      clear A210
      by_cases c22 : t613 = true
      · subst c22
        have H1 : (laws_FnExactConnAgain.j0 k t594 t597 t609 (t612 != t597) a0_0 a0_1 a0_2 a0_3 a0_4 a0_5 a0_6 a0_7 a0_8 a0_9 a0_10) = some r := by rw [if_pos rfl] at H; exact H
        clear H
        have H := H1
        clear H1
        have H' := Aside0.mk H
        clear H
        obtain ⟨Ao23, co23, eo23⟩ := Kd.R_slice HO611.out
        subst eo23
        obtain ⟨Ao24, co24, eo24⟩ := Kd.R_slice HO596.out
        subst eo24
        go_wp2_with (first | ((with_reducible refine gate_callee (f := 38) rfl ?_); refine goesL_ (some 31) rfl rfl Try.func38 (by kernel_rfl) rfl #[.slice Ao23 t609.length co23, .slice Ao24 t594.length co24] rfl (by (try simp only [List.map_toArray, List.map_cons, List.map_nil]); first | done | rfl | (simp only [List.length_drop, List.length_take]; rfl)) ?_; (with_reducible refine (laws_eqSegmentS.calls k _ _ t609 _ _ t594 true _ ?side1 ?side2 ?side3 ?side4 A21.out).mono ?_); (case side1 => repeat (first | exact (Kd.R_reads' HO611.out).2.2 | (with_reducible refine Kd.C_alloc ?_ _) | (with_reducible refine Kd.C_drewN ?_ _) | (with_reducible refine Kd.C_drew ?_))); (case side2 => exact (Kd.R_reads' HO611.out).2.1); (case side3 => repeat (first | exact (Kd.R_reads' HO596.out).2.2 | (with_reducible refine Kd.C_alloc ?_ _) | (with_reducible refine Kd.C_drewN ?_ _) | (with_reducible refine Kd.C_drew ?_))); (case side4 => exact (Kd.R_reads' HO596.out).2.1); rintro e w25 ⟨rfl, hb⟩; refine ⟨_, rfl, ?_⟩; have n0_ := Aside0.mk (Kd.R_below (by (with_reducible repeat (first | apply Kd.R_alloc | apply Kd.R_drewN | apply Kd.R_drew)); exact HO596.out) hb); have n1_ := Aside0.mk (Kd.R_below (by (with_reducible repeat (first | apply Kd.R_alloc | apply Kd.R_drewN | apply Kd.R_drew)); exact HO611.out) hb); have n2_ := Aside0.mk (blk_below (g := gb581) (o := .cells #[.string a0_0, .int .i64 a0_1, .int .i64 a0_2, .int .i64 a0_3, .int .i64 a0_4, .int .i64 a0_5, .int .i64 a0_6, .int .i64 a0_7, .string a0_8, .string a0_9, .bool a0_10] 31 (0, 0)) (by (with_reducible repeat (first | refine blk_drewN ?_ _ | refine blk_drew ?_ | refine blk_alloc ?_ _)); exact BK581.out) hb); have n3_ := Aside0.mk (below_step (by repeat (first | (with_reducible first | exact HB.out | apply below_alloc | apply pw_below_drewN | apply below_drew1 | refine below_set ?_ GE581.out) | exact HB.out)) hb); clear HO596; clear HO611; clear BK581; clear HB; have HO596 := n0_; have HO611 := n1_; have BK581 := n2_; have HB := n3_; clear n0_ n1_ n2_ n3_; (try clear hb); (try clear hb2); (try clear hk); (try clear hi)))
        go_meet
        case rel => exact ⟨_, ((t612 != t597)), (by first | rfl | (simp; done) | (simp [*]; done) | (simp [ne_nil_b]; done) | (simp [ne_nil_b, *]; done)), H', ⟨by first | omega | exact Nat.le_refl _⟩, ⟨by (with_reducible repeat (first | apply Kd.R_alloc | apply Kd.R_drewN | apply Kd.R_drew)); exact Kd.R_mono HO596.out (fun _ hk => hk.2)⟩, ⟨by (with_reducible repeat (first | apply Kd.R_alloc | apply Kd.R_drewN | apply Kd.R_drew)); exact Kd.R_mono HO611.out (fun _ hk => hk.2)⟩, ⟨by (with_reducible repeat (first | refine blk_drewN ?_ _ | refine blk_drew ?_ | refine blk_alloc ?_ _)); exact BK581.out⟩, ⟨by repeat (first | (with_reducible first | exact HB.out | apply below_alloc | apply pw_below_drewN | apply below_drew1 | refine below_set ?_ GE581.out) | exact HB.out)⟩⟩
      · replace c22 := Bool.eq_false_iff.mpr c22
        subst c22
        have H1 : (laws_FnExactConnAgain.j0 k t594 t597 t609 true a0_0 a0_1 a0_2 a0_3 a0_4 a0_5 a0_6 a0_7 a0_8 a0_9 a0_10) = some r := by rw [if_neg (show ¬ (false = true) by decide)] at H; exact H
        clear H
        have H := H1
        clear H1
        have H' := Aside0.mk H
        clear H
        obtain ⟨Ao26, co26, eo26⟩ := Kd.R_slice HO611.out
        subst eo26
        obtain ⟨Ao27, co27, eo27⟩ := Kd.R_slice HO596.out
        subst eo27
        go_wp2_with (first | ((with_reducible refine gate_callee (f := 38) rfl ?_); refine goesL_ (some 31) rfl rfl Try.func38 (by kernel_rfl) rfl #[.slice Ao26 t609.length co26, .slice Ao27 t594.length co27] rfl (by (try simp only [List.map_toArray, List.map_cons, List.map_nil]); first | done | rfl | (simp only [List.length_drop, List.length_take]; rfl)) ?_; (with_reducible refine (laws_eqSegmentS.calls k _ _ t609 _ _ t594 false _ ?side1 ?side2 ?side3 ?side4 A21.out).mono ?_); (case side1 => repeat (first | exact (Kd.R_reads' HO611.out).2.2 | (with_reducible refine Kd.C_alloc ?_ _) | (with_reducible refine Kd.C_drewN ?_ _) | (with_reducible refine Kd.C_drew ?_))); (case side2 => exact (Kd.R_reads' HO611.out).2.1); (case side3 => repeat (first | exact (Kd.R_reads' HO596.out).2.2 | (with_reducible refine Kd.C_alloc ?_ _) | (with_reducible refine Kd.C_drewN ?_ _) | (with_reducible refine Kd.C_drew ?_))); (case side4 => exact (Kd.R_reads' HO596.out).2.1); rintro e w28 ⟨rfl, hb⟩; refine ⟨_, rfl, ?_⟩; have n0_ := Aside0.mk (Kd.R_below (by (with_reducible repeat (first | apply Kd.R_alloc | apply Kd.R_drewN | apply Kd.R_drew)); exact HO596.out) hb); have n1_ := Aside0.mk (Kd.R_below (by (with_reducible repeat (first | apply Kd.R_alloc | apply Kd.R_drewN | apply Kd.R_drew)); exact HO611.out) hb); have n2_ := Aside0.mk (blk_below (g := gb581) (o := .cells #[.string a0_0, .int .i64 a0_1, .int .i64 a0_2, .int .i64 a0_3, .int .i64 a0_4, .int .i64 a0_5, .int .i64 a0_6, .int .i64 a0_7, .string a0_8, .string a0_9, .bool a0_10] 31 (0, 0)) (by (with_reducible repeat (first | refine blk_drewN ?_ _ | refine blk_drew ?_ | refine blk_alloc ?_ _)); exact BK581.out) hb); have n3_ := Aside0.mk (below_step (by repeat (first | (with_reducible first | exact HB.out | apply below_alloc | apply pw_below_drewN | apply below_drew1 | refine below_set ?_ GE581.out) | exact HB.out)) hb); clear HO596; clear HO611; clear BK581; clear HB; have HO596 := n0_; have HO611 := n1_; have BK581 := n2_; have HB := n3_; clear n0_ n1_ n2_ n3_; (try clear hb); (try clear hb2); (try clear hk); (try clear hi)))
        go_meet
        case rel => exact ⟨_, (true), (by first | rfl | (simp; done) | (simp [*]; done) | (simp [ne_nil_b]; done) | (simp [ne_nil_b, *]; done)), H', ⟨by first | omega | exact Nat.le_refl _⟩, ⟨by (with_reducible repeat (first | apply Kd.R_alloc | apply Kd.R_drewN | apply Kd.R_drew)); exact Kd.R_mono HO596.out (fun _ hk => hk.2)⟩, ⟨by (with_reducible repeat (first | apply Kd.R_alloc | apply Kd.R_drewN | apply Kd.R_drew)); exact Kd.R_mono HO611.out (fun _ hk => hk.2)⟩, ⟨by (with_reducible repeat (first | refine blk_drewN ?_ _ | refine blk_drew ?_ | refine blk_alloc ?_ _)); exact BK581.out⟩, ⟨by repeat (first | (with_reducible first | exact HB.out | apply below_alloc | apply pw_below_drewN | apply below_drew1 | refine below_set ?_ GE581.out) | exact HB.out)⟩⟩
    case rest =>
      clear HC11
      try clear c1
      try clear c2
      try clear p2
      try clear c3
      try clear c3b0
      try clear c4
      try clear c10
      try clear c22
      try clear c24
      try clear hcz13_0
      try clear hcz13_1
      try clear hcz13_10
      try clear hcz13_2
      try clear hcz13_3
      try clear hcz13_4
      try clear hcz13_5
      try clear hcz13_6
      try clear hcz13_7
      try clear hcz13_8
      try clear hcz13_9
      try clear hcz15_0
      try clear hcz15_1
      try clear hcz15_10
      try clear hcz15_2
      try clear hcz15_3
      try clear hcz15_4
      try clear hcz15_5
      try clear hcz15_6
      try clear hcz15_7
      try clear hcz15_8
      try clear hcz15_9
      try clear hcz18_0
      try clear hcz18_1
      try clear hcz18_10
      try clear hcz18_2
      try clear hcz18_3
      try clear hcz18_4
      try clear hcz18_5
      try clear hcz18_6
      try clear hcz18_7
      try clear hcz18_8
      try clear hcz18_9
      try clear hcz5_0
      try clear hcz5_1
      try clear hcz5_10
      try clear hcz5_2
      try clear hcz5_3
      try clear hcz5_4
      try clear hcz5_5
      try clear hcz5_6
      try clear hcz5_7
      try clear hcz5_8
      try clear hcz5_9
      try clear hfz13_0
      try clear hfz13_1
      try clear hfz13_10
      try clear hfz13_2
      try clear hfz13_3
      try clear hfz13_4
      try clear hfz13_5
      try clear hfz13_6
      try clear hfz13_7
      try clear hfz13_8
      try clear hfz13_9
      try clear hfz15_0
      try clear hfz15_1
      try clear hfz15_10
      try clear hfz15_2
      try clear hfz15_3
      try clear hfz15_4
      try clear hfz15_5
      try clear hfz15_6
      try clear hfz15_7
      try clear hfz15_8
      try clear hfz15_9
      try clear hfz18_0
      try clear hfz18_1
      try clear hfz18_10
      try clear hfz18_2
      try clear hfz18_3
      try clear hfz18_4
      try clear hfz18_5
      try clear hfz18_6
      try clear hfz18_7
      try clear hfz18_8
      try clear hfz18_9
      try clear hfz5_0
      try clear hfz5_1
      try clear hfz5_10
      try clear hfz5_2
      try clear hfz5_3
      try clear hfz5_4
      try clear hfz5_5
      try clear hfz5_6
      try clear hfz5_7
      try clear hfz5_8
      try clear hfz5_9
      obtain ⟨kq, x37_10, rfl, HA, HJ10, HO_4, HO_6, BK581, HB⟩ := hcut
      cases kq with
      | zero => exact absurd HA.out (by simp [laws_FnExactConnAgain.j0])
      | succ kj10 =>
        have H := HA.out
        clear HA
        simp only [laws_FnExactConnAgain.j0] at H
        by_cases c29 : x37_10 = true
        · subst c29
          have H1 : (some false) = some r := by rw [if_pos rfl] at H; exact H
          clear H
          have H := H1
          clear H1
          obtain rfl := Option.some.inj H
          go_wp2
          go_ret
          exact ⟨by first | rfl | (simp [errW_none, errW_some] <;> rfl) | (simp [*, errW_none, errW_some] <;> rfl), by repeat (first | (with_reducible first | exact HB.out | apply below_alloc | apply pw_below_drewN | apply below_drew1 | refine below_set ?_ GE581.out) | exact HB.out)⟩
        · replace c29 := Bool.eq_false_iff.mpr c29
          subst c29
          have H1 : ((laws_markSegmentS.f kj10 t609 1).bind fun bt614 => ((laws_heldSegmentS.f kj10 bt614.2 1).bind fun t616 => (if t616 < 0 then (some false) else (if t616 = bt614.1 then ((laws_toConn.f a0_0 a0_1 a0_2 a0_3 a0_4 a0_5 a0_6 a0_7 a0_8 a0_9 a0_10).bind fun bt617 => ((impl_ConnAgain.f kj10 bt617.1 bt617.2.1 bt617.2.2.1 bt617.2.2.2.1 bt617.2.2.2.2.1 bt617.2.2.2.2.2.1 bt617.2.2.2.2.2.2.1 bt617.2.2.2.2.2.2.2.1 bt617.2.2.2.2.2.2.2.2.1 bt617.2.2.2.2.2.2.2.2.2.1 bt617.2.2.2.2.2.2.2.2.2.2).bind fun bt628 => ((laws_eqSegmentS.f kj10 bt628.1 t594).bind fun t632 => (if t632 = true then (laws_FnExactConnAgain.j1 kj10 bt614.2 bt614.1 (bt628.2 != t597)) else (laws_FnExactConnAgain.j1 kj10 bt614.2 bt614.1 true))))) else (some false))))) = some r := by rw [if_neg (show ¬ (false = true) by decide)] at H; exact H
          clear H
          have H := H1
          clear H1
          replace H := Option.bind_eq_some_iff.mp H
          obtain ⟨⟨t614, t615⟩, A300, H⟩ := H
          replace H : ((laws_heldSegmentS.f kj10 t615 1).bind fun t616 => (if t616 < 0 then (some false) else (if t616 = t614 then ((laws_toConn.f a0_0 a0_1 a0_2 a0_3 a0_4 a0_5 a0_6 a0_7 a0_8 a0_9 a0_10).bind fun bt617 => ((impl_ConnAgain.f kj10 bt617.1 bt617.2.1 bt617.2.2.1 bt617.2.2.2.1 bt617.2.2.2.2.1 bt617.2.2.2.2.2.1 bt617.2.2.2.2.2.2.1 bt617.2.2.2.2.2.2.2.1 bt617.2.2.2.2.2.2.2.2.1 bt617.2.2.2.2.2.2.2.2.2.1 bt617.2.2.2.2.2.2.2.2.2.2).bind fun bt628 => ((laws_eqSegmentS.f kj10 bt628.1 t594).bind fun t632 => (if t632 = true then (laws_FnExactConnAgain.j1 kj10 t615 t614 (bt628.2 != t597)) else (laws_FnExactConnAgain.j1 kj10 t615 t614 true))))) else (some false)))) = some r := H
          have A30 := Aside0.mk A300
          clear A300
          replace H := Option.bind_eq_some_iff.mp H
          obtain ⟨t616, A310, H⟩ := H
          replace H : (if t616 < 0 then (some false) else (if t616 = t614 then ((laws_toConn.f a0_0 a0_1 a0_2 a0_3 a0_4 a0_5 a0_6 a0_7 a0_8 a0_9 a0_10).bind fun bt617 => ((impl_ConnAgain.f kj10 bt617.1 bt617.2.1 bt617.2.2.1 bt617.2.2.2.1 bt617.2.2.2.2.1 bt617.2.2.2.2.2.1 bt617.2.2.2.2.2.2.1 bt617.2.2.2.2.2.2.2.1 bt617.2.2.2.2.2.2.2.2.1 bt617.2.2.2.2.2.2.2.2.2.1 bt617.2.2.2.2.2.2.2.2.2.2).bind fun bt628 => ((laws_eqSegmentS.f kj10 bt628.1 t594).bind fun t632 => (if t632 = true then (laws_FnExactConnAgain.j1 kj10 t615 t614 (bt628.2 != t597)) else (laws_FnExactConnAgain.j1 kj10 t615 t614 true))))) else (some false))) = some r := H
          have A31 := Aside0.mk A310
          clear A310
          by_cases c32 : t616 < 0
          · rw [if_pos c32] at H
            have c32b0 : decide (t616 < 0) = true := decide_eq_true c32
            clear c32
            obtain rfl := Option.some.inj H
            obtain ⟨Ao33, co33, eo33⟩ := Kd.R_slice HO_6.out
            subst eo33
            go_wp2_with (first | ((with_reducible refine gate_callee (f := 39) rfl ?_); refine goesL_ (some 40) rfl rfl Try.func39 (by kernel_rfl) rfl #[.slice Ao33 t609.length co33, .int .i64 1] rfl (by (try simp only [List.map_toArray, List.map_cons, List.map_nil]); first | done | rfl | (simp only [List.length_drop, List.length_take]; rfl)) ?_; (with_reducible refine (laws_markSegmentS.calls kj10 (fun k_ => some k_ = (.slice Ao33 t609.length co33 : Value).ownBlock) (.slice Ao33 t609.length co33) t609 1 t614 t615 w _ ?side1 ?side2 A30.out).mono ?_); (case side1 => repeat (first | (with_reducible first | exact HB.out | apply below_alloc | apply pw_below_drewN | apply below_drew1 | refine below_set ?_ GE581.out) | exact HB.out)); (case side2 => exact Kd.R_tight rfl HO_6.out); rintro e w34 ⟨rfl, hy0, hb, hkp⟩; refine ⟨_, rfl, ?_⟩; have n0_ := Aside0.mk (Kd.R_mono (ok' := fun k_ => some k_ ≠ (.slice Ao33 t609.length co33 : Value).ownBlock) (Kd.R_keptB (HO_4.out) hkp (fun k_ hk_ hs_ => (hk_) hs_)) (fun k_ hk_ => hk_.1)); have n1_ := Aside0.mk (Kd.R_reok rfl hy0 (fun k_ e_ => HO_6.out.1 k_ e_)); have n2_ := Aside0.mk (blk_kept (by (with_reducible repeat (first | refine blk_drewN ?_ _ | refine blk_drew ?_ | refine blk_alloc ?_ _)); exact BK581.out) hkp (fun hs_ => (fun e_ => (Kd.R_ne HO_6.out BK581.out (by decide)) e_) hs_)); have n3_ := Aside0.mk (hb); clear HO_4; clear HO_6; clear BK581; clear HB; have HO_4 := n0_; have HO_6 := n1_; have BK581 := n2_; have HB := n3_; clear n0_ n1_ n2_ n3_; (try clear hb); (try clear hkp); (try clear hy0)) | ((with_reducible refine gate_callee (f := 40) rfl ?_); refine goesL_ (some 43) rfl rfl Try.func40 (by kernel_rfl) rfl #[.slice Ao33 t615.length co33, .int .i64 1] rfl (by (try simp only [List.map_toArray, List.map_cons, List.map_nil]); first | done | (rw [show t615.length = t609.length from (Kd.R_reads' HO_6.out).1.symm] <;> rfl) | rfl | (simp only [List.length_drop, List.length_take]; rfl)) ?_; (with_reducible refine (laws_heldSegmentS.calls kj10 _ _ t615 1 t616 _ ?side1 ?side2 A31.out).mono ?_); (case side1 => repeat (first | exact (Kd.R_reads' HO_6.out).2.2 | (with_reducible refine Kd.C_alloc ?_ _) | (with_reducible refine Kd.C_drewN ?_ _) | (with_reducible refine Kd.C_drew ?_))); (case side2 => rw [show t615.length = t609.length from (Kd.R_reads' HO_6.out).1.symm]; exact (Kd.R_reads' HO_6.out).2.1); rintro e w35 ⟨rfl, hb⟩; refine ⟨_, rfl, ?_⟩; have n0_ := Aside0.mk (Kd.R_below (by (with_reducible repeat (first | apply Kd.R_alloc | apply Kd.R_drewN | apply Kd.R_drew)); exact HO_4.out) hb); have n1_ := Aside0.mk (Kd.R_below (by (with_reducible repeat (first | apply Kd.R_alloc | apply Kd.R_drewN | apply Kd.R_drew)); exact HO_6.out) hb); have n2_ := Aside0.mk (blk_below (g := gb581) (o := .cells #[.string a0_0, .int .i64 a0_1, .int .i64 a0_2, .int .i64 a0_3, .int .i64 a0_4, .int .i64 a0_5, .int .i64 a0_6, .int .i64 a0_7, .string a0_8, .string a0_9, .bool a0_10] 31 (0, 0)) (by (with_reducible repeat (first | refine blk_drewN ?_ _ | refine blk_drew ?_ | refine blk_alloc ?_ _)); exact BK581.out) hb); have n3_ := Aside0.mk (below_step (by repeat (first | (with_reducible first | exact HB.out | apply below_alloc | apply pw_below_drewN | apply below_drew1 | refine below_set ?_ GE581.out) | exact HB.out)) hb); clear HO_4; clear HO_6; clear BK581; clear HB; have HO_4 := n0_; have HO_6 := n1_; have BK581 := n2_; have HB := n3_; clear n0_ n1_ n2_ n3_; (try clear hb); (try clear hb2); (try clear hk); (try clear hi)))
            go_ret
            exact ⟨by first | rfl | (simp [errW_none, errW_some] <;> rfl) | (simp [*, errW_none, errW_some] <;> rfl), by repeat (first | (with_reducible first | exact HB.out | apply below_alloc | apply pw_below_drewN | apply below_drew1 | refine below_set ?_ GE581.out) | exact HB.out)⟩
          · rw [if_neg c32] at H
            have c32b0 : decide (t616 < 0) = false := decide_eq_false c32
            clear c32
            by_cases c36 : t616 = t614
            · rw [if_pos c36] at H
              have c36b0 : (t616 == t614) = true := beq_iff_eq.mpr c36
              have c36b1 : (t616 != t614) = false := bne_eq_false_iff_eq.mpr c36
              clear c36
              replace H := Option.bind_eq_some_iff.mp H
              obtain ⟨⟨t617, t618, t619, t620, t621, t622, t623, t624, t625, t626, t627⟩, A370, H⟩ := H
              replace H : ((impl_ConnAgain.f kj10 t617 t618 t619 t620 t621 t622 t623 t624 t625 t626 t627).bind fun bt628 => ((laws_eqSegmentS.f kj10 bt628.1 t594).bind fun t632 => (if t632 = true then (laws_FnExactConnAgain.j1 kj10 t615 t614 (bt628.2 != t597)) else (laws_FnExactConnAgain.j1 kj10 t615 t614 true)))) = some r := H
              have A37 := Aside0.mk A370
              clear A370
              replace H := Option.bind_eq_some_iff.mp H
              obtain ⟨⟨t628, t631⟩, A380, H⟩ := H
              replace H : ((laws_eqSegmentS.f kj10 t628 t594).bind fun t632 => (if t632 = true then (laws_FnExactConnAgain.j1 kj10 t615 t614 (t631 != t597)) else (laws_FnExactConnAgain.j1 kj10 t615 t614 true))) = some r := H
              have A38 := Aside0.mk A380
              clear A380
              have HC39 := Aside0.mk H
              clear H
              obtain ⟨Ao40, co40, eo40⟩ := Kd.R_slice HO_6.out
              subst eo40
              go_upto_region 18 with (first | ((with_reducible refine gate_callee (f := 39) rfl ?_); refine goesL_ (some 40) rfl rfl Try.func39 (by kernel_rfl) rfl #[.slice Ao40 t609.length co40, .int .i64 1] rfl (by (try simp only [List.map_toArray, List.map_cons, List.map_nil]); first | done | rfl | (simp only [List.length_drop, List.length_take]; rfl)) ?_; (with_reducible refine (laws_markSegmentS.calls kj10 (fun k_ => some k_ = (.slice Ao40 t609.length co40 : Value).ownBlock) (.slice Ao40 t609.length co40) t609 1 t614 t615 w _ ?side1 ?side2 A30.out).mono ?_); (case side1 => repeat (first | (with_reducible first | exact HB.out | apply below_alloc | apply pw_below_drewN | apply below_drew1 | refine below_set ?_ GE581.out) | exact HB.out)); (case side2 => exact Kd.R_tight rfl HO_6.out); rintro e w41 ⟨rfl, hy0, hb, hkp⟩; refine ⟨_, rfl, ?_⟩; have n0_ := Aside0.mk (Kd.R_mono (ok' := fun k_ => some k_ ≠ (.slice Ao40 t609.length co40 : Value).ownBlock) (Kd.R_keptB (HO_4.out) hkp (fun k_ hk_ hs_ => (hk_) hs_)) (fun k_ hk_ => hk_.1)); have n1_ := Aside0.mk (Kd.R_reok rfl hy0 (fun k_ e_ => HO_6.out.1 k_ e_)); have n2_ := Aside0.mk (blk_kept (by (with_reducible repeat (first | refine blk_drewN ?_ _ | refine blk_drew ?_ | refine blk_alloc ?_ _)); exact BK581.out) hkp (fun hs_ => (fun e_ => (Kd.R_ne HO_6.out BK581.out (by decide)) e_) hs_)); have n3_ := Aside0.mk (hb); clear HO_4; clear HO_6; clear BK581; clear HB; have HO_4 := n0_; have HO_6 := n1_; have BK581 := n2_; have HB := n3_; clear n0_ n1_ n2_ n3_; (try clear hb); (try clear hkp); (try clear hy0)) | ((with_reducible refine gate_callee (f := 40) rfl ?_); refine goesL_ (some 43) rfl rfl Try.func40 (by kernel_rfl) rfl #[.slice Ao40 t615.length co40, .int .i64 1] rfl (by (try simp only [List.map_toArray, List.map_cons, List.map_nil]); first | done | (rw [show t615.length = t609.length from (Kd.R_reads' HO_6.out).1.symm] <;> rfl) | rfl | (simp only [List.length_drop, List.length_take]; rfl)) ?_; (with_reducible refine (laws_heldSegmentS.calls kj10 _ _ t615 1 t616 _ ?side1 ?side2 A31.out).mono ?_); (case side1 => repeat (first | exact (Kd.R_reads' HO_6.out).2.2 | (with_reducible refine Kd.C_alloc ?_ _) | (with_reducible refine Kd.C_drewN ?_ _) | (with_reducible refine Kd.C_drew ?_))); (case side2 => rw [show t615.length = t609.length from (Kd.R_reads' HO_6.out).1.symm]; exact (Kd.R_reads' HO_6.out).2.1); rintro e w42 ⟨rfl, hb⟩; refine ⟨_, rfl, ?_⟩; have n0_ := Aside0.mk (Kd.R_below (by (with_reducible repeat (first | apply Kd.R_alloc | apply Kd.R_drewN | apply Kd.R_drew)); exact HO_4.out) hb); have n1_ := Aside0.mk (Kd.R_below (by (with_reducible repeat (first | apply Kd.R_alloc | apply Kd.R_drewN | apply Kd.R_drew)); exact HO_6.out) hb); have n2_ := Aside0.mk (blk_below (g := gb581) (o := .cells #[.string a0_0, .int .i64 a0_1, .int .i64 a0_2, .int .i64 a0_3, .int .i64 a0_4, .int .i64 a0_5, .int .i64 a0_6, .int .i64 a0_7, .string a0_8, .string a0_9, .bool a0_10] 31 (0, 0)) (by (with_reducible repeat (first | refine blk_drewN ?_ _ | refine blk_drew ?_ | refine blk_alloc ?_ _)); exact BK581.out) hb); have n3_ := Aside0.mk (below_step (by repeat (first | (with_reducible first | exact HB.out | apply below_alloc | apply pw_below_drewN | apply below_drew1 | refine below_set ?_ GE581.out) | exact HB.out)) hb); clear HO_4; clear HO_6; clear BK581; clear HB; have HO_4 := n0_; have HO_6 := n1_; have BK581 := n2_; have HB := n3_; clear n0_ n1_ n2_ n3_; (try clear hb); (try clear hb2); (try clear hk); (try clear hi); have hcz43_0 : w42.cell? ⟨gb581, 0, none⟩ = some (.string a0_0) := (blk_cell BK581.out 0).trans rfl; have hcz43_1 : w42.cell? ⟨gb581, 1, none⟩ = some (.int .i64 a0_1) := (blk_cell BK581.out 1).trans rfl; have hcz43_2 : w42.cell? ⟨gb581, 2, none⟩ = some (.int .i64 a0_2) := (blk_cell BK581.out 2).trans rfl; have hcz43_3 : w42.cell? ⟨gb581, 3, none⟩ = some (.int .i64 a0_3) := (blk_cell BK581.out 3).trans rfl; have hcz43_4 : w42.cell? ⟨gb581, 4, none⟩ = some (.int .i64 a0_4) := (blk_cell BK581.out 4).trans rfl; have hcz43_5 : w42.cell? ⟨gb581, 5, none⟩ = some (.int .i64 a0_5) := (blk_cell BK581.out 5).trans rfl; have hcz43_6 : w42.cell? ⟨gb581, 6, none⟩ = some (.int .i64 a0_6) := (blk_cell BK581.out 6).trans rfl; have hcz43_7 : w42.cell? ⟨gb581, 7, none⟩ = some (.int .i64 a0_7) := (blk_cell BK581.out 7).trans rfl; have hcz43_8 : w42.cell? ⟨gb581, 8, none⟩ = some (.string a0_8) := (blk_cell BK581.out 8).trans rfl; have hcz43_9 : w42.cell? ⟨gb581, 9, none⟩ = some (.string a0_9) := (blk_cell BK581.out 9).trans rfl; have hcz43_10 : w42.cell? ⟨gb581, 10, none⟩ = some (.bool a0_10) := (blk_cell BK581.out 10).trans rfl; have hfz43_0 := blk_frozen BK581.out 0; have hfz43_1 := blk_frozen BK581.out 1; have hfz43_2 := blk_frozen BK581.out 2; have hfz43_3 := blk_frozen BK581.out 3; have hfz43_4 := blk_frozen BK581.out 4; have hfz43_5 := blk_frozen BK581.out 5; have hfz43_6 := blk_frozen BK581.out 6; have hfz43_7 := blk_frozen BK581.out 7; have hfz43_8 := blk_frozen BK581.out 8; have hfz43_9 := blk_frozen BK581.out 9; have hfz43_10 := blk_frozen BK581.out 10) | ((with_reducible refine gate_callee (f := 24) rfl ?_); refine goesL_ (some 51) rfl rfl Try.func24 (by kernel_rfl) rfl #[.agg #[.string a0_0, .int .i64 a0_1, .int .i64 a0_2, .int .i64 a0_3, .int .i64 a0_4, .int .i64 a0_5, .int .i64 a0_6, .int .i64 a0_7, .string a0_8, .string a0_9, .bool a0_10]] rfl (by (try simp only [List.map_toArray, List.map_cons, List.map_nil]); first | done | rfl | (simp only [List.length_drop, List.length_take]; rfl)) ?_; (with_reducible refine (laws_toConn.calls a0_0 a0_1 a0_2 a0_3 a0_4 a0_5 a0_6 a0_7 a0_8 a0_9 a0_10 t617 t618 t619 t620 t621 t622 t623 t624 t625 t626 t627 _ A37.out).mono ?_); rintro e w44 ⟨rfl, hb⟩; refine ⟨_, rfl, ?_⟩; have n0_ := Aside0.mk (Kd.R_below (by (with_reducible repeat (first | apply Kd.R_alloc | apply Kd.R_drewN | apply Kd.R_drew)); exact HO_4.out) hb); have n1_ := Aside0.mk (Kd.R_below (by (with_reducible repeat (first | apply Kd.R_alloc | apply Kd.R_drewN | apply Kd.R_drew)); exact HO_6.out) hb); have n2_ := Aside0.mk (blk_below (g := gb581) (o := .cells #[.string a0_0, .int .i64 a0_1, .int .i64 a0_2, .int .i64 a0_3, .int .i64 a0_4, .int .i64 a0_5, .int .i64 a0_6, .int .i64 a0_7, .string a0_8, .string a0_9, .bool a0_10] 31 (0, 0)) (by (with_reducible repeat (first | refine blk_drewN ?_ _ | refine blk_drew ?_ | refine blk_alloc ?_ _)); exact BK581.out) hb); have n3_ := Aside0.mk (below_step (by repeat (first | (with_reducible first | exact HB.out | apply below_alloc | apply pw_below_drewN | apply below_drew1 | refine below_set ?_ GE581.out) | exact HB.out)) hb); clear HO_4; clear HO_6; clear BK581; clear HB; have HO_4 := n0_; have HO_6 := n1_; have BK581 := n2_; have HB := n3_; clear n0_ n1_ n2_ n3_; (try clear hb); (try clear hb2); (try clear hk); (try clear hi)) | ((with_reducible refine gate_callee (f := 42) rfl ?_); refine goesL_ (some 52) rfl rfl Try.func42 (by kernel_rfl) rfl #[.agg #[.string t617, .int .i64 t618, .int .i64 t619, .int .i64 t620, .int .i64 t621, .int .i64 t622, .int .i64 t623, .int .i64 t624, .string t625, .string t626, .bool t627]] rfl (by (try simp only [List.map_toArray, List.map_cons, List.map_nil]); first | done | rfl | (simp only [List.length_drop, List.length_take]; rfl)) ?_; (with_reducible refine (impl_ConnAgain.calls kj10 t617 t618 t619 t620 t621 t622 t623 t624 t625 t626 t627 t628 t631 _ A38.out).mono ?_); rintro e w45 ⟨v629, rfl, ho0, hb⟩; refine ⟨_, rfl, ?_⟩; have n0_ := Aside0.mk (Kd.R_elder' (by (with_reducible repeat (first | apply Kd.R_alloc | apply Kd.R_drewN | apply Kd.R_drew)); exact HO_4.out) (Kd.R_base ho0) hb); have n1_ := Aside0.mk (Kd.R_elder' (by (with_reducible repeat (first | apply Kd.R_alloc | apply Kd.R_drewN | apply Kd.R_drew)); exact HO_6.out) (Kd.R_base ho0) hb); have n2_ := Aside0.mk (Kd.R_lower (Kd.R_new' (Kd.R_new' ho0 (Kd.R_lt (by (with_reducible repeat (first | apply Kd.R_alloc | apply Kd.R_drewN | apply Kd.R_drew)); exact HO_4.out))) (Kd.R_lt (by (with_reducible repeat (first | apply Kd.R_alloc | apply Kd.R_drewN | apply Kd.R_drew)); exact HO_6.out))) (below_size (by repeat (first | (with_reducible first | exact HB.out | apply below_alloc | apply pw_below_drewN | apply below_drew1 | refine below_set ?_ GE581.out) | exact HB.out)))); have n3_ := Aside0.mk (blk_below (g := gb581) (o := .cells #[.string a0_0, .int .i64 a0_1, .int .i64 a0_2, .int .i64 a0_3, .int .i64 a0_4, .int .i64 a0_5, .int .i64 a0_6, .int .i64 a0_7, .string a0_8, .string a0_9, .bool a0_10] 31 (0, 0)) (by (with_reducible repeat (first | refine blk_drewN ?_ _ | refine blk_drew ?_ | refine blk_alloc ?_ _)); exact BK581.out) hb); have n4_ := Aside0.mk (below_step (by repeat (first | (with_reducible first | exact HB.out | apply below_alloc | apply pw_below_drewN | apply below_drew1 | refine below_set ?_ GE581.out) | exact HB.out)) hb); clear HO_4; clear HO_6; clear BK581; clear HB; have HO_4 := n0_; have HO_6 := n1_; have HO630 := n2_; have BK581 := n3_; have HB := n4_; clear n0_ n1_ n2_ n3_ n4_; (try clear hb); (try clear hb2); (try clear hk); (try clear hi); (try clear ho0)))
              (try simp only [Act.put, List.setIfInBounds_toArray, List.set_cons_zero, List.set_cons_succ])
              go_cut [63] (fun v63 wc => ∃ (kq : Nat) (x63_38 : Bool), v63 = .bool x63_38 ∧ Aside0 (laws_FnExactConnAgain.j1 kq t615 t614 x63_38 = some r) ∧ Aside0 (kq ≤ kj10) ∧ Aside0 (Kd.R k53 53 wc w.heap.size (fun _ => True) (.slice Ao40 t609.length co40) t615) ∧ Aside0 (wc.heap[gb581]? = some (.cells #[.string a0_0, .int .i64 a0_1, .int .i64 a0_2, .int .i64 a0_3, .int .i64 a0_4, .int .i64 a0_5, .int .i64 a0_6, .int .i64 a0_7, .string a0_8, .string a0_9, .bool a0_10] 31 (0, 0))) ∧ Aside0 (Below w.heap.size w wc))
              case first =>
                have H := HC39.out
                clear HC39
                replace H := Option.bind_eq_some_iff.mp H
                obtain ⟨t632, A460, H⟩ := H
                replace H : (if t632 = true then (laws_FnExactConnAgain.j1 kj10 t615 t614 (t631 != t597)) else (laws_FnExactConnAgain.j1 kj10 t615 t614 true)) = some r := H
                have A46 := Aside0.mk A460
                clear A460
                by_cases c47 : t632 = true
                · subst c47
                  have H1 : (laws_FnExactConnAgain.j1 kj10 t615 t614 (t631 != t597)) = some r := by rw [if_pos rfl] at H; exact H
                  clear H
                  have H := H1
                  clear H1
                  have H' := Aside0.mk H
                  clear H
                  obtain ⟨Ao48, co48, eo48⟩ := Kd.R_slice HO630.out
                  subst eo48
                  obtain ⟨Ao49, co49, eo49⟩ := Kd.R_slice HO_4.out
                  subst eo49
                  go_wp2_with (first | ((with_reducible refine gate_callee (f := 38) rfl ?_); refine goesL_ (some 57) rfl rfl Try.func38 (by kernel_rfl) rfl #[.slice Ao48 t628.length co48, .slice Ao49 t594.length co49] rfl (by (try simp only [List.map_toArray, List.map_cons, List.map_nil]); first | done | rfl | (simp only [List.length_drop, List.length_take]; rfl)) ?_; (with_reducible refine (laws_eqSegmentS.calls kj10 _ _ t628 _ _ t594 true _ ?side1 ?side2 ?side3 ?side4 A46.out).mono ?_); (case side1 => repeat (first | exact (Kd.R_reads' HO630.out).2.2 | (with_reducible refine Kd.C_alloc ?_ _) | (with_reducible refine Kd.C_drewN ?_ _) | (with_reducible refine Kd.C_drew ?_))); (case side2 => exact (Kd.R_reads' HO630.out).2.1); (case side3 => repeat (first | exact (Kd.R_reads' HO_4.out).2.2 | (with_reducible refine Kd.C_alloc ?_ _) | (with_reducible refine Kd.C_drewN ?_ _) | (with_reducible refine Kd.C_drew ?_))); (case side4 => exact (Kd.R_reads' HO_4.out).2.1); rintro e w50 ⟨rfl, hb⟩; refine ⟨_, rfl, ?_⟩; have n0_ := Aside0.mk (Kd.R_below (by (with_reducible repeat (first | apply Kd.R_alloc | apply Kd.R_drewN | apply Kd.R_drew)); exact HO_4.out) hb); have n1_ := Aside0.mk (Kd.R_below (by (with_reducible repeat (first | apply Kd.R_alloc | apply Kd.R_drewN | apply Kd.R_drew)); exact HO_6.out) hb); have n2_ := Aside0.mk (Kd.R_below (by (with_reducible repeat (first | apply Kd.R_alloc | apply Kd.R_drewN | apply Kd.R_drew)); exact HO630.out) hb); have n3_ := Aside0.mk (blk_below (g := gb581) (o := .cells #[.string a0_0, .int .i64 a0_1, .int .i64 a0_2, .int .i64 a0_3, .int .i64 a0_4, .int .i64 a0_5, .int .i64 a0_6, .int .i64 a0_7, .string a0_8, .string a0_9, .bool a0_10] 31 (0, 0)) (by (with_reducible repeat (first | refine blk_drewN ?_ _ | refine blk_drew ?_ | refine blk_alloc ?_ _)); exact BK581.out) hb); have n4_ := Aside0.mk (below_step (by repeat (first | (with_reducible first | exact HB.out | apply below_alloc | apply pw_below_drewN | apply below_drew1 | refine below_set ?_ GE581.out) | exact HB.out)) hb); clear HO_4; clear HO_6; clear HO630; clear BK581; clear HB; have HO_4 := n0_; have HO_6 := n1_; have HO630 := n2_; have BK581 := n3_; have HB := n4_; clear n0_ n1_ n2_ n3_ n4_; (try clear hb); (try clear hb2); (try clear hk); (try clear hi)))
                  go_meet
                  case rel => exact ⟨_, ((t631 != t597)), (by first | rfl | (simp; done) | (simp [*]; done) | (simp [ne_nil_b]; done) | (simp [ne_nil_b, *]; done)), H', ⟨by have := HJ10.out; first | omega | exact Nat.le_refl _⟩, ⟨by (with_reducible repeat (first | apply Kd.R_alloc | apply Kd.R_drewN | apply Kd.R_drew)); exact Kd.R_mono HO_6.out (fun _ hk => trivial)⟩, ⟨by (with_reducible repeat (first | refine blk_drewN ?_ _ | refine blk_drew ?_ | refine blk_alloc ?_ _)); exact BK581.out⟩, ⟨by repeat (first | (with_reducible first | exact HB.out | apply below_alloc | apply pw_below_drewN | apply below_drew1 | refine below_set ?_ GE581.out) | exact HB.out)⟩⟩
                · replace c47 := Bool.eq_false_iff.mpr c47
                  subst c47
                  have H1 : (laws_FnExactConnAgain.j1 kj10 t615 t614 true) = some r := by rw [if_neg (show ¬ (false = true) by decide)] at H; exact H
                  clear H
                  have H := H1
                  clear H1
                  have H' := Aside0.mk H
                  clear H
                  obtain ⟨Ao51, co51, eo51⟩ := Kd.R_slice HO630.out
                  subst eo51
                  obtain ⟨Ao52, co52, eo52⟩ := Kd.R_slice HO_4.out
                  subst eo52
                  go_wp2_with (first | ((with_reducible refine gate_callee (f := 38) rfl ?_); refine goesL_ (some 57) rfl rfl Try.func38 (by kernel_rfl) rfl #[.slice Ao51 t628.length co51, .slice Ao52 t594.length co52] rfl (by (try simp only [List.map_toArray, List.map_cons, List.map_nil]); first | done | rfl | (simp only [List.length_drop, List.length_take]; rfl)) ?_; (with_reducible refine (laws_eqSegmentS.calls kj10 _ _ t628 _ _ t594 false _ ?side1 ?side2 ?side3 ?side4 A46.out).mono ?_); (case side1 => repeat (first | exact (Kd.R_reads' HO630.out).2.2 | (with_reducible refine Kd.C_alloc ?_ _) | (with_reducible refine Kd.C_drewN ?_ _) | (with_reducible refine Kd.C_drew ?_))); (case side2 => exact (Kd.R_reads' HO630.out).2.1); (case side3 => repeat (first | exact (Kd.R_reads' HO_4.out).2.2 | (with_reducible refine Kd.C_alloc ?_ _) | (with_reducible refine Kd.C_drewN ?_ _) | (with_reducible refine Kd.C_drew ?_))); (case side4 => exact (Kd.R_reads' HO_4.out).2.1); rintro e w53 ⟨rfl, hb⟩; refine ⟨_, rfl, ?_⟩; have n0_ := Aside0.mk (Kd.R_below (by (with_reducible repeat (first | apply Kd.R_alloc | apply Kd.R_drewN | apply Kd.R_drew)); exact HO_4.out) hb); have n1_ := Aside0.mk (Kd.R_below (by (with_reducible repeat (first | apply Kd.R_alloc | apply Kd.R_drewN | apply Kd.R_drew)); exact HO_6.out) hb); have n2_ := Aside0.mk (Kd.R_below (by (with_reducible repeat (first | apply Kd.R_alloc | apply Kd.R_drewN | apply Kd.R_drew)); exact HO630.out) hb); have n3_ := Aside0.mk (blk_below (g := gb581) (o := .cells #[.string a0_0, .int .i64 a0_1, .int .i64 a0_2, .int .i64 a0_3, .int .i64 a0_4, .int .i64 a0_5, .int .i64 a0_6, .int .i64 a0_7, .string a0_8, .string a0_9, .bool a0_10] 31 (0, 0)) (by (with_reducible repeat (first | refine blk_drewN ?_ _ | refine blk_drew ?_ | refine blk_alloc ?_ _)); exact BK581.out) hb); have n4_ := Aside0.mk (below_step (by repeat (first | (with_reducible first | exact HB.out | apply below_alloc | apply pw_below_drewN | apply below_drew1 | refine below_set ?_ GE581.out) | exact HB.out)) hb); clear HO_4; clear HO_6; clear HO630; clear BK581; clear HB; have HO_4 := n0_; have HO_6 := n1_; have HO630 := n2_; have BK581 := n3_; have HB := n4_; clear n0_ n1_ n2_ n3_ n4_; (try clear hb); (try clear hb2); (try clear hk); (try clear hi)))
                  go_meet
                  case rel => exact ⟨_, (true), (by first | rfl | (simp; done) | (simp [*]; done) | (simp [ne_nil_b]; done) | (simp [ne_nil_b, *]; done)), H', ⟨by have := HJ10.out; first | omega | exact Nat.le_refl _⟩, ⟨by (with_reducible repeat (first | apply Kd.R_alloc | apply Kd.R_drewN | apply Kd.R_drew)); exact Kd.R_mono HO_6.out (fun _ hk => trivial)⟩, ⟨by (with_reducible repeat (first | refine blk_drewN ?_ _ | refine blk_drew ?_ | refine blk_alloc ?_ _)); exact BK581.out⟩, ⟨by repeat (first | (with_reducible first | exact HB.out | apply below_alloc | apply pw_below_drewN | apply below_drew1 | refine below_set ?_ GE581.out) | exact HB.out)⟩⟩
              case rest =>
                clear HC39
                try clear c1
                try clear c2
                try clear p2
                try clear c3
                try clear c3b0
                try clear c4
                try clear c10
                try clear c22
                try clear c24
                try clear c29
                try clear c32
                try clear c32b0
                try clear c36
                try clear c36b0
                try clear c36b1
                try clear c38
                try clear c39
                try clear c40
                try clear c41
                try clear c42
                try clear c47
                try clear hcz13_0
                try clear hcz13_1
                try clear hcz13_10
                try clear hcz13_2
                try clear hcz13_3
                try clear hcz13_4
                try clear hcz13_5
                try clear hcz13_6
                try clear hcz13_7
                try clear hcz13_8
                try clear hcz13_9
                try clear hcz15_0
                try clear hcz15_1
                try clear hcz15_10
                try clear hcz15_2
                try clear hcz15_3
                try clear hcz15_4
                try clear hcz15_5
                try clear hcz15_6
                try clear hcz15_7
                try clear hcz15_8
                try clear hcz15_9
                try clear hcz18_0
                try clear hcz18_1
                try clear hcz18_10
                try clear hcz18_2
                try clear hcz18_3
                try clear hcz18_4
                try clear hcz18_5
                try clear hcz18_6
                try clear hcz18_7
                try clear hcz18_8
                try clear hcz18_9
                try clear hcz43_0
                try clear hcz43_1
                try clear hcz43_10
                try clear hcz43_2
                try clear hcz43_3
                try clear hcz43_4
                try clear hcz43_5
                try clear hcz43_6
                try clear hcz43_7
                try clear hcz43_8
                try clear hcz43_9
                try clear hcz5_0
                try clear hcz5_1
                try clear hcz5_10
                try clear hcz5_2
                try clear hcz5_3
                try clear hcz5_4
                try clear hcz5_5
                try clear hcz5_6
                try clear hcz5_7
                try clear hcz5_8
                try clear hcz5_9
                try clear hfz13_0
                try clear hfz13_1
                try clear hfz13_10
                try clear hfz13_2
                try clear hfz13_3
                try clear hfz13_4
                try clear hfz13_5
                try clear hfz13_6
                try clear hfz13_7
                try clear hfz13_8
                try clear hfz13_9
                try clear hfz15_0
                try clear hfz15_1
                try clear hfz15_10
                try clear hfz15_2
                try clear hfz15_3
                try clear hfz15_4
                try clear hfz15_5
                try clear hfz15_6
                try clear hfz15_7
                try clear hfz15_8
                try clear hfz15_9
                try clear hfz18_0
                try clear hfz18_1
                try clear hfz18_10
                try clear hfz18_2
                try clear hfz18_3
                try clear hfz18_4
                try clear hfz18_5
                try clear hfz18_6
                try clear hfz18_7
                try clear hfz18_8
                try clear hfz18_9
                try clear hfz43_0
                try clear hfz43_1
                try clear hfz43_10
                try clear hfz43_2
                try clear hfz43_3
                try clear hfz43_4
                try clear hfz43_5
                try clear hfz43_6
                try clear hfz43_7
                try clear hfz43_8
                try clear hfz43_9
                try clear hfz5_0
                try clear hfz5_1
                try clear hfz5_10
                try clear hfz5_2
                try clear hfz5_3
                try clear hfz5_4
                try clear hfz5_5
                try clear hfz5_6
                try clear hfz5_7
                try clear hfz5_8
                try clear hfz5_9
                try clear p2
                obtain ⟨kq, x63_38, rfl, HA, HJ38, HO_6, BK581, HB⟩ := hcut
                have hl6_38 := (Kd.R_reads' HO_6.out).1
                rw [hl6_38] at HO_6
                (try simp only [hl6_38])
                (try simp only [hl6_38] at BK581)
                cases kq with
                | zero => exact absurd HA.out (by simp [laws_FnExactConnAgain.j1])
                | succ kj38 =>
                  have H := HA.out
                  clear HA
                  simp only [laws_FnExactConnAgain.j1] at H
                  by_cases c54 : x63_38 = true
                  · subst c54
                    have H1 : (some false) = some r := by rw [if_pos rfl] at H; exact H
                    clear H
                    have H := H1
                    clear H1
                    obtain rfl := Option.some.inj H
                    go_wp2
                    go_ret
                    exact ⟨by first | rfl | (simp [errW_none, errW_some] <;> rfl) | (simp [*, errW_none, errW_some] <;> rfl), by repeat (first | (with_reducible first | exact HB.out | apply below_alloc | apply pw_below_drewN | apply below_drew1 | refine below_set ?_ GE581.out) | exact HB.out)⟩
                  · replace c54 := Bool.eq_false_iff.mpr c54
                    subst c54
                    have H1 : ((laws_heldSegmentS.f kj38 t615 1).bind fun t633 => (if t633 < 0 then (some false) else (if t633 = t614 then (some true) else (some false)))) = some r := by rw [if_neg (show ¬ (false = true) by decide)] at H; exact H
                    clear H
                    have H := H1
                    clear H1
                    replace H := Option.bind_eq_some_iff.mp H
                    obtain ⟨t633, A550, H⟩ := H
                    replace H : (if t633 < 0 then (some false) else (if t633 = t614 then (some true) else (some false))) = some r := H
                    have A55 := Aside0.mk A550
                    clear A550
                    by_cases c56 : t633 < 0
                    · rw [if_pos c56] at H
                      have c56b0 : decide (t633 < 0) = true := decide_eq_true c56
                      clear c56
                      obtain rfl := Option.some.inj H
                      go_wp2_with (first | ((with_reducible refine gate_callee (f := 40) rfl ?_); refine goesL_ (some 66) rfl rfl Try.func40 (by kernel_rfl) rfl #[.slice Ao40 t615.length co40, .int .i64 1] rfl (by (try simp only [List.map_toArray, List.map_cons, List.map_nil]); first | done | rfl | (simp only [List.length_drop, List.length_take]; rfl)) ?_; (with_reducible refine (laws_heldSegmentS.calls kj38 _ _ t615 1 t633 _ ?side1 ?side2 A55.out).mono ?_); (case side1 => repeat (first | exact (Kd.R_reads' HO_6.out).2.2 | (with_reducible refine Kd.C_alloc ?_ _) | (with_reducible refine Kd.C_drewN ?_ _) | (with_reducible refine Kd.C_drew ?_))); (case side2 => exact (Kd.R_reads' HO_6.out).2.1); rintro e w57 ⟨rfl, hb⟩; refine ⟨_, rfl, ?_⟩; have n0_ := Aside0.mk (Kd.R_below (by (with_reducible repeat (first | apply Kd.R_alloc | apply Kd.R_drewN | apply Kd.R_drew)); exact HO_6.out) hb); have n1_ := Aside0.mk (blk_below (g := gb581) (o := .cells #[.string a0_0, .int .i64 a0_1, .int .i64 a0_2, .int .i64 a0_3, .int .i64 a0_4, .int .i64 a0_5, .int .i64 a0_6, .int .i64 a0_7, .string a0_8, .string a0_9, .bool a0_10] 31 (0, 0)) (by (with_reducible repeat (first | refine blk_drewN ?_ _ | refine blk_drew ?_ | refine blk_alloc ?_ _)); exact BK581.out) hb); have n2_ := Aside0.mk (below_step (by repeat (first | (with_reducible first | exact HB.out | apply below_alloc | apply pw_below_drewN | apply below_drew1 | refine below_set ?_ GE581.out) | exact HB.out)) hb); clear HO_6; clear BK581; clear HB; have HO_6 := n0_; have BK581 := n1_; have HB := n2_; clear n0_ n1_ n2_; (try clear hb); (try clear hb2); (try clear hk); (try clear hi)))
                      go_ret
                      exact ⟨by first | rfl | (simp [errW_none, errW_some] <;> rfl) | (simp [*, errW_none, errW_some] <;> rfl), by repeat (first | (with_reducible first | exact HB.out | apply below_alloc | apply pw_below_drewN | apply below_drew1 | refine below_set ?_ GE581.out) | exact HB.out)⟩
                    · rw [if_neg c56] at H
                      have c56b0 : decide (t633 < 0) = false := decide_eq_false c56
                      clear c56
                      by_cases c58 : t633 = t614
                      · rw [if_pos c58] at H
                        have c58b0 : (t633 == t614) = true := beq_iff_eq.mpr c58
                        have c58b1 : (t633 != t614) = false := bne_eq_false_iff_eq.mpr c58
                        clear c58
                        obtain rfl := Option.some.inj H
                        go_wp2_with (first | ((with_reducible refine gate_callee (f := 40) rfl ?_); refine goesL_ (some 66) rfl rfl Try.func40 (by kernel_rfl) rfl #[.slice Ao40 t615.length co40, .int .i64 1] rfl (by (try simp only [List.map_toArray, List.map_cons, List.map_nil]); first | done | rfl | (simp only [List.length_drop, List.length_take]; rfl)) ?_; (with_reducible refine (laws_heldSegmentS.calls kj38 _ _ t615 1 t633 _ ?side1 ?side2 A55.out).mono ?_); (case side1 => repeat (first | exact (Kd.R_reads' HO_6.out).2.2 | (with_reducible refine Kd.C_alloc ?_ _) | (with_reducible refine Kd.C_drewN ?_ _) | (with_reducible refine Kd.C_drew ?_))); (case side2 => exact (Kd.R_reads' HO_6.out).2.1); rintro e w59 ⟨rfl, hb⟩; refine ⟨_, rfl, ?_⟩; have n0_ := Aside0.mk (Kd.R_below (by (with_reducible repeat (first | apply Kd.R_alloc | apply Kd.R_drewN | apply Kd.R_drew)); exact HO_6.out) hb); have n1_ := Aside0.mk (blk_below (g := gb581) (o := .cells #[.string a0_0, .int .i64 a0_1, .int .i64 a0_2, .int .i64 a0_3, .int .i64 a0_4, .int .i64 a0_5, .int .i64 a0_6, .int .i64 a0_7, .string a0_8, .string a0_9, .bool a0_10] 31 (0, 0)) (by (with_reducible repeat (first | refine blk_drewN ?_ _ | refine blk_drew ?_ | refine blk_alloc ?_ _)); exact BK581.out) hb); have n2_ := Aside0.mk (below_step (by repeat (first | (with_reducible first | exact HB.out | apply below_alloc | apply pw_below_drewN | apply below_drew1 | refine below_set ?_ GE581.out) | exact HB.out)) hb); clear HO_6; clear BK581; clear HB; have HO_6 := n0_; have BK581 := n1_; have HB := n2_; clear n0_ n1_ n2_; (try clear hb); (try clear hb2); (try clear hk); (try clear hi)))
                        go_ret
                        exact ⟨by first | rfl | (simp [errW_none, errW_some] <;> rfl) | (simp [*, errW_none, errW_some] <;> rfl), by repeat (first | (with_reducible first | exact HB.out | apply below_alloc | apply pw_below_drewN | apply below_drew1 | refine below_set ?_ GE581.out) | exact HB.out)⟩
                      · rw [if_neg c58] at H
                        have c58b0 : (t633 == t614) = false := beq_eq_false_iff_ne.mpr c58
                        have c58b1 : (t633 != t614) = true := bne_iff_ne.mpr c58
                        obtain rfl := Option.some.inj H
                        go_wp2_with (first | ((with_reducible refine gate_callee (f := 40) rfl ?_); refine goesL_ (some 66) rfl rfl Try.func40 (by kernel_rfl) rfl #[.slice Ao40 t615.length co40, .int .i64 1] rfl (by (try simp only [List.map_toArray, List.map_cons, List.map_nil]); first | done | rfl | (simp only [List.length_drop, List.length_take]; rfl)) ?_; (with_reducible refine (laws_heldSegmentS.calls kj38 _ _ t615 1 t633 _ ?side1 ?side2 A55.out).mono ?_); (case side1 => repeat (first | exact (Kd.R_reads' HO_6.out).2.2 | (with_reducible refine Kd.C_alloc ?_ _) | (with_reducible refine Kd.C_drewN ?_ _) | (with_reducible refine Kd.C_drew ?_))); (case side2 => exact (Kd.R_reads' HO_6.out).2.1); rintro e w60 ⟨rfl, hb⟩; refine ⟨_, rfl, ?_⟩; have n0_ := Aside0.mk (Kd.R_below (by (with_reducible repeat (first | apply Kd.R_alloc | apply Kd.R_drewN | apply Kd.R_drew)); exact HO_6.out) hb); have n1_ := Aside0.mk (blk_below (g := gb581) (o := .cells #[.string a0_0, .int .i64 a0_1, .int .i64 a0_2, .int .i64 a0_3, .int .i64 a0_4, .int .i64 a0_5, .int .i64 a0_6, .int .i64 a0_7, .string a0_8, .string a0_9, .bool a0_10] 31 (0, 0)) (by (with_reducible repeat (first | refine blk_drewN ?_ _ | refine blk_drew ?_ | refine blk_alloc ?_ _)); exact BK581.out) hb); have n2_ := Aside0.mk (below_step (by repeat (first | (with_reducible first | exact HB.out | apply below_alloc | apply pw_below_drewN | apply below_drew1 | refine below_set ?_ GE581.out) | exact HB.out)) hb); clear HO_6; clear BK581; clear HB; have HO_6 := n0_; have BK581 := n1_; have HB := n2_; clear n0_ n1_ n2_; (try clear hb); (try clear hb2); (try clear hk); (try clear hi)))
                        go_ret
                        exact ⟨by first | rfl | (simp [errW_none, errW_some] <;> rfl) | (simp [*, errW_none, errW_some] <;> rfl), by repeat (first | (with_reducible first | exact HB.out | apply below_alloc | apply pw_below_drewN | apply below_drew1 | refine below_set ?_ GE581.out) | exact HB.out)⟩
            · rw [if_neg c36] at H
              have c36b0 : (t616 == t614) = false := beq_eq_false_iff_ne.mpr c36
              have c36b1 : (t616 != t614) = true := bne_iff_ne.mpr c36
              obtain rfl := Option.some.inj H
              obtain ⟨Ao61, co61, eo61⟩ := Kd.R_slice HO_6.out
              subst eo61
              go_wp2_with (first | ((with_reducible refine gate_callee (f := 39) rfl ?_); refine goesL_ (some 40) rfl rfl Try.func39 (by kernel_rfl) rfl #[.slice Ao61 t609.length co61, .int .i64 1] rfl (by (try simp only [List.map_toArray, List.map_cons, List.map_nil]); first | done | rfl | (simp only [List.length_drop, List.length_take]; rfl)) ?_; (with_reducible refine (laws_markSegmentS.calls kj10 (fun k_ => some k_ = (.slice Ao61 t609.length co61 : Value).ownBlock) (.slice Ao61 t609.length co61) t609 1 t614 t615 w _ ?side1 ?side2 A30.out).mono ?_); (case side1 => repeat (first | (with_reducible first | exact HB.out | apply below_alloc | apply pw_below_drewN | apply below_drew1 | refine below_set ?_ GE581.out) | exact HB.out)); (case side2 => exact Kd.R_tight rfl HO_6.out); rintro e w62 ⟨rfl, hy0, hb, hkp⟩; refine ⟨_, rfl, ?_⟩; have n0_ := Aside0.mk (Kd.R_mono (ok' := fun k_ => some k_ ≠ (.slice Ao61 t609.length co61 : Value).ownBlock) (Kd.R_keptB (HO_4.out) hkp (fun k_ hk_ hs_ => (hk_) hs_)) (fun k_ hk_ => hk_.1)); have n1_ := Aside0.mk (Kd.R_reok rfl hy0 (fun k_ e_ => HO_6.out.1 k_ e_)); have n2_ := Aside0.mk (blk_kept (by (with_reducible repeat (first | refine blk_drewN ?_ _ | refine blk_drew ?_ | refine blk_alloc ?_ _)); exact BK581.out) hkp (fun hs_ => (fun e_ => (Kd.R_ne HO_6.out BK581.out (by decide)) e_) hs_)); have n3_ := Aside0.mk (hb); clear HO_4; clear HO_6; clear BK581; clear HB; have HO_4 := n0_; have HO_6 := n1_; have BK581 := n2_; have HB := n3_; clear n0_ n1_ n2_ n3_; (try clear hb); (try clear hkp); (try clear hy0)) | ((with_reducible refine gate_callee (f := 40) rfl ?_); refine goesL_ (some 43) rfl rfl Try.func40 (by kernel_rfl) rfl #[.slice Ao61 t615.length co61, .int .i64 1] rfl (by (try simp only [List.map_toArray, List.map_cons, List.map_nil]); first | done | (rw [show t615.length = t609.length from (Kd.R_reads' HO_6.out).1.symm] <;> rfl) | rfl | (simp only [List.length_drop, List.length_take]; rfl)) ?_; (with_reducible refine (laws_heldSegmentS.calls kj10 _ _ t615 1 t616 _ ?side1 ?side2 A31.out).mono ?_); (case side1 => repeat (first | exact (Kd.R_reads' HO_6.out).2.2 | (with_reducible refine Kd.C_alloc ?_ _) | (with_reducible refine Kd.C_drewN ?_ _) | (with_reducible refine Kd.C_drew ?_))); (case side2 => rw [show t615.length = t609.length from (Kd.R_reads' HO_6.out).1.symm]; exact (Kd.R_reads' HO_6.out).2.1); rintro e w63 ⟨rfl, hb⟩; refine ⟨_, rfl, ?_⟩; have n0_ := Aside0.mk (Kd.R_below (by (with_reducible repeat (first | apply Kd.R_alloc | apply Kd.R_drewN | apply Kd.R_drew)); exact HO_4.out) hb); have n1_ := Aside0.mk (Kd.R_below (by (with_reducible repeat (first | apply Kd.R_alloc | apply Kd.R_drewN | apply Kd.R_drew)); exact HO_6.out) hb); have n2_ := Aside0.mk (blk_below (g := gb581) (o := .cells #[.string a0_0, .int .i64 a0_1, .int .i64 a0_2, .int .i64 a0_3, .int .i64 a0_4, .int .i64 a0_5, .int .i64 a0_6, .int .i64 a0_7, .string a0_8, .string a0_9, .bool a0_10] 31 (0, 0)) (by (with_reducible repeat (first | refine blk_drewN ?_ _ | refine blk_drew ?_ | refine blk_alloc ?_ _)); exact BK581.out) hb); have n3_ := Aside0.mk (below_step (by repeat (first | (with_reducible first | exact HB.out | apply below_alloc | apply pw_below_drewN | apply below_drew1 | refine below_set ?_ GE581.out) | exact HB.out)) hb); clear HO_4; clear HO_6; clear BK581; clear HB; have HO_4 := n0_; have HO_6 := n1_; have BK581 := n2_; have HB := n3_; clear n0_ n1_ n2_ n3_; (try clear hb); (try clear hb2); (try clear hk); (try clear hi)))
              go_ret
              exact ⟨by first | rfl | (simp [errW_none, errW_some] <;> rfl) | (simp [*, errW_none, errW_some] <;> rfl), by repeat (first | (with_reducible first | exact HB.out | apply below_alloc | apply pw_below_drewN | apply below_drew1 | refine below_set ?_ GE581.out) | exact HB.out)⟩
end
section
-- IMPORT Derived.Lib.Strings
theorem toList_nil_iff (s : ByteArray) : s.toList = [] ↔ s.size = 0 := by
  rw [Lib.toList_data, Lib.size_eq, List.length_eq_zero_iff]
theorem size_extract_le (s : ByteArray) (a b : Nat) (h : b ≤ s.size) : (s.extract a b).size = b - a := by
  rw [Lib.size_eq, Lib.extract_data, List.length_take, List.length_drop, ← Lib.size_eq]
  omega
end
section
-- IMPORT Derived.Laws.BitsLemmas
-- IMPORT Derived.OpenShut
/-- A mask of low bits is a remainder, of whatever number. -/
theorem and_low (x : Int) (j : Nat) (hj : j ≤ 62) : Go.bits .and .i64 x (2 ^ j - 1) = x % 2 ^ j := by
  have hm : ((2 : Int) ^ j - 1) = ((2 ^ j - 1 : Nat) : Int) := by
    rw [Int.natCast_sub (Nat.two_pow_pos j), Int.natCast_pow]; rfl
  have hlt : 2 ^ j - 1 < 2 ^ 64 := Nat.lt_of_lt_of_le (Nat.sub_lt (Nat.two_pow_pos j) (by decide)) (Nat.pow_le_pow_right (by decide) (by omega))
  have hle : (2 : Nat) ^ j ≤ 2 ^ 62 := Nat.pow_le_pow_right (by decide) hj
  have hd : (2 : Nat) ^ j ∣ 2 ^ 64 := Nat.pow_dvd_pow 2 (by omega)
  rw [hm]
  have hb : Go.bits .and .i64 x ((2 ^ j - 1 : Nat) : Int) = IntKind.i64.wrap (((BitVec.ofInt 64 x &&& BitVec.ofInt 64 ((2 ^ j - 1 : Nat) : Int)).toNat : Nat) : Int) := rfl
  rw [hb, BitVec.toNat_and, BitVec.ofInt_natCast, BitVec.toNat_ofNat, BitVec.toNat_ofInt, Nat.mod_eq_of_lt hlt, Nat.and_two_pow_sub_one_eq_mod, IntKind.wrap_i64]
  have e : (((x % ((2 ^ 64 : Nat) : Int)).toNat % 2 ^ j : Nat) : Int) = x % ((2 ^ j : Nat) : Int) := by
    rw [Int.natCast_emod, Int.toNat_of_nonneg (Int.emod_nonneg _ (by decide)), Int.emod_emod_of_dvd]
    exact Int.natCast_dvd_natCast.2 hd
  rw [e]
  have hp : (0 : Int) < ((2 ^ j : Nat) : Int) := by exact_mod_cast Nat.two_pow_pos j
  have h0 := Int.emod_nonneg x (Int.ne_of_gt hp)
  have h1 := Int.emod_lt_of_pos x hp
  have h2 : ((2 ^ j : Nat) : Int) ≤ ((4611686018427387904 : Nat) : Int) := Int.ofNat_le.2 (Nat.le_trans hle (by decide))
  have h3 : ((2 : Int) ^ j) = ((2 ^ j : Nat) : Int) := by rw [Int.natCast_pow]; rfl
  rw [h3, Int.emod_eq_of_lt (by omega) (by omega)]
  omega
theorem and32 (x : Int) : Go.bits .and .i64 x 4294967295 = x % 4294967296 := and_low x 32 (by decide)
theorem wrap_id {n : Int} (h0 : -9223372036854775808 ≤ n) (h1 : n ≤ 9223372036854775807) : wrap64 n = n := by
  unfold wrap64; omega
end
section
-- NEEDS spec.l01In impl.within
theorem l01In_eq (a b c : Int) : spec_l01In.f a b c = some (decide (b ≤ a ∧ a ≤ c)) := by unfold spec_l01In.f; grind
theorem within_eq (a b c : Int) : impl_within.f a b c = some (decide (b ≤ a ∧ a ≤ c)) := by unfold impl_within.f; grind
end
section
-- NEEDS spec.l01Ip impl.isAddress
theorem l01Ip_eq (a : Int) : spec_l01Ip.f a = some (decide (0 ≤ a ∧ a ≤ 4294967295)) := by simp only [spec_l01Ip.f, l01In_eq, Option.bind_some]
theorem isAddress_eq (a : Int) : impl_isAddress.f a = some (decide (0 ≤ a ∧ a ≤ 4294967295)) := by simp only [impl_isAddress.f, within_eq, Option.bind_some]
end
section
-- NEEDS spec.l02Port impl.isPort
theorem l02Port_eq (a : Int) : spec_l02Port.f a = some (decide (0 ≤ a ∧ a ≤ 65535)) := by simp only [spec_l02Port.f, l01In_eq, Option.bind_some]
theorem isPort_eq (a : Int) : impl_isPort.f a = some (decide (0 ≤ a ∧ a ≤ 65535)) := by simp only [impl_isPort.f, within_eq, Option.bind_some]
end
section
-- NEEDS spec.l10Seq impl.behind
theorem l10Seq_eq (a : Int) : spec_l10Seq.f a = some (a % 4294967296) := by simp only [spec_l10Seq.f, and32]
theorem behind_eq (a b : Int) (ha : 0 ≤ a ∧ a ≤ 4294967295) (hb : 0 ≤ b ∧ b ≤ 4294967295) : impl_behind.f a b = some ((a - b) % 4294967296) := by
  have e : wrap64 ((wrap64 (a - b)) + 4294967296) = a - b + 4294967296 := by rw [wrap_id (n := a - b) (by omega) (by omega), wrap_id (by omega) (by omega)]
  simp only [impl_behind.f, e]
  rw [Int.tmod_eq_emod_of_nonneg (by omega)]
  congr 1
  omega
end
section
-- NEEDS impl.ConnOK spec.ConnOK
/-- What stands behind the bounds. -/
def connRest (st una nxt : Int) (inn out : ByteArray) (fin : Bool) : Bool :=
  (fin == decide (st = 3)) && ((fin || decide (out.toList = [])) && ((!decide (st = 1) || decide (inn.toList = [])) && decide ((nxt - una) % 4294967296 = (out.size : Int) + (if fin = true then 1 else 0) + (if st = 1 then 1 else 0))))
def connOKb (mac : ByteArray) (ip port dst st una nxt want : Int) (inn out : ByteArray) (fin : Bool) : Bool :=
  decide ((mac.size : Int) = 6) && (decide (0 ≤ ip ∧ ip ≤ 4294967295) && (decide (0 ≤ port ∧ port ≤ 65535) && (decide (0 ≤ dst ∧ dst ≤ 4294967295) && (decide (1 ≤ st ∧ st ≤ 4) && (decide (0 ≤ una ∧ una ≤ 4294967295) && (decide (0 ≤ nxt ∧ nxt ≤ 4294967295) && (decide (0 ≤ want ∧ want ≤ 4294967295) &&
    (decide ((inn.size : Int) ≤ 300) && (decide ((out.size : Int) ≤ 300) && connRest st una nxt inn out fin)))))))))
theorem impl_ConnOK_j2 (k : Nat) (x : Bool) (mac : ByteArray) (ip port dst st una nxt want : Int) (inn out : ByteArray) (fin : Bool) (hu : 0 ≤ una ∧ una ≤ 4294967295) (hn : 0 ≤ nxt ∧ nxt ≤ 4294967295) (ho : (out.size : Int) ≤ 300) :
    impl_ConnOK.j2 (k + 1) x mac ip port dst st una nxt want inn out fin = some (!x && decide ((nxt - una) % 4294967296 = (out.size : Int) + (if fin = true then 1 else 0) + (if st = 1 then 1 else 0))) := by
  simp only [impl_ConnOK.j2, impl_oneIf.f, behind_eq nxt una hn hu, Option.bind_some]
  cases x
  · rw [if_neg (by decide)]
    cases fin <;> by_cases h1 : st = 1 <;> simp only [h1, Bool.false_eq_true, if_true, if_false, Option.bind_some, beq_iff_eq, beq_self_eq_true] <;> rw [wrap_id (n := wrap64 ((out.size : Int) + _) + _) (by rw [wrap_id (by omega) (by omega)]; omega) (by rw [wrap_id (by omega) (by omega)]; omega), wrap_id (by omega) (by omega)] <;> rfl
  · rfl
theorem impl_ConnOK_j1 (k : Nat) (x : Bool) (mac : ByteArray) (ip port dst st una nxt want : Int) (inn out : ByteArray) (fin : Bool) (hu : 0 ≤ una ∧ una ≤ 4294967295) (hn : 0 ≤ nxt ∧ nxt ≤ 4294967295) (ho : (out.size : Int) ≤ 300) :
    impl_ConnOK.j1 (k + 2) x mac ip port dst st una nxt want inn out fin = some (!x && connRest st una nxt inn out fin) := by
  simp only [impl_ConnOK.j1, impl_ConnOK_j2 k _ mac ip port dst st una nxt want inn out fin hu hn ho, connRest]
  cases x
  · cases fin <;> by_cases h1 : st = 1 <;> by_cases h3 : st = 3 <;> by_cases ho : out.toList = [] <;> by_cases hi : inn.toList = [] <;> simp [h1, h3, ho, hi]
    all_goals omega
  · rfl
theorem gt_le_b (n : Int) (m : Int) : decide (n > m) = !decide (n ≤ m) := by by_cases h : n ≤ m <;> simp [h]; omega
theorem impl_ConnOK_j0 (k : Nat) (x : Bool) (mac : ByteArray) (ip port dst st una nxt want : Int) (inn out : ByteArray) (fin : Bool) :
    impl_ConnOK.j0 (k + 3) x mac ip port dst st una nxt want inn out fin = some (!x && (decide (0 ≤ una ∧ una ≤ 4294967295) && (decide (0 ≤ nxt ∧ nxt ≤ 4294967295) && (decide (0 ≤ want ∧ want ≤ 4294967295) && (decide ((inn.size : Int) ≤ 300) && (decide ((out.size : Int) ≤ 300) && connRest st una nxt inn out fin)))))) := by
  have hj := fun y => impl_ConnOK_j1 k y mac ip port dst st una nxt want inn out fin
  have ht : impl_ConnOK.j1 (k + 2) true mac ip port dst st una nxt want inn out fin = some false := by simp [impl_ConnOK.j1]
  simp only [impl_ConnOK.j0, isAddress_eq, Option.bind_some, gt_le_b]
  by_cases hi : (inn.size : Int) ≤ 300
  · rw [if_neg (show ¬ (inn.size : Int) > 300 by omega), decide_eq_true hi]
    by_cases ho : (out.size : Int) ≤ 300
    · rw [decide_eq_true ho]
      by_cases hu : 0 ≤ una ∧ una ≤ 4294967295
      · by_cases hn : 0 ≤ nxt ∧ nxt ≤ 4294967295
        · rw [decide_eq_true hu, decide_eq_true hn, ht, hj _ hu hn ho]
          generalize decide (0 ≤ want ∧ want ≤ 4294967295) = q
          cases x <;> cases q <;> simp
        · rw [decide_eq_true hu, decide_eq_false hn, ht]
          cases x <;> simp
      · rw [decide_eq_false hu, ht]
        cases x <;> simp
    · rw [decide_eq_false ho, Bool.not_false, ht]
      generalize decide (0 ≤ want ∧ want ≤ 4294967295) = q
      generalize decide (0 ≤ una ∧ una ≤ 4294967295) = q1
      generalize decide (0 ≤ nxt ∧ nxt ≤ 4294967295) = q2
      cases x <;> cases q <;> cases q1 <;> cases q2 <;> simp
  · rw [if_pos (show (inn.size : Int) > 300 by omega), decide_eq_false hi, ht]
    generalize decide (0 ≤ want ∧ want ≤ 4294967295) = q
    generalize decide (0 ≤ una ∧ una ≤ 4294967295) = q1
    generalize decide (0 ≤ nxt ∧ nxt ≤ 4294967295) = q2
    cases x <;> cases q <;> cases q1 <;> cases q2 <;> simp
theorem impl_ConnOK_eq (k : Nat) (mac : ByteArray) (ip port dst st una nxt want : Int) (inn out : ByteArray) (fin : Bool) :
    impl_ConnOK.f (k + 3) mac ip port dst st una nxt want inn out fin = some (connOKb mac ip port dst st una nxt want inn out fin) := by
  have e : ((mac.size : Int) == 6) = decide ((mac.size : Int) = 6) := rfl
  simp only [impl_ConnOK.f, impl_ConnOK_j0, impl_macOK.f, isAddress_eq, isPort_eq, within_eq, Option.bind_some, connOKb, e]
  generalize decide ((mac.size : Int) = 6) = p1
  generalize decide (0 ≤ ip ∧ ip ≤ 4294967295) = p2
  generalize decide (0 ≤ port ∧ port ≤ 65535) = p3
  generalize decide (0 ≤ dst ∧ dst ≤ 4294967295) = p4
  cases p1 <;> cases p2 <;> cases p3 <;> cases p4 <;> simp
theorem spec_ConnOK_j1 (k : Nat) (x : Bool) (mac : ByteArray) (ip port dst st una nxt want : Int) (inn out : ByteArray) (fin : Bool) (hu : 0 ≤ una ∧ una ≤ 4294967295) (hn : 0 ≤ nxt ∧ nxt ≤ 4294967295) (ho : (out.size : Int) ≤ 300) :
    spec_ConnOK.j1 (k + 1) x mac ip port dst st una nxt want inn out fin = some (!x && decide ((nxt - una) % 4294967296 = (out.size : Int) + (if fin = true then 1 else 0) + (if st = 1 then 1 else 0))) := by
  simp only [spec_ConnOK.j1, spec_l10Sent.f, spec_l01Bit.f, l10Seq_eq, Option.bind_some]
  rw [wrap_id (n := nxt - una) (by omega) (by omega)]
  cases x
  · rw [if_neg (by decide)]
    cases fin <;> by_cases h1 : st = 1 <;> simp only [h1, Bool.false_eq_true, if_true, if_false, Option.bind_some, beq_iff_eq, beq_self_eq_true] <;> rw [wrap_id (n := wrap64 ((out.size : Int) + _) + _) (by rw [wrap_id (by omega) (by omega)]; omega) (by rw [wrap_id (by omega) (by omega)]; omega), wrap_id (by omega) (by omega)] <;> rfl
  · rfl
theorem spec_ConnOK_j0 (k : Nat) (x : Bool) (mac : ByteArray) (ip port dst st una nxt want : Int) (inn out : ByteArray) (fin : Bool) (hu : 0 ≤ una ∧ una ≤ 4294967295) (hn : 0 ≤ nxt ∧ nxt ≤ 4294967295) (ho : (out.size : Int) ≤ 300) :
    spec_ConnOK.j0 (k + 2) x mac ip port dst st una nxt want inn out fin = some (!x && connRest st una nxt inn out fin) := by
  simp only [spec_ConnOK.j0, spec_ConnOK_j1 k _ mac ip port dst st una nxt want inn out fin hu hn ho, connRest]
  cases x
  · cases fin <;> by_cases h1 : st = 1 <;> by_cases h3 : st = 3 <;> by_cases ho : out.toList = [] <;> by_cases hi : inn.toList = [] <;> simp [h1, h3, ho, hi]
    all_goals omega
  · rfl
theorem spec_ConnOK_eq (k : Nat) (mac : ByteArray) (ip port dst st una nxt want : Int) (inn out : ByteArray) (fin : Bool) :
    spec_ConnOK.f (k + 2) mac ip port dst st una nxt want inn out fin = some (connOKb mac ip port dst st una nxt want inn out fin) := by
  have e : ((mac.size : Int) == 6) = decide ((mac.size : Int) = 6) := rfl
  have hj := fun y => spec_ConnOK_j0 k y mac ip port dst st una nxt want inn out fin
  have ht : spec_ConnOK.j0 (k + 2) true mac ip port dst st una nxt want inn out fin = some false := by simp [spec_ConnOK.j0]
  simp only [spec_ConnOK.f, spec_l01Mac.f, spec_l07Ask.f, l01Ip_eq, l02Port_eq, l01In_eq, Option.bind_some, connOKb, e, ht, gt_le_b]
  generalize decide ((mac.size : Int) = 6) = p1
  generalize decide (0 ≤ ip ∧ ip ≤ 4294967295) = p2
  generalize decide (0 ≤ port ∧ port ≤ 65535) = p3
  generalize decide (0 ≤ dst ∧ dst ≤ 4294967295) = p4
  generalize decide (1 ≤ st ∧ st ≤ 4) = p5
  generalize decide (0 ≤ want ∧ want ≤ 4294967295) = p6
  by_cases hi : (inn.size : Int) ≤ 300
  · rw [if_neg (show ¬ (inn.size : Int) > 300 by omega), decide_eq_true hi]
    by_cases hu : 0 ≤ una ∧ una ≤ 4294967295
    · by_cases hn : 0 ≤ nxt ∧ nxt ≤ 4294967295
      · by_cases ho : (out.size : Int) ≤ 300
        · rw [decide_eq_true hu, decide_eq_true hn, decide_eq_true ho, hj _ hu hn ho]
          cases p1 <;> cases p2 <;> cases p3 <;> cases p4 <;> cases p5 <;> cases p6 <;> simp
        · rw [decide_eq_true hu, decide_eq_true hn, decide_eq_false ho, Bool.not_false, ht]
          cases p1 <;> cases p2 <;> cases p3 <;> cases p4 <;> cases p5 <;> cases p6 <;> simp
      · rw [decide_eq_true hu, decide_eq_false hn]
        cases p1 <;> cases p2 <;> cases p3 <;> cases p4 <;> cases p5 <;> simp
    · rw [decide_eq_false hu]
      cases p1 <;> cases p2 <;> cases p3 <;> cases p4 <;> cases p5 <;> simp
  · rw [if_pos (show (inn.size : Int) > 300 by omega), decide_eq_false hi]
    generalize decide (0 ≤ una ∧ una ≤ 4294967295) = p7
    generalize decide (0 ≤ nxt ∧ nxt ≤ 4294967295) = p8
    cases p1 <;> cases p2 <;> cases p3 <;> cases p4 <;> cases p5 <;> cases p6 <;> cases p7 <;> cases p8 <;> simp
end
section
-- NEEDS impl.onward
theorem onward_eq (a n : Int) (ha : 0 ≤ a ∧ a ≤ 4294967295) (hn : 0 ≤ n ∧ n ≤ 4294967295) : impl_onward.f a n = some ((a + n) % 4294967296) := by
  simp only [impl_onward.f]
  rw [wrap_id (by omega) (by omega), Int.tmod_eq_emod_of_nonneg (by omega)]
end
section
-- NEEDS impl.ConnSay spec.ConnSay spec.l10Pieces
theorem pieces_same (c0 : ByteArray) (c1 c2 c3 c4 c5 c6 c7 : Int) (c8 c9 : ByteArray) (c10 : Bool) : ∀ (d : Nat) (from_ : Int) (t : ByteArray) (acc : List S53), t.size ≤ d → 0 ≤ from_ → from_ ≤ 4294967295 → acc.length + d ≤ 1000000 →
    ∃ r : List S53, r.length ≤ acc.length + d + 1 ∧ Ev (fun k => impl_Conn_pieces.l0 k from_ t acc c0 c1 c2 c3 c4 c5 c6 c7 c8 c9 c10) r ∧ Ev (fun k => spec_l10Pieces.l0 k from_ t true acc c0 c1 c2 c3 c4 c5 c6 c7 c8 c9 c10) r := by
  intro d
  induction d with
  | zero =>
    intro from_ t acc ht h0 h1 ha
    have hz : t.size = 0 := by omega
    refine ⟨acc ++ [⟨80, c2, from_, c7, 17, 1000, (⟨#[]⟩ : ByteArray)⟩], ?_, ⟨1, fun k hk => ?_⟩, ⟨1, fun k hk => ?_⟩⟩
    rotate_left
    · obtain ⟨k, rfl⟩ : ∃ q, k = q + 1 := ⟨k - 1, by omega⟩
      simp only [impl_Conn_pieces.l0]
      rw [if_pos ((toList_nil_iff t).2 hz)]
      simp only [impl_Conn_tell.f, Option.bind_some]
      rw [if_pos (by omega)]
    · obtain ⟨k, rfl⟩ : ∃ q, k = q + 1 := ⟨k - 1, by omega⟩
      simp only [spec_l10Pieces.l0]
      rw [if_neg (by omega)]
      simp only [spec_l10Reply.f, Option.bind_some, if_true]
      rw [if_pos (by omega)]
    · simp
  | succ d ih =>
    intro from_ t acc ht h0 h1 ha
    by_cases hz : t.size = 0
    · refine ⟨acc ++ [⟨80, c2, from_, c7, 17, 1000, (⟨#[]⟩ : ByteArray)⟩], ?_, ⟨1, fun k hk => ?_⟩, ⟨1, fun k hk => ?_⟩⟩
      rotate_left
      · obtain ⟨k, rfl⟩ : ∃ q, k = q + 1 := ⟨k - 1, by omega⟩
        simp only [impl_Conn_pieces.l0]
        rw [if_pos ((toList_nil_iff t).2 hz)]
        simp only [impl_Conn_tell.f, Option.bind_some]
        rw [if_pos (by omega)]
      · obtain ⟨k, rfl⟩ : ∃ q, k = q + 1 := ⟨k - 1, by omega⟩
        simp only [spec_l10Pieces.l0]
        rw [if_neg (by omega)]
        simp only [spec_l10Reply.f, Option.bind_some, if_true]
        rw [if_pos (by omega)]
      · simp
    · obtain ⟨n, hn⟩ : ∃ n : Int, mn (t.size : Int) 200 = n := ⟨_, rfl⟩
      have hn1 : 1 ≤ n ∧ n ≤ 200 ∧ n ≤ (t.size : Int) := by
        rw [← hn]
        unfold mn
        split <;> omega
      have hsz : (t.extract n.toNat t.size).size ≤ d := by rw [size_extract_le t n.toNat t.size (Nat.le_refl _)]; omega
      obtain ⟨r, hr, he1, he2⟩ := ih ((from_ + n) % 4294967296) (t.extract n.toNat t.size) (acc ++ [⟨80, c2, from_, c7, 24, 1000, t.extract 0 n.toNat⟩]) hsz (by omega) (by omega) (by simp; omega)
      refine ⟨r, by simp at hr; omega, Ev.step (fun k => ?_) he1, Ev.step (fun k => ?_) he2⟩
      · simp only [impl_Conn_pieces.l0, hn]
        rw [if_neg (by rw [toList_nil_iff]; exact hz), if_pos (by omega), if_pos hn1.2.2]
        simp only [impl_Conn_tell.f, Option.bind_some]
        rw [if_pos (by omega), onward_eq from_ n ⟨h0, h1⟩ (by omega)]
        simp only [Option.bind_some]
      · have w : wrap64 (from_ + n) = from_ + n := wrap_id (by omega) (by omega)
        simp only [spec_l10Pieces.l0, hn]
        rw [if_pos (by omega), if_pos (by omega), if_pos hn1.2.2]
        simp only [spec_l10Reply.f, Option.bind_some]
        rw [if_pos (by omega)]
        simp only [w, l10Seq_eq, Option.bind_some]
end
section
-- NEEDS impl.ConnAgain spec.ConnAgain impl.ConnSay
theorem connOKb_facts {m : ByteArray} {ip port dst st una nxt want : Int} {inn out : ByteArray} {fin : Bool} (h : connOKb m ip port dst st una nxt want inn out fin = true) :
    (1 ≤ st ∧ st ≤ 4) ∧ (0 ≤ una ∧ una ≤ 4294967295) ∧ (0 ≤ nxt ∧ nxt ≤ 4294967295) ∧ (0 ≤ want ∧ want ≤ 4294967295) ∧ (inn.size : Int) ≤ 300 ∧ (out.size : Int) ≤ 300 ∧ (fin = true ↔ st = 3) ∧ (fin = false → out.size = 0) ∧ (st = 1 → inn.size = 0) ∧
    (nxt - una) % 4294967296 = (out.size : Int) + (if fin = true then 1 else 0) + (if st = 1 then 1 else 0) := by
  simp only [connOKb, connRest, Bool.and_eq_true, decide_eq_true_eq, beq_iff_eq, Bool.or_eq_true, Bool.not_eq_true', decide_eq_false_iff_not, toList_nil_iff] at h
  obtain ⟨_, _, _, _, h5, h6, h7, h8, h9, h10, h11, h12, h13, h14⟩ := h
  refine ⟨h5, h6, h7, h8, h9, h10, ?_, ?_, ?_, h14⟩
  · rw [h11, decide_eq_true_eq]
  · intro hf
    rcases h12 with h12 | h12
    · rw [h12] at hf; cases hf
    · exact h12
  · intro hs
    rcases h13 with h13 | h13
    · exact absurd hs h13
    · exact h13
theorem ConnAgain_same (m : ByteArray) (ip port dst st una nxt want : Int) (inn out : ByteArray) (fin : Bool) :
    ∃ r : List S53 × Int, r.1.length ≤ 400 ∧ Ev (fun k => impl_ConnAgain.f k m ip port dst st una nxt want inn out fin) r ∧ Ev (fun k => spec_ConnAgain.f k m ip port dst st una nxt want inn out fin) r := by
  have ei : Ev (fun k => impl_ConnOK.f k m ip port dst st una nxt want inn out fin) (connOKb m ip port dst st una nxt want inn out fin) := ⟨3, fun k hk => by
    obtain ⟨k, rfl⟩ : ∃ q, k = q + 3 := ⟨k - 3, by omega⟩
    exact impl_ConnOK_eq k m ip port dst st una nxt want inn out fin⟩
  have es : Ev (fun k => spec_ConnOK.f k m ip port dst st una nxt want inn out fin) (connOKb m ip port dst st una nxt want inn out fin) := ⟨2, fun k hk => by
    obtain ⟨k, rfl⟩ : ∃ q, k = q + 2 := ⟨k - 2, by omega⟩
    exact spec_ConnOK_eq k m ip port dst st una nxt want inn out fin⟩
  cases hok : connOKb m ip port dst st una nxt want inn out fin
  · rw [hok] at ei es
    refine ⟨([], 1), by simp, Ev.bind ei ?_, Ev.bind es ?_⟩
    · exact Ev.congr (fun k => if_neg (by decide)) (Ev.now _)
    · exact Ev.congr (fun k => if_neg (by decide)) (Ev.now _)
  · rw [hok] at ei es
    obtain ⟨h5, h6, h7, h8, h9, h10, hf, ho, hin, _⟩ := connOKb_facts hok
    by_cases h1 : st = 1
    · refine ⟨([⟨80, port, una, want, 18, 1000, (⟨#[]⟩ : ByteArray)⟩], 0), by simp, Ev.bind ei ?_, Ev.bind es ?_⟩
      · refine Ev.congr (fun k => ?_) (Ev.now _)
        simp only [if_true, impl_Conn_again.f]
        rw [if_pos h1]
        simp only [impl_Conn_opened.f, impl_Conn_tell.f, Option.bind_some]
      · refine Ev.congr (fun k => ?_) (Ev.now _)
        simp only [if_true, spec_l10Again.f]
        rw [if_pos h1]
        simp only [spec_l10Reply.f, Option.bind_some]
    · cases fin
      · have h3 : ¬ st = 3 := fun h => by simpa using hf.2 h
        refine ⟨([], 0), by simp, Ev.bind ei ?_, Ev.bind es ?_⟩
        · refine Ev.congr (fun k => ?_) (Ev.now _)
          simp only [if_true, impl_Conn_again.f]
          rw [if_neg h1, if_neg (by decide)]
          rfl
        · by_cases h4 : st = 4
          · refine Ev.congr (fun k => ?_) (Ev.now _)
            simp only [if_true, spec_l10Again.f]
            rw [if_neg h1, if_pos h4]
            rfl
          · refine ⟨1, fun k hk => ?_⟩
            obtain ⟨k, rfl⟩ : ∃ q, k = q + 1 := ⟨k - 1, by omega⟩
            simp only [if_true, spec_l10Again.f]
            rw [if_neg h1, if_neg h4]
            have hz := ho rfl
            simp only [spec_l10Pieces.f, spec_l10Pieces.l0]
            rw [if_neg (by omega), if_neg (by decide)]
            rfl
      · have h3 : st = 3 := hf.1 rfl
        obtain ⟨r, hr, e1, e2⟩ := pieces_same m ip port dst st una nxt want inn out true out.size una out [] (Nat.le_refl _) h6.1 h6.2 (by simp; omega)
        refine ⟨(r, 0), by simp at hr; simp; omega, Ev.bind ei ?_, Ev.bind es ?_⟩
        · refine Ev.congr (f := fun k => ((impl_Conn_pieces.l0 k una out [] m ip port dst st una nxt want inn out true).bind fun t => (some t)).bind fun t => some (t, 0)) (fun k => ?_) (Ev.bind (Ev.bind e1 (Ev.now _)) (Ev.now _))
          simp only [if_true, impl_Conn_again.f]
          rw [if_neg h1]
          rfl
        · refine Ev.congr (f := fun k => ((spec_l10Pieces.l0 k una out true [] m ip port dst st una nxt want inn out true).bind fun t => (some t)).bind fun t => some (t, 0)) (fun k => ?_) (Ev.bind (Ev.bind e2 (Ev.now _)) (Ev.now _))
          simp only [if_true, spec_l10Again.f]
          rw [if_neg h1, if_neg (by omega)]
          rfl
end
section
theorem eq_T53_refl (x : S53) : laws_eqSegment.f (x.f0) (x.f1) (x.f2) (x.f3) (x.f4) (x.f5) (x.f6) (x.f0) (x.f1) (x.f2) (x.f3) (x.f4) (x.f5) (x.f6) = some true := by
  unfold laws_eqSegment.f
  repeat' (first | rw [if_pos rfl] | rfl | rw [if_neg (by simp)])
  all_goals simp
theorem eqS_T53_l0 (xs : List S53) : ∀ (d : Nat) (i : Int), 0 ≤ i → (xs.length : Int) - i = d → (xs.length : Int) ≤ 1152921504606846976 → Ev (fun k => laws_eqSegmentS.l0 k xs xs i) true := by
  intro d
  induction d with
  | zero =>
    intro i h0 hd hx
    refine ⟨1, fun k hk => ?_⟩
    obtain ⟨k, rfl⟩ : ∃ q, k = q + 1 := ⟨k - 1, by omega⟩
    simp only [laws_eqSegmentS.l0]
    rw [if_neg (by omega)]
  | succ d ih =>
    intro i h0 hd hx
    have hlt : i < (xs.length : Int) := by omega
    have ei : wrap64 (i + 1) = i + 1 := wrap_id (by omega) (by omega)
    refine Ev.step (f := fun k => laws_eqSegmentS.l0 k xs xs (i + 1)) (fun k => ?_) (ih (i + 1) (by omega) (by omega) hx)
    simp only [laws_eqSegmentS.l0, ei]
    rw [if_pos hlt, if_pos h0, if_pos hlt]
    simp only [eq_T53_refl, Option.bind_some, if_true]
theorem eqS_T53_ev (xs : List S53) (hx : (xs.length : Int) ≤ 1152921504606846976) : Ev (fun k => laws_eqSegmentS.f k xs xs) true := by
  refine Ev.congr (f := fun k => laws_eqSegmentS.l0 k xs xs 0) (fun k => ?_) (eqS_T53_l0 xs xs.length 0 (by omega) (by omega) hx)
  simp only [laws_eqSegmentS.f, if_true]
end
section
theorem markText_l0 : ∀ (d : Nat) (n : Int) (s : ByteArray), 0 ≤ n → n.toNat ≤ d → s.size + n.toNat ≤ 4611686018427387904 → ∃ t, laws_markText.l0 (d + 1) n s = some t := by
  intro d
  induction d with
  | zero =>
    intro n s h0 hd hs
    have e : n = 0 := by omega
    subst e
    simp only [laws_markText.l0]
    rw [if_neg (by omega), if_pos (by omega)]
    exact ⟨_, rfl⟩
  | succ d ih =>
    intro n s h0 hd hs
    by_cases hn : n > 0
    · unfold laws_markText.l0
      rw [if_pos hn]
      simp only [Option.bind_some]
      have hz : (strOfNums [wrap64 (48 + Int.tmod n 10) % 256]).size = 1 := rfl
      rw [if_pos (by rw [hz]; omega)]
      have hq : wrap64 (Int.tdiv n 10) = n / 10 := by
        rw [Int.tdiv_eq_ediv_of_nonneg h0]
        exact wrap_id (by omega) (by omega)
      rw [hq]
      refine ih (n / 10) _ (by omega) (by omega) ?_
      rw [ByteArray.size_append, hz]
      omega
    · unfold laws_markText.l0
      rw [if_neg hn, if_pos (by omega)]
      exact ⟨_, rfl⟩
theorem markText_ev (n : Int) (h : n ≤ 2305843009213693952) : ∃ t, Ev (fun k => laws_markText.f k n) t := by
  by_cases h0 : n ≤ 0
  · exact ⟨_, 0, fun k _ => by simp only [laws_markText.f]; rw [if_pos h0]⟩
  · obtain ⟨t, ht⟩ := markText_l0 n.toNat n ⟨#[]⟩ (by omega) (Nat.le_refl _) (by show 0 + _ ≤ _; omega)
    refine ⟨t, Ev.of (laws_markText.mono n) (k := n.toNat + 1) ?_⟩
    simp only [laws_markText.f]
    rw [if_neg h0]
    exact ht
/-- The text that marks a number. -/
noncomputable def mtx (n : Int) : ByteArray := @Classical.epsilon ByteArray ⟨⟨#[]⟩⟩ (fun t => Ev (fun k => laws_markText.f k n) t)
theorem mtx_ev (n : Int) (h : n ≤ 2305843009213693952) : Ev (fun k => laws_markText.f k n) (mtx n) := Classical.epsilon_spec (p := fun t => Ev (fun k => laws_markText.f k n) t) (markText_ev n h)
end
section
theorem rdset_T53 {xs : List S53} {i : Int} (h : i.toNat < xs.length) (v : S53) : rd_T53 (xs.set i.toNat v) i = v := by
  unfold rd_T53
  rw [List.getD_eq_getElem?_getD, List.getElem?_set_self h]
  rfl
theorem rdset_ne_T53 {xs : List S53} {i j : Int} (h0 : 0 ≤ i) (h1 : 0 ≤ j) (h : i ≠ j) (v : S53) : rd_T53 (xs.set i.toNat v) j = rd_T53 xs j := by
  unfold rd_T53
  rw [List.getD_eq_getElem?_getD, List.getElem?_set_ne (by omega), ← List.getD_eq_getElem?_getD]
end
section
noncomputable def mk_T53 (n : Int) : S53 := (⟨n, n + 1, n + 1 + 1, n + 1 + 1 + 1, n + 1 + 1 + 1 + 1, n + 1 + 1 + 1 + 1 + 1, mtx (n + 1 + 1 + 1 + 1 + 1 + 1)⟩ : S53)
set_option maxHeartbeats 2000000 in
theorem mark_T53_l0 : ∀ (d : Nat) (xs : List S53) (m i : Int), 0 ≤ i → (xs.length : Int) - i = d → 0 ≤ m → m + 7 * d ≤ 1152921504606846976 → (xs.length : Int) ≤ 1152921504606846976 →
    ∃ ys : List S53, Ev (fun k => laws_markSegmentS.l0 k xs m i) (m + 7 * d, ys) ∧ ys.length = xs.length ∧ (∀ j : Int, 0 ≤ j → j < i → rd_T53 ys j = rd_T53 xs j) ∧ (∀ j : Int, i ≤ j → j < xs.length → rd_T53 ys j = mk_T53 (m + 7 * (j - i))) := by
  intro d
  induction d with
  | zero =>
    intro xs m i h0 hd hm hb hx
    refine ⟨xs, ⟨1, fun k hk => ?_⟩, rfl, fun _ _ _ => rfl, fun j h1 h2 => by omega⟩
    obtain ⟨k, rfl⟩ : ∃ q, k = q + 1 := ⟨k - 1, by omega⟩
    simp only [laws_markSegmentS.l0]
    rw [if_neg (by omega)]
    simp
  | succ d ih =>
    intro xs m i h0 hd hm hb hx
    have hlt : i < (xs.length : Int) := by omega
    have hn : i.toNat < xs.length := by omega
    have e0 : wrap64 (m + 1) = m + 1 := wrap_id (by omega) (by omega)
    have e1 : wrap64 (m + 1 + 1) = m + 1 + 1 := wrap_id (by omega) (by omega)
    have e2 : wrap64 (m + 1 + 1 + 1) = m + 1 + 1 + 1 := wrap_id (by omega) (by omega)
    have e3 : wrap64 (m + 1 + 1 + 1 + 1) = m + 1 + 1 + 1 + 1 := wrap_id (by omega) (by omega)
    have e4 : wrap64 (m + 1 + 1 + 1 + 1 + 1) = m + 1 + 1 + 1 + 1 + 1 := wrap_id (by omega) (by omega)
    have e5 : wrap64 (m + 1 + 1 + 1 + 1 + 1 + 1) = m + 1 + 1 + 1 + 1 + 1 + 1 := wrap_id (by omega) (by omega)
    have e6 : wrap64 (m + 1 + 1 + 1 + 1 + 1 + 1 + 1) = m + 1 + 1 + 1 + 1 + 1 + 1 + 1 := wrap_id (by omega) (by omega)
    have ei : wrap64 (i + 1) = i + 1 := wrap_id (by omega) (by omega)
    have hl : (xs.set i.toNat (mk_T53 m)).length = xs.length := List.length_set
    obtain ⟨ys, hev, hlen, hold, hnew⟩ := ih (xs.set i.toNat (mk_T53 m)) (m + 1 + 1 + 1 + 1 + 1 + 1 + 1) (i + 1) (by omega) (by rw [hl]; omega) (by omega) (by omega) (by rw [hl]; omega)
    rw [hl] at hlen hnew
    refine ⟨ys, ?_, hlen, fun j h1 h2 => ?_, fun j h1 h2 => ?_⟩
    · have hr : m + 7 * ((d + 1 : Nat) : Int) = m + 1 + 1 + 1 + 1 + 1 + 1 + 1 + 7 * (d : Int) := by omega
      rw [hr]
      refine Ev.step (f := fun k => (laws_markText.f k (m + 1 + 1 + 1 + 1 + 1 + 1)).bind fun t6 => laws_markSegmentS.l0 k (xs.set i.toNat (⟨m, m + 1, m + 1 + 1, m + 1 + 1 + 1, m + 1 + 1 + 1 + 1, m + 1 + 1 + 1 + 1 + 1, t6⟩ : S53)) (m + 1 + 1 + 1 + 1 + 1 + 1 + 1) (i + 1)) (fun k => ?_) ?_
      · simp only [laws_markSegmentS.l0]
        rw [if_pos hlt, if_pos h0]
        simp only [Option.bind_some, List.set_set, rdset_T53 hn, e0, e1, e2, e3, e4, e5, e6, ei]
      · exact Ev.bind (mtx_ev (m + 1 + 1 + 1 + 1 + 1 + 1) (by omega)) (hev)
    · rw [hold j h1 (by omega), rdset_ne_T53 h0 h1 (by omega)]
    · by_cases hji : j = i
      · subst hji
        rw [hold j h0 (by omega), rdset_T53 hn]
        congr 1
        omega
      · rw [hnew j (by omega) h2]
        congr 1
        omega
theorem mark_T53_ev (xs : List S53) (m : Int) (hm : 0 ≤ m) (hb : m + 7 * xs.length ≤ 1152921504606846976) :
    ∃ ys : List S53, Ev (fun k => laws_markSegmentS.f k xs m) (m + 7 * xs.length, ys) ∧ ys.length = xs.length ∧ ∀ j : Int, 0 ≤ j → j < xs.length → rd_T53 ys j = mk_T53 (m + 7 * j) := by
  obtain ⟨ys, hev, hlen, _, hnew⟩ := mark_T53_l0 xs.length xs m 0 (by omega) (by omega) hm hb (by omega)
  exact ⟨ys, hev, hlen, fun j h1 h2 => by have := hnew j h1 h2; rw [Int.sub_zero] at this; exact this⟩
set_option maxHeartbeats 2000000 in
theorem held_T53_l0 : ∀ (d : Nat) (ys : List S53) (m i : Int), 0 ≤ i → (ys.length : Int) - i = d → 0 ≤ m → m + 7 * d ≤ 1152921504606846976 → (ys.length : Int) ≤ 1152921504606846976 →
    (∀ j : Int, i ≤ j → j < ys.length → rd_T53 ys j = mk_T53 (m + 7 * (j - i))) → Ev (fun k => laws_heldSegmentS.l0 k ys m i) (m + 7 * d) := by
  intro d
  induction d with
  | zero =>
    intro ys m i h0 hd hm hb hx _
    refine ⟨1, fun k hk => ?_⟩
    obtain ⟨k, rfl⟩ : ∃ q, k = q + 1 := ⟨k - 1, by omega⟩
    simp only [laws_heldSegmentS.l0]
    rw [if_neg (by omega)]
    simp
  | succ d ih =>
    intro ys m i h0 hd hm hb hx hy
    have hlt : i < (ys.length : Int) := by omega
    have e0 : wrap64 (m + 1) = m + 1 := wrap_id (by omega) (by omega)
    have e1 : wrap64 (m + 1 + 1) = m + 1 + 1 := wrap_id (by omega) (by omega)
    have e2 : wrap64 (m + 1 + 1 + 1) = m + 1 + 1 + 1 := wrap_id (by omega) (by omega)
    have e3 : wrap64 (m + 1 + 1 + 1 + 1) = m + 1 + 1 + 1 + 1 := wrap_id (by omega) (by omega)
    have e4 : wrap64 (m + 1 + 1 + 1 + 1 + 1) = m + 1 + 1 + 1 + 1 + 1 := wrap_id (by omega) (by omega)
    have e5 : wrap64 (m + 1 + 1 + 1 + 1 + 1 + 1) = m + 1 + 1 + 1 + 1 + 1 + 1 := wrap_id (by omega) (by omega)
    have e6 : wrap64 (m + 1 + 1 + 1 + 1 + 1 + 1 + 1) = m + 1 + 1 + 1 + 1 + 1 + 1 + 1 := wrap_id (by omega) (by omega)
    have ei : wrap64 (i + 1) = i + 1 := wrap_id (by omega) (by omega)
    have hev := ih ys (m + 1 + 1 + 1 + 1 + 1 + 1 + 1) (i + 1) (by omega) (by omega) (by omega) (by omega) hx (fun j h1 h2 => by rw [hy j (by omega) h2]; congr 1; omega)
    have hri : rd_T53 ys i = mk_T53 m := by rw [hy i (by omega) hlt]; congr 1; omega
    have hr : m + 7 * ((d + 1 : Nat) : Int) = m + 1 + 1 + 1 + 1 + 1 + 1 + 1 + 7 * (d : Int) := by omega
    rw [hr]
    refine Ev.step (f := fun k => (laws_markText.f k (m + 1 + 1 + 1 + 1 + 1 + 1)).bind fun t6 => if (mtx (m + 1 + 1 + 1 + 1 + 1 + 1)).toList = t6.toList then laws_heldSegmentS.l0 k ys (m + 1 + 1 + 1 + 1 + 1 + 1 + 1) (i + 1) else some (-1)) (fun k => ?_) ?_
    · simp only [laws_heldSegmentS.l0]
      rw [if_pos hlt, if_pos h0]
      simp only [hri, mk_T53, e0, e1, e2, e3, e4, e5, e6, ei, if_true, bne_self_eq_false, Bool.false_eq_true, if_false]
    · exact Ev.bind (mtx_ev (m + 1 + 1 + 1 + 1 + 1 + 1) (by omega)) (Ev.congr (fun k => if_pos rfl) (hev))
theorem held_T53_ev (ys : List S53) (m : Int) (hm : 0 ≤ m) (hb : m + 7 * ys.length ≤ 1152921504606846976) (hy : ∀ j : Int, 0 ≤ j → j < ys.length → rd_T53 ys j = mk_T53 (m + 7 * j)) :
    Ev (fun k => laws_heldSegmentS.f k ys m) (m + 7 * ys.length) :=
  held_T53_l0 ys.length ys m 0 (by omega) (by omega) hm hb (by omega) (fun j h1 h2 => by rw [Int.sub_zero]; exact hy j h1 h2)
end
section
-- IMPORT Derived.SizedLaws
-- IMPORT Derived.ProofKit
-- IMPORT Derived.WalkKit
-- IMPORT Derived.OpenShut
-- IMPORT Derived.ShutString
-- IMPORT Derived.ChangeOld
-- IMPORT Derived.Below
-- IMPORT Derived.Deep.Slices
open Go.ChangeShapes Go.WideShapes Go.ChangeAt Go.Deep
/-- What reads as data of type t is a value of the kind d, and meets wf. -/
structure Opens (P : Program) (t : TypeId) {α : Type} (d : Kd α) (wf : α → Prop) : Prop where
  sz : P.cellsOf t = d.sz
  op : ∀ {H : Type} {enc : TypeId × Value → H} {w : World} {fuel : Nat} {cs : List Value} {y : DataW H × List MemPlace}, DataW.trod enc P w 0 (fun _ => true) true fuel t cs = some y → (∀ n ∈ y.1.weights P t, n ≤ reachBytes) → ∃ x, d.K w x cs ∧ wf x
theorem Opens.int {P : Program} {t : TypeId} {k : IntKind} (hu : P.underlying t = some (.int k)) (hc : P.cellsOf t = 1) : Opens P t (Kd.int k) (fun n => (Lit.int k n).wf = true) :=
  ⟨hc, fun h _ => by obtain ⟨n, rfl, rfl, wf⟩ := DataW.trod_int hu h; exact ⟨n, rfl, wf⟩⟩
theorem Opens.bool {P : Program} {t : TypeId} (hu : P.underlying t = some .bool) (hc : P.cellsOf t = 1) : Opens P t Kd.bool (fun _ => True) :=
  ⟨hc, fun h _ => by obtain ⟨n, rfl, rfl⟩ := DataW.trod_bool hu h; exact ⟨n, rfl, trivial⟩⟩
theorem Opens.string {P : Program} {t : TypeId} (hu : P.underlying t = some .string) (hc : P.cellsOf t = 1) : Opens P t Kd.string (fun s => s.size ≤ 140737488351232) :=
  ⟨hc, fun h hw => by
    obtain ⟨s, rfl, rfl, _⟩ := DataW.trod_string hu h
    refine ⟨s, rfl, ?_⟩
    have := hw s.data.toList.length (by simp [DataW.weights])
    simpa [reachBytes] using this⟩
theorem weights_mem_all {H : Type} {P : Program} {e : TypeId} {n : Nat} : ∀ {l : List (DataW H)} {d : DataW H}, d ∈ l → n ∈ d.weights P e → n ∈ DataW.weightsAll P e l
  | d0 :: l, d, hd, hn => by
    simp only [DataW.weightsAll, List.mem_append]
    rcases List.mem_cons.1 hd with rfl | hd
    · exact .inl hn
    · exact .inr (weights_mem_all hd hn)
  | [], _, hd, _ => by cases hd
theorem list_of_all {α : Type} {Q : Nat → α → Prop} (n : Nat) (h : ∀ i, i < n → ∃ x, Q i x) : ∃ xs : List α, xs.length = n ∧ ∀ j x, xs[j]? = some x → Q j x := by
  induction n with
  | zero => exact ⟨[], rfl, fun j x h => by simp at h⟩
  | succ n ih =>
    obtain ⟨xs, hl, hx⟩ := ih (fun i hi => h i (by omega))
    obtain ⟨x, hq⟩ := h n (by omega)
    refine ⟨xs ++ [x], by simp [hl], fun j y hj => ?_⟩
    rcases Nat.lt_or_ge j xs.length with hlt | hge
    · rw [List.getElem?_append_left hlt] at hj
      exact hx j y hj
    · rw [List.getElem?_append_right hge] at hj
      have : j - xs.length = 0 := by
        rcases Nat.lt_or_ge (j - xs.length) 1 with h1 | h1
        · omega
        · rw [List.getElem?_eq_none (by simpa using h1)] at hj; cases hj
      rw [this] at hj
      simp at hj
      subst hj
      have : j = n := by omega
      subst this
      exact hq
theorem Opens.slice {α : Type} {P : Program} {t e : TypeId} {d : Kd α} {wf : α → Prop} (hu : P.underlying t = some (.slice e)) (hc : P.cellsOf t = 1) (B : Nat) (hB : P.bytesOf e = B) (he : Opens P e d wf) :
    Opens P t (Kd.slice e d) (fun xs => xs.length * B ≤ 140737488351232 ∧ xs.length ≤ maxLen ∧ ∀ x ∈ xs, wf x) :=
  ⟨hc, fun {H enc w fuel cs y} h hw => by
    rcases open_slice hu h with ⟨rfl, rfl⟩ | ⟨a, len, cap, m, n, D, Pl, rfl, _, hl, hm, hmm, rfl, hel⟩
    · exact ⟨[], ⟨none, 0, rfl, Nat.le_refl _, Kd.C_nil d w⟩, by simp, by simp, fun x hx => by cases hx⟩
    have hmc : m = cap := by rw [hmm]; rfl
    subst hmc
    have hwt : ∀ i, i < len → ∀ z ∈ (D i).weights P e, z ≤ reachBytes := fun i hi z hz => hw z (by
      simp only [DataW.weights, hu]
      exact List.mem_cons_of_mem _ (List.mem_append_left _ (weights_mem_all (List.mem_map.2 ⟨i, List.mem_range.2 hi, rfl⟩) hz)))
    have hall : ∀ i, i < len → ∃ x : α, (∃ c, c.length = d.sz ∧ d.K w x c ∧ ∀ j u, c[j]? = some u → w.cell? (a.add (i * d.sz + j)) = some u) ∧ wf x := by
      intro i hi
      obtain ⟨cs', hcs, htr⟩ := hel i (by omega)
      obtain ⟨x, hk, hx⟩ := he.op htr (hwt i hi)
      obtain ⟨_, hlen, hcell⟩ := World.cells?_some hcs
      refine ⟨x, ⟨cs', by rw [hlen, he.sz], hk, fun j u hu' => ?_⟩, hx⟩
      have hj : j < cs'.length := by
        rcases Nat.lt_or_ge j cs'.length with h1 | h1
        · exact h1
        · rw [List.getElem?_eq_none h1] at hu'; cases hu'
      rw [hlen] at hj
      have hcj := hcell j hj
      rw [hu', he.sz, Addr.add_add] at hcj
      exact hcj
    obtain ⟨xs, hxl, hxs⟩ := list_of_all (Q := fun i x => (∃ c, c.length = d.sz ∧ d.K w x c ∧ ∀ j u, c[j]? = some u → w.cell? (a.add (i * d.sz + j)) = some u) ∧ wf x) len hall
    subst hxl
    refine ⟨xs, ⟨some a, m, rfl, hl, rfl, ?_, fun _ => ⟨a, rfl, fun j p hp => (hxs j p hp).1⟩⟩, ?_, ?_, ?_⟩
    · unfold maxLen at hm; omega
    · have := hw ((List.map D (List.range xs.length)).length + (List.map (fun j => D (xs.length + j)) (List.range (m - xs.length))).length) |> fun h => h
      have h1 := hw (((List.map D (List.range xs.length)).length + (List.map (fun j => D (xs.length + j)) (List.range (m - xs.length))).length) * P.bytesOf e) (by simp only [DataW.weights, hu]; exact List.mem_cons_self)
      rw [hB] at h1
      simp only [List.length_map, List.length_range] at h1
      have h2 : xs.length * B ≤ (xs.length + (m - xs.length)) * B := Nat.mul_le_mul_right _ (by omega)
      exact Nat.le_trans h2 h1
    · omega
    · intro x hx
      obtain ⟨j, hj, rfl⟩ := List.getElem_of_mem hx
      exact (hxs j _ (List.getElem?_eq_getElem hj)).2⟩
/-- Fields in line from cell o on. -/
structure OpensF (P : Program) (fs : List Field) (o : Nat) {α : Type} (d : Kd α) (wf : α → Prop) : Prop where
  op : ∀ {H : Type} {enc : TypeId × Value → H} {w : World} {n : Nat} {cs : List Value} {xs : List (DataW H × List MemPlace)}, o + d.sz ≤ cs.length → xs.length = fs.length →
    (∀ (i : Nat) (f : Field), fs[i]? = some f → DataW.trod enc P w 0 (fun _ => true) true n f.type ((cs.drop f.offset).take (P.cellsOf f.type)) = xs[i]?) →
    (∀ z ∈ DataW.weightsEach P (fs.map (·.type)) (xs.map (·.1)), z ≤ reachBytes) → ∃ x, d.K w x ((cs.drop o).take d.sz) ∧ wf x
theorem OpensF.one {α : Type} {P : Program} {f : Field} {o : Nat} {d : Kd α} {wf : α → Prop} (ho : f.offset = o) (h : Opens P f.type d wf) : OpensF P [f] o d wf := by
  refine ⟨fun {H enc w n cs xs} hlen hxl htr hw => ?_⟩
  match xs, hxl with
  | [y], _ =>
    have h1 := htr 0 f rfl
    rw [ho, h.sz] at h1
    exact h.op (y := y) h1 (fun z hz => hw z (by simpa [DataW.weightsEach] using hz))
theorem OpensF.cons {α β : Type} {P : Program} {f : Field} {fs : List Field} {o : Nat} {a : Kd α} {b : Kd β} {wa : α → Prop} {wb : β → Prop} (ho : f.offset = o) (h : Opens P f.type a wa) (o' : Nat) (ho' : o + a.sz = o') (hr : OpensF P fs o' b wb) :
    OpensF P (f :: fs) o (Kd.pair a b) (fun x => wa x.1 ∧ wb x.2) := by
  refine ⟨fun {H enc w n cs xs} hlen hxl htr hw => ?_⟩
  match xs, hxl with
  | y :: ys, hxl =>
    have h1 := htr 0 f rfl
    rw [ho, h.sz] at h1
    have hsz : (Kd.pair a b).sz = a.sz + b.sz := rfl
    rw [hsz] at hlen
    obtain ⟨x0, k0, w0⟩ := h.op (y := y) h1 (fun z hz => hw z (by simp only [List.map_cons, DataW.weightsEach, List.mem_append]; exact .inl hz))
    obtain ⟨x1, k1, w1⟩ := hr.op (n := n) (cs := cs) (xs := ys) (enc := enc) (w := w) (by omega) (by simpa using hxl) (fun i g hg => by have := htr (i + 1) g (by simpa using hg); simpa using this) (fun z hz => hw z (by simp only [List.map_cons, DataW.weightsEach, List.mem_append]; exact .inr hz))
    refine ⟨(x0, x1), ⟨(cs.drop o).take a.sz, (cs.drop o').take b.sz, ?_, k0, k1⟩, w0, w1⟩
    rw [hsz, ← ho', List.take_add, List.drop_drop]
theorem Opens.struct {α : Type} {P : Program} {t : TypeId} {fs : Array Field} {d : Kd α} {wf : α → Prop} (hu : P.underlying t = some (.struct fs)) (hc : P.cellsOf t = d.sz) (h : OpensF P fs.toList 0 d wf) : Opens P t d wf :=
  ⟨hc, fun {H enc w fuel cs y} ht hw => by
    obtain ⟨xs, n, rfl, rfl, hlen, hxl, htr⟩ := DataW.trod_struct hu ht
    obtain ⟨x, hk, hx⟩ := h.op (enc := enc) (w := w) (n := n) (cs := cs) (xs := xs) (by omega) (by simpa using hxl) (fun i f hf => htr i f (by simpa using hf)) (fun z hz => hw z (by simp only [DataW.weights, hu]; exact hz))
    refine ⟨x, ?_, hx⟩
    rw [List.drop_zero, List.take_of_length_le (by omega)] at hk
    exact hk⟩
theorem Opens.iso {α β : Type} {P : Program} {t : TypeId} {d : Kd α} {wf : α → Prop} (f : β → α) (g : α → β) (hfg : ∀ x, f (g x) = x) (h : Opens P t d wf) : Opens P t (Kd.iso d f) (fun x => wf (f x)) :=
  ⟨h.sz, fun ht hw => by
    obtain ⟨x, hk, hx⟩ := h.op ht hw
    exact ⟨g x, by show d.K _ (f (g x)) _; rw [hfg]; exact hk, by rw [hfg]; exact hx⟩⟩
end
section
def wf31 (x : S31) : Prop := x.f0.size ≤ 140737488351232 ∧ ((Lit.int .i64 x.f1).wf = true ∧ ((Lit.int .i64 x.f2).wf = true ∧ ((Lit.int .i64 x.f3).wf = true ∧ ((Lit.int .i64 x.f4).wf = true ∧ ((Lit.int .i64 x.f5).wf = true ∧ ((Lit.int .i64 x.f6).wf = true ∧ ((Lit.int .i64 x.f7).wf = true ∧ (x.f8.size ≤ 140737488351232 ∧ (x.f9.size ≤ 140737488351232 ∧ (True))))))))))
set_option maxRecDepth 100000 in
theorem opens31 : Opens Try.prog 31 k31 wf31 :=
  Opens.iso (fun x : S31 => (x.f0, x.f1, x.f2, x.f3, x.f4, x.f5, x.f6, x.f7, x.f8, x.f9, x.f10)) (fun y => ⟨y.1, y.2.1, y.2.2.1, y.2.2.2.1, y.2.2.2.2.1, y.2.2.2.2.2.1, y.2.2.2.2.2.2.1, y.2.2.2.2.2.2.2.1, y.2.2.2.2.2.2.2.2.1, y.2.2.2.2.2.2.2.2.2.1, y.2.2.2.2.2.2.2.2.2.2⟩) (fun _ => rfl) (Opens.struct Try.underlying31 (by kernel_rfl) (OpensF.cons rfl (Opens.string Try.underlying9 (by kernel_rfl)) 1 rfl (OpensF.cons rfl (Opens.int Try.underlying3 (by kernel_rfl)) 2 rfl (OpensF.cons rfl (Opens.int Try.underlying3 (by kernel_rfl)) 3 rfl (OpensF.cons rfl (Opens.int Try.underlying3 (by kernel_rfl)) 4 rfl (OpensF.cons rfl (Opens.int Try.underlying3 (by kernel_rfl)) 5 rfl (OpensF.cons rfl (Opens.int Try.underlying3 (by kernel_rfl)) 6 rfl (OpensF.cons rfl (Opens.int Try.underlying3 (by kernel_rfl)) 7 rfl (OpensF.cons rfl (Opens.int Try.underlying3 (by kernel_rfl)) 8 rfl (OpensF.cons rfl (Opens.string Try.underlying9 (by kernel_rfl)) 9 rfl (OpensF.cons rfl (Opens.string Try.underlying9 (by kernel_rfl)) 10 rfl (OpensF.one rfl (Opens.bool Try.underlying4 (by kernel_rfl))))))))))))))
end
section
def P_FnExactConnAgain : Prop := ∀ (a0 : S31), wf31 a0 → ∃ k, laws_FnExactConnAgain.f k a0.f0 a0.f1 a0.f2 a0.f3 a0.f4 a0.f5 a0.f6 a0.f7 a0.f8 a0.f9 a0.f10 = some true
end
section
-- NEEDS laws.FnExactConnAgain
theorem szConn_some (a : ByteArray) (b c d e f g h : Int) (i j : ByteArray) (l : Bool) (n : Int) : ∃ z, laws_szConn.f a b c d e f g h i j l n = some z := by
  unfold laws_szConn.f
  repeat' split
  all_goals exact ⟨_, rfl⟩
theorem pure_FnExactConnAgain : P_FnExactConnAgain := by
  intro c _
  obtain ⟨⟨l, code⟩, hlen, ⟨K4, hi⟩, ⟨K5, hs⟩⟩ := ConnAgain_same c.f0 c.f1 c.f2 c.f3 c.f4 c.f5 c.f6 c.f7 c.f8 c.f9 c.f10
  have hlen' : l.length ≤ 400 := hlen
  obtain ⟨K1, h1⟩ := eqS_T53_ev l (by omega)
  obtain ⟨ys, ⟨K2, h2⟩, hy, hz⟩ := mark_T53_ev l 1 (by omega) (by omega)
  obtain ⟨K3, h3⟩ := held_T53_ev ys 1 (by omega) (by omega) (fun j a b => hz j a (by omega))
  obtain ⟨z, hzz⟩ := szConn_some c.f0 c.f1 c.f2 c.f3 c.f4 c.f5 c.f6 c.f7 c.f8 c.f9 c.f10 1048576
  rw [hy] at h3
  have b0 := hs (K1 + K2 + K3 + K4 + K5 + 3) (by omega)
  have b1 := hi (K1 + K2 + K3 + K4 + K5 + 3) (by omega)
  have b2 := h1 (K1 + K2 + K3 + K4 + K5 + 3) (by omega)
  have b3 := hi (K1 + K2 + K3 + K4 + K5 + 2) (by omega)
  have b4 := h1 (K1 + K2 + K3 + K4 + K5 + 2) (by omega)
  have b5 := h2 (K1 + K2 + K3 + K4 + K5 + 2) (by omega)
  have b6 := h3 (K1 + K2 + K3 + K4 + K5 + 2) (by omega)
  have b7 := h3 (K1 + K2 + K3 + K4 + K5 + 1) (by omega)
  refine ⟨K1 + K2 + K3 + K4 + K5 + 3, ?_⟩
  simp only [laws_FnExactConnAgain.f, hzz, Option.bind_some, laws_toConn.f, b0, b1, b2, if_true, bne_self_eq_false, laws_FnExactConnAgain.j0, Bool.false_eq_true, if_false, b3, b4, b5, b6, laws_FnExactConnAgain.j1, b7]
  rw [if_neg (show ¬ (1 + 7 * (l.length : Int)) < 0 by omega)]
  simp
  omega
end
section
-- IMPORT Derived.Test.YtlpkldomoniegaaRows
-- IMPORT Derived.WalkKit
-- IMPORT Derived.ProofKit
-- IMPORT Derived.OpenShut
-- IMPORT Derived.ShutString
-- IMPORT Derived.ChangeOld
-- IMPORT Derived.Below
-- IMPORT Derived.SizedLaws
open Go.ChangeShapes Go.WideShapes Go.ChangeAt
open Go.ChangeMaps (open_string shut_string)
theorem own_FnExactConnAgain : ownKnob Try.prog.godebug = none := by kernel_rfl
theorem laidOut_FnExactConnAgain : laidOutB Try.prog = true := by kernel_rfl
set_option maxHeartbeats 4000000 in
set_option maxRecDepth 100000 in
theorem lifted_FnExactConnAgain (os : Os) (started : os.Started) (H : Type) (enc : TypeId × Value → H) :
    ReturnsInHanded {} Try.checked os 10 .any (Rows.fnExactConnAgainSpec.pre6 enc Try.prog Try.f10 Rows.fnExactConnAgainRow.domain false) (Rows.fnExactConnAgainSpec.post enc Try.prog Try.f10 false true false false) := by
  refine returnsInHanded_of_change_sized (C := Try.checked) own_FnExactConnAgain started (by kernel_rfl) Try.func10
    (ChangeSpec.witness6 (enc := enc) (C := Try.checked) false ⟨#[], #[.agg #[.string ByteArray.empty, .int .i64 0, .int .i64 0, .int .i64 0, .int .i64 0, .int .i64 0, .int .i64 0, .int .i64 0, .string ByteArray.empty, .string ByteArray.empty, .bool false]], []⟩ 8 (by kernel_rfl) (by kernel_rfl) (by kernel_rfl) (by kernel_rfl)) ?_
  intro W base args ds gs before hval0 hW hcnd hsz0 _
  have hsz : (DataW.weightsEach Try.prog (Try.f10.params.toList ++ Rows.fnExactConnAgainSpec.plain.varTypes Try.prog) (ds ++ gs)).all (· ≤ reachBytes) = true := hsz0
  have hval : ∀ (j : Nat) t v, Try.f10.params[j]? = some t → args[j]? = some v → Value.okWide Try.prog W .any base t v := hval0
  have hW' := hW
  obtain ⟨p, q, hA0, hV, rfl, hfz, hnd⟩ := hW
  have hA : DataW.TrodAll enc Try.prog W 0 (fun _ => true) true Try.f10.params.toList args.toList ds p := hA0
  rw [Try.params10] at hA hval hsz
  obtain ⟨v0, vs0, d0, ds0, p0, q0, hargs, rfl, rfl, h0, r0⟩ := trodAll_cons hA
  obtain ⟨rfl, rfl, rfl⟩ := trodAll_nil r0
  obtain rfl : args = #[v0] := by cases args; simp_all
  obtain ⟨rfl, rfl⟩ := trodVars_none hV
  have k0 := h0
  have lt0 : ∀ x ∈ p0, x.block < W.heap.size := by obtain ⟨m, hm⟩ := k0; exact DataW.trod_lt m _ _ _ hm
  obtain ⟨cs0, rfl, _⟩ := okWide_struct Try.underlying31 (hval 0 31 v0 rfl rfl)
  obtain ⟨fuel0, hf0⟩ := h0
  obtain ⟨a0, kx0, w0⟩ := opens31.op hf0 (fun n hn => by have z := List.all_eq_true.1 hsz _ (DataW.weights_mem_each (j := 0) (t := 31) rfl rfl n hn); simpa using z)
  have e0 := k31_open kx0
  obtain rfl : cs0 = #[.string a0.f0, .int .i64 a0.f1, .int .i64 a0.f2, .int .i64 a0.f3, .int .i64 a0.f4, .int .i64 a0.f5, .int .i64 a0.f6, .int .i64 a0.f7, .string a0.f8, .string a0.f9, .bool a0.f10] := Array.toList_inj.1 e0
  clear hA0 hval0 hsz0 hsz
  obtain ⟨k, hk⟩ := pure_FnExactConnAgain a0 w0
  refine (laws_FnExactConnAgain.calls k a0.f0 a0.f1 a0.f2 a0.f3 a0.f4 a0.f5 a0.f6 a0.f7 a0.f8 a0.f9 a0.f10 true W  hk).mono fun e W' hh => ?_
  obtain ⟨he, bel0⟩ := hh
  have bel : Below W.heap.size W W' := bel0
  subst he
  exact ⟨_, rfl, _, _, _, [], _, [], hW', trodAll_mk1 (shut_bool Try.underlying4 _), (trodAll_cons_mk (Below.trod laidOut_FnExactConnAgain (by kernel_rfl) (of_decide_eq_true (by kernel_rfl)) k0 bel lt0) trodAll_mk0), rfl, bel.frame _, fun h => by cases h⟩
theorem over_FnExactConnAgain : Rows.fnExactConnAgainRow.holds Try.pinned (OpenSpec.ofChange Rows.fnExactConnAgainSpec) :=
  OpenClaim.holds_of_wide 10 Try.f10 rfl rfl rfl rfl rfl rfl rfl ⟨rfl, rfl, rfl, rfl, rfl⟩ rfl rfl rfl rfl rfl (by kernel_rfl) Try.func10 (by kernel_rfl)
    (of_decide_eq_true (by kernel_rfl)) (by unfold Func.isWrapper; first | (rw [if_pos (by decide +kernel)]; kernel_rfl) | (rw [if_neg (by decide +kernel)]; exact ⟨rfl, rfl⟩))
    (fun os started H enc _ => lifted_FnExactConnAgain os started H enc)
theorem proved_FnExactConnAgain : Rows.FnExactConnAgainSaid := over_FnExactConnAgain
#print axioms proved_FnExactConnAgain
end
end Go.Proofs.Ytlpkldomoniegaa.X
