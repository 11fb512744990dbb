/- Texts that the row of FnExactConnOpen stands on: functions of the program and of the reference, each as a Lean function with the same answers, and the plain lemmas. Conditions: none beside those that each theorem names. -/
import Derived.Test.YtlpkldomoniegaaCFnExactConnOpen4
namespace Go.Proofs.Ytlpkldomoniegaa.X
open Go.RowKit Go.Proofs.YtlpkldomoniegaaW.PrintWords Go.Proofs.YtlpkldomoniegaaW.PrintLast Go.Proofs.YtlpkldomoniegaaW.PrintMore
attribute [local go_sem] max2_int min2_int max_two min_two max_three min_three max_four min_four   -- for this text's walks alone
set_option linter.unusedVariables false
set_option linter.unusedSimpArgs false
section
/-! ### laws_FnExactConnOpen: function 9 -/
mutual
def laws_FnExactConnOpen.j0 : Nat → ByteArray → Int → Int → Int → List (S53) → Int → List (S53) → Bool → Int → Int → Int → Int → Int → Int → ByteArray → ByteArray → Int → Int → Int → Int → Int → Int → Int → ByteArray → ByteArray → Bool → Option (Bool)
  | 0, _, _, _, _, _, _, _, _, _, _, _, _, _, _, _, _, _, _, _, _, _, _, _, _, _, _ => none
  | k + 1, x0, x1, x2, x4, x13, x14, x16, x67, x418000, x418001, x418002, x418003, x418004, x418005, x418006, x442000, x442001, x442002, x442003, x442004, x442005, x442006, x442007, x442008, x442009, x442010 => if x67 = true then (some false) else ((laws_markSegmentS.f k x16 1).bind fun bt467 => ((laws_heldSegmentS.f k bt467.2 1).bind fun t469 => (if t469 < 0 then (some false) else (if t469 = bt467.1 then ((laws_toSegment.f x418000 x418001 x418002 x418003 x418004 x418005 x418006).bind fun bt470 => ((impl_ConnOpen.f k x0 x1 x2 bt470.1 bt470.2.1 bt470.2.2.1 bt470.2.2.2.1 bt470.2.2.2.2.1 bt470.2.2.2.2.2.1 bt470.2.2.2.2.2.2 x4).bind fun bt477 => ((laws_eqConn.f bt477.1 bt477.2.1 bt477.2.2.1 bt477.2.2.2.1 bt477.2.2.2.2.1 bt477.2.2.2.2.2.1 bt477.2.2.2.2.2.2.1 bt477.2.2.2.2.2.2.2.1 bt477.2.2.2.2.2.2.2.2.1 bt477.2.2.2.2.2.2.2.2.2.1 bt477.2.2.2.2.2.2.2.2.2.2.1 x442000 x442001 x442002 x442003 x442004 x442005 x442006 x442007 x442008 x442009 x442010).bind fun t493 => (if t493 = true then ((laws_eqSegmentS.f k bt477.2.2.2.2.2.2.2.2.2.2.2.1 x13).bind fun t494 => (if t494 = true then (laws_FnExactConnOpen.j1 k bt467.2 bt467.1 (bt477.2.2.2.2.2.2.2.2.2.2.2.2 != x14)) else (laws_FnExactConnOpen.j1 k bt467.2 bt467.1 true))) else (laws_FnExactConnOpen.j1 k bt467.2 bt467.1 true))))) else (some false)))))
def laws_FnExactConnOpen.j1 : Nat → List (S53) → Int → Bool → Option (Bool)
  | 0, _, _, _ => none
  | k + 1, x16, x18, x104 => if x104 = true then (some false) else ((laws_heldSegmentS.f k x16 1).bind fun t495 => (if t495 < 0 then (some false) else (if t495 = x18 then (some true) else (some false))))
end
def laws_FnExactConnOpen.f (k : Nat) (a0 : ByteArray) (a1 : Int) (a2 : Int) (a3_0 : Int) (a3_1 : Int) (a3_2 : Int) (a3_3 : Int) (a3_4 : Int) (a3_5 : Int) (a3_6 : ByteArray) (a4 : Int) : Option (Bool) := if (a0.size : Int) > 1048576 then (some true) else ((laws_szSegment.f a3_0 a3_1 a3_2 a3_3 a3_4 a3_5 a3_6 1048576).bind fun t418 => (if t418 < 0 then (some true) else ((laws_toSegment.f a3_0 a3_1 a3_2 a3_3 a3_4 a3_5 a3_6).bind fun bt419 => ((spec_ConnOpen.f k a0 a1 a2 bt419.1 bt419.2.1 bt419.2.2.1 bt419.2.2.2.1 bt419.2.2.2.2.1 bt419.2.2.2.2.2.1 bt419.2.2.2.2.2.2 a4).bind fun bt426 => ((laws_toSegment.f a3_0 a3_1 a3_2 a3_3 a3_4 a3_5 a3_6).bind fun bt442 => ((impl_ConnOpen.f k a0 a1 a2 bt442.1 bt442.2.1 bt442.2.2.1 bt442.2.2.2.1 bt442.2.2.2.2.1 bt442.2.2.2.2.2.1 bt442.2.2.2.2.2.2 a4).bind fun bt449 => ((laws_eqConn.f bt449.1 bt449.2.1 bt449.2.2.1 bt449.2.2.2.1 bt449.2.2.2.2.1 bt449.2.2.2.2.2.1 bt449.2.2.2.2.2.2.1 bt449.2.2.2.2.2.2.2.1 bt449.2.2.2.2.2.2.2.2.1 bt449.2.2.2.2.2.2.2.2.2.1 bt449.2.2.2.2.2.2.2.2.2.2.1 bt426.1 bt426.2.1 bt426.2.2.1 bt426.2.2.2.1 bt426.2.2.2.2.1 bt426.2.2.2.2.2.1 bt426.2.2.2.2.2.2.1 bt426.2.2.2.2.2.2.2.1 bt426.2.2.2.2.2.2.2.2.1 bt426.2.2.2.2.2.2.2.2.2.1 bt426.2.2.2.2.2.2.2.2.2.2.1).bind fun t465 => (if t465 = true then ((laws_eqSegmentS.f k bt449.2.2.2.2.2.2.2.2.2.2.2.1 bt426.2.2.2.2.2.2.2.2.2.2.2.1).bind fun t466 => (if t466 = true then (laws_FnExactConnOpen.j0 k a0 a1 a2 a4 bt426.2.2.2.2.2.2.2.2.2.2.2.1 bt426.2.2.2.2.2.2.2.2.2.2.2.2 bt449.2.2.2.2.2.2.2.2.2.2.2.1 (bt449.2.2.2.2.2.2.2.2.2.2.2.2 != bt426.2.2.2.2.2.2.2.2.2.2.2.2) a3_0 a3_1 a3_2 a3_3 a3_4 a3_5 a3_6 bt426.1 bt426.2.1 bt426.2.2.1 bt426.2.2.2.1 bt426.2.2.2.2.1 bt426.2.2.2.2.2.1 bt426.2.2.2.2.2.2.1 bt426.2.2.2.2.2.2.2.1 bt426.2.2.2.2.2.2.2.2.1 bt426.2.2.2.2.2.2.2.2.2.1 bt426.2.2.2.2.2.2.2.2.2.2.1) else (laws_FnExactConnOpen.j0 k a0 a1 a2 a4 bt426.2.2.2.2.2.2.2.2.2.2.2.1 bt426.2.2.2.2.2.2.2.2.2.2.2.2 bt449.2.2.2.2.2.2.2.2.2.2.2.1 true a3_0 a3_1 a3_2 a3_3 a3_4 a3_5 a3_6 bt426.1 bt426.2.1 bt426.2.2.1 bt426.2.2.2.1 bt426.2.2.2.2.1 bt426.2.2.2.2.2.1 bt426.2.2.2.2.2.2.1 bt426.2.2.2.2.2.2.2.1 bt426.2.2.2.2.2.2.2.2.1 bt426.2.2.2.2.2.2.2.2.2.1 bt426.2.2.2.2.2.2.2.2.2.2.1))) else (laws_FnExactConnOpen.j0 k a0 a1 a2 a4 bt426.2.2.2.2.2.2.2.2.2.2.2.1 bt426.2.2.2.2.2.2.2.2.2.2.2.2 bt449.2.2.2.2.2.2.2.2.2.2.2.1 true a3_0 a3_1 a3_2 a3_3 a3_4 a3_5 a3_6 bt426.1 bt426.2.1 bt426.2.2.1 bt426.2.2.2.1 bt426.2.2.2.2.1 bt426.2.2.2.2.2.1 bt426.2.2.2.2.2.2.1 bt426.2.2.2.2.2.2.2.1 bt426.2.2.2.2.2.2.2.2.1 bt426.2.2.2.2.2.2.2.2.2.1 bt426.2.2.2.2.2.2.2.2.2.2.1)))))))))
theorem laws_FnExactConnOpen.mono_l : ∀ k, (∀ y0 y1 y2 y3 y4 y5 y6 y7 y8 y9 y10 y11 y12 y13 y14 y15 y16 y17 y18 y19 y20 y21 y22 y23 y24 y25, LeO (laws_FnExactConnOpen.j0 k y0 y1 y2 y3 y4 y5 y6 y7 y8 y9 y10 y11 y12 y13 y14 y15 y16 y17 y18 y19 y20 y21 y22 y23 y24 y25) (laws_FnExactConnOpen.j0 (k + 1) y0 y1 y2 y3 y4 y5 y6 y7 y8 y9 y10 y11 y12 y13 y14 y15 y16 y17 y18 y19 y20 y21 y22 y23 y24 y25)) ∧ (∀ y0 y1 y2, LeO (laws_FnExactConnOpen.j1 k y0 y1 y2) (laws_FnExactConnOpen.j1 (k + 1) y0 y1 y2))
  | 0 => ⟨fun _ _ _ _ _ _ _ _ _ _ _ _ _ _ _ _ _ _ _ _ _ _ _ _ _ _ r h => by simp [laws_FnExactConnOpen.j0] at h, fun _ _ _ r h => by simp [laws_FnExactConnOpen.j1] at h⟩
  | k + 1 => by
    obtain ⟨ih0, ih1⟩ := laws_FnExactConnOpen.mono_l k
    refine ⟨?_, ?_⟩
    · intro y0 y1 y2 y3 y4 y5 y6 y7 y8 y9 y10 y11 y12 y13 y14 y15 y16 y17 y18 y19 y20 y21 y22 y23 y24 y25
      unfold laws_FnExactConnOpen.j0
      repeat' first
      | (with_reducible exact ih0 _ _ _ _ _ _ _ _ _ _ _ _ _ _ _ _ _ _ _ _ _ _ _ _ _ _)
      | (with_reducible exact ih1 _ _ _)
      | (with_reducible exact impl_ConnOpen.mono _ _ _ _ _ _ _ _ _ _ _ _)
      | (with_reducible exact laws_eqSegmentS.mono _ _ _)
      | (with_reducible exact laws_heldSegmentS.mono _ _ _)
      | (with_reducible exact laws_markSegmentS.mono _ _ _)
      | (with_reducible exact spec_ConnOpen.mono _ _ _ _ _ _ _ _ _ _ _ _)
      | (with_reducible exact LeO.refl _)
      | (with_reducible exact LeO.none _)
      | (with_reducible refine LeO.ite ?_ ?_)
      | (with_reducible refine LeO.bind ?_ (fun _ => ?_))
      | exact ih0 _ _ _ _ _ _ _ _ _ _ _ _ _ _ _ _ _ _ _ _ _ _ _ _ _ _
      | exact ih1 _ _ _
      | exact impl_ConnOpen.mono _ _ _ _ _ _ _ _ _ _ _ _
      | exact laws_eqSegmentS.mono _ _ _
      | exact laws_heldSegmentS.mono _ _ _
      | exact laws_markSegmentS.mono _ _ _
      | exact spec_ConnOpen.mono _ _ _ _ _ _ _ _ _ _ _ _
      | exact LeO.none _
      | refine LeO.ite ?_ ?_
      | refine LeO.bind ?_ (fun _ => ?_)
    · intro y0 y1 y2
      unfold laws_FnExactConnOpen.j1
      repeat' first
      | (with_reducible exact ih0 _ _ _ _ _ _ _ _ _ _ _ _ _ _ _ _ _ _ _ _ _ _ _ _ _ _)
      | (with_reducible exact ih1 _ _ _)
      | (with_reducible exact impl_ConnOpen.mono _ _ _ _ _ _ _ _ _ _ _ _)
      | (with_reducible exact laws_eqSegmentS.mono _ _ _)
      | (with_reducible exact laws_heldSegmentS.mono _ _ _)
      | (with_reducible exact laws_markSegmentS.mono _ _ _)
      | (with_reducible exact spec_ConnOpen.mono _ _ _ _ _ _ _ _ _ _ _ _)
      | (with_reducible exact LeO.refl _)
      | (with_reducible exact LeO.none _)
      | (with_reducible refine LeO.ite ?_ ?_)
      | (with_reducible refine LeO.bind ?_ (fun _ => ?_))
      | exact ih0 _ _ _ _ _ _ _ _ _ _ _ _ _ _ _ _ _ _ _ _ _ _ _ _ _ _
      | exact ih1 _ _ _
      | exact impl_ConnOpen.mono _ _ _ _ _ _ _ _ _ _ _ _
      | exact laws_eqSegmentS.mono _ _ _
      | exact laws_heldSegmentS.mono _ _ _
      | exact laws_markSegmentS.mono _ _ _
      | exact spec_ConnOpen.mono _ _ _ _ _ _ _ _ _ _ _ _
      | exact LeO.none _
      | refine LeO.ite ?_ ?_
      | refine LeO.bind ?_ (fun _ => ?_)
theorem laws_FnExactConnOpen.mono : ∀ a0 a1 a2 a3 a4 a5 a6 a7 a8 a9 a10 k, LeO (laws_FnExactConnOpen.f k a0 a1 a2 a3 a4 a5 a6 a7 a8 a9 a10) (laws_FnExactConnOpen.f (k + 1) a0 a1 a2 a3 a4 a5 a6 a7 a8 a9 a10) := by
  intro a0 a1 a2 a3 a4 a5 a6 a7 a8 a9 a10 k
  obtain ⟨ih0, ih1⟩ := laws_FnExactConnOpen.mono_l k
  unfold laws_FnExactConnOpen.f
  repeat' first
      | (with_reducible exact ih0 _ _ _ _ _ _ _ _ _ _ _ _ _ _ _ _ _ _ _ _ _ _ _ _ _ _)
      | (with_reducible exact ih1 _ _ _)
      | (with_reducible exact impl_ConnOpen.mono _ _ _ _ _ _ _ _ _ _ _ _)
      | (with_reducible exact laws_eqSegmentS.mono _ _ _)
      | (with_reducible exact laws_heldSegmentS.mono _ _ _)
      | (with_reducible exact laws_markSegmentS.mono _ _ _)
      | (with_reducible exact spec_ConnOpen.mono _ _ _ _ _ _ _ _ _ _ _ _)
      | (with_reducible exact LeO.refl _)
      | (with_reducible exact LeO.none _)
      | (with_reducible refine LeO.ite ?_ ?_)
      | (with_reducible refine LeO.bind ?_ (fun _ => ?_))
      | exact ih0 _ _ _ _ _ _ _ _ _ _ _ _ _ _ _ _ _ _ _ _ _ _ _ _ _ _
      | exact ih1 _ _ _
      | exact impl_ConnOpen.mono _ _ _ _ _ _ _ _ _ _ _ _
      | exact laws_eqSegmentS.mono _ _ _
      | exact laws_heldSegmentS.mono _ _ _
      | exact laws_markSegmentS.mono _ _ _
      | exact spec_ConnOpen.mono _ _ _ _ _ _ _ _ _ _ _ _
      | exact LeO.none _
      | refine LeO.ite ?_ ?_
      | refine LeO.bind ?_ (fun _ => ?_)
set_option maxHeartbeats 8000000 in
set_option maxRecDepth 100000 in
theorem laws_FnExactConnOpen.calls (k : Nat) (a0 : ByteArray) (a1 : Int) (a2 : Int) (a3_0 : Int) (a3_1 : Int) (a3_2 : Int) (a3_3 : Int) (a3_4 : Int) (a3_5 : Int) (a3_6 : ByteArray) (a4 : Int) (r : Bool) (w : World) (h : laws_FnExactConnOpen.f k a0 a1 a2 a3_0 a3_1 a3_2 a3_3 a3_4 a3_5 a3_6 a4 = some r) :
    Calls Try.prog 9 #[.string a0, .int .i64 a1, .int .i64 a2, .agg #[.int .i64 a3_0, .int .i64 a3_1, .int .i64 a3_2, .int .i64 a3_3, .int .i64 a3_4, .int .i64 a3_5, .string a3_6], .int .i64 a4] w fun e w' => e = .returned (.bool r) ∧ Below w.heap.size w w' := by
  have hu48 := Try.underlying48
  have hu34 := Try.underlying34
  have HB := Aside0.mk (Below.refl w.heap.size w)
  have H : (if (a0.size : Int) > 1048576 then (some true) else ((laws_szSegment.f a3_0 a3_1 a3_2 a3_3 a3_4 a3_5 a3_6 1048576).bind fun t418 => (if t418 < 0 then (some true) else ((laws_toSegment.f a3_0 a3_1 a3_2 a3_3 a3_4 a3_5 a3_6).bind fun bt419 => ((spec_ConnOpen.f k a0 a1 a2 bt419.1 bt419.2.1 bt419.2.2.1 bt419.2.2.2.1 bt419.2.2.2.2.1 bt419.2.2.2.2.2.1 bt419.2.2.2.2.2.2 a4).bind fun bt426 => ((laws_toSegment.f a3_0 a3_1 a3_2 a3_3 a3_4 a3_5 a3_6).bind fun bt442 => ((impl_ConnOpen.f k a0 a1 a2 bt442.1 bt442.2.1 bt442.2.2.1 bt442.2.2.2.1 bt442.2.2.2.2.1 bt442.2.2.2.2.2.1 bt442.2.2.2.2.2.2 a4).bind fun bt449 => ((laws_eqConn.f bt449.1 bt449.2.1 bt449.2.2.1 bt449.2.2.2.1 bt449.2.2.2.2.1 bt449.2.2.2.2.2.1 bt449.2.2.2.2.2.2.1 bt449.2.2.2.2.2.2.2.1 bt449.2.2.2.2.2.2.2.2.1 bt449.2.2.2.2.2.2.2.2.2.1 bt449.2.2.2.2.2.2.2.2.2.2.1 bt426.1 bt426.2.1 bt426.2.2.1 bt426.2.2.2.1 bt426.2.2.2.2.1 bt426.2.2.2.2.2.1 bt426.2.2.2.2.2.2.1 bt426.2.2.2.2.2.2.2.1 bt426.2.2.2.2.2.2.2.2.1 bt426.2.2.2.2.2.2.2.2.2.1 bt426.2.2.2.2.2.2.2.2.2.2.1).bind fun t465 => (if t465 = true then ((laws_eqSegmentS.f k bt449.2.2.2.2.2.2.2.2.2.2.2.1 bt426.2.2.2.2.2.2.2.2.2.2.2.1).bind fun t466 => (if t466 = true then (laws_FnExactConnOpen.j0 k a0 a1 a2 a4 bt426.2.2.2.2.2.2.2.2.2.2.2.1 bt426.2.2.2.2.2.2.2.2.2.2.2.2 bt449.2.2.2.2.2.2.2.2.2.2.2.1 (bt449.2.2.2.2.2.2.2.2.2.2.2.2 != bt426.2.2.2.2.2.2.2.2.2.2.2.2) a3_0 a3_1 a3_2 a3_3 a3_4 a3_5 a3_6 bt426.1 bt426.2.1 bt426.2.2.1 bt426.2.2.2.1 bt426.2.2.2.2.1 bt426.2.2.2.2.2.1 bt426.2.2.2.2.2.2.1 bt426.2.2.2.2.2.2.2.1 bt426.2.2.2.2.2.2.2.2.1 bt426.2.2.2.2.2.2.2.2.2.1 bt426.2.2.2.2.2.2.2.2.2.2.1) else (laws_FnExactConnOpen.j0 k a0 a1 a2 a4 bt426.2.2.2.2.2.2.2.2.2.2.2.1 bt426.2.2.2.2.2.2.2.2.2.2.2.2 bt449.2.2.2.2.2.2.2.2.2.2.2.1 true a3_0 a3_1 a3_2 a3_3 a3_4 a3_5 a3_6 bt426.1 bt426.2.1 bt426.2.2.1 bt426.2.2.2.1 bt426.2.2.2.2.1 bt426.2.2.2.2.2.1 bt426.2.2.2.2.2.2.1 bt426.2.2.2.2.2.2.2.1 bt426.2.2.2.2.2.2.2.2.1 bt426.2.2.2.2.2.2.2.2.2.1 bt426.2.2.2.2.2.2.2.2.2.2.1))) else (laws_FnExactConnOpen.j0 k a0 a1 a2 a4 bt426.2.2.2.2.2.2.2.2.2.2.2.1 bt426.2.2.2.2.2.2.2.2.2.2.2.2 bt449.2.2.2.2.2.2.2.2.2.2.2.1 true a3_0 a3_1 a3_2 a3_3 a3_4 a3_5 a3_6 bt426.1 bt426.2.1 bt426.2.2.1 bt426.2.2.2.1 bt426.2.2.2.2.1 bt426.2.2.2.2.2.1 bt426.2.2.2.2.2.2.1 bt426.2.2.2.2.2.2.2.1 bt426.2.2.2.2.2.2.2.2.1 bt426.2.2.2.2.2.2.2.2.2.1 bt426.2.2.2.2.2.2.2.2.2.2.1)))))))))) = some r := h
  clear h
  by_cases c6 : (a0.size : Int) > 1048576
  · rw [if_pos c6] at H
    have c6b0 : decide (1048576 < (a0.size : Int)) = true := decide_eq_true c6
    have c6b1 : decide (1048576 < a0.size) = true := decide_eq_true (by omega)
    clear c6
    obtain rfl := Option.some.inj H
    go_enter Try.func9, Try.ntmps9
    go_wp2_with (first | ((with_reducible refine gate_dst (N := 8) rfl ?_); refine box_event ?hg (N := 8) ?hd (cs := #[.int .i64 a3_0, .int .i64 a3_1, .int .i64 a3_2, .int .i64 a3_3, .int .i64 a3_4, .int .i64 a3_5, .string a3_6]) (t := 48) ?hr ?_; (case hd => rfl); (case hg => rfl); (case hr => first | (go_simp; done) | (go_simp; rfl)); intro gb417 hg w7 hbox hb; have n0_ := Aside0.mk (below_step (by repeat (first | (with_reducible first | exact HB.out | apply below_alloc | apply pw_below_drewN | apply below_drew1) | exact HB.out)) hb); have n1_ := Aside0.mk (hbox); have n2_ := Aside0.mk ((by rw [hg]; exact (below_size (by repeat (first | (with_reducible first | exact HB.out | apply below_alloc | apply pw_below_drewN | apply below_drew1) | exact HB.out))) : w.heap.size ≤ gb417)); have n3_ := Aside0.mk ((by rw [hg]; exact (below_size (by repeat (first | (with_reducible first | exact HB.out | apply below_alloc | apply pw_below_drewN | apply below_drew1) | exact HB.out))) : w.heap.size ≤ gb417)); clear HB; have HB := n0_; have BK417 := n1_; have GW417 := n2_; have GE417 := n3_; clear n0_ n1_ n2_ n3_; clear hb hbox hg))
    go_ret
    exact ⟨by first | rfl | (simp [errW_none, errW_some] <;> rfl) | (simp [*, errW_none, errW_some] <;> rfl), by repeat (first | (with_reducible first | exact HB.out | apply below_alloc | apply pw_below_drewN | apply below_drew1 | refine below_set ?_ GE417.out) | exact HB.out)⟩
  · rw [if_neg c6] at H
    have c6b0 : decide (1048576 < (a0.size : Int)) = false := decide_eq_false c6
    have c6b1 : decide (1048576 < a0.size) = false := decide_eq_false (by omega)
    clear c6
    replace H := Option.bind_eq_some_iff.mp H
    obtain ⟨t418, A80, H⟩ := H
    replace H : (if t418 < 0 then (some true) else ((laws_toSegment.f a3_0 a3_1 a3_2 a3_3 a3_4 a3_5 a3_6).bind fun bt419 => ((spec_ConnOpen.f k a0 a1 a2 bt419.1 bt419.2.1 bt419.2.2.1 bt419.2.2.2.1 bt419.2.2.2.2.1 bt419.2.2.2.2.2.1 bt419.2.2.2.2.2.2 a4).bind fun bt426 => ((laws_toSegment.f a3_0 a3_1 a3_2 a3_3 a3_4 a3_5 a3_6).bind fun bt442 => ((impl_ConnOpen.f k a0 a1 a2 bt442.1 bt442.2.1 bt442.2.2.1 bt442.2.2.2.1 bt442.2.2.2.2.1 bt442.2.2.2.2.2.1 bt442.2.2.2.2.2.2 a4).bind fun bt449 => ((laws_eqConn.f bt449.1 bt449.2.1 bt449.2.2.1 bt449.2.2.2.1 bt449.2.2.2.2.1 bt449.2.2.2.2.2.1 bt449.2.2.2.2.2.2.1 bt449.2.2.2.2.2.2.2.1 bt449.2.2.2.2.2.2.2.2.1 bt449.2.2.2.2.2.2.2.2.2.1 bt449.2.2.2.2.2.2.2.2.2.2.1 bt426.1 bt426.2.1 bt426.2.2.1 bt426.2.2.2.1 bt426.2.2.2.2.1 bt426.2.2.2.2.2.1 bt426.2.2.2.2.2.2.1 bt426.2.2.2.2.2.2.2.1 bt426.2.2.2.2.2.2.2.2.1 bt426.2.2.2.2.2.2.2.2.2.1 bt426.2.2.2.2.2.2.2.2.2.2.1).bind fun t465 => (if t465 = true then ((laws_eqSegmentS.f k bt449.2.2.2.2.2.2.2.2.2.2.2.1 bt426.2.2.2.2.2.2.2.2.2.2.2.1).bind fun t466 => (if t466 = true then (laws_FnExactConnOpen.j0 k a0 a1 a2 a4 bt426.2.2.2.2.2.2.2.2.2.2.2.1 bt426.2.2.2.2.2.2.2.2.2.2.2.2 bt449.2.2.2.2.2.2.2.2.2.2.2.1 (bt449.2.2.2.2.2.2.2.2.2.2.2.2 != bt426.2.2.2.2.2.2.2.2.2.2.2.2) a3_0 a3_1 a3_2 a3_3 a3_4 a3_5 a3_6 bt426.1 bt426.2.1 bt426.2.2.1 bt426.2.2.2.1 bt426.2.2.2.2.1 bt426.2.2.2.2.2.1 bt426.2.2.2.2.2.2.1 bt426.2.2.2.2.2.2.2.1 bt426.2.2.2.2.2.2.2.2.1 bt426.2.2.2.2.2.2.2.2.2.1 bt426.2.2.2.2.2.2.2.2.2.2.1) else (laws_FnExactConnOpen.j0 k a0 a1 a2 a4 bt426.2.2.2.2.2.2.2.2.2.2.2.1 bt426.2.2.2.2.2.2.2.2.2.2.2.2 bt449.2.2.2.2.2.2.2.2.2.2.2.1 true a3_0 a3_1 a3_2 a3_3 a3_4 a3_5 a3_6 bt426.1 bt426.2.1 bt426.2.2.1 bt426.2.2.2.1 bt426.2.2.2.2.1 bt426.2.2.2.2.2.1 bt426.2.2.2.2.2.2.1 bt426.2.2.2.2.2.2.2.1 bt426.2.2.2.2.2.2.2.2.1 bt426.2.2.2.2.2.2.2.2.2.1 bt426.2.2.2.2.2.2.2.2.2.2.1))) else (laws_FnExactConnOpen.j0 k a0 a1 a2 a4 bt426.2.2.2.2.2.2.2.2.2.2.2.1 bt426.2.2.2.2.2.2.2.2.2.2.2.2 bt449.2.2.2.2.2.2.2.2.2.2.2.1 true a3_0 a3_1 a3_2 a3_3 a3_4 a3_5 a3_6 bt426.1 bt426.2.1 bt426.2.2.1 bt426.2.2.2.1 bt426.2.2.2.2.1 bt426.2.2.2.2.2.1 bt426.2.2.2.2.2.2.1 bt426.2.2.2.2.2.2.2.1 bt426.2.2.2.2.2.2.2.2.1 bt426.2.2.2.2.2.2.2.2.2.1 bt426.2.2.2.2.2.2.2.2.2.2.1)))))))) = some r := H
    have A8 := Aside0.mk A80
    clear A80
    by_cases c9 : t418 < 0
    · rw [if_pos c9] at H
      have c9b0 : decide (t418 < 0) = true := decide_eq_true c9
      clear c9
      obtain rfl := Option.some.inj H
      go_enter Try.func9, Try.ntmps9
      go_wp2_with (first | ((with_reducible refine gate_dst (N := 8) rfl ?_); refine box_event ?hg (N := 8) ?hd (cs := #[.int .i64 a3_0, .int .i64 a3_1, .int .i64 a3_2, .int .i64 a3_3, .int .i64 a3_4, .int .i64 a3_5, .string a3_6]) (t := 48) ?hr ?_; (case hd => rfl); (case hg => rfl); (case hr => first | (go_simp; done) | (go_simp; rfl)); intro gb417 hg w10 hbox hb; have n0_ := Aside0.mk (below_step (by repeat (first | (with_reducible first | exact HB.out | apply below_alloc | apply pw_below_drewN | apply below_drew1) | exact HB.out)) hb); have n1_ := Aside0.mk (hbox); have n2_ := Aside0.mk ((by rw [hg]; exact (below_size (by repeat (first | (with_reducible first | exact HB.out | apply below_alloc | apply pw_below_drewN | apply below_drew1) | exact HB.out))) : w.heap.size ≤ gb417)); have n3_ := Aside0.mk ((by rw [hg]; exact (below_size (by repeat (first | (with_reducible first | exact HB.out | apply below_alloc | apply pw_below_drewN | apply below_drew1) | exact HB.out))) : w.heap.size ≤ gb417)); clear HB; have HB := n0_; have BK417 := n1_; have GW417 := n2_; have GE417 := n3_; clear n0_ n1_ n2_ n3_; clear hb hbox hg; have hcz11_0 : w10.cell? ⟨gb417, 0, none⟩ = some (.int .i64 a3_0) := (blk_cell BK417.out 0).trans rfl; have hcz11_1 : w10.cell? ⟨gb417, 1, none⟩ = some (.int .i64 a3_1) := (blk_cell BK417.out 1).trans rfl; have hcz11_2 : w10.cell? ⟨gb417, 2, none⟩ = some (.int .i64 a3_2) := (blk_cell BK417.out 2).trans rfl; have hcz11_3 : w10.cell? ⟨gb417, 3, none⟩ = some (.int .i64 a3_3) := (blk_cell BK417.out 3).trans rfl; have hcz11_4 : w10.cell? ⟨gb417, 4, none⟩ = some (.int .i64 a3_4) := (blk_cell BK417.out 4).trans rfl; have hcz11_5 : w10.cell? ⟨gb417, 5, none⟩ = some (.int .i64 a3_5) := (blk_cell BK417.out 5).trans rfl; have hcz11_6 : w10.cell? ⟨gb417, 6, none⟩ = some (.string a3_6) := (blk_cell BK417.out 6).trans rfl; have hfz11_0 := blk_frozen BK417.out 0; have hfz11_1 := blk_frozen BK417.out 1; have hfz11_2 := blk_frozen BK417.out 2; have hfz11_3 := blk_frozen BK417.out 3; have hfz11_4 := blk_frozen BK417.out 4; have hfz11_5 := blk_frozen BK417.out 5; have hfz11_6 := blk_frozen BK417.out 6) | ((with_reducible refine gate_callee (f := 33) rfl ?_); refine goesL_ (some 28) rfl rfl Try.func33 (by kernel_rfl) rfl #[.agg #[.int .i64 a3_0, .int .i64 a3_1, .int .i64 a3_2, .int .i64 a3_3, .int .i64 a3_4, .int .i64 a3_5, .string a3_6], .int .i64 1048576] rfl (by (try simp only [List.map_toArray, List.map_cons, List.map_nil]); first | done | rfl | (simp only [List.length_drop, List.length_take]; rfl)) ?_; (with_reducible refine (laws_szSegment.calls a3_0 a3_1 a3_2 a3_3 a3_4 a3_5 a3_6 1048576 t418 _ A8.out).mono ?_); rintro e w12 ⟨rfl, hb⟩; refine ⟨_, rfl, ?_⟩; have n0_ := Aside0.mk (blk_below (g := gb417) (o := .cells #[.int .i64 a3_0, .int .i64 a3_1, .int .i64 a3_2, .int .i64 a3_3, .int .i64 a3_4, .int .i64 a3_5, .string a3_6] 48 (0, 0)) (by (with_reducible repeat (first | refine blk_drewN ?_ _ | refine blk_drew ?_ | refine blk_alloc ?_ _)); exact BK417.out) hb); have n1_ := Aside0.mk (below_step (by repeat (first | (with_reducible first | exact HB.out | apply below_alloc | apply pw_below_drewN | apply below_drew1 | refine below_set ?_ GE417.out) | exact HB.out)) hb); clear BK417; clear HB; have BK417 := n0_; have HB := n1_; clear n0_ n1_; (try clear hb); (try clear hb2); (try clear hk); (try clear hi)))
      go_ret
      exact ⟨by first | rfl | (simp [errW_none, errW_some] <;> rfl) | (simp [*, errW_none, errW_some] <;> rfl), by repeat (first | (with_reducible first | exact HB.out | apply below_alloc | apply pw_below_drewN | apply below_drew1 | refine below_set ?_ GE417.out) | exact HB.out)⟩
    · rw [if_neg c9] at H
      have c9b0 : decide (t418 < 0) = false := decide_eq_false c9
      clear c9
      replace H := Option.bind_eq_some_iff.mp H
      obtain ⟨⟨t419, t420, t421, t422, t423, t424, t425⟩, A130, H⟩ := H
      replace H : ((spec_ConnOpen.f k a0 a1 a2 t419 t420 t421 t422 t423 t424 t425 a4).bind fun bt426 => ((laws_toSegment.f a3_0 a3_1 a3_2 a3_3 a3_4 a3_5 a3_6).bind fun bt442 => ((impl_ConnOpen.f k a0 a1 a2 bt442.1 bt442.2.1 bt442.2.2.1 bt442.2.2.2.1 bt442.2.2.2.2.1 bt442.2.2.2.2.2.1 bt442.2.2.2.2.2.2 a4).bind fun bt449 => ((laws_eqConn.f bt449.1 bt449.2.1 bt449.2.2.1 bt449.2.2.2.1 bt449.2.2.2.2.1 bt449.2.2.2.2.2.1 bt449.2.2.2.2.2.2.1 bt449.2.2.2.2.2.2.2.1 bt449.2.2.2.2.2.2.2.2.1 bt449.2.2.2.2.2.2.2.2.2.1 bt449.2.2.2.2.2.2.2.2.2.2.1 bt426.1 bt426.2.1 bt426.2.2.1 bt426.2.2.2.1 bt426.2.2.2.2.1 bt426.2.2.2.2.2.1 bt426.2.2.2.2.2.2.1 bt426.2.2.2.2.2.2.2.1 bt426.2.2.2.2.2.2.2.2.1 bt426.2.2.2.2.2.2.2.2.2.1 bt426.2.2.2.2.2.2.2.2.2.2.1).bind fun t465 => (if t465 = true then ((laws_eqSegmentS.f k bt449.2.2.2.2.2.2.2.2.2.2.2.1 bt426.2.2.2.2.2.2.2.2.2.2.2.1).bind fun t466 => (if t466 = true then (laws_FnExactConnOpen.j0 k a0 a1 a2 a4 bt426.2.2.2.2.2.2.2.2.2.2.2.1 bt426.2.2.2.2.2.2.2.2.2.2.2.2 bt449.2.2.2.2.2.2.2.2.2.2.2.1 (bt449.2.2.2.2.2.2.2.2.2.2.2.2 != bt426.2.2.2.2.2.2.2.2.2.2.2.2) a3_0 a3_1 a3_2 a3_3 a3_4 a3_5 a3_6 bt426.1 bt426.2.1 bt426.2.2.1 bt426.2.2.2.1 bt426.2.2.2.2.1 bt426.2.2.2.2.2.1 bt426.2.2.2.2.2.2.1 bt426.2.2.2.2.2.2.2.1 bt426.2.2.2.2.2.2.2.2.1 bt426.2.2.2.2.2.2.2.2.2.1 bt426.2.2.2.2.2.2.2.2.2.2.1) else (laws_FnExactConnOpen.j0 k a0 a1 a2 a4 bt426.2.2.2.2.2.2.2.2.2.2.2.1 bt426.2.2.2.2.2.2.2.2.2.2.2.2 bt449.2.2.2.2.2.2.2.2.2.2.2.1 true a3_0 a3_1 a3_2 a3_3 a3_4 a3_5 a3_6 bt426.1 bt426.2.1 bt426.2.2.1 bt426.2.2.2.1 bt426.2.2.2.2.1 bt426.2.2.2.2.2.1 bt426.2.2.2.2.2.2.1 bt426.2.2.2.2.2.2.2.1 bt426.2.2.2.2.2.2.2.2.1 bt426.2.2.2.2.2.2.2.2.2.1 bt426.2.2.2.2.2.2.2.2.2.2.1))) else (laws_FnExactConnOpen.j0 k a0 a1 a2 a4 bt426.2.2.2.2.2.2.2.2.2.2.2.1 bt426.2.2.2.2.2.2.2.2.2.2.2.2 bt449.2.2.2.2.2.2.2.2.2.2.2.1 true a3_0 a3_1 a3_2 a3_3 a3_4 a3_5 a3_6 bt426.1 bt426.2.1 bt426.2.2.1 bt426.2.2.2.1 bt426.2.2.2.2.1 bt426.2.2.2.2.2.1 bt426.2.2.2.2.2.2.1 bt426.2.2.2.2.2.2.2.1 bt426.2.2.2.2.2.2.2.2.1 bt426.2.2.2.2.2.2.2.2.2.1 bt426.2.2.2.2.2.2.2.2.2.2.1)))))) = some r := H
      have A13 := Aside0.mk A130
      clear A130
      replace H := Option.bind_eq_some_iff.mp H
      obtain ⟨⟨t426, t427, t428, t429, t430, t431, t432, t433, t434, t435, t436, t437, t440⟩, A140, H⟩ := H
      replace H : ((laws_toSegment.f a3_0 a3_1 a3_2 a3_3 a3_4 a3_5 a3_6).bind fun bt442 => ((impl_ConnOpen.f k a0 a1 a2 bt442.1 bt442.2.1 bt442.2.2.1 bt442.2.2.2.1 bt442.2.2.2.2.1 bt442.2.2.2.2.2.1 bt442.2.2.2.2.2.2 a4).bind fun bt449 => ((laws_eqConn.f bt449.1 bt449.2.1 bt449.2.2.1 bt449.2.2.2.1 bt449.2.2.2.2.1 bt449.2.2.2.2.2.1 bt449.2.2.2.2.2.2.1 bt449.2.2.2.2.2.2.2.1 bt449.2.2.2.2.2.2.2.2.1 bt449.2.2.2.2.2.2.2.2.2.1 bt449.2.2.2.2.2.2.2.2.2.2.1 t426 t427 t428 t429 t430 t431 t432 t433 t434 t435 t436).bind fun t465 => (if t465 = true then ((laws_eqSegmentS.f k bt449.2.2.2.2.2.2.2.2.2.2.2.1 t437).bind fun t466 => (if t466 = true then (laws_FnExactConnOpen.j0 k a0 a1 a2 a4 t437 t440 bt449.2.2.2.2.2.2.2.2.2.2.2.1 (bt449.2.2.2.2.2.2.2.2.2.2.2.2 != t440) a3_0 a3_1 a3_2 a3_3 a3_4 a3_5 a3_6 t426 t427 t428 t429 t430 t431 t432 t433 t434 t435 t436) else (laws_FnExactConnOpen.j0 k a0 a1 a2 a4 t437 t440 bt449.2.2.2.2.2.2.2.2.2.2.2.1 true a3_0 a3_1 a3_2 a3_3 a3_4 a3_5 a3_6 t426 t427 t428 t429 t430 t431 t432 t433 t434 t435 t436))) else (laws_FnExactConnOpen.j0 k a0 a1 a2 a4 t437 t440 bt449.2.2.2.2.2.2.2.2.2.2.2.1 true a3_0 a3_1 a3_2 a3_3 a3_4 a3_5 a3_6 t426 t427 t428 t429 t430 t431 t432 t433 t434 t435 t436))))) = some r := H
      have A14 := Aside0.mk A140
      clear A140
      replace H := Option.bind_eq_some_iff.mp H
      obtain ⟨⟨t442, t443, t444, t445, t446, t447, t448⟩, A150, H⟩ := H
      replace H : ((impl_ConnOpen.f k a0 a1 a2 t442 t443 t444 t445 t446 t447 t448 a4).bind fun bt449 => ((laws_eqConn.f bt449.1 bt449.2.1 bt449.2.2.1 bt449.2.2.2.1 bt449.2.2.2.2.1 bt449.2.2.2.2.2.1 bt449.2.2.2.2.2.2.1 bt449.2.2.2.2.2.2.2.1 bt449.2.2.2.2.2.2.2.2.1 bt449.2.2.2.2.2.2.2.2.2.1 bt449.2.2.2.2.2.2.2.2.2.2.1 t426 t427 t428 t429 t430 t431 t432 t433 t434 t435 t436).bind fun t465 => (if t465 = true then ((laws_eqSegmentS.f k bt449.2.2.2.2.2.2.2.2.2.2.2.1 t437).bind fun t466 => (if t466 = true then (laws_FnExactConnOpen.j0 k a0 a1 a2 a4 t437 t440 bt449.2.2.2.2.2.2.2.2.2.2.2.1 (bt449.2.2.2.2.2.2.2.2.2.2.2.2 != t440) a3_0 a3_1 a3_2 a3_3 a3_4 a3_5 a3_6 t426 t427 t428 t429 t430 t431 t432 t433 t434 t435 t436) else (laws_FnExactConnOpen.j0 k a0 a1 a2 a4 t437 t440 bt449.2.2.2.2.2.2.2.2.2.2.2.1 true a3_0 a3_1 a3_2 a3_3 a3_4 a3_5 a3_6 t426 t427 t428 t429 t430 t431 t432 t433 t434 t435 t436))) else (laws_FnExactConnOpen.j0 k a0 a1 a2 a4 t437 t440 bt449.2.2.2.2.2.2.2.2.2.2.2.1 true a3_0 a3_1 a3_2 a3_3 a3_4 a3_5 a3_6 t426 t427 t428 t429 t430 t431 t432 t433 t434 t435 t436)))) = some r := H
      have A15 := Aside0.mk A150
      clear A150
      replace H := Option.bind_eq_some_iff.mp H
      obtain ⟨⟨t449, t450, t451, t452, t453, t454, t455, t456, t457, t458, t459, t460, t463⟩, A160, H⟩ := H
      replace H : ((laws_eqConn.f t449 t450 t451 t452 t453 t454 t455 t456 t457 t458 t459 t426 t427 t428 t429 t430 t431 t432 t433 t434 t435 t436).bind fun t465 => (if t465 = true then ((laws_eqSegmentS.f k t460 t437).bind fun t466 => (if t466 = true then (laws_FnExactConnOpen.j0 k a0 a1 a2 a4 t437 t440 t460 (t463 != t440) a3_0 a3_1 a3_2 a3_3 a3_4 a3_5 a3_6 t426 t427 t428 t429 t430 t431 t432 t433 t434 t435 t436) else (laws_FnExactConnOpen.j0 k a0 a1 a2 a4 t437 t440 t460 true a3_0 a3_1 a3_2 a3_3 a3_4 a3_5 a3_6 t426 t427 t428 t429 t430 t431 t432 t433 t434 t435 t436))) else (laws_FnExactConnOpen.j0 k a0 a1 a2 a4 t437 t440 t460 true a3_0 a3_1 a3_2 a3_3 a3_4 a3_5 a3_6 t426 t427 t428 t429 t430 t431 t432 t433 t434 t435 t436))) = some r := H
      have A16 := Aside0.mk A160
      clear A160
      have HC17 := Aside0.mk H
      clear H
      go_enter Try.func9, Try.ntmps9
      go_upto_region 9 with (first | ((with_reducible refine gate_dst (N := 8) rfl ?_); refine box_event ?hg (N := 8) ?hd (cs := #[.int .i64 a3_0, .int .i64 a3_1, .int .i64 a3_2, .int .i64 a3_3, .int .i64 a3_4, .int .i64 a3_5, .string a3_6]) (t := 48) ?hr ?_; (case hd => rfl); (case hg => rfl); (case hr => first | (go_simp; done) | (go_simp; rfl)); intro gb417 hg w18 hbox hb; have n0_ := Aside0.mk (below_step (by repeat (first | (with_reducible first | exact HB.out | apply below_alloc | apply pw_below_drewN | apply below_drew1) | exact HB.out)) hb); have n1_ := Aside0.mk (hbox); have n2_ := Aside0.mk ((by rw [hg]; exact (below_size (by repeat (first | (with_reducible first | exact HB.out | apply below_alloc | apply pw_below_drewN | apply below_drew1) | exact HB.out))) : w.heap.size ≤ gb417)); have n3_ := Aside0.mk ((by rw [hg]; exact (below_size (by repeat (first | (with_reducible first | exact HB.out | apply below_alloc | apply pw_below_drewN | apply below_drew1) | exact HB.out))) : w.heap.size ≤ gb417)); clear HB; have HB := n0_; have BK417 := n1_; have GW417 := n2_; have GE417 := n3_; clear n0_ n1_ n2_ n3_; clear hb hbox hg; have hcz19_0 : w18.cell? ⟨gb417, 0, none⟩ = some (.int .i64 a3_0) := (blk_cell BK417.out 0).trans rfl; have hcz19_1 : w18.cell? ⟨gb417, 1, none⟩ = some (.int .i64 a3_1) := (blk_cell BK417.out 1).trans rfl; have hcz19_2 : w18.cell? ⟨gb417, 2, none⟩ = some (.int .i64 a3_2) := (blk_cell BK417.out 2).trans rfl; have hcz19_3 : w18.cell? ⟨gb417, 3, none⟩ = some (.int .i64 a3_3) := (blk_cell BK417.out 3).trans rfl; have hcz19_4 : w18.cell? ⟨gb417, 4, none⟩ = some (.int .i64 a3_4) := (blk_cell BK417.out 4).trans rfl; have hcz19_5 : w18.cell? ⟨gb417, 5, none⟩ = some (.int .i64 a3_5) := (blk_cell BK417.out 5).trans rfl; have hcz19_6 : w18.cell? ⟨gb417, 6, none⟩ = some (.string a3_6) := (blk_cell BK417.out 6).trans rfl; have hfz19_0 := blk_frozen BK417.out 0; have hfz19_1 := blk_frozen BK417.out 1; have hfz19_2 := blk_frozen BK417.out 2; have hfz19_3 := blk_frozen BK417.out 3; have hfz19_4 := blk_frozen BK417.out 4; have hfz19_5 := blk_frozen BK417.out 5; have hfz19_6 := blk_frozen BK417.out 6) | ((with_reducible refine gate_callee (f := 33) rfl ?_); refine goesL_ (some 28) rfl rfl Try.func33 (by kernel_rfl) rfl #[.agg #[.int .i64 a3_0, .int .i64 a3_1, .int .i64 a3_2, .int .i64 a3_3, .int .i64 a3_4, .int .i64 a3_5, .string a3_6], .int .i64 1048576] rfl (by (try simp only [List.map_toArray, List.map_cons, List.map_nil]); first | done | rfl | (simp only [List.length_drop, List.length_take]; rfl)) ?_; (with_reducible refine (laws_szSegment.calls a3_0 a3_1 a3_2 a3_3 a3_4 a3_5 a3_6 1048576 t418 _ A8.out).mono ?_); rintro e w20 ⟨rfl, hb⟩; refine ⟨_, rfl, ?_⟩; have n0_ := Aside0.mk (blk_below (g := gb417) (o := .cells #[.int .i64 a3_0, .int .i64 a3_1, .int .i64 a3_2, .int .i64 a3_3, .int .i64 a3_4, .int .i64 a3_5, .string a3_6] 48 (0, 0)) (by (with_reducible repeat (first | refine blk_drewN ?_ _ | refine blk_drew ?_ | refine blk_alloc ?_ _)); exact BK417.out) hb); have n1_ := Aside0.mk (below_step (by repeat (first | (with_reducible first | exact HB.out | apply below_alloc | apply pw_below_drewN | apply below_drew1 | refine below_set ?_ GE417.out) | exact HB.out)) hb); clear BK417; clear HB; have BK417 := n0_; have HB := n1_; clear n0_ n1_; (try clear hb); (try clear hb2); (try clear hk); (try clear hi); have hcz21_0 : w20.cell? ⟨gb417, 0, none⟩ = some (.int .i64 a3_0) := (blk_cell BK417.out 0).trans rfl; have hcz21_1 : w20.cell? ⟨gb417, 1, none⟩ = some (.int .i64 a3_1) := (blk_cell BK417.out 1).trans rfl; have hcz21_2 : w20.cell? ⟨gb417, 2, none⟩ = some (.int .i64 a3_2) := (blk_cell BK417.out 2).trans rfl; have hcz21_3 : w20.cell? ⟨gb417, 3, none⟩ = some (.int .i64 a3_3) := (blk_cell BK417.out 3).trans rfl; have hcz21_4 : w20.cell? ⟨gb417, 4, none⟩ = some (.int .i64 a3_4) := (blk_cell BK417.out 4).trans rfl; have hcz21_5 : w20.cell? ⟨gb417, 5, none⟩ = some (.int .i64 a3_5) := (blk_cell BK417.out 5).trans rfl; have hcz21_6 : w20.cell? ⟨gb417, 6, none⟩ = some (.string a3_6) := (blk_cell BK417.out 6).trans rfl; have hfz21_0 := blk_frozen BK417.out 0; have hfz21_1 := blk_frozen BK417.out 1; have hfz21_2 := blk_frozen BK417.out 2; have hfz21_3 := blk_frozen BK417.out 3; have hfz21_4 := blk_frozen BK417.out 4; have hfz21_5 := blk_frozen BK417.out 5; have hfz21_6 := blk_frozen BK417.out 6) | ((with_reducible refine gate_callee (f := 35) rfl ?_); refine goesL_ (some 36) rfl rfl Try.func35 (by kernel_rfl) rfl #[.agg #[.int .i64 a3_0, .int .i64 a3_1, .int .i64 a3_2, .int .i64 a3_3, .int .i64 a3_4, .int .i64 a3_5, .string a3_6]] rfl (by (try simp only [List.map_toArray, List.map_cons, List.map_nil]); first | done | rfl | (simp only [List.length_drop, List.length_take]; rfl)) ?_; (with_reducible refine (laws_toSegment.calls a3_0 a3_1 a3_2 a3_3 a3_4 a3_5 a3_6 t419 t420 t421 t422 t423 t424 t425 _ A13.out).mono ?_); rintro e w22 ⟨rfl, hb⟩; refine ⟨_, rfl, ?_⟩; have n0_ := Aside0.mk (blk_below (g := gb417) (o := .cells #[.int .i64 a3_0, .int .i64 a3_1, .int .i64 a3_2, .int .i64 a3_3, .int .i64 a3_4, .int .i64 a3_5, .string a3_6] 48 (0, 0)) (by (with_reducible repeat (first | refine blk_drewN ?_ _ | refine blk_drew ?_ | refine blk_alloc ?_ _)); exact BK417.out) hb); have n1_ := Aside0.mk (below_step (by repeat (first | (with_reducible first | exact HB.out | apply below_alloc | apply pw_below_drewN | apply below_drew1 | refine below_set ?_ GE417.out) | exact HB.out)) hb); clear BK417; clear HB; have BK417 := n0_; have HB := n1_; clear n0_ n1_; (try clear hb); (try clear hb2); (try clear hk); (try clear hi)) | ((with_reducible refine gate_callee (f := 34) rfl ?_); refine goesL_ (some 38) rfl rfl Try.func34 (by kernel_rfl) rfl #[.string a0, .int .i64 a1, .int .i64 a2, .agg #[.int .i64 t419, .int .i64 t420, .int .i64 t421, .int .i64 t422, .int .i64 t423, .int .i64 t424, .string t425], .int .i64 a4] rfl (by (try simp only [List.map_toArray, List.map_cons, List.map_nil]); first | done | rfl | (simp only [List.length_drop, List.length_take]; rfl)) ?_; (with_reducible refine (spec_ConnOpen.calls k a0 a1 a2 t419 t420 t421 t422 t423 t424 t425 a4 t426 t427 t428 t429 t430 t431 t432 t433 t434 t435 t436 t437 t440 _ A14.out).mono ?_); rintro e w23 ⟨v438, rfl, ho0, hb⟩; refine ⟨_, rfl, ?_⟩; have n0_ := Aside0.mk (Kd.R_lower ho0 (below_size (by repeat (first | (with_reducible first | exact HB.out | apply below_alloc | apply pw_below_drewN | apply below_drew1 | refine below_set ?_ GE417.out) | exact HB.out)))); have n1_ := Aside0.mk (blk_below (g := gb417) (o := .cells #[.int .i64 a3_0, .int .i64 a3_1, .int .i64 a3_2, .int .i64 a3_3, .int .i64 a3_4, .int .i64 a3_5, .string a3_6] 48 (0, 0)) (by (with_reducible repeat (first | refine blk_drewN ?_ _ | refine blk_drew ?_ | refine blk_alloc ?_ _)); exact BK417.out) hb); have n2_ := Aside0.mk (below_step (by repeat (first | (with_reducible first | exact HB.out | apply below_alloc | apply pw_below_drewN | apply below_drew1 | refine below_set ?_ GE417.out) | exact HB.out)) hb); clear BK417; clear HB; have HO439 := n0_; have BK417 := n1_; have HB := n2_; clear n0_ n1_ n2_; (try clear hb); (try clear hb2); (try clear hk); (try clear hi); (try clear ho0)) | ((with_reducible refine gate_dst (N := 12) rfl ?_); refine box_event ?hg (N := 12) ?hd (cs := #[.string (⟨#[]⟩ : ByteArray), .int .i64 0, .int .i64 0, .int .i64 0, .int .i64 0, .int .i64 0, .int .i64 0, .int .i64 0, .string (⟨#[]⟩ : ByteArray), .string (⟨#[]⟩ : ByteArray), .bool false]) (t := 34) ?hr ?_; (case hd => rfl); (case hg => rfl); (case hr => first | (go_simp; done) | (go_simp; rfl)); intro gb441 hg w24 hbox hb; have n0_ := Aside0.mk (Kd.R_below (by (with_reducible repeat (first | apply Kd.R_alloc | apply Kd.R_drewN | apply Kd.R_drew)); exact HO439.out) hb); have n1_ := Aside0.mk (blk_below (g := gb417) (o := .cells #[.int .i64 a3_0, .int .i64 a3_1, .int .i64 a3_2, .int .i64 a3_3, .int .i64 a3_4, .int .i64 a3_5, .string a3_6] 48 (0, 0)) (by (with_reducible repeat (first | refine blk_drewN ?_ _ | refine blk_drew ?_ | refine blk_alloc ?_ _)); exact BK417.out) hb); have n2_ := Aside0.mk (below_step (by repeat (first | (with_reducible first | exact HB.out | apply below_alloc | apply pw_below_drewN | apply below_drew1 | refine below_set ?_ GE417.out) | exact HB.out)) hb); have n3_ := Aside0.mk (hbox); have n4_ := Aside0.mk ((by rw [hg]; exact (below_size (by repeat (first | (with_reducible first | exact HB.out | apply below_alloc | apply pw_below_drewN | apply below_drew1 | refine below_set ?_ GE417.out) | exact HB.out))) : w.heap.size ≤ gb441)); have n5_ := Aside0.mk ((by rw [hg]; exact (below_size (by repeat (first | (with_reducible first | exact HB.out | apply below_alloc | apply pw_below_drewN | apply below_drew1 | refine below_set ?_ GE417.out) | exact HB.out))) : w.heap.size ≤ gb441)); have n6_ := Aside0.mk ((by rw [hg]; exact Nat.ne_of_lt (blk_lt (g := gb417) (o := .cells #[.int .i64 a3_0, .int .i64 a3_1, .int .i64 a3_2, .int .i64 a3_3, .int .i64 a3_4, .int .i64 a3_5, .string a3_6] 48 (0, 0)) (by (with_reducible repeat (first | refine blk_drewN ?_ _ | refine blk_drew ?_ | refine blk_alloc ?_ _)); exact BK417.out)) : gb417 ≠ gb441)); have n7_ := Aside0.mk ((by rw [hg]; exact Nat.ne_of_gt (blk_lt (g := gb417) (o := .cells #[.int .i64 a3_0, .int .i64 a3_1, .int .i64 a3_2, .int .i64 a3_3, .int .i64 a3_4, .int .i64 a3_5, .string a3_6] 48 (0, 0)) (by (with_reducible repeat (first | refine blk_drewN ?_ _ | refine blk_drew ?_ | refine blk_alloc ?_ _)); exact BK417.out)) : gb441 ≠ gb417)); clear HO439; clear BK417; clear HB; have HO439 := n0_; have BK417 := n1_; have HB := n2_; have BK441 := n3_; have GW441 := n4_; have GE441 := n5_; have NB417_441 := n6_; have NB441_417 := n7_; clear n0_ n1_ n2_ n3_ n4_ n5_ n6_ n7_; clear hb hbox hg; have hnb25 := NB441_417.out; have hnc25 := NB417_441.out; have hcz26_0 : w24.cell? ⟨gb441, 0, none⟩ = some (.string (⟨#[]⟩ : ByteArray)) := (blk_cell BK441.out 0).trans rfl; have hcz26_1 : w24.cell? ⟨gb441, 1, none⟩ = some (.int .i64 0) := (blk_cell BK441.out 1).trans rfl; have hcz26_2 : w24.cell? ⟨gb441, 2, none⟩ = some (.int .i64 0) := (blk_cell BK441.out 2).trans rfl; have hcz26_3 : w24.cell? ⟨gb441, 3, none⟩ = some (.int .i64 0) := (blk_cell BK441.out 3).trans rfl; have hcz26_4 : w24.cell? ⟨gb441, 4, none⟩ = some (.int .i64 0) := (blk_cell BK441.out 4).trans rfl; have hcz26_5 : w24.cell? ⟨gb441, 5, none⟩ = some (.int .i64 0) := (blk_cell BK441.out 5).trans rfl; have hcz26_6 : w24.cell? ⟨gb441, 6, none⟩ = some (.int .i64 0) := (blk_cell BK441.out 6).trans rfl; have hcz26_7 : w24.cell? ⟨gb441, 7, none⟩ = some (.int .i64 0) := (blk_cell BK441.out 7).trans rfl; have hcz26_8 : w24.cell? ⟨gb441, 8, none⟩ = some (.string (⟨#[]⟩ : ByteArray)) := (blk_cell BK441.out 8).trans rfl; have hcz26_9 : w24.cell? ⟨gb441, 9, none⟩ = some (.string (⟨#[]⟩ : ByteArray)) := (blk_cell BK441.out 9).trans rfl; have hcz26_10 : w24.cell? ⟨gb441, 10, none⟩ = some (.bool false) := (blk_cell BK441.out 10).trans rfl; have hfz26_0 := blk_frozen BK441.out 0; have hfz26_1 := blk_frozen BK441.out 1; have hfz26_2 := blk_frozen BK441.out 2; have hfz26_3 := blk_frozen BK441.out 3; have hfz26_4 := blk_frozen BK441.out 4; have hfz26_5 := blk_frozen BK441.out 5; have hfz26_6 := blk_frozen BK441.out 6; have hfz26_7 := blk_frozen BK441.out 7; have hfz26_8 := blk_frozen BK441.out 8; have hfz26_9 := blk_frozen BK441.out 9; have hfz26_10 := blk_frozen BK441.out 10; have hcz27_0 : w24.cell? ⟨gb417, 0, none⟩ = some (.int .i64 a3_0) := (blk_cell BK417.out 0).trans rfl; have hcz27_1 : w24.cell? ⟨gb417, 1, none⟩ = some (.int .i64 a3_1) := (blk_cell BK417.out 1).trans rfl; have hcz27_2 : w24.cell? ⟨gb417, 2, none⟩ = some (.int .i64 a3_2) := (blk_cell BK417.out 2).trans rfl; have hcz27_3 : w24.cell? ⟨gb417, 3, none⟩ = some (.int .i64 a3_3) := (blk_cell BK417.out 3).trans rfl; have hcz27_4 : w24.cell? ⟨gb417, 4, none⟩ = some (.int .i64 a3_4) := (blk_cell BK417.out 4).trans rfl; have hcz27_5 : w24.cell? ⟨gb417, 5, none⟩ = some (.int .i64 a3_5) := (blk_cell BK417.out 5).trans rfl; have hcz27_6 : w24.cell? ⟨gb417, 6, none⟩ = some (.string a3_6) := (blk_cell BK417.out 6).trans rfl; have hfz27_0 := blk_frozen BK417.out 0; have hfz27_1 := blk_frozen BK417.out 1; have hfz27_2 := blk_frozen BK417.out 2; have hfz27_3 := blk_frozen BK417.out 3; have hfz27_4 := blk_frozen BK417.out 4; have hfz27_5 := blk_frozen BK417.out 5; have hfz27_6 := blk_frozen BK417.out 6) | ((with_reducible refine gate_callee (f := 35) rfl ?_); refine goesL_ (some 47) rfl rfl Try.func35 (by kernel_rfl) rfl #[.agg #[.int .i64 a3_0, .int .i64 a3_1, .int .i64 a3_2, .int .i64 a3_3, .int .i64 a3_4, .int .i64 a3_5, .string a3_6]] rfl (by (try simp only [List.map_toArray, List.map_cons, List.map_nil]); first | done | rfl | (simp only [List.length_drop, List.length_take]; rfl)) ?_; (with_reducible refine (laws_toSegment.calls a3_0 a3_1 a3_2 a3_3 a3_4 a3_5 a3_6 t442 t443 t444 t445 t446 t447 t448 _ A15.out).mono ?_); rintro e w28 ⟨rfl, hb⟩; refine ⟨_, rfl, ?_⟩; have n0_ := Aside0.mk (Kd.R_below (by (with_reducible repeat (first | apply Kd.R_alloc | apply Kd.R_drewN | apply Kd.R_drew)); exact (Kd.R_mono (Kd.R_far (p := ⟨gb441, 10, none⟩) (Kd.R_far (p := ⟨gb441, 9, none⟩) (Kd.R_far (p := ⟨gb441, 8, none⟩) (Kd.R_far (p := ⟨gb441, 7, none⟩) (Kd.R_far (p := ⟨gb441, 6, none⟩) (Kd.R_far (p := ⟨gb441, 5, none⟩) (Kd.R_far (p := ⟨gb441, 4, none⟩) (Kd.R_far (p := ⟨gb441, 3, none⟩) (Kd.R_far (p := ⟨gb441, 2, none⟩) (Kd.R_far (p := ⟨gb441, 1, none⟩) (Kd.R_far (p := ⟨gb441, 0, none⟩) (Kd.R_types HO439.out BK441.out (by decide)) (fun _ hk => hk.2) (.string t426)) (fun _ hk => hk.2) (.int .i64 t427)) (fun _ hk => hk.2) (.int .i64 t428)) (fun _ hk => hk.2) (.int .i64 t429)) (fun _ hk => hk.2) (.int .i64 t430)) (fun _ hk => hk.2) (.int .i64 t431)) (fun _ hk => hk.2) (.int .i64 t432)) (fun _ hk => hk.2) (.int .i64 t433)) (fun _ hk => hk.2) (.string t434)) (fun _ hk => hk.2) (.string t435)) (fun _ hk => hk.2) (.bool t436)) (fun _ h_ => h_.1))) hb); have n1_ := Aside0.mk (blk_below (g := gb417) (o := .cells #[.int .i64 a3_0, .int .i64 a3_1, .int .i64 a3_2, .int .i64 a3_3, .int .i64 a3_4, .int .i64 a3_5, .string a3_6] 48 (0, 0)) (by (with_reducible repeat (first | refine blk_drewN ?_ _ | refine blk_drew ?_ | refine blk_alloc ?_ _)); refine blk_far ?_ NB417_441.out _; (with_reducible repeat (first | refine blk_drewN ?_ _ | refine blk_drew ?_ | refine blk_alloc ?_ _)); refine blk_far ?_ NB417_441.out _; (with_reducible repeat (first | refine blk_drewN ?_ _ | refine blk_drew ?_ | refine blk_alloc ?_ _)); refine blk_far ?_ NB417_441.out _; (with_reducible repeat (first | refine blk_drewN ?_ _ | refine blk_drew ?_ | refine blk_alloc ?_ _)); refine blk_far ?_ NB417_441.out _; (with_reducible repeat (first | refine blk_drewN ?_ _ | refine blk_drew ?_ | refine blk_alloc ?_ _)); refine blk_far ?_ NB417_441.out _; (with_reducible repeat (first | refine blk_drewN ?_ _ | refine blk_drew ?_ | refine blk_alloc ?_ _)); refine blk_far ?_ NB417_441.out _; (with_reducible repeat (first | refine blk_drewN ?_ _ | refine blk_drew ?_ | refine blk_alloc ?_ _)); refine blk_far ?_ NB417_441.out _; (with_reducible repeat (first | refine blk_drewN ?_ _ | refine blk_drew ?_ | refine blk_alloc ?_ _)); refine blk_far ?_ NB417_441.out _; (with_reducible repeat (first | refine blk_drewN ?_ _ | refine blk_drew ?_ | refine blk_alloc ?_ _)); refine blk_far ?_ NB417_441.out _; (with_reducible repeat (first | refine blk_drewN ?_ _ | refine blk_drew ?_ | refine blk_alloc ?_ _)); refine blk_far ?_ NB417_441.out _; (with_reducible repeat (first | refine blk_drewN ?_ _ | refine blk_drew ?_ | refine blk_alloc ?_ _)); refine blk_far ?_ NB417_441.out _; (with_reducible repeat (first | refine blk_drewN ?_ _ | refine blk_drew ?_ | refine blk_alloc ?_ _)); exact BK417.out) hb); have n2_ := Aside0.mk (blk_below (g := gb441) (o := .cells #[.string t426, .int .i64 t427, .int .i64 t428, .int .i64 t429, .int .i64 t430, .int .i64 t431, .int .i64 t432, .int .i64 t433, .string t434, .string t435, .bool t436] 34 (0, 0)) (by (with_reducible repeat (first | refine blk_drewN ?_ _ | refine blk_drew ?_ | refine blk_alloc ?_ _)); refine blk_put (cs := #[.string t426, .int .i64 t427, .int .i64 t428, .int .i64 t429, .int .i64 t430, .int .i64 t431, .int .i64 t432, .int .i64 t433, .string t434, .string t435, .bool false]) ?_ 10 _ rfl; (with_reducible repeat (first | refine blk_drewN ?_ _ | refine blk_drew ?_ | refine blk_alloc ?_ _)); refine blk_put (cs := #[.string t426, .int .i64 t427, .int .i64 t428, .int .i64 t429, .int .i64 t430, .int .i64 t431, .int .i64 t432, .int .i64 t433, .string t434, .string (⟨#[]⟩ : ByteArray), .bool false]) ?_ 9 _ rfl; (with_reducible repeat (first | refine blk_drewN ?_ _ | refine blk_drew ?_ | refine blk_alloc ?_ _)); refine blk_put (cs := #[.string t426, .int .i64 t427, .int .i64 t428, .int .i64 t429, .int .i64 t430, .int .i64 t431, .int .i64 t432, .int .i64 t433, .string (⟨#[]⟩ : ByteArray), .string (⟨#[]⟩ : ByteArray), .bool false]) ?_ 8 _ rfl; (with_reducible repeat (first | refine blk_drewN ?_ _ | refine blk_drew ?_ | refine blk_alloc ?_ _)); refine blk_put (cs := #[.string t426, .int .i64 t427, .int .i64 t428, .int .i64 t429, .int .i64 t430, .int .i64 t431, .int .i64 t432, .int .i64 0, .string (⟨#[]⟩ : ByteArray), .string (⟨#[]⟩ : ByteArray), .bool false]) ?_ 7 _ rfl; (with_reducible repeat (first | refine blk_drewN ?_ _ | refine blk_drew ?_ | refine blk_alloc ?_ _)); refine blk_put (cs := #[.string t426, .int .i64 t427, .int .i64 t428, .int .i64 t429, .int .i64 t430, .int .i64 t431, .int .i64 0, .int .i64 0, .string (⟨#[]⟩ : ByteArray), .string (⟨#[]⟩ : ByteArray), .bool false]) ?_ 6 _ rfl; (with_reducible repeat (first | refine blk_drewN ?_ _ | refine blk_drew ?_ | refine blk_alloc ?_ _)); refine blk_put (cs := #[.string t426, .int .i64 t427, .int .i64 t428, .int .i64 t429, .int .i64 t430, .int .i64 0, .int .i64 0, .int .i64 0, .string (⟨#[]⟩ : ByteArray), .string (⟨#[]⟩ : ByteArray), .bool false]) ?_ 5 _ rfl; (with_reducible repeat (first | refine blk_drewN ?_ _ | refine blk_drew ?_ | refine blk_alloc ?_ _)); refine blk_put (cs := #[.string t426, .int .i64 t427, .int .i64 t428, .int .i64 t429, .int .i64 0, .int .i64 0, .int .i64 0, .int .i64 0, .string (⟨#[]⟩ : ByteArray), .string (⟨#[]⟩ : ByteArray), .bool false]) ?_ 4 _ rfl; (with_reducible repeat (first | refine blk_drewN ?_ _ | refine blk_drew ?_ | refine blk_alloc ?_ _)); refine blk_put (cs := #[.string t426, .int .i64 t427, .int .i64 t428, .int .i64 0, .int .i64 0, .int .i64 0, .int .i64 0, .int .i64 0, .string (⟨#[]⟩ : ByteArray), .string (⟨#[]⟩ : ByteArray), .bool false]) ?_ 3 _ rfl; (with_reducible repeat (first | refine blk_drewN ?_ _ | refine blk_drew ?_ | refine blk_alloc ?_ _)); refine blk_put (cs := #[.string t426, .int .i64 t427, .int .i64 0, .int .i64 0, .int .i64 0, .int .i64 0, .int .i64 0, .int .i64 0, .string (⟨#[]⟩ : ByteArray), .string (⟨#[]⟩ : ByteArray), .bool false]) ?_ 2 _ rfl; (with_reducible repeat (first | refine blk_drewN ?_ _ | refine blk_drew ?_ | refine blk_alloc ?_ _)); refine blk_put (cs := #[.string t426, .int .i64 0, .int .i64 0, .int .i64 0, .int .i64 0, .int .i64 0, .int .i64 0, .int .i64 0, .string (⟨#[]⟩ : ByteArray), .string (⟨#[]⟩ : ByteArray), .bool false]) ?_ 1 _ rfl; (with_reducible repeat (first | refine blk_drewN ?_ _ | refine blk_drew ?_ | refine blk_alloc ?_ _)); refine blk_put (cs := #[.string (⟨#[]⟩ : ByteArray), .int .i64 0, .int .i64 0, .int .i64 0, .int .i64 0, .int .i64 0, .int .i64 0, .int .i64 0, .string (⟨#[]⟩ : ByteArray), .string (⟨#[]⟩ : ByteArray), .bool false]) ?_ 0 _ rfl; (with_reducible repeat (first | refine blk_drewN ?_ _ | refine blk_drew ?_ | refine blk_alloc ?_ _)); exact BK441.out) hb); have n3_ := Aside0.mk (below_step (by repeat (first | (with_reducible first | exact HB.out | apply below_alloc | apply pw_below_drewN | apply below_drew1 | refine below_set ?_ GE417.out | refine below_set ?_ GE441.out) | exact HB.out)) hb); clear HO439; clear BK417; clear BK441; clear HB; have HO439 := n0_; have BK417 := n1_; have BK441 := n2_; have HB := n3_; clear n0_ n1_ n2_ n3_; (try clear hb); (try clear hb2); (try clear hk); (try clear hi)) | ((with_reducible refine gate_callee (f := 36) rfl ?_); refine goesL_ (some 49) rfl rfl Try.func36 (by kernel_rfl) rfl #[.string a0, .int .i64 a1, .int .i64 a2, .agg #[.int .i64 t442, .int .i64 t443, .int .i64 t444, .int .i64 t445, .int .i64 t446, .int .i64 t447, .string t448], .int .i64 a4] rfl (by (try simp only [List.map_toArray, List.map_cons, List.map_nil]); first | done | rfl | (simp only [List.length_drop, List.length_take]; rfl)) ?_; (with_reducible refine (impl_ConnOpen.calls k a0 a1 a2 t442 t443 t444 t445 t446 t447 t448 a4 t449 t450 t451 t452 t453 t454 t455 t456 t457 t458 t459 t460 t463 _ A16.out).mono ?_); rintro e w29 ⟨v461, rfl, ho0, hb⟩; refine ⟨_, rfl, ?_⟩; have n0_ := Aside0.mk (Kd.R_elder' (by (with_reducible repeat (first | apply Kd.R_alloc | apply Kd.R_drewN | apply Kd.R_drew)); exact HO439.out) (Kd.R_base ho0) hb); have n1_ := Aside0.mk (Kd.R_lower (Kd.R_new' ho0 (Kd.R_lt (by (with_reducible repeat (first | apply Kd.R_alloc | apply Kd.R_drewN | apply Kd.R_drew)); exact HO439.out))) (below_size (by repeat (first | (with_reducible first | exact HB.out | apply below_alloc | apply pw_below_drewN | apply below_drew1 | refine below_set ?_ GE417.out | refine below_set ?_ GE441.out) | exact HB.out)))); have n2_ := Aside0.mk (blk_below (g := gb417) (o := .cells #[.int .i64 a3_0, .int .i64 a3_1, .int .i64 a3_2, .int .i64 a3_3, .int .i64 a3_4, .int .i64 a3_5, .string a3_6] 48 (0, 0)) (by (with_reducible repeat (first | refine blk_drewN ?_ _ | refine blk_drew ?_ | refine blk_alloc ?_ _)); exact BK417.out) hb); have n3_ := Aside0.mk (blk_below (g := gb441) (o := .cells #[.string t426, .int .i64 t427, .int .i64 t428, .int .i64 t429, .int .i64 t430, .int .i64 t431, .int .i64 t432, .int .i64 t433, .string t434, .string t435, .bool t436] 34 (0, 0)) (by (with_reducible repeat (first | refine blk_drewN ?_ _ | refine blk_drew ?_ | refine blk_alloc ?_ _)); exact BK441.out) hb); have n4_ := Aside0.mk (below_step (by repeat (first | (with_reducible first | exact HB.out | apply below_alloc | apply pw_below_drewN | apply below_drew1 | refine below_set ?_ GE417.out | refine below_set ?_ GE441.out) | exact HB.out)) hb); clear HO439; clear BK417; clear BK441; clear HB; have HO439 := n0_; have HO462 := n1_; have BK417 := n2_; have BK441 := n3_; have HB := n4_; clear n0_ n1_ n2_ n3_ n4_; (try clear hb); (try clear hb2); (try clear hk); (try clear hi); (try clear ho0)) | ((with_reducible refine gate_dst (N := 15) rfl ?_); refine box_event ?hg (N := 15) ?hd (cs := #[.string (⟨#[]⟩ : ByteArray), .int .i64 0, .int .i64 0, .int .i64 0, .int .i64 0, .int .i64 0, .int .i64 0, .int .i64 0, .string (⟨#[]⟩ : ByteArray), .string (⟨#[]⟩ : ByteArray), .bool false]) (t := 34) ?hr ?_; (case hd => rfl); (case hg => rfl); (case hr => first | (go_simp; done) | (go_simp; rfl)); intro gb464 hg w30 hbox hb; have n0_ := Aside0.mk (Kd.R_below (by (with_reducible repeat (first | apply Kd.R_alloc | apply Kd.R_drewN | apply Kd.R_drew)); exact HO439.out) hb); have n1_ := Aside0.mk (Kd.R_below (by (with_reducible repeat (first | apply Kd.R_alloc | apply Kd.R_drewN | apply Kd.R_drew)); exact HO462.out) hb); have n2_ := Aside0.mk (blk_below (g := gb417) (o := .cells #[.int .i64 a3_0, .int .i64 a3_1, .int .i64 a3_2, .int .i64 a3_3, .int .i64 a3_4, .int .i64 a3_5, .string a3_6] 48 (0, 0)) (by (with_reducible repeat (first | refine blk_drewN ?_ _ | refine blk_drew ?_ | refine blk_alloc ?_ _)); exact BK417.out) hb); have n3_ := Aside0.mk (blk_below (g := gb441) (o := .cells #[.string t426, .int .i64 t427, .int .i64 t428, .int .i64 t429, .int .i64 t430, .int .i64 t431, .int .i64 t432, .int .i64 t433, .string t434, .string t435, .bool t436] 34 (0, 0)) (by (with_reducible repeat (first | refine blk_drewN ?_ _ | refine blk_drew ?_ | refine blk_alloc ?_ _)); exact BK441.out) hb); have n4_ := Aside0.mk (below_step (by repeat (first | (with_reducible first | exact HB.out | apply below_alloc | apply pw_below_drewN | apply below_drew1 | refine below_set ?_ GE417.out | refine below_set ?_ GE441.out) | exact HB.out)) hb); have n5_ := Aside0.mk (hbox); have n6_ := Aside0.mk ((by rw [hg]; exact (below_size (by repeat (first | (with_reducible first | exact HB.out | apply below_alloc | apply pw_below_drewN | apply below_drew1 | refine below_set ?_ GE417.out | refine below_set ?_ GE441.out) | exact HB.out))) : w.heap.size ≤ gb464)); have n7_ := Aside0.mk ((by rw [hg]; exact (below_size (by repeat (first | (with_reducible first | exact HB.out | apply below_alloc | apply pw_below_drewN | apply below_drew1 | refine below_set ?_ GE417.out | refine below_set ?_ GE441.out) | exact HB.out))) : w.heap.size ≤ gb464)); have n8_ := Aside0.mk ((by rw [hg]; exact Nat.ne_of_lt (blk_lt (g := gb417) (o := .cells #[.int .i64 a3_0, .int .i64 a3_1, .int .i64 a3_2, .int .i64 a3_3, .int .i64 a3_4, .int .i64 a3_5, .string a3_6] 48 (0, 0)) (by (with_reducible repeat (first | refine blk_drewN ?_ _ | refine blk_drew ?_ | refine blk_alloc ?_ _)); exact BK417.out)) : gb417 ≠ gb464)); have n9_ := Aside0.mk ((by rw [hg]; exact Nat.ne_of_gt (blk_lt (g := gb417) (o := .cells #[.int .i64 a3_0, .int .i64 a3_1, .int .i64 a3_2, .int .i64 a3_3, .int .i64 a3_4, .int .i64 a3_5, .string a3_6] 48 (0, 0)) (by (with_reducible repeat (first | refine blk_drewN ?_ _ | refine blk_drew ?_ | refine blk_alloc ?_ _)); exact BK417.out)) : gb464 ≠ gb417)); have n10_ := Aside0.mk ((by rw [hg]; exact Nat.ne_of_lt (blk_lt (g := gb441) (o := .cells #[.string t426, .int .i64 t427, .int .i64 t428, .int .i64 t429, .int .i64 t430, .int .i64 t431, .int .i64 t432, .int .i64 t433, .string t434, .string t435, .bool t436] 34 (0, 0)) (by (with_reducible repeat (first | refine blk_drewN ?_ _ | refine blk_drew ?_ | refine blk_alloc ?_ _)); exact BK441.out)) : gb441 ≠ gb464)); have n11_ := Aside0.mk ((by rw [hg]; exact Nat.ne_of_gt (blk_lt (g := gb441) (o := .cells #[.string t426, .int .i64 t427, .int .i64 t428, .int .i64 t429, .int .i64 t430, .int .i64 t431, .int .i64 t432, .int .i64 t433, .string t434, .string t435, .bool t436] 34 (0, 0)) (by (with_reducible repeat (first | refine blk_drewN ?_ _ | refine blk_drew ?_ | refine blk_alloc ?_ _)); exact BK441.out)) : gb464 ≠ gb441)); clear HO439; clear HO462; clear BK417; clear BK441; clear HB; have HO439 := n0_; have HO462 := n1_; have BK417 := n2_; have BK441 := n3_; have HB := n4_; have BK464 := n5_; have GW464 := n6_; have GE464 := n7_; have NB417_464 := n8_; have NB464_417 := n9_; have NB441_464 := n10_; have NB464_441 := n11_; clear n0_ n1_ n2_ n3_ n4_ n5_ n6_ n7_ n8_ n9_ n10_ n11_; clear hb hbox hg; have hnb31 := NB464_417.out; have hnc31 := NB417_464.out; have hnb32 := NB464_441.out; have hnc32 := NB441_464.out; have hcz33_0 : w30.cell? ⟨gb464, 0, none⟩ = some (.string (⟨#[]⟩ : ByteArray)) := (blk_cell BK464.out 0).trans rfl; have hcz33_1 : w30.cell? ⟨gb464, 1, none⟩ = some (.int .i64 0) := (blk_cell BK464.out 1).trans rfl; have hcz33_2 : w30.cell? ⟨gb464, 2, none⟩ = some (.int .i64 0) := (blk_cell BK464.out 2).trans rfl; have hcz33_3 : w30.cell? ⟨gb464, 3, none⟩ = some (.int .i64 0) := (blk_cell BK464.out 3).trans rfl; have hcz33_4 : w30.cell? ⟨gb464, 4, none⟩ = some (.int .i64 0) := (blk_cell BK464.out 4).trans rfl; have hcz33_5 : w30.cell? ⟨gb464, 5, none⟩ = some (.int .i64 0) := (blk_cell BK464.out 5).trans rfl; have hcz33_6 : w30.cell? ⟨gb464, 6, none⟩ = some (.int .i64 0) := (blk_cell BK464.out 6).trans rfl; have hcz33_7 : w30.cell? ⟨gb464, 7, none⟩ = some (.int .i64 0) := (blk_cell BK464.out 7).trans rfl; have hcz33_8 : w30.cell? ⟨gb464, 8, none⟩ = some (.string (⟨#[]⟩ : ByteArray)) := (blk_cell BK464.out 8).trans rfl; have hcz33_9 : w30.cell? ⟨gb464, 9, none⟩ = some (.string (⟨#[]⟩ : ByteArray)) := (blk_cell BK464.out 9).trans rfl; have hcz33_10 : w30.cell? ⟨gb464, 10, none⟩ = some (.bool false) := (blk_cell BK464.out 10).trans rfl; have hfz33_0 := blk_frozen BK464.out 0; have hfz33_1 := blk_frozen BK464.out 1; have hfz33_2 := blk_frozen BK464.out 2; have hfz33_3 := blk_frozen BK464.out 3; have hfz33_4 := blk_frozen BK464.out 4; have hfz33_5 := blk_frozen BK464.out 5; have hfz33_6 := blk_frozen BK464.out 6; have hfz33_7 := blk_frozen BK464.out 7; have hfz33_8 := blk_frozen BK464.out 8; have hfz33_9 := blk_frozen BK464.out 9; have hfz33_10 := blk_frozen BK464.out 10))
      (try simp only [Act.put, List.setIfInBounds_toArray, List.set_cons_zero, List.set_cons_succ])
      go_cut [67] (fun v67 wc => ∃ (kq : Nat) (x67_16 : Bool), v67 = .bool x67_16 ∧ Aside0 (laws_FnExactConnOpen.j0 kq a0 a1 a2 a4 t437 t440 t460 x67_16 a3_0 a3_1 a3_2 a3_3 a3_4 a3_5 a3_6 t426 t427 t428 t429 t430 t431 t432 t433 t434 t435 t436 = some r) ∧ Aside0 (kq ≤ k) ∧ Aside0 (Kd.R k53 53 wc w.heap.size (fun k_ => some k_ ≠ (v461 : Value).ownBlock) v438 t437) ∧ Aside0 (Kd.R k53 53 wc w.heap.size (fun k_ => some k_ ≠ (v438 : Value).ownBlock) v461 t460) ∧ Aside0 (wc.heap[gb417]? = some (.cells #[.int .i64 a3_0, .int .i64 a3_1, .int .i64 a3_2, .int .i64 a3_3, .int .i64 a3_4, .int .i64 a3_5, .string a3_6] 48 (0, 0))) ∧ Aside0 (wc.heap[gb441]? = some (.cells #[.string t426, .int .i64 t427, .int .i64 t428, .int .i64 t429, .int .i64 t430, .int .i64 t431, .int .i64 t432, .int .i64 t433, .string t434, .string t435, .bool t436] 34 (0, 0))) ∧ Aside0 (wc.heap[gb464]? = some (.cells #[.string t449, .int .i64 t450, .int .i64 t451, .int .i64 t452, .int .i64 t453, .int .i64 t454, .int .i64 t455, .int .i64 t456, .string t457, .string t458, .bool t459] 34 (0, 0))) ∧ Aside0 (Below w.heap.size w wc))
      case first =>
        have H := HC17.out
        clear HC17
        replace H := Option.bind_eq_some_iff.mp H
        obtain ⟨t465, A340, H⟩ := H
        replace H : (if t465 = true then ((laws_eqSegmentS.f k t460 t437).bind fun t466 => (if t466 = true then (laws_FnExactConnOpen.j0 k a0 a1 a2 a4 t437 t440 t460 (t463 != t440) a3_0 a3_1 a3_2 a3_3 a3_4 a3_5 a3_6 t426 t427 t428 t429 t430 t431 t432 t433 t434 t435 t436) else (laws_FnExactConnOpen.j0 k a0 a1 a2 a4 t437 t440 t460 true a3_0 a3_1 a3_2 a3_3 a3_4 a3_5 a3_6 t426 t427 t428 t429 t430 t431 t432 t433 t434 t435 t436))) else (laws_FnExactConnOpen.j0 k a0 a1 a2 a4 t437 t440 t460 true a3_0 a3_1 a3_2 a3_3 a3_4 a3_5 a3_6 t426 t427 t428 t429 t430 t431 t432 t433 t434 t435 t436)) = some r := H
        have A34 := Aside0.mk A340
        clear A340
        by_cases c35 : t465 = true
        · subst c35
          have H1 : ((laws_eqSegmentS.f k t460 t437).bind fun t466 => (if t466 = true then (laws_FnExactConnOpen.j0 k a0 a1 a2 a4 t437 t440 t460 (t463 != t440) a3_0 a3_1 a3_2 a3_3 a3_4 a3_5 a3_6 t426 t427 t428 t429 t430 t431 t432 t433 t434 t435 t436) else (laws_FnExactConnOpen.j0 k a0 a1 a2 a4 t437 t440 t460 true a3_0 a3_1 a3_2 a3_3 a3_4 a3_5 a3_6 t426 t427 t428 t429 t430 t431 t432 t433 t434 t435 t436))) = some r := by rw [if_pos rfl] at H; exact H
          clear H
          have H := H1
          clear H1
          replace H := Option.bind_eq_some_iff.mp H
          obtain ⟨t466, A360, H⟩ := H
          replace H : (if t466 = true then (laws_FnExactConnOpen.j0 k a0 a1 a2 a4 t437 t440 t460 (t463 != t440) a3_0 a3_1 a3_2 a3_3 a3_4 a3_5 a3_6 t426 t427 t428 t429 t430 t431 t432 t433 t434 t435 t436) else (laws_FnExactConnOpen.j0 k a0 a1 a2 a4 t437 t440 t460 true a3_0 a3_1 a3_2 a3_3 a3_4 a3_5 a3_6 t426 t427 t428 t429 t430 t431 t432 t433 t434 t435 t436)) = some r := H
          have A36 := Aside0.mk A360
          clear A360
          by_cases c37 : t466 = true
          · subst c37
            have H1 : (laws_FnExactConnOpen.j0 k a0 a1 a2 a4 t437 t440 t460 (t463 != t440) a3_0 a3_1 a3_2 a3_3 a3_4 a3_5 a3_6 t426 t427 t428 t429 t430 t431 t432 t433 t434 t435 t436) = some r := by rw [if_pos rfl] at H; exact H
            clear H
            have H := H1
            clear H1
            have H' := Aside0.mk H
            clear H
            have hnb38 := NB464_417.out
            have hnc38 := NB417_464.out
            have hnb39 := NB464_441.out
            have hnc39 := NB441_464.out
            have hcz40_0 : w30.cell? ⟨gb464, 0, none⟩ = some (.string (⟨#[]⟩ : ByteArray)) := (blk_cell BK464.out 0).trans rfl
            have hcz40_1 : w30.cell? ⟨gb464, 1, none⟩ = some (.int .i64 0) := (blk_cell BK464.out 1).trans rfl
            have hcz40_2 : w30.cell? ⟨gb464, 2, none⟩ = some (.int .i64 0) := (blk_cell BK464.out 2).trans rfl
            have hcz40_3 : w30.cell? ⟨gb464, 3, none⟩ = some (.int .i64 0) := (blk_cell BK464.out 3).trans rfl
            have hcz40_4 : w30.cell? ⟨gb464, 4, none⟩ = some (.int .i64 0) := (blk_cell BK464.out 4).trans rfl
            have hcz40_5 : w30.cell? ⟨gb464, 5, none⟩ = some (.int .i64 0) := (blk_cell BK464.out 5).trans rfl
            have hcz40_6 : w30.cell? ⟨gb464, 6, none⟩ = some (.int .i64 0) := (blk_cell BK464.out 6).trans rfl
            have hcz40_7 : w30.cell? ⟨gb464, 7, none⟩ = some (.int .i64 0) := (blk_cell BK464.out 7).trans rfl
            have hcz40_8 : w30.cell? ⟨gb464, 8, none⟩ = some (.string (⟨#[]⟩ : ByteArray)) := (blk_cell BK464.out 8).trans rfl
            have hcz40_9 : w30.cell? ⟨gb464, 9, none⟩ = some (.string (⟨#[]⟩ : ByteArray)) := (blk_cell BK464.out 9).trans rfl
            have hcz40_10 : w30.cell? ⟨gb464, 10, none⟩ = some (.bool false) := (blk_cell BK464.out 10).trans rfl
            have hfz40_0 := blk_frozen BK464.out 0
            have hfz40_1 := blk_frozen BK464.out 1
            have hfz40_2 := blk_frozen BK464.out 2
            have hfz40_3 := blk_frozen BK464.out 3
            have hfz40_4 := blk_frozen BK464.out 4
            have hfz40_5 := blk_frozen BK464.out 5
            have hfz40_6 := blk_frozen BK464.out 6
            have hfz40_7 := blk_frozen BK464.out 7
            have hfz40_8 := blk_frozen BK464.out 8
            have hfz40_9 := blk_frozen BK464.out 9
            have hfz40_10 := blk_frozen BK464.out 10
            have hnb41 := NB441_417.out
            have hnc41 := NB417_441.out
            have hcz42_0 : w30.cell? ⟨gb441, 0, none⟩ = some (.string t426) := (blk_cell BK441.out 0).trans rfl
            have hcz42_1 : w30.cell? ⟨gb441, 1, none⟩ = some (.int .i64 t427) := (blk_cell BK441.out 1).trans rfl
            have hcz42_2 : w30.cell? ⟨gb441, 2, none⟩ = some (.int .i64 t428) := (blk_cell BK441.out 2).trans rfl
            have hcz42_3 : w30.cell? ⟨gb441, 3, none⟩ = some (.int .i64 t429) := (blk_cell BK441.out 3).trans rfl
            have hcz42_4 : w30.cell? ⟨gb441, 4, none⟩ = some (.int .i64 t430) := (blk_cell BK441.out 4).trans rfl
            have hcz42_5 : w30.cell? ⟨gb441, 5, none⟩ = some (.int .i64 t431) := (blk_cell BK441.out 5).trans rfl
            have hcz42_6 : w30.cell? ⟨gb441, 6, none⟩ = some (.int .i64 t432) := (blk_cell BK441.out 6).trans rfl
            have hcz42_7 : w30.cell? ⟨gb441, 7, none⟩ = some (.int .i64 t433) := (blk_cell BK441.out 7).trans rfl
            have hcz42_8 : w30.cell? ⟨gb441, 8, none⟩ = some (.string t434) := (blk_cell BK441.out 8).trans rfl
            have hcz42_9 : w30.cell? ⟨gb441, 9, none⟩ = some (.string t435) := (blk_cell BK441.out 9).trans rfl
            have hcz42_10 : w30.cell? ⟨gb441, 10, none⟩ = some (.bool t436) := (blk_cell BK441.out 10).trans rfl
            have hfz42_0 := blk_frozen BK441.out 0
            have hfz42_1 := blk_frozen BK441.out 1
            have hfz42_2 := blk_frozen BK441.out 2
            have hfz42_3 := blk_frozen BK441.out 3
            have hfz42_4 := blk_frozen BK441.out 4
            have hfz42_5 := blk_frozen BK441.out 5
            have hfz42_6 := blk_frozen BK441.out 6
            have hfz42_7 := blk_frozen BK441.out 7
            have hfz42_8 := blk_frozen BK441.out 8
            have hfz42_9 := blk_frozen BK441.out 9
            have hfz42_10 := blk_frozen BK441.out 10
            go_wp2_with (first | ((with_reducible refine gate_callee (f := 37) rfl ?_); refine goesL_ (some 55) rfl rfl Try.func37 (by kernel_rfl) rfl #[.agg #[.string t449, .int .i64 t450, .int .i64 t451, .int .i64 t452, .int .i64 t453, .int .i64 t454, .int .i64 t455, .int .i64 t456, .string t457, .string t458, .bool t459], .agg #[.string t426, .int .i64 t427, .int .i64 t428, .int .i64 t429, .int .i64 t430, .int .i64 t431, .int .i64 t432, .int .i64 t433, .string t434, .string t435, .bool t436]] rfl (by (try simp only [List.map_toArray, List.map_cons, List.map_nil]); first | done | rfl | (simp only [List.length_drop, List.length_take]; rfl)) ?_; (with_reducible refine (laws_eqConn.calls t449 t450 t451 t452 t453 t454 t455 t456 t457 t458 t459 t426 t427 t428 t429 t430 t431 t432 t433 t434 t435 t436 true _ A34.out).mono ?_); rintro e w43 ⟨rfl, hb⟩; refine ⟨_, rfl, ?_⟩; have n0_ := Aside0.mk (Kd.R_below (by (with_reducible repeat (first | apply Kd.R_alloc | apply Kd.R_drewN | apply Kd.R_drew)); exact (Kd.R_mono (Kd.R_far (p := ⟨gb464, 10, none⟩) (Kd.R_far (p := ⟨gb464, 9, none⟩) (Kd.R_far (p := ⟨gb464, 8, none⟩) (Kd.R_far (p := ⟨gb464, 7, none⟩) (Kd.R_far (p := ⟨gb464, 6, none⟩) (Kd.R_far (p := ⟨gb464, 5, none⟩) (Kd.R_far (p := ⟨gb464, 4, none⟩) (Kd.R_far (p := ⟨gb464, 3, none⟩) (Kd.R_far (p := ⟨gb464, 2, none⟩) (Kd.R_far (p := ⟨gb464, 1, none⟩) (Kd.R_far (p := ⟨gb464, 0, none⟩) (Kd.R_types HO439.out BK464.out (by decide)) (fun _ hk => hk.2) (.string t449)) (fun _ hk => hk.2) (.int .i64 t450)) (fun _ hk => hk.2) (.int .i64 t451)) (fun _ hk => hk.2) (.int .i64 t452)) (fun _ hk => hk.2) (.int .i64 t453)) (fun _ hk => hk.2) (.int .i64 t454)) (fun _ hk => hk.2) (.int .i64 t455)) (fun _ hk => hk.2) (.int .i64 t456)) (fun _ hk => hk.2) (.string t457)) (fun _ hk => hk.2) (.string t458)) (fun _ hk => hk.2) (.bool t459)) (fun _ h_ => h_.1))) hb); have n1_ := Aside0.mk (Kd.R_below (by (with_reducible repeat (first | apply Kd.R_alloc | apply Kd.R_drewN | apply Kd.R_drew)); exact (Kd.R_mono (Kd.R_far (p := ⟨gb464, 10, none⟩) (Kd.R_far (p := ⟨gb464, 9, none⟩) (Kd.R_far (p := ⟨gb464, 8, none⟩) (Kd.R_far (p := ⟨gb464, 7, none⟩) (Kd.R_far (p := ⟨gb464, 6, none⟩) (Kd.R_far (p := ⟨gb464, 5, none⟩) (Kd.R_far (p := ⟨gb464, 4, none⟩) (Kd.R_far (p := ⟨gb464, 3, none⟩) (Kd.R_far (p := ⟨gb464, 2, none⟩) (Kd.R_far (p := ⟨gb464, 1, none⟩) (Kd.R_far (p := ⟨gb464, 0, none⟩) (Kd.R_types HO462.out BK464.out (by decide)) (fun _ hk => hk.2) (.string t449)) (fun _ hk => hk.2) (.int .i64 t450)) (fun _ hk => hk.2) (.int .i64 t451)) (fun _ hk => hk.2) (.int .i64 t452)) (fun _ hk => hk.2) (.int .i64 t453)) (fun _ hk => hk.2) (.int .i64 t454)) (fun _ hk => hk.2) (.int .i64 t455)) (fun _ hk => hk.2) (.int .i64 t456)) (fun _ hk => hk.2) (.string t457)) (fun _ hk => hk.2) (.string t458)) (fun _ hk => hk.2) (.bool t459)) (fun _ h_ => h_.1))) hb); have n2_ := Aside0.mk (blk_below (g := gb417) (o := .cells #[.int .i64 a3_0, .int .i64 a3_1, .int .i64 a3_2, .int .i64 a3_3, .int .i64 a3_4, .int .i64 a3_5, .string a3_6] 48 (0, 0)) (by (with_reducible repeat (first | refine blk_drewN ?_ _ | refine blk_drew ?_ | refine blk_alloc ?_ _)); refine blk_far ?_ NB417_464.out _; (with_reducible repeat (first | refine blk_drewN ?_ _ | refine blk_drew ?_ | refine blk_alloc ?_ _)); refine blk_far ?_ NB417_464.out _; (with_reducible repeat (first | refine blk_drewN ?_ _ | refine blk_drew ?_ | refine blk_alloc ?_ _)); refine blk_far ?_ NB417_464.out _; (with_reducible repeat (first | refine blk_drewN ?_ _ | refine blk_drew ?_ | refine blk_alloc ?_ _)); refine blk_far ?_ NB417_464.out _; (with_reducible repeat (first | refine blk_drewN ?_ _ | refine blk_drew ?_ | refine blk_alloc ?_ _)); refine blk_far ?_ NB417_464.out _; (with_reducible repeat (first | refine blk_drewN ?_ _ | refine blk_drew ?_ | refine blk_alloc ?_ _)); refine blk_far ?_ NB417_464.out _; (with_reducible repeat (first | refine blk_drewN ?_ _ | refine blk_drew ?_ | refine blk_alloc ?_ _)); refine blk_far ?_ NB417_464.out _; (with_reducible repeat (first | refine blk_drewN ?_ _ | refine blk_drew ?_ | refine blk_alloc ?_ _)); refine blk_far ?_ NB417_464.out _; (with_reducible repeat (first | refine blk_drewN ?_ _ | refine blk_drew ?_ | refine blk_alloc ?_ _)); refine blk_far ?_ NB417_464.out _; (with_reducible repeat (first | refine blk_drewN ?_ _ | refine blk_drew ?_ | refine blk_alloc ?_ _)); refine blk_far ?_ NB417_464.out _; (with_reducible repeat (first | refine blk_drewN ?_ _ | refine blk_drew ?_ | refine blk_alloc ?_ _)); refine blk_far ?_ NB417_464.out _; (with_reducible repeat (first | refine blk_drewN ?_ _ | refine blk_drew ?_ | refine blk_alloc ?_ _)); exact BK417.out) hb); have n3_ := Aside0.mk (blk_below (g := gb441) (o := .cells #[.string t426, .int .i64 t427, .int .i64 t428, .int .i64 t429, .int .i64 t430, .int .i64 t431, .int .i64 t432, .int .i64 t433, .string t434, .string t435, .bool t436] 34 (0, 0)) (by (with_reducible repeat (first | refine blk_drewN ?_ _ | refine blk_drew ?_ | refine blk_alloc ?_ _)); refine blk_far ?_ NB441_464.out _; (with_reducible repeat (first | refine blk_drewN ?_ _ | refine blk_drew ?_ | refine blk_alloc ?_ _)); refine blk_far ?_ NB441_464.out _; (with_reducible repeat (first | refine blk_drewN ?_ _ | refine blk_drew ?_ | refine blk_alloc ?_ _)); refine blk_far ?_ NB441_464.out _; (with_reducible repeat (first | refine blk_drewN ?_ _ | refine blk_drew ?_ | refine blk_alloc ?_ _)); refine blk_far ?_ NB441_464.out _; (with_reducible repeat (first | refine blk_drewN ?_ _ | refine blk_drew ?_ | refine blk_alloc ?_ _)); refine blk_far ?_ NB441_464.out _; (with_reducible repeat (first | refine blk_drewN ?_ _ | refine blk_drew ?_ | refine blk_alloc ?_ _)); refine blk_far ?_ NB441_464.out _; (with_reducible repeat (first | refine blk_drewN ?_ _ | refine blk_drew ?_ | refine blk_alloc ?_ _)); refine blk_far ?_ NB441_464.out _; (with_reducible repeat (first | refine blk_drewN ?_ _ | refine blk_drew ?_ | refine blk_alloc ?_ _)); refine blk_far ?_ NB441_464.out _; (with_reducible repeat (first | refine blk_drewN ?_ _ | refine blk_drew ?_ | refine blk_alloc ?_ _)); refine blk_far ?_ NB441_464.out _; (with_reducible repeat (first | refine blk_drewN ?_ _ | refine blk_drew ?_ | refine blk_alloc ?_ _)); refine blk_far ?_ NB441_464.out _; (with_reducible repeat (first | refine blk_drewN ?_ _ | refine blk_drew ?_ | refine blk_alloc ?_ _)); refine blk_far ?_ NB441_464.out _; (with_reducible repeat (first | refine blk_drewN ?_ _ | refine blk_drew ?_ | refine blk_alloc ?_ _)); exact BK441.out) hb); have n4_ := Aside0.mk (blk_below (g := gb464) (o := .cells #[.string t449, .int .i64 t450, .int .i64 t451, .int .i64 t452, .int .i64 t453, .int .i64 t454, .int .i64 t455, .int .i64 t456, .string t457, .string t458, .bool t459] 34 (0, 0)) (by (with_reducible repeat (first | refine blk_drewN ?_ _ | refine blk_drew ?_ | refine blk_alloc ?_ _)); refine blk_put (cs := #[.string t449, .int .i64 t450, .int .i64 t451, .int .i64 t452, .int .i64 t453, .int .i64 t454, .int .i64 t455, .int .i64 t456, .string t457, .string t458, .bool false]) ?_ 10 _ rfl; (with_reducible repeat (first | refine blk_drewN ?_ _ | refine blk_drew ?_ | refine blk_alloc ?_ _)); refine blk_put (cs := #[.string t449, .int .i64 t450, .int .i64 t451, .int .i64 t452, .int .i64 t453, .int .i64 t454, .int .i64 t455, .int .i64 t456, .string t457, .string (⟨#[]⟩ : ByteArray), .bool false]) ?_ 9 _ rfl; (with_reducible repeat (first | refine blk_drewN ?_ _ | refine blk_drew ?_ | refine blk_alloc ?_ _)); refine blk_put (cs := #[.string t449, .int .i64 t450, .int .i64 t451, .int .i64 t452, .int .i64 t453, .int .i64 t454, .int .i64 t455, .int .i64 t456, .string (⟨#[]⟩ : ByteArray), .string (⟨#[]⟩ : ByteArray), .bool false]) ?_ 8 _ rfl; (with_reducible repeat (first | refine blk_drewN ?_ _ | refine blk_drew ?_ | refine blk_alloc ?_ _)); refine blk_put (cs := #[.string t449, .int .i64 t450, .int .i64 t451, .int .i64 t452, .int .i64 t453, .int .i64 t454, .int .i64 t455, .int .i64 0, .string (⟨#[]⟩ : ByteArray), .string (⟨#[]⟩ : ByteArray), .bool false]) ?_ 7 _ rfl; (with_reducible repeat (first | refine blk_drewN ?_ _ | refine blk_drew ?_ | refine blk_alloc ?_ _)); refine blk_put (cs := #[.string t449, .int .i64 t450, .int .i64 t451, .int .i64 t452, .int .i64 t453, .int .i64 t454, .int .i64 0, .int .i64 0, .string (⟨#[]⟩ : ByteArray), .string (⟨#[]⟩ : ByteArray), .bool false]) ?_ 6 _ rfl; (with_reducible repeat (first | refine blk_drewN ?_ _ | refine blk_drew ?_ | refine blk_alloc ?_ _)); refine blk_put (cs := #[.string t449, .int .i64 t450, .int .i64 t451, .int .i64 t452, .int .i64 t453, .int .i64 0, .int .i64 0, .int .i64 0, .string (⟨#[]⟩ : ByteArray), .string (⟨#[]⟩ : ByteArray), .bool false]) ?_ 5 _ rfl; (with_reducible repeat (first | refine blk_drewN ?_ _ | refine blk_drew ?_ | refine blk_alloc ?_ _)); refine blk_put (cs := #[.string t449, .int .i64 t450, .int .i64 t451, .int .i64 t452, .int .i64 0, .int .i64 0, .int .i64 0, .int .i64 0, .string (⟨#[]⟩ : ByteArray), .string (⟨#[]⟩ : ByteArray), .bool false]) ?_ 4 _ rfl; (with_reducible repeat (first | refine blk_drewN ?_ _ | refine blk_drew ?_ | refine blk_alloc ?_ _)); refine blk_put (cs := #[.string t449, .int .i64 t450, .int .i64 t451, .int .i64 0, .int .i64 0, .int .i64 0, .int .i64 0, .int .i64 0, .string (⟨#[]⟩ : ByteArray), .string (⟨#[]⟩ : ByteArray), .bool false]) ?_ 3 _ rfl; (with_reducible repeat (first | refine blk_drewN ?_ _ | refine blk_drew ?_ | refine blk_alloc ?_ _)); refine blk_put (cs := #[.string t449, .int .i64 t450, .int .i64 0, .int .i64 0, .int .i64 0, .int .i64 0, .int .i64 0, .int .i64 0, .string (⟨#[]⟩ : ByteArray), .string (⟨#[]⟩ : ByteArray), .bool false]) ?_ 2 _ rfl; (with_reducible repeat (first | refine blk_drewN ?_ _ | refine blk_drew ?_ | refine blk_alloc ?_ _)); refine blk_put (cs := #[.string t449, .int .i64 0, .int .i64 0, .int .i64 0, .int .i64 0, .int .i64 0, .int .i64 0, .int .i64 0, .string (⟨#[]⟩ : ByteArray), .string (⟨#[]⟩ : ByteArray), .bool false]) ?_ 1 _ rfl; (with_reducible repeat (first | refine blk_drewN ?_ _ | refine blk_drew ?_ | refine blk_alloc ?_ _)); refine blk_put (cs := #[.string (⟨#[]⟩ : ByteArray), .int .i64 0, .int .i64 0, .int .i64 0, .int .i64 0, .int .i64 0, .int .i64 0, .int .i64 0, .string (⟨#[]⟩ : ByteArray), .string (⟨#[]⟩ : ByteArray), .bool false]) ?_ 0 _ rfl; (with_reducible repeat (first | refine blk_drewN ?_ _ | refine blk_drew ?_ | refine blk_alloc ?_ _)); exact BK464.out) hb); have n5_ := Aside0.mk (below_step (by repeat (first | (with_reducible first | exact HB.out | apply below_alloc | apply pw_below_drewN | apply below_drew1 | refine below_set ?_ GE417.out | refine below_set ?_ GE441.out | refine below_set ?_ GE464.out) | exact HB.out)) hb); clear HO439; clear HO462; clear BK417; clear BK441; clear BK464; clear HB; have HO439 := n0_; have HO462 := n1_; have BK417 := n2_; have BK441 := n3_; have BK464 := n4_; have HB := n5_; clear n0_ n1_ n2_ n3_ n4_ n5_; (try clear hb); (try clear hb2); (try clear hk); (try clear hi); obtain ⟨Ao44, co44, eo44⟩ := Kd.R_slice HO462.out; subst eo44; obtain ⟨Ao45, co45, eo45⟩ := Kd.R_slice HO439.out; subst eo45) | (go_at_call 38; (with_reducible refine (laws_eqSegmentS.calls k _ _ t460 _ _ t437 true _ ?side1 ?side2 ?side3 ?side4 A36.out).mono ?_); (case side1 => repeat (first | exact (Kd.R_reads' HO462.out).2.2 | (with_reducible refine Kd.C_alloc ?_ _) | (with_reducible refine Kd.C_drewN ?_ _) | (with_reducible refine Kd.C_drew ?_))); (case side2 => exact (Kd.R_reads' HO462.out).2.1); (case side3 => repeat (first | exact (Kd.R_reads' HO439.out).2.2 | (with_reducible refine Kd.C_alloc ?_ _) | (with_reducible refine Kd.C_drewN ?_ _) | (with_reducible refine Kd.C_drew ?_))); (case side4 => exact (Kd.R_reads' HO439.out).2.1); rintro e w46 ⟨rfl, hb⟩; have n0_ := Aside0.mk (Kd.R_below (by (with_reducible repeat (first | apply Kd.R_alloc | apply Kd.R_drewN | apply Kd.R_drew)); exact HO439.out) hb); have n1_ := Aside0.mk (Kd.R_below (by (with_reducible repeat (first | apply Kd.R_alloc | apply Kd.R_drewN | apply Kd.R_drew)); exact HO462.out) hb); have n2_ := Aside0.mk (blk_below (g := gb417) (o := .cells #[.int .i64 a3_0, .int .i64 a3_1, .int .i64 a3_2, .int .i64 a3_3, .int .i64 a3_4, .int .i64 a3_5, .string a3_6] 48 (0, 0)) (by (with_reducible repeat (first | refine blk_drewN ?_ _ | refine blk_drew ?_ | refine blk_alloc ?_ _)); exact BK417.out) hb); have n3_ := Aside0.mk (blk_below (g := gb441) (o := .cells #[.string t426, .int .i64 t427, .int .i64 t428, .int .i64 t429, .int .i64 t430, .int .i64 t431, .int .i64 t432, .int .i64 t433, .string t434, .string t435, .bool t436] 34 (0, 0)) (by (with_reducible repeat (first | refine blk_drewN ?_ _ | refine blk_drew ?_ | refine blk_alloc ?_ _)); exact BK441.out) hb); have n4_ := Aside0.mk (blk_below (g := gb464) (o := .cells #[.string t449, .int .i64 t450, .int .i64 t451, .int .i64 t452, .int .i64 t453, .int .i64 t454, .int .i64 t455, .int .i64 t456, .string t457, .string t458, .bool t459] 34 (0, 0)) (by (with_reducible repeat (first | refine blk_drewN ?_ _ | refine blk_drew ?_ | refine blk_alloc ?_ _)); exact BK464.out) hb); have n5_ := Aside0.mk (below_step (by repeat (first | (with_reducible first | exact HB.out | apply below_alloc | apply pw_below_drewN | apply below_drew1 | refine below_set ?_ GE417.out | refine below_set ?_ GE441.out | refine below_set ?_ GE464.out) | exact HB.out)) hb); clear HO439; clear HO462; clear BK417; clear BK441; clear BK464; clear HB; have HO439 := n0_; have HO462 := n1_; have BK417 := n2_; have BK441 := n3_; have BK464 := n4_; have HB := n5_; clear n0_ n1_ n2_ n3_ n4_ n5_; (try clear hb); (try clear hb2); (try clear hk); (try clear hi)))
            go_meet
            case rel => exact ⟨_, ((t463 != t440)), (by first | rfl | (simp; done) | (simp [*]; done) | (simp [ne_nil_b]; done) | (simp [ne_nil_b, *]; done)), H', ⟨by first | omega | exact Nat.le_refl _⟩, ⟨by (with_reducible repeat (first | apply Kd.R_alloc | apply Kd.R_drewN | apply Kd.R_drew)); exact Kd.R_mono HO439.out (fun _ hk => hk.2)⟩, ⟨by (with_reducible repeat (first | apply Kd.R_alloc | apply Kd.R_drewN | apply Kd.R_drew)); exact Kd.R_mono HO462.out (fun _ hk => hk.2)⟩, ⟨by (with_reducible repeat (first | refine blk_drewN ?_ _ | refine blk_drew ?_ | refine blk_alloc ?_ _)); exact BK417.out⟩, ⟨by (with_reducible repeat (first | refine blk_drewN ?_ _ | refine blk_drew ?_ | refine blk_alloc ?_ _)); exact BK441.out⟩, ⟨by (with_reducible repeat (first | refine blk_drewN ?_ _ | refine blk_drew ?_ | refine blk_alloc ?_ _)); exact BK464.out⟩, ⟨by repeat (first | (with_reducible first | exact HB.out | apply below_alloc | apply pw_below_drewN | apply below_drew1 | refine below_set ?_ GE417.out | refine below_set ?_ GE441.out | refine below_set ?_ GE464.out) | exact HB.out)⟩⟩
          · replace c37 := Bool.eq_false_iff.mpr c37
            subst c37
            have H1 : (laws_FnExactConnOpen.j0 k a0 a1 a2 a4 t437 t440 t460 true a3_0 a3_1 a3_2 a3_3 a3_4 a3_5 a3_6 t426 t427 t428 t429 t430 t431 t432 t433 t434 t435 t436) = some r := by rw [if_neg (show ¬ (false = true) by decide)] at H; exact H
            clear H
            have H := H1
            clear H1
            have H' := Aside0.mk H
            clear H
            have hnb47 := NB464_417.out
            have hnc47 := NB417_464.out
            have hnb48 := NB464_441.out
            have hnc48 := NB441_464.out
            have hcz49_0 : w30.cell? ⟨gb464, 0, none⟩ = some (.string (⟨#[]⟩ : ByteArray)) := (blk_cell BK464.out 0).trans rfl
            have hcz49_1 : w30.cell? ⟨gb464, 1, none⟩ = some (.int .i64 0) := (blk_cell BK464.out 1).trans rfl
            have hcz49_2 : w30.cell? ⟨gb464, 2, none⟩ = some (.int .i64 0) := (blk_cell BK464.out 2).trans rfl
            have hcz49_3 : w30.cell? ⟨gb464, 3, none⟩ = some (.int .i64 0) := (blk_cell BK464.out 3).trans rfl
            have hcz49_4 : w30.cell? ⟨gb464, 4, none⟩ = some (.int .i64 0) := (blk_cell BK464.out 4).trans rfl
            have hcz49_5 : w30.cell? ⟨gb464, 5, none⟩ = some (.int .i64 0) := (blk_cell BK464.out 5).trans rfl
            have hcz49_6 : w30.cell? ⟨gb464, 6, none⟩ = some (.int .i64 0) := (blk_cell BK464.out 6).trans rfl
            have hcz49_7 : w30.cell? ⟨gb464, 7, none⟩ = some (.int .i64 0) := (blk_cell BK464.out 7).trans rfl
            have hcz49_8 : w30.cell? ⟨gb464, 8, none⟩ = some (.string (⟨#[]⟩ : ByteArray)) := (blk_cell BK464.out 8).trans rfl
            have hcz49_9 : w30.cell? ⟨gb464, 9, none⟩ = some (.string (⟨#[]⟩ : ByteArray)) := (blk_cell BK464.out 9).trans rfl
            have hcz49_10 : w30.cell? ⟨gb464, 10, none⟩ = some (.bool false) := (blk_cell BK464.out 10).trans rfl
            have hfz49_0 := blk_frozen BK464.out 0
            have hfz49_1 := blk_frozen BK464.out 1
            have hfz49_2 := blk_frozen BK464.out 2
            have hfz49_3 := blk_frozen BK464.out 3
            have hfz49_4 := blk_frozen BK464.out 4
            have hfz49_5 := blk_frozen BK464.out 5
            have hfz49_6 := blk_frozen BK464.out 6
            have hfz49_7 := blk_frozen BK464.out 7
            have hfz49_8 := blk_frozen BK464.out 8
            have hfz49_9 := blk_frozen BK464.out 9
            have hfz49_10 := blk_frozen BK464.out 10
            have hnb50 := NB441_417.out
            have hnc50 := NB417_441.out
            have hcz51_0 : w30.cell? ⟨gb441, 0, none⟩ = some (.string t426) := (blk_cell BK441.out 0).trans rfl
            have hcz51_1 : w30.cell? ⟨gb441, 1, none⟩ = some (.int .i64 t427) := (blk_cell BK441.out 1).trans rfl
            have hcz51_2 : w30.cell? ⟨gb441, 2, none⟩ = some (.int .i64 t428) := (blk_cell BK441.out 2).trans rfl
            have hcz51_3 : w30.cell? ⟨gb441, 3, none⟩ = some (.int .i64 t429) := (blk_cell BK441.out 3).trans rfl
            have hcz51_4 : w30.cell? ⟨gb441, 4, none⟩ = some (.int .i64 t430) := (blk_cell BK441.out 4).trans rfl
            have hcz51_5 : w30.cell? ⟨gb441, 5, none⟩ = some (.int .i64 t431) := (blk_cell BK441.out 5).trans rfl
            have hcz51_6 : w30.cell? ⟨gb441, 6, none⟩ = some (.int .i64 t432) := (blk_cell BK441.out 6).trans rfl
            have hcz51_7 : w30.cell? ⟨gb441, 7, none⟩ = some (.int .i64 t433) := (blk_cell BK441.out 7).trans rfl
            have hcz51_8 : w30.cell? ⟨gb441, 8, none⟩ = some (.string t434) := (blk_cell BK441.out 8).trans rfl
            have hcz51_9 : w30.cell? ⟨gb441, 9, none⟩ = some (.string t435) := (blk_cell BK441.out 9).trans rfl
            have hcz51_10 : w30.cell? ⟨gb441, 10, none⟩ = some (.bool t436) := (blk_cell BK441.out 10).trans rfl
            have hfz51_0 := blk_frozen BK441.out 0
            have hfz51_1 := blk_frozen BK441.out 1
            have hfz51_2 := blk_frozen BK441.out 2
            have hfz51_3 := blk_frozen BK441.out 3
            have hfz51_4 := blk_frozen BK441.out 4
            have hfz51_5 := blk_frozen BK441.out 5
            have hfz51_6 := blk_frozen BK441.out 6
            have hfz51_7 := blk_frozen BK441.out 7
            have hfz51_8 := blk_frozen BK441.out 8
            have hfz51_9 := blk_frozen BK441.out 9
            have hfz51_10 := blk_frozen BK441.out 10
            go_wp2_with (first | ((with_reducible refine gate_callee (f := 37) rfl ?_); refine goesL_ (some 55) rfl rfl Try.func37 (by kernel_rfl) rfl #[.agg #[.string t449, .int .i64 t450, .int .i64 t451, .int .i64 t452, .int .i64 t453, .int .i64 t454, .int .i64 t455, .int .i64 t456, .string t457, .string t458, .bool t459], .agg #[.string t426, .int .i64 t427, .int .i64 t428, .int .i64 t429, .int .i64 t430, .int .i64 t431, .int .i64 t432, .int .i64 t433, .string t434, .string t435, .bool t436]] rfl (by (try simp only [List.map_toArray, List.map_cons, List.map_nil]); first | done | rfl | (simp only [List.length_drop, List.length_take]; rfl)) ?_; (with_reducible refine (laws_eqConn.calls t449 t450 t451 t452 t453 t454 t455 t456 t457 t458 t459 t426 t427 t428 t429 t430 t431 t432 t433 t434 t435 t436 true _ A34.out).mono ?_); rintro e w52 ⟨rfl, hb⟩; refine ⟨_, rfl, ?_⟩; have n0_ := Aside0.mk (Kd.R_below (by (with_reducible repeat (first | apply Kd.R_alloc | apply Kd.R_drewN | apply Kd.R_drew)); exact (Kd.R_mono (Kd.R_far (p := ⟨gb464, 10, none⟩) (Kd.R_far (p := ⟨gb464, 9, none⟩) (Kd.R_far (p := ⟨gb464, 8, none⟩) (Kd.R_far (p := ⟨gb464, 7, none⟩) (Kd.R_far (p := ⟨gb464, 6, none⟩) (Kd.R_far (p := ⟨gb464, 5, none⟩) (Kd.R_far (p := ⟨gb464, 4, none⟩) (Kd.R_far (p := ⟨gb464, 3, none⟩) (Kd.R_far (p := ⟨gb464, 2, none⟩) (Kd.R_far (p := ⟨gb464, 1, none⟩) (Kd.R_far (p := ⟨gb464, 0, none⟩) (Kd.R_types HO439.out BK464.out (by decide)) (fun _ hk => hk.2) (.string t449)) (fun _ hk => hk.2) (.int .i64 t450)) (fun _ hk => hk.2) (.int .i64 t451)) (fun _ hk => hk.2) (.int .i64 t452)) (fun _ hk => hk.2) (.int .i64 t453)) (fun _ hk => hk.2) (.int .i64 t454)) (fun _ hk => hk.2) (.int .i64 t455)) (fun _ hk => hk.2) (.int .i64 t456)) (fun _ hk => hk.2) (.string t457)) (fun _ hk => hk.2) (.string t458)) (fun _ hk => hk.2) (.bool t459)) (fun _ h_ => h_.1))) hb); have n1_ := Aside0.mk (Kd.R_below (by (with_reducible repeat (first | apply Kd.R_alloc | apply Kd.R_drewN | apply Kd.R_drew)); exact (Kd.R_mono (Kd.R_far (p := ⟨gb464, 10, none⟩) (Kd.R_far (p := ⟨gb464, 9, none⟩) (Kd.R_far (p := ⟨gb464, 8, none⟩) (Kd.R_far (p := ⟨gb464, 7, none⟩) (Kd.R_far (p := ⟨gb464, 6, none⟩) (Kd.R_far (p := ⟨gb464, 5, none⟩) (Kd.R_far (p := ⟨gb464, 4, none⟩) (Kd.R_far (p := ⟨gb464, 3, none⟩) (Kd.R_far (p := ⟨gb464, 2, none⟩) (Kd.R_far (p := ⟨gb464, 1, none⟩) (Kd.R_far (p := ⟨gb464, 0, none⟩) (Kd.R_types HO462.out BK464.out (by decide)) (fun _ hk => hk.2) (.string t449)) (fun _ hk => hk.2) (.int .i64 t450)) (fun _ hk => hk.2) (.int .i64 t451)) (fun _ hk => hk.2) (.int .i64 t452)) (fun _ hk => hk.2) (.int .i64 t453)) (fun _ hk => hk.2) (.int .i64 t454)) (fun _ hk => hk.2) (.int .i64 t455)) (fun _ hk => hk.2) (.int .i64 t456)) (fun _ hk => hk.2) (.string t457)) (fun _ hk => hk.2) (.string t458)) (fun _ hk => hk.2) (.bool t459)) (fun _ h_ => h_.1))) hb); have n2_ := Aside0.mk (blk_below (g := gb417) (o := .cells #[.int .i64 a3_0, .int .i64 a3_1, .int .i64 a3_2, .int .i64 a3_3, .int .i64 a3_4, .int .i64 a3_5, .string a3_6] 48 (0, 0)) (by (with_reducible repeat (first | refine blk_drewN ?_ _ | refine blk_drew ?_ | refine blk_alloc ?_ _)); refine blk_far ?_ NB417_464.out _; (with_reducible repeat (first | refine blk_drewN ?_ _ | refine blk_drew ?_ | refine blk_alloc ?_ _)); refine blk_far ?_ NB417_464.out _; (with_reducible repeat (first | refine blk_drewN ?_ _ | refine blk_drew ?_ | refine blk_alloc ?_ _)); refine blk_far ?_ NB417_464.out _; (with_reducible repeat (first | refine blk_drewN ?_ _ | refine blk_drew ?_ | refine blk_alloc ?_ _)); refine blk_far ?_ NB417_464.out _; (with_reducible repeat (first | refine blk_drewN ?_ _ | refine blk_drew ?_ | refine blk_alloc ?_ _)); refine blk_far ?_ NB417_464.out _; (with_reducible repeat (first | refine blk_drewN ?_ _ | refine blk_drew ?_ | refine blk_alloc ?_ _)); refine blk_far ?_ NB417_464.out _; (with_reducible repeat (first | refine blk_drewN ?_ _ | refine blk_drew ?_ | refine blk_alloc ?_ _)); refine blk_far ?_ NB417_464.out _; (with_reducible repeat (first | refine blk_drewN ?_ _ | refine blk_drew ?_ | refine blk_alloc ?_ _)); refine blk_far ?_ NB417_464.out _; (with_reducible repeat (first | refine blk_drewN ?_ _ | refine blk_drew ?_ | refine blk_alloc ?_ _)); refine blk_far ?_ NB417_464.out _; (with_reducible repeat (first | refine blk_drewN ?_ _ | refine blk_drew ?_ | refine blk_alloc ?_ _)); refine blk_far ?_ NB417_464.out _; (with_reducible repeat (first | refine blk_drewN ?_ _ | refine blk_drew ?_ | refine blk_alloc ?_ _)); refine blk_far ?_ NB417_464.out _; (with_reducible repeat (first | refine blk_drewN ?_ _ | refine blk_drew ?_ | refine blk_alloc ?_ _)); exact BK417.out) hb); have n3_ := Aside0.mk (blk_below (g := gb441) (o := .cells #[.string t426, .int .i64 t427, .int .i64 t428, .int .i64 t429, .int .i64 t430, .int .i64 t431, .int .i64 t432, .int .i64 t433, .string t434, .string t435, .bool t436] 34 (0, 0)) (by (with_reducible repeat (first | refine blk_drewN ?_ _ | refine blk_drew ?_ | refine blk_alloc ?_ _)); refine blk_far ?_ NB441_464.out _; (with_reducible repeat (first | refine blk_drewN ?_ _ | refine blk_drew ?_ | refine blk_alloc ?_ _)); refine blk_far ?_ NB441_464.out _; (with_reducible repeat (first | refine blk_drewN ?_ _ | refine blk_drew ?_ | refine blk_alloc ?_ _)); refine blk_far ?_ NB441_464.out _; (with_reducible repeat (first | refine blk_drewN ?_ _ | refine blk_drew ?_ | refine blk_alloc ?_ _)); refine blk_far ?_ NB441_464.out _; (with_reducible repeat (first | refine blk_drewN ?_ _ | refine blk_drew ?_ | refine blk_alloc ?_ _)); refine blk_far ?_ NB441_464.out _; (with_reducible repeat (first | refine blk_drewN ?_ _ | refine blk_drew ?_ | refine blk_alloc ?_ _)); refine blk_far ?_ NB441_464.out _; (with_reducible repeat (first | refine blk_drewN ?_ _ | refine blk_drew ?_ | refine blk_alloc ?_ _)); refine blk_far ?_ NB441_464.out _; (with_reducible repeat (first | refine blk_drewN ?_ _ | refine blk_drew ?_ | refine blk_alloc ?_ _)); refine blk_far ?_ NB441_464.out _; (with_reducible repeat (first | refine blk_drewN ?_ _ | refine blk_drew ?_ | refine blk_alloc ?_ _)); refine blk_far ?_ NB441_464.out _; (with_reducible repeat (first | refine blk_drewN ?_ _ | refine blk_drew ?_ | refine blk_alloc ?_ _)); refine blk_far ?_ NB441_464.out _; (with_reducible repeat (first | refine blk_drewN ?_ _ | refine blk_drew ?_ | refine blk_alloc ?_ _)); refine blk_far ?_ NB441_464.out _; (with_reducible repeat (first | refine blk_drewN ?_ _ | refine blk_drew ?_ | refine blk_alloc ?_ _)); exact BK441.out) hb); have n4_ := Aside0.mk (blk_below (g := gb464) (o := .cells #[.string t449, .int .i64 t450, .int .i64 t451, .int .i64 t452, .int .i64 t453, .int .i64 t454, .int .i64 t455, .int .i64 t456, .string t457, .string t458, .bool t459] 34 (0, 0)) (by (with_reducible repeat (first | refine blk_drewN ?_ _ | refine blk_drew ?_ | refine blk_alloc ?_ _)); refine blk_put (cs := #[.string t449, .int .i64 t450, .int .i64 t451, .int .i64 t452, .int .i64 t453, .int .i64 t454, .int .i64 t455, .int .i64 t456, .string t457, .string t458, .bool false]) ?_ 10 _ rfl; (with_reducible repeat (first | refine blk_drewN ?_ _ | refine blk_drew ?_ | refine blk_alloc ?_ _)); refine blk_put (cs := #[.string t449, .int .i64 t450, .int .i64 t451, .int .i64 t452, .int .i64 t453, .int .i64 t454, .int .i64 t455, .int .i64 t456, .string t457, .string (⟨#[]⟩ : ByteArray), .bool false]) ?_ 9 _ rfl; (with_reducible repeat (first | refine blk_drewN ?_ _ | refine blk_drew ?_ | refine blk_alloc ?_ _)); refine blk_put (cs := #[.string t449, .int .i64 t450, .int .i64 t451, .int .i64 t452, .int .i64 t453, .int .i64 t454, .int .i64 t455, .int .i64 t456, .string (⟨#[]⟩ : ByteArray), .string (⟨#[]⟩ : ByteArray), .bool false]) ?_ 8 _ rfl; (with_reducible repeat (first | refine blk_drewN ?_ _ | refine blk_drew ?_ | refine blk_alloc ?_ _)); refine blk_put (cs := #[.string t449, .int .i64 t450, .int .i64 t451, .int .i64 t452, .int .i64 t453, .int .i64 t454, .int .i64 t455, .int .i64 0, .string (⟨#[]⟩ : ByteArray), .string (⟨#[]⟩ : ByteArray), .bool false]) ?_ 7 _ rfl; (with_reducible repeat (first | refine blk_drewN ?_ _ | refine blk_drew ?_ | refine blk_alloc ?_ _)); refine blk_put (cs := #[.string t449, .int .i64 t450, .int .i64 t451, .int .i64 t452, .int .i64 t453, .int .i64 t454, .int .i64 0, .int .i64 0, .string (⟨#[]⟩ : ByteArray), .string (⟨#[]⟩ : ByteArray), .bool false]) ?_ 6 _ rfl; (with_reducible repeat (first | refine blk_drewN ?_ _ | refine blk_drew ?_ | refine blk_alloc ?_ _)); refine blk_put (cs := #[.string t449, .int .i64 t450, .int .i64 t451, .int .i64 t452, .int .i64 t453, .int .i64 0, .int .i64 0, .int .i64 0, .string (⟨#[]⟩ : ByteArray), .string (⟨#[]⟩ : ByteArray), .bool false]) ?_ 5 _ rfl; (with_reducible repeat (first | refine blk_drewN ?_ _ | refine blk_drew ?_ | refine blk_alloc ?_ _)); refine blk_put (cs := #[.string t449, .int .i64 t450, .int .i64 t451, .int .i64 t452, .int .i64 0, .int .i64 0, .int .i64 0, .int .i64 0, .string (⟨#[]⟩ : ByteArray), .string (⟨#[]⟩ : ByteArray), .bool false]) ?_ 4 _ rfl; (with_reducible repeat (first | refine blk_drewN ?_ _ | refine blk_drew ?_ | refine blk_alloc ?_ _)); refine blk_put (cs := #[.string t449, .int .i64 t450, .int .i64 t451, .int .i64 0, .int .i64 0, .int .i64 0, .int .i64 0, .int .i64 0, .string (⟨#[]⟩ : ByteArray), .string (⟨#[]⟩ : ByteArray), .bool false]) ?_ 3 _ rfl; (with_reducible repeat (first | refine blk_drewN ?_ _ | refine blk_drew ?_ | refine blk_alloc ?_ _)); refine blk_put (cs := #[.string t449, .int .i64 t450, .int .i64 0, .int .i64 0, .int .i64 0, .int .i64 0, .int .i64 0, .int .i64 0, .string (⟨#[]⟩ : ByteArray), .string (⟨#[]⟩ : ByteArray), .bool false]) ?_ 2 _ rfl; (with_reducible repeat (first | refine blk_drewN ?_ _ | refine blk_drew ?_ | refine blk_alloc ?_ _)); refine blk_put (cs := #[.string t449, .int .i64 0, .int .i64 0, .int .i64 0, .int .i64 0, .int .i64 0, .int .i64 0, .int .i64 0, .string (⟨#[]⟩ : ByteArray), .string (⟨#[]⟩ : ByteArray), .bool false]) ?_ 1 _ rfl; (with_reducible repeat (first | refine blk_drewN ?_ _ | refine blk_drew ?_ | refine blk_alloc ?_ _)); refine blk_put (cs := #[.string (⟨#[]⟩ : ByteArray), .int .i64 0, .int .i64 0, .int .i64 0, .int .i64 0, .int .i64 0, .int .i64 0, .int .i64 0, .string (⟨#[]⟩ : ByteArray), .string (⟨#[]⟩ : ByteArray), .bool false]) ?_ 0 _ rfl; (with_reducible repeat (first | refine blk_drewN ?_ _ | refine blk_drew ?_ | refine blk_alloc ?_ _)); exact BK464.out) hb); have n5_ := Aside0.mk (below_step (by repeat (first | (with_reducible first | exact HB.out | apply below_alloc | apply pw_below_drewN | apply below_drew1 | refine below_set ?_ GE417.out | refine below_set ?_ GE441.out | refine below_set ?_ GE464.out) | exact HB.out)) hb); clear HO439; clear HO462; clear BK417; clear BK441; clear BK464; clear HB; have HO439 := n0_; have HO462 := n1_; have BK417 := n2_; have BK441 := n3_; have BK464 := n4_; have HB := n5_; clear n0_ n1_ n2_ n3_ n4_ n5_; (try clear hb); (try clear hb2); (try clear hk); (try clear hi); obtain ⟨Ao53, co53, eo53⟩ := Kd.R_slice HO462.out; subst eo53; obtain ⟨Ao54, co54, eo54⟩ := Kd.R_slice HO439.out; subst eo54) | (go_at_call 38; (with_reducible refine (laws_eqSegmentS.calls k _ _ t460 _ _ t437 false _ ?side1 ?side2 ?side3 ?side4 A36.out).mono ?_); (case side1 => repeat (first | exact (Kd.R_reads' HO462.out).2.2 | (with_reducible refine Kd.C_alloc ?_ _) | (with_reducible refine Kd.C_drewN ?_ _) | (with_reducible refine Kd.C_drew ?_))); (case side2 => exact (Kd.R_reads' HO462.out).2.1); (case side3 => repeat (first | exact (Kd.R_reads' HO439.out).2.2 | (with_reducible refine Kd.C_alloc ?_ _) | (with_reducible refine Kd.C_drewN ?_ _) | (with_reducible refine Kd.C_drew ?_))); (case side4 => exact (Kd.R_reads' HO439.out).2.1); rintro e w55 ⟨rfl, hb⟩; have n0_ := Aside0.mk (Kd.R_below (by (with_reducible repeat (first | apply Kd.R_alloc | apply Kd.R_drewN | apply Kd.R_drew)); exact HO439.out) hb); have n1_ := Aside0.mk (Kd.R_below (by (with_reducible repeat (first | apply Kd.R_alloc | apply Kd.R_drewN | apply Kd.R_drew)); exact HO462.out) hb); have n2_ := Aside0.mk (blk_below (g := gb417) (o := .cells #[.int .i64 a3_0, .int .i64 a3_1, .int .i64 a3_2, .int .i64 a3_3, .int .i64 a3_4, .int .i64 a3_5, .string a3_6] 48 (0, 0)) (by (with_reducible repeat (first | refine blk_drewN ?_ _ | refine blk_drew ?_ | refine blk_alloc ?_ _)); exact BK417.out) hb); have n3_ := Aside0.mk (blk_below (g := gb441) (o := .cells #[.string t426, .int .i64 t427, .int .i64 t428, .int .i64 t429, .int .i64 t430, .int .i64 t431, .int .i64 t432, .int .i64 t433, .string t434, .string t435, .bool t436] 34 (0, 0)) (by (with_reducible repeat (first | refine blk_drewN ?_ _ | refine blk_drew ?_ | refine blk_alloc ?_ _)); exact BK441.out) hb); have n4_ := Aside0.mk (blk_below (g := gb464) (o := .cells #[.string t449, .int .i64 t450, .int .i64 t451, .int .i64 t452, .int .i64 t453, .int .i64 t454, .int .i64 t455, .int .i64 t456, .string t457, .string t458, .bool t459] 34 (0, 0)) (by (with_reducible repeat (first | refine blk_drewN ?_ _ | refine blk_drew ?_ | refine blk_alloc ?_ _)); exact BK464.out) hb); have n5_ := Aside0.mk (below_step (by repeat (first | (with_reducible first | exact HB.out | apply below_alloc | apply pw_below_drewN | apply below_drew1 | refine below_set ?_ GE417.out | refine below_set ?_ GE441.out | refine below_set ?_ GE464.out) | exact HB.out)) hb); clear HO439; clear HO462; clear BK417; clear BK441; clear BK464; clear HB; have HO439 := n0_; have HO462 := n1_; have BK417 := n2_; have BK441 := n3_; have BK464 := n4_; have HB := n5_; clear n0_ n1_ n2_ n3_ n4_ n5_; (try clear hb); (try clear hb2); (try clear hk); (try clear hi)))
            go_meet
            case rel => exact ⟨_, (true), (by first | rfl | (simp; done) | (simp [*]; done) | (simp [ne_nil_b]; done) | (simp [ne_nil_b, *]; done)), H', ⟨by first | omega | exact Nat.le_refl _⟩, ⟨by (with_reducible repeat (first | apply Kd.R_alloc | apply Kd.R_drewN | apply Kd.R_drew)); exact Kd.R_mono HO439.out (fun _ hk => hk.2)⟩, ⟨by (with_reducible repeat (first | apply Kd.R_alloc | apply Kd.R_drewN | apply Kd.R_drew)); exact Kd.R_mono HO462.out (fun _ hk => hk.2)⟩, ⟨by (with_reducible repeat (first | refine blk_drewN ?_ _ | refine blk_drew ?_ | refine blk_alloc ?_ _)); exact BK417.out⟩, ⟨by (with_reducible repeat (first | refine blk_drewN ?_ _ | refine blk_drew ?_ | refine blk_alloc ?_ _)); exact BK441.out⟩, ⟨by (with_reducible repeat (first | refine blk_drewN ?_ _ | refine blk_drew ?_ | refine blk_alloc ?_ _)); exact BK464.out⟩, ⟨by repeat (first | (with_reducible first | exact HB.out | apply below_alloc | apply pw_below_drewN | apply below_drew1 | refine below_set ?_ GE417.out | refine below_set ?_ GE441.out | refine below_set ?_ GE464.out) | exact HB.out)⟩⟩
        · replace c35 := Bool.eq_false_iff.mpr c35
          subst c35
          have H1 : (laws_FnExactConnOpen.j0 k a0 a1 a2 a4 t437 t440 t460 true a3_0 a3_1 a3_2 a3_3 a3_4 a3_5 a3_6 t426 t427 t428 t429 t430 t431 t432 t433 t434 t435 t436) = some r := by rw [if_neg (show ¬ (false = true) by decide)] at H; exact H
          clear H
          have H := H1
          clear H1
          have H' := Aside0.mk H
          clear H
          have hnb56 := NB464_417.out
          have hnc56 := NB417_464.out
          have hnb57 := NB464_441.out
          have hnc57 := NB441_464.out
          have hcz58_0 : w30.cell? ⟨gb464, 0, none⟩ = some (.string (⟨#[]⟩ : ByteArray)) := (blk_cell BK464.out 0).trans rfl
          have hcz58_1 : w30.cell? ⟨gb464, 1, none⟩ = some (.int .i64 0) := (blk_cell BK464.out 1).trans rfl
          have hcz58_2 : w30.cell? ⟨gb464, 2, none⟩ = some (.int .i64 0) := (blk_cell BK464.out 2).trans rfl
          have hcz58_3 : w30.cell? ⟨gb464, 3, none⟩ = some (.int .i64 0) := (blk_cell BK464.out 3).trans rfl
          have hcz58_4 : w30.cell? ⟨gb464, 4, none⟩ = some (.int .i64 0) := (blk_cell BK464.out 4).trans rfl
          have hcz58_5 : w30.cell? ⟨gb464, 5, none⟩ = some (.int .i64 0) := (blk_cell BK464.out 5).trans rfl
          have hcz58_6 : w30.cell? ⟨gb464, 6, none⟩ = some (.int .i64 0) := (blk_cell BK464.out 6).trans rfl
          have hcz58_7 : w30.cell? ⟨gb464, 7, none⟩ = some (.int .i64 0) := (blk_cell BK464.out 7).trans rfl
          have hcz58_8 : w30.cell? ⟨gb464, 8, none⟩ = some (.string (⟨#[]⟩ : ByteArray)) := (blk_cell BK464.out 8).trans rfl
          have hcz58_9 : w30.cell? ⟨gb464, 9, none⟩ = some (.string (⟨#[]⟩ : ByteArray)) := (blk_cell BK464.out 9).trans rfl
          have hcz58_10 : w30.cell? ⟨gb464, 10, none⟩ = some (.bool false) := (blk_cell BK464.out 10).trans rfl
          have hfz58_0 := blk_frozen BK464.out 0
          have hfz58_1 := blk_frozen BK464.out 1
          have hfz58_2 := blk_frozen BK464.out 2
          have hfz58_3 := blk_frozen BK464.out 3
          have hfz58_4 := blk_frozen BK464.out 4
          have hfz58_5 := blk_frozen BK464.out 5
          have hfz58_6 := blk_frozen BK464.out 6
          have hfz58_7 := blk_frozen BK464.out 7
          have hfz58_8 := blk_frozen BK464.out 8
          have hfz58_9 := blk_frozen BK464.out 9
          have hfz58_10 := blk_frozen BK464.out 10
          have hnb59 := NB441_417.out
          have hnc59 := NB417_441.out
          have hcz60_0 : w30.cell? ⟨gb441, 0, none⟩ = some (.string t426) := (blk_cell BK441.out 0).trans rfl
          have hcz60_1 : w30.cell? ⟨gb441, 1, none⟩ = some (.int .i64 t427) := (blk_cell BK441.out 1).trans rfl
          have hcz60_2 : w30.cell? ⟨gb441, 2, none⟩ = some (.int .i64 t428) := (blk_cell BK441.out 2).trans rfl
          have hcz60_3 : w30.cell? ⟨gb441, 3, none⟩ = some (.int .i64 t429) := (blk_cell BK441.out 3).trans rfl
          have hcz60_4 : w30.cell? ⟨gb441, 4, none⟩ = some (.int .i64 t430) := (blk_cell BK441.out 4).trans rfl
          have hcz60_5 : w30.cell? ⟨gb441, 5, none⟩ = some (.int .i64 t431) := (blk_cell BK441.out 5).trans rfl
          have hcz60_6 : w30.cell? ⟨gb441, 6, none⟩ = some (.int .i64 t432) := (blk_cell BK441.out 6).trans rfl
          have hcz60_7 : w30.cell? ⟨gb441, 7, none⟩ = some (.int .i64 t433) := (blk_cell BK441.out 7).trans rfl
          have hcz60_8 : w30.cell? ⟨gb441, 8, none⟩ = some (.string t434) := (blk_cell BK441.out 8).trans rfl
          have hcz60_9 : w30.cell? ⟨gb441, 9, none⟩ = some (.string t435) := (blk_cell BK441.out 9).trans rfl
          have hcz60_10 : w30.cell? ⟨gb441, 10, none⟩ = some (.bool t436) := (blk_cell BK441.out 10).trans rfl
          have hfz60_0 := blk_frozen BK441.out 0
          have hfz60_1 := blk_frozen BK441.out 1
          have hfz60_2 := blk_frozen BK441.out 2
          have hfz60_3 := blk_frozen BK441.out 3
          have hfz60_4 := blk_frozen BK441.out 4
          have hfz60_5 := blk_frozen BK441.out 5
          have hfz60_6 := blk_frozen BK441.out 6
          have hfz60_7 := blk_frozen BK441.out 7
          have hfz60_8 := blk_frozen BK441.out 8
          have hfz60_9 := blk_frozen BK441.out 9
          have hfz60_10 := blk_frozen BK441.out 10
          go_wp2_with (first | ((with_reducible refine gate_callee (f := 37) rfl ?_); refine goesL_ (some 55) rfl rfl Try.func37 (by kernel_rfl) rfl #[.agg #[.string t449, .int .i64 t450, .int .i64 t451, .int .i64 t452, .int .i64 t453, .int .i64 t454, .int .i64 t455, .int .i64 t456, .string t457, .string t458, .bool t459], .agg #[.string t426, .int .i64 t427, .int .i64 t428, .int .i64 t429, .int .i64 t430, .int .i64 t431, .int .i64 t432, .int .i64 t433, .string t434, .string t435, .bool t436]] rfl (by (try simp only [List.map_toArray, List.map_cons, List.map_nil]); first | done | rfl | (simp only [List.length_drop, List.length_take]; rfl)) ?_; (with_reducible refine (laws_eqConn.calls t449 t450 t451 t452 t453 t454 t455 t456 t457 t458 t459 t426 t427 t428 t429 t430 t431 t432 t433 t434 t435 t436 false _ A34.out).mono ?_); rintro e w61 ⟨rfl, hb⟩; refine ⟨_, rfl, ?_⟩; have n0_ := Aside0.mk (Kd.R_below (by (with_reducible repeat (first | apply Kd.R_alloc | apply Kd.R_drewN | apply Kd.R_drew)); exact (Kd.R_mono (Kd.R_far (p := ⟨gb464, 10, none⟩) (Kd.R_far (p := ⟨gb464, 9, none⟩) (Kd.R_far (p := ⟨gb464, 8, none⟩) (Kd.R_far (p := ⟨gb464, 7, none⟩) (Kd.R_far (p := ⟨gb464, 6, none⟩) (Kd.R_far (p := ⟨gb464, 5, none⟩) (Kd.R_far (p := ⟨gb464, 4, none⟩) (Kd.R_far (p := ⟨gb464, 3, none⟩) (Kd.R_far (p := ⟨gb464, 2, none⟩) (Kd.R_far (p := ⟨gb464, 1, none⟩) (Kd.R_far (p := ⟨gb464, 0, none⟩) (Kd.R_types HO439.out BK464.out (by decide)) (fun _ hk => hk.2) (.string t449)) (fun _ hk => hk.2) (.int .i64 t450)) (fun _ hk => hk.2) (.int .i64 t451)) (fun _ hk => hk.2) (.int .i64 t452)) (fun _ hk => hk.2) (.int .i64 t453)) (fun _ hk => hk.2) (.int .i64 t454)) (fun _ hk => hk.2) (.int .i64 t455)) (fun _ hk => hk.2) (.int .i64 t456)) (fun _ hk => hk.2) (.string t457)) (fun _ hk => hk.2) (.string t458)) (fun _ hk => hk.2) (.bool t459)) (fun _ h_ => h_.1))) hb); have n1_ := Aside0.mk (Kd.R_below (by (with_reducible repeat (first | apply Kd.R_alloc | apply Kd.R_drewN | apply Kd.R_drew)); exact (Kd.R_mono (Kd.R_far (p := ⟨gb464, 10, none⟩) (Kd.R_far (p := ⟨gb464, 9, none⟩) (Kd.R_far (p := ⟨gb464, 8, none⟩) (Kd.R_far (p := ⟨gb464, 7, none⟩) (Kd.R_far (p := ⟨gb464, 6, none⟩) (Kd.R_far (p := ⟨gb464, 5, none⟩) (Kd.R_far (p := ⟨gb464, 4, none⟩) (Kd.R_far (p := ⟨gb464, 3, none⟩) (Kd.R_far (p := ⟨gb464, 2, none⟩) (Kd.R_far (p := ⟨gb464, 1, none⟩) (Kd.R_far (p := ⟨gb464, 0, none⟩) (Kd.R_types HO462.out BK464.out (by decide)) (fun _ hk => hk.2) (.string t449)) (fun _ hk => hk.2) (.int .i64 t450)) (fun _ hk => hk.2) (.int .i64 t451)) (fun _ hk => hk.2) (.int .i64 t452)) (fun _ hk => hk.2) (.int .i64 t453)) (fun _ hk => hk.2) (.int .i64 t454)) (fun _ hk => hk.2) (.int .i64 t455)) (fun _ hk => hk.2) (.int .i64 t456)) (fun _ hk => hk.2) (.string t457)) (fun _ hk => hk.2) (.string t458)) (fun _ hk => hk.2) (.bool t459)) (fun _ h_ => h_.1))) hb); have n2_ := Aside0.mk (blk_below (g := gb417) (o := .cells #[.int .i64 a3_0, .int .i64 a3_1, .int .i64 a3_2, .int .i64 a3_3, .int .i64 a3_4, .int .i64 a3_5, .string a3_6] 48 (0, 0)) (by (with_reducible repeat (first | refine blk_drewN ?_ _ | refine blk_drew ?_ | refine blk_alloc ?_ _)); refine blk_far ?_ NB417_464.out _; (with_reducible repeat (first | refine blk_drewN ?_ _ | refine blk_drew ?_ | refine blk_alloc ?_ _)); refine blk_far ?_ NB417_464.out _; (with_reducible repeat (first | refine blk_drewN ?_ _ | refine blk_drew ?_ | refine blk_alloc ?_ _)); refine blk_far ?_ NB417_464.out _; (with_reducible repeat (first | refine blk_drewN ?_ _ | refine blk_drew ?_ | refine blk_alloc ?_ _)); refine blk_far ?_ NB417_464.out _; (with_reducible repeat (first | refine blk_drewN ?_ _ | refine blk_drew ?_ | refine blk_alloc ?_ _)); refine blk_far ?_ NB417_464.out _; (with_reducible repeat (first | refine blk_drewN ?_ _ | refine blk_drew ?_ | refine blk_alloc ?_ _)); refine blk_far ?_ NB417_464.out _; (with_reducible repeat (first | refine blk_drewN ?_ _ | refine blk_drew ?_ | refine blk_alloc ?_ _)); refine blk_far ?_ NB417_464.out _; (with_reducible repeat (first | refine blk_drewN ?_ _ | refine blk_drew ?_ | refine blk_alloc ?_ _)); refine blk_far ?_ NB417_464.out _; (with_reducible repeat (first | refine blk_drewN ?_ _ | refine blk_drew ?_ | refine blk_alloc ?_ _)); refine blk_far ?_ NB417_464.out _; (with_reducible repeat (first | refine blk_drewN ?_ _ | refine blk_drew ?_ | refine blk_alloc ?_ _)); refine blk_far ?_ NB417_464.out _; (with_reducible repeat (first | refine blk_drewN ?_ _ | refine blk_drew ?_ | refine blk_alloc ?_ _)); refine blk_far ?_ NB417_464.out _; (with_reducible repeat (first | refine blk_drewN ?_ _ | refine blk_drew ?_ | refine blk_alloc ?_ _)); exact BK417.out) hb); have n3_ := Aside0.mk (blk_below (g := gb441) (o := .cells #[.string t426, .int .i64 t427, .int .i64 t428, .int .i64 t429, .int .i64 t430, .int .i64 t431, .int .i64 t432, .int .i64 t433, .string t434, .string t435, .bool t436] 34 (0, 0)) (by (with_reducible repeat (first | refine blk_drewN ?_ _ | refine blk_drew ?_ | refine blk_alloc ?_ _)); refine blk_far ?_ NB441_464.out _; (with_reducible repeat (first | refine blk_drewN ?_ _ | refine blk_drew ?_ | refine blk_alloc ?_ _)); refine blk_far ?_ NB441_464.out _; (with_reducible repeat (first | refine blk_drewN ?_ _ | refine blk_drew ?_ | refine blk_alloc ?_ _)); refine blk_far ?_ NB441_464.out _; (with_reducible repeat (first | refine blk_drewN ?_ _ | refine blk_drew ?_ | refine blk_alloc ?_ _)); refine blk_far ?_ NB441_464.out _; (with_reducible repeat (first | refine blk_drewN ?_ _ | refine blk_drew ?_ | refine blk_alloc ?_ _)); refine blk_far ?_ NB441_464.out _; (with_reducible repeat (first | refine blk_drewN ?_ _ | refine blk_drew ?_ | refine blk_alloc ?_ _)); refine blk_far ?_ NB441_464.out _; (with_reducible repeat (first | refine blk_drewN ?_ _ | refine blk_drew ?_ | refine blk_alloc ?_ _)); refine blk_far ?_ NB441_464.out _; (with_reducible repeat (first | refine blk_drewN ?_ _ | refine blk_drew ?_ | refine blk_alloc ?_ _)); refine blk_far ?_ NB441_464.out _; (with_reducible repeat (first | refine blk_drewN ?_ _ | refine blk_drew ?_ | refine blk_alloc ?_ _)); refine blk_far ?_ NB441_464.out _; (with_reducible repeat (first | refine blk_drewN ?_ _ | refine blk_drew ?_ | refine blk_alloc ?_ _)); refine blk_far ?_ NB441_464.out _; (with_reducible repeat (first | refine blk_drewN ?_ _ | refine blk_drew ?_ | refine blk_alloc ?_ _)); refine blk_far ?_ NB441_464.out _; (with_reducible repeat (first | refine blk_drewN ?_ _ | refine blk_drew ?_ | refine blk_alloc ?_ _)); exact BK441.out) hb); have n4_ := Aside0.mk (blk_below (g := gb464) (o := .cells #[.string t449, .int .i64 t450, .int .i64 t451, .int .i64 t452, .int .i64 t453, .int .i64 t454, .int .i64 t455, .int .i64 t456, .string t457, .string t458, .bool t459] 34 (0, 0)) (by (with_reducible repeat (first | refine blk_drewN ?_ _ | refine blk_drew ?_ | refine blk_alloc ?_ _)); refine blk_put (cs := #[.string t449, .int .i64 t450, .int .i64 t451, .int .i64 t452, .int .i64 t453, .int .i64 t454, .int .i64 t455, .int .i64 t456, .string t457, .string t458, .bool false]) ?_ 10 _ rfl; (with_reducible repeat (first | refine blk_drewN ?_ _ | refine blk_drew ?_ | refine blk_alloc ?_ _)); refine blk_put (cs := #[.string t449, .int .i64 t450, .int .i64 t451, .int .i64 t452, .int .i64 t453, .int .i64 t454, .int .i64 t455, .int .i64 t456, .string t457, .string (⟨#[]⟩ : ByteArray), .bool false]) ?_ 9 _ rfl; (with_reducible repeat (first | refine blk_drewN ?_ _ | refine blk_drew ?_ | refine blk_alloc ?_ _)); refine blk_put (cs := #[.string t449, .int .i64 t450, .int .i64 t451, .int .i64 t452, .int .i64 t453, .int .i64 t454, .int .i64 t455, .int .i64 t456, .string (⟨#[]⟩ : ByteArray), .string (⟨#[]⟩ : ByteArray), .bool false]) ?_ 8 _ rfl; (with_reducible repeat (first | refine blk_drewN ?_ _ | refine blk_drew ?_ | refine blk_alloc ?_ _)); refine blk_put (cs := #[.string t449, .int .i64 t450, .int .i64 t451, .int .i64 t452, .int .i64 t453, .int .i64 t454, .int .i64 t455, .int .i64 0, .string (⟨#[]⟩ : ByteArray), .string (⟨#[]⟩ : ByteArray), .bool false]) ?_ 7 _ rfl; (with_reducible repeat (first | refine blk_drewN ?_ _ | refine blk_drew ?_ | refine blk_alloc ?_ _)); refine blk_put (cs := #[.string t449, .int .i64 t450, .int .i64 t451, .int .i64 t452, .int .i64 t453, .int .i64 t454, .int .i64 0, .int .i64 0, .string (⟨#[]⟩ : ByteArray), .string (⟨#[]⟩ : ByteArray), .bool false]) ?_ 6 _ rfl; (with_reducible repeat (first | refine blk_drewN ?_ _ | refine blk_drew ?_ | refine blk_alloc ?_ _)); refine blk_put (cs := #[.string t449, .int .i64 t450, .int .i64 t451, .int .i64 t452, .int .i64 t453, .int .i64 0, .int .i64 0, .int .i64 0, .string (⟨#[]⟩ : ByteArray), .string (⟨#[]⟩ : ByteArray), .bool false]) ?_ 5 _ rfl; (with_reducible repeat (first | refine blk_drewN ?_ _ | refine blk_drew ?_ | refine blk_alloc ?_ _)); refine blk_put (cs := #[.string t449, .int .i64 t450, .int .i64 t451, .int .i64 t452, .int .i64 0, .int .i64 0, .int .i64 0, .int .i64 0, .string (⟨#[]⟩ : ByteArray), .string (⟨#[]⟩ : ByteArray), .bool false]) ?_ 4 _ rfl; (with_reducible repeat (first | refine blk_drewN ?_ _ | refine blk_drew ?_ | refine blk_alloc ?_ _)); refine blk_put (cs := #[.string t449, .int .i64 t450, .int .i64 t451, .int .i64 0, .int .i64 0, .int .i64 0, .int .i64 0, .int .i64 0, .string (⟨#[]⟩ : ByteArray), .string (⟨#[]⟩ : ByteArray), .bool false]) ?_ 3 _ rfl; (with_reducible repeat (first | refine blk_drewN ?_ _ | refine blk_drew ?_ | refine blk_alloc ?_ _)); refine blk_put (cs := #[.string t449, .int .i64 t450, .int .i64 0, .int .i64 0, .int .i64 0, .int .i64 0, .int .i64 0, .int .i64 0, .string (⟨#[]⟩ : ByteArray), .string (⟨#[]⟩ : ByteArray), .bool false]) ?_ 2 _ rfl; (with_reducible repeat (first | refine blk_drewN ?_ _ | refine blk_drew ?_ | refine blk_alloc ?_ _)); refine blk_put (cs := #[.string t449, .int .i64 0, .int .i64 0, .int .i64 0, .int .i64 0, .int .i64 0, .int .i64 0, .int .i64 0, .string (⟨#[]⟩ : ByteArray), .string (⟨#[]⟩ : ByteArray), .bool false]) ?_ 1 _ rfl; (with_reducible repeat (first | refine blk_drewN ?_ _ | refine blk_drew ?_ | refine blk_alloc ?_ _)); refine blk_put (cs := #[.string (⟨#[]⟩ : ByteArray), .int .i64 0, .int .i64 0, .int .i64 0, .int .i64 0, .int .i64 0, .int .i64 0, .int .i64 0, .string (⟨#[]⟩ : ByteArray), .string (⟨#[]⟩ : ByteArray), .bool false]) ?_ 0 _ rfl; (with_reducible repeat (first | refine blk_drewN ?_ _ | refine blk_drew ?_ | refine blk_alloc ?_ _)); exact BK464.out) hb); have n5_ := Aside0.mk (below_step (by repeat (first | (with_reducible first | exact HB.out | apply below_alloc | apply pw_below_drewN | apply below_drew1 | refine below_set ?_ GE417.out | refine below_set ?_ GE441.out | refine below_set ?_ GE464.out) | exact HB.out)) hb); clear HO439; clear HO462; clear BK417; clear BK441; clear BK464; clear HB; have HO439 := n0_; have HO462 := n1_; have BK417 := n2_; have BK441 := n3_; have BK464 := n4_; have HB := n5_; clear n0_ n1_ n2_ n3_ n4_ n5_; (try clear hb); (try clear hb2); (try clear hk); (try clear hi)))
          go_meet
          case rel => exact ⟨_, (true), (by first | rfl | (simp; done) | (simp [*]; done) | (simp [ne_nil_b]; done) | (simp [ne_nil_b, *]; done)), H', ⟨by first | omega | exact Nat.le_refl _⟩, ⟨by (with_reducible repeat (first | apply Kd.R_alloc | apply Kd.R_drewN | apply Kd.R_drew)); exact Kd.R_mono HO439.out (fun _ hk => hk.2)⟩, ⟨by (with_reducible repeat (first | apply Kd.R_alloc | apply Kd.R_drewN | apply Kd.R_drew)); exact Kd.R_mono HO462.out (fun _ hk => hk.2)⟩, ⟨by (with_reducible repeat (first | refine blk_drewN ?_ _ | refine blk_drew ?_ | refine blk_alloc ?_ _)); exact BK417.out⟩, ⟨by (with_reducible repeat (first | refine blk_drewN ?_ _ | refine blk_drew ?_ | refine blk_alloc ?_ _)); exact BK441.out⟩, ⟨by (with_reducible repeat (first | refine blk_drewN ?_ _ | refine blk_drew ?_ | refine blk_alloc ?_ _)); exact BK464.out⟩, ⟨by repeat (first | (with_reducible first | exact HB.out | apply below_alloc | apply pw_below_drewN | apply below_drew1 | refine below_set ?_ GE417.out | refine below_set ?_ GE441.out | refine below_set ?_ GE464.out) | exact HB.out)⟩⟩
      case rest =>
        clear HC17
        try clear c2
        try clear p2
        try clear c3
        try clear c4
        try clear c5
        try clear c6
        try clear c6b0
        try clear c6b1
        try clear c9
        try clear c9b0
        try clear c25
        try clear c31
        try clear c32
        try clear c33
        try clear c34
        try clear c35
        try clear c36
        try clear c37
        try clear c38
        try clear c39
        try clear c41
        try clear c47
        try clear c48
        try clear c50
        try clear c56
        try clear c57
        try clear c59
        try clear hcz11_0
        try clear hcz11_1
        try clear hcz11_2
        try clear hcz11_3
        try clear hcz11_4
        try clear hcz11_5
        try clear hcz11_6
        try clear hcz19_0
        try clear hcz19_1
        try clear hcz19_2
        try clear hcz19_3
        try clear hcz19_4
        try clear hcz19_5
        try clear hcz19_6
        try clear hcz21_0
        try clear hcz21_1
        try clear hcz21_2
        try clear hcz21_3
        try clear hcz21_4
        try clear hcz21_5
        try clear hcz21_6
        try clear hcz26_0
        try clear hcz26_1
        try clear hcz26_10
        try clear hcz26_2
        try clear hcz26_3
        try clear hcz26_4
        try clear hcz26_5
        try clear hcz26_6
        try clear hcz26_7
        try clear hcz26_8
        try clear hcz26_9
        try clear hcz27_0
        try clear hcz27_1
        try clear hcz27_2
        try clear hcz27_3
        try clear hcz27_4
        try clear hcz27_5
        try clear hcz27_6
        try clear hcz33_0
        try clear hcz33_1
        try clear hcz33_10
        try clear hcz33_2
        try clear hcz33_3
        try clear hcz33_4
        try clear hcz33_5
        try clear hcz33_6
        try clear hcz33_7
        try clear hcz33_8
        try clear hcz33_9
        try clear hcz40_0
        try clear hcz40_1
        try clear hcz40_10
        try clear hcz40_2
        try clear hcz40_3
        try clear hcz40_4
        try clear hcz40_5
        try clear hcz40_6
        try clear hcz40_7
        try clear hcz40_8
        try clear hcz40_9
        try clear hcz42_0
        try clear hcz42_1
        try clear hcz42_10
        try clear hcz42_2
        try clear hcz42_3
        try clear hcz42_4
        try clear hcz42_5
        try clear hcz42_6
        try clear hcz42_7
        try clear hcz42_8
        try clear hcz42_9
        try clear hcz49_0
        try clear hcz49_1
        try clear hcz49_10
        try clear hcz49_2
        try clear hcz49_3
        try clear hcz49_4
        try clear hcz49_5
        try clear hcz49_6
        try clear hcz49_7
        try clear hcz49_8
        try clear hcz49_9
        try clear hcz51_0
        try clear hcz51_1
        try clear hcz51_10
        try clear hcz51_2
        try clear hcz51_3
        try clear hcz51_4
        try clear hcz51_5
        try clear hcz51_6
        try clear hcz51_7
        try clear hcz51_8
        try clear hcz51_9
        try clear hcz58_0
        try clear hcz58_1
        try clear hcz58_10
        try clear hcz58_2
        try clear hcz58_3
        try clear hcz58_4
        try clear hcz58_5
        try clear hcz58_6
        try clear hcz58_7
        try clear hcz58_8
        try clear hcz58_9
        try clear hcz60_0
        try clear hcz60_1
        try clear hcz60_10
        try clear hcz60_2
        try clear hcz60_3
        try clear hcz60_4
        try clear hcz60_5
        try clear hcz60_6
        try clear hcz60_7
        try clear hcz60_8
        try clear hcz60_9
        try clear hfz11_0
        try clear hfz11_1
        try clear hfz11_2
        try clear hfz11_3
        try clear hfz11_4
        try clear hfz11_5
        try clear hfz11_6
        try clear hfz19_0
        try clear hfz19_1
        try clear hfz19_2
        try clear hfz19_3
        try clear hfz19_4
        try clear hfz19_5
        try clear hfz19_6
        try clear hfz21_0
        try clear hfz21_1
        try clear hfz21_2
        try clear hfz21_3
        try clear hfz21_4
        try clear hfz21_5
        try clear hfz21_6
        try clear hfz26_0
        try clear hfz26_1
        try clear hfz26_10
        try clear hfz26_2
        try clear hfz26_3
        try clear hfz26_4
        try clear hfz26_5
        try clear hfz26_6
        try clear hfz26_7
        try clear hfz26_8
        try clear hfz26_9
        try clear hfz27_0
        try clear hfz27_1
        try clear hfz27_2
        try clear hfz27_3
        try clear hfz27_4
        try clear hfz27_5
        try clear hfz27_6
        try clear hfz33_0
        try clear hfz33_1
        try clear hfz33_10
        try clear hfz33_2
        try clear hfz33_3
        try clear hfz33_4
        try clear hfz33_5
        try clear hfz33_6
        try clear hfz33_7
        try clear hfz33_8
        try clear hfz33_9
        try clear hfz40_0
        try clear hfz40_1
        try clear hfz40_10
        try clear hfz40_2
        try clear hfz40_3
        try clear hfz40_4
        try clear hfz40_5
        try clear hfz40_6
        try clear hfz40_7
        try clear hfz40_8
        try clear hfz40_9
        try clear hfz42_0
        try clear hfz42_1
        try clear hfz42_10
        try clear hfz42_2
        try clear hfz42_3
        try clear hfz42_4
        try clear hfz42_5
        try clear hfz42_6
        try clear hfz42_7
        try clear hfz42_8
        try clear hfz42_9
        try clear hfz49_0
        try clear hfz49_1
        try clear hfz49_10
        try clear hfz49_2
        try clear hfz49_3
        try clear hfz49_4
        try clear hfz49_5
        try clear hfz49_6
        try clear hfz49_7
        try clear hfz49_8
        try clear hfz49_9
        try clear hfz51_0
        try clear hfz51_1
        try clear hfz51_10
        try clear hfz51_2
        try clear hfz51_3
        try clear hfz51_4
        try clear hfz51_5
        try clear hfz51_6
        try clear hfz51_7
        try clear hfz51_8
        try clear hfz51_9
        try clear hfz58_0
        try clear hfz58_1
        try clear hfz58_10
        try clear hfz58_2
        try clear hfz58_3
        try clear hfz58_4
        try clear hfz58_5
        try clear hfz58_6
        try clear hfz58_7
        try clear hfz58_8
        try clear hfz58_9
        try clear hfz60_0
        try clear hfz60_1
        try clear hfz60_10
        try clear hfz60_2
        try clear hfz60_3
        try clear hfz60_4
        try clear hfz60_5
        try clear hfz60_6
        try clear hfz60_7
        try clear hfz60_8
        try clear hfz60_9
        obtain ⟨kq, x67_16, rfl, HA, HJ16, HO_13, HO_16, BK417, BK441, BK464, HB⟩ := hcut
        cases kq with
        | zero => exact absurd HA.out (by simp [laws_FnExactConnOpen.j0])
        | succ kj16 =>
          have H := HA.out
          clear HA
          simp only [laws_FnExactConnOpen.j0] at H
          by_cases c62 : x67_16 = true
          · subst c62
            have H1 : (some false) = some r := by rw [if_pos rfl] at H; exact H
            clear H
            have H := H1
            clear H1
            obtain rfl := Option.some.inj H
            go_wp2
            go_ret
            exact ⟨by first | rfl | (simp [errW_none, errW_some] <;> rfl) | (simp [*, errW_none, errW_some] <;> rfl), by repeat (first | (with_reducible first | exact HB.out | apply below_alloc | apply pw_below_drewN | apply below_drew1 | refine below_set ?_ GE417.out | refine below_set ?_ GE441.out | refine below_set ?_ GE464.out) | exact HB.out)⟩
          · replace c62 := Bool.eq_false_iff.mpr c62
            subst c62
            have H1 : ((laws_markSegmentS.f kj16 t460 1).bind fun bt467 => ((laws_heldSegmentS.f kj16 bt467.2 1).bind fun t469 => (if t469 < 0 then (some false) else (if t469 = bt467.1 then ((laws_toSegment.f a3_0 a3_1 a3_2 a3_3 a3_4 a3_5 a3_6).bind fun bt470 => ((impl_ConnOpen.f kj16 a0 a1 a2 bt470.1 bt470.2.1 bt470.2.2.1 bt470.2.2.2.1 bt470.2.2.2.2.1 bt470.2.2.2.2.2.1 bt470.2.2.2.2.2.2 a4).bind fun bt477 => ((laws_eqConn.f bt477.1 bt477.2.1 bt477.2.2.1 bt477.2.2.2.1 bt477.2.2.2.2.1 bt477.2.2.2.2.2.1 bt477.2.2.2.2.2.2.1 bt477.2.2.2.2.2.2.2.1 bt477.2.2.2.2.2.2.2.2.1 bt477.2.2.2.2.2.2.2.2.2.1 bt477.2.2.2.2.2.2.2.2.2.2.1 t426 t427 t428 t429 t430 t431 t432 t433 t434 t435 t436).bind fun t493 => (if t493 = true then ((laws_eqSegmentS.f kj16 bt477.2.2.2.2.2.2.2.2.2.2.2.1 t437).bind fun t494 => (if t494 = true then (laws_FnExactConnOpen.j1 kj16 bt467.2 bt467.1 (bt477.2.2.2.2.2.2.2.2.2.2.2.2 != t440)) else (laws_FnExactConnOpen.j1 kj16 bt467.2 bt467.1 true))) else (laws_FnExactConnOpen.j1 kj16 bt467.2 bt467.1 true))))) else (some false))))) = some r := by rw [if_neg (show ¬ (false = true) by decide)] at H; exact H
            clear H
            have H := H1
            clear H1
            replace H := Option.bind_eq_some_iff.mp H
            obtain ⟨⟨t467, t468⟩, A630, H⟩ := H
            replace H : ((laws_heldSegmentS.f kj16 t468 1).bind fun t469 => (if t469 < 0 then (some false) else (if t469 = t467 then ((laws_toSegment.f a3_0 a3_1 a3_2 a3_3 a3_4 a3_5 a3_6).bind fun bt470 => ((impl_ConnOpen.f kj16 a0 a1 a2 bt470.1 bt470.2.1 bt470.2.2.1 bt470.2.2.2.1 bt470.2.2.2.2.1 bt470.2.2.2.2.2.1 bt470.2.2.2.2.2.2 a4).bind fun bt477 => ((laws_eqConn.f bt477.1 bt477.2.1 bt477.2.2.1 bt477.2.2.2.1 bt477.2.2.2.2.1 bt477.2.2.2.2.2.1 bt477.2.2.2.2.2.2.1 bt477.2.2.2.2.2.2.2.1 bt477.2.2.2.2.2.2.2.2.1 bt477.2.2.2.2.2.2.2.2.2.1 bt477.2.2.2.2.2.2.2.2.2.2.1 t426 t427 t428 t429 t430 t431 t432 t433 t434 t435 t436).bind fun t493 => (if t493 = true then ((laws_eqSegmentS.f kj16 bt477.2.2.2.2.2.2.2.2.2.2.2.1 t437).bind fun t494 => (if t494 = true then (laws_FnExactConnOpen.j1 kj16 t468 t467 (bt477.2.2.2.2.2.2.2.2.2.2.2.2 != t440)) else (laws_FnExactConnOpen.j1 kj16 t468 t467 true))) else (laws_FnExactConnOpen.j1 kj16 t468 t467 true))))) else (some false)))) = some r := H
            have A63 := Aside0.mk A630
            clear A630
            replace H := Option.bind_eq_some_iff.mp H
            obtain ⟨t469, A640, H⟩ := H
            replace H : (if t469 < 0 then (some false) else (if t469 = t467 then ((laws_toSegment.f a3_0 a3_1 a3_2 a3_3 a3_4 a3_5 a3_6).bind fun bt470 => ((impl_ConnOpen.f kj16 a0 a1 a2 bt470.1 bt470.2.1 bt470.2.2.1 bt470.2.2.2.1 bt470.2.2.2.2.1 bt470.2.2.2.2.2.1 bt470.2.2.2.2.2.2 a4).bind fun bt477 => ((laws_eqConn.f bt477.1 bt477.2.1 bt477.2.2.1 bt477.2.2.2.1 bt477.2.2.2.2.1 bt477.2.2.2.2.2.1 bt477.2.2.2.2.2.2.1 bt477.2.2.2.2.2.2.2.1 bt477.2.2.2.2.2.2.2.2.1 bt477.2.2.2.2.2.2.2.2.2.1 bt477.2.2.2.2.2.2.2.2.2.2.1 t426 t427 t428 t429 t430 t431 t432 t433 t434 t435 t436).bind fun t493 => (if t493 = true then ((laws_eqSegmentS.f kj16 bt477.2.2.2.2.2.2.2.2.2.2.2.1 t437).bind fun t494 => (if t494 = true then (laws_FnExactConnOpen.j1 kj16 t468 t467 (bt477.2.2.2.2.2.2.2.2.2.2.2.2 != t440)) else (laws_FnExactConnOpen.j1 kj16 t468 t467 true))) else (laws_FnExactConnOpen.j1 kj16 t468 t467 true))))) else (some false))) = some r := H
            have A64 := Aside0.mk A640
            clear A640
            by_cases c65 : t469 < 0
            · rw [if_pos c65] at H
              have c65b0 : decide (t469 < 0) = true := decide_eq_true c65
              clear c65
              obtain rfl := Option.some.inj H
              obtain ⟨Ao66, co66, eo66⟩ := Kd.R_slice HO_16.out
              subst eo66
              go_wp2_with (first | ((with_reducible refine gate_callee (f := 39) rfl ?_); refine goesL_ (some 70) rfl rfl Try.func39 (by kernel_rfl) rfl #[.slice Ao66 t460.length co66, .int .i64 1] rfl (by (try simp only [List.map_toArray, List.map_cons, List.map_nil]); first | done | rfl | (simp only [List.length_drop, List.length_take]; rfl)) ?_; (with_reducible refine (laws_markSegmentS.calls kj16 (fun k_ => some k_ = (.slice Ao66 t460.length co66 : Value).ownBlock) (.slice Ao66 t460.length co66) t460 1 t467 t468 w _ ?side1 ?side2 A63.out).mono ?_); (case side1 => repeat (first | (with_reducible first | exact HB.out | apply below_alloc | apply pw_below_drewN | apply below_drew1 | refine below_set ?_ GE417.out | refine below_set ?_ GE441.out | refine below_set ?_ GE464.out) | exact HB.out)); (case side2 => exact Kd.R_tight rfl HO_16.out); rintro e w67 ⟨rfl, hy0, hb, hkp⟩; refine ⟨_, rfl, ?_⟩; have n0_ := Aside0.mk (Kd.R_mono (ok' := fun k_ => some k_ ≠ (.slice Ao66 t460.length co66 : Value).ownBlock) (Kd.R_keptB (HO_13.out) hkp (fun k_ hk_ hs_ => (hk_) hs_)) (fun k_ hk_ => hk_.1)); have n1_ := Aside0.mk (Kd.R_reok rfl hy0 (fun k_ e_ => HO_16.out.1 k_ e_)); have n2_ := Aside0.mk (blk_kept (by (with_reducible repeat (first | refine blk_drewN ?_ _ | refine blk_drew ?_ | refine blk_alloc ?_ _)); exact BK417.out) hkp (fun hs_ => (fun e_ => (Kd.R_ne HO_16.out BK417.out (by decide)) e_) hs_)); have n3_ := Aside0.mk (blk_kept (by (with_reducible repeat (first | refine blk_drewN ?_ _ | refine blk_drew ?_ | refine blk_alloc ?_ _)); exact BK441.out) hkp (fun hs_ => (fun e_ => (Kd.R_ne HO_16.out BK441.out (by decide)) e_) hs_)); have n4_ := Aside0.mk (blk_kept (by (with_reducible repeat (first | refine blk_drewN ?_ _ | refine blk_drew ?_ | refine blk_alloc ?_ _)); exact BK464.out) hkp (fun hs_ => (fun e_ => (Kd.R_ne HO_16.out BK464.out (by decide)) e_) hs_)); have n5_ := Aside0.mk (hb); clear HO_13; clear HO_16; clear BK417; clear BK441; clear BK464; clear HB; have HO_13 := n0_; have HO_16 := n1_; have BK417 := n2_; have BK441 := n3_; have BK464 := n4_; have HB := n5_; clear n0_ n1_ n2_ n3_ n4_ n5_; (try clear hb); (try clear hkp); (try clear hy0)) | ((with_reducible refine gate_callee (f := 40) rfl ?_); refine goesL_ (some 73) rfl rfl Try.func40 (by kernel_rfl) rfl #[.slice Ao66 t468.length co66, .int .i64 1] rfl (by (try simp only [List.map_toArray, List.map_cons, List.map_nil]); first | done | (rw [show t468.length = t460.length from (Kd.R_reads' HO_16.out).1.symm] <;> rfl) | rfl | (simp only [List.length_drop, List.length_take]; rfl)) ?_; (with_reducible refine (laws_heldSegmentS.calls kj16 _ _ t468 1 t469 _ ?side1 ?side2 A64.out).mono ?_); (case side1 => repeat (first | exact (Kd.R_reads' HO_16.out).2.2 | (with_reducible refine Kd.C_alloc ?_ _) | (with_reducible refine Kd.C_drewN ?_ _) | (with_reducible refine Kd.C_drew ?_))); (case side2 => rw [show t468.length = t460.length from (Kd.R_reads' HO_16.out).1.symm]; exact (Kd.R_reads' HO_16.out).2.1); rintro e w68 ⟨rfl, hb⟩; refine ⟨_, rfl, ?_⟩; have n0_ := Aside0.mk (Kd.R_below (by (with_reducible repeat (first | apply Kd.R_alloc | apply Kd.R_drewN | apply Kd.R_drew)); exact HO_13.out) hb); have n1_ := Aside0.mk (Kd.R_below (by (with_reducible repeat (first | apply Kd.R_alloc | apply Kd.R_drewN | apply Kd.R_drew)); exact HO_16.out) hb); have n2_ := Aside0.mk (blk_below (g := gb417) (o := .cells #[.int .i64 a3_0, .int .i64 a3_1, .int .i64 a3_2, .int .i64 a3_3, .int .i64 a3_4, .int .i64 a3_5, .string a3_6] 48 (0, 0)) (by (with_reducible repeat (first | refine blk_drewN ?_ _ | refine blk_drew ?_ | refine blk_alloc ?_ _)); exact BK417.out) hb); have n3_ := Aside0.mk (blk_below (g := gb441) (o := .cells #[.string t426, .int .i64 t427, .int .i64 t428, .int .i64 t429, .int .i64 t430, .int .i64 t431, .int .i64 t432, .int .i64 t433, .string t434, .string t435, .bool t436] 34 (0, 0)) (by (with_reducible repeat (first | refine blk_drewN ?_ _ | refine blk_drew ?_ | refine blk_alloc ?_ _)); exact BK441.out) hb); have n4_ := Aside0.mk (blk_below (g := gb464) (o := .cells #[.string t449, .int .i64 t450, .int .i64 t451, .int .i64 t452, .int .i64 t453, .int .i64 t454, .int .i64 t455, .int .i64 t456, .string t457, .string t458, .bool t459] 34 (0, 0)) (by (with_reducible repeat (first | refine blk_drewN ?_ _ | refine blk_drew ?_ | refine blk_alloc ?_ _)); exact BK464.out) hb); have n5_ := Aside0.mk (below_step (by repeat (first | (with_reducible first | exact HB.out | apply below_alloc | apply pw_below_drewN | apply below_drew1 | refine below_set ?_ GE417.out | refine below_set ?_ GE441.out | refine below_set ?_ GE464.out) | exact HB.out)) hb); clear HO_13; clear HO_16; clear BK417; clear BK441; clear BK464; clear HB; have HO_13 := n0_; have HO_16 := n1_; have BK417 := n2_; have BK441 := n3_; have BK464 := n4_; have HB := n5_; clear n0_ n1_ n2_ n3_ n4_ n5_; (try clear hb); (try clear hb2); (try clear hk); (try clear hi)))
              go_ret
              exact ⟨by first | rfl | (simp [errW_none, errW_some] <;> rfl) | (simp [*, errW_none, errW_some] <;> rfl), by repeat (first | (with_reducible first | exact HB.out | apply below_alloc | apply pw_below_drewN | apply below_drew1 | refine below_set ?_ GE417.out | refine below_set ?_ GE441.out | refine below_set ?_ GE464.out) | exact HB.out)⟩
            · rw [if_neg c65] at H
              have c65b0 : decide (t469 < 0) = false := decide_eq_false c65
              clear c65
              by_cases c69 : t469 = t467
              · rw [if_pos c69] at H
                have c69b0 : (t469 == t467) = true := beq_iff_eq.mpr c69
                have c69b1 : (t469 != t467) = false := bne_eq_false_iff_eq.mpr c69
                clear c69
                replace H := Option.bind_eq_some_iff.mp H
                obtain ⟨⟨t470, t471, t472, t473, t474, t475, t476⟩, A700, H⟩ := H
                replace H : ((impl_ConnOpen.f kj16 a0 a1 a2 t470 t471 t472 t473 t474 t475 t476 a4).bind fun bt477 => ((laws_eqConn.f bt477.1 bt477.2.1 bt477.2.2.1 bt477.2.2.2.1 bt477.2.2.2.2.1 bt477.2.2.2.2.2.1 bt477.2.2.2.2.2.2.1 bt477.2.2.2.2.2.2.2.1 bt477.2.2.2.2.2.2.2.2.1 bt477.2.2.2.2.2.2.2.2.2.1 bt477.2.2.2.2.2.2.2.2.2.2.1 t426 t427 t428 t429 t430 t431 t432 t433 t434 t435 t436).bind fun t493 => (if t493 = true then ((laws_eqSegmentS.f kj16 bt477.2.2.2.2.2.2.2.2.2.2.2.1 t437).bind fun t494 => (if t494 = true then (laws_FnExactConnOpen.j1 kj16 t468 t467 (bt477.2.2.2.2.2.2.2.2.2.2.2.2 != t440)) else (laws_FnExactConnOpen.j1 kj16 t468 t467 true))) else (laws_FnExactConnOpen.j1 kj16 t468 t467 true)))) = some r := H
                have A70 := Aside0.mk A700
                clear A700
                replace H := Option.bind_eq_some_iff.mp H
                obtain ⟨⟨t477, t478, t479, t480, t481, t482, t483, t484, t485, t486, t487, t488, t491⟩, A710, H⟩ := H
                replace H : ((laws_eqConn.f t477 t478 t479 t480 t481 t482 t483 t484 t485 t486 t487 t426 t427 t428 t429 t430 t431 t432 t433 t434 t435 t436).bind fun t493 => (if t493 = true then ((laws_eqSegmentS.f kj16 t488 t437).bind fun t494 => (if t494 = true then (laws_FnExactConnOpen.j1 kj16 t468 t467 (t491 != t440)) else (laws_FnExactConnOpen.j1 kj16 t468 t467 true))) else (laws_FnExactConnOpen.j1 kj16 t468 t467 true))) = some r := H
                have A71 := Aside0.mk A710
                clear A710
                have HC72 := Aside0.mk H
                clear H
                obtain ⟨Ao73, co73, eo73⟩ := Kd.R_slice HO_16.out
                subst eo73
                go_upto_region 20 with (first | ((with_reducible refine gate_callee (f := 39) rfl ?_); refine goesL_ (some 70) rfl rfl Try.func39 (by kernel_rfl) rfl #[.slice Ao73 t460.length co73, .int .i64 1] rfl (by (try simp only [List.map_toArray, List.map_cons, List.map_nil]); first | done | rfl | (simp only [List.length_drop, List.length_take]; rfl)) ?_; (with_reducible refine (laws_markSegmentS.calls kj16 (fun k_ => some k_ = (.slice Ao73 t460.length co73 : Value).ownBlock) (.slice Ao73 t460.length co73) t460 1 t467 t468 w _ ?side1 ?side2 A63.out).mono ?_); (case side1 => repeat (first | (with_reducible first | exact HB.out | apply below_alloc | apply pw_below_drewN | apply below_drew1 | refine below_set ?_ GE417.out | refine below_set ?_ GE441.out | refine below_set ?_ GE464.out) | exact HB.out)); (case side2 => exact Kd.R_tight rfl HO_16.out); rintro e w74 ⟨rfl, hy0, hb, hkp⟩; refine ⟨_, rfl, ?_⟩; have n0_ := Aside0.mk (Kd.R_mono (ok' := fun k_ => some k_ ≠ (.slice Ao73 t460.length co73 : Value).ownBlock) (Kd.R_keptB (HO_13.out) hkp (fun k_ hk_ hs_ => (hk_) hs_)) (fun k_ hk_ => hk_.1)); have n1_ := Aside0.mk (Kd.R_reok rfl hy0 (fun k_ e_ => HO_16.out.1 k_ e_)); have n2_ := Aside0.mk (blk_kept (by (with_reducible repeat (first | refine blk_drewN ?_ _ | refine blk_drew ?_ | refine blk_alloc ?_ _)); exact BK417.out) hkp (fun hs_ => (fun e_ => (Kd.R_ne HO_16.out BK417.out (by decide)) e_) hs_)); have n3_ := Aside0.mk (blk_kept (by (with_reducible repeat (first | refine blk_drewN ?_ _ | refine blk_drew ?_ | refine blk_alloc ?_ _)); exact BK441.out) hkp (fun hs_ => (fun e_ => (Kd.R_ne HO_16.out BK441.out (by decide)) e_) hs_)); have n4_ := Aside0.mk (blk_kept (by (with_reducible repeat (first | refine blk_drewN ?_ _ | refine blk_drew ?_ | refine blk_alloc ?_ _)); exact BK464.out) hkp (fun hs_ => (fun e_ => (Kd.R_ne HO_16.out BK464.out (by decide)) e_) hs_)); have n5_ := Aside0.mk (hb); clear HO_13; clear HO_16; clear BK417; clear BK441; clear BK464; clear HB; have HO_13 := n0_; have HO_16 := n1_; have BK417 := n2_; have BK441 := n3_; have BK464 := n4_; have HB := n5_; clear n0_ n1_ n2_ n3_ n4_ n5_; (try clear hb); (try clear hkp); (try clear hy0)) | ((with_reducible refine gate_callee (f := 40) rfl ?_); refine goesL_ (some 73) rfl rfl Try.func40 (by kernel_rfl) rfl #[.slice Ao73 t468.length co73, .int .i64 1] rfl (by (try simp only [List.map_toArray, List.map_cons, List.map_nil]); first | done | (rw [show t468.length = t460.length from (Kd.R_reads' HO_16.out).1.symm] <;> rfl) | rfl | (simp only [List.length_drop, List.length_take]; rfl)) ?_; (with_reducible refine (laws_heldSegmentS.calls kj16 _ _ t468 1 t469 _ ?side1 ?side2 A64.out).mono ?_); (case side1 => repeat (first | exact (Kd.R_reads' HO_16.out).2.2 | (with_reducible refine Kd.C_alloc ?_ _) | (with_reducible refine Kd.C_drewN ?_ _) | (with_reducible refine Kd.C_drew ?_))); (case side2 => rw [show t468.length = t460.length from (Kd.R_reads' HO_16.out).1.symm]; exact (Kd.R_reads' HO_16.out).2.1); rintro e w75 ⟨rfl, hb⟩; refine ⟨_, rfl, ?_⟩; have n0_ := Aside0.mk (Kd.R_below (by (with_reducible repeat (first | apply Kd.R_alloc | apply Kd.R_drewN | apply Kd.R_drew)); exact HO_13.out) hb); have n1_ := Aside0.mk (Kd.R_below (by (with_reducible repeat (first | apply Kd.R_alloc | apply Kd.R_drewN | apply Kd.R_drew)); exact HO_16.out) hb); have n2_ := Aside0.mk (blk_below (g := gb417) (o := .cells #[.int .i64 a3_0, .int .i64 a3_1, .int .i64 a3_2, .int .i64 a3_3, .int .i64 a3_4, .int .i64 a3_5, .string a3_6] 48 (0, 0)) (by (with_reducible repeat (first | refine blk_drewN ?_ _ | refine blk_drew ?_ | refine blk_alloc ?_ _)); exact BK417.out) hb); have n3_ := Aside0.mk (blk_below (g := gb441) (o := .cells #[.string t426, .int .i64 t427, .int .i64 t428, .int .i64 t429, .int .i64 t430, .int .i64 t431, .int .i64 t432, .int .i64 t433, .string t434, .string t435, .bool t436] 34 (0, 0)) (by (with_reducible repeat (first | refine blk_drewN ?_ _ | refine blk_drew ?_ | refine blk_alloc ?_ _)); exact BK441.out) hb); have n4_ := Aside0.mk (blk_below (g := gb464) (o := .cells #[.string t449, .int .i64 t450, .int .i64 t451, .int .i64 t452, .int .i64 t453, .int .i64 t454, .int .i64 t455, .int .i64 t456, .string t457, .string t458, .bool t459] 34 (0, 0)) (by (with_reducible repeat (first | refine blk_drewN ?_ _ | refine blk_drew ?_ | refine blk_alloc ?_ _)); exact BK464.out) hb); have n5_ := Aside0.mk (below_step (by repeat (first | (with_reducible first | exact HB.out | apply below_alloc | apply pw_below_drewN | apply below_drew1 | refine below_set ?_ GE417.out | refine below_set ?_ GE441.out | refine below_set ?_ GE464.out) | exact HB.out)) hb); clear HO_13; clear HO_16; clear BK417; clear BK441; clear BK464; clear HB; have HO_13 := n0_; have HO_16 := n1_; have BK417 := n2_; have BK441 := n3_; have BK464 := n4_; have HB := n5_; clear n0_ n1_ n2_ n3_ n4_ n5_; (try clear hb); (try clear hb2); (try clear hk); (try clear hi); have hnb76 := NB417_441.out; have hnc76 := NB441_417.out; have hnb77 := NB417_464.out; have hnc77 := NB464_417.out; have hcz78_0 : w75.cell? ⟨gb417, 0, none⟩ = some (.int .i64 a3_0) := (blk_cell BK417.out 0).trans rfl; have hcz78_1 : w75.cell? ⟨gb417, 1, none⟩ = some (.int .i64 a3_1) := (blk_cell BK417.out 1).trans rfl; have hcz78_2 : w75.cell? ⟨gb417, 2, none⟩ = some (.int .i64 a3_2) := (blk_cell BK417.out 2).trans rfl; have hcz78_3 : w75.cell? ⟨gb417, 3, none⟩ = some (.int .i64 a3_3) := (blk_cell BK417.out 3).trans rfl; have hcz78_4 : w75.cell? ⟨gb417, 4, none⟩ = some (.int .i64 a3_4) := (blk_cell BK417.out 4).trans rfl; have hcz78_5 : w75.cell? ⟨gb417, 5, none⟩ = some (.int .i64 a3_5) := (blk_cell BK417.out 5).trans rfl; have hcz78_6 : w75.cell? ⟨gb417, 6, none⟩ = some (.string a3_6) := (blk_cell BK417.out 6).trans rfl; have hfz78_0 := blk_frozen BK417.out 0; have hfz78_1 := blk_frozen BK417.out 1; have hfz78_2 := blk_frozen BK417.out 2; have hfz78_3 := blk_frozen BK417.out 3; have hfz78_4 := blk_frozen BK417.out 4; have hfz78_5 := blk_frozen BK417.out 5; have hfz78_6 := blk_frozen BK417.out 6) | ((with_reducible refine gate_callee (f := 35) rfl ?_); refine goesL_ (some 84) rfl rfl Try.func35 (by kernel_rfl) rfl #[.agg #[.int .i64 a3_0, .int .i64 a3_1, .int .i64 a3_2, .int .i64 a3_3, .int .i64 a3_4, .int .i64 a3_5, .string a3_6]] rfl (by (try simp only [List.map_toArray, List.map_cons, List.map_nil]); first | done | rfl | (simp only [List.length_drop, List.length_take]; rfl)) ?_; (with_reducible refine (laws_toSegment.calls a3_0 a3_1 a3_2 a3_3 a3_4 a3_5 a3_6 t470 t471 t472 t473 t474 t475 t476 _ A70.out).mono ?_); rintro e w79 ⟨rfl, hb⟩; refine ⟨_, rfl, ?_⟩; have n0_ := Aside0.mk (Kd.R_below (by (with_reducible repeat (first | apply Kd.R_alloc | apply Kd.R_drewN | apply Kd.R_drew)); exact HO_13.out) hb); have n1_ := Aside0.mk (Kd.R_below (by (with_reducible repeat (first | apply Kd.R_alloc | apply Kd.R_drewN | apply Kd.R_drew)); exact HO_16.out) hb); have n2_ := Aside0.mk (blk_below (g := gb417) (o := .cells #[.int .i64 a3_0, .int .i64 a3_1, .int .i64 a3_2, .int .i64 a3_3, .int .i64 a3_4, .int .i64 a3_5, .string a3_6] 48 (0, 0)) (by (with_reducible repeat (first | refine blk_drewN ?_ _ | refine blk_drew ?_ | refine blk_alloc ?_ _)); exact BK417.out) hb); have n3_ := Aside0.mk (blk_below (g := gb441) (o := .cells #[.string t426, .int .i64 t427, .int .i64 t428, .int .i64 t429, .int .i64 t430, .int .i64 t431, .int .i64 t432, .int .i64 t433, .string t434, .string t435, .bool t436] 34 (0, 0)) (by (with_reducible repeat (first | refine blk_drewN ?_ _ | refine blk_drew ?_ | refine blk_alloc ?_ _)); exact BK441.out) hb); have n4_ := Aside0.mk (blk_below (g := gb464) (o := .cells #[.string t449, .int .i64 t450, .int .i64 t451, .int .i64 t452, .int .i64 t453, .int .i64 t454, .int .i64 t455, .int .i64 t456, .string t457, .string t458, .bool t459] 34 (0, 0)) (by (with_reducible repeat (first | refine blk_drewN ?_ _ | refine blk_drew ?_ | refine blk_alloc ?_ _)); exact BK464.out) hb); have n5_ := Aside0.mk (below_step (by repeat (first | (with_reducible first | exact HB.out | apply below_alloc | apply pw_below_drewN | apply below_drew1 | refine below_set ?_ GE417.out | refine below_set ?_ GE441.out | refine below_set ?_ GE464.out) | exact HB.out)) hb); clear HO_13; clear HO_16; clear BK417; clear BK441; clear BK464; clear HB; have HO_13 := n0_; have HO_16 := n1_; have BK417 := n2_; have BK441 := n3_; have BK464 := n4_; have HB := n5_; clear n0_ n1_ n2_ n3_ n4_ n5_; (try clear hb); (try clear hb2); (try clear hk); (try clear hi)) | ((with_reducible refine gate_callee (f := 36) rfl ?_); refine goesL_ (some 86) rfl rfl Try.func36 (by kernel_rfl) rfl #[.string a0, .int .i64 a1, .int .i64 a2, .agg #[.int .i64 t470, .int .i64 t471, .int .i64 t472, .int .i64 t473, .int .i64 t474, .int .i64 t475, .string t476], .int .i64 a4] rfl (by (try simp only [List.map_toArray, List.map_cons, List.map_nil]); first | done | rfl | (simp only [List.length_drop, List.length_take]; rfl)) ?_; (with_reducible refine (impl_ConnOpen.calls kj16 a0 a1 a2 t470 t471 t472 t473 t474 t475 t476 a4 t477 t478 t479 t480 t481 t482 t483 t484 t485 t486 t487 t488 t491 _ A71.out).mono ?_); rintro e w80 ⟨v489, rfl, ho0, hb⟩; refine ⟨_, rfl, ?_⟩; have n0_ := Aside0.mk (Kd.R_elder' (by (with_reducible repeat (first | apply Kd.R_alloc | apply Kd.R_drewN | apply Kd.R_drew)); exact HO_13.out) (Kd.R_base ho0) hb); have n1_ := Aside0.mk (Kd.R_elder' (by (with_reducible repeat (first | apply Kd.R_alloc | apply Kd.R_drewN | apply Kd.R_drew)); exact HO_16.out) (Kd.R_base ho0) hb); have n2_ := Aside0.mk (Kd.R_lower (Kd.R_new' (Kd.R_new' ho0 (Kd.R_lt (by (with_reducible repeat (first | apply Kd.R_alloc | apply Kd.R_drewN | apply Kd.R_drew)); exact HO_13.out))) (Kd.R_lt (by (with_reducible repeat (first | apply Kd.R_alloc | apply Kd.R_drewN | apply Kd.R_drew)); exact HO_16.out))) (below_size (by repeat (first | (with_reducible first | exact HB.out | apply below_alloc | apply pw_below_drewN | apply below_drew1 | refine below_set ?_ GE417.out | refine below_set ?_ GE441.out | refine below_set ?_ GE464.out) | exact HB.out)))); have n3_ := Aside0.mk (blk_below (g := gb417) (o := .cells #[.int .i64 a3_0, .int .i64 a3_1, .int .i64 a3_2, .int .i64 a3_3, .int .i64 a3_4, .int .i64 a3_5, .string a3_6] 48 (0, 0)) (by (with_reducible repeat (first | refine blk_drewN ?_ _ | refine blk_drew ?_ | refine blk_alloc ?_ _)); exact BK417.out) hb); have n4_ := Aside0.mk (blk_below (g := gb441) (o := .cells #[.string t426, .int .i64 t427, .int .i64 t428, .int .i64 t429, .int .i64 t430, .int .i64 t431, .int .i64 t432, .int .i64 t433, .string t434, .string t435, .bool t436] 34 (0, 0)) (by (with_reducible repeat (first | refine blk_drewN ?_ _ | refine blk_drew ?_ | refine blk_alloc ?_ _)); exact BK441.out) hb); have n5_ := Aside0.mk (blk_below (g := gb464) (o := .cells #[.string t449, .int .i64 t450, .int .i64 t451, .int .i64 t452, .int .i64 t453, .int .i64 t454, .int .i64 t455, .int .i64 t456, .string t457, .string t458, .bool t459] 34 (0, 0)) (by (with_reducible repeat (first | refine blk_drewN ?_ _ | refine blk_drew ?_ | refine blk_alloc ?_ _)); exact BK464.out) hb); have n6_ := Aside0.mk (below_step (by repeat (first | (with_reducible first | exact HB.out | apply below_alloc | apply pw_below_drewN | apply below_drew1 | refine below_set ?_ GE417.out | refine below_set ?_ GE441.out | refine below_set ?_ GE464.out) | exact HB.out)) hb); clear HO_13; clear HO_16; clear BK417; clear BK441; clear BK464; clear HB; have HO_13 := n0_; have HO_16 := n1_; have HO490 := n2_; have BK417 := n3_; have BK441 := n4_; have BK464 := n5_; have HB := n6_; clear n0_ n1_ n2_ n3_ n4_ n5_ n6_; (try clear hb); (try clear hb2); (try clear hk); (try clear hi); (try clear ho0)) | ((with_reducible refine gate_dst (N := 20) rfl ?_); refine box_event ?hg (N := 20) ?hd (cs := #[.string (⟨#[]⟩ : ByteArray), .int .i64 0, .int .i64 0, .int .i64 0, .int .i64 0, .int .i64 0, .int .i64 0, .int .i64 0, .string (⟨#[]⟩ : ByteArray), .string (⟨#[]⟩ : ByteArray), .bool false]) (t := 34) ?hr ?_; (case hd => rfl); (case hg => rfl); (case hr => first | (go_simp; done) | (go_simp; rfl)); intro gb492 hg w81 hbox hb; have n0_ := Aside0.mk (Kd.R_below (by (with_reducible repeat (first | apply Kd.R_alloc | apply Kd.R_drewN | apply Kd.R_drew)); exact HO_13.out) hb); have n1_ := Aside0.mk (Kd.R_below (by (with_reducible repeat (first | apply Kd.R_alloc | apply Kd.R_drewN | apply Kd.R_drew)); exact HO_16.out) hb); have n2_ := Aside0.mk (Kd.R_below (by (with_reducible repeat (first | apply Kd.R_alloc | apply Kd.R_drewN | apply Kd.R_drew)); exact HO490.out) hb); have n3_ := Aside0.mk (blk_below (g := gb417) (o := .cells #[.int .i64 a3_0, .int .i64 a3_1, .int .i64 a3_2, .int .i64 a3_3, .int .i64 a3_4, .int .i64 a3_5, .string a3_6] 48 (0, 0)) (by (with_reducible repeat (first | refine blk_drewN ?_ _ | refine blk_drew ?_ | refine blk_alloc ?_ _)); exact BK417.out) hb); have n4_ := Aside0.mk (blk_below (g := gb441) (o := .cells #[.string t426, .int .i64 t427, .int .i64 t428, .int .i64 t429, .int .i64 t430, .int .i64 t431, .int .i64 t432, .int .i64 t433, .string t434, .string t435, .bool t436] 34 (0, 0)) (by (with_reducible repeat (first | refine blk_drewN ?_ _ | refine blk_drew ?_ | refine blk_alloc ?_ _)); exact BK441.out) hb); have n5_ := Aside0.mk (blk_below (g := gb464) (o := .cells #[.string t449, .int .i64 t450, .int .i64 t451, .int .i64 t452, .int .i64 t453, .int .i64 t454, .int .i64 t455, .int .i64 t456, .string t457, .string t458, .bool t459] 34 (0, 0)) (by (with_reducible repeat (first | refine blk_drewN ?_ _ | refine blk_drew ?_ | refine blk_alloc ?_ _)); exact BK464.out) hb); have n6_ := Aside0.mk (below_step (by repeat (first | (with_reducible first | exact HB.out | apply below_alloc | apply pw_below_drewN | apply below_drew1 | refine below_set ?_ GE417.out | refine below_set ?_ GE441.out | refine below_set ?_ GE464.out) | exact HB.out)) hb); have n7_ := Aside0.mk (hbox); have n8_ := Aside0.mk ((by rw [hg]; exact (below_size (by repeat (first | (with_reducible first | exact HB.out | apply below_alloc | apply pw_below_drewN | apply below_drew1 | refine below_set ?_ GE417.out | refine below_set ?_ GE441.out | refine below_set ?_ GE464.out) | exact HB.out))) : w.heap.size ≤ gb492)); have n9_ := Aside0.mk ((by rw [hg]; exact (below_size (by repeat (first | (with_reducible first | exact HB.out | apply below_alloc | apply pw_below_drewN | apply below_drew1 | refine below_set ?_ GE417.out | refine below_set ?_ GE441.out | refine below_set ?_ GE464.out) | exact HB.out))) : w.heap.size ≤ gb492)); have n10_ := Aside0.mk ((by rw [hg]; exact Nat.ne_of_lt (blk_lt (g := gb417) (o := .cells #[.int .i64 a3_0, .int .i64 a3_1, .int .i64 a3_2, .int .i64 a3_3, .int .i64 a3_4, .int .i64 a3_5, .string a3_6] 48 (0, 0)) (by (with_reducible repeat (first | refine blk_drewN ?_ _ | refine blk_drew ?_ | refine blk_alloc ?_ _)); exact BK417.out)) : gb417 ≠ gb492)); have n11_ := Aside0.mk ((by rw [hg]; exact Nat.ne_of_gt (blk_lt (g := gb417) (o := .cells #[.int .i64 a3_0, .int .i64 a3_1, .int .i64 a3_2, .int .i64 a3_3, .int .i64 a3_4, .int .i64 a3_5, .string a3_6] 48 (0, 0)) (by (with_reducible repeat (first | refine blk_drewN ?_ _ | refine blk_drew ?_ | refine blk_alloc ?_ _)); exact BK417.out)) : gb492 ≠ gb417)); have n12_ := Aside0.mk ((by rw [hg]; exact Nat.ne_of_lt (blk_lt (g := gb441) (o := .cells #[.string t426, .int .i64 t427, .int .i64 t428, .int .i64 t429, .int .i64 t430, .int .i64 t431, .int .i64 t432, .int .i64 t433, .string t434, .string t435, .bool t436] 34 (0, 0)) (by (with_reducible repeat (first | refine blk_drewN ?_ _ | refine blk_drew ?_ | refine blk_alloc ?_ _)); exact BK441.out)) : gb441 ≠ gb492)); have n13_ := Aside0.mk ((by rw [hg]; exact Nat.ne_of_gt (blk_lt (g := gb441) (o := .cells #[.string t426, .int .i64 t427, .int .i64 t428, .int .i64 t429, .int .i64 t430, .int .i64 t431, .int .i64 t432, .int .i64 t433, .string t434, .string t435, .bool t436] 34 (0, 0)) (by (with_reducible repeat (first | refine blk_drewN ?_ _ | refine blk_drew ?_ | refine blk_alloc ?_ _)); exact BK441.out)) : gb492 ≠ gb441)); have n14_ := Aside0.mk ((by rw [hg]; exact Nat.ne_of_lt (blk_lt (g := gb464) (o := .cells #[.string t449, .int .i64 t450, .int .i64 t451, .int .i64 t452, .int .i64 t453, .int .i64 t454, .int .i64 t455, .int .i64 t456, .string t457, .string t458, .bool t459] 34 (0, 0)) (by (with_reducible repeat (first | refine blk_drewN ?_ _ | refine blk_drew ?_ | refine blk_alloc ?_ _)); exact BK464.out)) : gb464 ≠ gb492)); have n15_ := Aside0.mk ((by rw [hg]; exact Nat.ne_of_gt (blk_lt (g := gb464) (o := .cells #[.string t449, .int .i64 t450, .int .i64 t451, .int .i64 t452, .int .i64 t453, .int .i64 t454, .int .i64 t455, .int .i64 t456, .string t457, .string t458, .bool t459] 34 (0, 0)) (by (with_reducible repeat (first | refine blk_drewN ?_ _ | refine blk_drew ?_ | refine blk_alloc ?_ _)); exact BK464.out)) : gb492 ≠ gb464)); clear HO_13; clear HO_16; clear HO490; clear BK417; clear BK441; clear BK464; clear HB; have HO_13 := n0_; have HO_16 := n1_; have HO490 := n2_; have BK417 := n3_; have BK441 := n4_; have BK464 := n5_; have HB := n6_; have BK492 := n7_; have GW492 := n8_; have GE492 := n9_; have NB417_492 := n10_; have NB492_417 := n11_; have NB441_492 := n12_; have NB492_441 := n13_; have NB464_492 := n14_; have NB492_464 := n15_; clear n0_ n1_ n2_ n3_ n4_ n5_ n6_ n7_ n8_ n9_ n10_ n11_ n12_ n13_ n14_ n15_; clear hb hbox hg; have hnb82 := NB492_417.out; have hnc82 := NB417_492.out; have hnb83 := NB492_441.out; have hnc83 := NB441_492.out; have hnb84 := NB492_464.out; have hnc84 := NB464_492.out; have hcz85_0 : w81.cell? ⟨gb492, 0, none⟩ = some (.string (⟨#[]⟩ : ByteArray)) := (blk_cell BK492.out 0).trans rfl; have hcz85_1 : w81.cell? ⟨gb492, 1, none⟩ = some (.int .i64 0) := (blk_cell BK492.out 1).trans rfl; have hcz85_2 : w81.cell? ⟨gb492, 2, none⟩ = some (.int .i64 0) := (blk_cell BK492.out 2).trans rfl; have hcz85_3 : w81.cell? ⟨gb492, 3, none⟩ = some (.int .i64 0) := (blk_cell BK492.out 3).trans rfl; have hcz85_4 : w81.cell? ⟨gb492, 4, none⟩ = some (.int .i64 0) := (blk_cell BK492.out 4).trans rfl; have hcz85_5 : w81.cell? ⟨gb492, 5, none⟩ = some (.int .i64 0) := (blk_cell BK492.out 5).trans rfl; have hcz85_6 : w81.cell? ⟨gb492, 6, none⟩ = some (.int .i64 0) := (blk_cell BK492.out 6).trans rfl; have hcz85_7 : w81.cell? ⟨gb492, 7, none⟩ = some (.int .i64 0) := (blk_cell BK492.out 7).trans rfl; have hcz85_8 : w81.cell? ⟨gb492, 8, none⟩ = some (.string (⟨#[]⟩ : ByteArray)) := (blk_cell BK492.out 8).trans rfl; have hcz85_9 : w81.cell? ⟨gb492, 9, none⟩ = some (.string (⟨#[]⟩ : ByteArray)) := (blk_cell BK492.out 9).trans rfl; have hcz85_10 : w81.cell? ⟨gb492, 10, none⟩ = some (.bool false) := (blk_cell BK492.out 10).trans rfl; have hfz85_0 := blk_frozen BK492.out 0; have hfz85_1 := blk_frozen BK492.out 1; have hfz85_2 := blk_frozen BK492.out 2; have hfz85_3 := blk_frozen BK492.out 3; have hfz85_4 := blk_frozen BK492.out 4; have hfz85_5 := blk_frozen BK492.out 5; have hfz85_6 := blk_frozen BK492.out 6; have hfz85_7 := blk_frozen BK492.out 7; have hfz85_8 := blk_frozen BK492.out 8; have hfz85_9 := blk_frozen BK492.out 9; have hfz85_10 := blk_frozen BK492.out 10))
                (try simp only [Act.put, List.setIfInBounds_toArray, List.set_cons_zero, List.set_cons_succ])
                go_cut [104] (fun v104 wc => ∃ (kq : Nat) (x104_71 : Bool), v104 = .bool x104_71 ∧ Aside0 (laws_FnExactConnOpen.j1 kq t468 t467 x104_71 = some r) ∧ Aside0 (kq ≤ kj16) ∧ Aside0 (Kd.R k53 53 wc w.heap.size (fun _ => True) (.slice Ao73 t460.length co73) t468) ∧ Aside0 (wc.heap[gb417]? = some (.cells #[.int .i64 a3_0, .int .i64 a3_1, .int .i64 a3_2, .int .i64 a3_3, .int .i64 a3_4, .int .i64 a3_5, .string a3_6] 48 (0, 0))) ∧ Aside0 (wc.heap[gb441]? = some (.cells #[.string t426, .int .i64 t427, .int .i64 t428, .int .i64 t429, .int .i64 t430, .int .i64 t431, .int .i64 t432, .int .i64 t433, .string t434, .string t435, .bool t436] 34 (0, 0))) ∧ Aside0 (wc.heap[gb464]? = some (.cells #[.string t449, .int .i64 t450, .int .i64 t451, .int .i64 t452, .int .i64 t453, .int .i64 t454, .int .i64 t455, .int .i64 t456, .string t457, .string t458, .bool t459] 34 (0, 0))) ∧ Aside0 (wc.heap[gb492]? = some (.cells #[.string t477, .int .i64 t478, .int .i64 t479, .int .i64 t480, .int .i64 t481, .int .i64 t482, .int .i64 t483, .int .i64 t484, .string t485, .string t486, .bool t487] 34 (0, 0))) ∧ Aside0 (Below w.heap.size w wc))
                case first =>
                  have H := HC72.out
                  clear HC72
                  replace H := Option.bind_eq_some_iff.mp H
                  obtain ⟨t493, A860, H⟩ := H
                  replace H : (if t493 = true then ((laws_eqSegmentS.f kj16 t488 t437).bind fun t494 => (if t494 = true then (laws_FnExactConnOpen.j1 kj16 t468 t467 (t491 != t440)) else (laws_FnExactConnOpen.j1 kj16 t468 t467 true))) else (laws_FnExactConnOpen.j1 kj16 t468 t467 true)) = some r := H
                  have A86 := Aside0.mk A860
                  clear A860
                  by_cases c87 : t493 = true
                  · subst c87
                    have H1 : ((laws_eqSegmentS.f kj16 t488 t437).bind fun t494 => (if t494 = true then (laws_FnExactConnOpen.j1 kj16 t468 t467 (t491 != t440)) else (laws_FnExactConnOpen.j1 kj16 t468 t467 true))) = some r := by rw [if_pos rfl] at H; exact H
                    clear H
                    have H := H1
                    clear H1
                    replace H := Option.bind_eq_some_iff.mp H
                    obtain ⟨t494, A880, H⟩ := H
                    replace H : (if t494 = true then (laws_FnExactConnOpen.j1 kj16 t468 t467 (t491 != t440)) else (laws_FnExactConnOpen.j1 kj16 t468 t467 true)) = some r := H
                    have A88 := Aside0.mk A880
                    clear A880
                    by_cases c89 : t494 = true
                    · subst c89
                      have H1 : (laws_FnExactConnOpen.j1 kj16 t468 t467 (t491 != t440)) = some r := by rw [if_pos rfl] at H; exact H
                      clear H
                      have H := H1
                      clear H1
                      have H' := Aside0.mk H
                      clear H
                      have hnb90 := NB492_417.out
                      have hnc90 := NB417_492.out
                      have hnb91 := NB492_441.out
                      have hnc91 := NB441_492.out
                      have hnb92 := NB492_464.out
                      have hnc92 := NB464_492.out
                      have hcz93_0 : w81.cell? ⟨gb492, 0, none⟩ = some (.string (⟨#[]⟩ : ByteArray)) := (blk_cell BK492.out 0).trans rfl
                      have hcz93_1 : w81.cell? ⟨gb492, 1, none⟩ = some (.int .i64 0) := (blk_cell BK492.out 1).trans rfl
                      have hcz93_2 : w81.cell? ⟨gb492, 2, none⟩ = some (.int .i64 0) := (blk_cell BK492.out 2).trans rfl
                      have hcz93_3 : w81.cell? ⟨gb492, 3, none⟩ = some (.int .i64 0) := (blk_cell BK492.out 3).trans rfl
                      have hcz93_4 : w81.cell? ⟨gb492, 4, none⟩ = some (.int .i64 0) := (blk_cell BK492.out 4).trans rfl
                      have hcz93_5 : w81.cell? ⟨gb492, 5, none⟩ = some (.int .i64 0) := (blk_cell BK492.out 5).trans rfl
                      have hcz93_6 : w81.cell? ⟨gb492, 6, none⟩ = some (.int .i64 0) := (blk_cell BK492.out 6).trans rfl
                      have hcz93_7 : w81.cell? ⟨gb492, 7, none⟩ = some (.int .i64 0) := (blk_cell BK492.out 7).trans rfl
                      have hcz93_8 : w81.cell? ⟨gb492, 8, none⟩ = some (.string (⟨#[]⟩ : ByteArray)) := (blk_cell BK492.out 8).trans rfl
                      have hcz93_9 : w81.cell? ⟨gb492, 9, none⟩ = some (.string (⟨#[]⟩ : ByteArray)) := (blk_cell BK492.out 9).trans rfl
                      have hcz93_10 : w81.cell? ⟨gb492, 10, none⟩ = some (.bool false) := (blk_cell BK492.out 10).trans rfl
                      have hfz93_0 := blk_frozen BK492.out 0
                      have hfz93_1 := blk_frozen BK492.out 1
                      have hfz93_2 := blk_frozen BK492.out 2
                      have hfz93_3 := blk_frozen BK492.out 3
                      have hfz93_4 := blk_frozen BK492.out 4
                      have hfz93_5 := blk_frozen BK492.out 5
                      have hfz93_6 := blk_frozen BK492.out 6
                      have hfz93_7 := blk_frozen BK492.out 7
                      have hfz93_8 := blk_frozen BK492.out 8
                      have hfz93_9 := blk_frozen BK492.out 9
                      have hfz93_10 := blk_frozen BK492.out 10
                      have hnb94 := NB441_417.out
                      have hnc94 := NB417_441.out
                      have hnb95 := NB441_464.out
                      have hnc95 := NB464_441.out
                      have hcz96_0 : w81.cell? ⟨gb441, 0, none⟩ = some (.string t426) := (blk_cell BK441.out 0).trans rfl
                      have hcz96_1 : w81.cell? ⟨gb441, 1, none⟩ = some (.int .i64 t427) := (blk_cell BK441.out 1).trans rfl
                      have hcz96_2 : w81.cell? ⟨gb441, 2, none⟩ = some (.int .i64 t428) := (blk_cell BK441.out 2).trans rfl
                      have hcz96_3 : w81.cell? ⟨gb441, 3, none⟩ = some (.int .i64 t429) := (blk_cell BK441.out 3).trans rfl
                      have hcz96_4 : w81.cell? ⟨gb441, 4, none⟩ = some (.int .i64 t430) := (blk_cell BK441.out 4).trans rfl
                      have hcz96_5 : w81.cell? ⟨gb441, 5, none⟩ = some (.int .i64 t431) := (blk_cell BK441.out 5).trans rfl
                      have hcz96_6 : w81.cell? ⟨gb441, 6, none⟩ = some (.int .i64 t432) := (blk_cell BK441.out 6).trans rfl
                      have hcz96_7 : w81.cell? ⟨gb441, 7, none⟩ = some (.int .i64 t433) := (blk_cell BK441.out 7).trans rfl
                      have hcz96_8 : w81.cell? ⟨gb441, 8, none⟩ = some (.string t434) := (blk_cell BK441.out 8).trans rfl
                      have hcz96_9 : w81.cell? ⟨gb441, 9, none⟩ = some (.string t435) := (blk_cell BK441.out 9).trans rfl
                      have hcz96_10 : w81.cell? ⟨gb441, 10, none⟩ = some (.bool t436) := (blk_cell BK441.out 10).trans rfl
                      have hfz96_0 := blk_frozen BK441.out 0
                      have hfz96_1 := blk_frozen BK441.out 1
                      have hfz96_2 := blk_frozen BK441.out 2
                      have hfz96_3 := blk_frozen BK441.out 3
                      have hfz96_4 := blk_frozen BK441.out 4
                      have hfz96_5 := blk_frozen BK441.out 5
                      have hfz96_6 := blk_frozen BK441.out 6
                      have hfz96_7 := blk_frozen BK441.out 7
                      have hfz96_8 := blk_frozen BK441.out 8
                      have hfz96_9 := blk_frozen BK441.out 9
                      have hfz96_10 := blk_frozen BK441.out 10
                      go_wp2_with (first | ((with_reducible refine gate_callee (f := 37) rfl ?_); refine goesL_ (some 92) rfl rfl Try.func37 (by kernel_rfl) rfl #[.agg #[.string t477, .int .i64 t478, .int .i64 t479, .int .i64 t480, .int .i64 t481, .int .i64 t482, .int .i64 t483, .int .i64 t484, .string t485, .string t486, .bool t487], .agg #[.string t426, .int .i64 t427, .int .i64 t428, .int .i64 t429, .int .i64 t430, .int .i64 t431, .int .i64 t432, .int .i64 t433, .string t434, .string t435, .bool t436]] rfl (by (try simp only [List.map_toArray, List.map_cons, List.map_nil]); first | done | rfl | (simp only [List.length_drop, List.length_take]; rfl)) ?_; (with_reducible refine (laws_eqConn.calls t477 t478 t479 t480 t481 t482 t483 t484 t485 t486 t487 t426 t427 t428 t429 t430 t431 t432 t433 t434 t435 t436 true _ A86.out).mono ?_); rintro e w97 ⟨rfl, hb⟩; refine ⟨_, rfl, ?_⟩; have n0_ := Aside0.mk (Kd.R_below (by (with_reducible repeat (first | apply Kd.R_alloc | apply Kd.R_drewN | apply Kd.R_drew)); exact (Kd.R_mono (Kd.R_far (p := ⟨gb492, 10, none⟩) (Kd.R_far (p := ⟨gb492, 9, none⟩) (Kd.R_far (p := ⟨gb492, 8, none⟩) (Kd.R_far (p := ⟨gb492, 7, none⟩) (Kd.R_far (p := ⟨gb492, 6, none⟩) (Kd.R_far (p := ⟨gb492, 5, none⟩) (Kd.R_far (p := ⟨gb492, 4, none⟩) (Kd.R_far (p := ⟨gb492, 3, none⟩) (Kd.R_far (p := ⟨gb492, 2, none⟩) (Kd.R_far (p := ⟨gb492, 1, none⟩) (Kd.R_far (p := ⟨gb492, 0, none⟩) (Kd.R_types HO_13.out BK492.out (by decide)) (fun _ hk => hk.2) (.string t477)) (fun _ hk => hk.2) (.int .i64 t478)) (fun _ hk => hk.2) (.int .i64 t479)) (fun _ hk => hk.2) (.int .i64 t480)) (fun _ hk => hk.2) (.int .i64 t481)) (fun _ hk => hk.2) (.int .i64 t482)) (fun _ hk => hk.2) (.int .i64 t483)) (fun _ hk => hk.2) (.int .i64 t484)) (fun _ hk => hk.2) (.string t485)) (fun _ hk => hk.2) (.string t486)) (fun _ hk => hk.2) (.bool t487)) (fun _ h_ => h_.1))) hb); have n1_ := Aside0.mk (Kd.R_below (by (with_reducible repeat (first | apply Kd.R_alloc | apply Kd.R_drewN | apply Kd.R_drew)); exact (Kd.R_mono (Kd.R_far (p := ⟨gb492, 10, none⟩) (Kd.R_far (p := ⟨gb492, 9, none⟩) (Kd.R_far (p := ⟨gb492, 8, none⟩) (Kd.R_far (p := ⟨gb492, 7, none⟩) (Kd.R_far (p := ⟨gb492, 6, none⟩) (Kd.R_far (p := ⟨gb492, 5, none⟩) (Kd.R_far (p := ⟨gb492, 4, none⟩) (Kd.R_far (p := ⟨gb492, 3, none⟩) (Kd.R_far (p := ⟨gb492, 2, none⟩) (Kd.R_far (p := ⟨gb492, 1, none⟩) (Kd.R_far (p := ⟨gb492, 0, none⟩) (Kd.R_types HO_16.out BK492.out (by decide)) (fun _ hk => hk.2) (.string t477)) (fun _ hk => hk.2) (.int .i64 t478)) (fun _ hk => hk.2) (.int .i64 t479)) (fun _ hk => hk.2) (.int .i64 t480)) (fun _ hk => hk.2) (.int .i64 t481)) (fun _ hk => hk.2) (.int .i64 t482)) (fun _ hk => hk.2) (.int .i64 t483)) (fun _ hk => hk.2) (.int .i64 t484)) (fun _ hk => hk.2) (.string t485)) (fun _ hk => hk.2) (.string t486)) (fun _ hk => hk.2) (.bool t487)) (fun _ h_ => h_.1))) hb); have n2_ := Aside0.mk (Kd.R_below (by (with_reducible repeat (first | apply Kd.R_alloc | apply Kd.R_drewN | apply Kd.R_drew)); exact (Kd.R_mono (Kd.R_far (p := ⟨gb492, 10, none⟩) (Kd.R_far (p := ⟨gb492, 9, none⟩) (Kd.R_far (p := ⟨gb492, 8, none⟩) (Kd.R_far (p := ⟨gb492, 7, none⟩) (Kd.R_far (p := ⟨gb492, 6, none⟩) (Kd.R_far (p := ⟨gb492, 5, none⟩) (Kd.R_far (p := ⟨gb492, 4, none⟩) (Kd.R_far (p := ⟨gb492, 3, none⟩) (Kd.R_far (p := ⟨gb492, 2, none⟩) (Kd.R_far (p := ⟨gb492, 1, none⟩) (Kd.R_far (p := ⟨gb492, 0, none⟩) (Kd.R_types HO490.out BK492.out (by decide)) (fun _ hk => hk.2) (.string t477)) (fun _ hk => hk.2) (.int .i64 t478)) (fun _ hk => hk.2) (.int .i64 t479)) (fun _ hk => hk.2) (.int .i64 t480)) (fun _ hk => hk.2) (.int .i64 t481)) (fun _ hk => hk.2) (.int .i64 t482)) (fun _ hk => hk.2) (.int .i64 t483)) (fun _ hk => hk.2) (.int .i64 t484)) (fun _ hk => hk.2) (.string t485)) (fun _ hk => hk.2) (.string t486)) (fun _ hk => hk.2) (.bool t487)) (fun _ h_ => h_.1))) hb); have n3_ := Aside0.mk (blk_below (g := gb417) (o := .cells #[.int .i64 a3_0, .int .i64 a3_1, .int .i64 a3_2, .int .i64 a3_3, .int .i64 a3_4, .int .i64 a3_5, .string a3_6] 48 (0, 0)) (by (with_reducible repeat (first | refine blk_drewN ?_ _ | refine blk_drew ?_ | refine blk_alloc ?_ _)); refine blk_far ?_ NB417_492.out _; (with_reducible repeat (first | refine blk_drewN ?_ _ | refine blk_drew ?_ | refine blk_alloc ?_ _)); refine blk_far ?_ NB417_492.out _; (with_reducible repeat (first | refine blk_drewN ?_ _ | refine blk_drew ?_ | refine blk_alloc ?_ _)); refine blk_far ?_ NB417_492.out _; (with_reducible repeat (first | refine blk_drewN ?_ _ | refine blk_drew ?_ | refine blk_alloc ?_ _)); refine blk_far ?_ NB417_492.out _; (with_reducible repeat (first | refine blk_drewN ?_ _ | refine blk_drew ?_ | refine blk_alloc ?_ _)); refine blk_far ?_ NB417_492.out _; (with_reducible repeat (first | refine blk_drewN ?_ _ | refine blk_drew ?_ | refine blk_alloc ?_ _)); refine blk_far ?_ NB417_492.out _; (with_reducible repeat (first | refine blk_drewN ?_ _ | refine blk_drew ?_ | refine blk_alloc ?_ _)); refine blk_far ?_ NB417_492.out _; (with_reducible repeat (first | refine blk_drewN ?_ _ | refine blk_drew ?_ | refine blk_alloc ?_ _)); refine blk_far ?_ NB417_492.out _; (with_reducible repeat (first | refine blk_drewN ?_ _ | refine blk_drew ?_ | refine blk_alloc ?_ _)); refine blk_far ?_ NB417_492.out _; (with_reducible repeat (first | refine blk_drewN ?_ _ | refine blk_drew ?_ | refine blk_alloc ?_ _)); refine blk_far ?_ NB417_492.out _; (with_reducible repeat (first | refine blk_drewN ?_ _ | refine blk_drew ?_ | refine blk_alloc ?_ _)); refine blk_far ?_ NB417_492.out _; (with_reducible repeat (first | refine blk_drewN ?_ _ | refine blk_drew ?_ | refine blk_alloc ?_ _)); exact BK417.out) hb); have n4_ := Aside0.mk (blk_below (g := gb441) (o := .cells #[.string t426, .int .i64 t427, .int .i64 t428, .int .i64 t429, .int .i64 t430, .int .i64 t431, .int .i64 t432, .int .i64 t433, .string t434, .string t435, .bool t436] 34 (0, 0)) (by (with_reducible repeat (first | refine blk_drewN ?_ _ | refine blk_drew ?_ | refine blk_alloc ?_ _)); refine blk_far ?_ NB441_492.out _; (with_reducible repeat (first | refine blk_drewN ?_ _ | refine blk_drew ?_ | refine blk_alloc ?_ _)); refine blk_far ?_ NB441_492.out _; (with_reducible repeat (first | refine blk_drewN ?_ _ | refine blk_drew ?_ | refine blk_alloc ?_ _)); refine blk_far ?_ NB441_492.out _; (with_reducible repeat (first | refine blk_drewN ?_ _ | refine blk_drew ?_ | refine blk_alloc ?_ _)); refine blk_far ?_ NB441_492.out _; (with_reducible repeat (first | refine blk_drewN ?_ _ | refine blk_drew ?_ | refine blk_alloc ?_ _)); refine blk_far ?_ NB441_492.out _; (with_reducible repeat (first | refine blk_drewN ?_ _ | refine blk_drew ?_ | refine blk_alloc ?_ _)); refine blk_far ?_ NB441_492.out _; (with_reducible repeat (first | refine blk_drewN ?_ _ | refine blk_drew ?_ | refine blk_alloc ?_ _)); refine blk_far ?_ NB441_492.out _; (with_reducible repeat (first | refine blk_drewN ?_ _ | refine blk_drew ?_ | refine blk_alloc ?_ _)); refine blk_far ?_ NB441_492.out _; (with_reducible repeat (first | refine blk_drewN ?_ _ | refine blk_drew ?_ | refine blk_alloc ?_ _)); refine blk_far ?_ NB441_492.out _; (with_reducible repeat (first | refine blk_drewN ?_ _ | refine blk_drew ?_ | refine blk_alloc ?_ _)); refine blk_far ?_ NB441_492.out _; (with_reducible repeat (first | refine blk_drewN ?_ _ | refine blk_drew ?_ | refine blk_alloc ?_ _)); refine blk_far ?_ NB441_492.out _; (with_reducible repeat (first | refine blk_drewN ?_ _ | refine blk_drew ?_ | refine blk_alloc ?_ _)); exact BK441.out) hb); have n5_ := Aside0.mk (blk_below (g := gb464) (o := .cells #[.string t449, .int .i64 t450, .int .i64 t451, .int .i64 t452, .int .i64 t453, .int .i64 t454, .int .i64 t455, .int .i64 t456, .string t457, .string t458, .bool t459] 34 (0, 0)) (by (with_reducible repeat (first | refine blk_drewN ?_ _ | refine blk_drew ?_ | refine blk_alloc ?_ _)); refine blk_far ?_ NB464_492.out _; (with_reducible repeat (first | refine blk_drewN ?_ _ | refine blk_drew ?_ | refine blk_alloc ?_ _)); refine blk_far ?_ NB464_492.out _; (with_reducible repeat (first | refine blk_drewN ?_ _ | refine blk_drew ?_ | refine blk_alloc ?_ _)); refine blk_far ?_ NB464_492.out _; (with_reducible repeat (first | refine blk_drewN ?_ _ | refine blk_drew ?_ | refine blk_alloc ?_ _)); refine blk_far ?_ NB464_492.out _; (with_reducible repeat (first | refine blk_drewN ?_ _ | refine blk_drew ?_ | refine blk_alloc ?_ _)); refine blk_far ?_ NB464_492.out _; (with_reducible repeat (first | refine blk_drewN ?_ _ | refine blk_drew ?_ | refine blk_alloc ?_ _)); refine blk_far ?_ NB464_492.out _; (with_reducible repeat (first | refine blk_drewN ?_ _ | refine blk_drew ?_ | refine blk_alloc ?_ _)); refine blk_far ?_ NB464_492.out _; (with_reducible repeat (first | refine blk_drewN ?_ _ | refine blk_drew ?_ | refine blk_alloc ?_ _)); refine blk_far ?_ NB464_492.out _; (with_reducible repeat (first | refine blk_drewN ?_ _ | refine blk_drew ?_ | refine blk_alloc ?_ _)); refine blk_far ?_ NB464_492.out _; (with_reducible repeat (first | refine blk_drewN ?_ _ | refine blk_drew ?_ | refine blk_alloc ?_ _)); refine blk_far ?_ NB464_492.out _; (with_reducible repeat (first | refine blk_drewN ?_ _ | refine blk_drew ?_ | refine blk_alloc ?_ _)); refine blk_far ?_ NB464_492.out _; (with_reducible repeat (first | refine blk_drewN ?_ _ | refine blk_drew ?_ | refine blk_alloc ?_ _)); exact BK464.out) hb); have n6_ := Aside0.mk (blk_below (g := gb492) (o := .cells #[.string t477, .int .i64 t478, .int .i64 t479, .int .i64 t480, .int .i64 t481, .int .i64 t482, .int .i64 t483, .int .i64 t484, .string t485, .string t486, .bool t487] 34 (0, 0)) (by (with_reducible repeat (first | refine blk_drewN ?_ _ | refine blk_drew ?_ | refine blk_alloc ?_ _)); refine blk_put (cs := #[.string t477, .int .i64 t478, .int .i64 t479, .int .i64 t480, .int .i64 t481, .int .i64 t482, .int .i64 t483, .int .i64 t484, .string t485, .string t486, .bool false]) ?_ 10 _ rfl; (with_reducible repeat (first | refine blk_drewN ?_ _ | refine blk_drew ?_ | refine blk_alloc ?_ _)); refine blk_put (cs := #[.string t477, .int .i64 t478, .int .i64 t479, .int .i64 t480, .int .i64 t481, .int .i64 t482, .int .i64 t483, .int .i64 t484, .string t485, .string (⟨#[]⟩ : ByteArray), .bool false]) ?_ 9 _ rfl; (with_reducible repeat (first | refine blk_drewN ?_ _ | refine blk_drew ?_ | refine blk_alloc ?_ _)); refine blk_put (cs := #[.string t477, .int .i64 t478, .int .i64 t479, .int .i64 t480, .int .i64 t481, .int .i64 t482, .int .i64 t483, .int .i64 t484, .string (⟨#[]⟩ : ByteArray), .string (⟨#[]⟩ : ByteArray), .bool false]) ?_ 8 _ rfl; (with_reducible repeat (first | refine blk_drewN ?_ _ | refine blk_drew ?_ | refine blk_alloc ?_ _)); refine blk_put (cs := #[.string t477, .int .i64 t478, .int .i64 t479, .int .i64 t480, .int .i64 t481, .int .i64 t482, .int .i64 t483, .int .i64 0, .string (⟨#[]⟩ : ByteArray), .string (⟨#[]⟩ : ByteArray), .bool false]) ?_ 7 _ rfl; (with_reducible repeat (first | refine blk_drewN ?_ _ | refine blk_drew ?_ | refine blk_alloc ?_ _)); refine blk_put (cs := #[.string t477, .int .i64 t478, .int .i64 t479, .int .i64 t480, .int .i64 t481, .int .i64 t482, .int .i64 0, .int .i64 0, .string (⟨#[]⟩ : ByteArray), .string (⟨#[]⟩ : ByteArray), .bool false]) ?_ 6 _ rfl; (with_reducible repeat (first | refine blk_drewN ?_ _ | refine blk_drew ?_ | refine blk_alloc ?_ _)); refine blk_put (cs := #[.string t477, .int .i64 t478, .int .i64 t479, .int .i64 t480, .int .i64 t481, .int .i64 0, .int .i64 0, .int .i64 0, .string (⟨#[]⟩ : ByteArray), .string (⟨#[]⟩ : ByteArray), .bool false]) ?_ 5 _ rfl; (with_reducible repeat (first | refine blk_drewN ?_ _ | refine blk_drew ?_ | refine blk_alloc ?_ _)); refine blk_put (cs := #[.string t477, .int .i64 t478, .int .i64 t479, .int .i64 t480, .int .i64 0, .int .i64 0, .int .i64 0, .int .i64 0, .string (⟨#[]⟩ : ByteArray), .string (⟨#[]⟩ : ByteArray), .bool false]) ?_ 4 _ rfl; (with_reducible repeat (first | refine blk_drewN ?_ _ | refine blk_drew ?_ | refine blk_alloc ?_ _)); refine blk_put (cs := #[.string t477, .int .i64 t478, .int .i64 t479, .int .i64 0, .int .i64 0, .int .i64 0, .int .i64 0, .int .i64 0, .string (⟨#[]⟩ : ByteArray), .string (⟨#[]⟩ : ByteArray), .bool false]) ?_ 3 _ rfl; (with_reducible repeat (first | refine blk_drewN ?_ _ | refine blk_drew ?_ | refine blk_alloc ?_ _)); refine blk_put (cs := #[.string t477, .int .i64 t478, .int .i64 0, .int .i64 0, .int .i64 0, .int .i64 0, .int .i64 0, .int .i64 0, .string (⟨#[]⟩ : ByteArray), .string (⟨#[]⟩ : ByteArray), .bool false]) ?_ 2 _ rfl; (with_reducible repeat (first | refine blk_drewN ?_ _ | refine blk_drew ?_ | refine blk_alloc ?_ _)); refine blk_put (cs := #[.string t477, .int .i64 0, .int .i64 0, .int .i64 0, .int .i64 0, .int .i64 0, .int .i64 0, .int .i64 0, .string (⟨#[]⟩ : ByteArray), .string (⟨#[]⟩ : ByteArray), .bool false]) ?_ 1 _ rfl; (with_reducible repeat (first | refine blk_drewN ?_ _ | refine blk_drew ?_ | refine blk_alloc ?_ _)); refine blk_put (cs := #[.string (⟨#[]⟩ : ByteArray), .int .i64 0, .int .i64 0, .int .i64 0, .int .i64 0, .int .i64 0, .int .i64 0, .int .i64 0, .string (⟨#[]⟩ : ByteArray), .string (⟨#[]⟩ : ByteArray), .bool false]) ?_ 0 _ rfl; (with_reducible repeat (first | refine blk_drewN ?_ _ | refine blk_drew ?_ | refine blk_alloc ?_ _)); exact BK492.out) hb); have n7_ := Aside0.mk (below_step (by repeat (first | (with_reducible first | exact HB.out | apply below_alloc | apply pw_below_drewN | apply below_drew1 | refine below_set ?_ GE417.out | refine below_set ?_ GE441.out | refine below_set ?_ GE464.out | refine below_set ?_ GE492.out) | exact HB.out)) hb); clear HO_13; clear HO_16; clear HO490; clear BK417; clear BK441; clear BK464; clear BK492; clear HB; have HO_13 := n0_; have HO_16 := n1_; have HO490 := n2_; have BK417 := n3_; have BK441 := n4_; have BK464 := n5_; have BK492 := n6_; have HB := n7_; clear n0_ n1_ n2_ n3_ n4_ n5_ n6_ n7_; (try clear hb); (try clear hb2); (try clear hk); (try clear hi); obtain ⟨Ao98, co98, eo98⟩ := Kd.R_slice HO490.out; subst eo98; obtain ⟨Ao99, co99, eo99⟩ := Kd.R_slice HO_13.out; subst eo99) | (go_at_call 38; (with_reducible refine (laws_eqSegmentS.calls kj16 _ _ t488 _ _ t437 true _ ?side1 ?side2 ?side3 ?side4 A88.out).mono ?_); (case side1 => repeat (first | exact (Kd.R_reads' HO490.out).2.2 | (with_reducible refine Kd.C_alloc ?_ _) | (with_reducible refine Kd.C_drewN ?_ _) | (with_reducible refine Kd.C_drew ?_))); (case side2 => exact (Kd.R_reads' HO490.out).2.1); (case side3 => repeat (first | exact (Kd.R_reads' HO_13.out).2.2 | (with_reducible refine Kd.C_alloc ?_ _) | (with_reducible refine Kd.C_drewN ?_ _) | (with_reducible refine Kd.C_drew ?_))); (case side4 => exact (Kd.R_reads' HO_13.out).2.1); rintro e w100 ⟨rfl, hb⟩; have n0_ := Aside0.mk (Kd.R_below (by (with_reducible repeat (first | apply Kd.R_alloc | apply Kd.R_drewN | apply Kd.R_drew)); exact HO_13.out) hb); have n1_ := Aside0.mk (Kd.R_below (by (with_reducible repeat (first | apply Kd.R_alloc | apply Kd.R_drewN | apply Kd.R_drew)); exact HO_16.out) hb); have n2_ := Aside0.mk (Kd.R_below (by (with_reducible repeat (first | apply Kd.R_alloc | apply Kd.R_drewN | apply Kd.R_drew)); exact HO490.out) hb); have n3_ := Aside0.mk (blk_below (g := gb417) (o := .cells #[.int .i64 a3_0, .int .i64 a3_1, .int .i64 a3_2, .int .i64 a3_3, .int .i64 a3_4, .int .i64 a3_5, .string a3_6] 48 (0, 0)) (by (with_reducible repeat (first | refine blk_drewN ?_ _ | refine blk_drew ?_ | refine blk_alloc ?_ _)); exact BK417.out) hb); have n4_ := Aside0.mk (blk_below (g := gb441) (o := .cells #[.string t426, .int .i64 t427, .int .i64 t428, .int .i64 t429, .int .i64 t430, .int .i64 t431, .int .i64 t432, .int .i64 t433, .string t434, .string t435, .bool t436] 34 (0, 0)) (by (with_reducible repeat (first | refine blk_drewN ?_ _ | refine blk_drew ?_ | refine blk_alloc ?_ _)); exact BK441.out) hb); have n5_ := Aside0.mk (blk_below (g := gb464) (o := .cells #[.string t449, .int .i64 t450, .int .i64 t451, .int .i64 t452, .int .i64 t453, .int .i64 t454, .int .i64 t455, .int .i64 t456, .string t457, .string t458, .bool t459] 34 (0, 0)) (by (with_reducible repeat (first | refine blk_drewN ?_ _ | refine blk_drew ?_ | refine blk_alloc ?_ _)); exact BK464.out) hb); have n6_ := Aside0.mk (blk_below (g := gb492) (o := .cells #[.string t477, .int .i64 t478, .int .i64 t479, .int .i64 t480, .int .i64 t481, .int .i64 t482, .int .i64 t483, .int .i64 t484, .string t485, .string t486, .bool t487] 34 (0, 0)) (by (with_reducible repeat (first | refine blk_drewN ?_ _ | refine blk_drew ?_ | refine blk_alloc ?_ _)); exact BK492.out) hb); have n7_ := Aside0.mk (below_step (by repeat (first | (with_reducible first | exact HB.out | apply below_alloc | apply pw_below_drewN | apply below_drew1 | refine below_set ?_ GE417.out | refine below_set ?_ GE441.out | refine below_set ?_ GE464.out | refine below_set ?_ GE492.out) | exact HB.out)) hb); clear HO_13; clear HO_16; clear HO490; clear BK417; clear BK441; clear BK464; clear BK492; clear HB; have HO_13 := n0_; have HO_16 := n1_; have HO490 := n2_; have BK417 := n3_; have BK441 := n4_; have BK464 := n5_; have BK492 := n6_; have HB := n7_; clear n0_ n1_ n2_ n3_ n4_ n5_ n6_ n7_; (try clear hb); (try clear hb2); (try clear hk); (try clear hi)))
                      go_meet
                      case rel => exact ⟨_, ((t491 != t440)), (by first | rfl | (simp; done) | (simp [*]; done) | (simp [ne_nil_b]; done) | (simp [ne_nil_b, *]; done)), H', ⟨by have := HJ16.out; first | omega | exact Nat.le_refl _⟩, ⟨by (with_reducible repeat (first | apply Kd.R_alloc | apply Kd.R_drewN | apply Kd.R_drew)); exact Kd.R_mono HO_16.out (fun _ hk => trivial)⟩, ⟨by (with_reducible repeat (first | refine blk_drewN ?_ _ | refine blk_drew ?_ | refine blk_alloc ?_ _)); exact BK417.out⟩, ⟨by (with_reducible repeat (first | refine blk_drewN ?_ _ | refine blk_drew ?_ | refine blk_alloc ?_ _)); exact BK441.out⟩, ⟨by (with_reducible repeat (first | refine blk_drewN ?_ _ | refine blk_drew ?_ | refine blk_alloc ?_ _)); exact BK464.out⟩, ⟨by (with_reducible repeat (first | refine blk_drewN ?_ _ | refine blk_drew ?_ | refine blk_alloc ?_ _)); exact BK492.out⟩, ⟨by repeat (first | (with_reducible first | exact HB.out | apply below_alloc | apply pw_below_drewN | apply below_drew1 | refine below_set ?_ GE417.out | refine below_set ?_ GE441.out | refine below_set ?_ GE464.out | refine below_set ?_ GE492.out) | exact HB.out)⟩⟩
                    · replace c89 := Bool.eq_false_iff.mpr c89
                      subst c89
                      have H1 : (laws_FnExactConnOpen.j1 kj16 t468 t467 true) = some r := by rw [if_neg (show ¬ (false = true) by decide)] at H; exact H
                      clear H
                      have H := H1
                      clear H1
                      have H' := Aside0.mk H
                      clear H
                      have hnb101 := NB492_417.out
                      have hnc101 := NB417_492.out
                      have hnb102 := NB492_441.out
                      have hnc102 := NB441_492.out
                      have hnb103 := NB492_464.out
                      have hnc103 := NB464_492.out
                      have hcz104_0 : w81.cell? ⟨gb492, 0, none⟩ = some (.string (⟨#[]⟩ : ByteArray)) := (blk_cell BK492.out 0).trans rfl
                      have hcz104_1 : w81.cell? ⟨gb492, 1, none⟩ = some (.int .i64 0) := (blk_cell BK492.out 1).trans rfl
                      have hcz104_2 : w81.cell? ⟨gb492, 2, none⟩ = some (.int .i64 0) := (blk_cell BK492.out 2).trans rfl
                      have hcz104_3 : w81.cell? ⟨gb492, 3, none⟩ = some (.int .i64 0) := (blk_cell BK492.out 3).trans rfl
                      have hcz104_4 : w81.cell? ⟨gb492, 4, none⟩ = some (.int .i64 0) := (blk_cell BK492.out 4).trans rfl
                      have hcz104_5 : w81.cell? ⟨gb492, 5, none⟩ = some (.int .i64 0) := (blk_cell BK492.out 5).trans rfl
                      have hcz104_6 : w81.cell? ⟨gb492, 6, none⟩ = some (.int .i64 0) := (blk_cell BK492.out 6).trans rfl
                      have hcz104_7 : w81.cell? ⟨gb492, 7, none⟩ = some (.int .i64 0) := (blk_cell BK492.out 7).trans rfl
                      have hcz104_8 : w81.cell? ⟨gb492, 8, none⟩ = some (.string (⟨#[]⟩ : ByteArray)) := (blk_cell BK492.out 8).trans rfl
                      have hcz104_9 : w81.cell? ⟨gb492, 9, none⟩ = some (.string (⟨#[]⟩ : ByteArray)) := (blk_cell BK492.out 9).trans rfl
                      have hcz104_10 : w81.cell? ⟨gb492, 10, none⟩ = some (.bool false) := (blk_cell BK492.out 10).trans rfl
                      have hfz104_0 := blk_frozen BK492.out 0
                      have hfz104_1 := blk_frozen BK492.out 1
                      have hfz104_2 := blk_frozen BK492.out 2
                      have hfz104_3 := blk_frozen BK492.out 3
                      have hfz104_4 := blk_frozen BK492.out 4
                      have hfz104_5 := blk_frozen BK492.out 5
                      have hfz104_6 := blk_frozen BK492.out 6
                      have hfz104_7 := blk_frozen BK492.out 7
                      have hfz104_8 := blk_frozen BK492.out 8
                      have hfz104_9 := blk_frozen BK492.out 9
                      have hfz104_10 := blk_frozen BK492.out 10
                      have hnb105 := NB441_417.out
                      have hnc105 := NB417_441.out
                      have hnb106 := NB441_464.out
                      have hnc106 := NB464_441.out
                      have hcz107_0 : w81.cell? ⟨gb441, 0, none⟩ = some (.string t426) := (blk_cell BK441.out 0).trans rfl
                      have hcz107_1 : w81.cell? ⟨gb441, 1, none⟩ = some (.int .i64 t427) := (blk_cell BK441.out 1).trans rfl
                      have hcz107_2 : w81.cell? ⟨gb441, 2, none⟩ = some (.int .i64 t428) := (blk_cell BK441.out 2).trans rfl
                      have hcz107_3 : w81.cell? ⟨gb441, 3, none⟩ = some (.int .i64 t429) := (blk_cell BK441.out 3).trans rfl
                      have hcz107_4 : w81.cell? ⟨gb441, 4, none⟩ = some (.int .i64 t430) := (blk_cell BK441.out 4).trans rfl
                      have hcz107_5 : w81.cell? ⟨gb441, 5, none⟩ = some (.int .i64 t431) := (blk_cell BK441.out 5).trans rfl
                      have hcz107_6 : w81.cell? ⟨gb441, 6, none⟩ = some (.int .i64 t432) := (blk_cell BK441.out 6).trans rfl
                      have hcz107_7 : w81.cell? ⟨gb441, 7, none⟩ = some (.int .i64 t433) := (blk_cell BK441.out 7).trans rfl
                      have hcz107_8 : w81.cell? ⟨gb441, 8, none⟩ = some (.string t434) := (blk_cell BK441.out 8).trans rfl
                      have hcz107_9 : w81.cell? ⟨gb441, 9, none⟩ = some (.string t435) := (blk_cell BK441.out 9).trans rfl
                      have hcz107_10 : w81.cell? ⟨gb441, 10, none⟩ = some (.bool t436) := (blk_cell BK441.out 10).trans rfl
                      have hfz107_0 := blk_frozen BK441.out 0
                      have hfz107_1 := blk_frozen BK441.out 1
                      have hfz107_2 := blk_frozen BK441.out 2
                      have hfz107_3 := blk_frozen BK441.out 3
                      have hfz107_4 := blk_frozen BK441.out 4
                      have hfz107_5 := blk_frozen BK441.out 5
                      have hfz107_6 := blk_frozen BK441.out 6
                      have hfz107_7 := blk_frozen BK441.out 7
                      have hfz107_8 := blk_frozen BK441.out 8
                      have hfz107_9 := blk_frozen BK441.out 9
                      have hfz107_10 := blk_frozen BK441.out 10
                      go_wp2_with (first | ((with_reducible refine gate_callee (f := 37) rfl ?_); refine goesL_ (some 92) rfl rfl Try.func37 (by kernel_rfl) rfl #[.agg #[.string t477, .int .i64 t478, .int .i64 t479, .int .i64 t480, .int .i64 t481, .int .i64 t482, .int .i64 t483, .int .i64 t484, .string t485, .string t486, .bool t487], .agg #[.string t426, .int .i64 t427, .int .i64 t428, .int .i64 t429, .int .i64 t430, .int .i64 t431, .int .i64 t432, .int .i64 t433, .string t434, .string t435, .bool t436]] rfl (by (try simp only [List.map_toArray, List.map_cons, List.map_nil]); first | done | rfl | (simp only [List.length_drop, List.length_take]; rfl)) ?_; (with_reducible refine (laws_eqConn.calls t477 t478 t479 t480 t481 t482 t483 t484 t485 t486 t487 t426 t427 t428 t429 t430 t431 t432 t433 t434 t435 t436 true _ A86.out).mono ?_); rintro e w108 ⟨rfl, hb⟩; refine ⟨_, rfl, ?_⟩; have n0_ := Aside0.mk (Kd.R_below (by (with_reducible repeat (first | apply Kd.R_alloc | apply Kd.R_drewN | apply Kd.R_drew)); exact (Kd.R_mono (Kd.R_far (p := ⟨gb492, 10, none⟩) (Kd.R_far (p := ⟨gb492, 9, none⟩) (Kd.R_far (p := ⟨gb492, 8, none⟩) (Kd.R_far (p := ⟨gb492, 7, none⟩) (Kd.R_far (p := ⟨gb492, 6, none⟩) (Kd.R_far (p := ⟨gb492, 5, none⟩) (Kd.R_far (p := ⟨gb492, 4, none⟩) (Kd.R_far (p := ⟨gb492, 3, none⟩) (Kd.R_far (p := ⟨gb492, 2, none⟩) (Kd.R_far (p := ⟨gb492, 1, none⟩) (Kd.R_far (p := ⟨gb492, 0, none⟩) (Kd.R_types HO_13.out BK492.out (by decide)) (fun _ hk => hk.2) (.string t477)) (fun _ hk => hk.2) (.int .i64 t478)) (fun _ hk => hk.2) (.int .i64 t479)) (fun _ hk => hk.2) (.int .i64 t480)) (fun _ hk => hk.2) (.int .i64 t481)) (fun _ hk => hk.2) (.int .i64 t482)) (fun _ hk => hk.2) (.int .i64 t483)) (fun _ hk => hk.2) (.int .i64 t484)) (fun _ hk => hk.2) (.string t485)) (fun _ hk => hk.2) (.string t486)) (fun _ hk => hk.2) (.bool t487)) (fun _ h_ => h_.1))) hb); have n1_ := Aside0.mk (Kd.R_below (by (with_reducible repeat (first | apply Kd.R_alloc | apply Kd.R_drewN | apply Kd.R_drew)); exact (Kd.R_mono (Kd.R_far (p := ⟨gb492, 10, none⟩) (Kd.R_far (p := ⟨gb492, 9, none⟩) (Kd.R_far (p := ⟨gb492, 8, none⟩) (Kd.R_far (p := ⟨gb492, 7, none⟩) (Kd.R_far (p := ⟨gb492, 6, none⟩) (Kd.R_far (p := ⟨gb492, 5, none⟩) (Kd.R_far (p := ⟨gb492, 4, none⟩) (Kd.R_far (p := ⟨gb492, 3, none⟩) (Kd.R_far (p := ⟨gb492, 2, none⟩) (Kd.R_far (p := ⟨gb492, 1, none⟩) (Kd.R_far (p := ⟨gb492, 0, none⟩) (Kd.R_types HO_16.out BK492.out (by decide)) (fun _ hk => hk.2) (.string t477)) (fun _ hk => hk.2) (.int .i64 t478)) (fun _ hk => hk.2) (.int .i64 t479)) (fun _ hk => hk.2) (.int .i64 t480)) (fun _ hk => hk.2) (.int .i64 t481)) (fun _ hk => hk.2) (.int .i64 t482)) (fun _ hk => hk.2) (.int .i64 t483)) (fun _ hk => hk.2) (.int .i64 t484)) (fun _ hk => hk.2) (.string t485)) (fun _ hk => hk.2) (.string t486)) (fun _ hk => hk.2) (.bool t487)) (fun _ h_ => h_.1))) hb); have n2_ := Aside0.mk (Kd.R_below (by (with_reducible repeat (first | apply Kd.R_alloc | apply Kd.R_drewN | apply Kd.R_drew)); exact (Kd.R_mono (Kd.R_far (p := ⟨gb492, 10, none⟩) (Kd.R_far (p := ⟨gb492, 9, none⟩) (Kd.R_far (p := ⟨gb492, 8, none⟩) (Kd.R_far (p := ⟨gb492, 7, none⟩) (Kd.R_far (p := ⟨gb492, 6, none⟩) (Kd.R_far (p := ⟨gb492, 5, none⟩) (Kd.R_far (p := ⟨gb492, 4, none⟩) (Kd.R_far (p := ⟨gb492, 3, none⟩) (Kd.R_far (p := ⟨gb492, 2, none⟩) (Kd.R_far (p := ⟨gb492, 1, none⟩) (Kd.R_far (p := ⟨gb492, 0, none⟩) (Kd.R_types HO490.out BK492.out (by decide)) (fun _ hk => hk.2) (.string t477)) (fun _ hk => hk.2) (.int .i64 t478)) (fun _ hk => hk.2) (.int .i64 t479)) (fun _ hk => hk.2) (.int .i64 t480)) (fun _ hk => hk.2) (.int .i64 t481)) (fun _ hk => hk.2) (.int .i64 t482)) (fun _ hk => hk.2) (.int .i64 t483)) (fun _ hk => hk.2) (.int .i64 t484)) (fun _ hk => hk.2) (.string t485)) (fun _ hk => hk.2) (.string t486)) (fun _ hk => hk.2) (.bool t487)) (fun _ h_ => h_.1))) hb); have n3_ := Aside0.mk (blk_below (g := gb417) (o := .cells #[.int .i64 a3_0, .int .i64 a3_1, .int .i64 a3_2, .int .i64 a3_3, .int .i64 a3_4, .int .i64 a3_5, .string a3_6] 48 (0, 0)) (by (with_reducible repeat (first | refine blk_drewN ?_ _ | refine blk_drew ?_ | refine blk_alloc ?_ _)); refine blk_far ?_ NB417_492.out _; (with_reducible repeat (first | refine blk_drewN ?_ _ | refine blk_drew ?_ | refine blk_alloc ?_ _)); refine blk_far ?_ NB417_492.out _; (with_reducible repeat (first | refine blk_drewN ?_ _ | refine blk_drew ?_ | refine blk_alloc ?_ _)); refine blk_far ?_ NB417_492.out _; (with_reducible repeat (first | refine blk_drewN ?_ _ | refine blk_drew ?_ | refine blk_alloc ?_ _)); refine blk_far ?_ NB417_492.out _; (with_reducible repeat (first | refine blk_drewN ?_ _ | refine blk_drew ?_ | refine blk_alloc ?_ _)); refine blk_far ?_ NB417_492.out _; (with_reducible repeat (first | refine blk_drewN ?_ _ | refine blk_drew ?_ | refine blk_alloc ?_ _)); refine blk_far ?_ NB417_492.out _; (with_reducible repeat (first | refine blk_drewN ?_ _ | refine blk_drew ?_ | refine blk_alloc ?_ _)); refine blk_far ?_ NB417_492.out _; (with_reducible repeat (first | refine blk_drewN ?_ _ | refine blk_drew ?_ | refine blk_alloc ?_ _)); refine blk_far ?_ NB417_492.out _; (with_reducible repeat (first | refine blk_drewN ?_ _ | refine blk_drew ?_ | refine blk_alloc ?_ _)); refine blk_far ?_ NB417_492.out _; (with_reducible repeat (first | refine blk_drewN ?_ _ | refine blk_drew ?_ | refine blk_alloc ?_ _)); refine blk_far ?_ NB417_492.out _; (with_reducible repeat (first | refine blk_drewN ?_ _ | refine blk_drew ?_ | refine blk_alloc ?_ _)); refine blk_far ?_ NB417_492.out _; (with_reducible repeat (first | refine blk_drewN ?_ _ | refine blk_drew ?_ | refine blk_alloc ?_ _)); exact BK417.out) hb); have n4_ := Aside0.mk (blk_below (g := gb441) (o := .cells #[.string t426, .int .i64 t427, .int .i64 t428, .int .i64 t429, .int .i64 t430, .int .i64 t431, .int .i64 t432, .int .i64 t433, .string t434, .string t435, .bool t436] 34 (0, 0)) (by (with_reducible repeat (first | refine blk_drewN ?_ _ | refine blk_drew ?_ | refine blk_alloc ?_ _)); refine blk_far ?_ NB441_492.out _; (with_reducible repeat (first | refine blk_drewN ?_ _ | refine blk_drew ?_ | refine blk_alloc ?_ _)); refine blk_far ?_ NB441_492.out _; (with_reducible repeat (first | refine blk_drewN ?_ _ | refine blk_drew ?_ | refine blk_alloc ?_ _)); refine blk_far ?_ NB441_492.out _; (with_reducible repeat (first | refine blk_drewN ?_ _ | refine blk_drew ?_ | refine blk_alloc ?_ _)); refine blk_far ?_ NB441_492.out _; (with_reducible repeat (first | refine blk_drewN ?_ _ | refine blk_drew ?_ | refine blk_alloc ?_ _)); refine blk_far ?_ NB441_492.out _; (with_reducible repeat (first | refine blk_drewN ?_ _ | refine blk_drew ?_ | refine blk_alloc ?_ _)); refine blk_far ?_ NB441_492.out _; (with_reducible repeat (first | refine blk_drewN ?_ _ | refine blk_drew ?_ | refine blk_alloc ?_ _)); refine blk_far ?_ NB441_492.out _; (with_reducible repeat (first | refine blk_drewN ?_ _ | refine blk_drew ?_ | refine blk_alloc ?_ _)); refine blk_far ?_ NB441_492.out _; (with_reducible repeat (first | refine blk_drewN ?_ _ | refine blk_drew ?_ | refine blk_alloc ?_ _)); refine blk_far ?_ NB441_492.out _; (with_reducible repeat (first | refine blk_drewN ?_ _ | refine blk_drew ?_ | refine blk_alloc ?_ _)); refine blk_far ?_ NB441_492.out _; (with_reducible repeat (first | refine blk_drewN ?_ _ | refine blk_drew ?_ | refine blk_alloc ?_ _)); refine blk_far ?_ NB441_492.out _; (with_reducible repeat (first | refine blk_drewN ?_ _ | refine blk_drew ?_ | refine blk_alloc ?_ _)); exact BK441.out) hb); have n5_ := Aside0.mk (blk_below (g := gb464) (o := .cells #[.string t449, .int .i64 t450, .int .i64 t451, .int .i64 t452, .int .i64 t453, .int .i64 t454, .int .i64 t455, .int .i64 t456, .string t457, .string t458, .bool t459] 34 (0, 0)) (by (with_reducible repeat (first | refine blk_drewN ?_ _ | refine blk_drew ?_ | refine blk_alloc ?_ _)); refine blk_far ?_ NB464_492.out _; (with_reducible repeat (first | refine blk_drewN ?_ _ | refine blk_drew ?_ | refine blk_alloc ?_ _)); refine blk_far ?_ NB464_492.out _; (with_reducible repeat (first | refine blk_drewN ?_ _ | refine blk_drew ?_ | refine blk_alloc ?_ _)); refine blk_far ?_ NB464_492.out _; (with_reducible repeat (first | refine blk_drewN ?_ _ | refine blk_drew ?_ | refine blk_alloc ?_ _)); refine blk_far ?_ NB464_492.out _; (with_reducible repeat (first | refine blk_drewN ?_ _ | refine blk_drew ?_ | refine blk_alloc ?_ _)); refine blk_far ?_ NB464_492.out _; (with_reducible repeat (first | refine blk_drewN ?_ _ | refine blk_drew ?_ | refine blk_alloc ?_ _)); refine blk_far ?_ NB464_492.out _; (with_reducible repeat (first | refine blk_drewN ?_ _ | refine blk_drew ?_ | refine blk_alloc ?_ _)); refine blk_far ?_ NB464_492.out _; (with_reducible repeat (first | refine blk_drewN ?_ _ | refine blk_drew ?_ | refine blk_alloc ?_ _)); refine blk_far ?_ NB464_492.out _; (with_reducible repeat (first | refine blk_drewN ?_ _ | refine blk_drew ?_ | refine blk_alloc ?_ _)); refine blk_far ?_ NB464_492.out _; (with_reducible repeat (first | refine blk_drewN ?_ _ | refine blk_drew ?_ | refine blk_alloc ?_ _)); refine blk_far ?_ NB464_492.out _; (with_reducible repeat (first | refine blk_drewN ?_ _ | refine blk_drew ?_ | refine blk_alloc ?_ _)); refine blk_far ?_ NB464_492.out _; (with_reducible repeat (first | refine blk_drewN ?_ _ | refine blk_drew ?_ | refine blk_alloc ?_ _)); exact BK464.out) hb); have n6_ := Aside0.mk (blk_below (g := gb492) (o := .cells #[.string t477, .int .i64 t478, .int .i64 t479, .int .i64 t480, .int .i64 t481, .int .i64 t482, .int .i64 t483, .int .i64 t484, .string t485, .string t486, .bool t487] 34 (0, 0)) (by (with_reducible repeat (first | refine blk_drewN ?_ _ | refine blk_drew ?_ | refine blk_alloc ?_ _)); refine blk_put (cs := #[.string t477, .int .i64 t478, .int .i64 t479, .int .i64 t480, .int .i64 t481, .int .i64 t482, .int .i64 t483, .int .i64 t484, .string t485, .string t486, .bool false]) ?_ 10 _ rfl; (with_reducible repeat (first | refine blk_drewN ?_ _ | refine blk_drew ?_ | refine blk_alloc ?_ _)); refine blk_put (cs := #[.string t477, .int .i64 t478, .int .i64 t479, .int .i64 t480, .int .i64 t481, .int .i64 t482, .int .i64 t483, .int .i64 t484, .string t485, .string (⟨#[]⟩ : ByteArray), .bool false]) ?_ 9 _ rfl; (with_reducible repeat (first | refine blk_drewN ?_ _ | refine blk_drew ?_ | refine blk_alloc ?_ _)); refine blk_put (cs := #[.string t477, .int .i64 t478, .int .i64 t479, .int .i64 t480, .int .i64 t481, .int .i64 t482, .int .i64 t483, .int .i64 t484, .string (⟨#[]⟩ : ByteArray), .string (⟨#[]⟩ : ByteArray), .bool false]) ?_ 8 _ rfl; (with_reducible repeat (first | refine blk_drewN ?_ _ | refine blk_drew ?_ | refine blk_alloc ?_ _)); refine blk_put (cs := #[.string t477, .int .i64 t478, .int .i64 t479, .int .i64 t480, .int .i64 t481, .int .i64 t482, .int .i64 t483, .int .i64 0, .string (⟨#[]⟩ : ByteArray), .string (⟨#[]⟩ : ByteArray), .bool false]) ?_ 7 _ rfl; (with_reducible repeat (first | refine blk_drewN ?_ _ | refine blk_drew ?_ | refine blk_alloc ?_ _)); refine blk_put (cs := #[.string t477, .int .i64 t478, .int .i64 t479, .int .i64 t480, .int .i64 t481, .int .i64 t482, .int .i64 0, .int .i64 0, .string (⟨#[]⟩ : ByteArray), .string (⟨#[]⟩ : ByteArray), .bool false]) ?_ 6 _ rfl; (with_reducible repeat (first | refine blk_drewN ?_ _ | refine blk_drew ?_ | refine blk_alloc ?_ _)); refine blk_put (cs := #[.string t477, .int .i64 t478, .int .i64 t479, .int .i64 t480, .int .i64 t481, .int .i64 0, .int .i64 0, .int .i64 0, .string (⟨#[]⟩ : ByteArray), .string (⟨#[]⟩ : ByteArray), .bool false]) ?_ 5 _ rfl; (with_reducible repeat (first | refine blk_drewN ?_ _ | refine blk_drew ?_ | refine blk_alloc ?_ _)); refine blk_put (cs := #[.string t477, .int .i64 t478, .int .i64 t479, .int .i64 t480, .int .i64 0, .int .i64 0, .int .i64 0, .int .i64 0, .string (⟨#[]⟩ : ByteArray), .string (⟨#[]⟩ : ByteArray), .bool false]) ?_ 4 _ rfl; (with_reducible repeat (first | refine blk_drewN ?_ _ | refine blk_drew ?_ | refine blk_alloc ?_ _)); refine blk_put (cs := #[.string t477, .int .i64 t478, .int .i64 t479, .int .i64 0, .int .i64 0, .int .i64 0, .int .i64 0, .int .i64 0, .string (⟨#[]⟩ : ByteArray), .string (⟨#[]⟩ : ByteArray), .bool false]) ?_ 3 _ rfl; (with_reducible repeat (first | refine blk_drewN ?_ _ | refine blk_drew ?_ | refine blk_alloc ?_ _)); refine blk_put (cs := #[.string t477, .int .i64 t478, .int .i64 0, .int .i64 0, .int .i64 0, .int .i64 0, .int .i64 0, .int .i64 0, .string (⟨#[]⟩ : ByteArray), .string (⟨#[]⟩ : ByteArray), .bool false]) ?_ 2 _ rfl; (with_reducible repeat (first | refine blk_drewN ?_ _ | refine blk_drew ?_ | refine blk_alloc ?_ _)); refine blk_put (cs := #[.string t477, .int .i64 0, .int .i64 0, .int .i64 0, .int .i64 0, .int .i64 0, .int .i64 0, .int .i64 0, .string (⟨#[]⟩ : ByteArray), .string (⟨#[]⟩ : ByteArray), .bool false]) ?_ 1 _ rfl; (with_reducible repeat (first | refine blk_drewN ?_ _ | refine blk_drew ?_ | refine blk_alloc ?_ _)); refine blk_put (cs := #[.string (⟨#[]⟩ : ByteArray), .int .i64 0, .int .i64 0, .int .i64 0, .int .i64 0, .int .i64 0, .int .i64 0, .int .i64 0, .string (⟨#[]⟩ : ByteArray), .string (⟨#[]⟩ : ByteArray), .bool false]) ?_ 0 _ rfl; (with_reducible repeat (first | refine blk_drewN ?_ _ | refine blk_drew ?_ | refine blk_alloc ?_ _)); exact BK492.out) hb); have n7_ := Aside0.mk (below_step (by repeat (first | (with_reducible first | exact HB.out | apply below_alloc | apply pw_below_drewN | apply below_drew1 | refine below_set ?_ GE417.out | refine below_set ?_ GE441.out | refine below_set ?_ GE464.out | refine below_set ?_ GE492.out) | exact HB.out)) hb); clear HO_13; clear HO_16; clear HO490; clear BK417; clear BK441; clear BK464; clear BK492; clear HB; have HO_13 := n0_; have HO_16 := n1_; have HO490 := n2_; have BK417 := n3_; have BK441 := n4_; have BK464 := n5_; have BK492 := n6_; have HB := n7_; clear n0_ n1_ n2_ n3_ n4_ n5_ n6_ n7_; (try clear hb); (try clear hb2); (try clear hk); (try clear hi); obtain ⟨Ao109, co109, eo109⟩ := Kd.R_slice HO490.out; subst eo109; obtain ⟨Ao110, co110, eo110⟩ := Kd.R_slice HO_13.out; subst eo110) | (go_at_call 38; (with_reducible refine (laws_eqSegmentS.calls kj16 _ _ t488 _ _ t437 false _ ?side1 ?side2 ?side3 ?side4 A88.out).mono ?_); (case side1 => repeat (first | exact (Kd.R_reads' HO490.out).2.2 | (with_reducible refine Kd.C_alloc ?_ _) | (with_reducible refine Kd.C_drewN ?_ _) | (with_reducible refine Kd.C_drew ?_))); (case side2 => exact (Kd.R_reads' HO490.out).2.1); (case side3 => repeat (first | exact (Kd.R_reads' HO_13.out).2.2 | (with_reducible refine Kd.C_alloc ?_ _) | (with_reducible refine Kd.C_drewN ?_ _) | (with_reducible refine Kd.C_drew ?_))); (case side4 => exact (Kd.R_reads' HO_13.out).2.1); rintro e w111 ⟨rfl, hb⟩; have n0_ := Aside0.mk (Kd.R_below (by (with_reducible repeat (first | apply Kd.R_alloc | apply Kd.R_drewN | apply Kd.R_drew)); exact HO_13.out) hb); have n1_ := Aside0.mk (Kd.R_below (by (with_reducible repeat (first | apply Kd.R_alloc | apply Kd.R_drewN | apply Kd.R_drew)); exact HO_16.out) hb); have n2_ := Aside0.mk (Kd.R_below (by (with_reducible repeat (first | apply Kd.R_alloc | apply Kd.R_drewN | apply Kd.R_drew)); exact HO490.out) hb); have n3_ := Aside0.mk (blk_below (g := gb417) (o := .cells #[.int .i64 a3_0, .int .i64 a3_1, .int .i64 a3_2, .int .i64 a3_3, .int .i64 a3_4, .int .i64 a3_5, .string a3_6] 48 (0, 0)) (by (with_reducible repeat (first | refine blk_drewN ?_ _ | refine blk_drew ?_ | refine blk_alloc ?_ _)); exact BK417.out) hb); have n4_ := Aside0.mk (blk_below (g := gb441) (o := .cells #[.string t426, .int .i64 t427, .int .i64 t428, .int .i64 t429, .int .i64 t430, .int .i64 t431, .int .i64 t432, .int .i64 t433, .string t434, .string t435, .bool t436] 34 (0, 0)) (by (with_reducible repeat (first | refine blk_drewN ?_ _ | refine blk_drew ?_ | refine blk_alloc ?_ _)); exact BK441.out) hb); have n5_ := Aside0.mk (blk_below (g := gb464) (o := .cells #[.string t449, .int .i64 t450, .int .i64 t451, .int .i64 t452, .int .i64 t453, .int .i64 t454, .int .i64 t455, .int .i64 t456, .string t457, .string t458, .bool t459] 34 (0, 0)) (by (with_reducible repeat (first | refine blk_drewN ?_ _ | refine blk_drew ?_ | refine blk_alloc ?_ _)); exact BK464.out) hb); have n6_ := Aside0.mk (blk_below (g := gb492) (o := .cells #[.string t477, .int .i64 t478, .int .i64 t479, .int .i64 t480, .int .i64 t481, .int .i64 t482, .int .i64 t483, .int .i64 t484, .string t485, .string t486, .bool t487] 34 (0, 0)) (by (with_reducible repeat (first | refine blk_drewN ?_ _ | refine blk_drew ?_ | refine blk_alloc ?_ _)); exact BK492.out) hb); have n7_ := Aside0.mk (below_step (by repeat (first | (with_reducible first | exact HB.out | apply below_alloc | apply pw_below_drewN | apply below_drew1 | refine below_set ?_ GE417.out | refine below_set ?_ GE441.out | refine below_set ?_ GE464.out | refine below_set ?_ GE492.out) | exact HB.out)) hb); clear HO_13; clear HO_16; clear HO490; clear BK417; clear BK441; clear BK464; clear BK492; clear HB; have HO_13 := n0_; have HO_16 := n1_; have HO490 := n2_; have BK417 := n3_; have BK441 := n4_; have BK464 := n5_; have BK492 := n6_; have HB := n7_; clear n0_ n1_ n2_ n3_ n4_ n5_ n6_ n7_; (try clear hb); (try clear hb2); (try clear hk); (try clear hi)))
                      go_meet
                      case rel => exact ⟨_, (true), (by first | rfl | (simp; done) | (simp [*]; done) | (simp [ne_nil_b]; done) | (simp [ne_nil_b, *]; done)), H', ⟨by have := HJ16.out; first | omega | exact Nat.le_refl _⟩, ⟨by (with_reducible repeat (first | apply Kd.R_alloc | apply Kd.R_drewN | apply Kd.R_drew)); exact Kd.R_mono HO_16.out (fun _ hk => trivial)⟩, ⟨by (with_reducible repeat (first | refine blk_drewN ?_ _ | refine blk_drew ?_ | refine blk_alloc ?_ _)); exact BK417.out⟩, ⟨by (with_reducible repeat (first | refine blk_drewN ?_ _ | refine blk_drew ?_ | refine blk_alloc ?_ _)); exact BK441.out⟩, ⟨by (with_reducible repeat (first | refine blk_drewN ?_ _ | refine blk_drew ?_ | refine blk_alloc ?_ _)); exact BK464.out⟩, ⟨by (with_reducible repeat (first | refine blk_drewN ?_ _ | refine blk_drew ?_ | refine blk_alloc ?_ _)); exact BK492.out⟩, ⟨by repeat (first | (with_reducible first | exact HB.out | apply below_alloc | apply pw_below_drewN | apply below_drew1 | refine below_set ?_ GE417.out | refine below_set ?_ GE441.out | refine below_set ?_ GE464.out | refine below_set ?_ GE492.out) | exact HB.out)⟩⟩
                  · replace c87 := Bool.eq_false_iff.mpr c87
                    subst c87
                    have H1 : (laws_FnExactConnOpen.j1 kj16 t468 t467 true) = some r := by rw [if_neg (show ¬ (false = true) by decide)] at H; exact H
                    clear H
                    have H := H1
                    clear H1
                    have H' := Aside0.mk H
                    clear H
                    have hnb112 := NB492_417.out
                    have hnc112 := NB417_492.out
                    have hnb113 := NB492_441.out
                    have hnc113 := NB441_492.out
                    have hnb114 := NB492_464.out
                    have hnc114 := NB464_492.out
                    have hcz115_0 : w81.cell? ⟨gb492, 0, none⟩ = some (.string (⟨#[]⟩ : ByteArray)) := (blk_cell BK492.out 0).trans rfl
                    have hcz115_1 : w81.cell? ⟨gb492, 1, none⟩ = some (.int .i64 0) := (blk_cell BK492.out 1).trans rfl
                    have hcz115_2 : w81.cell? ⟨gb492, 2, none⟩ = some (.int .i64 0) := (blk_cell BK492.out 2).trans rfl
                    have hcz115_3 : w81.cell? ⟨gb492, 3, none⟩ = some (.int .i64 0) := (blk_cell BK492.out 3).trans rfl
                    have hcz115_4 : w81.cell? ⟨gb492, 4, none⟩ = some (.int .i64 0) := (blk_cell BK492.out 4).trans rfl
                    have hcz115_5 : w81.cell? ⟨gb492, 5, none⟩ = some (.int .i64 0) := (blk_cell BK492.out 5).trans rfl
                    have hcz115_6 : w81.cell? ⟨gb492, 6, none⟩ = some (.int .i64 0) := (blk_cell BK492.out 6).trans rfl
                    have hcz115_7 : w81.cell? ⟨gb492, 7, none⟩ = some (.int .i64 0) := (blk_cell BK492.out 7).trans rfl
                    have hcz115_8 : w81.cell? ⟨gb492, 8, none⟩ = some (.string (⟨#[]⟩ : ByteArray)) := (blk_cell BK492.out 8).trans rfl
                    have hcz115_9 : w81.cell? ⟨gb492, 9, none⟩ = some (.string (⟨#[]⟩ : ByteArray)) := (blk_cell BK492.out 9).trans rfl
                    have hcz115_10 : w81.cell? ⟨gb492, 10, none⟩ = some (.bool false) := (blk_cell BK492.out 10).trans rfl
                    have hfz115_0 := blk_frozen BK492.out 0
                    have hfz115_1 := blk_frozen BK492.out 1
                    have hfz115_2 := blk_frozen BK492.out 2
                    have hfz115_3 := blk_frozen BK492.out 3
                    have hfz115_4 := blk_frozen BK492.out 4
                    have hfz115_5 := blk_frozen BK492.out 5
                    have hfz115_6 := blk_frozen BK492.out 6
                    have hfz115_7 := blk_frozen BK492.out 7
                    have hfz115_8 := blk_frozen BK492.out 8
                    have hfz115_9 := blk_frozen BK492.out 9
                    have hfz115_10 := blk_frozen BK492.out 10
                    have hnb116 := NB441_417.out
                    have hnc116 := NB417_441.out
                    have hnb117 := NB441_464.out
                    have hnc117 := NB464_441.out
                    have hcz118_0 : w81.cell? ⟨gb441, 0, none⟩ = some (.string t426) := (blk_cell BK441.out 0).trans rfl
                    have hcz118_1 : w81.cell? ⟨gb441, 1, none⟩ = some (.int .i64 t427) := (blk_cell BK441.out 1).trans rfl
                    have hcz118_2 : w81.cell? ⟨gb441, 2, none⟩ = some (.int .i64 t428) := (blk_cell BK441.out 2).trans rfl
                    have hcz118_3 : w81.cell? ⟨gb441, 3, none⟩ = some (.int .i64 t429) := (blk_cell BK441.out 3).trans rfl
                    have hcz118_4 : w81.cell? ⟨gb441, 4, none⟩ = some (.int .i64 t430) := (blk_cell BK441.out 4).trans rfl
                    have hcz118_5 : w81.cell? ⟨gb441, 5, none⟩ = some (.int .i64 t431) := (blk_cell BK441.out 5).trans rfl
                    have hcz118_6 : w81.cell? ⟨gb441, 6, none⟩ = some (.int .i64 t432) := (blk_cell BK441.out 6).trans rfl
                    have hcz118_7 : w81.cell? ⟨gb441, 7, none⟩ = some (.int .i64 t433) := (blk_cell BK441.out 7).trans rfl
                    have hcz118_8 : w81.cell? ⟨gb441, 8, none⟩ = some (.string t434) := (blk_cell BK441.out 8).trans rfl
                    have hcz118_9 : w81.cell? ⟨gb441, 9, none⟩ = some (.string t435) := (blk_cell BK441.out 9).trans rfl
                    have hcz118_10 : w81.cell? ⟨gb441, 10, none⟩ = some (.bool t436) := (blk_cell BK441.out 10).trans rfl
                    have hfz118_0 := blk_frozen BK441.out 0
                    have hfz118_1 := blk_frozen BK441.out 1
                    have hfz118_2 := blk_frozen BK441.out 2
                    have hfz118_3 := blk_frozen BK441.out 3
                    have hfz118_4 := blk_frozen BK441.out 4
                    have hfz118_5 := blk_frozen BK441.out 5
                    have hfz118_6 := blk_frozen BK441.out 6
                    have hfz118_7 := blk_frozen BK441.out 7
                    have hfz118_8 := blk_frozen BK441.out 8
                    have hfz118_9 := blk_frozen BK441.out 9
                    have hfz118_10 := blk_frozen BK441.out 10
                    go_wp2_with (first | ((with_reducible refine gate_callee (f := 37) rfl ?_); refine goesL_ (some 92) rfl rfl Try.func37 (by kernel_rfl) rfl #[.agg #[.string t477, .int .i64 t478, .int .i64 t479, .int .i64 t480, .int .i64 t481, .int .i64 t482, .int .i64 t483, .int .i64 t484, .string t485, .string t486, .bool t487], .agg #[.string t426, .int .i64 t427, .int .i64 t428, .int .i64 t429, .int .i64 t430, .int .i64 t431, .int .i64 t432, .int .i64 t433, .string t434, .string t435, .bool t436]] rfl (by (try simp only [List.map_toArray, List.map_cons, List.map_nil]); first | done | rfl | (simp only [List.length_drop, List.length_take]; rfl)) ?_; (with_reducible refine (laws_eqConn.calls t477 t478 t479 t480 t481 t482 t483 t484 t485 t486 t487 t426 t427 t428 t429 t430 t431 t432 t433 t434 t435 t436 false _ A86.out).mono ?_); rintro e w119 ⟨rfl, hb⟩; refine ⟨_, rfl, ?_⟩; have n0_ := Aside0.mk (Kd.R_below (by (with_reducible repeat (first | apply Kd.R_alloc | apply Kd.R_drewN | apply Kd.R_drew)); exact (Kd.R_mono (Kd.R_far (p := ⟨gb492, 10, none⟩) (Kd.R_far (p := ⟨gb492, 9, none⟩) (Kd.R_far (p := ⟨gb492, 8, none⟩) (Kd.R_far (p := ⟨gb492, 7, none⟩) (Kd.R_far (p := ⟨gb492, 6, none⟩) (Kd.R_far (p := ⟨gb492, 5, none⟩) (Kd.R_far (p := ⟨gb492, 4, none⟩) (Kd.R_far (p := ⟨gb492, 3, none⟩) (Kd.R_far (p := ⟨gb492, 2, none⟩) (Kd.R_far (p := ⟨gb492, 1, none⟩) (Kd.R_far (p := ⟨gb492, 0, none⟩) (Kd.R_types HO_13.out BK492.out (by decide)) (fun _ hk => hk.2) (.string t477)) (fun _ hk => hk.2) (.int .i64 t478)) (fun _ hk => hk.2) (.int .i64 t479)) (fun _ hk => hk.2) (.int .i64 t480)) (fun _ hk => hk.2) (.int .i64 t481)) (fun _ hk => hk.2) (.int .i64 t482)) (fun _ hk => hk.2) (.int .i64 t483)) (fun _ hk => hk.2) (.int .i64 t484)) (fun _ hk => hk.2) (.string t485)) (fun _ hk => hk.2) (.string t486)) (fun _ hk => hk.2) (.bool t487)) (fun _ h_ => h_.1))) hb); have n1_ := Aside0.mk (Kd.R_below (by (with_reducible repeat (first | apply Kd.R_alloc | apply Kd.R_drewN | apply Kd.R_drew)); exact (Kd.R_mono (Kd.R_far (p := ⟨gb492, 10, none⟩) (Kd.R_far (p := ⟨gb492, 9, none⟩) (Kd.R_far (p := ⟨gb492, 8, none⟩) (Kd.R_far (p := ⟨gb492, 7, none⟩) (Kd.R_far (p := ⟨gb492, 6, none⟩) (Kd.R_far (p := ⟨gb492, 5, none⟩) (Kd.R_far (p := ⟨gb492, 4, none⟩) (Kd.R_far (p := ⟨gb492, 3, none⟩) (Kd.R_far (p := ⟨gb492, 2, none⟩) (Kd.R_far (p := ⟨gb492, 1, none⟩) (Kd.R_far (p := ⟨gb492, 0, none⟩) (Kd.R_types HO_16.out BK492.out (by decide)) (fun _ hk => hk.2) (.string t477)) (fun _ hk => hk.2) (.int .i64 t478)) (fun _ hk => hk.2) (.int .i64 t479)) (fun _ hk => hk.2) (.int .i64 t480)) (fun _ hk => hk.2) (.int .i64 t481)) (fun _ hk => hk.2) (.int .i64 t482)) (fun _ hk => hk.2) (.int .i64 t483)) (fun _ hk => hk.2) (.int .i64 t484)) (fun _ hk => hk.2) (.string t485)) (fun _ hk => hk.2) (.string t486)) (fun _ hk => hk.2) (.bool t487)) (fun _ h_ => h_.1))) hb); have n2_ := Aside0.mk (Kd.R_below (by (with_reducible repeat (first | apply Kd.R_alloc | apply Kd.R_drewN | apply Kd.R_drew)); exact (Kd.R_mono (Kd.R_far (p := ⟨gb492, 10, none⟩) (Kd.R_far (p := ⟨gb492, 9, none⟩) (Kd.R_far (p := ⟨gb492, 8, none⟩) (Kd.R_far (p := ⟨gb492, 7, none⟩) (Kd.R_far (p := ⟨gb492, 6, none⟩) (Kd.R_far (p := ⟨gb492, 5, none⟩) (Kd.R_far (p := ⟨gb492, 4, none⟩) (Kd.R_far (p := ⟨gb492, 3, none⟩) (Kd.R_far (p := ⟨gb492, 2, none⟩) (Kd.R_far (p := ⟨gb492, 1, none⟩) (Kd.R_far (p := ⟨gb492, 0, none⟩) (Kd.R_types HO490.out BK492.out (by decide)) (fun _ hk => hk.2) (.string t477)) (fun _ hk => hk.2) (.int .i64 t478)) (fun _ hk => hk.2) (.int .i64 t479)) (fun _ hk => hk.2) (.int .i64 t480)) (fun _ hk => hk.2) (.int .i64 t481)) (fun _ hk => hk.2) (.int .i64 t482)) (fun _ hk => hk.2) (.int .i64 t483)) (fun _ hk => hk.2) (.int .i64 t484)) (fun _ hk => hk.2) (.string t485)) (fun _ hk => hk.2) (.string t486)) (fun _ hk => hk.2) (.bool t487)) (fun _ h_ => h_.1))) hb); have n3_ := Aside0.mk (blk_below (g := gb417) (o := .cells #[.int .i64 a3_0, .int .i64 a3_1, .int .i64 a3_2, .int .i64 a3_3, .int .i64 a3_4, .int .i64 a3_5, .string a3_6] 48 (0, 0)) (by (with_reducible repeat (first | refine blk_drewN ?_ _ | refine blk_drew ?_ | refine blk_alloc ?_ _)); refine blk_far ?_ NB417_492.out _; (with_reducible repeat (first | refine blk_drewN ?_ _ | refine blk_drew ?_ | refine blk_alloc ?_ _)); refine blk_far ?_ NB417_492.out _; (with_reducible repeat (first | refine blk_drewN ?_ _ | refine blk_drew ?_ | refine blk_alloc ?_ _)); refine blk_far ?_ NB417_492.out _; (with_reducible repeat (first | refine blk_drewN ?_ _ | refine blk_drew ?_ | refine blk_alloc ?_ _)); refine blk_far ?_ NB417_492.out _; (with_reducible repeat (first | refine blk_drewN ?_ _ | refine blk_drew ?_ | refine blk_alloc ?_ _)); refine blk_far ?_ NB417_492.out _; (with_reducible repeat (first | refine blk_drewN ?_ _ | refine blk_drew ?_ | refine blk_alloc ?_ _)); refine blk_far ?_ NB417_492.out _; (with_reducible repeat (first | refine blk_drewN ?_ _ | refine blk_drew ?_ | refine blk_alloc ?_ _)); refine blk_far ?_ NB417_492.out _; (with_reducible repeat (first | refine blk_drewN ?_ _ | refine blk_drew ?_ | refine blk_alloc ?_ _)); refine blk_far ?_ NB417_492.out _; (with_reducible repeat (first | refine blk_drewN ?_ _ | refine blk_drew ?_ | refine blk_alloc ?_ _)); refine blk_far ?_ NB417_492.out _; (with_reducible repeat (first | refine blk_drewN ?_ _ | refine blk_drew ?_ | refine blk_alloc ?_ _)); refine blk_far ?_ NB417_492.out _; (with_reducible repeat (first | refine blk_drewN ?_ _ | refine blk_drew ?_ | refine blk_alloc ?_ _)); refine blk_far ?_ NB417_492.out _; (with_reducible repeat (first | refine blk_drewN ?_ _ | refine blk_drew ?_ | refine blk_alloc ?_ _)); exact BK417.out) hb); have n4_ := Aside0.mk (blk_below (g := gb441) (o := .cells #[.string t426, .int .i64 t427, .int .i64 t428, .int .i64 t429, .int .i64 t430, .int .i64 t431, .int .i64 t432, .int .i64 t433, .string t434, .string t435, .bool t436] 34 (0, 0)) (by (with_reducible repeat (first | refine blk_drewN ?_ _ | refine blk_drew ?_ | refine blk_alloc ?_ _)); refine blk_far ?_ NB441_492.out _; (with_reducible repeat (first | refine blk_drewN ?_ _ | refine blk_drew ?_ | refine blk_alloc ?_ _)); refine blk_far ?_ NB441_492.out _; (with_reducible repeat (first | refine blk_drewN ?_ _ | refine blk_drew ?_ | refine blk_alloc ?_ _)); refine blk_far ?_ NB441_492.out _; (with_reducible repeat (first | refine blk_drewN ?_ _ | refine blk_drew ?_ | refine blk_alloc ?_ _)); refine blk_far ?_ NB441_492.out _; (with_reducible repeat (first | refine blk_drewN ?_ _ | refine blk_drew ?_ | refine blk_alloc ?_ _)); refine blk_far ?_ NB441_492.out _; (with_reducible repeat (first | refine blk_drewN ?_ _ | refine blk_drew ?_ | refine blk_alloc ?_ _)); refine blk_far ?_ NB441_492.out _; (with_reducible repeat (first | refine blk_drewN ?_ _ | refine blk_drew ?_ | refine blk_alloc ?_ _)); refine blk_far ?_ NB441_492.out _; (with_reducible repeat (first | refine blk_drewN ?_ _ | refine blk_drew ?_ | refine blk_alloc ?_ _)); refine blk_far ?_ NB441_492.out _; (with_reducible repeat (first | refine blk_drewN ?_ _ | refine blk_drew ?_ | refine blk_alloc ?_ _)); refine blk_far ?_ NB441_492.out _; (with_reducible repeat (first | refine blk_drewN ?_ _ | refine blk_drew ?_ | refine blk_alloc ?_ _)); refine blk_far ?_ NB441_492.out _; (with_reducible repeat (first | refine blk_drewN ?_ _ | refine blk_drew ?_ | refine blk_alloc ?_ _)); refine blk_far ?_ NB441_492.out _; (with_reducible repeat (first | refine blk_drewN ?_ _ | refine blk_drew ?_ | refine blk_alloc ?_ _)); exact BK441.out) hb); have n5_ := Aside0.mk (blk_below (g := gb464) (o := .cells #[.string t449, .int .i64 t450, .int .i64 t451, .int .i64 t452, .int .i64 t453, .int .i64 t454, .int .i64 t455, .int .i64 t456, .string t457, .string t458, .bool t459] 34 (0, 0)) (by (with_reducible repeat (first | refine blk_drewN ?_ _ | refine blk_drew ?_ | refine blk_alloc ?_ _)); refine blk_far ?_ NB464_492.out _; (with_reducible repeat (first | refine blk_drewN ?_ _ | refine blk_drew ?_ | refine blk_alloc ?_ _)); refine blk_far ?_ NB464_492.out _; (with_reducible repeat (first | refine blk_drewN ?_ _ | refine blk_drew ?_ | refine blk_alloc ?_ _)); refine blk_far ?_ NB464_492.out _; (with_reducible repeat (first | refine blk_drewN ?_ _ | refine blk_drew ?_ | refine blk_alloc ?_ _)); refine blk_far ?_ NB464_492.out _; (with_reducible repeat (first | refine blk_drewN ?_ _ | refine blk_drew ?_ | refine blk_alloc ?_ _)); refine blk_far ?_ NB464_492.out _; (with_reducible repeat (first | refine blk_drewN ?_ _ | refine blk_drew ?_ | refine blk_alloc ?_ _)); refine blk_far ?_ NB464_492.out _; (with_reducible repeat (first | refine blk_drewN ?_ _ | refine blk_drew ?_ | refine blk_alloc ?_ _)); refine blk_far ?_ NB464_492.out _; (with_reducible repeat (first | refine blk_drewN ?_ _ | refine blk_drew ?_ | refine blk_alloc ?_ _)); refine blk_far ?_ NB464_492.out _; (with_reducible repeat (first | refine blk_drewN ?_ _ | refine blk_drew ?_ | refine blk_alloc ?_ _)); refine blk_far ?_ NB464_492.out _; (with_reducible repeat (first | refine blk_drewN ?_ _ | refine blk_drew ?_ | refine blk_alloc ?_ _)); refine blk_far ?_ NB464_492.out _; (with_reducible repeat (first | refine blk_drewN ?_ _ | refine blk_drew ?_ | refine blk_alloc ?_ _)); refine blk_far ?_ NB464_492.out _; (with_reducible repeat (first | refine blk_drewN ?_ _ | refine blk_drew ?_ | refine blk_alloc ?_ _)); exact BK464.out) hb); have n6_ := Aside0.mk (blk_below (g := gb492) (o := .cells #[.string t477, .int .i64 t478, .int .i64 t479, .int .i64 t480, .int .i64 t481, .int .i64 t482, .int .i64 t483, .int .i64 t484, .string t485, .string t486, .bool t487] 34 (0, 0)) (by (with_reducible repeat (first | refine blk_drewN ?_ _ | refine blk_drew ?_ | refine blk_alloc ?_ _)); refine blk_put (cs := #[.string t477, .int .i64 t478, .int .i64 t479, .int .i64 t480, .int .i64 t481, .int .i64 t482, .int .i64 t483, .int .i64 t484, .string t485, .string t486, .bool false]) ?_ 10 _ rfl; (with_reducible repeat (first | refine blk_drewN ?_ _ | refine blk_drew ?_ | refine blk_alloc ?_ _)); refine blk_put (cs := #[.string t477, .int .i64 t478, .int .i64 t479, .int .i64 t480, .int .i64 t481, .int .i64 t482, .int .i64 t483, .int .i64 t484, .string t485, .string (⟨#[]⟩ : ByteArray), .bool false]) ?_ 9 _ rfl; (with_reducible repeat (first | refine blk_drewN ?_ _ | refine blk_drew ?_ | refine blk_alloc ?_ _)); refine blk_put (cs := #[.string t477, .int .i64 t478, .int .i64 t479, .int .i64 t480, .int .i64 t481, .int .i64 t482, .int .i64 t483, .int .i64 t484, .string (⟨#[]⟩ : ByteArray), .string (⟨#[]⟩ : ByteArray), .bool false]) ?_ 8 _ rfl; (with_reducible repeat (first | refine blk_drewN ?_ _ | refine blk_drew ?_ | refine blk_alloc ?_ _)); refine blk_put (cs := #[.string t477, .int .i64 t478, .int .i64 t479, .int .i64 t480, .int .i64 t481, .int .i64 t482, .int .i64 t483, .int .i64 0, .string (⟨#[]⟩ : ByteArray), .string (⟨#[]⟩ : ByteArray), .bool false]) ?_ 7 _ rfl; (with_reducible repeat (first | refine blk_drewN ?_ _ | refine blk_drew ?_ | refine blk_alloc ?_ _)); refine blk_put (cs := #[.string t477, .int .i64 t478, .int .i64 t479, .int .i64 t480, .int .i64 t481, .int .i64 t482, .int .i64 0, .int .i64 0, .string (⟨#[]⟩ : ByteArray), .string (⟨#[]⟩ : ByteArray), .bool false]) ?_ 6 _ rfl; (with_reducible repeat (first | refine blk_drewN ?_ _ | refine blk_drew ?_ | refine blk_alloc ?_ _)); refine blk_put (cs := #[.string t477, .int .i64 t478, .int .i64 t479, .int .i64 t480, .int .i64 t481, .int .i64 0, .int .i64 0, .int .i64 0, .string (⟨#[]⟩ : ByteArray), .string (⟨#[]⟩ : ByteArray), .bool false]) ?_ 5 _ rfl; (with_reducible repeat (first | refine blk_drewN ?_ _ | refine blk_drew ?_ | refine blk_alloc ?_ _)); refine blk_put (cs := #[.string t477, .int .i64 t478, .int .i64 t479, .int .i64 t480, .int .i64 0, .int .i64 0, .int .i64 0, .int .i64 0, .string (⟨#[]⟩ : ByteArray), .string (⟨#[]⟩ : ByteArray), .bool false]) ?_ 4 _ rfl; (with_reducible repeat (first | refine blk_drewN ?_ _ | refine blk_drew ?_ | refine blk_alloc ?_ _)); refine blk_put (cs := #[.string t477, .int .i64 t478, .int .i64 t479, .int .i64 0, .int .i64 0, .int .i64 0, .int .i64 0, .int .i64 0, .string (⟨#[]⟩ : ByteArray), .string (⟨#[]⟩ : ByteArray), .bool false]) ?_ 3 _ rfl; (with_reducible repeat (first | refine blk_drewN ?_ _ | refine blk_drew ?_ | refine blk_alloc ?_ _)); refine blk_put (cs := #[.string t477, .int .i64 t478, .int .i64 0, .int .i64 0, .int .i64 0, .int .i64 0, .int .i64 0, .int .i64 0, .string (⟨#[]⟩ : ByteArray), .string (⟨#[]⟩ : ByteArray), .bool false]) ?_ 2 _ rfl; (with_reducible repeat (first | refine blk_drewN ?_ _ | refine blk_drew ?_ | refine blk_alloc ?_ _)); refine blk_put (cs := #[.string t477, .int .i64 0, .int .i64 0, .int .i64 0, .int .i64 0, .int .i64 0, .int .i64 0, .int .i64 0, .string (⟨#[]⟩ : ByteArray), .string (⟨#[]⟩ : ByteArray), .bool false]) ?_ 1 _ rfl; (with_reducible repeat (first | refine blk_drewN ?_ _ | refine blk_drew ?_ | refine blk_alloc ?_ _)); refine blk_put (cs := #[.string (⟨#[]⟩ : ByteArray), .int .i64 0, .int .i64 0, .int .i64 0, .int .i64 0, .int .i64 0, .int .i64 0, .int .i64 0, .string (⟨#[]⟩ : ByteArray), .string (⟨#[]⟩ : ByteArray), .bool false]) ?_ 0 _ rfl; (with_reducible repeat (first | refine blk_drewN ?_ _ | refine blk_drew ?_ | refine blk_alloc ?_ _)); exact BK492.out) hb); have n7_ := Aside0.mk (below_step (by repeat (first | (with_reducible first | exact HB.out | apply below_alloc | apply pw_below_drewN | apply below_drew1 | refine below_set ?_ GE417.out | refine below_set ?_ GE441.out | refine below_set ?_ GE464.out | refine below_set ?_ GE492.out) | exact HB.out)) hb); clear HO_13; clear HO_16; clear HO490; clear BK417; clear BK441; clear BK464; clear BK492; clear HB; have HO_13 := n0_; have HO_16 := n1_; have HO490 := n2_; have BK417 := n3_; have BK441 := n4_; have BK464 := n5_; have BK492 := n6_; have HB := n7_; clear n0_ n1_ n2_ n3_ n4_ n5_ n6_ n7_; (try clear hb); (try clear hb2); (try clear hk); (try clear hi)))
                    go_meet
                    case rel => exact ⟨_, (true), (by first | rfl | (simp; done) | (simp [*]; done) | (simp [ne_nil_b]; done) | (simp [ne_nil_b, *]; done)), H', ⟨by have := HJ16.out; first | omega | exact Nat.le_refl _⟩, ⟨by (with_reducible repeat (first | apply Kd.R_alloc | apply Kd.R_drewN | apply Kd.R_drew)); exact Kd.R_mono HO_16.out (fun _ hk => trivial)⟩, ⟨by (with_reducible repeat (first | refine blk_drewN ?_ _ | refine blk_drew ?_ | refine blk_alloc ?_ _)); exact BK417.out⟩, ⟨by (with_reducible repeat (first | refine blk_drewN ?_ _ | refine blk_drew ?_ | refine blk_alloc ?_ _)); exact BK441.out⟩, ⟨by (with_reducible repeat (first | refine blk_drewN ?_ _ | refine blk_drew ?_ | refine blk_alloc ?_ _)); exact BK464.out⟩, ⟨by (with_reducible repeat (first | refine blk_drewN ?_ _ | refine blk_drew ?_ | refine blk_alloc ?_ _)); exact BK492.out⟩, ⟨by repeat (first | (with_reducible first | exact HB.out | apply below_alloc | apply pw_below_drewN | apply below_drew1 | refine below_set ?_ GE417.out | refine below_set ?_ GE441.out | refine below_set ?_ GE464.out | refine below_set ?_ GE492.out) | exact HB.out)⟩⟩
                case rest =>
                  clear HC72
                  try clear c1
                  try clear c2
                  try clear p2
                  try clear c3
                  try clear c4
                  try clear c5
                  try clear c6
                  try clear c6b0
                  try clear c6b1
                  try clear c7
                  try clear c8
                  try clear c9
                  try clear c9b0
                  try clear c10
                  try clear c11
                  try clear c25
                  try clear c31
                  try clear c32
                  try clear c33
                  try clear c34
                  try clear c35
                  try clear c36
                  try clear c37
                  try clear c38
                  try clear c39
                  try clear c40
                  try clear c41
                  try clear c47
                  try clear c48
                  try clear c50
                  try clear c56
                  try clear c57
                  try clear c59
                  try clear c62
                  try clear c65
                  try clear c65b0
                  try clear c69
                  try clear c69b0
                  try clear c69b1
                  try clear c76
                  try clear c77
                  try clear c82
                  try clear c83
                  try clear c84
                  try clear c87
                  try clear c89
                  try clear c90
                  try clear c91
                  try clear c92
                  try clear c94
                  try clear c95
                  try clear c101
                  try clear c102
                  try clear c103
                  try clear c105
                  try clear c106
                  try clear c112
                  try clear c113
                  try clear c114
                  try clear c116
                  try clear c117
                  try clear hcz104_0
                  try clear hcz104_1
                  try clear hcz104_10
                  try clear hcz104_2
                  try clear hcz104_3
                  try clear hcz104_4
                  try clear hcz104_5
                  try clear hcz104_6
                  try clear hcz104_7
                  try clear hcz104_8
                  try clear hcz104_9
                  try clear hcz107_0
                  try clear hcz107_1
                  try clear hcz107_10
                  try clear hcz107_2
                  try clear hcz107_3
                  try clear hcz107_4
                  try clear hcz107_5
                  try clear hcz107_6
                  try clear hcz107_7
                  try clear hcz107_8
                  try clear hcz107_9
                  try clear hcz115_0
                  try clear hcz115_1
                  try clear hcz115_10
                  try clear hcz115_2
                  try clear hcz115_3
                  try clear hcz115_4
                  try clear hcz115_5
                  try clear hcz115_6
                  try clear hcz115_7
                  try clear hcz115_8
                  try clear hcz115_9
                  try clear hcz118_0
                  try clear hcz118_1
                  try clear hcz118_10
                  try clear hcz118_2
                  try clear hcz118_3
                  try clear hcz118_4
                  try clear hcz118_5
                  try clear hcz118_6
                  try clear hcz118_7
                  try clear hcz118_8
                  try clear hcz118_9
                  try clear hcz11_0
                  try clear hcz11_1
                  try clear hcz11_2
                  try clear hcz11_3
                  try clear hcz11_4
                  try clear hcz11_5
                  try clear hcz11_6
                  try clear hcz19_0
                  try clear hcz19_1
                  try clear hcz19_2
                  try clear hcz19_3
                  try clear hcz19_4
                  try clear hcz19_5
                  try clear hcz19_6
                  try clear hcz21_0
                  try clear hcz21_1
                  try clear hcz21_2
                  try clear hcz21_3
                  try clear hcz21_4
                  try clear hcz21_5
                  try clear hcz21_6
                  try clear hcz26_0
                  try clear hcz26_1
                  try clear hcz26_10
                  try clear hcz26_2
                  try clear hcz26_3
                  try clear hcz26_4
                  try clear hcz26_5
                  try clear hcz26_6
                  try clear hcz26_7
                  try clear hcz26_8
                  try clear hcz26_9
                  try clear hcz27_0
                  try clear hcz27_1
                  try clear hcz27_2
                  try clear hcz27_3
                  try clear hcz27_4
                  try clear hcz27_5
                  try clear hcz27_6
                  try clear hcz33_0
                  try clear hcz33_1
                  try clear hcz33_10
                  try clear hcz33_2
                  try clear hcz33_3
                  try clear hcz33_4
                  try clear hcz33_5
                  try clear hcz33_6
                  try clear hcz33_7
                  try clear hcz33_8
                  try clear hcz33_9
                  try clear hcz40_0
                  try clear hcz40_1
                  try clear hcz40_10
                  try clear hcz40_2
                  try clear hcz40_3
                  try clear hcz40_4
                  try clear hcz40_5
                  try clear hcz40_6
                  try clear hcz40_7
                  try clear hcz40_8
                  try clear hcz40_9
                  try clear hcz42_0
                  try clear hcz42_1
                  try clear hcz42_10
                  try clear hcz42_2
                  try clear hcz42_3
                  try clear hcz42_4
                  try clear hcz42_5
                  try clear hcz42_6
                  try clear hcz42_7
                  try clear hcz42_8
                  try clear hcz42_9
                  try clear hcz49_0
                  try clear hcz49_1
                  try clear hcz49_10
                  try clear hcz49_2
                  try clear hcz49_3
                  try clear hcz49_4
                  try clear hcz49_5
                  try clear hcz49_6
                  try clear hcz49_7
                  try clear hcz49_8
                  try clear hcz49_9
                  try clear hcz51_0
                  try clear hcz51_1
                  try clear hcz51_10
                  try clear hcz51_2
                  try clear hcz51_3
                  try clear hcz51_4
                  try clear hcz51_5
                  try clear hcz51_6
                  try clear hcz51_7
                  try clear hcz51_8
                  try clear hcz51_9
                  try clear hcz58_0
                  try clear hcz58_1
                  try clear hcz58_10
                  try clear hcz58_2
                  try clear hcz58_3
                  try clear hcz58_4
                  try clear hcz58_5
                  try clear hcz58_6
                  try clear hcz58_7
                  try clear hcz58_8
                  try clear hcz58_9
                  try clear hcz60_0
                  try clear hcz60_1
                  try clear hcz60_10
                  try clear hcz60_2
                  try clear hcz60_3
                  try clear hcz60_4
                  try clear hcz60_5
                  try clear hcz60_6
                  try clear hcz60_7
                  try clear hcz60_8
                  try clear hcz60_9
                  try clear hcz78_0
                  try clear hcz78_1
                  try clear hcz78_2
                  try clear hcz78_3
                  try clear hcz78_4
                  try clear hcz78_5
                  try clear hcz78_6
                  try clear hcz85_0
                  try clear hcz85_1
                  try clear hcz85_10
                  try clear hcz85_2
                  try clear hcz85_3
                  try clear hcz85_4
                  try clear hcz85_5
                  try clear hcz85_6
                  try clear hcz85_7
                  try clear hcz85_8
                  try clear hcz85_9
                  try clear hcz93_0
                  try clear hcz93_1
                  try clear hcz93_10
                  try clear hcz93_2
                  try clear hcz93_3
                  try clear hcz93_4
                  try clear hcz93_5
                  try clear hcz93_6
                  try clear hcz93_7
                  try clear hcz93_8
                  try clear hcz93_9
                  try clear hcz96_0
                  try clear hcz96_1
                  try clear hcz96_10
                  try clear hcz96_2
                  try clear hcz96_3
                  try clear hcz96_4
                  try clear hcz96_5
                  try clear hcz96_6
                  try clear hcz96_7
                  try clear hcz96_8
                  try clear hcz96_9
                  try clear hfz104_0
                  try clear hfz104_1
                  try clear hfz104_10
                  try clear hfz104_2
                  try clear hfz104_3
                  try clear hfz104_4
                  try clear hfz104_5
                  try clear hfz104_6
                  try clear hfz104_7
                  try clear hfz104_8
                  try clear hfz104_9
                  try clear hfz107_0
                  try clear hfz107_1
                  try clear hfz107_10
                  try clear hfz107_2
                  try clear hfz107_3
                  try clear hfz107_4
                  try clear hfz107_5
                  try clear hfz107_6
                  try clear hfz107_7
                  try clear hfz107_8
                  try clear hfz107_9
                  try clear hfz115_0
                  try clear hfz115_1
                  try clear hfz115_10
                  try clear hfz115_2
                  try clear hfz115_3
                  try clear hfz115_4
                  try clear hfz115_5
                  try clear hfz115_6
                  try clear hfz115_7
                  try clear hfz115_8
                  try clear hfz115_9
                  try clear hfz118_0
                  try clear hfz118_1
                  try clear hfz118_10
                  try clear hfz118_2
                  try clear hfz118_3
                  try clear hfz118_4
                  try clear hfz118_5
                  try clear hfz118_6
                  try clear hfz118_7
                  try clear hfz118_8
                  try clear hfz118_9
                  try clear hfz11_0
                  try clear hfz11_1
                  try clear hfz11_2
                  try clear hfz11_3
                  try clear hfz11_4
                  try clear hfz11_5
                  try clear hfz11_6
                  try clear hfz19_0
                  try clear hfz19_1
                  try clear hfz19_2
                  try clear hfz19_3
                  try clear hfz19_4
                  try clear hfz19_5
                  try clear hfz19_6
                  try clear hfz21_0
                  try clear hfz21_1
                  try clear hfz21_2
                  try clear hfz21_3
                  try clear hfz21_4
                  try clear hfz21_5
                  try clear hfz21_6
                  try clear hfz26_0
                  try clear hfz26_1
                  try clear hfz26_10
                  try clear hfz26_2
                  try clear hfz26_3
                  try clear hfz26_4
                  try clear hfz26_5
                  try clear hfz26_6
                  try clear hfz26_7
                  try clear hfz26_8
                  try clear hfz26_9
                  try clear hfz27_0
                  try clear hfz27_1
                  try clear hfz27_2
                  try clear hfz27_3
                  try clear hfz27_4
                  try clear hfz27_5
                  try clear hfz27_6
                  try clear hfz33_0
                  try clear hfz33_1
                  try clear hfz33_10
                  try clear hfz33_2
                  try clear hfz33_3
                  try clear hfz33_4
                  try clear hfz33_5
                  try clear hfz33_6
                  try clear hfz33_7
                  try clear hfz33_8
                  try clear hfz33_9
                  try clear hfz40_0
                  try clear hfz40_1
                  try clear hfz40_10
                  try clear hfz40_2
                  try clear hfz40_3
                  try clear hfz40_4
                  try clear hfz40_5
                  try clear hfz40_6
                  try clear hfz40_7
                  try clear hfz40_8
                  try clear hfz40_9
                  try clear hfz42_0
                  try clear hfz42_1
                  try clear hfz42_10
                  try clear hfz42_2
                  try clear hfz42_3
                  try clear hfz42_4
                  try clear hfz42_5
                  try clear hfz42_6
                  try clear hfz42_7
                  try clear hfz42_8
                  try clear hfz42_9
                  try clear hfz49_0
                  try clear hfz49_1
                  try clear hfz49_10
                  try clear hfz49_2
                  try clear hfz49_3
                  try clear hfz49_4
                  try clear hfz49_5
                  try clear hfz49_6
                  try clear hfz49_7
                  try clear hfz49_8
                  try clear hfz49_9
                  try clear hfz51_0
                  try clear hfz51_1
                  try clear hfz51_10
                  try clear hfz51_2
                  try clear hfz51_3
                  try clear hfz51_4
                  try clear hfz51_5
                  try clear hfz51_6
                  try clear hfz51_7
                  try clear hfz51_8
                  try clear hfz51_9
                  try clear hfz58_0
                  try clear hfz58_1
                  try clear hfz58_10
                  try clear hfz58_2
                  try clear hfz58_3
                  try clear hfz58_4
                  try clear hfz58_5
                  try clear hfz58_6
                  try clear hfz58_7
                  try clear hfz58_8
                  try clear hfz58_9
                  try clear hfz60_0
                  try clear hfz60_1
                  try clear hfz60_10
                  try clear hfz60_2
                  try clear hfz60_3
                  try clear hfz60_4
                  try clear hfz60_5
                  try clear hfz60_6
                  try clear hfz60_7
                  try clear hfz60_8
                  try clear hfz60_9
                  try clear hfz78_0
                  try clear hfz78_1
                  try clear hfz78_2
                  try clear hfz78_3
                  try clear hfz78_4
                  try clear hfz78_5
                  try clear hfz78_6
                  try clear hfz85_0
                  try clear hfz85_1
                  try clear hfz85_10
                  try clear hfz85_2
                  try clear hfz85_3
                  try clear hfz85_4
                  try clear hfz85_5
                  try clear hfz85_6
                  try clear hfz85_7
                  try clear hfz85_8
                  try clear hfz85_9
                  try clear hfz93_0
                  try clear hfz93_1
                  try clear hfz93_10
                  try clear hfz93_2
                  try clear hfz93_3
                  try clear hfz93_4
                  try clear hfz93_5
                  try clear hfz93_6
                  try clear hfz93_7
                  try clear hfz93_8
                  try clear hfz93_9
                  try clear hfz96_0
                  try clear hfz96_1
                  try clear hfz96_10
                  try clear hfz96_2
                  try clear hfz96_3
                  try clear hfz96_4
                  try clear hfz96_5
                  try clear hfz96_6
                  try clear hfz96_7
                  try clear hfz96_8
                  try clear hfz96_9
                  try clear p2
                  obtain ⟨kq, x104_71, rfl, HA, HJ71, HO_16, BK417, BK441, BK464, BK492, HB⟩ := hcut
                  have hl16_71 := (Kd.R_reads' HO_16.out).1
                  rw [hl16_71] at HO_16
                  (try simp only [hl16_71])
                  (try simp only [hl16_71] at BK417)
                  (try simp only [hl16_71] at BK441)
                  (try simp only [hl16_71] at BK464)
                  (try simp only [hl16_71] at BK492)
                  cases kq with
                  | zero => exact absurd HA.out (by simp [laws_FnExactConnOpen.j1])
                  | succ kj71 =>
                    have H := HA.out
                    clear HA
                    simp only [laws_FnExactConnOpen.j1] at H
                    by_cases c120 : x104_71 = true
                    · subst c120
                      have H1 : (some false) = some r := by rw [if_pos rfl] at H; exact H
                      clear H
                      have H := H1
                      clear H1
                      obtain rfl := Option.some.inj H
                      go_wp2
                      go_ret
                      exact ⟨by first | rfl | (simp [errW_none, errW_some] <;> rfl) | (simp [*, errW_none, errW_some] <;> rfl), by repeat (first | (with_reducible first | exact HB.out | apply below_alloc | apply pw_below_drewN | apply below_drew1 | refine below_set ?_ GE417.out | refine below_set ?_ GE441.out | refine below_set ?_ GE464.out | refine below_set ?_ GE492.out) | exact HB.out)⟩
                    · replace c120 := Bool.eq_false_iff.mpr c120
                      subst c120
                      have H1 : ((laws_heldSegmentS.f kj71 t468 1).bind fun t495 => (if t495 < 0 then (some false) else (if t495 = t467 then (some true) else (some false)))) = some r := by rw [if_neg (show ¬ (false = true) by decide)] at H; exact H
                      clear H
                      have H := H1
                      clear H1
                      replace H := Option.bind_eq_some_iff.mp H
                      obtain ⟨t495, A1210, H⟩ := H
                      replace H : (if t495 < 0 then (some false) else (if t495 = t467 then (some true) else (some false))) = some r := H
                      have A121 := Aside0.mk A1210
                      clear A1210
                      by_cases c122 : t495 < 0
                      · rw [if_pos c122] at H
                        have c122b0 : decide (t495 < 0) = true := decide_eq_true c122
                        clear c122
                        obtain rfl := Option.some.inj H
                        go_wp2_with (first | ((with_reducible refine gate_callee (f := 40) rfl ?_); refine goesL_ (some 107) rfl rfl Try.func40 (by kernel_rfl) rfl #[.slice Ao73 t468.length co73, .int .i64 1] rfl (by (try simp only [List.map_toArray, List.map_cons, List.map_nil]); first | done | rfl | (simp only [List.length_drop, List.length_take]; rfl)) ?_; (with_reducible refine (laws_heldSegmentS.calls kj71 _ _ t468 1 t495 _ ?side1 ?side2 A121.out).mono ?_); (case side1 => repeat (first | exact (Kd.R_reads' HO_16.out).2.2 | (with_reducible refine Kd.C_alloc ?_ _) | (with_reducible refine Kd.C_drewN ?_ _) | (with_reducible refine Kd.C_drew ?_))); (case side2 => exact (Kd.R_reads' HO_16.out).2.1); rintro e w123 ⟨rfl, hb⟩; refine ⟨_, rfl, ?_⟩; have n0_ := Aside0.mk (Kd.R_below (by (with_reducible repeat (first | apply Kd.R_alloc | apply Kd.R_drewN | apply Kd.R_drew)); exact HO_16.out) hb); have n1_ := Aside0.mk (blk_below (g := gb417) (o := .cells #[.int .i64 a3_0, .int .i64 a3_1, .int .i64 a3_2, .int .i64 a3_3, .int .i64 a3_4, .int .i64 a3_5, .string a3_6] 48 (0, 0)) (by (with_reducible repeat (first | refine blk_drewN ?_ _ | refine blk_drew ?_ | refine blk_alloc ?_ _)); exact BK417.out) hb); have n2_ := Aside0.mk (blk_below (g := gb441) (o := .cells #[.string t426, .int .i64 t427, .int .i64 t428, .int .i64 t429, .int .i64 t430, .int .i64 t431, .int .i64 t432, .int .i64 t433, .string t434, .string t435, .bool t436] 34 (0, 0)) (by (with_reducible repeat (first | refine blk_drewN ?_ _ | refine blk_drew ?_ | refine blk_alloc ?_ _)); exact BK441.out) hb); have n3_ := Aside0.mk (blk_below (g := gb464) (o := .cells #[.string t449, .int .i64 t450, .int .i64 t451, .int .i64 t452, .int .i64 t453, .int .i64 t454, .int .i64 t455, .int .i64 t456, .string t457, .string t458, .bool t459] 34 (0, 0)) (by (with_reducible repeat (first | refine blk_drewN ?_ _ | refine blk_drew ?_ | refine blk_alloc ?_ _)); exact BK464.out) hb); have n4_ := Aside0.mk (blk_below (g := gb492) (o := .cells #[.string t477, .int .i64 t478, .int .i64 t479, .int .i64 t480, .int .i64 t481, .int .i64 t482, .int .i64 t483, .int .i64 t484, .string t485, .string t486, .bool t487] 34 (0, 0)) (by (with_reducible repeat (first | refine blk_drewN ?_ _ | refine blk_drew ?_ | refine blk_alloc ?_ _)); exact BK492.out) hb); have n5_ := Aside0.mk (below_step (by repeat (first | (with_reducible first | exact HB.out | apply below_alloc | apply pw_below_drewN | apply below_drew1 | refine below_set ?_ GE417.out | refine below_set ?_ GE441.out | refine below_set ?_ GE464.out | refine below_set ?_ GE492.out) | exact HB.out)) hb); clear HO_16; clear BK417; clear BK441; clear BK464; clear BK492; clear HB; have HO_16 := n0_; have BK417 := n1_; have BK441 := n2_; have BK464 := n3_; have BK492 := n4_; have HB := n5_; clear n0_ n1_ n2_ n3_ n4_ n5_; (try clear hb); (try clear hb2); (try clear hk); (try clear hi)))
                        go_ret
                        exact ⟨by first | rfl | (simp [errW_none, errW_some] <;> rfl) | (simp [*, errW_none, errW_some] <;> rfl), by repeat (first | (with_reducible first | exact HB.out | apply below_alloc | apply pw_below_drewN | apply below_drew1 | refine below_set ?_ GE417.out | refine below_set ?_ GE441.out | refine below_set ?_ GE464.out | refine below_set ?_ GE492.out) | exact HB.out)⟩
                      · rw [if_neg c122] at H
                        have c122b0 : decide (t495 < 0) = false := decide_eq_false c122
                        clear c122
                        by_cases c124 : t495 = t467
                        · rw [if_pos c124] at H
                          have c124b0 : (t495 == t467) = true := beq_iff_eq.mpr c124
                          have c124b1 : (t495 != t467) = false := bne_eq_false_iff_eq.mpr c124
                          clear c124
                          obtain rfl := Option.some.inj H
                          go_wp2_with (first | ((with_reducible refine gate_callee (f := 40) rfl ?_); refine goesL_ (some 107) rfl rfl Try.func40 (by kernel_rfl) rfl #[.slice Ao73 t468.length co73, .int .i64 1] rfl (by (try simp only [List.map_toArray, List.map_cons, List.map_nil]); first | done | rfl | (simp only [List.length_drop, List.length_take]; rfl)) ?_; (with_reducible refine (laws_heldSegmentS.calls kj71 _ _ t468 1 t495 _ ?side1 ?side2 A121.out).mono ?_); (case side1 => repeat (first | exact (Kd.R_reads' HO_16.out).2.2 | (with_reducible refine Kd.C_alloc ?_ _) | (with_reducible refine Kd.C_drewN ?_ _) | (with_reducible refine Kd.C_drew ?_))); (case side2 => exact (Kd.R_reads' HO_16.out).2.1); rintro e w125 ⟨rfl, hb⟩; refine ⟨_, rfl, ?_⟩; have n0_ := Aside0.mk (Kd.R_below (by (with_reducible repeat (first | apply Kd.R_alloc | apply Kd.R_drewN | apply Kd.R_drew)); exact HO_16.out) hb); have n1_ := Aside0.mk (blk_below (g := gb417) (o := .cells #[.int .i64 a3_0, .int .i64 a3_1, .int .i64 a3_2, .int .i64 a3_3, .int .i64 a3_4, .int .i64 a3_5, .string a3_6] 48 (0, 0)) (by (with_reducible repeat (first | refine blk_drewN ?_ _ | refine blk_drew ?_ | refine blk_alloc ?_ _)); exact BK417.out) hb); have n2_ := Aside0.mk (blk_below (g := gb441) (o := .cells #[.string t426, .int .i64 t427, .int .i64 t428, .int .i64 t429, .int .i64 t430, .int .i64 t431, .int .i64 t432, .int .i64 t433, .string t434, .string t435, .bool t436] 34 (0, 0)) (by (with_reducible repeat (first | refine blk_drewN ?_ _ | refine blk_drew ?_ | refine blk_alloc ?_ _)); exact BK441.out) hb); have n3_ := Aside0.mk (blk_below (g := gb464) (o := .cells #[.string t449, .int .i64 t450, .int .i64 t451, .int .i64 t452, .int .i64 t453, .int .i64 t454, .int .i64 t455, .int .i64 t456, .string t457, .string t458, .bool t459] 34 (0, 0)) (by (with_reducible repeat (first | refine blk_drewN ?_ _ | refine blk_drew ?_ | refine blk_alloc ?_ _)); exact BK464.out) hb); have n4_ := Aside0.mk (blk_below (g := gb492) (o := .cells #[.string t477, .int .i64 t478, .int .i64 t479, .int .i64 t480, .int .i64 t481, .int .i64 t482, .int .i64 t483, .int .i64 t484, .string t485, .string t486, .bool t487] 34 (0, 0)) (by (with_reducible repeat (first | refine blk_drewN ?_ _ | refine blk_drew ?_ | refine blk_alloc ?_ _)); exact BK492.out) hb); have n5_ := Aside0.mk (below_step (by repeat (first | (with_reducible first | exact HB.out | apply below_alloc | apply pw_below_drewN | apply below_drew1 | refine below_set ?_ GE417.out | refine below_set ?_ GE441.out | refine below_set ?_ GE464.out | refine below_set ?_ GE492.out) | exact HB.out)) hb); clear HO_16; clear BK417; clear BK441; clear BK464; clear BK492; clear HB; have HO_16 := n0_; have BK417 := n1_; have BK441 := n2_; have BK464 := n3_; have BK492 := n4_; have HB := n5_; clear n0_ n1_ n2_ n3_ n4_ n5_; (try clear hb); (try clear hb2); (try clear hk); (try clear hi)))
                          go_ret
                          exact ⟨by first | rfl | (simp [errW_none, errW_some] <;> rfl) | (simp [*, errW_none, errW_some] <;> rfl), by repeat (first | (with_reducible first | exact HB.out | apply below_alloc | apply pw_below_drewN | apply below_drew1 | refine below_set ?_ GE417.out | refine below_set ?_ GE441.out | refine below_set ?_ GE464.out | refine below_set ?_ GE492.out) | exact HB.out)⟩
                        · rw [if_neg c124] at H
                          have c124b0 : (t495 == t467) = false := beq_eq_false_iff_ne.mpr c124
                          have c124b1 : (t495 != t467) = true := bne_iff_ne.mpr c124
                          obtain rfl := Option.some.inj H
                          go_wp2_with (first | ((with_reducible refine gate_callee (f := 40) rfl ?_); refine goesL_ (some 107) rfl rfl Try.func40 (by kernel_rfl) rfl #[.slice Ao73 t468.length co73, .int .i64 1] rfl (by (try simp only [List.map_toArray, List.map_cons, List.map_nil]); first | done | rfl | (simp only [List.length_drop, List.length_take]; rfl)) ?_; (with_reducible refine (laws_heldSegmentS.calls kj71 _ _ t468 1 t495 _ ?side1 ?side2 A121.out).mono ?_); (case side1 => repeat (first | exact (Kd.R_reads' HO_16.out).2.2 | (with_reducible refine Kd.C_alloc ?_ _) | (with_reducible refine Kd.C_drewN ?_ _) | (with_reducible refine Kd.C_drew ?_))); (case side2 => exact (Kd.R_reads' HO_16.out).2.1); rintro e w126 ⟨rfl, hb⟩; refine ⟨_, rfl, ?_⟩; have n0_ := Aside0.mk (Kd.R_below (by (with_reducible repeat (first | apply Kd.R_alloc | apply Kd.R_drewN | apply Kd.R_drew)); exact HO_16.out) hb); have n1_ := Aside0.mk (blk_below (g := gb417) (o := .cells #[.int .i64 a3_0, .int .i64 a3_1, .int .i64 a3_2, .int .i64 a3_3, .int .i64 a3_4, .int .i64 a3_5, .string a3_6] 48 (0, 0)) (by (with_reducible repeat (first | refine blk_drewN ?_ _ | refine blk_drew ?_ | refine blk_alloc ?_ _)); exact BK417.out) hb); have n2_ := Aside0.mk (blk_below (g := gb441) (o := .cells #[.string t426, .int .i64 t427, .int .i64 t428, .int .i64 t429, .int .i64 t430, .int .i64 t431, .int .i64 t432, .int .i64 t433, .string t434, .string t435, .bool t436] 34 (0, 0)) (by (with_reducible repeat (first | refine blk_drewN ?_ _ | refine blk_drew ?_ | refine blk_alloc ?_ _)); exact BK441.out) hb); have n3_ := Aside0.mk (blk_below (g := gb464) (o := .cells #[.string t449, .int .i64 t450, .int .i64 t451, .int .i64 t452, .int .i64 t453, .int .i64 t454, .int .i64 t455, .int .i64 t456, .string t457, .string t458, .bool t459] 34 (0, 0)) (by (with_reducible repeat (first | refine blk_drewN ?_ _ | refine blk_drew ?_ | refine blk_alloc ?_ _)); exact BK464.out) hb); have n4_ := Aside0.mk (blk_below (g := gb492) (o := .cells #[.string t477, .int .i64 t478, .int .i64 t479, .int .i64 t480, .int .i64 t481, .int .i64 t482, .int .i64 t483, .int .i64 t484, .string t485, .string t486, .bool t487] 34 (0, 0)) (by (with_reducible repeat (first | refine blk_drewN ?_ _ | refine blk_drew ?_ | refine blk_alloc ?_ _)); exact BK492.out) hb); have n5_ := Aside0.mk (below_step (by repeat (first | (with_reducible first | exact HB.out | apply below_alloc | apply pw_below_drewN | apply below_drew1 | refine below_set ?_ GE417.out | refine below_set ?_ GE441.out | refine below_set ?_ GE464.out | refine below_set ?_ GE492.out) | exact HB.out)) hb); clear HO_16; clear BK417; clear BK441; clear BK464; clear BK492; clear HB; have HO_16 := n0_; have BK417 := n1_; have BK441 := n2_; have BK464 := n3_; have BK492 := n4_; have HB := n5_; clear n0_ n1_ n2_ n3_ n4_ n5_; (try clear hb); (try clear hb2); (try clear hk); (try clear hi)))
                          go_ret
                          exact ⟨by first | rfl | (simp [errW_none, errW_some] <;> rfl) | (simp [*, errW_none, errW_some] <;> rfl), by repeat (first | (with_reducible first | exact HB.out | apply below_alloc | apply pw_below_drewN | apply below_drew1 | refine below_set ?_ GE417.out | refine below_set ?_ GE441.out | refine below_set ?_ GE464.out | refine below_set ?_ GE492.out) | exact HB.out)⟩
              · rw [if_neg c69] at H
                have c69b0 : (t469 == t467) = false := beq_eq_false_iff_ne.mpr c69
                have c69b1 : (t469 != t467) = true := bne_iff_ne.mpr c69
                obtain rfl := Option.some.inj H
                obtain ⟨Ao127, co127, eo127⟩ := Kd.R_slice HO_16.out
                subst eo127
                go_wp2_with (first | ((with_reducible refine gate_callee (f := 39) rfl ?_); refine goesL_ (some 70) rfl rfl Try.func39 (by kernel_rfl) rfl #[.slice Ao127 t460.length co127, .int .i64 1] rfl (by (try simp only [List.map_toArray, List.map_cons, List.map_nil]); first | done | rfl | (simp only [List.length_drop, List.length_take]; rfl)) ?_; (with_reducible refine (laws_markSegmentS.calls kj16 (fun k_ => some k_ = (.slice Ao127 t460.length co127 : Value).ownBlock) (.slice Ao127 t460.length co127) t460 1 t467 t468 w _ ?side1 ?side2 A63.out).mono ?_); (case side1 => repeat (first | (with_reducible first | exact HB.out | apply below_alloc | apply pw_below_drewN | apply below_drew1 | refine below_set ?_ GE417.out | refine below_set ?_ GE441.out | refine below_set ?_ GE464.out) | exact HB.out)); (case side2 => exact Kd.R_tight rfl HO_16.out); rintro e w128 ⟨rfl, hy0, hb, hkp⟩; refine ⟨_, rfl, ?_⟩; have n0_ := Aside0.mk (Kd.R_mono (ok' := fun k_ => some k_ ≠ (.slice Ao127 t460.length co127 : Value).ownBlock) (Kd.R_keptB (HO_13.out) hkp (fun k_ hk_ hs_ => (hk_) hs_)) (fun k_ hk_ => hk_.1)); have n1_ := Aside0.mk (Kd.R_reok rfl hy0 (fun k_ e_ => HO_16.out.1 k_ e_)); have n2_ := Aside0.mk (blk_kept (by (with_reducible repeat (first | refine blk_drewN ?_ _ | refine blk_drew ?_ | refine blk_alloc ?_ _)); exact BK417.out) hkp (fun hs_ => (fun e_ => (Kd.R_ne HO_16.out BK417.out (by decide)) e_) hs_)); have n3_ := Aside0.mk (blk_kept (by (with_reducible repeat (first | refine blk_drewN ?_ _ | refine blk_drew ?_ | refine blk_alloc ?_ _)); exact BK441.out) hkp (fun hs_ => (fun e_ => (Kd.R_ne HO_16.out BK441.out (by decide)) e_) hs_)); have n4_ := Aside0.mk (blk_kept (by (with_reducible repeat (first | refine blk_drewN ?_ _ | refine blk_drew ?_ | refine blk_alloc ?_ _)); exact BK464.out) hkp (fun hs_ => (fun e_ => (Kd.R_ne HO_16.out BK464.out (by decide)) e_) hs_)); have n5_ := Aside0.mk (hb); clear HO_13; clear HO_16; clear BK417; clear BK441; clear BK464; clear HB; have HO_13 := n0_; have HO_16 := n1_; have BK417 := n2_; have BK441 := n3_; have BK464 := n4_; have HB := n5_; clear n0_ n1_ n2_ n3_ n4_ n5_; (try clear hb); (try clear hkp); (try clear hy0)) | ((with_reducible refine gate_callee (f := 40) rfl ?_); refine goesL_ (some 73) rfl rfl Try.func40 (by kernel_rfl) rfl #[.slice Ao127 t468.length co127, .int .i64 1] rfl (by (try simp only [List.map_toArray, List.map_cons, List.map_nil]); first | done | (rw [show t468.length = t460.length from (Kd.R_reads' HO_16.out).1.symm] <;> rfl) | rfl | (simp only [List.length_drop, List.length_take]; rfl)) ?_; (with_reducible refine (laws_heldSegmentS.calls kj16 _ _ t468 1 t469 _ ?side1 ?side2 A64.out).mono ?_); (case side1 => repeat (first | exact (Kd.R_reads' HO_16.out).2.2 | (with_reducible refine Kd.C_alloc ?_ _) | (with_reducible refine Kd.C_drewN ?_ _) | (with_reducible refine Kd.C_drew ?_))); (case side2 => rw [show t468.length = t460.length from (Kd.R_reads' HO_16.out).1.symm]; exact (Kd.R_reads' HO_16.out).2.1); rintro e w129 ⟨rfl, hb⟩; refine ⟨_, rfl, ?_⟩; have n0_ := Aside0.mk (Kd.R_below (by (with_reducible repeat (first | apply Kd.R_alloc | apply Kd.R_drewN | apply Kd.R_drew)); exact HO_13.out) hb); have n1_ := Aside0.mk (Kd.R_below (by (with_reducible repeat (first | apply Kd.R_alloc | apply Kd.R_drewN | apply Kd.R_drew)); exact HO_16.out) hb); have n2_ := Aside0.mk (blk_below (g := gb417) (o := .cells #[.int .i64 a3_0, .int .i64 a3_1, .int .i64 a3_2, .int .i64 a3_3, .int .i64 a3_4, .int .i64 a3_5, .string a3_6] 48 (0, 0)) (by (with_reducible repeat (first | refine blk_drewN ?_ _ | refine blk_drew ?_ | refine blk_alloc ?_ _)); exact BK417.out) hb); have n3_ := Aside0.mk (blk_below (g := gb441) (o := .cells #[.string t426, .int .i64 t427, .int .i64 t428, .int .i64 t429, .int .i64 t430, .int .i64 t431, .int .i64 t432, .int .i64 t433, .string t434, .string t435, .bool t436] 34 (0, 0)) (by (with_reducible repeat (first | refine blk_drewN ?_ _ | refine blk_drew ?_ | refine blk_alloc ?_ _)); exact BK441.out) hb); have n4_ := Aside0.mk (blk_below (g := gb464) (o := .cells #[.string t449, .int .i64 t450, .int .i64 t451, .int .i64 t452, .int .i64 t453, .int .i64 t454, .int .i64 t455, .int .i64 t456, .string t457, .string t458, .bool t459] 34 (0, 0)) (by (with_reducible repeat (first | refine blk_drewN ?_ _ | refine blk_drew ?_ | refine blk_alloc ?_ _)); exact BK464.out) hb); have n5_ := Aside0.mk (below_step (by repeat (first | (with_reducible first | exact HB.out | apply below_alloc | apply pw_below_drewN | apply below_drew1 | refine below_set ?_ GE417.out | refine below_set ?_ GE441.out | refine below_set ?_ GE464.out) | exact HB.out)) hb); clear HO_13; clear HO_16; clear BK417; clear BK441; clear BK464; clear HB; have HO_13 := n0_; have HO_16 := n1_; have BK417 := n2_; have BK441 := n3_; have BK464 := n4_; have HB := n5_; clear n0_ n1_ n2_ n3_ n4_ n5_; (try clear hb); (try clear hb2); (try clear hk); (try clear hi)))
                go_ret
                exact ⟨by first | rfl | (simp [errW_none, errW_some] <;> rfl) | (simp [*, errW_none, errW_some] <;> rfl), by repeat (first | (with_reducible first | exact HB.out | apply below_alloc | apply pw_below_drewN | apply below_drew1 | refine below_set ?_ GE417.out | refine below_set ?_ GE441.out | refine below_set ?_ GE464.out) | exact HB.out)⟩
end
section
-- IMPORT Derived.Laws.BitsLemmas
-- IMPORT Derived.OpenShut
/-- A mask of low bits is a remainder, of whatever number. -/
theorem and_low (x : Int) (j : Nat) (hj : j ≤ 62) : Go.bits .and .i64 x (2 ^ j - 1) = x % 2 ^ j := by
  have hm : ((2 : Int) ^ j - 1) = ((2 ^ j - 1 : Nat) : Int) := by
    rw [Int.natCast_sub (Nat.two_pow_pos j), Int.natCast_pow]; rfl
  have hlt : 2 ^ j - 1 < 2 ^ 64 := Nat.lt_of_lt_of_le (Nat.sub_lt (Nat.two_pow_pos j) (by decide)) (Nat.pow_le_pow_right (by decide) (by omega))
  have hle : (2 : Nat) ^ j ≤ 2 ^ 62 := Nat.pow_le_pow_right (by decide) hj
  have hd : (2 : Nat) ^ j ∣ 2 ^ 64 := Nat.pow_dvd_pow 2 (by omega)
  rw [hm]
  have hb : Go.bits .and .i64 x ((2 ^ j - 1 : Nat) : Int) = IntKind.i64.wrap (((BitVec.ofInt 64 x &&& BitVec.ofInt 64 ((2 ^ j - 1 : Nat) : Int)).toNat : Nat) : Int) := rfl
  rw [hb, BitVec.toNat_and, BitVec.ofInt_natCast, BitVec.toNat_ofNat, BitVec.toNat_ofInt, Nat.mod_eq_of_lt hlt, Nat.and_two_pow_sub_one_eq_mod, IntKind.wrap_i64]
  have e : (((x % ((2 ^ 64 : Nat) : Int)).toNat % 2 ^ j : Nat) : Int) = x % ((2 ^ j : Nat) : Int) := by
    rw [Int.natCast_emod, Int.toNat_of_nonneg (Int.emod_nonneg _ (by decide)), Int.emod_emod_of_dvd]
    exact Int.natCast_dvd_natCast.2 hd
  rw [e]
  have hp : (0 : Int) < ((2 ^ j : Nat) : Int) := by exact_mod_cast Nat.two_pow_pos j
  have h0 := Int.emod_nonneg x (Int.ne_of_gt hp)
  have h1 := Int.emod_lt_of_pos x hp
  have h2 : ((2 ^ j : Nat) : Int) ≤ ((4611686018427387904 : Nat) : Int) := Int.ofNat_le.2 (Nat.le_trans hle (by decide))
  have h3 : ((2 : Int) ^ j) = ((2 ^ j : Nat) : Int) := by rw [Int.natCast_pow]; rfl
  rw [h3, Int.emod_eq_of_lt (by omega) (by omega)]
  omega
theorem and32 (x : Int) : Go.bits .and .i64 x 4294967295 = x % 4294967296 := and_low x 32 (by decide)
theorem wrap_id {n : Int} (h0 : -9223372036854775808 ≤ n) (h1 : n ≤ 9223372036854775807) : wrap64 n = n := by
  unfold wrap64; omega
end
section
-- NEEDS spec.l01In impl.within
theorem l01In_eq (a b c : Int) : spec_l01In.f a b c = some (decide (b ≤ a ∧ a ≤ c)) := by unfold spec_l01In.f; grind
theorem within_eq (a b c : Int) : impl_within.f a b c = some (decide (b ≤ a ∧ a ≤ c)) := by unfold impl_within.f; grind
end
section
-- NEEDS spec.l01Ip impl.isAddress
theorem l01Ip_eq (a : Int) : spec_l01Ip.f a = some (decide (0 ≤ a ∧ a ≤ 4294967295)) := by simp only [spec_l01Ip.f, l01In_eq, Option.bind_some]
theorem isAddress_eq (a : Int) : impl_isAddress.f a = some (decide (0 ≤ a ∧ a ≤ 4294967295)) := by simp only [impl_isAddress.f, within_eq, Option.bind_some]
end
section
-- NEEDS impl.onward
theorem onward_eq (a n : Int) (ha : 0 ≤ a ∧ a ≤ 4294967295) (hn : 0 ≤ n ∧ n ≤ 4294967295) : impl_onward.f a n = some ((a + n) % 4294967296) := by
  simp only [impl_onward.f]
  rw [wrap_id (by omega) (by omega), Int.tmod_eq_emod_of_nonneg (by omega)]
end
section
-- NEEDS spec.l02Port impl.isPort
theorem l02Port_eq (a : Int) : spec_l02Port.f a = some (decide (0 ≤ a ∧ a ≤ 65535)) := by simp only [spec_l02Port.f, l01In_eq, Option.bind_some]
theorem isPort_eq (a : Int) : impl_isPort.f a = some (decide (0 ≤ a ∧ a ≤ 65535)) := by simp only [impl_isPort.f, within_eq, Option.bind_some]
end
section
-- NEEDS impl.segmentOK spec.l02Segment
theorem ite_tf' (p b : Bool) : (if p = true then some b else some false) = some (p && b) := by cases p <;> rfl
def segOKb (a b c d e f : Int) (t : ByteArray) : Bool := decide (0 ≤ a ∧ a ≤ 65535) && (decide (0 ≤ b ∧ b ≤ 65535) && (decide (0 ≤ c ∧ c ≤ 4294967295) && (decide (0 ≤ d ∧ d ≤ 4294967295) && (decide (0 ≤ e ∧ e ≤ 31) && (decide (0 ≤ f ∧ f ≤ 65535) && decide ((t.size : Int) ≤ 360))))))
theorem impl_segmentOK_eq (a b c d e f : Int) (t : ByteArray) : impl_segmentOK.f a b c d e f t = some (segOKb a b c d e f t) := by
  simp only [impl_segmentOK.f, isPort_eq, isAddress_eq, within_eq, Option.bind_some, ite_tf', segOKb]
theorem spec_l02Segment_eq (a b c d e f : Int) (t : ByteArray) : spec_l02Segment.f a b c d e f t = some (segOKb a b c d e f t) := by
  simp only [spec_l02Segment.f, l02Port_eq, l01Ip_eq, l01In_eq, Option.bind_some, ite_tf', segOKb]
theorem segOKb_seq {a b c d e f : Int} {t : ByteArray} (h : segOKb a b c d e f t = true) : (0 ≤ a ∧ a ≤ 65535) ∧ (0 ≤ c ∧ c ≤ 4294967295) ∧ (0 ≤ d ∧ d ≤ 4294967295) ∧ (0 ≤ e ∧ e ≤ 31) ∧ (t.size : Int) ≤ 360 := by
  simp only [segOKb, Bool.and_eq_true, decide_eq_true_eq] at h
  omega
end
section
/-! ### impl_behind: function 63 -/
def impl_behind.f (a0 : Int) (a1 : Int) : Option (Int) := some (Int.tmod (wrap64 ((wrap64 (a0 - a1)) + 4294967296)) 4294967296)
set_option maxHeartbeats 8000000 in
set_option maxRecDepth 100000 in
theorem impl_behind.calls (a0 : Int) (a1 : Int) (r : Int) (w : World) (h : impl_behind.f a0 a1 = some r) :
    Calls Try.prog 63 #[.int .i64 a0, .int .i64 a1] w fun e w' => e = .returned (.int .i64 r) ∧ Drawn0 w w' := by
  have H : (some (Int.tmod (wrap64 ((wrap64 (a0 - a1)) + 4294967296)) 4294967296)) = some r := h
  clear h
  obtain rfl := Option.some.inj H
  go_enter Try.func63, Try.ntmps63
  go_wp2
  go_ret
  exact ⟨by first | rfl | (simp; done) | (simp [*]; done) | (simp [ne_nil_b]; done) | (simp [ne_nil_b, *]; done), by repeat (first | exact Drawn0.refl _ | apply Drawn0.step)⟩
end
section
-- NEEDS spec.l10Seq impl.behind
theorem l10Seq_eq (a : Int) : spec_l10Seq.f a = some (a % 4294967296) := by simp only [spec_l10Seq.f, and32]
end
section
-- NEEDS impl.ConnOpen spec.ConnOpen
def noConn (code : Int) : ByteArray × Int × Int × Int × Int × Int × Int × Int × ByteArray × ByteArray × Bool × (List S53) × Int := ((⟨#[]⟩ : ByteArray), 0, 0, 0, 0, 0, 0, 0, (⟨#[]⟩ : ByteArray), (⟨#[]⟩ : ByteArray), false, [], code)
theorem impl_ConnOpen_j0_true (k : Nat) (m : ByteArray) (ip dst isn a b c d e f : Int) (t : ByteArray) : impl_ConnOpen.j0 (k + 1) m ip dst isn true a b c d e f t = some (noConn 1) := by
  simp [impl_ConnOpen.j0, noConn]
theorem spec_ConnOpen_j0_true (k : Nat) (m : ByteArray) (ip dst isn a b c d e f : Int) (t : ByteArray) : spec_ConnOpen.j0 (k + 1) m ip dst isn true a b c d e f t = some (noConn 1) := by
  simp [spec_ConnOpen.j0, noConn]
def openConn (m : ByteArray) (ip dst isn a c : Int) : ByteArray × Int × Int × Int × Int × Int × Int × Int × ByteArray × ByteArray × Bool × (List S53) × Int :=
  if 0 ≤ isn ∧ isn ≤ 4294967295 then (m, ip, a, dst, 1, isn, (isn + 1) % 4294967296, (c + 1) % 4294967296, (⟨#[]⟩ : ByteArray), (⟨#[]⟩ : ByteArray), false, [⟨80, a, isn, (c + 1) % 4294967296, 18, 1000, (⟨#[]⟩ : ByteArray)⟩], 0) else noConn 4
def connOpenR (m : ByteArray) (ip dst isn a b c d e f : Int) (t : ByteArray) : ByteArray × Int × Int × Int × Int × Int × Int × Int × ByteArray × ByteArray × Bool × (List S53) × Int :=
  if (m.size : Int) > 65536 then noConn 2 else
  if ((m.size : Int) == 6 && (decide (0 ≤ ip ∧ ip ≤ 4294967295) && (decide (0 ≤ dst ∧ dst ≤ 4294967295) && segOKb a b c d e f t))) = true then
    (if 0 ≤ isn ∧ isn ≤ 4294967295 then (if Go.bits .and .i64 e 23 = 2 then openConn m ip dst isn a c else noConn 12) else noConn 4) else noConn 1
theorem impl_ConnOpen_j0_false (k : Nat) (m : ByteArray) (ip dst isn a b c d e f : Int) (t : ByteArray) (h : segOKb a b c d e f t = true) :
    impl_ConnOpen.j0 (k + 1) m ip dst isn false a b c d e f t = some (if 0 ≤ isn ∧ isn ≤ 4294967295 then (if Go.bits .and .i64 e 23 = 2 then openConn m ip dst isn a c else noConn 12) else noConn 4) := by
  obtain ⟨_, hc, _⟩ := segOKb_seq h
  simp only [impl_ConnOpen.j0, isAddress_eq, Option.bind_some]
  rw [if_neg (by decide)]
  by_cases hi : 0 ≤ isn ∧ isn ≤ 4294967295
  · simp only [hi, decide_true, if_true, impl_opens.f, Option.bind_some, impl_newConn.f, onward_eq isn 1 hi (by omega), onward_eq c 1 hc (by omega), impl_Conn_opened.f, impl_Conn_tell.f, openConn, and_self, beq_iff_eq]
    by_cases hf : Go.bits .and .i64 e 23 = 2
    · rw [if_pos hf, if_pos hf]
    · rw [if_neg hf, if_neg hf]
      rfl
  · rw [if_neg (by simpa using hi), if_neg hi]
    rfl
theorem spec_ConnOpen_j0_false (k : Nat) (m : ByteArray) (ip dst isn a b c d e f : Int) (t : ByteArray) (h : segOKb a b c d e f t = true) :
    spec_ConnOpen.j0 (k + 1) m ip dst isn false a b c d e f t = some (if 0 ≤ isn ∧ isn ≤ 4294967295 then (if Go.bits .and .i64 e 23 = 2 then openConn m ip dst isn a c else noConn 12) else noConn 4) := by
  obtain ⟨_, hc, _⟩ := segOKb_seq h
  simp only [spec_ConnOpen.j0, l01Ip_eq, Option.bind_some]
  rw [if_neg (by decide)]
  by_cases hi : 0 ≤ isn ∧ isn ≤ 4294967295
  · have w1 : wrap64 (isn + 1) = isn + 1 := wrap_id (by omega) (by omega)
    have w2 : wrap64 (c + 1) = c + 1 := wrap_id (by omega) (by omega)
    simp only [hi, decide_true, if_true, Option.bind_some, spec_l10Open.f, l10Seq_eq, w1, w2, spec_l10Reply.f, openConn, and_self]
    by_cases hf : Go.bits .and .i64 e 23 = 2
    · rw [if_pos hf, if_pos hf]
    · rw [if_neg hf, if_neg hf]
      rfl
  · rw [if_neg (by simpa using hi), if_neg hi]
    rfl
theorem impl_ConnOpen_eq (k : Nat) (m : ByteArray) (ip dst isn a b c d e f : Int) (t : ByteArray) : impl_ConnOpen.f (k + 1) m ip dst a b c d e f t isn = some (connOpenR m ip dst isn a b c d e f t) := by
  simp only [impl_ConnOpen.f, impl_macOK.f, isAddress_eq, impl_segmentOK_eq, Option.bind_some, impl_ConnOpen_j0_true, connOpenR]
  by_cases hm : (m.size : Int) > 65536
  · rw [if_pos hm, if_pos hm]
    rfl
  rw [if_neg hm, if_neg hm]
  cases hs : segOKb a b c d e f t
  · simp only [Bool.not_false, impl_ConnOpen_j0_true, Bool.and_false, Bool.false_eq_true, if_false, ite_self]
  · simp only [Bool.not_true, impl_ConnOpen_j0_false k m ip dst isn a b c d e f t hs, Bool.and_true]
    cases ((m.size : Int) == 6) <;> cases decide (0 ≤ ip ∧ ip ≤ 4294967295) <;> cases decide (0 ≤ dst ∧ dst ≤ 4294967295) <;> simp
theorem spec_ConnOpen_eq (k : Nat) (m : ByteArray) (ip dst isn a b c d e f : Int) (t : ByteArray) : spec_ConnOpen.f (k + 1) m ip dst a b c d e f t isn = some (connOpenR m ip dst isn a b c d e f t) := by
  simp only [spec_ConnOpen.f, spec_l01Mac.f, l01Ip_eq, spec_l02Segment_eq, Option.bind_some, spec_ConnOpen_j0_true, connOpenR]
  by_cases hm : (m.size : Int) > 65536
  · rw [if_pos hm, if_pos hm]
    rfl
  rw [if_neg hm, if_neg hm]
  cases hs : segOKb a b c d e f t
  · simp only [Bool.not_false, spec_ConnOpen_j0_true, Bool.and_false, Bool.false_eq_true, if_false, ite_self]
  · simp only [Bool.not_true, spec_ConnOpen_j0_false k m ip dst isn a b c d e f t hs, Bool.and_true]
    cases ((m.size : Int) == 6) <;> cases decide (0 ≤ ip ∧ ip ≤ 4294967295) <;> cases decide (0 ≤ dst ∧ dst ≤ 4294967295) <;> simp
theorem connOpenR_len (m : ByteArray) (ip dst isn a b c d e f : Int) (t : ByteArray) : (connOpenR m ip dst isn a b c d e f t).2.2.2.2.2.2.2.2.2.2.2.1.length ≤ 1 := by
  unfold connOpenR openConn noConn
  repeat' split
  all_goals simp
end
section
-- NEEDS laws.eqConn
theorem eqConn_refl (a : ByteArray) (b c d e f g h : Int) (i j : ByteArray) (l : Bool) : laws_eqConn.f a b c d e f g h i j l a b c d e f g h i j l = some true := by
  unfold laws_eqConn.f
  repeat' (first | rw [if_pos rfl] | rfl | rw [if_neg (by simp)])
end
section
theorem eq_T53_refl (x : S53) : laws_eqSegment.f (x.f0) (x.f1) (x.f2) (x.f3) (x.f4) (x.f5) (x.f6) (x.f0) (x.f1) (x.f2) (x.f3) (x.f4) (x.f5) (x.f6) = some true := by
  unfold laws_eqSegment.f
  repeat' (first | rw [if_pos rfl] | rfl | rw [if_neg (by simp)])
  all_goals simp
theorem eqS_T53_l0 (xs : List S53) : ∀ (d : Nat) (i : Int), 0 ≤ i → (xs.length : Int) - i = d → (xs.length : Int) ≤ 1152921504606846976 → Ev (fun k => laws_eqSegmentS.l0 k xs xs i) true := by
  intro d
  induction d with
  | zero =>
    intro i h0 hd hx
    refine ⟨1, fun k hk => ?_⟩
    obtain ⟨k, rfl⟩ : ∃ q, k = q + 1 := ⟨k - 1, by omega⟩
    simp only [laws_eqSegmentS.l0]
    rw [if_neg (by omega)]
  | succ d ih =>
    intro i h0 hd hx
    have hlt : i < (xs.length : Int) := by omega
    have ei : wrap64 (i + 1) = i + 1 := wrap_id (by omega) (by omega)
    refine Ev.step (f := fun k => laws_eqSegmentS.l0 k xs xs (i + 1)) (fun k => ?_) (ih (i + 1) (by omega) (by omega) hx)
    simp only [laws_eqSegmentS.l0, ei]
    rw [if_pos hlt, if_pos h0, if_pos hlt]
    simp only [eq_T53_refl, Option.bind_some, if_true]
theorem eqS_T53_ev (xs : List S53) (hx : (xs.length : Int) ≤ 1152921504606846976) : Ev (fun k => laws_eqSegmentS.f k xs xs) true := by
  refine Ev.congr (f := fun k => laws_eqSegmentS.l0 k xs xs 0) (fun k => ?_) (eqS_T53_l0 xs xs.length 0 (by omega) (by omega) hx)
  simp only [laws_eqSegmentS.f, if_true]
end
section
theorem markText_l0 : ∀ (d : Nat) (n : Int) (s : ByteArray), 0 ≤ n → n.toNat ≤ d → s.size + n.toNat ≤ 4611686018427387904 → ∃ t, laws_markText.l0 (d + 1) n s = some t := by
  intro d
  induction d with
  | zero =>
    intro n s h0 hd hs
    have e : n = 0 := by omega
    subst e
    simp only [laws_markText.l0]
    rw [if_neg (by omega), if_pos (by omega)]
    exact ⟨_, rfl⟩
  | succ d ih =>
    intro n s h0 hd hs
    by_cases hn : n > 0
    · unfold laws_markText.l0
      rw [if_pos hn]
      simp only [Option.bind_some]
      have hz : (strOfNums [wrap64 (48 + Int.tmod n 10) % 256]).size = 1 := rfl
      rw [if_pos (by rw [hz]; omega)]
      have hq : wrap64 (Int.tdiv n 10) = n / 10 := by
        rw [Int.tdiv_eq_ediv_of_nonneg h0]
        exact wrap_id (by omega) (by omega)
      rw [hq]
      refine ih (n / 10) _ (by omega) (by omega) ?_
      rw [ByteArray.size_append, hz]
      omega
    · unfold laws_markText.l0
      rw [if_neg hn, if_pos (by omega)]
      exact ⟨_, rfl⟩
theorem markText_ev (n : Int) (h : n ≤ 2305843009213693952) : ∃ t, Ev (fun k => laws_markText.f k n) t := by
  by_cases h0 : n ≤ 0
  · exact ⟨_, 0, fun k _ => by simp only [laws_markText.f]; rw [if_pos h0]⟩
  · obtain ⟨t, ht⟩ := markText_l0 n.toNat n ⟨#[]⟩ (by omega) (Nat.le_refl _) (by show 0 + _ ≤ _; omega)
    refine ⟨t, Ev.of (laws_markText.mono n) (k := n.toNat + 1) ?_⟩
    simp only [laws_markText.f]
    rw [if_neg h0]
    exact ht
/-- The text that marks a number. -/
noncomputable def mtx (n : Int) : ByteArray := @Classical.epsilon ByteArray ⟨⟨#[]⟩⟩ (fun t => Ev (fun k => laws_markText.f k n) t)
theorem mtx_ev (n : Int) (h : n ≤ 2305843009213693952) : Ev (fun k => laws_markText.f k n) (mtx n) := Classical.epsilon_spec (p := fun t => Ev (fun k => laws_markText.f k n) t) (markText_ev n h)
end
section
theorem rdset_T53 {xs : List S53} {i : Int} (h : i.toNat < xs.length) (v : S53) : rd_T53 (xs.set i.toNat v) i = v := by
  unfold rd_T53
  rw [List.getD_eq_getElem?_getD, List.getElem?_set_self h]
  rfl
theorem rdset_ne_T53 {xs : List S53} {i j : Int} (h0 : 0 ≤ i) (h1 : 0 ≤ j) (h : i ≠ j) (v : S53) : rd_T53 (xs.set i.toNat v) j = rd_T53 xs j := by
  unfold rd_T53
  rw [List.getD_eq_getElem?_getD, List.getElem?_set_ne (by omega), ← List.getD_eq_getElem?_getD]
end
section
noncomputable def mk_T53 (n : Int) : S53 := (⟨n, n + 1, n + 1 + 1, n + 1 + 1 + 1, n + 1 + 1 + 1 + 1, n + 1 + 1 + 1 + 1 + 1, mtx (n + 1 + 1 + 1 + 1 + 1 + 1)⟩ : S53)
set_option maxHeartbeats 2000000 in
theorem mark_T53_l0 : ∀ (d : Nat) (xs : List S53) (m i : Int), 0 ≤ i → (xs.length : Int) - i = d → 0 ≤ m → m + 7 * d ≤ 1152921504606846976 → (xs.length : Int) ≤ 1152921504606846976 →
    ∃ ys : List S53, Ev (fun k => laws_markSegmentS.l0 k xs m i) (m + 7 * d, ys) ∧ ys.length = xs.length ∧ (∀ j : Int, 0 ≤ j → j < i → rd_T53 ys j = rd_T53 xs j) ∧ (∀ j : Int, i ≤ j → j < xs.length → rd_T53 ys j = mk_T53 (m + 7 * (j - i))) := by
  intro d
  induction d with
  | zero =>
    intro xs m i h0 hd hm hb hx
    refine ⟨xs, ⟨1, fun k hk => ?_⟩, rfl, fun _ _ _ => rfl, fun j h1 h2 => by omega⟩
    obtain ⟨k, rfl⟩ : ∃ q, k = q + 1 := ⟨k - 1, by omega⟩
    simp only [laws_markSegmentS.l0]
    rw [if_neg (by omega)]
    simp
  | succ d ih =>
    intro xs m i h0 hd hm hb hx
    have hlt : i < (xs.length : Int) := by omega
    have hn : i.toNat < xs.length := by omega
    have e0 : wrap64 (m + 1) = m + 1 := wrap_id (by omega) (by omega)
    have e1 : wrap64 (m + 1 + 1) = m + 1 + 1 := wrap_id (by omega) (by omega)
    have e2 : wrap64 (m + 1 + 1 + 1) = m + 1 + 1 + 1 := wrap_id (by omega) (by omega)
    have e3 : wrap64 (m + 1 + 1 + 1 + 1) = m + 1 + 1 + 1 + 1 := wrap_id (by omega) (by omega)
    have e4 : wrap64 (m + 1 + 1 + 1 + 1 + 1) = m + 1 + 1 + 1 + 1 + 1 := wrap_id (by omega) (by omega)
    have e5 : wrap64 (m + 1 + 1 + 1 + 1 + 1 + 1) = m + 1 + 1 + 1 + 1 + 1 + 1 := wrap_id (by omega) (by omega)
    have e6 : wrap64 (m + 1 + 1 + 1 + 1 + 1 + 1 + 1) = m + 1 + 1 + 1 + 1 + 1 + 1 + 1 := wrap_id (by omega) (by omega)
    have ei : wrap64 (i + 1) = i + 1 := wrap_id (by omega) (by omega)
    have hl : (xs.set i.toNat (mk_T53 m)).length = xs.length := List.length_set
    obtain ⟨ys, hev, hlen, hold, hnew⟩ := ih (xs.set i.toNat (mk_T53 m)) (m + 1 + 1 + 1 + 1 + 1 + 1 + 1) (i + 1) (by omega) (by rw [hl]; omega) (by omega) (by omega) (by rw [hl]; omega)
    rw [hl] at hlen hnew
    refine ⟨ys, ?_, hlen, fun j h1 h2 => ?_, fun j h1 h2 => ?_⟩
    · have hr : m + 7 * ((d + 1 : Nat) : Int) = m + 1 + 1 + 1 + 1 + 1 + 1 + 1 + 7 * (d : Int) := by omega
      rw [hr]
      refine Ev.step (f := fun k => (laws_markText.f k (m + 1 + 1 + 1 + 1 + 1 + 1)).bind fun t6 => laws_markSegmentS.l0 k (xs.set i.toNat (⟨m, m + 1, m + 1 + 1, m + 1 + 1 + 1, m + 1 + 1 + 1 + 1, m + 1 + 1 + 1 + 1 + 1, t6⟩ : S53)) (m + 1 + 1 + 1 + 1 + 1 + 1 + 1) (i + 1)) (fun k => ?_) ?_
      · simp only [laws_markSegmentS.l0]
        rw [if_pos hlt, if_pos h0]
        simp only [Option.bind_some, List.set_set, rdset_T53 hn, e0, e1, e2, e3, e4, e5, e6, ei]
      · exact Ev.bind (mtx_ev (m + 1 + 1 + 1 + 1 + 1 + 1) (by omega)) (hev)
    · rw [hold j h1 (by omega), rdset_ne_T53 h0 h1 (by omega)]
    · by_cases hji : j = i
      · subst hji
        rw [hold j h0 (by omega), rdset_T53 hn]
        congr 1
        omega
      · rw [hnew j (by omega) h2]
        congr 1
        omega
theorem mark_T53_ev (xs : List S53) (m : Int) (hm : 0 ≤ m) (hb : m + 7 * xs.length ≤ 1152921504606846976) :
    ∃ ys : List S53, Ev (fun k => laws_markSegmentS.f k xs m) (m + 7 * xs.length, ys) ∧ ys.length = xs.length ∧ ∀ j : Int, 0 ≤ j → j < xs.length → rd_T53 ys j = mk_T53 (m + 7 * j) := by
  obtain ⟨ys, hev, hlen, _, hnew⟩ := mark_T53_l0 xs.length xs m 0 (by omega) (by omega) hm hb (by omega)
  exact ⟨ys, hev, hlen, fun j h1 h2 => by have := hnew j h1 h2; rw [Int.sub_zero] at this; exact this⟩
set_option maxHeartbeats 2000000 in
theorem held_T53_l0 : ∀ (d : Nat) (ys : List S53) (m i : Int), 0 ≤ i → (ys.length : Int) - i = d → 0 ≤ m → m + 7 * d ≤ 1152921504606846976 → (ys.length : Int) ≤ 1152921504606846976 →
    (∀ j : Int, i ≤ j → j < ys.length → rd_T53 ys j = mk_T53 (m + 7 * (j - i))) → Ev (fun k => laws_heldSegmentS.l0 k ys m i) (m + 7 * d) := by
  intro d
  induction d with
  | zero =>
    intro ys m i h0 hd hm hb hx _
    refine ⟨1, fun k hk => ?_⟩
    obtain ⟨k, rfl⟩ : ∃ q, k = q + 1 := ⟨k - 1, by omega⟩
    simp only [laws_heldSegmentS.l0]
    rw [if_neg (by omega)]
    simp
  | succ d ih =>
    intro ys m i h0 hd hm hb hx hy
    have hlt : i < (ys.length : Int) := by omega
    have e0 : wrap64 (m + 1) = m + 1 := wrap_id (by omega) (by omega)
    have e1 : wrap64 (m + 1 + 1) = m + 1 + 1 := wrap_id (by omega) (by omega)
    have e2 : wrap64 (m + 1 + 1 + 1) = m + 1 + 1 + 1 := wrap_id (by omega) (by omega)
    have e3 : wrap64 (m + 1 + 1 + 1 + 1) = m + 1 + 1 + 1 + 1 := wrap_id (by omega) (by omega)
    have e4 : wrap64 (m + 1 + 1 + 1 + 1 + 1) = m + 1 + 1 + 1 + 1 + 1 := wrap_id (by omega) (by omega)
    have e5 : wrap64 (m + 1 + 1 + 1 + 1 + 1 + 1) = m + 1 + 1 + 1 + 1 + 1 + 1 := wrap_id (by omega) (by omega)
    have e6 : wrap64 (m + 1 + 1 + 1 + 1 + 1 + 1 + 1) = m + 1 + 1 + 1 + 1 + 1 + 1 + 1 := wrap_id (by omega) (by omega)
    have ei : wrap64 (i + 1) = i + 1 := wrap_id (by omega) (by omega)
    have hev := ih ys (m + 1 + 1 + 1 + 1 + 1 + 1 + 1) (i + 1) (by omega) (by omega) (by omega) (by omega) hx (fun j h1 h2 => by rw [hy j (by omega) h2]; congr 1; omega)
    have hri : rd_T53 ys i = mk_T53 m := by rw [hy i (by omega) hlt]; congr 1; omega
    have hr : m + 7 * ((d + 1 : Nat) : Int) = m + 1 + 1 + 1 + 1 + 1 + 1 + 1 + 7 * (d : Int) := by omega
    rw [hr]
    refine Ev.step (f := fun k => (laws_markText.f k (m + 1 + 1 + 1 + 1 + 1 + 1)).bind fun t6 => if (mtx (m + 1 + 1 + 1 + 1 + 1 + 1)).toList = t6.toList then laws_heldSegmentS.l0 k ys (m + 1 + 1 + 1 + 1 + 1 + 1 + 1) (i + 1) else some (-1)) (fun k => ?_) ?_
    · simp only [laws_heldSegmentS.l0]
      rw [if_pos hlt, if_pos h0]
      simp only [hri, mk_T53, e0, e1, e2, e3, e4, e5, e6, ei, if_true, bne_self_eq_false, Bool.false_eq_true, if_false]
    · exact Ev.bind (mtx_ev (m + 1 + 1 + 1 + 1 + 1 + 1) (by omega)) (Ev.congr (fun k => if_pos rfl) (hev))
theorem held_T53_ev (ys : List S53) (m : Int) (hm : 0 ≤ m) (hb : m + 7 * ys.length ≤ 1152921504606846976) (hy : ∀ j : Int, 0 ≤ j → j < ys.length → rd_T53 ys j = mk_T53 (m + 7 * j)) :
    Ev (fun k => laws_heldSegmentS.f k ys m) (m + 7 * ys.length) :=
  held_T53_l0 ys.length ys m 0 (by omega) (by omega) hm hb (by omega) (fun j h1 h2 => by rw [Int.sub_zero]; exact hy j h1 h2)
end
end Go.Proofs.Ytlpkldomoniegaa.X
