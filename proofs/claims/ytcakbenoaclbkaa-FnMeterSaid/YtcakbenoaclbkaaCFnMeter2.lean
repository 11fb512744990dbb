/- The statement FnMeter holds: it answers true for all arguments. Conditions: none beyond the row's own reach. -/
import Derived.Test.YtcakbenoaclbkaaCFnMeter1
import Derived.Test.YtcakbenoaclbkaaRows
namespace Go.Proofs.Ytcakbenoaclbkaa.X
open Go.RowKit Go.Proofs.YtcakbenoaclbkaaW.PrintWords Go.Proofs.YtcakbenoaclbkaaW.PrintLast Go.Proofs.YtcakbenoaclbkaaW.PrintMore
attribute [local go_sem] max2_int min2_int max_two min_two max_three min_three max_four min_four   -- for this text's walks alone
set_option linter.unusedVariables false
set_option linter.unusedSimpArgs false
section
/-! ### spec_MeanOf: function 9 -/
def spec_MeanOf.l0 : Nat → List Int → Int → Int → Option (Int × Int)
  | 0, _, _, _ => none
  | k + 1, x0, x4, x5 => if x5 < (x0.length : Int) then (if 0 ≤ x5 then ((spec_l06Value.f (rd x0 x5)).bind fun t103 => (if t103 = true then (spec_MeanOf.l0 k x0 (wrap64 (x4 + (rd x0 x5))) (wrap64 (x5 + 1))) else (some (0, 1)))) else (none)) else (if (x0.length : Int) = 0 then (some (0, 5)) else ((spec_l06Floor.f x4 (x0.length : Int)).bind fun t105 => (some (t105, 0))))
def spec_MeanOf.f (k : Nat) (l0 : List Int) : Option (Int × Int) := if (l0.length : Int) > 4096 then (some (0, 2)) else (spec_MeanOf.l0 k l0 0 0)
theorem spec_MeanOf.mono_l : ∀ k, (∀ y0 y1 y2, LeO (spec_MeanOf.l0 k y0 y1 y2) (spec_MeanOf.l0 (k + 1) y0 y1 y2))
  | 0 => fun _ _ _ r h => by simp [spec_MeanOf.l0] at h
  | k + 1 => by
    have ih0 := spec_MeanOf.mono_l k
    · intro y0 y1 y2
      unfold spec_MeanOf.l0
      repeat' first
      | (with_reducible exact ih0 _ _ _)
      | (with_reducible exact LeO.refl _)
      | (with_reducible exact LeO.none _)
      | (with_reducible refine LeO.ite ?_ ?_)
      | (with_reducible refine LeO.bind ?_ (fun _ => ?_))
      | exact ih0 _ _ _
      | exact LeO.none _
      | refine LeO.ite ?_ ?_
      | refine LeO.bind ?_ (fun _ => ?_)
theorem spec_MeanOf.mono : ∀ a0 k, LeO (spec_MeanOf.f k a0) (spec_MeanOf.f (k + 1) a0) := by
  intro a0 k
  have ih0 := spec_MeanOf.mono_l k
  unfold spec_MeanOf.f
  repeat' first
      | (with_reducible exact ih0 _ _ _)
      | (with_reducible exact LeO.refl _)
      | (with_reducible exact LeO.none _)
      | (with_reducible refine LeO.ite ?_ ?_)
      | (with_reducible refine LeO.bind ?_ (fun _ => ?_))
      | exact ih0 _ _ _
      | exact LeO.none _
      | refine LeO.ite ?_ ?_
      | refine LeO.bind ?_ (fun _ => ?_)
set_option maxHeartbeats 8000000 in
set_option maxRecDepth 100000 in
theorem spec_MeanOf.calls (k : Nat) (A0 : Option Addr) (c0 : Nat) (l0 : List Int) (r1 : Int) (r2 : Int) (w : World) (hr0 : Kd.C (Kd.int .i64) w A0 l0.length l0) (hc0 : l0.length ≤ c0) (h : spec_MeanOf.f k l0 = some (r1, r2)) :
    Calls Try.prog 9 #[.slice A0 l0.length c0] w fun e w' => e = .returned (.tuple #[.int .i64 r1, .int .i64 r2]) ∧ Drawn0 w w' := by
  have HR0 := Aside0.mk hr0
  have HC0 := Aside0.mk hc0
  clear hr0 hc0
  have H : (if (l0.length : Int) > 4096 then (some (0, 2)) else (spec_MeanOf.l0 k l0 0 0)) = some (r1, r2) := h
  clear h
  by_cases c2 : (l0.length : Int) > 4096
  · rw [if_pos c2] at H
    have c2b0 : decide (4096 < (l0.length : Int)) = true := decide_eq_true c2
    have c2b1 : decide (4096 < l0.length) = true := decide_eq_true (by omega)
    clear c2
    simp only [Option.some.injEq, Prod.mk.injEq] at H
    obtain ⟨rfl, rfl⟩ := H
    go_enter Try.func9, Try.ntmps9
    go_wp2
    go_ret2
    exact ⟨by first | rfl | (simp; done) | (simp [*]; done) | (simp [ne_nil_b]; done) | (simp [ne_nil_b, *]; done), by repeat (first | exact Drawn0.refl _ | apply Drawn0.step)⟩
  · rw [if_neg c2] at H
    have c2b0 : decide (4096 < (l0.length : Int)) = false := decide_eq_false c2
    have c2b1 : decide (4096 < l0.length) = false := decide_eq_false (by omega)
    clear c2
    have H' := Aside0.mk H
    clear H
    go_enter Try.func9, Try.ntmps9
    go_wp2
    go_loopg [4, 5] k (fun kq v4 v5 w' => ∃ (x4_1 : Int) (x5_1 : Int), v4 = .int .i64 x4_1 ∧ v5 = .int .i64 x5_1 ∧ Aside0 (spec_MeanOf.l0 kq l0 x4_1 x5_1 = some (r1, r2)) ∧ Aside0 (kq ≤ k) ∧ Drawn0 w w')
    case atStart => exact ⟨(0), (0), (by first | rfl | (simp; done) | (simp [*]; done) | (simp [ne_nil_b]; done) | (simp [ne_nil_b, *]; done)), (by first | rfl | (simp; done) | (simp [*]; done) | (simp [ne_nil_b]; done) | (simp [ne_nil_b, *]; done)), H', ⟨Nat.le_refl _⟩, by repeat (first | exact Drawn0.refl _ | apply Drawn0.step)⟩
    case round =>
      clear H'
      try clear c2
      try clear c2b0
      try clear c2b1
      try clear p2
      obtain ⟨x4_1, x5_1, rfl, rfl, HA, HK1, ⟨m1, rfl⟩⟩ := hrel
      cases gk with
      | zero => exact absurd HA.out (by simp [spec_MeanOf.l0])
      | succ k1 =>
        have H := HA.out
        clear HA
        simp only [spec_MeanOf.l0] at H
        by_cases c3 : x5_1 < (l0.length : Int)
        · rw [if_pos c3] at H
          have c3b0 : decide (x5_1 < (l0.length : Int)) = true := decide_eq_true c3
          clear c3
          by_cases c4 : 0 ≤ x5_1
          · rw [if_pos c4] at H
            have c4b0 : decide (0 ≤ x5_1) = true := decide_eq_true c4
            clear c4
            replace H := Option.bind_eq_some_iff.mp H
            obtain ⟨t103, A50, H⟩ := H
            replace H : (if t103 = true then (spec_MeanOf.l0 k1 l0 (wrap64 (x4_1 + (rd l0 x5_1))) (wrap64 (x5_1 + 1))) else (some (0, 1))) = some (r1, r2) := H
            have A5 := Aside0.mk A50
            clear A50
            by_cases c6 : t103 = true
            · subst c6
              have H1 : (spec_MeanOf.l0 k1 l0 (wrap64 (x4_1 + (rd l0 x5_1))) (wrap64 (x5_1 + 1))) = some (r1, r2) := by rw [if_pos rfl] at H; exact H
              clear H
              have H := H1
              clear H1
              have H' := Aside0.mk H
              clear H
              have p102 : 0 ≤ (x5_1 : Int) := of_decide_eq_true (by first | (with_reducible assumption) | assumption)
              have q102 : x5_1 < (l0.length : Int) := of_decide_eq_true (by first | (with_reducible assumption) | assumption)
              obtain ⟨ad102, e102, hx102_0⟩ := Kd.at_int HR0.out x5_1 p102 q102
              cases e102
              replace p102 := eq_true p102
              replace q102 := eq_true q102
              go_wp2_with (first | ((with_reducible refine gate_callee (f := 35) rfl ?_); refine goesL_ (some 19) rfl rfl Try.func35 (by kernel_rfl) rfl #[.int .i64 (rd l0 x5_1)] rfl (by (try simp only [List.map_toArray, List.map_cons, List.map_nil]); first | done | rfl | (simp only [List.length_drop, List.length_take]; rfl)) ?_; (with_reducible refine (spec_l06Value.calls (rd l0 x5_1) true _ A5.out).mono ?_); rintro e w' ⟨rfl, ⟨nd, rfl⟩⟩; refine ⟨_, rfl, ?_⟩; have p104 : 0 ≤ (x5_1 : Int) := of_decide_eq_true (by first | (with_reducible assumption) | assumption); have q104 : x5_1 < (l0.length : Int) := of_decide_eq_true (by first | (with_reducible assumption) | assumption); obtain ⟨ad104, e104, hx104_0⟩ := Kd.at_int HR0.out x5_1 p104 q104; obtain rfl : ad102 = ad104 := (by injection e104); replace p104 := eq_true p104; replace q104 := eq_true q104))
              go_roundg k1
              case measure => have := HK1.out; omega
              case rel => exact ⟨(wrap64 (x4_1 + (rd l0 x5_1))), (wrap64 (x5_1 + 1)), (by first | rfl | (simp; done) | (simp [*]; done) | (simp [ne_nil_b]; done) | (simp [ne_nil_b, *]; done)), (by first | rfl | (simp; done) | (simp [*]; done) | (simp [ne_nil_b]; done) | (simp [ne_nil_b, *]; done)), H', ⟨by have := HK1.out; omega⟩, by repeat (first | exact Drawn0.refl _ | apply Drawn0.step)⟩
            · replace c6 := Bool.eq_false_iff.mpr c6
              subst c6
              have H1 : (some (0, 1)) = some (r1, r2) := by rw [if_neg (show ¬ (false = true) by decide)] at H; exact H
              clear H
              have H := H1
              clear H1
              simp only [Option.some.injEq, Prod.mk.injEq] at H
              obtain ⟨rfl, rfl⟩ := H
              have p102 : 0 ≤ (x5_1 : Int) := of_decide_eq_true (by first | (with_reducible assumption) | assumption)
              have q102 : x5_1 < (l0.length : Int) := of_decide_eq_true (by first | (with_reducible assumption) | assumption)
              obtain ⟨ad102, e102, hx102_0⟩ := Kd.at_int HR0.out x5_1 p102 q102
              cases e102
              replace p102 := eq_true p102
              replace q102 := eq_true q102
              go_wp2_with (first | ((with_reducible refine gate_callee (f := 35) rfl ?_); refine goesL_ (some 19) rfl rfl Try.func35 (by kernel_rfl) rfl #[.int .i64 (rd l0 x5_1)] rfl (by (try simp only [List.map_toArray, List.map_cons, List.map_nil]); first | done | rfl | (simp only [List.length_drop, List.length_take]; rfl)) ?_; (with_reducible refine (spec_l06Value.calls (rd l0 x5_1) false _ A5.out).mono ?_); rintro e w' ⟨rfl, ⟨nd, rfl⟩⟩; refine ⟨_, rfl, ?_⟩))
              go_ret2
              exact ⟨by first | rfl | (simp; done) | (simp [*]; done) | (simp [ne_nil_b]; done) | (simp [ne_nil_b, *]; done), by repeat (first | exact Drawn0.refl _ | apply Drawn0.step)⟩
          · rw [if_neg c4] at H
            exact absurd H (by simp)
        · rw [if_neg c3] at H
          have c3b0 : decide (x5_1 < (l0.length : Int)) = false := decide_eq_false c3
          clear c3
          by_cases c7 : (l0.length : Int) = 0
          · rw [if_pos c7] at H
            have c7b0 : ((l0.length : Int) == 0) = true := beq_iff_eq.mpr c7
            have c7b1 : ((l0.length : Int) != 0) = false := bne_eq_false_iff_eq.mpr c7
            clear c7
            simp only [Option.some.injEq, Prod.mk.injEq] at H
            obtain ⟨rfl, rfl⟩ := H
            go_wp2
            go_ret2
            exact ⟨by first | rfl | (simp; done) | (simp [*]; done) | (simp [ne_nil_b]; done) | (simp [ne_nil_b, *]; done), by repeat (first | exact Drawn0.refl _ | apply Drawn0.step)⟩
          · rw [if_neg c7] at H
            have c7b0 : ((l0.length : Int) == 0) = false := beq_eq_false_iff_ne.mpr c7
            have c7b1 : ((l0.length : Int) != 0) = true := bne_iff_ne.mpr c7
            have c7b2 : ¬ (l0 = []) := fun h_ => c7 (by rw [h_]; rfl)
            replace H := Option.bind_eq_some_iff.mp H
            obtain ⟨t105, A80, H⟩ := H
            replace H : (some (t105, 0)) = some (r1, r2) := H
            have A8 := Aside0.mk A80
            clear A80
            simp only [Option.some.injEq, Prod.mk.injEq] at H
            obtain ⟨rfl, rfl⟩ := H
            go_wp2_with (first | ((with_reducible refine gate_callee (f := 36) rfl ?_); refine goesL_ (some 33) rfl rfl Try.func36 (by kernel_rfl) rfl #[.int .i64 x4_1, .int .i64 (l0.length : Int)] rfl (by (try simp only [List.map_toArray, List.map_cons, List.map_nil]); first | done | rfl | (simp only [List.length_drop, List.length_take]; rfl)) ?_; (with_reducible refine (spec_l06Floor.calls x4_1 (l0.length : Int) t105 _ A8.out).mono ?_); rintro e w' ⟨rfl, ⟨nd, rfl⟩⟩; refine ⟨_, rfl, ?_⟩))
            go_ret2
            exact ⟨by first | rfl | (simp; done) | (simp [*]; done) | (simp [ne_nil_b]; done) | (simp [ne_nil_b, *]; done), by repeat (first | exact Drawn0.refl _ | apply Drawn0.step)⟩
end
section
attribute [local go_sem high] eqA39
/-! ### laws_FnMeter: function 6 -/
mutual
def laws_FnMeter.j0 : Nat → List Int → List Int → Bool → Option (Bool)
  | 0, _, _, _ => none
  | k + 1, x0, x1, x32 => if x32 = true then (some true) else ((some (([] : List Int) : List Int)).bind fun y298 => ((spec_AmountsOf.f k x0).bind fun t301 => (if y298.length + t301.length < 17592186044416 then ((some (y298 ++ t301 : List Int)).bind fun y304 => ((spec_AmountsOf.f k x1).bind fun t307 => (if y304.length + t307.length < 17592186044416 then (laws_FnMeter.l0 k x1 (y304 ++ t307) 0 0 0 0 0) else (none)))) else (none))))
def laws_FnMeter.l0 : Nat → List Int → List Int → Int → Int → Int → Int → Int → Option (Bool)
  | 0, _, _, _, _, _, _, _ => none
  | k + 1, x1, x5, x7, x314000, x314001, x314002, x314003 => if x7 < (x5.length : Int) then (if 0 ≤ x7 then ((impl_MeterAdd.f x314000 x314001 x314002 x314003 (rd x5 x7)).bind fun bt315 => ((spec_MeterAdd.f x314000 x314001 x314002 x314003 (rd x5 x7)).bind fun bt322 => (if bt315.2.2.2.2 = 0 then (if (!(bt315.1 == bt322.1) || (!(bt315.2.1 == bt322.2.1) || (!(bt315.2.2.1 == bt322.2.2.1) || (!(bt315.2.2.2.1 == bt322.2.2.2.1))))) = true then (some false) else (if bt315.1 < bt315.2.1 then (some false) else (if bt315.1 > bt315.2.2.1 then (some false) else (if (rd x5 x7) < bt315.2.1 then (some false) else (if (rd x5 x7) > bt315.2.2.1 then (some false) else (if bt315.2.2.2.1 = (wrap64 (x7 + 1)) then (laws_FnMeter.l0 k x1 x5 (wrap64 (x7 + 1)) bt315.1 bt315.2.1 bt315.2.2.1 bt315.2.2.2.1) else (some false))))))) else (some false)))) else (none)) else ((laws_at.f x1 0 900).bind fun t330 => ((impl_MeanOf.f k (([wrap64 (t330 - 400), wrap64 (t330 - 400), wrap64 (t330 - 400)] : List Int))).bind fun bt334 => ((impl_MeanOf.f k x5).bind fun bt336 => ((spec_MeanOf.f k x5).bind fun bt338 => ((laws_at.f x1 1 500).bind fun t340 => ((laws_at.f x1 2 500).bind fun t341 => ((impl_ShareOf.f k t340 (wrap64 (1 + t341))).bind fun bt342 => ((laws_at.f x1 1 500).bind fun t344 => ((laws_at.f x1 2 500).bind fun t345 => ((spec_ShareOf.f k t344 (wrap64 (1 + t345))).bind fun bt346 => ((impl_ShareOf.f k 7 0).bind fun bt348 => (if bt334.2 = 0 then (if bt334.1 = (wrap64 (t330 - 400)) then (if bt336.2 = bt338.2 then (if bt336.1 = bt338.1 then (if bt342.2 = 0 then (if bt342.1 = bt346.1 then (if bt342.1 ≥ 0 then (if bt342.1 ≤ 1000 then (if bt348.2 = 0 then (some (bt348.1 == 1000)) else (some false)) else (some false)) else (some false)) else (some false)) else (some false)) else (some false)) else (some false)) else (some false)) else (some false)))))))))))))
end
def laws_FnMeter.f (k : Nat) (l0 : List Int) (l1 : List Int) : Option (Bool) := if (l0.length : Int) > 1048576 then (laws_FnMeter.j0 k l0 l1 true) else (laws_FnMeter.j0 k l0 l1 (decide ((l1.length : Int) > 1048576)))
theorem laws_FnMeter.mono_l : ∀ k, (∀ y0 y1 y2, LeO (laws_FnMeter.j0 k y0 y1 y2) (laws_FnMeter.j0 (k + 1) y0 y1 y2)) ∧ (∀ y0 y1 y2 y3 y4 y5 y6, LeO (laws_FnMeter.l0 k y0 y1 y2 y3 y4 y5 y6) (laws_FnMeter.l0 (k + 1) y0 y1 y2 y3 y4 y5 y6))
  | 0 => ⟨fun _ _ _ r h => by simp [laws_FnMeter.j0] at h, fun _ _ _ _ _ _ _ r h => by simp [laws_FnMeter.l0] at h⟩
  | k + 1 => by
    obtain ⟨ih0, ih1⟩ := laws_FnMeter.mono_l k
    refine ⟨?_, ?_⟩
    · intro y0 y1 y2
      unfold laws_FnMeter.j0
      repeat' first
      | (with_reducible exact ih0 _ _ _)
      | (with_reducible exact ih1 _ _ _ _ _ _ _)
      | (with_reducible exact impl_MeanOf.mono _ _)
      | (with_reducible exact impl_ShareOf.mono _ _ _)
      | (with_reducible exact spec_AmountsOf.mono _ _)
      | (with_reducible exact spec_MeanOf.mono _ _)
      | (with_reducible exact spec_ShareOf.mono _ _ _)
      | (with_reducible exact LeO.refl _)
      | (with_reducible exact LeO.none _)
      | (with_reducible refine LeO.ite ?_ ?_)
      | (with_reducible refine LeO.bind ?_ (fun _ => ?_))
      | exact ih0 _ _ _
      | exact ih1 _ _ _ _ _ _ _
      | exact impl_MeanOf.mono _ _
      | exact impl_ShareOf.mono _ _ _
      | exact spec_AmountsOf.mono _ _
      | exact spec_MeanOf.mono _ _
      | exact spec_ShareOf.mono _ _ _
      | exact LeO.none _
      | refine LeO.ite ?_ ?_
      | refine LeO.bind ?_ (fun _ => ?_)
    · intro y0 y1 y2 y3 y4 y5 y6
      unfold laws_FnMeter.l0
      repeat' first
      | (with_reducible exact ih0 _ _ _)
      | (with_reducible exact ih1 _ _ _ _ _ _ _)
      | (with_reducible exact impl_MeanOf.mono _ _)
      | (with_reducible exact impl_ShareOf.mono _ _ _)
      | (with_reducible exact spec_AmountsOf.mono _ _)
      | (with_reducible exact spec_MeanOf.mono _ _)
      | (with_reducible exact spec_ShareOf.mono _ _ _)
      | (with_reducible exact LeO.refl _)
      | (with_reducible exact LeO.none _)
      | (with_reducible refine LeO.ite ?_ ?_)
      | (with_reducible refine LeO.bind ?_ (fun _ => ?_))
      | exact ih0 _ _ _
      | exact ih1 _ _ _ _ _ _ _
      | exact impl_MeanOf.mono _ _
      | exact impl_ShareOf.mono _ _ _
      | exact spec_AmountsOf.mono _ _
      | exact spec_MeanOf.mono _ _
      | exact spec_ShareOf.mono _ _ _
      | exact LeO.none _
      | refine LeO.ite ?_ ?_
      | refine LeO.bind ?_ (fun _ => ?_)
theorem laws_FnMeter.mono : ∀ a0 a1 k, LeO (laws_FnMeter.f k a0 a1) (laws_FnMeter.f (k + 1) a0 a1) := by
  intro a0 a1 k
  obtain ⟨ih0, ih1⟩ := laws_FnMeter.mono_l k
  unfold laws_FnMeter.f
  repeat' first
      | (with_reducible exact ih0 _ _ _)
      | (with_reducible exact ih1 _ _ _ _ _ _ _)
      | (with_reducible exact impl_MeanOf.mono _ _)
      | (with_reducible exact impl_ShareOf.mono _ _ _)
      | (with_reducible exact spec_AmountsOf.mono _ _)
      | (with_reducible exact spec_MeanOf.mono _ _)
      | (with_reducible exact spec_ShareOf.mono _ _ _)
      | (with_reducible exact LeO.refl _)
      | (with_reducible exact LeO.none _)
      | (with_reducible refine LeO.ite ?_ ?_)
      | (with_reducible refine LeO.bind ?_ (fun _ => ?_))
      | exact ih0 _ _ _
      | exact ih1 _ _ _ _ _ _ _
      | exact impl_MeanOf.mono _ _
      | exact impl_ShareOf.mono _ _ _
      | exact spec_AmountsOf.mono _ _
      | exact spec_MeanOf.mono _ _
      | exact spec_ShareOf.mono _ _ _
      | exact LeO.none _
      | refine LeO.ite ?_ ?_
      | refine LeO.bind ?_ (fun _ => ?_)
def laws_FnMeter.T8 : Bool × List (List Nat × List Nat) := (true, [([], []), ([], []), ([], []), ([1, 2], [1, 2]), ([3], [3]), ([0, 4], [0, 4]), ([5], [5]), ([6], [6]), ([6], [6]), ([], []), ([9, 7, 5, 0, 1, 2, 3, 4, 5, 6, 7, 9], [7, 9]), ([8, 10, 0, 1, 2, 3, 4, 5, 6, 7, 8, 9, 10], [8])])
def laws_FnMeter.B8 : List Nat := [0, 0, 0, 6, 14, 31, 63, 127, 127, 0, 767, 2047]
theorem laws_FnMeter.tab8 : rtab .any (opsOf Try.f6 8) = laws_FnMeter.T8 := by kernel_rfl
theorem laws_FnMeter.bits8 : waitsOk laws_FnMeter.T8.2 laws_FnMeter.B8 = true := by kernel_rfl
def laws_FnMeter.T9 : Bool × List (List Nat × List Nat) := (true, [([], []), ([], []), ([], []), ([1, 2], [1, 2]), ([3], [3]), ([0, 4], [0, 4]), ([5], [5]), ([6], [6]), ([6], [6]), ([], []), ([9, 7, 5, 0, 1, 2, 3, 4, 5, 6, 7, 9], [7, 9]), ([8, 10, 0, 1, 2, 3, 4, 5, 6, 7, 8, 9, 10], [8])])
def laws_FnMeter.B9 : List Nat := [0, 0, 0, 6, 14, 31, 63, 127, 127, 0, 767, 2047]
theorem laws_FnMeter.tab9 : rtab .any (opsOf Try.f6 9) = laws_FnMeter.T9 := by kernel_rfl
theorem laws_FnMeter.bits9 : waitsOk laws_FnMeter.T9.2 laws_FnMeter.B9 = true := by kernel_rfl
def laws_FnMeter.T10 : Bool × List (List Nat × List Nat) := (true, [([], []), ([0], [0]), ([1], [1]), ([2], [2]), ([2], [2]), ([3, 4, 2], [2, 3, 4]), ([2, 5], [2, 5]), ([6, 2], [6]), ([7], [7]), ([8, 7], [7, 8]), ([7], [7]), ([10, 7], [7, 10]), ([9, 11, 7], [7, 9, 11]), ([7, 12], [7, 12]), ([13, 7], [13]), ([14], [14]), ([15, 14], [14, 15]), ([14], [14]), ([17, 14], [14, 17]), ([16, 18, 14], [14, 16, 18]), ([14, 19], [14, 19]), ([20, 14], [20]), ([21], [21]), ([21], [21]), ([22, 23, 21], [21, 22, 23]), ([24, 21], [21, 24]), ([21], [21]), ([26, 21], [21, 26]), ([25, 27, 21], [21, 25, 27]), ([21, 28], [21, 28]), ([29, 21], [29]), ([30], [30]), ([30], [30]), ([31, 32, 30], [30, 31, 32]), ([33, 30], [30, 33]), ([30], [30]), ([35, 30], [30, 35]), ([34, 36, 30], [30, 34, 36]), ([30, 37], [30, 37]), ([38, 30], [38]), ([39], [39]), ([40, 39], [39, 40]), ([39], [39]), ([42, 39], [39, 42]), ([41, 43, 39], [39, 41, 43]), ([39, 44], [39, 44])])
def laws_FnMeter.B10 : List Nat := [0, 1, 3, 7, 7, 31, 63, 127, 255, 511, 255, 1279, 4095, 8191, 16383, 32767, 65535, 32767, 163839, 524287, 1048575, 2097151, 4194303, 4194303, 16777215, 33554431, 4194303, 71303167, 268435455, 536870911, 1073741823, 2147483647, 2147483647, 8589934591, 17179869183, 2147483647, 36507222015, 137438953471, 274877906943, 549755813887, 1099511627775, 2199023255551, 1099511627775, 5497558138879, 17592186044415, 35184372088831]
theorem laws_FnMeter.tab10 : rtab .any (opsOf Try.f6 10) = laws_FnMeter.T10 := by kernel_rfl
theorem laws_FnMeter.bits10 : waitsOk laws_FnMeter.T10.2 laws_FnMeter.B10 = true := by kernel_rfl
set_option maxHeartbeats 8000000 in
set_option maxRecDepth 100000 in
theorem laws_FnMeter.calls (k : Nat) (A0 : Option Addr) (c0 : Nat) (l0 : List Int) (A1 : Option Addr) (c1 : Nat) (l1 : List Int) (r : Bool) (w : World) (hr0 : Kd.C (Kd.int .u8) w A0 l0.length l0) (hc0 : l0.length ≤ c0) (hr1 : Kd.C (Kd.int .u8) w A1 l1.length l1) (hc1 : l1.length ≤ c1) (h : laws_FnMeter.f k l0 l1 = some r) (hr_ : r = true) :
    Calls Try.prog 6 #[.slice A0 l0.length c0, .slice A1 l1.length c1] w fun e w' => e = .returned (.bool r) ∧ Below w.heap.size w w' := by
  have HRT_ := Aside0.mk hr_
  clear hr_
  have hu39 := Try.underlying39
  have HR0 := Aside0.mk hr0
  have HC0 := Aside0.mk hc0
  clear hr0 hc0
  have HR1 := Aside0.mk hr1
  have HC1 := Aside0.mk hc1
  clear hr1 hc1
  have HB := Aside0.mk (Below.refl w.heap.size w)
  have H : (if (l0.length : Int) > 1048576 then (laws_FnMeter.j0 k l0 l1 true) else (laws_FnMeter.j0 k l0 l1 (decide ((l1.length : Int) > 1048576)))) = some r := h
  clear h
  have HC3 := Aside0.mk H
  clear H
  go_enter Try.func6, Try.ntmps6
  go_upto_region 1 with (fail)
  go_cut [32] (fun v32 wc => ∃ (kq : Nat) (x32_2 : Bool), v32 = .bool x32_2 ∧ Aside0 (laws_FnMeter.j0 kq l0 l1 x32_2 = some r) ∧ Aside0 (kq ≤ k) ∧ Aside0 (Below w.heap.size w wc))
  case first =>
    have H := HC3.out
    clear HC3
    by_cases c4 : (l0.length : Int) > 1048576
    · rw [if_pos c4] at H
      have c4b0 : decide (1048576 < (l0.length : Int)) = true := decide_eq_true c4
      have c4b1 : decide (1048576 < l0.length) = true := decide_eq_true (by omega)
      clear c4
      (first | rw [c4b0] | (simp only [i64_w, i32_w]; rw [c4b0]) | skip)
      have H' := Aside0.mk H
      clear H
      go_wp2
      go_meet
      case rel => exact ⟨_, (true), (by first | rfl | (simp; done) | (simp [*]; done) | (simp [ne_nil_b]; done) | (simp [ne_nil_b, *]; done)), H', ⟨by first | omega | exact Nat.le_refl _⟩, ⟨by repeat (first | (with_reducible first | exact HB.out | apply below_alloc | apply pw_below_drewN | apply below_drew1) | exact HB.out)⟩⟩
    · rw [if_neg c4] at H
      have c4b0 : decide (1048576 < (l0.length : Int)) = false := decide_eq_false c4
      have c4b1 : decide (1048576 < l0.length) = false := decide_eq_false (by omega)
      clear c4
      (first | rw [c4b0] | (simp only [i64_w, i32_w]; rw [c4b0]) | skip)
      have H' := Aside0.mk H
      clear H
      go_wp2
      go_meet
      case rel => exact ⟨_, (decide ((l1.length : Int) > 1048576)), (by first | rfl | (simp; done) | (simp [*]; done) | (simp [ne_nil_b]; done) | (simp [ne_nil_b, *]; done)), H', ⟨by first | omega | exact Nat.le_refl _⟩, ⟨by repeat (first | (with_reducible first | exact HB.out | apply below_alloc | apply pw_below_drewN | apply below_drew1) | exact HB.out)⟩⟩
  case rest =>
    clear HC3
    try clear c1
    try clear p2
    try clear c4
    try clear c4b0
    try clear c4b1
    obtain ⟨kq, x32_2, rfl, HA, HJ2, HB⟩ := hcut
    cases kq with
    | zero => exact absurd HA.out (by simp [laws_FnMeter.j0])
    | succ kj2 =>
      have H := HA.out
      clear HA
      simp only [laws_FnMeter.j0] at H
      by_cases c5 : x32_2 = true
      · subst c5
        have H1 : (some true) = some r := by rw [if_pos rfl] at H; exact H
        clear H
        have H := H1
        clear H1
        obtain rfl := Option.some.inj H
        go_wp2
        go_ret
        exact ⟨by first | rfl | (simp [errW_none, errW_some] <;> rfl) | (simp [*, errW_none, errW_some] <;> rfl), by repeat (first | (with_reducible first | exact HB.out | apply below_alloc | apply pw_below_drewN | apply below_drew1) | exact HB.out)⟩
      · replace c5 := Bool.eq_false_iff.mpr c5
        subst c5
        have H1 : ((some (([] : List Int) : List Int)).bind fun y298 => ((spec_AmountsOf.f kj2 l0).bind fun t301 => (if y298.length + t301.length < 17592186044416 then ((some (y298 ++ t301 : List Int)).bind fun y304 => ((spec_AmountsOf.f kj2 l1).bind fun t307 => (if y304.length + t307.length < 17592186044416 then (laws_FnMeter.l0 kj2 l1 (y304 ++ t307) 0 0 0 0 0) else (none)))) else (none)))) = some r := by rw [if_neg (show ¬ (false = true) by decide)] at H; exact H
        clear H
        have H := H1
        clear H1
        obtain ⟨y298, hy298⟩ : ∃ y_ : List Int, y_ = (([] : List Int)) := ⟨_, rfl⟩
        replace H : ((spec_AmountsOf.f kj2 l0).bind fun t301 => (if y298.length + t301.length < 17592186044416 then ((some (y298 ++ t301 : List Int)).bind fun y304 => ((spec_AmountsOf.f kj2 l1).bind fun t307 => (if y304.length + t307.length < 17592186044416 then (laws_FnMeter.l0 kj2 l1 (y304 ++ t307) 0 0 0 0 0) else (none)))) else (none))) = some r := by first | (rw [hy298]; with_reducible exact H) | (have H2_ := (Option.bind_some _ _).symm.trans H; rw [hy298]; with_reducible exact H2_) | (have H2_ := (Option.bind_some _ _).symm.trans H; with_reducible exact H2_) | with_reducible exact H | (rw [hy298]; exact H) | exact H
        have Ny298 := Aside0.mk hy298
        clear hy298
        replace H := Option.bind_eq_some_iff.mp H
        obtain ⟨t301, A60, H⟩ := H
        replace H : (if y298.length + t301.length < 17592186044416 then ((some (y298 ++ t301 : List Int)).bind fun y304 => ((spec_AmountsOf.f kj2 l1).bind fun t307 => (if y304.length + t307.length < 17592186044416 then (laws_FnMeter.l0 kj2 l1 (y304 ++ t307) 0 0 0 0 0) else (none)))) else (none)) = some r := H
        have A6 := Aside0.mk A60
        clear A60
        by_cases c7 : y298.length + t301.length < 17592186044416
        · rw [if_pos c7] at H
          have LMc7 := Aside0.mk c7
          clear c7
          obtain ⟨y304, hy304⟩ : ∃ y_ : List Int, y_ = (y298 ++ t301) := ⟨_, rfl⟩
          replace H : ((spec_AmountsOf.f kj2 l1).bind fun t307 => (if y304.length + t307.length < 17592186044416 then (laws_FnMeter.l0 kj2 l1 (y304 ++ t307) 0 0 0 0 0) else (none))) = some r := by first | (rw [hy304]; with_reducible exact H) | (have H2_ := (Option.bind_some _ _).symm.trans H; rw [hy304]; with_reducible exact H2_) | (have H2_ := (Option.bind_some _ _).symm.trans H; with_reducible exact H2_) | with_reducible exact H | (rw [hy304]; exact H) | exact H
          have Ny304 := Aside0.mk hy304
          clear hy304
          replace H := Option.bind_eq_some_iff.mp H
          obtain ⟨t307, A80, H⟩ := H
          replace H : (if y304.length + t307.length < 17592186044416 then (laws_FnMeter.l0 kj2 l1 (y304 ++ t307) 0 0 0 0 0) else (none)) = some r := H
          have A8 := Aside0.mk A80
          clear A80
          by_cases c9 : y304.length + t307.length < 17592186044416
          · rw [if_pos c9] at H
            have LMc9 := Aside0.mk c9
            clear c9
            obtain ⟨y310, hy310⟩ : ∃ y_ : List Int, y_ = (y304 ++ t307) := ⟨_, rfl⟩
            replace H : (laws_FnMeter.l0 kj2 l1 y310 0 0 0 0 0) = some r := by first | (rw [hy310]; with_reducible exact H) | (have H2_ := (Option.bind_some _ _).symm.trans H; rw [hy310]; with_reducible exact H2_) | (have H2_ := (Option.bind_some _ _).symm.trans H; with_reducible exact H2_) | with_reducible exact H | (rw [hy310]; exact H) | exact H
            have Ny310 := Aside0.mk hy310
            clear hy310
            have H' := Aside0.mk H
            clear H
            go_wp2_with (first | ((with_reducible refine gate_dst (N := 33) rfl ?_); (try (refine gate_guard (by rfl) ?_; dsimp only)); refine Kd.R_lit (Kd.int .i64) _ 3 ?hg (N := 33) ?hd (xs := ([] : List Int)) (inner := []) (ok := fun _ => True) (okp := fun _ => True) ?hr ?hp (fun _ hk => hk) trivial (Below.refl _ _) (Nat.le_refl _) (by simp) ?_; (case hd => rfl); (case hg => rfl); (case hr => first | (go_simp; done) | (go_simp; rfl)); (case hp => exact (Reps.none _ _)); intro v299 w10 ho11 hb hg_ hnew_; clear hg_ hnew_; (first | rw [← Ny298.out] at ho11 | (simp only [Int.reduceToNat] at ho11; rw [← Ny298.out] at ho11)); have n0_ := Aside0.mk (Kd.R_lower ho11 (below_size (by repeat (first | (with_reducible first | exact HB.out | apply below_alloc | apply pw_below_drewN | apply below_drew1) | exact HB.out)))); have n1_ := Aside0.mk (below_step (by repeat (first | (with_reducible first | exact HB.out | apply below_alloc | apply pw_below_drewN | apply below_drew1) | exact HB.out)) hb); clear HB; have HO300 := n0_; have HB := n1_; clear n0_ n1_; clear hb ho11) | ((with_reducible refine gate_callee (f := 18) rfl ?_); refine goesL_ (some 35) rfl rfl Try.func18 (by kernel_rfl) rfl #[.slice A0 l0.length c0] rfl (by (try simp only [List.map_toArray, List.map_cons, List.map_nil]); first | done | rfl | (simp only [List.length_drop, List.length_take]; rfl)) ?_; (with_reducible refine (spec_AmountsOf.calls kj2 _ _ l0 t301 _ ?side1 ?side2 A6.out).mono ?_); (case side1 => repeat (first | exact (Kd.C_below HR0.out HB.out) | (with_reducible refine Kd.C_alloc ?_ _) | (with_reducible refine Kd.C_drewN ?_ _) | (with_reducible refine Kd.C_drew ?_))); (case side2 => exact HC0.out); rintro e w12 ⟨v302, rfl, ho0, hb⟩; refine ⟨_, rfl, ?_⟩; have n0_ := Aside0.mk (Kd.R_elder' (by (with_reducible repeat (first | apply Kd.R_alloc | apply Kd.R_drewN | apply Kd.R_drew)); exact HO300.out) (Kd.R_base ho0) hb); have n1_ := Aside0.mk (Kd.R_lower (Kd.R_new' ho0 (Kd.R_lt (by (with_reducible repeat (first | apply Kd.R_alloc | apply Kd.R_drewN | apply Kd.R_drew)); exact HO300.out))) (below_size (by repeat (first | (with_reducible first | exact HB.out | apply below_alloc | apply pw_below_drewN | apply below_drew1) | exact HB.out)))); have n2_ := Aside0.mk (below_step (by repeat (first | (with_reducible first | exact HB.out | apply below_alloc | apply pw_below_drewN | apply below_drew1) | exact HB.out)) hb); clear HO300; clear HB; have HO300 := n0_; have HO303 := n1_; have HB := n2_; clear n0_ n1_ n2_; (try clear hb); (try clear hb2); (try clear hk); (try clear hi); (try clear ho0); obtain ⟨Ao14, co14, eo14⟩ := Kd.R_slice HO303.out; subst eo14) | ((with_reducible refine gate_builtin (b := .append) (xs := #[.tmp 33, .tmp 35]) rfl ?_); (try (refine gate_guard (by rfl) ?_; dsimp only)); at_builtin; refine Kd.R_append_rows (Kd.int .i64) (w0 := w) w.heap.size rfl (.tmp 33) (.tmp 35) 22 3 (.int .i64 0) 8 rfl Try.underlying22 info3 rfl (by decide) (by omega) v299 y298 t301 _ _ _ (fun k_ => some k_ ≠ (.slice Ao14 t301.length co14 : Value).ownBlock) (fun _ => False) rfl rfl ?aO ?aR (fun _ _ h => h) (fun _ h => h.elim) ?aF ?aB ?aS ?aL ?_; (case aR => repeat (first | exact (Kd.R_reads' HO303.out).2.2 | (with_reducible refine Kd.C_alloc ?_ _) | (with_reducible refine Kd.C_drewN ?_ _) | (with_reducible refine Kd.C_drew ?_))); (case aB => exact (by repeat (first | (with_reducible first | exact HB.out | apply below_alloc | apply pw_below_drewN | apply below_drew1) | exact HB.out))); (case aF => exact (fun k_ hk => Kd.fresh' (Kd.R_lt (by (with_reducible repeat (first | apply Kd.R_alloc | apply Kd.R_drewN | apply Kd.R_drew)); exact HO303.out)) k_ hk)); (case aO => exact (by (with_reducible repeat (first | apply Kd.R_alloc | apply Kd.R_drewN | apply Kd.R_drew)); exact Kd.R_mono HO300.out (fun _ hk => hk.2))); (case aS => exact (below_size (by repeat (first | (with_reducible first | exact HB.out | apply below_alloc | apply pw_below_drewN | apply below_drew1) | exact HB.out)))); (case aL => have := LMc7.out; omega); intro v305 w13 ho hb hg hat; rw [← Ny304.out] at ho; have n0_ := Aside0.mk (Kd.R_after (ok := (fun _ => True)) (by (with_reducible repeat (first | apply Kd.R_alloc | apply Kd.R_drewN | apply Kd.R_drew)); exact HO303.out) hg hat); have n1_ := Aside0.mk (hb); have n2_ := Aside0.mk (ho); clear HO303; clear HB; clear HO300; have HO303 := n0_; have HB := n1_; have HO306 := n2_; clear n0_ n1_ n2_; clear ho hb hg hat) | ((with_reducible refine gate_callee (f := 18) rfl ?_); refine goesL_ (some 38) rfl rfl Try.func18 (by kernel_rfl) rfl #[.slice A1 l1.length c1] rfl (by (try simp only [List.map_toArray, List.map_cons, List.map_nil]); first | done | rfl | (simp only [List.length_drop, List.length_take]; rfl)) ?_; (with_reducible refine (spec_AmountsOf.calls kj2 _ _ l1 t307 _ ?side1 ?side2 A8.out).mono ?_); (case side1 => repeat (first | exact (Kd.C_below HR1.out HB.out) | (with_reducible refine Kd.C_alloc ?_ _) | (with_reducible refine Kd.C_drewN ?_ _) | (with_reducible refine Kd.C_drew ?_))); (case side2 => exact HC1.out); rintro e w15 ⟨v308, rfl, ho0, hb⟩; refine ⟨_, rfl, ?_⟩; have n0_ := Aside0.mk (Kd.R_elder' (by (with_reducible repeat (first | apply Kd.R_alloc | apply Kd.R_drewN | apply Kd.R_drew)); exact HO303.out) (Kd.R_base ho0) hb); have n1_ := Aside0.mk (Kd.R_elder' (by (with_reducible repeat (first | apply Kd.R_alloc | apply Kd.R_drewN | apply Kd.R_drew)); exact HO306.out) (Kd.R_base ho0) hb); have n2_ := Aside0.mk (Kd.R_lower (Kd.R_new' (Kd.R_new' ho0 (Kd.R_lt (by (with_reducible repeat (first | apply Kd.R_alloc | apply Kd.R_drewN | apply Kd.R_drew)); exact HO303.out))) (Kd.R_lt (by (with_reducible repeat (first | apply Kd.R_alloc | apply Kd.R_drewN | apply Kd.R_drew)); exact HO306.out))) (below_size (by repeat (first | (with_reducible first | exact HB.out | apply below_alloc | apply pw_below_drewN | apply below_drew1) | exact HB.out)))); have n3_ := Aside0.mk (below_step (by repeat (first | (with_reducible first | exact HB.out | apply below_alloc | apply pw_below_drewN | apply below_drew1) | exact HB.out)) hb); clear HO303; clear HO306; clear HB; have HO303 := n0_; have HO306 := n1_; have HO309 := n2_; have HB := n3_; clear n0_ n1_ n2_ n3_; (try clear hb); (try clear hb2); (try clear hk); (try clear hi); (try clear ho0); obtain ⟨Ao17, co17, eo17⟩ := Kd.R_slice HO309.out; subst eo17) | ((with_reducible refine gate_builtin (b := .append) (xs := #[.tmp 36, .tmp 38]) rfl ?_); (try (refine gate_guard (by rfl) ?_; dsimp only)); at_builtin; refine Kd.R_append_rows (Kd.int .i64) (w0 := w) w.heap.size rfl (.tmp 36) (.tmp 38) 22 3 (.int .i64 0) 8 rfl Try.underlying22 info3 rfl (by decide) (by omega) v305 y304 t307 _ _ _ (fun k_ => some k_ ≠ (.slice Ao14 t301.length co14 : Value).ownBlock ∧ some k_ ≠ (.slice Ao17 t307.length co17 : Value).ownBlock) (fun _ => False) rfl rfl ?aO ?aR (fun _ _ h => h) (fun _ h => h.elim) ?aF ?aB ?aS ?aL ?_; (case aR => repeat (first | exact (Kd.R_reads' HO309.out).2.2 | (with_reducible refine Kd.C_alloc ?_ _) | (with_reducible refine Kd.C_drewN ?_ _) | (with_reducible refine Kd.C_drew ?_))); (case aB => exact (by repeat (first | (with_reducible first | exact HB.out | apply below_alloc | apply pw_below_drewN | apply below_drew1) | exact HB.out))); (case aF => exact (fun k_ hk => ⟨Kd.fresh' (Kd.R_lt (by (with_reducible repeat (first | apply Kd.R_alloc | apply Kd.R_drewN | apply Kd.R_drew)); exact HO303.out)) k_ hk, Kd.fresh' (Kd.R_lt (by (with_reducible repeat (first | apply Kd.R_alloc | apply Kd.R_drewN | apply Kd.R_drew)); exact HO309.out)) k_ hk⟩)); (case aO => exact (by (with_reducible repeat (first | apply Kd.R_alloc | apply Kd.R_drewN | apply Kd.R_drew)); exact HO306.out)); (case aS => exact (below_size (by repeat (first | (with_reducible first | exact HB.out | apply below_alloc | apply pw_below_drewN | apply below_drew1) | exact HB.out)))); (case aL => have := LMc9.out; omega); intro v311 w16 ho hb hg hat; rw [← Ny310.out] at ho; have n0_ := Aside0.mk (Kd.R_after (ok := (fun k_ => some k_ ≠ (.slice Ao17 t307.length co17 : Value).ownBlock)) (by (with_reducible repeat (first | apply Kd.R_alloc | apply Kd.R_drewN | apply Kd.R_drew)); exact Kd.R_mono HO303.out (fun _ hk => ⟨hk.2, hk.1.2⟩)) hg hat); have n1_ := Aside0.mk (Kd.R_after (ok := (fun k_ => some k_ ≠ (.slice Ao14 t301.length co14 : Value).ownBlock)) (by (with_reducible repeat (first | apply Kd.R_alloc | apply Kd.R_drewN | apply Kd.R_drew)); exact Kd.R_mono HO309.out (fun _ hk => ⟨hk.1.2, hk.2⟩)) hg hat); have n2_ := Aside0.mk (hb); have n3_ := Aside0.mk (ho); clear HO303; clear HO309; clear HB; clear HO306; have HO303 := n0_; have HO309 := n1_; have HB := n2_; have HO312 := n3_; clear n0_ n1_ n2_ n3_; clear ho hb hg hat) | ((with_reducible refine gate_dst (N := 6) rfl ?_); (try (refine gate_guard (by rfl) ?_; dsimp only)); refine box_event ?hg (N := 6) ?hd (cs := #[.int .i64 0, .int .i64 0, .int .i64 0, .int .i64 0]) (t := 39) ?hr ?_; (case hd => rfl); (case hg => rfl); (case hr => first | (go_simp; done) | (go_simp; rfl)); intro gb313 hg w18 hbox hb; have n0_ := Aside0.mk (Kd.R_below (by (with_reducible repeat (first | apply Kd.R_alloc | apply Kd.R_drewN | apply Kd.R_drew)); exact HO303.out) hb); have n1_ := Aside0.mk (Kd.R_below (by (with_reducible repeat (first | apply Kd.R_alloc | apply Kd.R_drewN | apply Kd.R_drew)); exact HO309.out) hb); have n2_ := Aside0.mk (Kd.R_below (by (with_reducible repeat (first | apply Kd.R_alloc | apply Kd.R_drewN | apply Kd.R_drew)); exact HO312.out) hb); have n3_ := Aside0.mk (below_step (by repeat (first | (with_reducible first | exact HB.out | apply below_alloc | apply pw_below_drewN | apply below_drew1) | exact HB.out)) hb); have n4_ := Aside0.mk (hbox); have n5_ := Aside0.mk ((by rw [hg]; exact (below_size (by repeat (first | (with_reducible first | exact HB.out | apply below_alloc | apply pw_below_drewN | apply below_drew1) | exact HB.out))) : w.heap.size ≤ gb313)); have n6_ := Aside0.mk ((by rw [hg]; exact (below_size (by repeat (first | (with_reducible first | exact HB.out | apply below_alloc | apply pw_below_drewN | apply below_drew1) | exact HB.out))) : w.heap.size ≤ gb313)); clear HO303; clear HO309; clear HO312; clear HB; have HO303 := n0_; have HO309 := n1_; have HO312 := n2_; have HB := n3_; have BK313 := n4_; have GW313 := n5_; have GE313 := n6_; clear n0_ n1_ n2_ n3_ n4_ n5_ n6_; clear hb hbox hg; have hcz19_0 : w18.cell? ⟨gb313, 0, none⟩ = some (.int .i64 0) := (blk_cell BK313.out 0).trans rfl; have hcz19_1 : w18.cell? ⟨gb313, 1, none⟩ = some (.int .i64 0) := (blk_cell BK313.out 1).trans rfl; have hcz19_2 : w18.cell? ⟨gb313, 2, none⟩ = some (.int .i64 0) := (blk_cell BK313.out 2).trans rfl; have hcz19_3 : w18.cell? ⟨gb313, 3, none⟩ = some (.int .i64 0) := (blk_cell BK313.out 3).trans rfl; have hfz19_0 := blk_frozen BK313.out 0; have hfz19_1 := blk_frozen BK313.out 1; have hfz19_2 := blk_frozen BK313.out 2; have hfz19_3 := blk_frozen BK313.out 3))
            go_loopg [7] kj2 (fun kq v7 w' => ∃ (x7_2 : Int) (x314000_2 : Int) (x314001_2 : Int) (x314002_2 : Int) (x314003_2 : Int), v7 = .int .i64 x7_2 ∧ Aside0 (laws_FnMeter.l0 kq l1 y310 x7_2 x314000_2 x314001_2 x314002_2 x314003_2 = some r) ∧ Aside0 (kq ≤ kj2) ∧ Aside0 (Kd.R (Kd.int .i64) 3 w' w.heap.size (fun _ => True) v311 y310) ∧ Aside0 (w'.heap[gb313]? = some (.cells #[.int .i64 x314000_2, .int .i64 x314001_2, .int .i64 x314002_2, .int .i64 x314003_2] 39 (0, 0))) ∧ Aside0 (Below w.heap.size w w'))
            case atStart => exact ⟨(0), (0), (0), (0), (0), (by first | rfl | (simp; done) | (simp [*]; done) | (simp [ne_nil_b]; done) | (simp [ne_nil_b, *]; done)), H', ⟨Nat.le_refl _⟩, ⟨by (with_reducible repeat (first | apply Kd.R_alloc | apply Kd.R_drewN | apply Kd.R_drew)); exact Kd.R_mono (Kd.R_far (p := ⟨gb313, 3, none⟩) (Kd.R_far (p := ⟨gb313, 2, none⟩) (Kd.R_far (p := ⟨gb313, 1, none⟩) (Kd.R_far (p := ⟨gb313, 0, none⟩) (Kd.R_types HO312.out BK313.out (by decide)) (fun _ hk => hk.2) (.int .i64 0)) (fun _ hk => hk.2) (.int .i64 0)) (fun _ hk => hk.2) (.int .i64 0)) (fun _ hk => hk.2) (.int .i64 0)) (fun _ hk => trivial)⟩, ⟨by (with_reducible repeat (first | refine blk_drewN ?_ _ | refine blk_drew ?_ | refine blk_alloc ?_ _)); refine blk_put (cs := #[.int .i64 0, .int .i64 0, .int .i64 0, .int .i64 0]) ?_ 3 _ rfl; (with_reducible repeat (first | refine blk_drewN ?_ _ | refine blk_drew ?_ | refine blk_alloc ?_ _)); refine blk_put (cs := #[.int .i64 0, .int .i64 0, .int .i64 0, .int .i64 0]) ?_ 2 _ rfl; (with_reducible repeat (first | refine blk_drewN ?_ _ | refine blk_drew ?_ | refine blk_alloc ?_ _)); refine blk_put (cs := #[.int .i64 0, .int .i64 0, .int .i64 0, .int .i64 0]) ?_ 1 _ rfl; (with_reducible repeat (first | refine blk_drewN ?_ _ | refine blk_drew ?_ | refine blk_alloc ?_ _)); refine blk_put (cs := #[.int .i64 0, .int .i64 0, .int .i64 0, .int .i64 0]) ?_ 0 _ rfl; (with_reducible repeat (first | refine blk_drewN ?_ _ | refine blk_drew ?_ | refine blk_alloc ?_ _)); exact BK313.out⟩, ⟨by repeat (first | (with_reducible first | exact HB.out | apply below_alloc | apply pw_below_drewN | apply below_drew1 | refine below_set ?_ GE313.out) | exact HB.out)⟩⟩
            case round =>
              clear H'
              try clear c1
              try clear p2
              try clear c4
              try clear c4b0
              try clear c4b1
              try clear c5
              try clear c6
              try clear c7
              try clear c9
              try clear c18
              try clear hcz19_0
              try clear hcz19_1
              try clear hcz19_2
              try clear hcz19_3
              try clear hfz19_0
              try clear hfz19_1
              try clear hfz19_2
              try clear hfz19_3
              try clear p2
              obtain ⟨x7_2, x314000_2, x314001_2, x314002_2, x314003_2, rfl, HA, HK2, HO_5, BK313, HB⟩ := hrel
              cases gk with
              | zero => exact absurd HA.out (by simp [laws_FnMeter.l0])
              | succ k2 =>
                have H := HA.out
                clear HA
                simp only [laws_FnMeter.l0] at H
                by_cases c20 : x7_2 < (y310.length : Int)
                · rw [if_pos c20] at H
                  have c20b0 : decide (x7_2 < (y310.length : Int)) = true := decide_eq_true c20
                  clear c20
                  by_cases c21 : 0 ≤ x7_2
                  · rw [if_pos c21] at H
                    have c21b0 : decide (0 ≤ x7_2) = true := decide_eq_true c21
                    clear c21
                    replace H := Option.bind_eq_some_iff.mp H
                    obtain ⟨⟨t315, t316, t317, t318, t319⟩, A220, H⟩ := H
                    replace H : ((spec_MeterAdd.f x314000_2 x314001_2 x314002_2 x314003_2 (rd y310 x7_2)).bind fun bt322 => (if t319 = 0 then (if (!(t315 == bt322.1) || (!(t316 == bt322.2.1) || (!(t317 == bt322.2.2.1) || (!(t318 == bt322.2.2.2.1))))) = true then (some false) else (if t315 < t316 then (some false) else (if t315 > t317 then (some false) else (if (rd y310 x7_2) < t316 then (some false) else (if (rd y310 x7_2) > t317 then (some false) else (if t318 = (wrap64 (x7_2 + 1)) then (laws_FnMeter.l0 k2 l1 y310 (wrap64 (x7_2 + 1)) t315 t316 t317 t318) else (some false))))))) else (some false))) = some r := H
                    have A22 := Aside0.mk A220
                    clear A220
                    replace H := Option.bind_eq_some_iff.mp H
                    obtain ⟨⟨t322, t323, t324, t325, t326⟩, A230, H⟩ := H
                    replace H : (if t319 = 0 then (if (!(t315 == t322) || (!(t316 == t323) || (!(t317 == t324) || (!(t318 == t325))))) = true then (some false) else (if t315 < t316 then (some false) else (if t315 > t317 then (some false) else (if (rd y310 x7_2) < t316 then (some false) else (if (rd y310 x7_2) > t317 then (some false) else (if t318 = (wrap64 (x7_2 + 1)) then (laws_FnMeter.l0 k2 l1 y310 (wrap64 (x7_2 + 1)) t315 t316 t317 t318) else (some false))))))) else (some false)) = some r := H
                    have A23 := Aside0.mk A230
                    clear A230
                    by_cases c24 : t319 = 0
                    · rw [if_pos c24] at H
                      have c24b0 : (t319 == 0) = true := beq_iff_eq.mpr c24
                      have c24b1 : (t319 != 0) = false := bne_eq_false_iff_eq.mpr c24
                      clear c24
                      by_cases c25 : (!(t315 == t322) || (!(t316 == t323) || (!(t317 == t324) || (!(t318 == t325))))) = true
                      · rw [if_pos c25] at H
                        have c25b0 : (!(t315 == t322) || (!(t316 == t323) || (!(t317 == t324) || (!(t318 == t325))))) = true := c25
                        clear c25
                        exact absurd ((Option.some.inj H).trans HRT_.out) (by decide)
                      · rw [if_neg c25] at H
                        have c25b0 : (!(t315 == t322) || (!(t316 == t323) || (!(t317 == t324) || (!(t318 == t325))))) = false := by simpa using c25
                        clear c25
                        by_cases c46 : t315 < t316
                        · rw [if_pos c46] at H
                          have c46b0 : decide (t315 < t316) = true := decide_eq_true c46
                          clear c46
                          exact absurd ((Option.some.inj H).trans HRT_.out) (by decide)
                        · rw [if_neg c46] at H
                          have c46b0 : decide (t315 < t316) = false := decide_eq_false c46
                          clear c46
                          by_cases c67 : t315 > t317
                          · rw [if_pos c67] at H
                            have c67b0 : decide (t317 < t315) = true := decide_eq_true c67
                            clear c67
                            exact absurd ((Option.some.inj H).trans HRT_.out) (by decide)
                          · rw [if_neg c67] at H
                            have c67b0 : decide (t317 < t315) = false := decide_eq_false c67
                            clear c67
                            by_cases c88 : (rd y310 x7_2) < t316
                            · rw [if_pos c88] at H
                              have c88b0 : decide ((rd y310 x7_2) < t316) = true := decide_eq_true c88
                              clear c88
                              exact absurd ((Option.some.inj H).trans HRT_.out) (by decide)
                            · rw [if_neg c88] at H
                              have c88b0 : decide ((rd y310 x7_2) < t316) = false := decide_eq_false c88
                              clear c88
                              by_cases c109 : (rd y310 x7_2) > t317
                              · rw [if_pos c109] at H
                                have c109b0 : decide (t317 < (rd y310 x7_2)) = true := decide_eq_true c109
                                clear c109
                                exact absurd ((Option.some.inj H).trans HRT_.out) (by decide)
                              · rw [if_neg c109] at H
                                have c109b0 : decide (t317 < (rd y310 x7_2)) = false := decide_eq_false c109
                                clear c109
                                by_cases c130 : t318 = (wrap64 (x7_2 + 1))
                                · rw [if_pos c130] at H
                                  have c130b0 : (t318 == (wrap64 (x7_2 + 1))) = true := beq_iff_eq.mpr c130
                                  have c130b1 : (t318 != (wrap64 (x7_2 + 1))) = false := bne_eq_false_iff_eq.mpr c130
                                  clear c130
                                  have H' := Aside0.mk H
                                  clear H
                                  obtain ⟨Ao131, co131, eo131⟩ := Kd.R_slice HO_5.out
                                  subst eo131
                                  try go_wp2
                                  have n0_ := Aside0.mk (Kd.R_drew HO_5.out)
                                  have n1_ := Aside0.mk (blk_drew BK313.out)
                                  have n2_ := Aside0.mk (below_drew1 HB.out)
                                  clear HO_5
                                  clear BK313
                                  clear HB
                                  have HO_5 := n0_
                                  have BK313 := n1_
                                  have HB := n2_
                                  clear n0_ n1_ n2_
                                  have p314 : 0 ≤ (x7_2 : Int) := of_decide_eq_true (by first | (with_reducible assumption) | assumption)
                                  have q314 : x7_2 < (y310.length : Int) := of_decide_eq_true (by first | (with_reducible assumption) | assumption)
                                  obtain ⟨ad314, e314, hx314_0⟩ := Kd.at_int (Kd.R_reads' HO_5.out).2.2 x7_2 p314 q314
                                  cases e314
                                  replace p314 := eq_true p314
                                  replace q314 := eq_true q314
                                  refine start_ (n := 12) (S := fun w' => w'.cell? ⟨gb313, 0, none⟩ = some (.int .i64 x314000_2) ∧ w'.cell? ⟨gb313, 1, none⟩ = some (.int .i64 x314001_2) ∧ w'.cell? ⟨gb313, 2, none⟩ = some (.int .i64 x314002_2) ∧ w'.cell? ⟨gb313, 3, none⟩ = some (.int .i64 x314003_2) ∧ w'.cell? (ad314.add (x7_2).toNat) = some (.int .i64 (rd y310 x7_2))) (ds := []) #[false, false, false, false, false, false, false, false, false, false, false, false] (by kernel_rfl) rfl rfl ⟨(blk_cell BK313.out 0).trans rfl, (blk_cell BK313.out 1).trans rfl, (blk_cell BK313.out 2).trans rfl, (blk_cell BK313.out 3).trans rfl, hx314_0⟩ (fun hHeld => ?_); refine with_tabW laws_FnMeter.tab8 laws_FnMeter.bits8 (fun HT_ HW_ => ?_)
                                  generalize wr.drew = w132 at HO_5 BK313 HB hx314_0 hHeld ⊢
                                  refine pure_ (i := 1) (N := some 49) (v := ?_) (a' := ?_) #[false, true, false, false, false, false, false, false, false, false, false, false] rfl rfl (any_of HT_.out (by kernel_rfl)) (fun _ _ _ h => h) (Or.inl ⟨by rfl, ?_⟩) ?_ ?_
                                  rotate_left
                                  · intro w'
                                    go_simp
                                    with_reducible rfl
                                  rotate_left
                                  · simp only [Act.put, List.setIfInBounds_toArray, List.set_cons_zero, List.set_cons_succ, i64_w, i32_w]
                                    rfl
                                  refine pure_ (i := 2) (N := some 50) (v := ?_) (a' := ?_) #[false, true, true, false, false, false, false, false, false, false, false, false] rfl rfl (any_of HT_.out (by kernel_rfl)) (fun _ _ _ h => h) (Or.inl ⟨by rfl, ?_⟩) ?_ ?_
                                  rotate_left
                                  · intro w'
                                    go_simp
                                    with_reducible rfl
                                  rotate_left
                                  · simp only [Act.put, List.setIfInBounds_toArray, List.set_cons_zero, List.set_cons_succ, i64_w, i32_w]
                                    rfl
                                  refine pure_ (i := 3) (N := some 51) (v := ?_) (a' := ?_) #[false, true, true, true, false, false, false, false, false, false, false, false] rfl rfl (any_of HT_.out (by kernel_rfl)) (fun _ _ _ h => h) (Or.inl ⟨by rfl, ?_⟩) ?_ ?_
                                  rotate_left
                                  · intro w'
                                    go_simp
                                    with_reducible rfl
                                  rotate_left
                                  · simp only [Act.put, List.setIfInBounds_toArray, List.set_cons_zero, List.set_cons_succ, i64_w, i32_w]
                                    rfl
                                  refine take_ (i := 0) (N := some 48) (v := ?_) (a' := ?_) #[true, true, true, true, false, false, false, false, false, false, false, false] rfl rfl (take_ofW HT_.out HW_.out (by kernel_rfl)) (fun _ _ _ h => h) (Or.inl ⟨by rfl, ?_⟩) hHeld ?_ ?_
                                  rotate_left
                                  · rintro w' ⟨s0, s1, s2, s3, s4⟩
                                    go_simp
                                    with_reducible rfl
                                  rotate_left
                                  · simp only [Act.put, List.setIfInBounds_toArray, List.set_cons_zero, List.set_cons_succ, i64_w, i32_w]
                                    rfl
                                  refine take_ (i := 4) (N := some 52) (v := ?_) (a' := ?_) #[true, true, true, true, true, false, false, false, false, false, false, false] rfl rfl (take_ofW HT_.out HW_.out (by kernel_rfl)) (fun _ _ _ h => h) (Or.inl ⟨by rfl, ?_⟩) hHeld ?_ ?_
                                  rotate_left
                                  · rintro w' ⟨s0, s1, s2, s3, s4⟩
                                    go_simp
                                    with_reducible rfl
                                  rotate_left
                                  · simp only [Act.put, List.setIfInBounds_toArray, List.set_cons_zero, List.set_cons_succ, i64_w, i32_w]
                                    rfl
                                  refine join_ (σ := Nat) 2 #[true, true, true, true, true, true, true, true, true, true, false, false] (fun s_ => [(53, .tuple #[.agg #[.int .i64 t315, .int .i64 t316, .int .i64 t317, .int .i64 t318], .int .i64 t319]), (8, .pointer (some ⟨s_, 0, none⟩)), (47, .tuple #[.agg #[.int .i64 t315, .int .i64 t316, .int .i64 t317, .int .i64 t318], .int .i64 t319]), (54, .agg #[.int .i64 t315, .int .i64 t316, .int .i64 t317, .int .i64 t318]), (55, .int .i64 t319)]) (fun s_ w' => (w'.cell? ⟨gb313, 0, none⟩ = some (.int .i64 x314000_2) ∧ w'.cell? ⟨gb313, 1, none⟩ = some (.int .i64 x314001_2) ∧ w'.cell? ⟨gb313, 2, none⟩ = some (.int .i64 x314002_2) ∧ w'.cell? ⟨gb313, 3, none⟩ = some (.int .i64 x314003_2) ∧ w'.cell? (ad314.add (x7_2).toNat) = some (.int .i64 (rd y310 x7_2))) ∧ (Kd.R (Kd.int .i64) 3 w' w.heap.size (fun _ => True) (.slice (some ad314) y310.length co131) y310) ∧ (w'.heap[gb313]? = some (.cells #[.int .i64 x314000_2, .int .i64 x314001_2, .int .i64 x314002_2, .int .i64 x314003_2] 39 (0, 0))) ∧ (w'.heap[s_]? = some (.cells #[.int .i64 0, .int .i64 0, .int .i64 0, .int .i64 0] 39 (0, 0))) ∧ (w.heap.size ≤ s_) ∧ (w.heap.size ≤ s_) ∧ (gb313 ≠ s_) ∧ (s_ ≠ gb313) ∧ (Below w.heap.size w w')) ?_ ?_
                                  rotate_left
                                  · intro hCont
                                    refine two_ (i := 5) (j := 9) (Ni := some 53) (Nj := some 8) #[true, true, true, true, true, true, false, false, false, false, false, false] #[true, true, true, true, true, false, false, false, false, true, false, false] rfl rfl rfl rfl (two_of HT_.out (by kernel_rfl)) (by decide) (by decide) (fun K hK => ?_) (fun K hK => ?_)
                                    · skip
                                      refine goes_ Try.func19 (by kernel_rfl) rfl #[.agg #[.int .i64 x314000_2, .int .i64 x314001_2, .int .i64 x314002_2, .int .i64 x314003_2], .int .i64 (rd y310 x7_2)] (by rfl) rfl rfl (by (try simp only [List.map_toArray, List.map_cons, List.map_nil]); first | done | rfl | (simp only [List.length_drop, List.length_take]; rfl)) ?_
                                      with_reducible refine (impl_MeterAdd.calls x314000_2 x314001_2 x314002_2 x314003_2 (rd y310 x7_2) t315 t316 t317 t318 t319 _ A22.out).mono ?_
                                      rintro e w133 ⟨rfl, hb⟩
                                      have HS4_ := (hb.cell (World.block_lt_of_cell? _ _ (hHeld.2.2.2.2))).trans (hHeld.2.2.2.2)
                                      refine ⟨_, rfl, ?_⟩
                                      have n0_ := Aside0.mk (Kd.R_below (by (with_reducible repeat (first | apply Kd.R_alloc | apply Kd.R_drewN | apply Kd.R_drew)); exact HO_5.out) hb)
                                      have n1_ := Aside0.mk (blk_below (g := gb313) (o := .cells #[.int .i64 x314000_2, .int .i64 x314001_2, .int .i64 x314002_2, .int .i64 x314003_2] 39 (0, 0)) (by (with_reducible repeat (first | refine blk_drewN ?_ _ | refine blk_drew ?_ | refine blk_alloc ?_ _)); exact BK313.out) hb)
                                      have n2_ := Aside0.mk (below_step (by repeat (first | (with_reducible first | exact HB.out | apply below_alloc | apply pw_below_drewN | apply below_drew1 | refine below_set ?_ GE313.out) | exact HB.out)) hb)
                                      clear HO_5
                                      clear BK313
                                      clear HB
                                      have HO_5 := n0_
                                      have BK313 := n1_
                                      have HB := n2_
                                      clear n0_ n1_ n2_
                                      (try clear hb)
                                      (try clear hb2)
                                      (try clear hk)
                                      (try clear hi)
                                      refine hK.out _ _ ⟨(blk_cell BK313.out 0).trans rfl, (blk_cell BK313.out 1).trans rfl, (blk_cell BK313.out 2).trans rfl, (blk_cell BK313.out 3).trans rfl, HS4_⟩ (fun hHeld => ?_)
                                      clear hK K
                                      refine norm_ (a' := ?_) ?_ ?_
                                      rotate_left
                                      · show Act.put _ (some 53) _ = _
                                        simp only [Act.put, List.setIfInBounds_toArray, List.set_cons_zero, List.set_cons_succ, i64_w, i32_w]
                                        rfl
                                      refine pure_ (i := 6) (N := some 47) (v := ?_) (a' := ?_) #[true, true, true, true, true, true, true, false, false, false, false, false] rfl rfl (any_of HT_.out (by kernel_rfl)) (fun _ _ _ h => h) (Or.inl ⟨by rfl, ?_⟩) ?_ ?_
                                      rotate_left
                                      · intro w'
                                        go_simp
                                        with_reducible rfl
                                      rotate_left
                                      · simp only [Act.put, List.setIfInBounds_toArray, List.set_cons_zero, List.set_cons_succ, i64_w, i32_w]
                                        rfl
                                      refine pure_ (i := 7) (N := some 54) (v := ?_) (a' := ?_) #[true, true, true, true, true, true, true, true, false, false, false, false] rfl rfl (any_of HT_.out (by kernel_rfl)) (fun _ _ _ h => h) (Or.inl ⟨by rfl, ?_⟩) ?_ ?_
                                      rotate_left
                                      · intro w'
                                        go_simp
                                        with_reducible rfl
                                      rotate_left
                                      · simp only [Act.put, List.setIfInBounds_toArray, List.set_cons_zero, List.set_cons_succ, i64_w, i32_w]
                                        rfl
                                      refine pure_ (i := 8) (N := some 55) (v := ?_) (a' := ?_) #[true, true, true, true, true, true, true, true, true, false, false, false] rfl rfl (any_of HT_.out (by kernel_rfl)) (fun _ _ _ h => h) (Or.inl ⟨by rfl, ?_⟩) ?_ ?_
                                      rotate_left
                                      · intro w'
                                        go_simp
                                        with_reducible rfl
                                      rotate_left
                                      · simp only [Act.put, List.setIfInBounds_toArray, List.set_cons_zero, List.set_cons_succ, i64_w, i32_w]
                                        rfl
                                      refine one_ (i := 9) (N := some 8) #[true, true, true, true, true, true, true, true, true, true, false, false] rfl rfl (one_of HT_.out (by kernel_rfl)) (by decide) (fun K hK => ?_)
                                      refine box_step ?hg (N := 8) ?hd (cs := #[.int .i64 0, .int .i64 0, .int .i64 0, .int .i64 0]) (t := 39) ?hr ?_; (case hd => rfl); (case hg => rfl); (case hr => first | (go_simp; done) | (go_simp; rfl))
                                      intro gb320 hg w134 hbox hb
                                      have HS4_ := (hb.cell (World.block_lt_of_cell? _ _ (hHeld.2.2.2.2))).trans (hHeld.2.2.2.2)
                                      have n0_ := Aside0.mk (Kd.R_below (by (with_reducible repeat (first | apply Kd.R_alloc | apply Kd.R_drewN | apply Kd.R_drew)); exact HO_5.out) hb)
                                      have n1_ := Aside0.mk (blk_below (g := gb313) (o := .cells #[.int .i64 x314000_2, .int .i64 x314001_2, .int .i64 x314002_2, .int .i64 x314003_2] 39 (0, 0)) (by (with_reducible repeat (first | refine blk_drewN ?_ _ | refine blk_drew ?_ | refine blk_alloc ?_ _)); exact BK313.out) hb)
                                      have n2_ := Aside0.mk (below_step (by repeat (first | (with_reducible first | exact HB.out | apply below_alloc | apply pw_below_drewN | apply below_drew1 | refine below_set ?_ GE313.out) | exact HB.out)) hb)
                                      have n3_ := Aside0.mk (hbox)
                                      have n4_ := Aside0.mk ((by rw [hg]; exact (below_size (by repeat (first | (with_reducible first | exact HB.out | apply below_alloc | apply pw_below_drewN | apply below_drew1 | refine below_set ?_ GE313.out) | exact HB.out))) : w.heap.size ≤ gb320))
                                      have n5_ := Aside0.mk ((by rw [hg]; exact (below_size (by repeat (first | (with_reducible first | exact HB.out | apply below_alloc | apply pw_below_drewN | apply below_drew1 | refine below_set ?_ GE313.out) | exact HB.out))) : w.heap.size ≤ gb320))
                                      have n6_ := Aside0.mk ((by rw [hg]; exact Nat.ne_of_lt (blk_lt (g := gb313) (o := .cells #[.int .i64 x314000_2, .int .i64 x314001_2, .int .i64 x314002_2, .int .i64 x314003_2] 39 (0, 0)) (by (with_reducible repeat (first | refine blk_drewN ?_ _ | refine blk_drew ?_ | refine blk_alloc ?_ _)); exact BK313.out)) : gb313 ≠ gb320))
                                      have n7_ := Aside0.mk ((by rw [hg]; exact Nat.ne_of_gt (blk_lt (g := gb313) (o := .cells #[.int .i64 x314000_2, .int .i64 x314001_2, .int .i64 x314002_2, .int .i64 x314003_2] 39 (0, 0)) (by (with_reducible repeat (first | refine blk_drewN ?_ _ | refine blk_drew ?_ | refine blk_alloc ?_ _)); exact BK313.out)) : gb320 ≠ gb313))
                                      clear HO_5
                                      clear BK313
                                      clear HB
                                      have HO_5 := n0_
                                      have BK313 := n1_
                                      have HB := n2_
                                      have BK320 := n3_
                                      have GW320 := n4_
                                      have GE320 := n5_
                                      have NB313_320 := n6_
                                      have NB320_313 := n7_
                                      clear n0_ n1_ n2_ n3_ n4_ n5_ n6_ n7_
                                      clear hb hbox hg
                                      refine hK.out _ _ ⟨(blk_cell BK313.out 0).trans rfl, (blk_cell BK313.out 1).trans rfl, (blk_cell BK313.out 2).trans rfl, (blk_cell BK313.out 3).trans rfl, HS4_⟩ (fun hHeld => ?_)
                                      clear hK K
                                      refine norm_ (a' := ?_) ?_ ?_
                                      rotate_left
                                      · show Act.put _ (some 8) _ = _
                                        simp only [Act.put, List.setIfInBounds_toArray, List.set_cons_zero, List.set_cons_succ, i64_w, i32_w]
                                        rfl
                                      exact norm_ (by simp only [putAll, Act.put, List.setIfInBounds_toArray, List.set_cons_zero, List.set_cons_succ]) (hCont (gb320) _ ⟨hHeld, (by (with_reducible repeat (first | apply Kd.R_alloc | apply Kd.R_drewN | apply Kd.R_drew)); exact HO_5.out), (by (with_reducible repeat (first | refine blk_drewN ?_ _ | refine blk_drew ?_ | refine blk_alloc ?_ _)); exact BK313.out), (by (with_reducible repeat (first | refine blk_drewN ?_ _ | refine blk_drew ?_ | refine blk_alloc ?_ _)); exact BK320.out), GW320.out, GE320.out, NB313_320.out, NB320_313.out, (by repeat (first | (with_reducible first | exact HB.out | apply below_alloc | apply pw_below_drewN | apply below_drew1 | refine below_set ?_ GE313.out | refine below_set ?_ GE320.out) | exact HB.out))⟩)
                                    · skip
                                      refine box_step ?hg (N := 8) ?hd (cs := #[.int .i64 0, .int .i64 0, .int .i64 0, .int .i64 0]) (t := 39) ?hr ?_; (case hd => rfl); (case hg => rfl); (case hr => first | (go_simp; done) | (go_simp; rfl))
                                      intro gb320 hg w133 hbox hb
                                      have HS4_ := (hb.cell (World.block_lt_of_cell? _ _ (hHeld.2.2.2.2))).trans (hHeld.2.2.2.2)
                                      have n0_ := Aside0.mk (Kd.R_below (by (with_reducible repeat (first | apply Kd.R_alloc | apply Kd.R_drewN | apply Kd.R_drew)); exact HO_5.out) hb)
                                      have n1_ := Aside0.mk (blk_below (g := gb313) (o := .cells #[.int .i64 x314000_2, .int .i64 x314001_2, .int .i64 x314002_2, .int .i64 x314003_2] 39 (0, 0)) (by (with_reducible repeat (first | refine blk_drewN ?_ _ | refine blk_drew ?_ | refine blk_alloc ?_ _)); exact BK313.out) hb)
                                      have n2_ := Aside0.mk (below_step (by repeat (first | (with_reducible first | exact HB.out | apply below_alloc | apply pw_below_drewN | apply below_drew1 | refine below_set ?_ GE313.out) | exact HB.out)) hb)
                                      have n3_ := Aside0.mk (hbox)
                                      have n4_ := Aside0.mk ((by rw [hg]; exact (below_size (by repeat (first | (with_reducible first | exact HB.out | apply below_alloc | apply pw_below_drewN | apply below_drew1 | refine below_set ?_ GE313.out) | exact HB.out))) : w.heap.size ≤ gb320))
                                      have n5_ := Aside0.mk ((by rw [hg]; exact (below_size (by repeat (first | (with_reducible first | exact HB.out | apply below_alloc | apply pw_below_drewN | apply below_drew1 | refine below_set ?_ GE313.out) | exact HB.out))) : w.heap.size ≤ gb320))
                                      have n6_ := Aside0.mk ((by rw [hg]; exact Nat.ne_of_lt (blk_lt (g := gb313) (o := .cells #[.int .i64 x314000_2, .int .i64 x314001_2, .int .i64 x314002_2, .int .i64 x314003_2] 39 (0, 0)) (by (with_reducible repeat (first | refine blk_drewN ?_ _ | refine blk_drew ?_ | refine blk_alloc ?_ _)); exact BK313.out)) : gb313 ≠ gb320))
                                      have n7_ := Aside0.mk ((by rw [hg]; exact Nat.ne_of_gt (blk_lt (g := gb313) (o := .cells #[.int .i64 x314000_2, .int .i64 x314001_2, .int .i64 x314002_2, .int .i64 x314003_2] 39 (0, 0)) (by (with_reducible repeat (first | refine blk_drewN ?_ _ | refine blk_drew ?_ | refine blk_alloc ?_ _)); exact BK313.out)) : gb320 ≠ gb313))
                                      clear HO_5
                                      clear BK313
                                      clear HB
                                      have HO_5 := n0_
                                      have BK313 := n1_
                                      have HB := n2_
                                      have BK320 := n3_
                                      have GW320 := n4_
                                      have GE320 := n5_
                                      have NB313_320 := n6_
                                      have NB320_313 := n7_
                                      clear n0_ n1_ n2_ n3_ n4_ n5_ n6_ n7_
                                      clear hb hbox hg
                                      refine hK.out _ _ ⟨(blk_cell BK313.out 0).trans rfl, (blk_cell BK313.out 1).trans rfl, (blk_cell BK313.out 2).trans rfl, (blk_cell BK313.out 3).trans rfl, HS4_⟩ (fun hHeld => ?_)
                                      clear hK K
                                      refine norm_ (a' := ?_) ?_ ?_
                                      rotate_left
                                      · show Act.put _ (some 8) _ = _
                                        simp only [Act.put, List.setIfInBounds_toArray, List.set_cons_zero, List.set_cons_succ, i64_w, i32_w]
                                        rfl
                                      refine one_ (i := 5) (N := some 53) #[true, true, true, true, true, true, false, false, false, true, false, false] rfl rfl (one_of HT_.out (by kernel_rfl)) (by decide) (fun K hK => ?_)
                                      refine goes_ Try.func19 (by kernel_rfl) rfl #[.agg #[.int .i64 x314000_2, .int .i64 x314001_2, .int .i64 x314002_2, .int .i64 x314003_2], .int .i64 (rd y310 x7_2)] (by rfl) rfl rfl (by (try simp only [List.map_toArray, List.map_cons, List.map_nil]); first | done | rfl | (simp only [List.length_drop, List.length_take]; rfl)) ?_
                                      with_reducible refine (impl_MeterAdd.calls x314000_2 x314001_2 x314002_2 x314003_2 (rd y310 x7_2) t315 t316 t317 t318 t319 _ A22.out).mono ?_
                                      rintro e w134 ⟨rfl, hb⟩
                                      have HS4_ := (hb.cell (World.block_lt_of_cell? _ _ (hHeld.2.2.2.2))).trans (hHeld.2.2.2.2)
                                      refine ⟨_, rfl, ?_⟩
                                      have n0_ := Aside0.mk (Kd.R_below (by (with_reducible repeat (first | apply Kd.R_alloc | apply Kd.R_drewN | apply Kd.R_drew)); exact HO_5.out) hb)
                                      have n1_ := Aside0.mk (blk_below (g := gb313) (o := .cells #[.int .i64 x314000_2, .int .i64 x314001_2, .int .i64 x314002_2, .int .i64 x314003_2] 39 (0, 0)) (by (with_reducible repeat (first | refine blk_drewN ?_ _ | refine blk_drew ?_ | refine blk_alloc ?_ _)); exact BK313.out) hb)
                                      have n2_ := Aside0.mk (blk_below (g := gb320) (o := .cells #[.int .i64 0, .int .i64 0, .int .i64 0, .int .i64 0] 39 (0, 0)) (by (with_reducible repeat (first | refine blk_drewN ?_ _ | refine blk_drew ?_ | refine blk_alloc ?_ _)); exact BK320.out) hb)
                                      have n3_ := Aside0.mk (below_step (by repeat (first | (with_reducible first | exact HB.out | apply below_alloc | apply pw_below_drewN | apply below_drew1 | refine below_set ?_ GE313.out | refine below_set ?_ GE320.out) | exact HB.out)) hb)
                                      clear HO_5
                                      clear BK313
                                      clear BK320
                                      clear HB
                                      have HO_5 := n0_
                                      have BK313 := n1_
                                      have BK320 := n2_
                                      have HB := n3_
                                      clear n0_ n1_ n2_ n3_
                                      (try clear hb)
                                      (try clear hb2)
                                      (try clear hk)
                                      (try clear hi)
                                      refine hK.out _ _ ⟨(blk_cell BK313.out 0).trans rfl, (blk_cell BK313.out 1).trans rfl, (blk_cell BK313.out 2).trans rfl, (blk_cell BK313.out 3).trans rfl, HS4_⟩ (fun hHeld => ?_)
                                      clear hK K
                                      refine norm_ (a' := ?_) ?_ ?_
                                      rotate_left
                                      · show Act.put _ (some 53) _ = _
                                        simp only [Act.put, List.setIfInBounds_toArray, List.set_cons_zero, List.set_cons_succ, i64_w, i32_w]
                                        rfl
                                      refine pure_ (i := 6) (N := some 47) (v := ?_) (a' := ?_) #[true, true, true, true, true, true, true, false, false, true, false, false] rfl rfl (any_of HT_.out (by kernel_rfl)) (fun _ _ _ h => h) (Or.inl ⟨by rfl, ?_⟩) ?_ ?_
                                      rotate_left
                                      · intro w'
                                        go_simp
                                        with_reducible rfl
                                      rotate_left
                                      · simp only [Act.put, List.setIfInBounds_toArray, List.set_cons_zero, List.set_cons_succ, i64_w, i32_w]
                                        rfl
                                      refine pure_ (i := 7) (N := some 54) (v := ?_) (a' := ?_) #[true, true, true, true, true, true, true, true, false, true, false, false] rfl rfl (any_of HT_.out (by kernel_rfl)) (fun _ _ _ h => h) (Or.inl ⟨by rfl, ?_⟩) ?_ ?_
                                      rotate_left
                                      · intro w'
                                        go_simp
                                        with_reducible rfl
                                      rotate_left
                                      · simp only [Act.put, List.setIfInBounds_toArray, List.set_cons_zero, List.set_cons_succ, i64_w, i32_w]
                                        rfl
                                      refine pure_ (i := 8) (N := some 55) (v := ?_) (a' := ?_) #[true, true, true, true, true, true, true, true, true, true, false, false] rfl rfl (any_of HT_.out (by kernel_rfl)) (fun _ _ _ h => h) (Or.inl ⟨by rfl, ?_⟩) ?_ ?_
                                      rotate_left
                                      · intro w'
                                        go_simp
                                        with_reducible rfl
                                      rotate_left
                                      · simp only [Act.put, List.setIfInBounds_toArray, List.set_cons_zero, List.set_cons_succ, i64_w, i32_w]
                                        rfl
                                      exact norm_ (by simp only [putAll, Act.put, List.setIfInBounds_toArray, List.set_cons_zero, List.set_cons_succ]) (hCont (gb320) _ ⟨hHeld, (by (with_reducible repeat (first | apply Kd.R_alloc | apply Kd.R_drewN | apply Kd.R_drew)); exact HO_5.out), (by (with_reducible repeat (first | refine blk_drewN ?_ _ | refine blk_drew ?_ | refine blk_alloc ?_ _)); exact BK313.out), (by (with_reducible repeat (first | refine blk_drewN ?_ _ | refine blk_drew ?_ | refine blk_alloc ?_ _)); exact BK320.out), GW320.out, GE320.out, NB313_320.out, NB320_313.out, (by repeat (first | (with_reducible first | exact HB.out | apply below_alloc | apply pw_below_drewN | apply below_drew1 | refine below_set ?_ GE313.out | refine below_set ?_ GE320.out) | exact HB.out))⟩)
                                  rintro gb320 w135 ⟨hS_, h0_, h1_, h2_, h3_, h4_, h5_, h6_, h7_⟩
                                  have n0_ : Aside0 (Kd.R (Kd.int .i64) 3 w135 w.heap.size (fun _ => True) (.slice (some ad314) y310.length co131) y310) := ⟨h0_⟩
                                  have n1_ : Aside0 (w135.heap[gb313]? = some (.cells #[.int .i64 x314000_2, .int .i64 x314001_2, .int .i64 x314002_2, .int .i64 x314003_2] 39 (0, 0))) := ⟨h1_⟩
                                  have n2_ : Aside0 (w135.heap[gb320]? = some (.cells #[.int .i64 0, .int .i64 0, .int .i64 0, .int .i64 0] 39 (0, 0))) := ⟨h2_⟩
                                  have n3_ : Aside0 (w.heap.size ≤ gb320) := ⟨h3_⟩
                                  have n4_ : Aside0 (w.heap.size ≤ gb320) := ⟨h4_⟩
                                  have n5_ : Aside0 (gb313 ≠ gb320) := ⟨h5_⟩
                                  have n6_ : Aside0 (gb320 ≠ gb313) := ⟨h6_⟩
                                  have n7_ : Aside0 (Below w.heap.size w w135) := ⟨h7_⟩
                                  clear HO_5
                                  clear BK313
                                  clear HB
                                  clear h0_ h1_ h2_ h3_ h4_ h5_ h6_ h7_
                                  have HO_5 := n0_
                                  have BK313 := n1_
                                  have BK320 := n2_
                                  have GW320 := n3_
                                  have GE320 := n4_
                                  have NB313_320 := n5_
                                  have NB320_313 := n6_
                                  have HB := n7_
                                  clear n0_ n1_ n2_ n3_ n4_ n5_ n6_ n7_
                                  have hHeld : w135.cell? ⟨gb313, 0, none⟩ = some (.int .i64 x314000_2) ∧ w135.cell? ⟨gb313, 1, none⟩ = some (.int .i64 x314001_2) ∧ w135.cell? ⟨gb313, 2, none⟩ = some (.int .i64 x314002_2) ∧ w135.cell? ⟨gb313, 3, none⟩ = some (.int .i64 x314003_2) ∧ w135.cell? (ad314.add (x7_2).toNat) = some (.int .i64 (rd y310 x7_2)) := hS_
                                  refine norm_ (a' := ?_) ?_ ?_
                                  rotate_left
                                  · simp only [putAll, Act.put, List.setIfInBounds_toArray, List.set_cons_zero, List.set_cons_succ]
                                    rfl
                                  refine one_ (i := 10) (N := none) #[true, true, true, true, true, true, true, true, true, true, true, false] rfl rfl (one_of HT_.out (by kernel_rfl)) (by decide) (fun K hK => ?_)
                                  have hs136 : w135.cell? ⟨gb320, 0, none⟩ = some (.int .i64 0) := (blk_cell BK320.out 0).trans rfl
                                  have hfs136 := blk_frozen BK320.out 0
                                  have hns136_0 := NB313_320.out
                                  have hms136_0 := NB320_313.out
                                  have hs137 : w135.cell? ⟨gb320, 1, none⟩ = some (.int .i64 0) := (blk_cell BK320.out 1).trans rfl
                                  have hfs137 := blk_frozen BK320.out 1
                                  have hns137_0 := NB313_320.out
                                  have hms137_0 := NB320_313.out
                                  have hs138 : w135.cell? ⟨gb320, 2, none⟩ = some (.int .i64 0) := (blk_cell BK320.out 2).trans rfl
                                  have hfs138 := blk_frozen BK320.out 2
                                  have hns138_0 := NB313_320.out
                                  have hms138_0 := NB320_313.out
                                  have hs139 : w135.cell? ⟨gb320, 3, none⟩ = some (.int .i64 0) := (blk_cell BK320.out 3).trans rfl
                                  have hfs139 := blk_frozen BK320.out 3
                                  have hns139_0 := NB313_320.out
                                  have hms139_0 := NB320_313.out
                                  refine skip_ (w1 := ?_) (by rfl) rfl ?_ ?_
                                  rotate_left
                                  · go_simp
                                    rfl
                                  refine hK.out _ _ ⟨((cell_far (p := ⟨gb320, _, none⟩) NB313_320.out _).trans (((cell_far (p := ⟨gb320, _, none⟩) NB313_320.out _).trans (((cell_far (p := ⟨gb320, _, none⟩) NB313_320.out _).trans (((cell_far (p := ⟨gb320, _, none⟩) NB313_320.out _).trans (hHeld.1)))))))), ((cell_far (p := ⟨gb320, _, none⟩) NB313_320.out _).trans (((cell_far (p := ⟨gb320, _, none⟩) NB313_320.out _).trans (((cell_far (p := ⟨gb320, _, none⟩) NB313_320.out _).trans (((cell_far (p := ⟨gb320, _, none⟩) NB313_320.out _).trans (hHeld.2.1)))))))), ((cell_far (p := ⟨gb320, _, none⟩) NB313_320.out _).trans (((cell_far (p := ⟨gb320, _, none⟩) NB313_320.out _).trans (((cell_far (p := ⟨gb320, _, none⟩) NB313_320.out _).trans (((cell_far (p := ⟨gb320, _, none⟩) NB313_320.out _).trans (hHeld.2.2.1)))))))), ((cell_far (p := ⟨gb320, _, none⟩) NB313_320.out _).trans (((cell_far (p := ⟨gb320, _, none⟩) NB313_320.out _).trans (((cell_far (p := ⟨gb320, _, none⟩) NB313_320.out _).trans (((cell_far (p := ⟨gb320, _, none⟩) NB313_320.out _).trans (hHeld.2.2.2.1)))))))), ((cell_far (p := ⟨gb320, _, none⟩) (by first | exact Kd.own_blk (Kd.R_ne HO_5.out BK320.out (by decide)) | (rw [add_block]; exact Kd.own_blk (Kd.R_ne HO_5.out BK320.out (by decide))) | (show (Addr.add _ _).block ≠ _; rw [add_block]; exact Kd.own_blk (Kd.R_ne HO_5.out BK320.out (by decide))) | (dsimp only; exact Kd.own_blk (Kd.R_ne HO_5.out BK320.out (by decide)))) _).trans (((cell_far (p := ⟨gb320, _, none⟩) (by first | exact Kd.own_blk (Kd.R_ne HO_5.out BK320.out (by decide)) | (rw [add_block]; exact Kd.own_blk (Kd.R_ne HO_5.out BK320.out (by decide))) | (show (Addr.add _ _).block ≠ _; rw [add_block]; exact Kd.own_blk (Kd.R_ne HO_5.out BK320.out (by decide))) | (dsimp only; exact Kd.own_blk (Kd.R_ne HO_5.out BK320.out (by decide)))) _).trans (((cell_far (p := ⟨gb320, _, none⟩) (by first | exact Kd.own_blk (Kd.R_ne HO_5.out BK320.out (by decide)) | (rw [add_block]; exact Kd.own_blk (Kd.R_ne HO_5.out BK320.out (by decide))) | (show (Addr.add _ _).block ≠ _; rw [add_block]; exact Kd.own_blk (Kd.R_ne HO_5.out BK320.out (by decide))) | (dsimp only; exact Kd.own_blk (Kd.R_ne HO_5.out BK320.out (by decide)))) _).trans (((cell_far (p := ⟨gb320, _, none⟩) (by first | exact Kd.own_blk (Kd.R_ne HO_5.out BK320.out (by decide)) | (rw [add_block]; exact Kd.own_blk (Kd.R_ne HO_5.out BK320.out (by decide))) | (show (Addr.add _ _).block ≠ _; rw [add_block]; exact Kd.own_blk (Kd.R_ne HO_5.out BK320.out (by decide))) | (dsimp only; exact Kd.own_blk (Kd.R_ne HO_5.out BK320.out (by decide)))) _).trans (hHeld.2.2.2.2))))))))⟩ (fun hHeld => ?_)
                                  clear hK K
                                  refine pure_ (i := 11) (N := some 9) (v := ?_) (a' := ?_) #[true, true, true, true, true, true, true, true, true, true, true, true] rfl rfl (any_of HT_.out (by kernel_rfl)) (fun _ _ _ h => h) (Or.inl ⟨by rfl, ?_⟩) ?_ ?_
                                  rotate_left
                                  · intro w'
                                    go_simp
                                    with_reducible rfl
                                  rotate_left
                                  · simp only [Act.put, List.setIfInBounds_toArray, List.set_cons_zero, List.set_cons_succ, i64_w, i32_w]
                                    rfl
                                  refine done_ (done_of HT_.out (by kernel_rfl)) ?_
                                  try go_wp2
                                  have n0_ : Aside0 (Kd.R (Kd.int .i64) 3 ((((w135.setCell ⟨gb320, 0, none⟩ (.int .i64 t315)).setCell ⟨gb320, 1, none⟩ (.int .i64 t316)).setCell ⟨gb320, 2, none⟩ (.int .i64 t317)).setCell ⟨gb320, 3, none⟩ (.int .i64 t318)) w.heap.size (fun _ => True) (.slice (some ad314) y310.length co131) y310) := ⟨by (with_reducible repeat (first | apply Kd.R_alloc | apply Kd.R_drewN | apply Kd.R_drew)); exact Kd.R_mono (Kd.R_far (p := ⟨gb320, 3, none⟩) (Kd.R_far (p := ⟨gb320, 2, none⟩) (Kd.R_far (p := ⟨gb320, 1, none⟩) (Kd.R_far (p := ⟨gb320, 0, none⟩) (Kd.R_types HO_5.out BK320.out (by decide)) (fun _ hk => hk.2) (.int .i64 t315)) (fun _ hk => hk.2) (.int .i64 t316)) (fun _ hk => hk.2) (.int .i64 t317)) (fun _ hk => hk.2) (.int .i64 t318)) (fun _ hk => trivial)⟩
                                  have n1_ : Aside0 (((((w135.setCell ⟨gb320, 0, none⟩ (.int .i64 t315)).setCell ⟨gb320, 1, none⟩ (.int .i64 t316)).setCell ⟨gb320, 2, none⟩ (.int .i64 t317)).setCell ⟨gb320, 3, none⟩ (.int .i64 t318)).heap[gb313]? = some (.cells #[.int .i64 x314000_2, .int .i64 x314001_2, .int .i64 x314002_2, .int .i64 x314003_2] 39 (0, 0))) := ⟨by (with_reducible repeat (first | refine blk_drewN ?_ _ | refine blk_drew ?_ | refine blk_alloc ?_ _)); refine blk_far ?_ NB313_320.out _; (with_reducible repeat (first | refine blk_drewN ?_ _ | refine blk_drew ?_ | refine blk_alloc ?_ _)); refine blk_far ?_ NB313_320.out _; (with_reducible repeat (first | refine blk_drewN ?_ _ | refine blk_drew ?_ | refine blk_alloc ?_ _)); refine blk_far ?_ NB313_320.out _; (with_reducible repeat (first | refine blk_drewN ?_ _ | refine blk_drew ?_ | refine blk_alloc ?_ _)); refine blk_far ?_ NB313_320.out _; (with_reducible repeat (first | refine blk_drewN ?_ _ | refine blk_drew ?_ | refine blk_alloc ?_ _)); exact BK313.out⟩
                                  have n2_ : Aside0 (((((w135.setCell ⟨gb320, 0, none⟩ (.int .i64 t315)).setCell ⟨gb320, 1, none⟩ (.int .i64 t316)).setCell ⟨gb320, 2, none⟩ (.int .i64 t317)).setCell ⟨gb320, 3, none⟩ (.int .i64 t318)).heap[gb320]? = some (.cells #[.int .i64 t315, .int .i64 t316, .int .i64 t317, .int .i64 t318] 39 (0, 0))) := ⟨by (with_reducible repeat (first | refine blk_drewN ?_ _ | refine blk_drew ?_ | refine blk_alloc ?_ _)); refine blk_put (cs := #[.int .i64 t315, .int .i64 t316, .int .i64 t317, .int .i64 0]) ?_ 3 _ rfl; (with_reducible repeat (first | refine blk_drewN ?_ _ | refine blk_drew ?_ | refine blk_alloc ?_ _)); refine blk_put (cs := #[.int .i64 t315, .int .i64 t316, .int .i64 0, .int .i64 0]) ?_ 2 _ rfl; (with_reducible repeat (first | refine blk_drewN ?_ _ | refine blk_drew ?_ | refine blk_alloc ?_ _)); refine blk_put (cs := #[.int .i64 t315, .int .i64 0, .int .i64 0, .int .i64 0]) ?_ 1 _ rfl; (with_reducible repeat (first | refine blk_drewN ?_ _ | refine blk_drew ?_ | refine blk_alloc ?_ _)); refine blk_put (cs := #[.int .i64 0, .int .i64 0, .int .i64 0, .int .i64 0]) ?_ 0 _ rfl; (with_reducible repeat (first | refine blk_drewN ?_ _ | refine blk_drew ?_ | refine blk_alloc ?_ _)); exact BK320.out⟩
                                  have n3_ : Aside0 (Below w.heap.size w ((((w135.setCell ⟨gb320, 0, none⟩ (.int .i64 t315)).setCell ⟨gb320, 1, none⟩ (.int .i64 t316)).setCell ⟨gb320, 2, none⟩ (.int .i64 t317)).setCell ⟨gb320, 3, none⟩ (.int .i64 t318))) := ⟨by repeat (first | (with_reducible first | exact HB.out | apply below_alloc | apply pw_below_drewN | apply below_drew1 | refine below_set ?_ GE313.out | refine below_set ?_ GE320.out) | exact HB.out)⟩
                                  (try clear HO_5)
                                  (try clear BK313)
                                  (try clear BK320)
                                  (try clear HB)
                                  generalize ((((w135.setCell ⟨gb320, 0, none⟩ (.int .i64 t315)).setCell ⟨gb320, 1, none⟩ (.int .i64 t316)).setCell ⟨gb320, 2, none⟩ (.int .i64 t317)).setCell ⟨gb320, 3, none⟩ (.int .i64 t318)) = w140 at n0_ n1_ n2_ n3_ ⊢
                                  have HO_5 := n0_
                                  have BK313 := n1_
                                  have BK320 := n2_
                                  have HB := n3_
                                  clear n0_ n1_ n2_ n3_
                                  have n0_ := Aside0.mk (Kd.R_drew HO_5.out)
                                  have n1_ := Aside0.mk (blk_drew BK313.out)
                                  have n2_ := Aside0.mk (blk_drew BK320.out)
                                  have n3_ := Aside0.mk (below_drew1 HB.out)
                                  clear HO_5
                                  clear BK313
                                  clear BK320
                                  clear HB
                                  have HO_5 := n0_
                                  have BK313 := n1_
                                  have BK320 := n2_
                                  have HB := n3_
                                  clear n0_ n1_ n2_ n3_
                                  have p321 : 0 ≤ (x7_2 : Int) := of_decide_eq_true (by first | (with_reducible assumption) | assumption)
                                  have q321 : x7_2 < (y310.length : Int) := of_decide_eq_true (by first | (with_reducible assumption) | assumption)
                                  obtain ⟨ad321, e321, hx321_0⟩ := Kd.at_int (Kd.R_reads' HO_5.out).2.2 x7_2 p321 q321
                                  obtain rfl : ad314 = ad321 := (by injection e321)
                                  replace p321 := eq_true p321
                                  replace q321 := eq_true q321
                                  refine start_ (n := 12) (S := fun w' => w'.cell? ⟨gb313, 0, none⟩ = some (.int .i64 x314000_2) ∧ w'.cell? ⟨gb313, 1, none⟩ = some (.int .i64 x314001_2) ∧ w'.cell? ⟨gb313, 2, none⟩ = some (.int .i64 x314002_2) ∧ w'.cell? ⟨gb313, 3, none⟩ = some (.int .i64 x314003_2) ∧ w'.cell? (ad314.add (x7_2).toNat) = some (.int .i64 (rd y310 x7_2))) (ds := []) #[false, false, false, false, false, false, false, false, false, false, false, false] (by kernel_rfl) rfl rfl ⟨(blk_cell BK313.out 0).trans rfl, (blk_cell BK313.out 1).trans rfl, (blk_cell BK313.out 2).trans rfl, (blk_cell BK313.out 3).trans rfl, hx321_0⟩ (fun hHeld => ?_); refine with_tabW laws_FnMeter.tab9 laws_FnMeter.bits9 (fun HT_ HW_ => ?_)
                                  generalize w140.drew = w141 at HO_5 BK313 BK320 HB hx321_0 hHeld ⊢
                                  refine pure_ (i := 1) (N := some 58) (v := ?_) (a' := ?_) #[false, true, false, false, false, false, false, false, false, false, false, false] rfl rfl (any_of HT_.out (by kernel_rfl)) (fun _ _ _ h => h) (Or.inl ⟨by rfl, ?_⟩) ?_ ?_
                                  rotate_left
                                  · intro w'
                                    go_simp
                                    with_reducible rfl
                                  rotate_left
                                  · simp only [Act.put, List.setIfInBounds_toArray, List.set_cons_zero, List.set_cons_succ, i64_w, i32_w]
                                    rfl
                                  refine pure_ (i := 2) (N := some 59) (v := ?_) (a' := ?_) #[false, true, true, false, false, false, false, false, false, false, false, false] rfl rfl (any_of HT_.out (by kernel_rfl)) (fun _ _ _ h => h) (Or.inl ⟨by rfl, ?_⟩) ?_ ?_
                                  rotate_left
                                  · intro w'
                                    go_simp
                                    with_reducible rfl
                                  rotate_left
                                  · simp only [Act.put, List.setIfInBounds_toArray, List.set_cons_zero, List.set_cons_succ, i64_w, i32_w]
                                    rfl
                                  refine pure_ (i := 3) (N := some 60) (v := ?_) (a' := ?_) #[false, true, true, true, false, false, false, false, false, false, false, false] rfl rfl (any_of HT_.out (by kernel_rfl)) (fun _ _ _ h => h) (Or.inl ⟨by rfl, ?_⟩) ?_ ?_
                                  rotate_left
                                  · intro w'
                                    go_simp
                                    with_reducible rfl
                                  rotate_left
                                  · simp only [Act.put, List.setIfInBounds_toArray, List.set_cons_zero, List.set_cons_succ, i64_w, i32_w]
                                    rfl
                                  refine take_ (i := 0) (N := some 57) (v := ?_) (a' := ?_) #[true, true, true, true, false, false, false, false, false, false, false, false] rfl rfl (take_ofW HT_.out HW_.out (by kernel_rfl)) (fun _ _ _ h => h) (Or.inl ⟨by rfl, ?_⟩) hHeld ?_ ?_
                                  rotate_left
                                  · rintro w' ⟨s0, s1, s2, s3, s4⟩
                                    go_simp
                                    with_reducible rfl
                                  rotate_left
                                  · simp only [Act.put, List.setIfInBounds_toArray, List.set_cons_zero, List.set_cons_succ, i64_w, i32_w]
                                    rfl
                                  refine take_ (i := 4) (N := some 61) (v := ?_) (a' := ?_) #[true, true, true, true, true, false, false, false, false, false, false, false] rfl rfl (take_ofW HT_.out HW_.out (by kernel_rfl)) (fun _ _ _ h => h) (Or.inl ⟨by rfl, ?_⟩) hHeld ?_ ?_
                                  rotate_left
                                  · rintro w' ⟨s0, s1, s2, s3, s4⟩
                                    go_simp
                                    with_reducible rfl
                                  rotate_left
                                  · simp only [Act.put, List.setIfInBounds_toArray, List.set_cons_zero, List.set_cons_succ, i64_w, i32_w]
                                    rfl
                                  refine join_ (σ := Nat) 2 #[true, true, true, true, true, true, true, true, true, true, false, false] (fun s_ => [(62, .tuple #[.agg #[.int .i64 t322, .int .i64 t323, .int .i64 t324, .int .i64 t325], .int .i64 t326]), (10, .pointer (some ⟨s_, 0, none⟩)), (56, .tuple #[.agg #[.int .i64 t322, .int .i64 t323, .int .i64 t324, .int .i64 t325], .int .i64 t326]), (63, .agg #[.int .i64 t322, .int .i64 t323, .int .i64 t324, .int .i64 t325]), (64, .int .i64 t326)]) (fun s_ w' => (w'.cell? ⟨gb313, 0, none⟩ = some (.int .i64 x314000_2) ∧ w'.cell? ⟨gb313, 1, none⟩ = some (.int .i64 x314001_2) ∧ w'.cell? ⟨gb313, 2, none⟩ = some (.int .i64 x314002_2) ∧ w'.cell? ⟨gb313, 3, none⟩ = some (.int .i64 x314003_2) ∧ w'.cell? (ad314.add (x7_2).toNat) = some (.int .i64 (rd y310 x7_2))) ∧ (Kd.R (Kd.int .i64) 3 w' w.heap.size (fun _ => True) (.slice (some ad314) y310.length co131) y310) ∧ (w'.heap[gb313]? = some (.cells #[.int .i64 x314000_2, .int .i64 x314001_2, .int .i64 x314002_2, .int .i64 x314003_2] 39 (0, 0))) ∧ (w'.heap[gb320]? = some (.cells #[.int .i64 t315, .int .i64 t316, .int .i64 t317, .int .i64 t318] 39 (0, 0))) ∧ (w'.heap[s_]? = some (.cells #[.int .i64 0, .int .i64 0, .int .i64 0, .int .i64 0] 39 (0, 0))) ∧ (w.heap.size ≤ s_) ∧ (w.heap.size ≤ s_) ∧ (gb313 ≠ s_) ∧ (s_ ≠ gb313) ∧ (gb320 ≠ s_) ∧ (s_ ≠ gb320) ∧ (Below w.heap.size w w')) ?_ ?_
                                  rotate_left
                                  · intro hCont
                                    refine two_ (i := 5) (j := 9) (Ni := some 62) (Nj := some 10) #[true, true, true, true, true, true, false, false, false, false, false, false] #[true, true, true, true, true, false, false, false, false, true, false, false] rfl rfl rfl rfl (two_of HT_.out (by kernel_rfl)) (by decide) (by decide) (fun K hK => ?_) (fun K hK => ?_)
                                    · skip
                                      refine goes_ Try.func20 (by kernel_rfl) rfl #[.agg #[.int .i64 x314000_2, .int .i64 x314001_2, .int .i64 x314002_2, .int .i64 x314003_2], .int .i64 (rd y310 x7_2)] (by rfl) rfl rfl (by (try simp only [List.map_toArray, List.map_cons, List.map_nil]); first | done | rfl | (simp only [List.length_drop, List.length_take]; rfl)) ?_
                                      with_reducible refine (spec_MeterAdd.calls x314000_2 x314001_2 x314002_2 x314003_2 (rd y310 x7_2) t322 t323 t324 t325 t326 _ A23.out).mono ?_
                                      rintro e w142 ⟨rfl, hb⟩
                                      have HS4_ := (hb.cell (World.block_lt_of_cell? _ _ (hHeld.2.2.2.2))).trans (hHeld.2.2.2.2)
                                      refine ⟨_, rfl, ?_⟩
                                      have n0_ := Aside0.mk (Kd.R_below (by (with_reducible repeat (first | apply Kd.R_alloc | apply Kd.R_drewN | apply Kd.R_drew)); exact HO_5.out) hb)
                                      have n1_ := Aside0.mk (blk_below (g := gb313) (o := .cells #[.int .i64 x314000_2, .int .i64 x314001_2, .int .i64 x314002_2, .int .i64 x314003_2] 39 (0, 0)) (by (with_reducible repeat (first | refine blk_drewN ?_ _ | refine blk_drew ?_ | refine blk_alloc ?_ _)); exact BK313.out) hb)
                                      have n2_ := Aside0.mk (blk_below (g := gb320) (o := .cells #[.int .i64 t315, .int .i64 t316, .int .i64 t317, .int .i64 t318] 39 (0, 0)) (by (with_reducible repeat (first | refine blk_drewN ?_ _ | refine blk_drew ?_ | refine blk_alloc ?_ _)); exact BK320.out) hb)
                                      have n3_ := Aside0.mk (below_step (by repeat (first | (with_reducible first | exact HB.out | apply below_alloc | apply pw_below_drewN | apply below_drew1 | refine below_set ?_ GE313.out | refine below_set ?_ GE320.out) | exact HB.out)) hb)
                                      clear HO_5
                                      clear BK313
                                      clear BK320
                                      clear HB
                                      have HO_5 := n0_
                                      have BK313 := n1_
                                      have BK320 := n2_
                                      have HB := n3_
                                      clear n0_ n1_ n2_ n3_
                                      (try clear hb)
                                      (try clear hb2)
                                      (try clear hk)
                                      (try clear hi)
                                      refine hK.out _ _ ⟨(blk_cell BK313.out 0).trans rfl, (blk_cell BK313.out 1).trans rfl, (blk_cell BK313.out 2).trans rfl, (blk_cell BK313.out 3).trans rfl, HS4_⟩ (fun hHeld => ?_)
                                      clear hK K
                                      refine norm_ (a' := ?_) ?_ ?_
                                      rotate_left
                                      · show Act.put _ (some 62) _ = _
                                        simp only [Act.put, List.setIfInBounds_toArray, List.set_cons_zero, List.set_cons_succ, i64_w, i32_w]
                                        rfl
                                      refine pure_ (i := 6) (N := some 56) (v := ?_) (a' := ?_) #[true, true, true, true, true, true, true, false, false, false, false, false] rfl rfl (any_of HT_.out (by kernel_rfl)) (fun _ _ _ h => h) (Or.inl ⟨by rfl, ?_⟩) ?_ ?_
                                      rotate_left
                                      · intro w'
                                        go_simp
                                        with_reducible rfl
                                      rotate_left
                                      · simp only [Act.put, List.setIfInBounds_toArray, List.set_cons_zero, List.set_cons_succ, i64_w, i32_w]
                                        rfl
                                      refine pure_ (i := 7) (N := some 63) (v := ?_) (a' := ?_) #[true, true, true, true, true, true, true, true, false, false, false, false] rfl rfl (any_of HT_.out (by kernel_rfl)) (fun _ _ _ h => h) (Or.inl ⟨by rfl, ?_⟩) ?_ ?_
                                      rotate_left
                                      · intro w'
                                        go_simp
                                        with_reducible rfl
                                      rotate_left
                                      · simp only [Act.put, List.setIfInBounds_toArray, List.set_cons_zero, List.set_cons_succ, i64_w, i32_w]
                                        rfl
                                      refine pure_ (i := 8) (N := some 64) (v := ?_) (a' := ?_) #[true, true, true, true, true, true, true, true, true, false, false, false] rfl rfl (any_of HT_.out (by kernel_rfl)) (fun _ _ _ h => h) (Or.inl ⟨by rfl, ?_⟩) ?_ ?_
                                      rotate_left
                                      · intro w'
                                        go_simp
                                        with_reducible rfl
                                      rotate_left
                                      · simp only [Act.put, List.setIfInBounds_toArray, List.set_cons_zero, List.set_cons_succ, i64_w, i32_w]
                                        rfl
                                      refine one_ (i := 9) (N := some 10) #[true, true, true, true, true, true, true, true, true, true, false, false] rfl rfl (one_of HT_.out (by kernel_rfl)) (by decide) (fun K hK => ?_)
                                      refine box_step ?hg (N := 10) ?hd (cs := #[.int .i64 0, .int .i64 0, .int .i64 0, .int .i64 0]) (t := 39) ?hr ?_; (case hd => rfl); (case hg => rfl); (case hr => first | (go_simp; done) | (go_simp; rfl))
                                      intro gb327 hg w143 hbox hb
                                      have HS4_ := (hb.cell (World.block_lt_of_cell? _ _ (hHeld.2.2.2.2))).trans (hHeld.2.2.2.2)
                                      have n0_ := Aside0.mk (Kd.R_below (by (with_reducible repeat (first | apply Kd.R_alloc | apply Kd.R_drewN | apply Kd.R_drew)); exact HO_5.out) hb)
                                      have n1_ := Aside0.mk (blk_below (g := gb313) (o := .cells #[.int .i64 x314000_2, .int .i64 x314001_2, .int .i64 x314002_2, .int .i64 x314003_2] 39 (0, 0)) (by (with_reducible repeat (first | refine blk_drewN ?_ _ | refine blk_drew ?_ | refine blk_alloc ?_ _)); exact BK313.out) hb)
                                      have n2_ := Aside0.mk (blk_below (g := gb320) (o := .cells #[.int .i64 t315, .int .i64 t316, .int .i64 t317, .int .i64 t318] 39 (0, 0)) (by (with_reducible repeat (first | refine blk_drewN ?_ _ | refine blk_drew ?_ | refine blk_alloc ?_ _)); exact BK320.out) hb)
                                      have n3_ := Aside0.mk (below_step (by repeat (first | (with_reducible first | exact HB.out | apply below_alloc | apply pw_below_drewN | apply below_drew1 | refine below_set ?_ GE313.out | refine below_set ?_ GE320.out) | exact HB.out)) hb)
                                      have n4_ := Aside0.mk (hbox)
                                      have n5_ := Aside0.mk ((by rw [hg]; exact (below_size (by repeat (first | (with_reducible first | exact HB.out | apply below_alloc | apply pw_below_drewN | apply below_drew1 | refine below_set ?_ GE313.out | refine below_set ?_ GE320.out) | exact HB.out))) : w.heap.size ≤ gb327))
                                      have n6_ := Aside0.mk ((by rw [hg]; exact (below_size (by repeat (first | (with_reducible first | exact HB.out | apply below_alloc | apply pw_below_drewN | apply below_drew1 | refine below_set ?_ GE313.out | refine below_set ?_ GE320.out) | exact HB.out))) : w.heap.size ≤ gb327))
                                      have n7_ := Aside0.mk ((by rw [hg]; exact Nat.ne_of_lt (blk_lt (g := gb313) (o := .cells #[.int .i64 x314000_2, .int .i64 x314001_2, .int .i64 x314002_2, .int .i64 x314003_2] 39 (0, 0)) (by (with_reducible repeat (first | refine blk_drewN ?_ _ | refine blk_drew ?_ | refine blk_alloc ?_ _)); exact BK313.out)) : gb313 ≠ gb327))
                                      have n8_ := Aside0.mk ((by rw [hg]; exact Nat.ne_of_gt (blk_lt (g := gb313) (o := .cells #[.int .i64 x314000_2, .int .i64 x314001_2, .int .i64 x314002_2, .int .i64 x314003_2] 39 (0, 0)) (by (with_reducible repeat (first | refine blk_drewN ?_ _ | refine blk_drew ?_ | refine blk_alloc ?_ _)); exact BK313.out)) : gb327 ≠ gb313))
                                      have n9_ := Aside0.mk ((by rw [hg]; exact Nat.ne_of_lt (blk_lt (g := gb320) (o := .cells #[.int .i64 t315, .int .i64 t316, .int .i64 t317, .int .i64 t318] 39 (0, 0)) (by (with_reducible repeat (first | refine blk_drewN ?_ _ | refine blk_drew ?_ | refine blk_alloc ?_ _)); exact BK320.out)) : gb320 ≠ gb327))
                                      have n10_ := Aside0.mk ((by rw [hg]; exact Nat.ne_of_gt (blk_lt (g := gb320) (o := .cells #[.int .i64 t315, .int .i64 t316, .int .i64 t317, .int .i64 t318] 39 (0, 0)) (by (with_reducible repeat (first | refine blk_drewN ?_ _ | refine blk_drew ?_ | refine blk_alloc ?_ _)); exact BK320.out)) : gb327 ≠ gb320))
                                      clear HO_5
                                      clear BK313
                                      clear BK320
                                      clear HB
                                      have HO_5 := n0_
                                      have BK313 := n1_
                                      have BK320 := n2_
                                      have HB := n3_
                                      have BK327 := n4_
                                      have GW327 := n5_
                                      have GE327 := n6_
                                      have NB313_327 := n7_
                                      have NB327_313 := n8_
                                      have NB320_327 := n9_
                                      have NB327_320 := n10_
                                      clear n0_ n1_ n2_ n3_ n4_ n5_ n6_ n7_ n8_ n9_ n10_
                                      clear hb hbox hg
                                      refine hK.out _ _ ⟨(blk_cell BK313.out 0).trans rfl, (blk_cell BK313.out 1).trans rfl, (blk_cell BK313.out 2).trans rfl, (blk_cell BK313.out 3).trans rfl, HS4_⟩ (fun hHeld => ?_)
                                      clear hK K
                                      refine norm_ (a' := ?_) ?_ ?_
                                      rotate_left
                                      · show Act.put _ (some 10) _ = _
                                        simp only [Act.put, List.setIfInBounds_toArray, List.set_cons_zero, List.set_cons_succ, i64_w, i32_w]
                                        rfl
                                      exact norm_ (by simp only [putAll, Act.put, List.setIfInBounds_toArray, List.set_cons_zero, List.set_cons_succ]) (hCont (gb327) _ ⟨hHeld, (by (with_reducible repeat (first | apply Kd.R_alloc | apply Kd.R_drewN | apply Kd.R_drew)); exact HO_5.out), (by (with_reducible repeat (first | refine blk_drewN ?_ _ | refine blk_drew ?_ | refine blk_alloc ?_ _)); exact BK313.out), (by (with_reducible repeat (first | refine blk_drewN ?_ _ | refine blk_drew ?_ | refine blk_alloc ?_ _)); exact BK320.out), (by (with_reducible repeat (first | refine blk_drewN ?_ _ | refine blk_drew ?_ | refine blk_alloc ?_ _)); exact BK327.out), GW327.out, GE327.out, NB313_327.out, NB327_313.out, NB320_327.out, NB327_320.out, (by repeat (first | (with_reducible first | exact HB.out | apply below_alloc | apply pw_below_drewN | apply below_drew1 | refine below_set ?_ GE313.out | refine below_set ?_ GE320.out | refine below_set ?_ GE327.out) | exact HB.out))⟩)
                                    · skip
                                      refine box_step ?hg (N := 10) ?hd (cs := #[.int .i64 0, .int .i64 0, .int .i64 0, .int .i64 0]) (t := 39) ?hr ?_; (case hd => rfl); (case hg => rfl); (case hr => first | (go_simp; done) | (go_simp; rfl))
                                      intro gb327 hg w142 hbox hb
                                      have HS4_ := (hb.cell (World.block_lt_of_cell? _ _ (hHeld.2.2.2.2))).trans (hHeld.2.2.2.2)
                                      have n0_ := Aside0.mk (Kd.R_below (by (with_reducible repeat (first | apply Kd.R_alloc | apply Kd.R_drewN | apply Kd.R_drew)); exact HO_5.out) hb)
                                      have n1_ := Aside0.mk (blk_below (g := gb313) (o := .cells #[.int .i64 x314000_2, .int .i64 x314001_2, .int .i64 x314002_2, .int .i64 x314003_2] 39 (0, 0)) (by (with_reducible repeat (first | refine blk_drewN ?_ _ | refine blk_drew ?_ | refine blk_alloc ?_ _)); exact BK313.out) hb)
                                      have n2_ := Aside0.mk (blk_below (g := gb320) (o := .cells #[.int .i64 t315, .int .i64 t316, .int .i64 t317, .int .i64 t318] 39 (0, 0)) (by (with_reducible repeat (first | refine blk_drewN ?_ _ | refine blk_drew ?_ | refine blk_alloc ?_ _)); exact BK320.out) hb)
                                      have n3_ := Aside0.mk (below_step (by repeat (first | (with_reducible first | exact HB.out | apply below_alloc | apply pw_below_drewN | apply below_drew1 | refine below_set ?_ GE313.out | refine below_set ?_ GE320.out) | exact HB.out)) hb)
                                      have n4_ := Aside0.mk (hbox)
                                      have n5_ := Aside0.mk ((by rw [hg]; exact (below_size (by repeat (first | (with_reducible first | exact HB.out | apply below_alloc | apply pw_below_drewN | apply below_drew1 | refine below_set ?_ GE313.out | refine below_set ?_ GE320.out) | exact HB.out))) : w.heap.size ≤ gb327))
                                      have n6_ := Aside0.mk ((by rw [hg]; exact (below_size (by repeat (first | (with_reducible first | exact HB.out | apply below_alloc | apply pw_below_drewN | apply below_drew1 | refine below_set ?_ GE313.out | refine below_set ?_ GE320.out) | exact HB.out))) : w.heap.size ≤ gb327))
                                      have n7_ := Aside0.mk ((by rw [hg]; exact Nat.ne_of_lt (blk_lt (g := gb313) (o := .cells #[.int .i64 x314000_2, .int .i64 x314001_2, .int .i64 x314002_2, .int .i64 x314003_2] 39 (0, 0)) (by (with_reducible repeat (first | refine blk_drewN ?_ _ | refine blk_drew ?_ | refine blk_alloc ?_ _)); exact BK313.out)) : gb313 ≠ gb327))
                                      have n8_ := Aside0.mk ((by rw [hg]; exact Nat.ne_of_gt (blk_lt (g := gb313) (o := .cells #[.int .i64 x314000_2, .int .i64 x314001_2, .int .i64 x314002_2, .int .i64 x314003_2] 39 (0, 0)) (by (with_reducible repeat (first | refine blk_drewN ?_ _ | refine blk_drew ?_ | refine blk_alloc ?_ _)); exact BK313.out)) : gb327 ≠ gb313))
                                      have n9_ := Aside0.mk ((by rw [hg]; exact Nat.ne_of_lt (blk_lt (g := gb320) (o := .cells #[.int .i64 t315, .int .i64 t316, .int .i64 t317, .int .i64 t318] 39 (0, 0)) (by (with_reducible repeat (first | refine blk_drewN ?_ _ | refine blk_drew ?_ | refine blk_alloc ?_ _)); exact BK320.out)) : gb320 ≠ gb327))
                                      have n10_ := Aside0.mk ((by rw [hg]; exact Nat.ne_of_gt (blk_lt (g := gb320) (o := .cells #[.int .i64 t315, .int .i64 t316, .int .i64 t317, .int .i64 t318] 39 (0, 0)) (by (with_reducible repeat (first | refine blk_drewN ?_ _ | refine blk_drew ?_ | refine blk_alloc ?_ _)); exact BK320.out)) : gb327 ≠ gb320))
                                      clear HO_5
                                      clear BK313
                                      clear BK320
                                      clear HB
                                      have HO_5 := n0_
                                      have BK313 := n1_
                                      have BK320 := n2_
                                      have HB := n3_
                                      have BK327 := n4_
                                      have GW327 := n5_
                                      have GE327 := n6_
                                      have NB313_327 := n7_
                                      have NB327_313 := n8_
                                      have NB320_327 := n9_
                                      have NB327_320 := n10_
                                      clear n0_ n1_ n2_ n3_ n4_ n5_ n6_ n7_ n8_ n9_ n10_
                                      clear hb hbox hg
                                      refine hK.out _ _ ⟨(blk_cell BK313.out 0).trans rfl, (blk_cell BK313.out 1).trans rfl, (blk_cell BK313.out 2).trans rfl, (blk_cell BK313.out 3).trans rfl, HS4_⟩ (fun hHeld => ?_)
                                      clear hK K
                                      refine norm_ (a' := ?_) ?_ ?_
                                      rotate_left
                                      · show Act.put _ (some 10) _ = _
                                        simp only [Act.put, List.setIfInBounds_toArray, List.set_cons_zero, List.set_cons_succ, i64_w, i32_w]
                                        rfl
                                      refine one_ (i := 5) (N := some 62) #[true, true, true, true, true, true, false, false, false, true, false, false] rfl rfl (one_of HT_.out (by kernel_rfl)) (by decide) (fun K hK => ?_)
                                      refine goes_ Try.func20 (by kernel_rfl) rfl #[.agg #[.int .i64 x314000_2, .int .i64 x314001_2, .int .i64 x314002_2, .int .i64 x314003_2], .int .i64 (rd y310 x7_2)] (by rfl) rfl rfl (by (try simp only [List.map_toArray, List.map_cons, List.map_nil]); first | done | rfl | (simp only [List.length_drop, List.length_take]; rfl)) ?_
                                      with_reducible refine (spec_MeterAdd.calls x314000_2 x314001_2 x314002_2 x314003_2 (rd y310 x7_2) t322 t323 t324 t325 t326 _ A23.out).mono ?_
                                      rintro e w143 ⟨rfl, hb⟩
                                      have HS4_ := (hb.cell (World.block_lt_of_cell? _ _ (hHeld.2.2.2.2))).trans (hHeld.2.2.2.2)
                                      refine ⟨_, rfl, ?_⟩
                                      have n0_ := Aside0.mk (Kd.R_below (by (with_reducible repeat (first | apply Kd.R_alloc | apply Kd.R_drewN | apply Kd.R_drew)); exact HO_5.out) hb)
                                      have n1_ := Aside0.mk (blk_below (g := gb313) (o := .cells #[.int .i64 x314000_2, .int .i64 x314001_2, .int .i64 x314002_2, .int .i64 x314003_2] 39 (0, 0)) (by (with_reducible repeat (first | refine blk_drewN ?_ _ | refine blk_drew ?_ | refine blk_alloc ?_ _)); exact BK313.out) hb)
                                      have n2_ := Aside0.mk (blk_below (g := gb320) (o := .cells #[.int .i64 t315, .int .i64 t316, .int .i64 t317, .int .i64 t318] 39 (0, 0)) (by (with_reducible repeat (first | refine blk_drewN ?_ _ | refine blk_drew ?_ | refine blk_alloc ?_ _)); exact BK320.out) hb)
                                      have n3_ := Aside0.mk (blk_below (g := gb327) (o := .cells #[.int .i64 0, .int .i64 0, .int .i64 0, .int .i64 0] 39 (0, 0)) (by (with_reducible repeat (first | refine blk_drewN ?_ _ | refine blk_drew ?_ | refine blk_alloc ?_ _)); exact BK327.out) hb)
                                      have n4_ := Aside0.mk (below_step (by repeat (first | (with_reducible first | exact HB.out | apply below_alloc | apply pw_below_drewN | apply below_drew1 | refine below_set ?_ GE313.out | refine below_set ?_ GE320.out | refine below_set ?_ GE327.out) | exact HB.out)) hb)
                                      clear HO_5
                                      clear BK313
                                      clear BK320
                                      clear BK327
                                      clear HB
                                      have HO_5 := n0_
                                      have BK313 := n1_
                                      have BK320 := n2_
                                      have BK327 := n3_
                                      have HB := n4_
                                      clear n0_ n1_ n2_ n3_ n4_
                                      (try clear hb)
                                      (try clear hb2)
                                      (try clear hk)
                                      (try clear hi)
                                      refine hK.out _ _ ⟨(blk_cell BK313.out 0).trans rfl, (blk_cell BK313.out 1).trans rfl, (blk_cell BK313.out 2).trans rfl, (blk_cell BK313.out 3).trans rfl, HS4_⟩ (fun hHeld => ?_)
                                      clear hK K
                                      refine norm_ (a' := ?_) ?_ ?_
                                      rotate_left
                                      · show Act.put _ (some 62) _ = _
                                        simp only [Act.put, List.setIfInBounds_toArray, List.set_cons_zero, List.set_cons_succ, i64_w, i32_w]
                                        rfl
                                      refine pure_ (i := 6) (N := some 56) (v := ?_) (a' := ?_) #[true, true, true, true, true, true, true, false, false, true, false, false] rfl rfl (any_of HT_.out (by kernel_rfl)) (fun _ _ _ h => h) (Or.inl ⟨by rfl, ?_⟩) ?_ ?_
                                      rotate_left
                                      · intro w'
                                        go_simp
                                        with_reducible rfl
                                      rotate_left
                                      · simp only [Act.put, List.setIfInBounds_toArray, List.set_cons_zero, List.set_cons_succ, i64_w, i32_w]
                                        rfl
                                      refine pure_ (i := 7) (N := some 63) (v := ?_) (a' := ?_) #[true, true, true, true, true, true, true, true, false, true, false, false] rfl rfl (any_of HT_.out (by kernel_rfl)) (fun _ _ _ h => h) (Or.inl ⟨by rfl, ?_⟩) ?_ ?_
                                      rotate_left
                                      · intro w'
                                        go_simp
                                        with_reducible rfl
                                      rotate_left
                                      · simp only [Act.put, List.setIfInBounds_toArray, List.set_cons_zero, List.set_cons_succ, i64_w, i32_w]
                                        rfl
                                      refine pure_ (i := 8) (N := some 64) (v := ?_) (a' := ?_) #[true, true, true, true, true, true, true, true, true, true, false, false] rfl rfl (any_of HT_.out (by kernel_rfl)) (fun _ _ _ h => h) (Or.inl ⟨by rfl, ?_⟩) ?_ ?_
                                      rotate_left
                                      · intro w'
                                        go_simp
                                        with_reducible rfl
                                      rotate_left
                                      · simp only [Act.put, List.setIfInBounds_toArray, List.set_cons_zero, List.set_cons_succ, i64_w, i32_w]
                                        rfl
                                      exact norm_ (by simp only [putAll, Act.put, List.setIfInBounds_toArray, List.set_cons_zero, List.set_cons_succ]) (hCont (gb327) _ ⟨hHeld, (by (with_reducible repeat (first | apply Kd.R_alloc | apply Kd.R_drewN | apply Kd.R_drew)); exact HO_5.out), (by (with_reducible repeat (first | refine blk_drewN ?_ _ | refine blk_drew ?_ | refine blk_alloc ?_ _)); exact BK313.out), (by (with_reducible repeat (first | refine blk_drewN ?_ _ | refine blk_drew ?_ | refine blk_alloc ?_ _)); exact BK320.out), (by (with_reducible repeat (first | refine blk_drewN ?_ _ | refine blk_drew ?_ | refine blk_alloc ?_ _)); exact BK327.out), GW327.out, GE327.out, NB313_327.out, NB327_313.out, NB320_327.out, NB327_320.out, (by repeat (first | (with_reducible first | exact HB.out | apply below_alloc | apply pw_below_drewN | apply below_drew1 | refine below_set ?_ GE313.out | refine below_set ?_ GE320.out | refine below_set ?_ GE327.out) | exact HB.out))⟩)
                                  rintro gb327 w144 ⟨hS_, h0_, h1_, h2_, h3_, h4_, h5_, h6_, h7_, h8_, h9_, h10_⟩
                                  have n0_ : Aside0 (Kd.R (Kd.int .i64) 3 w144 w.heap.size (fun _ => True) (.slice (some ad314) y310.length co131) y310) := ⟨h0_⟩
                                  have n1_ : Aside0 (w144.heap[gb313]? = some (.cells #[.int .i64 x314000_2, .int .i64 x314001_2, .int .i64 x314002_2, .int .i64 x314003_2] 39 (0, 0))) := ⟨h1_⟩
                                  have n2_ : Aside0 (w144.heap[gb320]? = some (.cells #[.int .i64 t315, .int .i64 t316, .int .i64 t317, .int .i64 t318] 39 (0, 0))) := ⟨h2_⟩
                                  have n3_ : Aside0 (w144.heap[gb327]? = some (.cells #[.int .i64 0, .int .i64 0, .int .i64 0, .int .i64 0] 39 (0, 0))) := ⟨h3_⟩
                                  have n4_ : Aside0 (w.heap.size ≤ gb327) := ⟨h4_⟩
                                  have n5_ : Aside0 (w.heap.size ≤ gb327) := ⟨h5_⟩
                                  have n6_ : Aside0 (gb313 ≠ gb327) := ⟨h6_⟩
                                  have n7_ : Aside0 (gb327 ≠ gb313) := ⟨h7_⟩
                                  have n8_ : Aside0 (gb320 ≠ gb327) := ⟨h8_⟩
                                  have n9_ : Aside0 (gb327 ≠ gb320) := ⟨h9_⟩
                                  have n10_ : Aside0 (Below w.heap.size w w144) := ⟨h10_⟩
                                  clear HO_5
                                  clear BK313
                                  clear BK320
                                  clear HB
                                  clear h0_ h1_ h2_ h3_ h4_ h5_ h6_ h7_ h8_ h9_ h10_
                                  have HO_5 := n0_
                                  have BK313 := n1_
                                  have BK320 := n2_
                                  have BK327 := n3_
                                  have GW327 := n4_
                                  have GE327 := n5_
                                  have NB313_327 := n6_
                                  have NB327_313 := n7_
                                  have NB320_327 := n8_
                                  have NB327_320 := n9_
                                  have HB := n10_
                                  clear n0_ n1_ n2_ n3_ n4_ n5_ n6_ n7_ n8_ n9_ n10_
                                  have hHeld : w144.cell? ⟨gb313, 0, none⟩ = some (.int .i64 x314000_2) ∧ w144.cell? ⟨gb313, 1, none⟩ = some (.int .i64 x314001_2) ∧ w144.cell? ⟨gb313, 2, none⟩ = some (.int .i64 x314002_2) ∧ w144.cell? ⟨gb313, 3, none⟩ = some (.int .i64 x314003_2) ∧ w144.cell? (ad314.add (x7_2).toNat) = some (.int .i64 (rd y310 x7_2)) := hS_
                                  refine norm_ (a' := ?_) ?_ ?_
                                  rotate_left
                                  · simp only [putAll, Act.put, List.setIfInBounds_toArray, List.set_cons_zero, List.set_cons_succ]
                                    rfl
                                  refine one_ (i := 10) (N := none) #[true, true, true, true, true, true, true, true, true, true, true, false] rfl rfl (one_of HT_.out (by kernel_rfl)) (by decide) (fun K hK => ?_)
                                  have hs145 : w144.cell? ⟨gb327, 0, none⟩ = some (.int .i64 0) := (blk_cell BK327.out 0).trans rfl
                                  have hfs145 := blk_frozen BK327.out 0
                                  have hns145_0 := NB313_327.out
                                  have hns145_1 := NB320_327.out
                                  have hms145_0 := NB327_313.out
                                  have hms145_1 := NB327_320.out
                                  have hs146 : w144.cell? ⟨gb327, 1, none⟩ = some (.int .i64 0) := (blk_cell BK327.out 1).trans rfl
                                  have hfs146 := blk_frozen BK327.out 1
                                  have hns146_0 := NB313_327.out
                                  have hns146_1 := NB320_327.out
                                  have hms146_0 := NB327_313.out
                                  have hms146_1 := NB327_320.out
                                  have hs147 : w144.cell? ⟨gb327, 2, none⟩ = some (.int .i64 0) := (blk_cell BK327.out 2).trans rfl
                                  have hfs147 := blk_frozen BK327.out 2
                                  have hns147_0 := NB313_327.out
                                  have hns147_1 := NB320_327.out
                                  have hms147_0 := NB327_313.out
                                  have hms147_1 := NB327_320.out
                                  have hs148 : w144.cell? ⟨gb327, 3, none⟩ = some (.int .i64 0) := (blk_cell BK327.out 3).trans rfl
                                  have hfs148 := blk_frozen BK327.out 3
                                  have hns148_0 := NB313_327.out
                                  have hns148_1 := NB320_327.out
                                  have hms148_0 := NB327_313.out
                                  have hms148_1 := NB327_320.out
                                  refine skip_ (w1 := ?_) (by rfl) rfl ?_ ?_
                                  rotate_left
                                  · go_simp
                                    rfl
                                  refine hK.out _ _ ⟨((cell_far (p := ⟨gb327, _, none⟩) NB313_327.out _).trans (((cell_far (p := ⟨gb327, _, none⟩) NB313_327.out _).trans (((cell_far (p := ⟨gb327, _, none⟩) NB313_327.out _).trans (((cell_far (p := ⟨gb327, _, none⟩) NB313_327.out _).trans (hHeld.1)))))))), ((cell_far (p := ⟨gb327, _, none⟩) NB313_327.out _).trans (((cell_far (p := ⟨gb327, _, none⟩) NB313_327.out _).trans (((cell_far (p := ⟨gb327, _, none⟩) NB313_327.out _).trans (((cell_far (p := ⟨gb327, _, none⟩) NB313_327.out _).trans (hHeld.2.1)))))))), ((cell_far (p := ⟨gb327, _, none⟩) NB313_327.out _).trans (((cell_far (p := ⟨gb327, _, none⟩) NB313_327.out _).trans (((cell_far (p := ⟨gb327, _, none⟩) NB313_327.out _).trans (((cell_far (p := ⟨gb327, _, none⟩) NB313_327.out _).trans (hHeld.2.2.1)))))))), ((cell_far (p := ⟨gb327, _, none⟩) NB313_327.out _).trans (((cell_far (p := ⟨gb327, _, none⟩) NB313_327.out _).trans (((cell_far (p := ⟨gb327, _, none⟩) NB313_327.out _).trans (((cell_far (p := ⟨gb327, _, none⟩) NB313_327.out _).trans (hHeld.2.2.2.1)))))))), ((cell_far (p := ⟨gb327, _, none⟩) (by first | exact Kd.own_blk (Kd.R_ne HO_5.out BK327.out (by decide)) | (rw [add_block]; exact Kd.own_blk (Kd.R_ne HO_5.out BK327.out (by decide))) | (show (Addr.add _ _).block ≠ _; rw [add_block]; exact Kd.own_blk (Kd.R_ne HO_5.out BK327.out (by decide))) | (dsimp only; exact Kd.own_blk (Kd.R_ne HO_5.out BK327.out (by decide)))) _).trans (((cell_far (p := ⟨gb327, _, none⟩) (by first | exact Kd.own_blk (Kd.R_ne HO_5.out BK327.out (by decide)) | (rw [add_block]; exact Kd.own_blk (Kd.R_ne HO_5.out BK327.out (by decide))) | (show (Addr.add _ _).block ≠ _; rw [add_block]; exact Kd.own_blk (Kd.R_ne HO_5.out BK327.out (by decide))) | (dsimp only; exact Kd.own_blk (Kd.R_ne HO_5.out BK327.out (by decide)))) _).trans (((cell_far (p := ⟨gb327, _, none⟩) (by first | exact Kd.own_blk (Kd.R_ne HO_5.out BK327.out (by decide)) | (rw [add_block]; exact Kd.own_blk (Kd.R_ne HO_5.out BK327.out (by decide))) | (show (Addr.add _ _).block ≠ _; rw [add_block]; exact Kd.own_blk (Kd.R_ne HO_5.out BK327.out (by decide))) | (dsimp only; exact Kd.own_blk (Kd.R_ne HO_5.out BK327.out (by decide)))) _).trans (((cell_far (p := ⟨gb327, _, none⟩) (by first | exact Kd.own_blk (Kd.R_ne HO_5.out BK327.out (by decide)) | (rw [add_block]; exact Kd.own_blk (Kd.R_ne HO_5.out BK327.out (by decide))) | (show (Addr.add _ _).block ≠ _; rw [add_block]; exact Kd.own_blk (Kd.R_ne HO_5.out BK327.out (by decide))) | (dsimp only; exact Kd.own_blk (Kd.R_ne HO_5.out BK327.out (by decide)))) _).trans (hHeld.2.2.2.2))))))))⟩ (fun hHeld => ?_)
                                  clear hK K
                                  refine pure_ (i := 11) (N := some 11) (v := ?_) (a' := ?_) #[true, true, true, true, true, true, true, true, true, true, true, true] rfl rfl (any_of HT_.out (by kernel_rfl)) (fun _ _ _ h => h) (Or.inl ⟨by rfl, ?_⟩) ?_ ?_
                                  rotate_left
                                  · intro w'
                                    go_simp
                                    with_reducible rfl
                                  rotate_left
                                  · simp only [Act.put, List.setIfInBounds_toArray, List.set_cons_zero, List.set_cons_succ, i64_w, i32_w]
                                    rfl
                                  refine done_ (done_of HT_.out (by kernel_rfl)) ?_
                                  try go_wp2
                                  have n0_ : Aside0 (Kd.R (Kd.int .i64) 3 ((((w144.setCell ⟨gb327, 0, none⟩ (.int .i64 t322)).setCell ⟨gb327, 1, none⟩ (.int .i64 t323)).setCell ⟨gb327, 2, none⟩ (.int .i64 t324)).setCell ⟨gb327, 3, none⟩ (.int .i64 t325)) w.heap.size (fun _ => True) (.slice (some ad314) y310.length co131) y310) := ⟨by (with_reducible repeat (first | apply Kd.R_alloc | apply Kd.R_drewN | apply Kd.R_drew)); exact Kd.R_mono (Kd.R_far (p := ⟨gb327, 3, none⟩) (Kd.R_far (p := ⟨gb327, 2, none⟩) (Kd.R_far (p := ⟨gb327, 1, none⟩) (Kd.R_far (p := ⟨gb327, 0, none⟩) (Kd.R_types HO_5.out BK327.out (by decide)) (fun _ hk => hk.2) (.int .i64 t322)) (fun _ hk => hk.2) (.int .i64 t323)) (fun _ hk => hk.2) (.int .i64 t324)) (fun _ hk => hk.2) (.int .i64 t325)) (fun _ hk => trivial)⟩
                                  have n1_ : Aside0 (((((w144.setCell ⟨gb327, 0, none⟩ (.int .i64 t322)).setCell ⟨gb327, 1, none⟩ (.int .i64 t323)).setCell ⟨gb327, 2, none⟩ (.int .i64 t324)).setCell ⟨gb327, 3, none⟩ (.int .i64 t325)).heap[gb313]? = some (.cells #[.int .i64 x314000_2, .int .i64 x314001_2, .int .i64 x314002_2, .int .i64 x314003_2] 39 (0, 0))) := ⟨by (with_reducible repeat (first | refine blk_drewN ?_ _ | refine blk_drew ?_ | refine blk_alloc ?_ _)); refine blk_far ?_ NB313_327.out _; (with_reducible repeat (first | refine blk_drewN ?_ _ | refine blk_drew ?_ | refine blk_alloc ?_ _)); refine blk_far ?_ NB313_327.out _; (with_reducible repeat (first | refine blk_drewN ?_ _ | refine blk_drew ?_ | refine blk_alloc ?_ _)); refine blk_far ?_ NB313_327.out _; (with_reducible repeat (first | refine blk_drewN ?_ _ | refine blk_drew ?_ | refine blk_alloc ?_ _)); refine blk_far ?_ NB313_327.out _; (with_reducible repeat (first | refine blk_drewN ?_ _ | refine blk_drew ?_ | refine blk_alloc ?_ _)); exact BK313.out⟩
                                  have n2_ : Aside0 (((((w144.setCell ⟨gb327, 0, none⟩ (.int .i64 t322)).setCell ⟨gb327, 1, none⟩ (.int .i64 t323)).setCell ⟨gb327, 2, none⟩ (.int .i64 t324)).setCell ⟨gb327, 3, none⟩ (.int .i64 t325)).heap[gb320]? = some (.cells #[.int .i64 t315, .int .i64 t316, .int .i64 t317, .int .i64 t318] 39 (0, 0))) := ⟨by (with_reducible repeat (first | refine blk_drewN ?_ _ | refine blk_drew ?_ | refine blk_alloc ?_ _)); refine blk_far ?_ NB320_327.out _; (with_reducible repeat (first | refine blk_drewN ?_ _ | refine blk_drew ?_ | refine blk_alloc ?_ _)); refine blk_far ?_ NB320_327.out _; (with_reducible repeat (first | refine blk_drewN ?_ _ | refine blk_drew ?_ | refine blk_alloc ?_ _)); refine blk_far ?_ NB320_327.out _; (with_reducible repeat (first | refine blk_drewN ?_ _ | refine blk_drew ?_ | refine blk_alloc ?_ _)); refine blk_far ?_ NB320_327.out _; (with_reducible repeat (first | refine blk_drewN ?_ _ | refine blk_drew ?_ | refine blk_alloc ?_ _)); exact BK320.out⟩
                                  have n3_ : Aside0 (((((w144.setCell ⟨gb327, 0, none⟩ (.int .i64 t322)).setCell ⟨gb327, 1, none⟩ (.int .i64 t323)).setCell ⟨gb327, 2, none⟩ (.int .i64 t324)).setCell ⟨gb327, 3, none⟩ (.int .i64 t325)).heap[gb327]? = some (.cells #[.int .i64 t322, .int .i64 t323, .int .i64 t324, .int .i64 t325] 39 (0, 0))) := ⟨by (with_reducible repeat (first | refine blk_drewN ?_ _ | refine blk_drew ?_ | refine blk_alloc ?_ _)); refine blk_put (cs := #[.int .i64 t322, .int .i64 t323, .int .i64 t324, .int .i64 0]) ?_ 3 _ rfl; (with_reducible repeat (first | refine blk_drewN ?_ _ | refine blk_drew ?_ | refine blk_alloc ?_ _)); refine blk_put (cs := #[.int .i64 t322, .int .i64 t323, .int .i64 0, .int .i64 0]) ?_ 2 _ rfl; (with_reducible repeat (first | refine blk_drewN ?_ _ | refine blk_drew ?_ | refine blk_alloc ?_ _)); refine blk_put (cs := #[.int .i64 t322, .int .i64 0, .int .i64 0, .int .i64 0]) ?_ 1 _ rfl; (with_reducible repeat (first | refine blk_drewN ?_ _ | refine blk_drew ?_ | refine blk_alloc ?_ _)); refine blk_put (cs := #[.int .i64 0, .int .i64 0, .int .i64 0, .int .i64 0]) ?_ 0 _ rfl; (with_reducible repeat (first | refine blk_drewN ?_ _ | refine blk_drew ?_ | refine blk_alloc ?_ _)); exact BK327.out⟩
                                  have n4_ : Aside0 (Below w.heap.size w ((((w144.setCell ⟨gb327, 0, none⟩ (.int .i64 t322)).setCell ⟨gb327, 1, none⟩ (.int .i64 t323)).setCell ⟨gb327, 2, none⟩ (.int .i64 t324)).setCell ⟨gb327, 3, none⟩ (.int .i64 t325))) := ⟨by repeat (first | (with_reducible first | exact HB.out | apply below_alloc | apply pw_below_drewN | apply below_drew1 | refine below_set ?_ GE313.out | refine below_set ?_ GE320.out | refine below_set ?_ GE327.out) | exact HB.out)⟩
                                  (try clear HO_5)
                                  (try clear BK313)
                                  (try clear BK320)
                                  (try clear BK327)
                                  (try clear HB)
                                  generalize ((((w144.setCell ⟨gb327, 0, none⟩ (.int .i64 t322)).setCell ⟨gb327, 1, none⟩ (.int .i64 t323)).setCell ⟨gb327, 2, none⟩ (.int .i64 t324)).setCell ⟨gb327, 3, none⟩ (.int .i64 t325)) = w149 at n0_ n1_ n2_ n3_ n4_ ⊢
                                  have HO_5 := n0_
                                  have BK313 := n1_
                                  have BK320 := n2_
                                  have BK327 := n3_
                                  have HB := n4_
                                  clear n0_ n1_ n2_ n3_ n4_
                                  have n0_ := Aside0.mk (Kd.R_drew HO_5.out)
                                  have n1_ := Aside0.mk (blk_drew BK313.out)
                                  have n2_ := Aside0.mk (blk_drew BK320.out)
                                  have n3_ := Aside0.mk (blk_drew BK327.out)
                                  have n4_ := Aside0.mk (below_drew1 HB.out)
                                  clear HO_5
                                  clear BK313
                                  clear BK320
                                  clear BK327
                                  clear HB
                                  have HO_5 := n0_
                                  have BK313 := n1_
                                  have BK320 := n2_
                                  have BK327 := n3_
                                  have HB := n4_
                                  clear n0_ n1_ n2_ n3_ n4_
                                  have p328 : 0 ≤ (x7_2 : Int) := of_decide_eq_true (by first | (with_reducible assumption) | assumption)
                                  have q328 : x7_2 < (y310.length : Int) := of_decide_eq_true (by first | (with_reducible assumption) | assumption)
                                  obtain ⟨ad328, e328, hx328_0⟩ := Kd.at_int (Kd.R_reads' HO_5.out).2.2 x7_2 p328 q328
                                  obtain rfl : ad314 = ad328 := (by injection e328)
                                  replace p328 := eq_true p328
                                  replace q328 := eq_true q328
                                  have p329 : 0 ≤ (x7_2 : Int) := of_decide_eq_true (by first | (with_reducible assumption) | assumption)
                                  have q329 : x7_2 < (y310.length : Int) := of_decide_eq_true (by first | (with_reducible assumption) | assumption)
                                  obtain ⟨ad329, e329, hx329_0⟩ := Kd.at_int (Kd.R_reads' HO_5.out).2.2 x7_2 p329 q329
                                  obtain rfl : ad314 = ad329 := (by injection e329)
                                  replace p329 := eq_true p329
                                  replace q329 := eq_true q329
                                  refine start_ (n := 46) (S := fun w' => w'.cell? ⟨gb320, 0, none⟩ = some (.int .i64 t315) ∧ w'.cell? ⟨gb320, 1, none⟩ = some (.int .i64 t316) ∧ w'.cell? ⟨gb320, 2, none⟩ = some (.int .i64 t317) ∧ w'.cell? ⟨gb320, 3, none⟩ = some (.int .i64 t318) ∧ w'.cell? ⟨gb327, 0, none⟩ = some (.int .i64 t322) ∧ w'.cell? ⟨gb327, 1, none⟩ = some (.int .i64 t323) ∧ w'.cell? ⟨gb327, 2, none⟩ = some (.int .i64 t324) ∧ w'.cell? ⟨gb327, 3, none⟩ = some (.int .i64 t325) ∧ w'.cell? (ad314.add (x7_2).toNat) = some (.int .i64 (rd y310 x7_2)) ∧ w'.cell? (ad314.add (x7_2).toNat) = some (.int .i64 (rd y310 x7_2))) (ds := []) #[false, false, false, false, false, false, false, false, false, false, false, false, false, false, false, false, false, false, false, false, false, false, false, false, false, false, false, false, false, false, false, false, false, false, false, false, false, false, false, false, false, false, false, false, false, false] (by kernel_rfl) rfl rfl ⟨(blk_cell BK320.out 0).trans rfl, (blk_cell BK320.out 1).trans rfl, (blk_cell BK320.out 2).trans rfl, (blk_cell BK320.out 3).trans rfl, (blk_cell BK327.out 0).trans rfl, (blk_cell BK327.out 1).trans rfl, (blk_cell BK327.out 2).trans rfl, (blk_cell BK327.out 3).trans rfl, hx328_0, hx329_0⟩ (fun hHeld => ?_); refine with_tabW laws_FnMeter.tab10 laws_FnMeter.bits10 (fun HT_ HW_ => ?_)
                                  generalize w149.drew = w150 at HO_5 BK313 BK320 BK327 HB hx328_0 hx329_0 hHeld ⊢
                                  refine pure_ (i := 0) (N := some 65) (v := ?_) (a' := ?_) #[true, false, false, false, false, false, false, false, false, false, false, false, false, false, false, false, false, false, false, false, false, false, false, false, false, false, false, false, false, false, false, false, false, false, false, false, false, false, false, false, false, false, false, false, false, false] rfl rfl (any_of HT_.out (by kernel_rfl)) (fun _ _ _ h => h) (Or.inl ⟨by rfl, ?_⟩) ?_ ?_
                                  rotate_left
                                  · intro w'
                                    go_simp
                                    with_reducible rfl
                                  rotate_left
                                  · simp only [Act.put, List.setIfInBounds_toArray, List.set_cons_zero, List.set_cons_succ, i64_w, i32_w]
                                    rfl
                                  refine pure_ (i := 1) (N := some 66) (v := ?_) (a' := ?_) #[true, true, false, false, false, false, false, false, false, false, false, false, false, false, false, false, false, false, false, false, false, false, false, false, false, false, false, false, false, false, false, false, false, false, false, false, false, false, false, false, false, false, false, false, false, false] rfl rfl (any_of HT_.out (by kernel_rfl)) (fun _ _ _ h => h) (Or.inl ⟨by rfl, ?_⟩) ?_ ?_
                                  rotate_left
                                  · intro w'
                                    go_simp
                                    with_reducible rfl
                                  rotate_left
                                  · simp only [Act.put, List.setIfInBounds_toArray, List.set_cons_zero, List.set_cons_succ, i64_w, i32_w]
                                    rfl
                                  refine pure_ (i := 2) (N := some 67) (v := ?_) (a' := ?_) #[true, true, true, false, false, false, false, false, false, false, false, false, false, false, false, false, false, false, false, false, false, false, false, false, false, false, false, false, false, false, false, false, false, false, false, false, false, false, false, false, false, false, false, false, false, false] rfl rfl (any_of HT_.out (by kernel_rfl)) (fun _ _ _ h => h) (Or.inl ⟨by rfl, ?_⟩) ?_ ?_
                                  rotate_left
                                  · intro w'
                                    go_simp
                                    with_reducible rfl
                                  rotate_left
                                  · simp only [Act.put, List.setIfInBounds_toArray, List.set_cons_zero, List.set_cons_succ, i64_w, i32_w]
                                    rfl
                                  refine take_ (i := 3) (N := some 68) (v := ?_) (a' := ?_) #[true, true, true, true, false, false, false, false, false, false, false, false, false, false, false, false, false, false, false, false, false, false, false, false, false, false, false, false, false, false, false, false, false, false, false, false, false, false, false, false, false, false, false, false, false, false] rfl rfl (take_ofW HT_.out HW_.out (by kernel_rfl)) (fun _ _ _ h => h) (Or.inl ⟨by rfl, ?_⟩) hHeld ?_ ?_
                                  rotate_left
                                  · rintro w' ⟨s0, s1, s2, s3, s4, s5, s6, s7, s8, s9⟩
                                    go_simp
                                    with_reducible rfl
                                  rotate_left
                                  · simp only [Act.put, List.setIfInBounds_toArray, List.set_cons_zero, List.set_cons_succ, i64_w, i32_w]
                                    rfl
                                  refine take_ (i := 4) (N := some 69) (v := ?_) (a' := ?_) #[true, true, true, true, true, false, false, false, false, false, false, false, false, false, false, false, false, false, false, false, false, false, false, false, false, false, false, false, false, false, false, false, false, false, false, false, false, false, false, false, false, false, false, false, false, false] rfl rfl (take_ofW HT_.out HW_.out (by kernel_rfl)) (fun _ _ _ h => h) (Or.inl ⟨by rfl, ?_⟩) hHeld ?_ ?_
                                  rotate_left
                                  · rintro w' ⟨s0, s1, s2, s3, s4, s5, s6, s7, s8, s9⟩
                                    go_simp
                                    with_reducible rfl
                                  rotate_left
                                  · simp only [Act.put, List.setIfInBounds_toArray, List.set_cons_zero, List.set_cons_succ, i64_w, i32_w]
                                    rfl
                                  refine pure_ (i := 5) (N := some 70) (v := ?_) (a' := ?_) #[true, true, true, true, true, true, false, false, false, false, false, false, false, false, false, false, false, false, false, false, false, false, false, false, false, false, false, false, false, false, false, false, false, false, false, false, false, false, false, false, false, false, false, false, false, false] rfl rfl (any_of HT_.out (by kernel_rfl)) (fun _ _ _ h => h) (Or.inl ⟨by rfl, ?_⟩) ?_ ?_
                                  rotate_left
                                  · intro w'
                                    go_simp
                                    with_reducible rfl
                                  rotate_left
                                  · simp only [Act.put, List.setIfInBounds_toArray, List.set_cons_zero, List.set_cons_succ, i64_w, i32_w]
                                    rfl
                                  refine pure_ (i := 6) (N := some 71) (v := ?_) (a' := ?_) #[true, true, true, true, true, true, true, false, false, false, false, false, false, false, false, false, false, false, false, false, false, false, false, false, false, false, false, false, false, false, false, false, false, false, false, false, false, false, false, false, false, false, false, false, false, false] rfl rfl (any_of HT_.out (by kernel_rfl)) (fun _ _ _ h => h) (Or.inl ⟨by rfl, ?_⟩) ?_ ?_
                                  rotate_left
                                  · intro w'
                                    go_simp
                                    with_reducible rfl
                                  rotate_left
                                  · simp only [Act.put, List.setIfInBounds_toArray, List.set_cons_zero, List.set_cons_succ, i64_w, i32_w]
                                    rfl
                                  refine pure_ (i := 7) (N := some 72) (v := ?_) (a' := ?_) #[true, true, true, true, true, true, true, true, false, false, false, false, false, false, false, false, false, false, false, false, false, false, false, false, false, false, false, false, false, false, false, false, false, false, false, false, false, false, false, false, false, false, false, false, false, false] rfl rfl (any_of HT_.out (by kernel_rfl)) (fun _ _ _ h => h) (Or.inl ⟨by rfl, ?_⟩) ?_ ?_
                                  rotate_left
                                  · intro w'
                                    go_simp
                                    with_reducible rfl
                                  rotate_left
                                  · simp only [Act.put, List.setIfInBounds_toArray, List.set_cons_zero, List.set_cons_succ, i64_w, i32_w]
                                    rfl
                                  refine pure_ (i := 8) (N := some 73) (v := ?_) (a' := ?_) #[true, true, true, true, true, true, true, true, true, false, false, false, false, false, false, false, false, false, false, false, false, false, false, false, false, false, false, false, false, false, false, false, false, false, false, false, false, false, false, false, false, false, false, false, false, false] rfl rfl (any_of HT_.out (by kernel_rfl)) (fun _ _ _ h => h) (Or.inl ⟨by rfl, ?_⟩) ?_ ?_
                                  rotate_left
                                  · intro w'
                                    go_simp
                                    with_reducible rfl
                                  rotate_left
                                  · simp only [Act.put, List.setIfInBounds_toArray, List.set_cons_zero, List.set_cons_succ, i64_w, i32_w]
                                    rfl
                                  refine pure_ (i := 10) (N := some 75) (v := ?_) (a' := ?_) #[true, true, true, true, true, true, true, true, true, false, true, false, false, false, false, false, false, false, false, false, false, false, false, false, false, false, false, false, false, false, false, false, false, false, false, false, false, false, false, false, false, false, false, false, false, false] rfl rfl (any_of HT_.out (by kernel_rfl)) (fun _ _ _ h => h) (Or.inl ⟨by rfl, ?_⟩) ?_ ?_
                                  rotate_left
                                  · intro w'
                                    go_simp
                                    with_reducible rfl
                                  rotate_left
                                  · simp only [Act.put, List.setIfInBounds_toArray, List.set_cons_zero, List.set_cons_succ, i64_w, i32_w]
                                    rfl
                                  refine take_ (i := 9) (N := some 74) (v := ?_) (a' := ?_) #[true, true, true, true, true, true, true, true, true, true, true, false, false, false, false, false, false, false, false, false, false, false, false, false, false, false, false, false, false, false, false, false, false, false, false, false, false, false, false, false, false, false, false, false, false, false] rfl rfl (take_ofW HT_.out HW_.out (by kernel_rfl)) (fun _ _ _ h => h) (Or.inl ⟨by rfl, ?_⟩) hHeld ?_ ?_
                                  rotate_left
                                  · rintro w' ⟨s0, s1, s2, s3, s4, s5, s6, s7, s8, s9⟩
                                    go_simp
                                    with_reducible rfl
                                  rotate_left
                                  · simp only [Act.put, List.setIfInBounds_toArray, List.set_cons_zero, List.set_cons_succ, i64_w, i32_w]
                                    rfl
                                  refine take_ (i := 11) (N := some 76) (v := ?_) (a' := ?_) #[true, true, true, true, true, true, true, true, true, true, true, true, false, false, false, false, false, false, false, false, false, false, false, false, false, false, false, false, false, false, false, false, false, false, false, false, false, false, false, false, false, false, false, false, false, false] rfl rfl (take_ofW HT_.out HW_.out (by kernel_rfl)) (fun _ _ _ h => h) (Or.inl ⟨by rfl, ?_⟩) hHeld ?_ ?_
                                  rotate_left
                                  · rintro w' ⟨s0, s1, s2, s3, s4, s5, s6, s7, s8, s9⟩
                                    go_simp
                                    with_reducible rfl
                                  rotate_left
                                  · simp only [Act.put, List.setIfInBounds_toArray, List.set_cons_zero, List.set_cons_succ, i64_w, i32_w]
                                    rfl
                                  refine pure_ (i := 12) (N := some 77) (v := ?_) (a' := ?_) #[true, true, true, true, true, true, true, true, true, true, true, true, true, false, false, false, false, false, false, false, false, false, false, false, false, false, false, false, false, false, false, false, false, false, false, false, false, false, false, false, false, false, false, false, false, false] rfl rfl (any_of HT_.out (by kernel_rfl)) (fun _ _ _ h => h) (Or.inl ⟨by rfl, ?_⟩) ?_ ?_
                                  rotate_left
                                  · intro w'
                                    go_simp
                                    with_reducible rfl
                                  rotate_left
                                  · simp only [Act.put, List.setIfInBounds_toArray, List.set_cons_zero, List.set_cons_succ, i64_w, i32_w]
                                    rfl
                                  refine pure_ (i := 13) (N := some 78) (v := ?_) (a' := ?_) #[true, true, true, true, true, true, true, true, true, true, true, true, true, true, false, false, false, false, false, false, false, false, false, false, false, false, false, false, false, false, false, false, false, false, false, false, false, false, false, false, false, false, false, false, false, false] rfl rfl (any_of HT_.out (by kernel_rfl)) (fun _ _ _ h => h) (Or.inl ⟨by rfl, ?_⟩) ?_ ?_
                                  rotate_left
                                  · intro w'
                                    go_simp
                                    with_reducible rfl
                                  rotate_left
                                  · simp only [Act.put, List.setIfInBounds_toArray, List.set_cons_zero, List.set_cons_succ, i64_w, i32_w]
                                    rfl
                                  refine pure_ (i := 14) (N := some 79) (v := ?_) (a' := ?_) #[true, true, true, true, true, true, true, true, true, true, true, true, true, true, true, false, false, false, false, false, false, false, false, false, false, false, false, false, false, false, false, false, false, false, false, false, false, false, false, false, false, false, false, false, false, false] rfl rfl (any_of HT_.out (by kernel_rfl)) (fun _ _ _ h => h) (Or.inl ⟨by rfl, ?_⟩) ?_ ?_
                                  rotate_left
                                  · intro w'
                                    go_simp
                                    with_reducible rfl
                                  rotate_left
                                  · simp only [Act.put, List.setIfInBounds_toArray, List.set_cons_zero, List.set_cons_succ, i64_w, i32_w]
                                    rfl
                                  refine pure_ (i := 15) (N := some 80) (v := ?_) (a' := ?_) #[true, true, true, true, true, true, true, true, true, true, true, true, true, true, true, true, false, false, false, false, false, false, false, false, false, false, false, false, false, false, false, false, false, false, false, false, false, false, false, false, false, false, false, false, false, false] rfl rfl (any_of HT_.out (by kernel_rfl)) (fun _ _ _ h => h) (Or.inl ⟨by rfl, ?_⟩) ?_ ?_
                                  rotate_left
                                  · intro w'
                                    go_simp
                                    with_reducible rfl
                                  rotate_left
                                  · simp only [Act.put, List.setIfInBounds_toArray, List.set_cons_zero, List.set_cons_succ, i64_w, i32_w]
                                    rfl
                                  refine pure_ (i := 17) (N := some 82) (v := ?_) (a' := ?_) #[true, true, true, true, true, true, true, true, true, true, true, true, true, true, true, true, false, true, false, false, false, false, false, false, false, false, false, false, false, false, false, false, false, false, false, false, false, false, false, false, false, false, false, false, false, false] rfl rfl (any_of HT_.out (by kernel_rfl)) (fun _ _ _ h => h) (Or.inl ⟨by rfl, ?_⟩) ?_ ?_
                                  rotate_left
                                  · intro w'
                                    go_simp
                                    with_reducible rfl
                                  rotate_left
                                  · simp only [Act.put, List.setIfInBounds_toArray, List.set_cons_zero, List.set_cons_succ, i64_w, i32_w]
                                    rfl
                                  refine take_ (i := 16) (N := some 81) (v := ?_) (a' := ?_) #[true, true, true, true, true, true, true, true, true, true, true, true, true, true, true, true, true, true, false, false, false, false, false, false, false, false, false, false, false, false, false, false, false, false, false, false, false, false, false, false, false, false, false, false, false, false] rfl rfl (take_ofW HT_.out HW_.out (by kernel_rfl)) (fun _ _ _ h => h) (Or.inl ⟨by rfl, ?_⟩) hHeld ?_ ?_
                                  rotate_left
                                  · rintro w' ⟨s0, s1, s2, s3, s4, s5, s6, s7, s8, s9⟩
                                    go_simp
                                    with_reducible rfl
                                  rotate_left
                                  · simp only [Act.put, List.setIfInBounds_toArray, List.set_cons_zero, List.set_cons_succ, i64_w, i32_w]
                                    rfl
                                  refine take_ (i := 18) (N := some 83) (v := ?_) (a' := ?_) #[true, true, true, true, true, true, true, true, true, true, true, true, true, true, true, true, true, true, true, false, false, false, false, false, false, false, false, false, false, false, false, false, false, false, false, false, false, false, false, false, false, false, false, false, false, false] rfl rfl (take_ofW HT_.out HW_.out (by kernel_rfl)) (fun _ _ _ h => h) (Or.inl ⟨by rfl, ?_⟩) hHeld ?_ ?_
                                  rotate_left
                                  · rintro w' ⟨s0, s1, s2, s3, s4, s5, s6, s7, s8, s9⟩
                                    go_simp
                                    with_reducible rfl
                                  rotate_left
                                  · simp only [Act.put, List.setIfInBounds_toArray, List.set_cons_zero, List.set_cons_succ, i64_w, i32_w]
                                    rfl
                                  refine pure_ (i := 19) (N := some 84) (v := ?_) (a' := ?_) #[true, true, true, true, true, true, true, true, true, true, true, true, true, true, true, true, true, true, true, true, false, false, false, false, false, false, false, false, false, false, false, false, false, false, false, false, false, false, false, false, false, false, false, false, false, false] rfl rfl (any_of HT_.out (by kernel_rfl)) (fun _ _ _ h => h) (Or.inl ⟨by rfl, ?_⟩) ?_ ?_
                                  rotate_left
                                  · intro w'
                                    go_simp
                                    with_reducible rfl
                                  rotate_left
                                  · simp only [Act.put, List.setIfInBounds_toArray, List.set_cons_zero, List.set_cons_succ, i64_w, i32_w]
                                    rfl
                                  refine pure_ (i := 20) (N := some 85) (v := ?_) (a' := ?_) #[true, true, true, true, true, true, true, true, true, true, true, true, true, true, true, true, true, true, true, true, true, false, false, false, false, false, false, false, false, false, false, false, false, false, false, false, false, false, false, false, false, false, false, false, false, false] rfl rfl (any_of HT_.out (by kernel_rfl)) (fun _ _ _ h => h) (Or.inl ⟨by rfl, ?_⟩) ?_ ?_
                                  rotate_left
                                  · intro w'
                                    go_simp
                                    with_reducible rfl
                                  rotate_left
                                  · simp only [Act.put, List.setIfInBounds_toArray, List.set_cons_zero, List.set_cons_succ, i64_w, i32_w]
                                    rfl
                                  refine pure_ (i := 21) (N := some 86) (v := ?_) (a' := ?_) #[true, true, true, true, true, true, true, true, true, true, true, true, true, true, true, true, true, true, true, true, true, true, false, false, false, false, false, false, false, false, false, false, false, false, false, false, false, false, false, false, false, false, false, false, false, false] rfl rfl (any_of HT_.out (by kernel_rfl)) (fun _ _ _ h => h) (Or.inl ⟨by rfl, ?_⟩) ?_ ?_
                                  rotate_left
                                  · intro w'
                                    go_simp
                                    with_reducible rfl
                                  rotate_left
                                  · simp only [Act.put, List.setIfInBounds_toArray, List.set_cons_zero, List.set_cons_succ, i64_w, i32_w]
                                    rfl
                                  refine pure_ (i := 22) (N := some 87) (v := ?_) (a' := ?_) #[true, true, true, true, true, true, true, true, true, true, true, true, true, true, true, true, true, true, true, true, true, true, true, false, false, false, false, false, false, false, false, false, false, false, false, false, false, false, false, false, false, false, false, false, false, false] rfl rfl (any_of HT_.out (by kernel_rfl)) (fun _ _ _ h => h) (Or.inl ⟨by rfl, ?_⟩) ?_ ?_
                                  rotate_left
                                  · intro w'
                                    go_simp
                                    with_reducible rfl
                                  rotate_left
                                  · simp only [Act.put, List.setIfInBounds_toArray, List.set_cons_zero, List.set_cons_succ, i64_w, i32_w]
                                    rfl
                                  refine pure_ (i := 23) (N := some 88) (v := ?_) (a' := ?_) #[true, true, true, true, true, true, true, true, true, true, true, true, true, true, true, true, true, true, true, true, true, true, true, true, false, false, false, false, false, false, false, false, false, false, false, false, false, false, false, false, false, false, false, false, false, false] rfl rfl (any_of HT_.out (by kernel_rfl)) (fun _ _ _ h => h) (Or.inl ⟨by rfl, ?_⟩) ?_ ?_
                                  rotate_left
                                  · intro w'
                                    go_simp
                                    with_reducible rfl
                                  rotate_left
                                  · simp only [Act.put, List.setIfInBounds_toArray, List.set_cons_zero, List.set_cons_succ, i64_w, i32_w]
                                    rfl
                                  refine pure_ (i := 24) (N := some 89) (v := ?_) (a' := ?_) #[true, true, true, true, true, true, true, true, true, true, true, true, true, true, true, true, true, true, true, true, true, true, true, true, true, false, false, false, false, false, false, false, false, false, false, false, false, false, false, false, false, false, false, false, false, false] rfl rfl (any_of HT_.out (by kernel_rfl)) (fun _ _ _ h => h) (Or.inl ⟨by rfl, ?_⟩) ?_ ?_
                                  rotate_left
                                  · intro w'
                                    go_simp
                                    with_reducible rfl
                                  rotate_left
                                  · simp only [Act.put, List.setIfInBounds_toArray, List.set_cons_zero, List.set_cons_succ, i64_w, i32_w]
                                    rfl
                                  refine pure_ (i := 26) (N := some 91) (v := ?_) (a' := ?_) #[true, true, true, true, true, true, true, true, true, true, true, true, true, true, true, true, true, true, true, true, true, true, true, true, true, false, true, false, false, false, false, false, false, false, false, false, false, false, false, false, false, false, false, false, false, false] rfl rfl (any_of HT_.out (by kernel_rfl)) (fun _ _ _ h => h) (Or.inl ⟨by rfl, ?_⟩) ?_ ?_
                                  rotate_left
                                  · intro w'
                                    go_simp
                                    with_reducible rfl
                                  rotate_left
                                  · simp only [Act.put, List.setIfInBounds_toArray, List.set_cons_zero, List.set_cons_succ, i64_w, i32_w]
                                    rfl
                                  refine take_ (i := 25) (N := some 90) (v := ?_) (a' := ?_) #[true, true, true, true, true, true, true, true, true, true, true, true, true, true, true, true, true, true, true, true, true, true, true, true, true, true, true, false, false, false, false, false, false, false, false, false, false, false, false, false, false, false, false, false, false, false] rfl rfl (take_ofW HT_.out HW_.out (by kernel_rfl)) (fun _ _ _ h => h) (Or.inl ⟨by rfl, ?_⟩) hHeld ?_ ?_
                                  rotate_left
                                  · rintro w' ⟨s0, s1, s2, s3, s4, s5, s6, s7, s8, s9⟩
                                    go_simp
                                    with_reducible rfl
                                  rotate_left
                                  · simp only [Act.put, List.setIfInBounds_toArray, List.set_cons_zero, List.set_cons_succ, i64_w, i32_w]
                                    rfl
                                  refine take_ (i := 27) (N := some 92) (v := ?_) (a' := ?_) #[true, true, true, true, true, true, true, true, true, true, true, true, true, true, true, true, true, true, true, true, true, true, true, true, true, true, true, true, false, false, false, false, false, false, false, false, false, false, false, false, false, false, false, false, false, false] rfl rfl (take_ofW HT_.out HW_.out (by kernel_rfl)) (fun _ _ _ h => h) (Or.inl ⟨by rfl, ?_⟩) hHeld ?_ ?_
                                  rotate_left
                                  · rintro w' ⟨s0, s1, s2, s3, s4, s5, s6, s7, s8, s9⟩
                                    go_simp
                                    with_reducible rfl
                                  rotate_left
                                  · simp only [Act.put, List.setIfInBounds_toArray, List.set_cons_zero, List.set_cons_succ, i64_w, i32_w]
                                    rfl
                                  refine pure_ (i := 28) (N := some 93) (v := ?_) (a' := ?_) #[true, true, true, true, true, true, true, true, true, true, true, true, true, true, true, true, true, true, true, true, true, true, true, true, true, true, true, true, true, false, false, false, false, false, false, false, false, false, false, false, false, false, false, false, false, false] rfl rfl (any_of HT_.out (by kernel_rfl)) (fun _ _ _ h => h) (Or.inl ⟨by rfl, ?_⟩) ?_ ?_
                                  rotate_left
                                  · intro w'
                                    go_simp
                                    with_reducible rfl
                                  rotate_left
                                  · simp only [Act.put, List.setIfInBounds_toArray, List.set_cons_zero, List.set_cons_succ, i64_w, i32_w]
                                    rfl
                                  refine pure_ (i := 29) (N := some 94) (v := ?_) (a' := ?_) #[true, true, true, true, true, true, true, true, true, true, true, true, true, true, true, true, true, true, true, true, true, true, true, true, true, true, true, true, true, true, false, false, false, false, false, false, false, false, false, false, false, false, false, false, false, false] rfl rfl (any_of HT_.out (by kernel_rfl)) (fun _ _ _ h => h) (Or.inl ⟨by rfl, ?_⟩) ?_ ?_
                                  rotate_left
                                  · intro w'
                                    go_simp
                                    with_reducible rfl
                                  rotate_left
                                  · simp only [Act.put, List.setIfInBounds_toArray, List.set_cons_zero, List.set_cons_succ, i64_w, i32_w]
                                    rfl
                                  refine pure_ (i := 30) (N := some 95) (v := ?_) (a' := ?_) #[true, true, true, true, true, true, true, true, true, true, true, true, true, true, true, true, true, true, true, true, true, true, true, true, true, true, true, true, true, true, true, false, false, false, false, false, false, false, false, false, false, false, false, false, false, false] rfl rfl (any_of HT_.out (by kernel_rfl)) (fun _ _ _ h => h) (Or.inl ⟨by rfl, ?_⟩) ?_ ?_
                                  rotate_left
                                  · intro w'
                                    go_simp
                                    with_reducible rfl
                                  rotate_left
                                  · simp only [Act.put, List.setIfInBounds_toArray, List.set_cons_zero, List.set_cons_succ, i64_w, i32_w]
                                    rfl
                                  refine pure_ (i := 31) (N := some 96) (v := ?_) (a' := ?_) #[true, true, true, true, true, true, true, true, true, true, true, true, true, true, true, true, true, true, true, true, true, true, true, true, true, true, true, true, true, true, true, true, false, false, false, false, false, false, false, false, false, false, false, false, false, false] rfl rfl (any_of HT_.out (by kernel_rfl)) (fun _ _ _ h => h) (Or.inl ⟨by rfl, ?_⟩) ?_ ?_
                                  rotate_left
                                  · intro w'
                                    go_simp
                                    with_reducible rfl
                                  rotate_left
                                  · simp only [Act.put, List.setIfInBounds_toArray, List.set_cons_zero, List.set_cons_succ, i64_w, i32_w]
                                    rfl
                                  refine pure_ (i := 32) (N := some 97) (v := ?_) (a' := ?_) #[true, true, true, true, true, true, true, true, true, true, true, true, true, true, true, true, true, true, true, true, true, true, true, true, true, true, true, true, true, true, true, true, true, false, false, false, false, false, false, false, false, false, false, false, false, false] rfl rfl (any_of HT_.out (by kernel_rfl)) (fun _ _ _ h => h) (Or.inl ⟨by rfl, ?_⟩) ?_ ?_
                                  rotate_left
                                  · intro w'
                                    go_simp
                                    with_reducible rfl
                                  rotate_left
                                  · simp only [Act.put, List.setIfInBounds_toArray, List.set_cons_zero, List.set_cons_succ, i64_w, i32_w]
                                    rfl
                                  refine pure_ (i := 33) (N := some 98) (v := ?_) (a' := ?_) #[true, true, true, true, true, true, true, true, true, true, true, true, true, true, true, true, true, true, true, true, true, true, true, true, true, true, true, true, true, true, true, true, true, true, false, false, false, false, false, false, false, false, false, false, false, false] rfl rfl (any_of HT_.out (by kernel_rfl)) (fun _ _ _ h => h) (Or.inl ⟨by rfl, ?_⟩) ?_ ?_
                                  rotate_left
                                  · intro w'
                                    go_simp
                                    with_reducible rfl
                                  rotate_left
                                  · simp only [Act.put, List.setIfInBounds_toArray, List.set_cons_zero, List.set_cons_succ, i64_w, i32_w]
                                    rfl
                                  refine pure_ (i := 35) (N := some 100) (v := ?_) (a' := ?_) #[true, true, true, true, true, true, true, true, true, true, true, true, true, true, true, true, true, true, true, true, true, true, true, true, true, true, true, true, true, true, true, true, true, true, false, true, false, false, false, false, false, false, false, false, false, false] rfl rfl (any_of HT_.out (by kernel_rfl)) (fun _ _ _ h => h) (Or.inl ⟨by rfl, ?_⟩) ?_ ?_
                                  rotate_left
                                  · intro w'
                                    go_simp
                                    with_reducible rfl
                                  rotate_left
                                  · simp only [Act.put, List.setIfInBounds_toArray, List.set_cons_zero, List.set_cons_succ, i64_w, i32_w]
                                    rfl
                                  refine take_ (i := 34) (N := some 99) (v := ?_) (a' := ?_) #[true, true, true, true, true, true, true, true, true, true, true, true, true, true, true, true, true, true, true, true, true, true, true, true, true, true, true, true, true, true, true, true, true, true, true, true, false, false, false, false, false, false, false, false, false, false] rfl rfl (take_ofW HT_.out HW_.out (by kernel_rfl)) (fun _ _ _ h => h) (Or.inl ⟨by rfl, ?_⟩) hHeld ?_ ?_
                                  rotate_left
                                  · rintro w' ⟨s0, s1, s2, s3, s4, s5, s6, s7, s8, s9⟩
                                    go_simp
                                    with_reducible rfl
                                  rotate_left
                                  · simp only [Act.put, List.setIfInBounds_toArray, List.set_cons_zero, List.set_cons_succ, i64_w, i32_w]
                                    rfl
                                  refine take_ (i := 36) (N := some 101) (v := ?_) (a' := ?_) #[true, true, true, true, true, true, true, true, true, true, true, true, true, true, true, true, true, true, true, true, true, true, true, true, true, true, true, true, true, true, true, true, true, true, true, true, true, false, false, false, false, false, false, false, false, false] rfl rfl (take_ofW HT_.out HW_.out (by kernel_rfl)) (fun _ _ _ h => h) (Or.inl ⟨by rfl, ?_⟩) hHeld ?_ ?_
                                  rotate_left
                                  · rintro w' ⟨s0, s1, s2, s3, s4, s5, s6, s7, s8, s9⟩
                                    go_simp
                                    with_reducible rfl
                                  rotate_left
                                  · simp only [Act.put, List.setIfInBounds_toArray, List.set_cons_zero, List.set_cons_succ, i64_w, i32_w]
                                    rfl
                                  refine pure_ (i := 37) (N := some 102) (v := ?_) (a' := ?_) #[true, true, true, true, true, true, true, true, true, true, true, true, true, true, true, true, true, true, true, true, true, true, true, true, true, true, true, true, true, true, true, true, true, true, true, true, true, true, false, false, false, false, false, false, false, false] rfl rfl (any_of HT_.out (by kernel_rfl)) (fun _ _ _ h => h) (Or.inl ⟨by rfl, ?_⟩) ?_ ?_
                                  rotate_left
                                  · intro w'
                                    go_simp
                                    with_reducible rfl
                                  rotate_left
                                  · simp only [Act.put, List.setIfInBounds_toArray, List.set_cons_zero, List.set_cons_succ, i64_w, i32_w]
                                    rfl
                                  refine pure_ (i := 38) (N := some 103) (v := ?_) (a' := ?_) #[true, true, true, true, true, true, true, true, true, true, true, true, true, true, true, true, true, true, true, true, true, true, true, true, true, true, true, true, true, true, true, true, true, true, true, true, true, true, true, false, false, false, false, false, false, false] rfl rfl (any_of HT_.out (by kernel_rfl)) (fun _ _ _ h => h) (Or.inl ⟨by rfl, ?_⟩) ?_ ?_
                                  rotate_left
                                  · intro w'
                                    go_simp
                                    with_reducible rfl
                                  rotate_left
                                  · simp only [Act.put, List.setIfInBounds_toArray, List.set_cons_zero, List.set_cons_succ, i64_w, i32_w]
                                    rfl
                                  refine pure_ (i := 39) (N := some 104) (v := ?_) (a' := ?_) #[true, true, true, true, true, true, true, true, true, true, true, true, true, true, true, true, true, true, true, true, true, true, true, true, true, true, true, true, true, true, true, true, true, true, true, true, true, true, true, true, false, false, false, false, false, false] rfl rfl (any_of HT_.out (by kernel_rfl)) (fun _ _ _ h => h) (Or.inl ⟨by rfl, ?_⟩) ?_ ?_
                                  rotate_left
                                  · intro w'
                                    go_simp
                                    with_reducible rfl
                                  rotate_left
                                  · simp only [Act.put, List.setIfInBounds_toArray, List.set_cons_zero, List.set_cons_succ, i64_w, i32_w]
                                    rfl
                                  refine pure_ (i := 40) (N := some 105) (v := ?_) (a' := ?_) #[true, true, true, true, true, true, true, true, true, true, true, true, true, true, true, true, true, true, true, true, true, true, true, true, true, true, true, true, true, true, true, true, true, true, true, true, true, true, true, true, true, false, false, false, false, false] rfl rfl (any_of HT_.out (by kernel_rfl)) (fun _ _ _ h => h) (Or.inl ⟨by rfl, ?_⟩) ?_ ?_
                                  rotate_left
                                  · intro w'
                                    go_simp
                                    with_reducible rfl
                                  rotate_left
                                  · simp only [Act.put, List.setIfInBounds_toArray, List.set_cons_zero, List.set_cons_succ, i64_w, i32_w]
                                    rfl
                                  refine pure_ (i := 42) (N := some 107) (v := ?_) (a' := ?_) #[true, true, true, true, true, true, true, true, true, true, true, true, true, true, true, true, true, true, true, true, true, true, true, true, true, true, true, true, true, true, true, true, true, true, true, true, true, true, true, true, true, false, true, false, false, false] rfl rfl (any_of HT_.out (by kernel_rfl)) (fun _ _ _ h => h) (Or.inl ⟨by rfl, ?_⟩) ?_ ?_
                                  rotate_left
                                  · intro w'
                                    go_simp
                                    with_reducible rfl
                                  rotate_left
                                  · simp only [Act.put, List.setIfInBounds_toArray, List.set_cons_zero, List.set_cons_succ, i64_w, i32_w]
                                    rfl
                                  refine pure_ (i := 43) (N := some 108) (v := ?_) (a' := ?_) #[true, true, true, true, true, true, true, true, true, true, true, true, true, true, true, true, true, true, true, true, true, true, true, true, true, true, true, true, true, true, true, true, true, true, true, true, true, true, true, true, true, false, true, true, false, false] rfl rfl (any_of HT_.out (by kernel_rfl)) (fun _ _ _ h => h) (Or.inl ⟨by rfl, ?_⟩) ?_ ?_
                                  rotate_left
                                  · intro w'
                                    go_simp
                                    with_reducible rfl
                                  rotate_left
                                  · simp only [Act.put, List.setIfInBounds_toArray, List.set_cons_zero, List.set_cons_succ, i64_w, i32_w]
                                    rfl
                                  refine take_ (i := 41) (N := some 106) (v := ?_) (a' := ?_) #[true, true, true, true, true, true, true, true, true, true, true, true, true, true, true, true, true, true, true, true, true, true, true, true, true, true, true, true, true, true, true, true, true, true, true, true, true, true, true, true, true, true, true, true, false, false] rfl rfl (take_ofW HT_.out HW_.out (by kernel_rfl)) (fun _ _ _ h => h) (Or.inl ⟨by rfl, ?_⟩) hHeld ?_ ?_
                                  rotate_left
                                  · rintro w' ⟨s0, s1, s2, s3, s4, s5, s6, s7, s8, s9⟩
                                    go_simp
                                    with_reducible rfl
                                  rotate_left
                                  · simp only [Act.put, List.setIfInBounds_toArray, List.set_cons_zero, List.set_cons_succ, i64_w, i32_w]
                                    rfl
                                  refine pure_ (i := 44) (N := some 109) (v := ?_) (a' := ?_) #[true, true, true, true, true, true, true, true, true, true, true, true, true, true, true, true, true, true, true, true, true, true, true, true, true, true, true, true, true, true, true, true, true, true, true, true, true, true, true, true, true, true, true, true, true, false] rfl rfl (any_of HT_.out (by kernel_rfl)) (fun _ _ _ h => h) (Or.inl ⟨by rfl, ?_⟩) ?_ ?_
                                  rotate_left
                                  · intro w'
                                    go_simp
                                    with_reducible rfl
                                  rotate_left
                                  · simp only [Act.put, List.setIfInBounds_toArray, List.set_cons_zero, List.set_cons_succ, i64_w, i32_w]
                                    rfl
                                  refine pure_ (i := 45) (N := some 110) (v := ?_) (a' := ?_) #[true, true, true, true, true, true, true, true, true, true, true, true, true, true, true, true, true, true, true, true, true, true, true, true, true, true, true, true, true, true, true, true, true, true, true, true, true, true, true, true, true, true, true, true, true, true] rfl rfl (any_of HT_.out (by kernel_rfl)) (fun _ _ _ h => h) (Or.inl ⟨by rfl, ?_⟩) ?_ ?_
                                  rotate_left
                                  · intro w'
                                    go_simp
                                    with_reducible rfl
                                  rotate_left
                                  · simp only [Act.put, List.setIfInBounds_toArray, List.set_cons_zero, List.set_cons_succ, i64_w, i32_w]
                                    rfl
                                  refine done_ (done_of HT_.out (by kernel_rfl)) ?_
                                  have hnb151 := NB320_313.out
                                  have hnc151 := NB313_320.out
                                  have hnb152 := NB320_327.out
                                  have hnc152 := NB327_320.out
                                  have hcz153_0 : w150.cell? ⟨gb320, 0, none⟩ = some (.int .i64 t315) := (blk_cell BK320.out 0).trans rfl
                                  have hcz153_1 : w150.cell? ⟨gb320, 1, none⟩ = some (.int .i64 t316) := (blk_cell BK320.out 1).trans rfl
                                  have hcz153_2 : w150.cell? ⟨gb320, 2, none⟩ = some (.int .i64 t317) := (blk_cell BK320.out 2).trans rfl
                                  have hcz153_3 : w150.cell? ⟨gb320, 3, none⟩ = some (.int .i64 t318) := (blk_cell BK320.out 3).trans rfl
                                  have hfz153_0 := blk_frozen BK320.out 0
                                  have hfz153_1 := blk_frozen BK320.out 1
                                  have hfz153_2 := blk_frozen BK320.out 2
                                  have hfz153_3 := blk_frozen BK320.out 3
                                  have hnb154 := NB313_327.out
                                  have hnc154 := NB327_313.out
                                  have hcz155_0 : w150.cell? ⟨gb313, 0, none⟩ = some (.int .i64 x314000_2) := (blk_cell BK313.out 0).trans rfl
                                  have hcz155_1 : w150.cell? ⟨gb313, 1, none⟩ = some (.int .i64 x314001_2) := (blk_cell BK313.out 1).trans rfl
                                  have hcz155_2 : w150.cell? ⟨gb313, 2, none⟩ = some (.int .i64 x314002_2) := (blk_cell BK313.out 2).trans rfl
                                  have hcz155_3 : w150.cell? ⟨gb313, 3, none⟩ = some (.int .i64 x314003_2) := (blk_cell BK313.out 3).trans rfl
                                  have hfz155_0 := blk_frozen BK313.out 0
                                  have hfz155_1 := blk_frozen BK313.out 1
                                  have hfz155_2 := blk_frozen BK313.out 2
                                  have hfz155_3 := blk_frozen BK313.out 3
                                  try go_wp2
                                  go_roundg k2
                                  case measure => have := HJ2.out; have := HK2.out; omega
                                  case rel => exact ⟨(wrap64 (x7_2 + 1)), (t315), (t316), (t317), (t318), (by first | rfl | (simp; done) | (simp [*]; done) | (simp [ne_nil_b]; done) | (simp [ne_nil_b, *]; done)), H', ⟨by have := HJ2.out; have := HK2.out; omega⟩, ⟨by (with_reducible repeat (first | apply Kd.R_alloc | apply Kd.R_drewN | apply Kd.R_drew)); exact Kd.R_mono (Kd.R_far (p := ⟨gb313, 3, none⟩) (Kd.R_far (p := ⟨gb313, 2, none⟩) (Kd.R_far (p := ⟨gb313, 1, none⟩) (Kd.R_far (p := ⟨gb313, 0, none⟩) (Kd.R_types HO_5.out BK313.out (by decide)) (fun _ hk => hk.2) (.int .i64 t315)) (fun _ hk => hk.2) (.int .i64 t316)) (fun _ hk => hk.2) (.int .i64 t317)) (fun _ hk => hk.2) (.int .i64 t318)) (fun _ hk => trivial)⟩, ⟨by (with_reducible repeat (first | refine blk_drewN ?_ _ | refine blk_drew ?_ | refine blk_alloc ?_ _)); refine blk_put (cs := #[.int .i64 t315, .int .i64 t316, .int .i64 t317, .int .i64 x314003_2]) ?_ 3 _ rfl; (with_reducible repeat (first | refine blk_drewN ?_ _ | refine blk_drew ?_ | refine blk_alloc ?_ _)); refine blk_put (cs := #[.int .i64 t315, .int .i64 t316, .int .i64 x314002_2, .int .i64 x314003_2]) ?_ 2 _ rfl; (with_reducible repeat (first | refine blk_drewN ?_ _ | refine blk_drew ?_ | refine blk_alloc ?_ _)); refine blk_put (cs := #[.int .i64 t315, .int .i64 x314001_2, .int .i64 x314002_2, .int .i64 x314003_2]) ?_ 1 _ rfl; (with_reducible repeat (first | refine blk_drewN ?_ _ | refine blk_drew ?_ | refine blk_alloc ?_ _)); refine blk_put (cs := #[.int .i64 x314000_2, .int .i64 x314001_2, .int .i64 x314002_2, .int .i64 x314003_2]) ?_ 0 _ rfl; (with_reducible repeat (first | refine blk_drewN ?_ _ | refine blk_drew ?_ | refine blk_alloc ?_ _)); exact BK313.out⟩, ⟨by repeat (first | (with_reducible first | exact HB.out | apply below_alloc | apply pw_below_drewN | apply below_drew1 | refine below_set ?_ GE313.out | refine below_set ?_ GE320.out | refine below_set ?_ GE327.out) | exact HB.out)⟩⟩
                                · rw [if_neg c130] at H
                                  have c130b0 : (t318 == (wrap64 (x7_2 + 1))) = false := beq_eq_false_iff_ne.mpr c130
                                  have c130b1 : (t318 != (wrap64 (x7_2 + 1))) = true := bne_iff_ne.mpr c130
                                  exact absurd ((Option.some.inj H).trans HRT_.out) (by decide)
                    · rw [if_neg c24] at H
                      have c24b0 : (t319 == 0) = false := beq_eq_false_iff_ne.mpr c24
                      have c24b1 : (t319 != 0) = true := bne_iff_ne.mpr c24
                      exact absurd ((Option.some.inj H).trans HRT_.out) (by decide)
                  · rw [if_neg c21] at H
                    exact absurd H (by simp)
                · rw [if_neg c20] at H
                  have c20b0 : decide (x7_2 < (y310.length : Int)) = false := decide_eq_false c20
                  clear c20
                  replace H := Option.bind_eq_some_iff.mp H
                  obtain ⟨t330, A1960, H⟩ := H
                  replace H : ((impl_MeanOf.f k2 (([wrap64 (t330 - 400), wrap64 (t330 - 400), wrap64 (t330 - 400)] : List Int))).bind fun bt334 => ((impl_MeanOf.f k2 y310).bind fun bt336 => ((spec_MeanOf.f k2 y310).bind fun bt338 => ((laws_at.f l1 1 500).bind fun t340 => ((laws_at.f l1 2 500).bind fun t341 => ((impl_ShareOf.f k2 t340 (wrap64 (1 + t341))).bind fun bt342 => ((laws_at.f l1 1 500).bind fun t344 => ((laws_at.f l1 2 500).bind fun t345 => ((spec_ShareOf.f k2 t344 (wrap64 (1 + t345))).bind fun bt346 => ((impl_ShareOf.f k2 7 0).bind fun bt348 => (if bt334.2 = 0 then (if bt334.1 = (wrap64 (t330 - 400)) then (if bt336.2 = bt338.2 then (if bt336.1 = bt338.1 then (if bt342.2 = 0 then (if bt342.1 = bt346.1 then (if bt342.1 ≥ 0 then (if bt342.1 ≤ 1000 then (if bt348.2 = 0 then (some (bt348.1 == 1000)) else (some false)) else (some false)) else (some false)) else (some false)) else (some false)) else (some false)) else (some false)) else (some false)) else (some false)))))))))))) = some r := H
                  have A196 := Aside0.mk A1960
                  clear A1960
                  obtain ⟨y331, hy331⟩ : ∃ y_ : List Int, y_ = (([wrap64 (t330 - 400), wrap64 (t330 - 400), wrap64 (t330 - 400)] : List Int)) := ⟨_, rfl⟩
                  replace H : ((impl_MeanOf.f k2 y331).bind fun bt334 => ((impl_MeanOf.f k2 y310).bind fun bt336 => ((spec_MeanOf.f k2 y310).bind fun bt338 => ((laws_at.f l1 1 500).bind fun t340 => ((laws_at.f l1 2 500).bind fun t341 => ((impl_ShareOf.f k2 t340 (wrap64 (1 + t341))).bind fun bt342 => ((laws_at.f l1 1 500).bind fun t344 => ((laws_at.f l1 2 500).bind fun t345 => ((spec_ShareOf.f k2 t344 (wrap64 (1 + t345))).bind fun bt346 => ((impl_ShareOf.f k2 7 0).bind fun bt348 => (if bt334.2 = 0 then (if bt334.1 = (wrap64 (t330 - 400)) then (if bt336.2 = bt338.2 then (if bt336.1 = bt338.1 then (if bt342.2 = 0 then (if bt342.1 = bt346.1 then (if bt342.1 ≥ 0 then (if bt342.1 ≤ 1000 then (if bt348.2 = 0 then (some (bt348.1 == 1000)) else (some false)) else (some false)) else (some false)) else (some false)) else (some false)) else (some false)) else (some false)) else (some false)) else (some false)))))))))))) = some r := by first | (rw [hy331]; with_reducible exact H) | (have H2_ := (Option.bind_some _ _).symm.trans H; rw [hy331]; with_reducible exact H2_) | (have H2_ := (Option.bind_some _ _).symm.trans H; with_reducible exact H2_) | with_reducible exact H | (rw [hy331]; exact H) | exact H
                  have Ny331 := Aside0.mk hy331
                  clear hy331
                  replace H := Option.bind_eq_some_iff.mp H
                  obtain ⟨⟨t334, t335⟩, A1970, H⟩ := H
                  replace H : ((impl_MeanOf.f k2 y310).bind fun bt336 => ((spec_MeanOf.f k2 y310).bind fun bt338 => ((laws_at.f l1 1 500).bind fun t340 => ((laws_at.f l1 2 500).bind fun t341 => ((impl_ShareOf.f k2 t340 (wrap64 (1 + t341))).bind fun bt342 => ((laws_at.f l1 1 500).bind fun t344 => ((laws_at.f l1 2 500).bind fun t345 => ((spec_ShareOf.f k2 t344 (wrap64 (1 + t345))).bind fun bt346 => ((impl_ShareOf.f k2 7 0).bind fun bt348 => (if t335 = 0 then (if t334 = (wrap64 (t330 - 400)) then (if bt336.2 = bt338.2 then (if bt336.1 = bt338.1 then (if bt342.2 = 0 then (if bt342.1 = bt346.1 then (if bt342.1 ≥ 0 then (if bt342.1 ≤ 1000 then (if bt348.2 = 0 then (some (bt348.1 == 1000)) else (some false)) else (some false)) else (some false)) else (some false)) else (some false)) else (some false)) else (some false)) else (some false)) else (some false))))))))))) = some r := H
                  have A197 := Aside0.mk A1970
                  clear A1970
                  replace H := Option.bind_eq_some_iff.mp H
                  obtain ⟨⟨t336, t337⟩, A1980, H⟩ := H
                  replace H : ((spec_MeanOf.f k2 y310).bind fun bt338 => ((laws_at.f l1 1 500).bind fun t340 => ((laws_at.f l1 2 500).bind fun t341 => ((impl_ShareOf.f k2 t340 (wrap64 (1 + t341))).bind fun bt342 => ((laws_at.f l1 1 500).bind fun t344 => ((laws_at.f l1 2 500).bind fun t345 => ((spec_ShareOf.f k2 t344 (wrap64 (1 + t345))).bind fun bt346 => ((impl_ShareOf.f k2 7 0).bind fun bt348 => (if t335 = 0 then (if t334 = (wrap64 (t330 - 400)) then (if t337 = bt338.2 then (if t336 = bt338.1 then (if bt342.2 = 0 then (if bt342.1 = bt346.1 then (if bt342.1 ≥ 0 then (if bt342.1 ≤ 1000 then (if bt348.2 = 0 then (some (bt348.1 == 1000)) else (some false)) else (some false)) else (some false)) else (some false)) else (some false)) else (some false)) else (some false)) else (some false)) else (some false)))))))))) = some r := H
                  have A198 := Aside0.mk A1980
                  clear A1980
                  replace H := Option.bind_eq_some_iff.mp H
                  obtain ⟨⟨t338, t339⟩, A1990, H⟩ := H
                  replace H : ((laws_at.f l1 1 500).bind fun t340 => ((laws_at.f l1 2 500).bind fun t341 => ((impl_ShareOf.f k2 t340 (wrap64 (1 + t341))).bind fun bt342 => ((laws_at.f l1 1 500).bind fun t344 => ((laws_at.f l1 2 500).bind fun t345 => ((spec_ShareOf.f k2 t344 (wrap64 (1 + t345))).bind fun bt346 => ((impl_ShareOf.f k2 7 0).bind fun bt348 => (if t335 = 0 then (if t334 = (wrap64 (t330 - 400)) then (if t337 = t339 then (if t336 = t338 then (if bt342.2 = 0 then (if bt342.1 = bt346.1 then (if bt342.1 ≥ 0 then (if bt342.1 ≤ 1000 then (if bt348.2 = 0 then (some (bt348.1 == 1000)) else (some false)) else (some false)) else (some false)) else (some false)) else (some false)) else (some false)) else (some false)) else (some false)) else (some false))))))))) = some r := H
                  have A199 := Aside0.mk A1990
                  clear A1990
                  replace H := Option.bind_eq_some_iff.mp H
                  obtain ⟨t340, A2000, H⟩ := H
                  replace H : ((laws_at.f l1 2 500).bind fun t341 => ((impl_ShareOf.f k2 t340 (wrap64 (1 + t341))).bind fun bt342 => ((laws_at.f l1 1 500).bind fun t344 => ((laws_at.f l1 2 500).bind fun t345 => ((spec_ShareOf.f k2 t344 (wrap64 (1 + t345))).bind fun bt346 => ((impl_ShareOf.f k2 7 0).bind fun bt348 => (if t335 = 0 then (if t334 = (wrap64 (t330 - 400)) then (if t337 = t339 then (if t336 = t338 then (if bt342.2 = 0 then (if bt342.1 = bt346.1 then (if bt342.1 ≥ 0 then (if bt342.1 ≤ 1000 then (if bt348.2 = 0 then (some (bt348.1 == 1000)) else (some false)) else (some false)) else (some false)) else (some false)) else (some false)) else (some false)) else (some false)) else (some false)) else (some false)))))))) = some r := H
                  have A200 := Aside0.mk A2000
                  clear A2000
                  replace H := Option.bind_eq_some_iff.mp H
                  obtain ⟨t341, A2010, H⟩ := H
                  replace H : ((impl_ShareOf.f k2 t340 (wrap64 (1 + t341))).bind fun bt342 => ((laws_at.f l1 1 500).bind fun t344 => ((laws_at.f l1 2 500).bind fun t345 => ((spec_ShareOf.f k2 t344 (wrap64 (1 + t345))).bind fun bt346 => ((impl_ShareOf.f k2 7 0).bind fun bt348 => (if t335 = 0 then (if t334 = (wrap64 (t330 - 400)) then (if t337 = t339 then (if t336 = t338 then (if bt342.2 = 0 then (if bt342.1 = bt346.1 then (if bt342.1 ≥ 0 then (if bt342.1 ≤ 1000 then (if bt348.2 = 0 then (some (bt348.1 == 1000)) else (some false)) else (some false)) else (some false)) else (some false)) else (some false)) else (some false)) else (some false)) else (some false)) else (some false))))))) = some r := H
                  have A201 := Aside0.mk A2010
                  clear A2010
                  replace H := Option.bind_eq_some_iff.mp H
                  obtain ⟨⟨t342, t343⟩, A2020, H⟩ := H
                  replace H : ((laws_at.f l1 1 500).bind fun t344 => ((laws_at.f l1 2 500).bind fun t345 => ((spec_ShareOf.f k2 t344 (wrap64 (1 + t345))).bind fun bt346 => ((impl_ShareOf.f k2 7 0).bind fun bt348 => (if t335 = 0 then (if t334 = (wrap64 (t330 - 400)) then (if t337 = t339 then (if t336 = t338 then (if t343 = 0 then (if t342 = bt346.1 then (if t342 ≥ 0 then (if t342 ≤ 1000 then (if bt348.2 = 0 then (some (bt348.1 == 1000)) else (some false)) else (some false)) else (some false)) else (some false)) else (some false)) else (some false)) else (some false)) else (some false)) else (some false)))))) = some r := H
                  have A202 := Aside0.mk A2020
                  clear A2020
                  replace H := Option.bind_eq_some_iff.mp H
                  obtain ⟨t344, A2030, H⟩ := H
                  replace H : ((laws_at.f l1 2 500).bind fun t345 => ((spec_ShareOf.f k2 t344 (wrap64 (1 + t345))).bind fun bt346 => ((impl_ShareOf.f k2 7 0).bind fun bt348 => (if t335 = 0 then (if t334 = (wrap64 (t330 - 400)) then (if t337 = t339 then (if t336 = t338 then (if t343 = 0 then (if t342 = bt346.1 then (if t342 ≥ 0 then (if t342 ≤ 1000 then (if bt348.2 = 0 then (some (bt348.1 == 1000)) else (some false)) else (some false)) else (some false)) else (some false)) else (some false)) else (some false)) else (some false)) else (some false)) else (some false))))) = some r := H
                  have A203 := Aside0.mk A2030
                  clear A2030
                  replace H := Option.bind_eq_some_iff.mp H
                  obtain ⟨t345, A2040, H⟩ := H
                  replace H : ((spec_ShareOf.f k2 t344 (wrap64 (1 + t345))).bind fun bt346 => ((impl_ShareOf.f k2 7 0).bind fun bt348 => (if t335 = 0 then (if t334 = (wrap64 (t330 - 400)) then (if t337 = t339 then (if t336 = t338 then (if t343 = 0 then (if t342 = bt346.1 then (if t342 ≥ 0 then (if t342 ≤ 1000 then (if bt348.2 = 0 then (some (bt348.1 == 1000)) else (some false)) else (some false)) else (some false)) else (some false)) else (some false)) else (some false)) else (some false)) else (some false)) else (some false)))) = some r := H
                  have A204 := Aside0.mk A2040
                  clear A2040
                  replace H := Option.bind_eq_some_iff.mp H
                  obtain ⟨⟨t346, t347⟩, A2050, H⟩ := H
                  replace H : ((impl_ShareOf.f k2 7 0).bind fun bt348 => (if t335 = 0 then (if t334 = (wrap64 (t330 - 400)) then (if t337 = t339 then (if t336 = t338 then (if t343 = 0 then (if t342 = t346 then (if t342 ≥ 0 then (if t342 ≤ 1000 then (if bt348.2 = 0 then (some (bt348.1 == 1000)) else (some false)) else (some false)) else (some false)) else (some false)) else (some false)) else (some false)) else (some false)) else (some false)) else (some false))) = some r := H
                  have A205 := Aside0.mk A2050
                  clear A2050
                  replace H := Option.bind_eq_some_iff.mp H
                  obtain ⟨⟨t348, t349⟩, A2060, H⟩ := H
                  replace H : (if t335 = 0 then (if t334 = (wrap64 (t330 - 400)) then (if t337 = t339 then (if t336 = t338 then (if t343 = 0 then (if t342 = t346 then (if t342 ≥ 0 then (if t342 ≤ 1000 then (if t349 = 0 then (some (t348 == 1000)) else (some false)) else (some false)) else (some false)) else (some false)) else (some false)) else (some false)) else (some false)) else (some false)) else (some false)) = some r := H
                  have A206 := Aside0.mk A2060
                  clear A2060
                  by_cases c207 : t335 = 0
                  · rw [if_pos c207] at H
                    have c207b0 : (t335 == 0) = true := beq_iff_eq.mpr c207
                    have c207b1 : (t335 != 0) = false := bne_eq_false_iff_eq.mpr c207
                    clear c207
                    by_cases c208 : t334 = (wrap64 (t330 - 400))
                    · rw [if_pos c208] at H
                      have c208b0 : (t334 == (wrap64 (t330 - 400))) = true := beq_iff_eq.mpr c208
                      have c208b1 : (t334 != (wrap64 (t330 - 400))) = false := bne_eq_false_iff_eq.mpr c208
                      clear c208
                      by_cases c209 : t337 = t339
                      · rw [if_pos c209] at H
                        have c209b0 : (t337 == t339) = true := beq_iff_eq.mpr c209
                        have c209b1 : (t337 != t339) = false := bne_eq_false_iff_eq.mpr c209
                        clear c209
                        by_cases c210 : t336 = t338
                        · rw [if_pos c210] at H
                          have c210b0 : (t336 == t338) = true := beq_iff_eq.mpr c210
                          have c210b1 : (t336 != t338) = false := bne_eq_false_iff_eq.mpr c210
                          clear c210
                          by_cases c211 : t343 = 0
                          · rw [if_pos c211] at H
                            have c211b0 : (t343 == 0) = true := beq_iff_eq.mpr c211
                            have c211b1 : (t343 != 0) = false := bne_eq_false_iff_eq.mpr c211
                            clear c211
                            by_cases c212 : t342 = t346
                            · rw [if_pos c212] at H
                              have c212b0 : (t342 == t346) = true := beq_iff_eq.mpr c212
                              have c212b1 : (t342 != t346) = false := bne_eq_false_iff_eq.mpr c212
                              clear c212
                              by_cases c213 : t342 ≥ 0
                              · rw [if_pos c213] at H
                                have c213b0 : decide (0 ≤ t342) = true := decide_eq_true c213
                                clear c213
                                by_cases c214 : t342 ≤ 1000
                                · rw [if_pos c214] at H
                                  have c214b0 : decide (t342 ≤ 1000) = true := decide_eq_true c214
                                  clear c214
                                  by_cases c215 : t349 = 0
                                  · rw [if_pos c215] at H
                                    have c215b0 : (t349 == 0) = true := beq_iff_eq.mpr c215
                                    have c215b1 : (t349 != 0) = false := bne_eq_false_iff_eq.mpr c215
                                    clear c215
                                    obtain rfl := Option.some.inj H
                                    obtain ⟨Ao216, co216, eo216⟩ := Kd.R_slice HO_5.out
                                    subst eo216
                                    go_wp2_with (first | ((with_reducible refine gate_callee (f := 21) rfl ?_); refine goesL_ (some 113) rfl rfl Try.func21 (by kernel_rfl) rfl #[.slice A1 l1.length c1, .int .i64 0, .int .i64 900] rfl (by (try simp only [List.map_toArray, List.map_cons, List.map_nil]); first | done | rfl | (simp only [List.length_drop, List.length_take]; rfl)) ?_; (with_reducible refine (laws_at.calls _ _ l1 0 900 t330 _ ?side1 ?side2 A196.out).mono ?_); (case side1 => repeat (first | exact (Kd.C_below HR1.out HB.out) | (with_reducible refine Kd.C_alloc ?_ _) | (with_reducible refine Kd.C_drewN ?_ _) | (with_reducible refine Kd.C_drew ?_))); (case side2 => exact HC1.out); rintro e w' ⟨rfl, ⟨nd, rfl⟩⟩; refine ⟨_, rfl, ?_⟩) | ((with_reducible refine gate_dst (N := 119) rfl ?_); (try (refine gate_guard (by rfl) ?_; dsimp only)); refine Kd.R_lit (Kd.int .i64) _ 3 ?hg (N := 119) ?hd (xs := ([wrap64 (t330 - 400), wrap64 (t330 - 400), wrap64 (t330 - 400)] : List Int)) (inner := [.int .i64 (wrap64 (t330 - 400)), .int .i64 (wrap64 (t330 - 400)), .int .i64 (wrap64 (t330 - 400))]) (ok := fun _ => True) (okp := fun _ => True) ?hr ?hp (fun _ hk => hk) trivial (Below.refl _ _) (Nat.le_refl _) (by simp) ?_; (case hd => rfl); (case hg => rfl); (case hr => first | (go_simp; done) | (go_simp; rfl)); (case hp => exact (Reps.one (show Kd.M (Kd.int .i64) _ _ _ (wrap64 (t330 - 400)) [.int .i64 (wrap64 (t330 - 400))] from rfl) (Reps.one (show Kd.M (Kd.int .i64) _ _ _ (wrap64 (t330 - 400)) [.int .i64 (wrap64 (t330 - 400))] from rfl) (Reps.one (show Kd.M (Kd.int .i64) _ _ _ (wrap64 (t330 - 400)) [.int .i64 (wrap64 (t330 - 400))] from rfl) (Reps.none _ _))))); intro v332 w217 ho218 hb hg_ hnew_; clear hg_ hnew_; (first | rw [← Ny331.out] at ho218 | (simp only [Int.reduceToNat] at ho218; rw [← Ny331.out] at ho218)); have n0_ := Aside0.mk (Kd.R_elder' (by (with_reducible repeat (first | apply Kd.R_alloc | apply Kd.R_drewN | apply Kd.R_drew)); exact HO_5.out) (Kd.R_base ho218) hb); have n1_ := Aside0.mk (Kd.R_lower (Kd.R_new' ho218 (Kd.R_lt (by (with_reducible repeat (first | apply Kd.R_alloc | apply Kd.R_drewN | apply Kd.R_drew)); exact HO_5.out))) (below_size (by repeat (first | (with_reducible first | exact HB.out | apply below_alloc | apply pw_below_drewN | apply below_drew1 | refine below_set ?_ GE313.out) | exact HB.out)))); have n2_ := Aside0.mk (blk_below (g := gb313) (o := .cells #[.int .i64 x314000_2, .int .i64 x314001_2, .int .i64 x314002_2, .int .i64 x314003_2] 39 (0, 0)) (by (with_reducible repeat (first | refine blk_drewN ?_ _ | refine blk_drew ?_ | refine blk_alloc ?_ _)); exact BK313.out) hb); have n3_ := Aside0.mk (below_step (by repeat (first | (with_reducible first | exact HB.out | apply below_alloc | apply pw_below_drewN | apply below_drew1 | refine below_set ?_ GE313.out) | exact HB.out)) hb); clear HO_5; clear BK313; clear HB; have HO_5 := n0_; have HO333 := n1_; have BK313 := n2_; have HB := n3_; clear n0_ n1_ n2_ n3_; clear hb ho218; obtain ⟨Ao219, co219, eo219⟩ := Kd.R_slice HO333.out; subst eo219) | ((with_reducible refine gate_callee (f := 11) rfl ?_); refine goesL_ (some 120) rfl rfl Try.func11 (by kernel_rfl) rfl #[.slice Ao219 y331.length co219] rfl (by (try simp only [List.map_toArray, List.map_cons, List.map_nil]); first | done | rfl | (simp only [List.length_drop, List.length_take]; rfl)) ?_; (with_reducible refine (impl_MeanOf.calls k2 _ _ y331 t334 t335 _ ?side1 ?side2 A197.out).mono ?_); (case side1 => repeat (first | exact (Kd.R_reads' HO333.out).2.2 | (with_reducible refine Kd.C_alloc ?_ _) | (with_reducible refine Kd.C_drewN ?_ _) | (with_reducible refine Kd.C_drew ?_))); (case side2 => exact (Kd.R_reads' HO333.out).2.1); rintro e w220 ⟨rfl, hb⟩; refine ⟨_, rfl, ?_⟩; have n0_ := Aside0.mk (Kd.R_below (by (with_reducible repeat (first | apply Kd.R_alloc | apply Kd.R_drewN | apply Kd.R_drew)); exact HO_5.out) hb); have n1_ := Aside0.mk (Kd.R_below (by (with_reducible repeat (first | apply Kd.R_alloc | apply Kd.R_drewN | apply Kd.R_drew)); exact HO333.out) hb); have n2_ := Aside0.mk (blk_below (g := gb313) (o := .cells #[.int .i64 x314000_2, .int .i64 x314001_2, .int .i64 x314002_2, .int .i64 x314003_2] 39 (0, 0)) (by (with_reducible repeat (first | refine blk_drewN ?_ _ | refine blk_drew ?_ | refine blk_alloc ?_ _)); exact BK313.out) hb); have n3_ := Aside0.mk (below_step (by repeat (first | (with_reducible first | exact HB.out | apply below_alloc | apply pw_below_drewN | apply below_drew1 | refine below_set ?_ GE313.out) | exact HB.out)) hb); clear HO_5; clear HO333; clear BK313; clear HB; have HO_5 := n0_; have HO333 := n1_; have BK313 := n2_; have HB := n3_; clear n0_ n1_ n2_ n3_; (try clear hb); (try clear hb2); (try clear hk); (try clear hi)) | ((with_reducible refine gate_callee (f := 11) rfl ?_); refine goesL_ (some 125) rfl rfl Try.func11 (by kernel_rfl) rfl #[.slice Ao216 y310.length co216] rfl (by (try simp only [List.map_toArray, List.map_cons, List.map_nil]); first | done | rfl | (simp only [List.length_drop, List.length_take]; rfl)) ?_; (with_reducible refine (impl_MeanOf.calls k2 _ _ y310 t336 t337 _ ?side1 ?side2 A198.out).mono ?_); (case side1 => repeat (first | exact (Kd.R_reads' HO_5.out).2.2 | (with_reducible refine Kd.C_alloc ?_ _) | (with_reducible refine Kd.C_drewN ?_ _) | (with_reducible refine Kd.C_drew ?_))); (case side2 => exact (Kd.R_reads' HO_5.out).2.1); rintro e w221 ⟨rfl, hb⟩; refine ⟨_, rfl, ?_⟩; have n0_ := Aside0.mk (Kd.R_below (by (with_reducible repeat (first | apply Kd.R_alloc | apply Kd.R_drewN | apply Kd.R_drew)); exact HO_5.out) hb); have n1_ := Aside0.mk (Kd.R_below (by (with_reducible repeat (first | apply Kd.R_alloc | apply Kd.R_drewN | apply Kd.R_drew)); exact HO333.out) hb); have n2_ := Aside0.mk (blk_below (g := gb313) (o := .cells #[.int .i64 x314000_2, .int .i64 x314001_2, .int .i64 x314002_2, .int .i64 x314003_2] 39 (0, 0)) (by (with_reducible repeat (first | refine blk_drewN ?_ _ | refine blk_drew ?_ | refine blk_alloc ?_ _)); exact BK313.out) hb); have n3_ := Aside0.mk (below_step (by repeat (first | (with_reducible first | exact HB.out | apply below_alloc | apply pw_below_drewN | apply below_drew1 | refine below_set ?_ GE313.out) | exact HB.out)) hb); clear HO_5; clear HO333; clear BK313; clear HB; have HO_5 := n0_; have HO333 := n1_; have BK313 := n2_; have HB := n3_; clear n0_ n1_ n2_ n3_; (try clear hb); (try clear hb2); (try clear hk); (try clear hi)) | ((with_reducible refine gate_callee (f := 9) rfl ?_); refine goesL_ (some 130) rfl rfl Try.func9 (by kernel_rfl) rfl #[.slice Ao216 y310.length co216] rfl (by (try simp only [List.map_toArray, List.map_cons, List.map_nil]); first | done | rfl | (simp only [List.length_drop, List.length_take]; rfl)) ?_; (with_reducible refine (spec_MeanOf.calls k2 _ _ y310 t338 t339 _ ?side1 ?side2 A199.out).mono ?_); (case side1 => repeat (first | exact (Kd.R_reads' HO_5.out).2.2 | (with_reducible refine Kd.C_alloc ?_ _) | (with_reducible refine Kd.C_drewN ?_ _) | (with_reducible refine Kd.C_drew ?_))); (case side2 => exact (Kd.R_reads' HO_5.out).2.1); rintro e w' ⟨rfl, ⟨nd, rfl⟩⟩; refine ⟨_, rfl, ?_⟩) | ((with_reducible refine gate_callee (f := 21) rfl ?_); refine goesL_ (some 135) rfl rfl Try.func21 (by kernel_rfl) rfl #[.slice A1 l1.length c1, .int .i64 1, .int .i64 500] rfl (by (try simp only [List.map_toArray, List.map_cons, List.map_nil]); first | done | rfl | (simp only [List.length_drop, List.length_take]; rfl)) ?_; (with_reducible refine (laws_at.calls _ _ l1 1 500 t340 _ ?side1 ?side2 A200.out).mono ?_); (case side1 => repeat (first | exact (Kd.C_below HR1.out (by repeat (first | (with_reducible first | exact HB.out | apply below_alloc | apply pw_below_drewN | apply below_drew1 | refine below_set ?_ GE313.out) | exact HB.out))) | (with_reducible refine Kd.C_alloc ?_ _) | (with_reducible refine Kd.C_drewN ?_ _) | (with_reducible refine Kd.C_drew ?_))); (case side2 => exact HC1.out); rintro e w' ⟨rfl, ⟨nd, rfl⟩⟩; refine ⟨_, rfl, ?_⟩) | ((with_reducible refine gate_callee (f := 21) rfl ?_); refine goesL_ (some 137) rfl rfl Try.func21 (by kernel_rfl) rfl #[.slice A1 l1.length c1, .int .i64 2, .int .i64 500] rfl (by (try simp only [List.map_toArray, List.map_cons, List.map_nil]); first | done | rfl | (simp only [List.length_drop, List.length_take]; rfl)) ?_; (with_reducible refine (laws_at.calls _ _ l1 2 500 t341 _ ?side1 ?side2 A201.out).mono ?_); (case side1 => repeat (first | exact (Kd.C_below HR1.out (by repeat (first | (with_reducible first | exact HB.out | apply below_alloc | apply pw_below_drewN | apply below_drew1 | refine below_set ?_ GE313.out) | exact HB.out))) | (with_reducible refine Kd.C_alloc ?_ _) | (with_reducible refine Kd.C_drewN ?_ _) | (with_reducible refine Kd.C_drew ?_))); (case side2 => exact HC1.out); rintro e w' ⟨rfl, ⟨nd, rfl⟩⟩; refine ⟨_, rfl, ?_⟩) | ((with_reducible refine gate_callee (f := 22) rfl ?_); refine goesL_ (some 139) rfl rfl Try.func22 (by kernel_rfl) rfl #[.int .i64 t340, .int .i64 (wrap64 (1 + t341))] rfl (by (try simp only [List.map_toArray, List.map_cons, List.map_nil]); first | done | rfl | (simp only [List.length_drop, List.length_take]; rfl)) ?_; (with_reducible refine (impl_ShareOf.calls k2 t340 (wrap64 (1 + t341)) t342 t343 _ A202.out).mono ?_); rintro e w222 ⟨rfl, hb⟩; refine ⟨_, rfl, ?_⟩; have n0_ := Aside0.mk (Kd.R_below (by (with_reducible repeat (first | apply Kd.R_alloc | apply Kd.R_drewN | apply Kd.R_drew)); exact HO_5.out) hb); have n1_ := Aside0.mk (Kd.R_below (by (with_reducible repeat (first | apply Kd.R_alloc | apply Kd.R_drewN | apply Kd.R_drew)); exact HO333.out) hb); have n2_ := Aside0.mk (blk_below (g := gb313) (o := .cells #[.int .i64 x314000_2, .int .i64 x314001_2, .int .i64 x314002_2, .int .i64 x314003_2] 39 (0, 0)) (by (with_reducible repeat (first | refine blk_drewN ?_ _ | refine blk_drew ?_ | refine blk_alloc ?_ _)); exact BK313.out) hb); have n3_ := Aside0.mk (below_step (by repeat (first | (with_reducible first | exact HB.out | apply below_alloc | apply pw_below_drewN | apply below_drew1 | refine below_set ?_ GE313.out) | exact HB.out)) hb); clear HO_5; clear HO333; clear BK313; clear HB; have HO_5 := n0_; have HO333 := n1_; have BK313 := n2_; have HB := n3_; clear n0_ n1_ n2_ n3_; (try clear hb); (try clear hb2); (try clear hk); (try clear hi)) | ((with_reducible refine gate_callee (f := 21) rfl ?_); refine goesL_ (some 144) rfl rfl Try.func21 (by kernel_rfl) rfl #[.slice A1 l1.length c1, .int .i64 1, .int .i64 500] rfl (by (try simp only [List.map_toArray, List.map_cons, List.map_nil]); first | done | rfl | (simp only [List.length_drop, List.length_take]; rfl)) ?_; (with_reducible refine (laws_at.calls _ _ l1 1 500 t344 _ ?side1 ?side2 A203.out).mono ?_); (case side1 => repeat (first | exact (Kd.C_below HR1.out HB.out) | (with_reducible refine Kd.C_alloc ?_ _) | (with_reducible refine Kd.C_drewN ?_ _) | (with_reducible refine Kd.C_drew ?_))); (case side2 => exact HC1.out); rintro e w' ⟨rfl, ⟨nd, rfl⟩⟩; refine ⟨_, rfl, ?_⟩) | ((with_reducible refine gate_callee (f := 21) rfl ?_); refine goesL_ (some 146) rfl rfl Try.func21 (by kernel_rfl) rfl #[.slice A1 l1.length c1, .int .i64 2, .int .i64 500] rfl (by (try simp only [List.map_toArray, List.map_cons, List.map_nil]); first | done | rfl | (simp only [List.length_drop, List.length_take]; rfl)) ?_; (with_reducible refine (laws_at.calls _ _ l1 2 500 t345 _ ?side1 ?side2 A204.out).mono ?_); (case side1 => repeat (first | exact (Kd.C_below HR1.out (by repeat (first | (with_reducible first | exact HB.out | apply below_alloc | apply pw_below_drewN | apply below_drew1 | refine below_set ?_ GE313.out) | exact HB.out))) | (with_reducible refine Kd.C_alloc ?_ _) | (with_reducible refine Kd.C_drewN ?_ _) | (with_reducible refine Kd.C_drew ?_))); (case side2 => exact HC1.out); rintro e w' ⟨rfl, ⟨nd, rfl⟩⟩; refine ⟨_, rfl, ?_⟩) | ((with_reducible refine gate_callee (f := 23) rfl ?_); refine goesL_ (some 148) rfl rfl Try.func23 (by kernel_rfl) rfl #[.int .i64 t344, .int .i64 (wrap64 (1 + t345))] rfl (by (try simp only [List.map_toArray, List.map_cons, List.map_nil]); first | done | rfl | (simp only [List.length_drop, List.length_take]; rfl)) ?_; (with_reducible refine (spec_ShareOf.calls k2 t344 (wrap64 (1 + t345)) t346 t347 _ A205.out).mono ?_); rintro e w223 ⟨rfl, hb⟩; refine ⟨_, rfl, ?_⟩; have n0_ := Aside0.mk (Kd.R_below (by (with_reducible repeat (first | apply Kd.R_alloc | apply Kd.R_drewN | apply Kd.R_drew)); exact HO_5.out) hb); have n1_ := Aside0.mk (Kd.R_below (by (with_reducible repeat (first | apply Kd.R_alloc | apply Kd.R_drewN | apply Kd.R_drew)); exact HO333.out) hb); have n2_ := Aside0.mk (blk_below (g := gb313) (o := .cells #[.int .i64 x314000_2, .int .i64 x314001_2, .int .i64 x314002_2, .int .i64 x314003_2] 39 (0, 0)) (by (with_reducible repeat (first | refine blk_drewN ?_ _ | refine blk_drew ?_ | refine blk_alloc ?_ _)); exact BK313.out) hb); have n3_ := Aside0.mk (below_step (by repeat (first | (with_reducible first | exact HB.out | apply below_alloc | apply pw_below_drewN | apply below_drew1 | refine below_set ?_ GE313.out) | exact HB.out)) hb); clear HO_5; clear HO333; clear BK313; clear HB; have HO_5 := n0_; have HO333 := n1_; have BK313 := n2_; have HB := n3_; clear n0_ n1_ n2_ n3_; (try clear hb); (try clear hb2); (try clear hk); (try clear hi)) | ((with_reducible refine gate_callee (f := 22) rfl ?_); refine goesL_ (some 152) rfl rfl Try.func22 (by kernel_rfl) rfl #[.int .i64 7, .int .i64 0] rfl (by (try simp only [List.map_toArray, List.map_cons, List.map_nil]); first | done | rfl | (simp only [List.length_drop, List.length_take]; rfl)) ?_; (with_reducible refine (impl_ShareOf.calls k2 7 0 t348 t349 _ A206.out).mono ?_); rintro e w224 ⟨rfl, hb⟩; refine ⟨_, rfl, ?_⟩; have n0_ := Aside0.mk (Kd.R_below (by (with_reducible repeat (first | apply Kd.R_alloc | apply Kd.R_drewN | apply Kd.R_drew)); exact HO_5.out) hb); have n1_ := Aside0.mk (Kd.R_below (by (with_reducible repeat (first | apply Kd.R_alloc | apply Kd.R_drewN | apply Kd.R_drew)); exact HO333.out) hb); have n2_ := Aside0.mk (blk_below (g := gb313) (o := .cells #[.int .i64 x314000_2, .int .i64 x314001_2, .int .i64 x314002_2, .int .i64 x314003_2] 39 (0, 0)) (by (with_reducible repeat (first | refine blk_drewN ?_ _ | refine blk_drew ?_ | refine blk_alloc ?_ _)); exact BK313.out) hb); have n3_ := Aside0.mk (below_step (by repeat (first | (with_reducible first | exact HB.out | apply below_alloc | apply pw_below_drewN | apply below_drew1 | refine below_set ?_ GE313.out) | exact HB.out)) hb); clear HO_5; clear HO333; clear BK313; clear HB; have HO_5 := n0_; have HO333 := n1_; have BK313 := n2_; have HB := n3_; clear n0_ n1_ n2_ n3_; (try clear hb); (try clear hb2); (try clear hk); (try clear hi)))
                                    go_ret
                                    exact ⟨by first | rfl | (simp [errW_none, errW_some] <;> rfl) | (simp [*, errW_none, errW_some] <;> rfl), by repeat (first | (with_reducible first | exact HB.out | apply below_alloc | apply pw_below_drewN | apply below_drew1 | refine below_set ?_ GE313.out) | exact HB.out)⟩
                                  · rw [if_neg c215] at H
                                    have c215b0 : (t349 == 0) = false := beq_eq_false_iff_ne.mpr c215
                                    have c215b1 : (t349 != 0) = true := bne_iff_ne.mpr c215
                                    exact absurd ((Option.some.inj H).trans HRT_.out) (by decide)
                                · rw [if_neg c214] at H
                                  have c214b0 : decide (t342 ≤ 1000) = false := decide_eq_false c214
                                  clear c214
                                  exact absurd ((Option.some.inj H).trans HRT_.out) (by decide)
                              · rw [if_neg c213] at H
                                have c213b0 : decide (0 ≤ t342) = false := decide_eq_false c213
                                clear c213
                                exact absurd ((Option.some.inj H).trans HRT_.out) (by decide)
                            · rw [if_neg c212] at H
                              have c212b0 : (t342 == t346) = false := beq_eq_false_iff_ne.mpr c212
                              have c212b1 : (t342 != t346) = true := bne_iff_ne.mpr c212
                              exact absurd ((Option.some.inj H).trans HRT_.out) (by decide)
                          · rw [if_neg c211] at H
                            have c211b0 : (t343 == 0) = false := beq_eq_false_iff_ne.mpr c211
                            have c211b1 : (t343 != 0) = true := bne_iff_ne.mpr c211
                            exact absurd ((Option.some.inj H).trans HRT_.out) (by decide)
                        · rw [if_neg c210] at H
                          have c210b0 : (t336 == t338) = false := beq_eq_false_iff_ne.mpr c210
                          have c210b1 : (t336 != t338) = true := bne_iff_ne.mpr c210
                          exact absurd ((Option.some.inj H).trans HRT_.out) (by decide)
                      · rw [if_neg c209] at H
                        have c209b0 : (t337 == t339) = false := beq_eq_false_iff_ne.mpr c209
                        have c209b1 : (t337 != t339) = true := bne_iff_ne.mpr c209
                        exact absurd ((Option.some.inj H).trans HRT_.out) (by decide)
                    · rw [if_neg c208] at H
                      have c208b0 : (t334 == (wrap64 (t330 - 400))) = false := beq_eq_false_iff_ne.mpr c208
                      have c208b1 : (t334 != (wrap64 (t330 - 400))) = true := bne_iff_ne.mpr c208
                      exact absurd ((Option.some.inj H).trans HRT_.out) (by decide)
                  · rw [if_neg c207] at H
                    have c207b0 : (t335 == 0) = false := beq_eq_false_iff_ne.mpr c207
                    have c207b1 : (t335 != 0) = true := bne_iff_ne.mpr c207
                    exact absurd ((Option.some.inj H).trans HRT_.out) (by decide)
          · rw [if_neg c9] at H
            exact absurd H (by simp)
        · rw [if_neg c7] at H
          exact absurd H (by simp)

/-- THE ONE PURE STATEMENT of laws_FnMeter: yours. -/
def laws_FnMeter.Pure : Prop := ∀ (l0 : List Int) (l1 : List Int), l0.length ≤ maxLen → l0.length * 1 ≤ 140737488351232 → (∀ x ∈ l0, (Lit.int .u8 x).wf = true) → l1.length ≤ maxLen → l1.length * 1 ≤ 140737488351232 → (∀ x ∈ l1, (Lit.int .u8 x).wf = true) → ∃ k, laws_FnMeter.f k l0 l1 = some true
theorem laws_FnMeter.walk (P : laws_FnMeter.Pure) (a0 : Option Addr) (len0 cap0 : Nat) (z0 : List Int) (a1 : Option Addr) (len1 cap1 : Nat) (z1 : List Int) (w : World) (w0 : (a0 = none ∧ len0 = 0 ∧ cap0 = 0 ∧ z0 = []) ∨ ∃ x, a0 = some x ∧ len0 ≤ cap0 ∧ cap0 ≤ maxLen ∧ z0.length = cap0 ∧ (∀ i, i < z0.length → w.cell? (x.add i) = some (.int .u8 (z0.getD i 0))) ∧ ∀ n ∈ z0, (Lit.int .u8 n).wf = true) (y0 : len0 * 1 ≤ 140737488351232) (w1 : (a1 = none ∧ len1 = 0 ∧ cap1 = 0 ∧ z1 = []) ∨ ∃ x, a1 = some x ∧ len1 ≤ cap1 ∧ cap1 ≤ maxLen ∧ z1.length = cap1 ∧ (∀ i, i < z1.length → w.cell? (x.add i) = some (.int .u8 (z1.getD i 0))) ∧ ∀ n ∈ z1, (Lit.int .u8 n).wf = true) (y1 : len1 * 1 ≤ 140737488351232) :
    Calls Try.prog 6 #[.slice a0 len0 cap0, .slice a1 len1 cap1] w fun e w' => e = .returned (.bool true) ∧ Below w.heap.size w w' := by
  obtain ⟨l0, rfl, hr0, hm0, hw0, hc0⟩ := ReadsInt.ofRowC w0
  obtain ⟨l1, rfl, hr1, hm1, hw1, hc1⟩ := ReadsInt.ofRowC w1
  obtain ⟨k, h⟩ := P l0 l1 hm0 y0 hw0 hm1 y1 hw1
  refine (laws_FnMeter.calls k _ _ l0 _ _ l1 true w (Kd.C_of_reads (d := (0 : Int)) (h1 := fun _ => rfl) hr0) hc0 (Kd.C_of_reads (d := (0 : Int)) (h1 := fun _ => rfl) hr1) hc1 h rfl).mono ?_
  rintro e w' ⟨rfl, hd⟩
  exact ⟨rfl, hd⟩
end
section
-- IMPORT Derived.SizedLaws
-- IMPORT Derived.ProofKit
-- IMPORT Derived.WalkKit
-- IMPORT Derived.OpenShut
-- IMPORT Derived.ShutString
-- IMPORT Derived.ChangeOld
-- IMPORT Derived.Below
-- IMPORT Derived.Deep.Slices
open Go.ChangeShapes Go.WideShapes Go.ChangeAt Go.Deep
/-- What reads as data of type t is a value of the kind d, and meets wf. -/
structure Opens (P : Program) (t : TypeId) {α : Type} (d : Kd α) (wf : α → Prop) : Prop where
  sz : P.cellsOf t = d.sz
  op : ∀ {H : Type} {enc : TypeId × Value → H} {w : World} {fuel : Nat} {cs : List Value} {y : DataW H × List MemPlace}, DataW.trod enc P w 0 (fun _ => true) true fuel t cs = some y → (∀ n ∈ y.1.weights P t, n ≤ reachBytes) → ∃ x, d.K w x cs ∧ wf x
theorem Opens.int {P : Program} {t : TypeId} {k : IntKind} (hu : P.underlying t = some (.int k)) (hc : P.cellsOf t = 1) : Opens P t (Kd.int k) (fun n => (Lit.int k n).wf = true) :=
  ⟨hc, fun h _ => by obtain ⟨n, rfl, rfl, wf⟩ := DataW.trod_int hu h; exact ⟨n, rfl, wf⟩⟩
theorem Opens.bool {P : Program} {t : TypeId} (hu : P.underlying t = some .bool) (hc : P.cellsOf t = 1) : Opens P t Kd.bool (fun _ => True) :=
  ⟨hc, fun h _ => by obtain ⟨n, rfl, rfl⟩ := DataW.trod_bool hu h; exact ⟨n, rfl, trivial⟩⟩
theorem Opens.string {P : Program} {t : TypeId} (hu : P.underlying t = some .string) (hc : P.cellsOf t = 1) : Opens P t Kd.string (fun s => s.size ≤ 140737488351232) :=
  ⟨hc, fun h hw => by
    obtain ⟨s, rfl, rfl, _⟩ := DataW.trod_string hu h
    refine ⟨s, rfl, ?_⟩
    have := hw s.data.toList.length (by simp [DataW.weights])
    simpa [reachBytes] using this⟩
theorem weights_mem_all {H : Type} {P : Program} {e : TypeId} {n : Nat} : ∀ {l : List (DataW H)} {d : DataW H}, d ∈ l → n ∈ d.weights P e → n ∈ DataW.weightsAll P e l
  | d0 :: l, d, hd, hn => by
    simp only [DataW.weightsAll, List.mem_append]
    rcases List.mem_cons.1 hd with rfl | hd
    · exact .inl hn
    · exact .inr (weights_mem_all hd hn)
  | [], _, hd, _ => by cases hd
theorem list_of_all {α : Type} {Q : Nat → α → Prop} (n : Nat) (h : ∀ i, i < n → ∃ x, Q i x) : ∃ xs : List α, xs.length = n ∧ ∀ j x, xs[j]? = some x → Q j x := by
  induction n with
  | zero => exact ⟨[], rfl, fun j x h => by simp at h⟩
  | succ n ih =>
    obtain ⟨xs, hl, hx⟩ := ih (fun i hi => h i (by omega))
    obtain ⟨x, hq⟩ := h n (by omega)
    refine ⟨xs ++ [x], by simp [hl], fun j y hj => ?_⟩
    rcases Nat.lt_or_ge j xs.length with hlt | hge
    · rw [List.getElem?_append_left hlt] at hj
      exact hx j y hj
    · rw [List.getElem?_append_right hge] at hj
      have : j - xs.length = 0 := by
        rcases Nat.lt_or_ge (j - xs.length) 1 with h1 | h1
        · omega
        · rw [List.getElem?_eq_none (by simpa using h1)] at hj; cases hj
      rw [this] at hj
      simp at hj
      subst hj
      have : j = n := by omega
      subst this
      exact hq
theorem Opens.slice {α : Type} {P : Program} {t e : TypeId} {d : Kd α} {wf : α → Prop} (hu : P.underlying t = some (.slice e)) (hc : P.cellsOf t = 1) (B : Nat) (hB : P.bytesOf e = B) (he : Opens P e d wf) :
    Opens P t (Kd.slice e d) (fun xs => xs.length * B ≤ 140737488351232 ∧ xs.length ≤ maxLen ∧ ∀ x ∈ xs, wf x) :=
  ⟨hc, fun {H enc w fuel cs y} h hw => by
    rcases open_slice hu h with ⟨rfl, rfl⟩ | ⟨a, len, cap, m, n, D, Pl, rfl, _, hl, hm, hmm, rfl, hel⟩
    · exact ⟨[], ⟨none, 0, rfl, Nat.le_refl _, Kd.C_nil d w⟩, by simp, by simp, fun x hx => by cases hx⟩
    have hmc : m = cap := by rw [hmm]; rfl
    subst hmc
    have hwt : ∀ i, i < len → ∀ z ∈ (D i).weights P e, z ≤ reachBytes := fun i hi z hz => hw z (by
      simp only [DataW.weights, hu]
      exact List.mem_cons_of_mem _ (List.mem_append_left _ (weights_mem_all (List.mem_map.2 ⟨i, List.mem_range.2 hi, rfl⟩) hz)))
    have hall : ∀ i, i < len → ∃ x : α, (∃ c, c.length = d.sz ∧ d.K w x c ∧ ∀ j u, c[j]? = some u → w.cell? (a.add (i * d.sz + j)) = some u) ∧ wf x := by
      intro i hi
      obtain ⟨cs', hcs, htr⟩ := hel i (by omega)
      obtain ⟨x, hk, hx⟩ := he.op htr (hwt i hi)
      obtain ⟨_, hlen, hcell⟩ := World.cells?_some hcs
      refine ⟨x, ⟨cs', by rw [hlen, he.sz], hk, fun j u hu' => ?_⟩, hx⟩
      have hj : j < cs'.length := by
        rcases Nat.lt_or_ge j cs'.length with h1 | h1
        · exact h1
        · rw [List.getElem?_eq_none h1] at hu'; cases hu'
      rw [hlen] at hj
      have hcj := hcell j hj
      rw [hu', he.sz, Addr.add_add] at hcj
      exact hcj
    obtain ⟨xs, hxl, hxs⟩ := list_of_all (Q := fun i x => (∃ c, c.length = d.sz ∧ d.K w x c ∧ ∀ j u, c[j]? = some u → w.cell? (a.add (i * d.sz + j)) = some u) ∧ wf x) len hall
    subst hxl
    refine ⟨xs, ⟨some a, m, rfl, hl, rfl, ?_, fun _ => ⟨a, rfl, fun j p hp => (hxs j p hp).1⟩⟩, ?_, ?_, ?_⟩
    · unfold maxLen at hm; omega
    · have := hw ((List.map D (List.range xs.length)).length + (List.map (fun j => D (xs.length + j)) (List.range (m - xs.length))).length) |> fun h => h
      have h1 := hw (((List.map D (List.range xs.length)).length + (List.map (fun j => D (xs.length + j)) (List.range (m - xs.length))).length) * P.bytesOf e) (by simp only [DataW.weights, hu]; exact List.mem_cons_self)
      rw [hB] at h1
      simp only [List.length_map, List.length_range] at h1
      have h2 : xs.length * B ≤ (xs.length + (m - xs.length)) * B := Nat.mul_le_mul_right _ (by omega)
      exact Nat.le_trans h2 h1
    · omega
    · intro x hx
      obtain ⟨j, hj, rfl⟩ := List.getElem_of_mem hx
      exact (hxs j _ (List.getElem?_eq_getElem hj)).2⟩
/-- Fields in line from cell o on. -/
structure OpensF (P : Program) (fs : List Field) (o : Nat) {α : Type} (d : Kd α) (wf : α → Prop) : Prop where
  op : ∀ {H : Type} {enc : TypeId × Value → H} {w : World} {n : Nat} {cs : List Value} {xs : List (DataW H × List MemPlace)}, o + d.sz ≤ cs.length → xs.length = fs.length →
    (∀ (i : Nat) (f : Field), fs[i]? = some f → DataW.trod enc P w 0 (fun _ => true) true n f.type ((cs.drop f.offset).take (P.cellsOf f.type)) = xs[i]?) →
    (∀ z ∈ DataW.weightsEach P (fs.map (·.type)) (xs.map (·.1)), z ≤ reachBytes) → ∃ x, d.K w x ((cs.drop o).take d.sz) ∧ wf x
theorem OpensF.one {α : Type} {P : Program} {f : Field} {o : Nat} {d : Kd α} {wf : α → Prop} (ho : f.offset = o) (h : Opens P f.type d wf) : OpensF P [f] o d wf := by
  refine ⟨fun {H enc w n cs xs} hlen hxl htr hw => ?_⟩
  match xs, hxl with
  | [y], _ =>
    have h1 := htr 0 f rfl
    rw [ho, h.sz] at h1
    exact h.op (y := y) h1 (fun z hz => hw z (by simpa [DataW.weightsEach] using hz))
theorem OpensF.cons {α β : Type} {P : Program} {f : Field} {fs : List Field} {o : Nat} {a : Kd α} {b : Kd β} {wa : α → Prop} {wb : β → Prop} (ho : f.offset = o) (h : Opens P f.type a wa) (o' : Nat) (ho' : o + a.sz = o') (hr : OpensF P fs o' b wb) :
    OpensF P (f :: fs) o (Kd.pair a b) (fun x => wa x.1 ∧ wb x.2) := by
  refine ⟨fun {H enc w n cs xs} hlen hxl htr hw => ?_⟩
  match xs, hxl with
  | y :: ys, hxl =>
    have h1 := htr 0 f rfl
    rw [ho, h.sz] at h1
    have hsz : (Kd.pair a b).sz = a.sz + b.sz := rfl
    rw [hsz] at hlen
    obtain ⟨x0, k0, w0⟩ := h.op (y := y) h1 (fun z hz => hw z (by simp only [List.map_cons, DataW.weightsEach, List.mem_append]; exact .inl hz))
    obtain ⟨x1, k1, w1⟩ := hr.op (n := n) (cs := cs) (xs := ys) (enc := enc) (w := w) (by omega) (by simpa using hxl) (fun i g hg => by have := htr (i + 1) g (by simpa using hg); simpa using this) (fun z hz => hw z (by simp only [List.map_cons, DataW.weightsEach, List.mem_append]; exact .inr hz))
    refine ⟨(x0, x1), ⟨(cs.drop o).take a.sz, (cs.drop o').take b.sz, ?_, k0, k1⟩, w0, w1⟩
    rw [hsz, ← ho', List.take_add, List.drop_drop]
theorem Opens.struct {α : Type} {P : Program} {t : TypeId} {fs : Array Field} {d : Kd α} {wf : α → Prop} (hu : P.underlying t = some (.struct fs)) (hc : P.cellsOf t = d.sz) (h : OpensF P fs.toList 0 d wf) : Opens P t d wf :=
  ⟨hc, fun {H enc w fuel cs y} ht hw => by
    obtain ⟨xs, n, rfl, rfl, hlen, hxl, htr⟩ := DataW.trod_struct hu ht
    obtain ⟨x, hk, hx⟩ := h.op (enc := enc) (w := w) (n := n) (cs := cs) (xs := xs) (by omega) (by simpa using hxl) (fun i f hf => htr i f (by simpa using hf)) (fun z hz => hw z (by simp only [DataW.weights, hu]; exact hz))
    refine ⟨x, ?_, hx⟩
    rw [List.drop_zero, List.take_of_length_le (by omega)] at hk
    exact hk⟩
theorem Opens.iso {α β : Type} {P : Program} {t : TypeId} {d : Kd α} {wf : α → Prop} (f : β → α) (g : α → β) (hfg : ∀ x, f (g x) = x) (h : Opens P t d wf) : Opens P t (Kd.iso d f) (fun x => wf (f x)) :=
  ⟨h.sz, fun ht hw => by
    obtain ⟨x, hk, hx⟩ := h.op ht hw
    exact ⟨g x, by show d.K _ (f (g x)) _; rw [hfg]; exact hk, by rw [hfg]; exact hx⟩⟩
end
section
-- IMPORT Derived.Laws.BitsLemmas
-- IMPORT Derived.OpenShut
theorem bndu8 {n : Int} (h : (Lit.int .u8 n).wf = true) : 0 ≤ n ∧ n ≤ 255 := bounds_u8 h
theorem wrap_id {n : Int} (h0 : -9223372036854775808 ≤ n) (h1 : n ≤ 9223372036854775807) : wrap64 n = n := by
  unfold wrap64; omega
end
section
def fst_T3 (q : Int → Bool) (l : List Int) : Nat → Int → Int
  | 0, _ => -1
  | d + 1, i => if q (rd l i) = true then i else fst_T3 q l d (i + 1)
def any_T3 (q : Int → Bool) (l : List Int) : Nat → Int → Bool
  | 0, _ => false
  | d + 1, i => q (rd l i) || any_T3 q l d (i + 1)
theorem fst_any_T3 (q : Int → Bool) (l : List Int) : ∀ (d : Nat) (i : Int), 0 ≤ i → decide (0 ≤ fst_T3 q l d i) = any_T3 q l d i
  | 0, i, _ => by simp [fst_T3, any_T3]
  | d + 1, i, h => by
    rw [fst_T3, any_T3]
    cases e : q (rd l i)
    · rw [if_neg (by simp), fst_any_T3 q l d (i + 1) (by omega), Bool.false_or]
    · rw [if_pos rfl, decide_eq_true h, Bool.true_or]
theorem any_false_T3 (q : Int → Bool) (l : List Int) : ∀ (d : Nat) (i : Int), any_T3 q l d i = false → ∀ j : Int, i ≤ j → j < i + d → q (rd l j) = false
  | 0, i, _, j, h1, h2 => by omega
  | d + 1, i, h, j, h1, h2 => by
    rw [any_T3, Bool.or_eq_false_iff] at h
    by_cases e : j = i
    · rw [e]; exact h.1
    · exact any_false_T3 q l d (i + 1) h.2 j (by omega) (by omega)
theorem idxP3_ev (q : Int → Bool) (l : List Int) (hx : (l.length : Int) ≤ 1152921504606846976) (p : Int → Option Bool) (hp : ∀ x, p x = some (q x)) : ∀ (d : Nat) (i : Int), 0 ≤ i → (l.length : Int) - i = d → ∀ k, d + 1 ≤ k → idxP3 p l k i = some (fst_T3 q l d i)
  | 0, i, h0, hd, k, hk => by
    obtain ⟨k, rfl⟩ : ∃ z, k = z + 1 := ⟨k - 1, by omega⟩
    rw [idxP3, if_neg (by omega)]; rfl
  | d + 1, i, h0, hd, k, hk => by
    obtain ⟨k, rfl⟩ : ∃ z, k = z + 1 := ⟨k - 1, by omega⟩
    rw [idxP3, if_pos (by omega), if_pos h0, hp, Option.bind_some, fst_T3, wrap_id (by omega) (by omega), idxP3_ev q l hx p hp d (i + 1) (by omega) (by omega) k (by omega)]
    cases q (rd l i) <;> simp
theorem containsP3_ev (q : Int → Bool) (l : List Int) (hx : (l.length : Int) ≤ 1152921504606846976) (p : Int → Option Bool) (hp : ∀ x, p x = some (q x)) (k : Nat) (hk : l.length + 1 ≤ k) :
    ((idxP3 p l k 0).bind fun t => some (decide (0 ≤ t))) = some (any_T3 q l l.length 0) := by
  rw [idxP3_ev q l hx p hp l.length 0 (by omega) (by omega) k hk, Option.bind_some, fst_any_T3 q l _ 0 (by omega)]
end
section
-- NEEDS spec.l01In impl.within
theorem l01In_eq (a b c : Int) : spec_l01In.f a b c = some (decide (b ≤ a ∧ a ≤ c)) := by unfold spec_l01In.f; grind
theorem within_eq (a b c : Int) : impl_within.f a b c = some (decide (b ≤ a ∧ a ≤ c)) := by unfold impl_within.f; grind
end
section
-- NEEDS spec.MeanOf impl.MeanOf
def badv (x : Int) : Bool := !decide (-1000000000 ≤ x ∧ x ≤ 1000000000)
def sumI (l : List Int) : Nat → Int → Int → Int
  | 0, _, s => s
  | d + 1, i, s => sumI l d (i + 1) (s + rd l i)
def floorI (s n : Int) : Int := if Int.tmod s n < 0 then Int.tdiv s n - 1 else Int.tdiv s n
theorem tdiv_bnd (s n : Int) : (Int.tdiv s n).natAbs ≤ s.natAbs := by
  rw [Int.natAbs_tdiv]; exact Nat.div_le_self _ _
theorem impl_floor_eq {s n : Int} (hn : 0 < n) (h0 : -4611686018427387904 ≤ s) (h1 : s ≤ 4611686018427387904) : impl_floor.f s n = some (floorI s n) := by
  have hb := tdiv_bnd s n
  unfold impl_floor.f floorI
  rw [if_neg (by omega), wrap_id (n := Int.tdiv s n) (by omega) (by omega), wrap_id (by omega) (by omega)]
  split <;> rfl
theorem spec_floor_eq {s n : Int} (hn : 0 < n) (h0 : -4611686018427387904 ≤ s) (h1 : s ≤ 4611686018427387904) : spec_l06Floor.f s n = some (floorI s n) := by
  have hb := tdiv_bnd s n
  have hd : n * Int.tdiv s n + Int.tmod s n = s := Int.mul_tdiv_add_tmod s n
  have hm : Int.tdiv s n * n = s - Int.tmod s n := by rw [Int.mul_comm]; omega
  have hr : (Int.tmod s n).natAbs ≤ s.natAbs := by rw [Int.natAbs_tmod]; exact Nat.mod_le _ _
  have hs1 : 0 ≤ s → 0 ≤ Int.tmod s n := fun h => Int.tmod_nonneg n h
  have hs2 : s < 0 → Int.tmod s n ≤ 0 := fun h => by
    have := Int.tmod_nonneg n (a := -s) (by omega)
    rw [Int.neg_tmod] at this; omega
  unfold spec_l06Floor.f floorI
  rw [if_neg (by omega), wrap_id (n := Int.tdiv s n) (by omega) (by omega), hm, wrap_id (n := s - Int.tmod s n) (by omega) (by omega), wrap_id (by omega) (by omega)]
  by_cases c : Int.tmod s n = 0
  · rw [if_pos (by omega), if_neg (by omega)]
  · rw [if_neg (by omega)]
    by_cases c2 : s < 0
    · have := hs2 c2
      rw [if_pos c2, if_pos (by omega)]
    · have := hs1 (by omega)
      rw [if_neg c2, if_neg (by omega)]
theorem spec_mean_bad (l : List Int) (hx : (l.length : Int) ≤ 4096) : ∀ (d : Nat) (i s : Int), 0 ≤ i → (l.length : Int) - i = d → -(i * 1000000000) ≤ s → s ≤ i * 1000000000 → any_T3 badv l d i = true → ∀ k, d + 1 ≤ k → spec_MeanOf.l0 k l s i = some (0, 1)
  | 0, i, s, h0, hd, h1, h2, hb, k, hk => by simp [any_T3] at hb
  | d + 1, i, s, h0, hd, h1, h2, hb, k, hk => by
    obtain ⟨k, rfl⟩ : ∃ z, k = z + 1 := ⟨k - 1, by omega⟩
    rw [spec_MeanOf.l0, if_pos (by omega), if_pos h0]
    simp only [spec_l06Value.f, l01In_eq, Option.bind_some]
    rw [any_T3] at hb
    by_cases hv : -1000000000 ≤ rd l i ∧ rd l i ≤ 1000000000
    · have hb' : any_T3 badv l d (i + 1) = true := by simpa [badv, hv] using hb
      rw [decide_eq_true hv, if_pos rfl, wrap_id (n := s + rd l i) (by omega) (by omega), wrap_id (n := i + 1) (by omega) (by omega)]
      exact spec_mean_bad l hx d (i + 1) (s + rd l i) (by omega) (by omega) (by omega) (by omega) hb' k (by omega)
    · rw [decide_eq_false hv, if_neg (by decide)]
theorem spec_mean_ok (l : List Int) (hx : (l.length : Int) ≤ 4096) (hok : ∀ j : Int, 0 ≤ j → j < l.length → badv (rd l j) = false) : ∀ (d : Nat) (i s : Int), 0 ≤ i → (l.length : Int) - i = d → -(i * 1000000000) ≤ s → s ≤ i * 1000000000 → ∀ k, d + 1 ≤ k → spec_MeanOf.l0 k l s i = if (l.length : Int) = 0 then some (0, 5) else some (floorI (sumI l d i s) l.length, 0)
  | 0, i, s, h0, hd, h1, h2, k, hk => by
    obtain ⟨k, rfl⟩ : ∃ z, k = z + 1 := ⟨k - 1, by omega⟩
    rw [spec_MeanOf.l0, if_neg (by omega)]
    by_cases c : (l.length : Int) = 0
    · rw [if_pos c, if_pos c]
    · rw [if_neg c, if_neg c, spec_floor_eq (by omega) (by omega) (by omega), Option.bind_some, sumI]
  | d + 1, i, s, h0, hd, h1, h2, k, hk => by
    obtain ⟨k, rfl⟩ : ∃ z, k = z + 1 := ⟨k - 1, by omega⟩
    have hv := hok i h0 (by omega)
    simp only [badv, Bool.not_eq_false', decide_eq_true_eq] at hv
    rw [spec_MeanOf.l0, if_pos (by omega), if_pos h0]
    simp only [spec_l06Value.f, l01In_eq, Option.bind_some]
    rw [decide_eq_true hv, if_pos rfl, wrap_id (n := s + rd l i) (by omega) (by omega), wrap_id (n := i + 1) (by omega) (by omega), sumI]
    exact spec_mean_ok l hx hok d (i + 1) (s + rd l i) (by omega) (by omega) (by omega) (by omega) k (by omega)
theorem impl_mean_ok (l : List Int) (hx : (l.length : Int) ≤ 4096) (hn : 0 < (l.length : Int)) (hok : ∀ j : Int, 0 ≤ j → j < l.length → badv (rd l j) = false) : ∀ (d : Nat) (i s : Int), 0 ≤ i → (l.length : Int) - i = d → -(i * 1000000000) ≤ s → s ≤ i * 1000000000 → ∀ k, d + 1 ≤ k → impl_MeanOf.l0 k l s l (l.length : Int) i = some (floorI (sumI l d i s) l.length, 0)
  | 0, i, s, h0, hd, h1, h2, k, hk => by
    obtain ⟨k, rfl⟩ : ∃ z, k = z + 1 := ⟨k - 1, by omega⟩
    rw [impl_MeanOf.l0, if_neg (by omega), impl_floor_eq (by omega) (by omega) (by omega), Option.bind_some, sumI]
  | d + 1, i, s, h0, hd, h1, h2, k, hk => by
    obtain ⟨k, rfl⟩ : ∃ z, k = z + 1 := ⟨k - 1, by omega⟩
    have hv := hok i h0 (by omega)
    simp only [badv, Bool.not_eq_false', decide_eq_true_eq] at hv
    rw [impl_MeanOf.l0, if_pos (by omega), if_pos h0, if_pos (by omega), wrap_id (n := s + rd l i) (by omega) (by omega), wrap_id (n := i + 1) (by omega) (by omega), sumI]
    exact impl_mean_ok l hx hn hok d (i + 1) (s + rd l i) (by omega) (by omega) (by omega) (by omega) k (by omega)
def meanR (l : List Int) : Int × Int := if (l.length : Int) > 4096 then (0, 2) else if any_T3 badv l l.length 0 = true then (0, 1) else if (l.length : Int) = 0 then (0, 5) else (floorI (sumI l l.length 0 0) l.length, 0)
theorem spec_MeanOf_ev (l : List Int) (k : Nat) (hk : l.length + 1 ≤ k) : spec_MeanOf.f k l = some (meanR l) := by
  unfold spec_MeanOf.f meanR
  by_cases h : (l.length : Int) > 4096
  · rw [if_pos h, if_pos h]
  rw [if_neg h, if_neg h]
  cases hb : any_T3 badv l l.length 0 with
  | true => rw [if_pos rfl, spec_mean_bad l (by omega) l.length 0 0 (by omega) (by omega) (by omega) (by omega) hb k hk]
  | false =>
    rw [if_neg (by decide), spec_mean_ok l (by omega) (fun j h0 h1 => any_false_T3 badv l l.length 0 hb j h0 (by omega)) l.length 0 0 (by omega) (by omega) (by omega) (by omega) k hk]
    split <;> rfl
theorem impl_MeanOf_ev (l : List Int) (k : Nat) (hk : l.length + 1 ≤ k) : impl_MeanOf.f k l = some (meanR l) := by
  unfold impl_MeanOf.f meanR
  by_cases h : (l.length : Int) > 4096
  · rw [if_pos h, if_pos h]
  have e : slices_ContainsFunc_int_int.f k l = some (any_T3 badv l l.length 0) := by
    unfold slices_ContainsFunc_int_int.f
    exact containsP3_ev badv l (by omega) _ (fun x => by simp only [impl_MeanOf_1.f, impl_isAmount.f, within_eq, Option.bind_some, badv]) k hk
  rw [if_neg h, if_neg h, e, Option.bind_some]
  cases hb : any_T3 badv l l.length 0 with
  | true => rw [if_pos rfl, if_pos rfl]
  | false =>
    simp only [Bool.false_eq_true, if_false]
    by_cases c : (l.length : Int) = 0
    · rw [if_pos c, if_pos c]
    · rw [if_neg c, if_neg c, impl_mean_ok l (by omega) (by omega) (fun j h0 h1 => any_false_T3 badv l l.length 0 hb j h0 (by omega)) l.length 0 0 (by omega) (by omega) (by omega) (by omega) k hk]
end
section
-- NEEDS (*spec.l00Src).byte (*spec.l00Src).next
def okSrc (code : List Int) (a s : Int) : Prop := (∀ y ∈ code, 0 ≤ y ∧ y ≤ 255) ∧ code.length ≤ 1048576 ∧ 0 ≤ a ∧ a ≤ 1000000000000 ∧ 0 ≤ s ∧ s < 2147483648
theorem src_rd {code : List Int} (h : ∀ y ∈ code, 0 ≤ y ∧ y ≤ 255) (i : Int) : 0 ≤ rd code i ∧ rd code i ≤ 255 := by
  unfold rd
  rw [List.getD_eq_getElem?_getD]
  cases e : code[i.toNat]? with
  | none => decide
  | some y => exact h y (List.mem_of_getElem? e)
theorem src_byte {code : List Int} {a s : Int} (h : okSrc code a s) : ∃ b t, spec_l00Src_byte.f code a s = some (b, a + 1, t) ∧ 0 ≤ b ∧ b ≤ 255 ∧ 0 ≤ t ∧ t < 2147483648 := by
  obtain ⟨hc, hl, h0, h1, h2, h3⟩ := h
  have hr := src_rd hc a
  unfold spec_l00Src_byte.f
  rw [wrap_id (n := a + 1) (by omega) (by omega)]
  by_cases c1 : a + 1 ≤ (code.length : Int)
  · rw [if_pos c1, if_pos (by omega), wrap_id (n := a + 1 - 1) (by omega) (by omega), show a + 1 - 1 = a by omega]
    generalize rd code a = y at hr
    rw [wrap_id (n := y) (by omega) (by omega), wrap_id (n := s * 31) (by omega) (by omega), wrap_id (n := s * 31 + y) (by omega) (by omega), wrap_id (n := s * 31 + y + 7) (by omega) (by omega), Int.tmod_eq_emod_of_nonneg (by omega)]
    exact ⟨y, _, rfl, by omega, by omega, by omega, by omega⟩
  · rw [if_neg c1]
    by_cases c2 : a + 1 > 3000
    · rw [if_pos c2]
      exact ⟨0, s, rfl, by omega, by omega, h2, h3⟩
    · rw [if_neg c2, wrap_id (n := s * 1103515245) (by omega) (by omega), wrap_id (n := s * 1103515245 + 12345) (by omega) (by omega), Int.tmod_eq_emod_of_nonneg (a := s * 1103515245 + 12345) (by omega)]
      have ht : 0 ≤ (s * 1103515245 + 12345) % 2147483648 ∧ (s * 1103515245 + 12345) % 2147483648 < 2147483648 := by omega
      generalize (s * 1103515245 + 12345) % 2147483648 = t at ht
      rw [Int.tdiv_eq_ediv_of_nonneg (by omega), wrap_id (n := t / 65536) (by omega) (by omega), Int.tmod_eq_emod_of_nonneg (by omega)]
      exact ⟨_, t, rfl, by omega, by omega, by omega, by omega⟩
theorem src_next {code : List Int} {a s : Int} (h : okSrc code a s) (n : Int) (h1 : 2 ≤ n) (h2 : n ≤ 256) : ∃ b t, spec_l00Src_next.f code a s n = some (b, a + 1, t) ∧ 0 ≤ b ∧ b < n ∧ 0 ≤ t ∧ t < 2147483648 := by
  obtain ⟨b, t, e, b0, b1, t0, t1⟩ := src_byte h
  unfold spec_l00Src_next.f
  rw [if_neg (by omega), if_pos h2, e, Option.bind_some, if_neg (by omega), Int.tmod_eq_emod_of_nonneg b0]
  exact ⟨_, t, rfl, Int.emod_nonneg _ (by omega), Int.emod_lt_of_pos _ (by omega), t0, t1⟩
theorem okSrc.on {code : List Int} {a s : Int} (h : okSrc code a s) {t : Int} (ha : a ≤ 999999999999) (t0 : 0 ≤ t) (t1 : t < 2147483648) : okSrc code (a + 1) t := ⟨h.1, h.2.1, by have := h.2.2.1; omega, by omega, t0, t1⟩
theorem okSrc.begin {code : List Int} (h : ∀ y ∈ code, 0 ≤ y ∧ y ≤ 255) (hl : code.length ≤ 1048576) : okSrc code 0 ((code.length : Int) % 1000) := ⟨h, hl, by omega, by omega, by omega, by omega⟩
end
section
def P_FnMeter : Prop := ∀ (a0 : List Int) (a1 : List Int), (a0.length * 1 ≤ 140737488351232 ∧ a0.length ≤ maxLen ∧ ∀ y ∈ a0, (Lit.int .u8 y).wf = true) → (a1.length * 1 ≤ 140737488351232 ∧ a1.length ≤ maxLen ∧ ∀ y ∈ a1, (Lit.int .u8 y).wf = true) → ∃ k, laws_FnMeter.f k a0 a1 = some true
end
section
-- NEEDS laws.FnMeter impl.MeterAdd spec.MeterAdd
theorem byte_of_wf {l : List Int} (h : ∀ y ∈ l, (Lit.int .u8 y).wf = true) : ∀ y ∈ l, 0 ≤ y ∧ y ≤ 255 := fun y hy => bndu8 (h y hy)
theorem meter_at {l : List Int} (h : ∀ y ∈ l, 0 ≤ y ∧ y ≤ 255) (i n : Int) (hn : 2 ≤ n) (hn2 : n ≤ 100000) (h0 : 0 ≤ i) (h1 : i ≤ 2) (hl : (l.length : Int) ≤ 1048576) : ∃ v, laws_at.f l i n = some v ∧ 0 ≤ v ∧ v < n := by
  unfold laws_at.f
  rw [if_neg (by omega)]
  by_cases he : (l.length : Int) = 0
  · rw [if_pos he, if_neg (by omega), wrap_id (by omega) (by omega), Int.tmod_eq_emod_of_nonneg (by omega)]
    exact ⟨_, rfl, Int.emod_nonneg _ (by omega), Int.emod_lt_of_pos _ (by omega)⟩
  · have hp : 0 < (l.length : Int) := by omega
    have e0 : wrap64 (i + 1) = i + 1 := wrap_id (by omega) (by omega)
    have t0 : Int.tmod i (l.length : Int) = i % (l.length : Int) := Int.tmod_eq_emod_of_nonneg (by omega)
    have t1 : Int.tmod (i + 1) (l.length : Int) = (i + 1) % (l.length : Int) := Int.tmod_eq_emod_of_nonneg (by omega)
    have t2 : Int.tdiv i (l.length : Int) = i / (l.length : Int) := Int.tdiv_eq_ediv_of_nonneg (by omega)
    have m0 := Int.emod_nonneg i (Int.ne_of_gt hp)
    have m1 := Int.emod_lt_of_pos i hp
    have m2 := Int.emod_nonneg (i + 1) (Int.ne_of_gt hp)
    have m3 := Int.emod_lt_of_pos (i + 1) hp
    have d0 : 0 ≤ i / (l.length : Int) := Int.ediv_nonneg h0 (by omega)
    have d1 : i / (l.length : Int) ≤ i := Int.ediv_le_self _ h0
    obtain ⟨b0, b1⟩ := src_rd h (i % (l.length : Int))
    obtain ⟨b2, b3⟩ := src_rd h ((i + 1) % (l.length : Int))
    rw [if_neg he, e0, t0, t1, t2, if_pos m0, if_pos m1, if_pos m2, if_pos m3, if_neg (by omega)]
    rw [wrap_id (n := rd l (i % (l.length : Int))) (by omega) (by omega), wrap_id (n := rd l ((i + 1) % (l.length : Int))) (by omega) (by omega), wrap_id (n := i / (l.length : Int)) (by omega) (by omega)]
    rw [wrap_id (n := rd l (i % (l.length : Int)) * 31) (by omega) (by omega), wrap_id (n := rd l (i % (l.length : Int)) * 31 + rd l ((i + 1) % (l.length : Int))) (by omega) (by omega), wrap_id (by omega) (by omega), Int.tmod_eq_emod_of_nonneg (by omega)]
    exact ⟨_, rfl, Int.emod_nonneg _ (by omega), Int.emod_lt_of_pos _ (by omega)⟩
theorem src_big {code : List Int} {a s : Int} (h : okSrc code a s) (n : Int) (h1 : 257 ≤ n) (h2 : n ≤ 100000) (ha : a ≤ 999999999000) : ∃ b t, spec_l00Src_next.f code a s n = some (b, a + 1 + 1 + 1, t) ∧ 0 ≤ b ∧ b < n ∧ 0 ≤ t ∧ t < 2147483648 := by
  obtain ⟨b, t, e, b0, b1, t0, t1⟩ := src_byte h
  have o1 := h.on (by omega) t0 t1
  obtain ⟨c, u, e2, c0, c1, u0, u1⟩ := src_byte o1
  have o2 := o1.on (by omega) u0 u1
  obtain ⟨d, v, e3, d0, d1, v0, v1⟩ := src_byte o2
  unfold spec_l00Src_next.f
  rw [if_neg (by omega), if_neg (by omega), e, Option.bind_some]
  dsimp only
  rw [e2, Option.bind_some]
  dsimp only
  rw [e3, Option.bind_some]
  dsimp only
  rw [if_neg (by omega), wrap_id (n := b * 65536) (by omega) (by omega), wrap_id (n := c * 256) (by omega) (by omega), wrap_id (n := b * 65536 + c * 256) (by omega) (by omega), wrap_id (by omega) (by omega), Int.tmod_eq_emod_of_nonneg (by omega)]
  exact ⟨_, v, rfl, Int.emod_nonneg _ (by omega), Int.emod_lt_of_pos _ (by omega), v0, v1⟩
def okAm (x : Int) : Prop := -1000000000 ≤ x ∧ x ≤ 1000000000
theorem src_amount {code : List Int} {a s : Int} (h : okSrc code a s) (ha : a ≤ 999999998000) : ∃ b t, spec_l00Src_amount.f code a s = some (b, a + 5, t) ∧ okAm b ∧ 0 ≤ t ∧ t < 2147483648 := by
  obtain ⟨b, t, e, b0, b1, t0, t1⟩ := src_next h 100 (by omega) (by omega)
  have o1 := h.on (by omega) t0 t1
  obtain ⟨c, u, e2, c0, c1, u0, u1⟩ := src_big o1 9000 (by omega) (by omega) (by omega)
  have o2 : okSrc code (a + 1 + 1 + 1 + 1) u := ((o1.on (by omega) t0 t1).on (by omega) t0 t1).on (by omega) u0 u1
  obtain ⟨d, v, e3, d0, d1, v0, v1⟩ := src_next o2 5 (by omega) (by omega)
  unfold spec_l00Src_amount.f
  rw [e, Option.bind_some]
  dsimp only
  rw [e2, Option.bind_some, Option.bind_some]
  dsimp only
  rw [e3, Option.bind_some]
  dsimp only
  rw [if_pos d0, if_pos (by simpa using d1), wrap_id (n := b - 50) (by omega) (by omega)]
  refine ⟨_, v, by rw [show a + 1 + 1 + 1 + 1 + 1 = a + 5 by omega], ?_, v0, v1⟩
  have hd : d = 0 ∨ d = 1 ∨ d = 2 ∨ d = 3 ∨ d = 4 := by omega
  rcases hd with rfl | rfl | rfl | rfl | rfl <;> (simp only [rd, okAm]; simp; try omega)
theorem src_amounts (code : List Int) : ∀ (n : Nat) (acc : List Int) (a s : Int), okSrc code a s → n ≤ 6 → a + 5 * n ≤ 999999990000 → (acc.length : Int) + n ≤ 100 → (∀ y ∈ acc, okAm y) → ∀ k, n + 1 ≤ k → ∃ (r : List Int) (a' s' : Int), spec_l00Src_amounts.l0 k acc n code a s = some (r, a', s') ∧ (∀ y ∈ r, okAm y) ∧ r.length = acc.length + n
  | 0, acc, a, s, h, hn, ha, hc, hy, k, hk => by
    obtain ⟨k, rfl⟩ : ∃ z, k = z + 1 := ⟨k - 1, by omega⟩
    exact ⟨acc, a, s, by rw [spec_l00Src_amounts.l0, if_neg (by simp)], hy, rfl⟩
  | n + 1, acc, a, s, h, hn, ha, hc, hy, k, hk => by
    obtain ⟨k, rfl⟩ : ∃ z, k = z + 1 := ⟨k - 1, by omega⟩
    obtain ⟨b, t, e, hb, t0, t1⟩ := src_amount h (by omega)
    have o : okSrc code (a + 5) t := ⟨h.1, h.2.1, by have := h.2.2.1; omega, by omega, t0, t1⟩
    obtain ⟨r, a', s', er, hr, hlr⟩ := src_amounts code n (acc ++ [b]) (a + 5) t o (by omega) (by omega) (by simp; omega) (fun y hm => by
      rcases List.mem_append.1 hm with hm | hm
      · exact hy y hm
      · obtain rfl := List.mem_singleton.1 hm; exact hb) k (by omega)
    refine ⟨r, a', s', ?_, hr, by rw [hlr]; simp; omega⟩
    rw [spec_l00Src_amounts.l0, if_pos (by omega), e, Option.bind_some]
    dsimp only
    rw [if_pos (by omega), wrap_id (by omega) (by omega), show ((n + 1 : Nat) : Int) - 1 = (n : Int) by omega, er]
theorem am_mono (k : Nat) (y0 : List Int) (y1 : Int) (y2 : List Int) (y3 y4 : Int) : ∀ d, LeO (spec_l00Src_amounts.l0 k y0 y1 y2 y3 y4) (spec_l00Src_amounts.l0 (k + d) y0 y1 y2 y3 y4)
  | 0 => LeO.refl _
  | d + 1 => fun q hq => spec_l00Src_amounts.mono_l (k + d) y0 y1 y2 y3 y4 q (am_mono k y0 y1 y2 y3 y4 d q hq)
theorem amounts_of {code : List Int} (h : ∀ y ∈ code, 0 ≤ y ∧ y ≤ 255) (hl : (code.length : Int) ≤ 1048576) : ∃ r : List Int, (∀ k, 10 ≤ k → spec_AmountsOf.f k code = some r) ∧ (∀ y ∈ r, okAm y) ∧ r.length ≤ 5 := by
  have o := okSrc.begin h (by omega)
  obtain ⟨b, t, e, b0, b1, t0, t1⟩ := src_next o 6 (by omega) (by omega)
  have o1 := o.on (by omega) t0 t1
  have hnb : ((b.toNat : Nat) : Int) = b := by omega
  have key := fun k hk => src_amounts code b.toNat [] (0 + 1) t o1 (by omega) (by omega) (by simp; omega) (by simp) k hk
  obtain ⟨r, a', s', er, hr, hlr⟩ := key 10 (by omega)
  refine ⟨r, fun k hk => ?_, hr, by simp at hlr; omega⟩
  obtain ⟨d, rfl⟩ : ∃ d, k = 10 + d := ⟨k - 10, by omega⟩
  have e3 := am_mono 10 [] b.toNat code (0 + 1) t d _ er
  unfold spec_AmountsOf.f spec_l00Source.f
  rw [Option.bind_some]
  dsimp only
  unfold spec_l00Src_amounts.f
  rw [e, Option.bind_some]
  dsimp only
  rw [← hnb, e3, Option.bind_some]
theorem floor_lit (s n : Int) (hn : n = 3 ∨ n = 4) : floorI s n * n ≤ s ∧ s < floorI s n * n + n := by
  have hd : n * Int.tdiv s n + Int.tmod s n = s := Int.mul_tdiv_add_tmod s n
  have hr : (Int.tmod s n).natAbs < n.natAbs := by rw [Int.natAbs_tmod]; exact Nat.mod_lt _ (by omega)
  unfold floorI
  rcases hn with rfl | rfl
  · split <;> omega
  · split <;> omega
def MInv (i me le mo co : Int) : Prop := (i = 0 ∧ me = 0 ∧ le = 0 ∧ mo = 0 ∧ co = 0) ∨ (0 < i ∧ co = i ∧ okAm le ∧ okAm mo ∧ le ≤ me ∧ me ≤ mo)
theorem meter_ok (me le mo co : Int) (i : Int) (h : MInv i me le mo co) (hi : i ≤ 100) : impl_meterOK.f me le mo co = some true ∧ spec_l06Meter.f me le mo co = some true := by
  rcases h with ⟨_, rfl, rfl, rfl, rfl⟩ | ⟨h0, rfl, ⟨a1, a2⟩, ⟨b1, b2⟩, c1, c2⟩
  · exact ⟨rfl, rfl⟩
  · have e : (me == 0 && (le == 0 && (mo == 0 && (co == 0)))) = false := by
      rw [show (co == 0) = false from beq_eq_false_iff_ne.2 (by omega)]; simp
    unfold impl_meterOK.f spec_l06Meter.f
    rw [e, if_neg (by decide), if_neg (by decide)]
    simp only [impl_isAmount.f, spec_l06Value.f, within_eq, l01In_eq, Option.bind_some]
    rw [decide_eq_true (show 1 ≤ co ∧ co ≤ 1000000 by omega), decide_eq_true (show -1000000000 ≤ le ∧ le ≤ 1000000000 by omega), decide_eq_true (show -1000000000 ≤ mo ∧ mo ≤ 1000000000 by omega), decide_eq_true (show le ≤ me ∧ me ≤ mo by omega), if_pos c1, decide_eq_true c2]
    exact ⟨rfl, rfl⟩
theorem mn_le (a b : Int) : mn a b ≤ a ∧ mn a b ≤ b ∧ (mn a b = a ∨ mn a b = b) := by unfold mn; split <;> omega
theorem mx_le (a b : Int) : a ≤ mx a b ∧ b ≤ mx a b ∧ (mx a b = a ∨ mx a b = b) := by unfold mx; split <;> omega
theorem meter_step (i me le mo co x : Int) (h : MInv i me le mo co) (hi0 : 0 ≤ i) (hi : i ≤ 99) (hx : okAm x) :
    ∃ me' le' mo', impl_MeterAdd.f me le mo co x = some (me', le', mo', i + 1, 0) ∧ spec_MeterAdd.f me le mo co x = some (me', le', mo', i + 1, 0) ∧ MInv (i + 1) me' le' mo' (i + 1) ∧ le' ≤ x ∧ x ≤ mo' ∧ le' ≤ me' ∧ me' ≤ mo' := by
  obtain ⟨h1, h2⟩ := meter_ok me le mo co i h (by omega)
  have hx' : -1000000000 ≤ x ∧ x ≤ 1000000000 := hx
  have e1 : impl_isAmount.f x = some true := by rw [impl_isAmount.f, within_eq, Option.bind_some, decide_eq_true hx']
  have e2 : spec_l06Value.f x = some true := by rw [spec_l06Value.f, l01In_eq, Option.bind_some, decide_eq_true hx']
  unfold impl_MeterAdd.f spec_MeterAdd.f
  rw [h1, h2, e1, e2]
  simp only [Option.bind_some, if_true]
  rcases h with ⟨rfl, rfl, rfl, rfl, rfl⟩ | ⟨h0, rfl, ⟨a1, a2⟩, ⟨b1, b2⟩, c1, c2⟩
  · rw [if_pos rfl, if_pos rfl]
    exact ⟨x, x, x, rfl, rfl, .inr ⟨by omega, rfl, hx, hx, by omega, by omega⟩, by omega, by omega, by omega, by omega⟩
  · have hf := floor_lit (x - me) 4 (.inr rfl)
    have hb : -4000000000 ≤ floorI (x - me) 4 ∧ floorI (x - me) 4 ≤ 4000000000 := by omega
    rw [if_neg (by omega), if_neg (by omega), wrap_id (n := x - me) (by omega) (by omega), impl_floor_eq (by omega) (by omega) (by omega), spec_floor_eq (by omega) (by omega) (by omega), Option.bind_some, Option.bind_some, wrap_id (n := co + 1) (by omega) (by omega)]
    generalize floorI (x - me) 4 = q at hf hb
    rw [wrap_id (n := me + q) (by omega) (by omega)]
    have g1 := mn_le le x
    have g2 := mx_le mo x
    generalize mn le x = le' at g1
    generalize mx mo x = mo' at g2
    rw [show mn (co + 1) 1000000 = co + 1 by (unfold mn; rw [if_neg (by omega)]), show mn 1000000 (co + 1) = co + 1 by (unfold mn; rw [if_pos (by omega)])]
    refine ⟨me + q, le', mo', rfl, rfl, .inr ⟨by omega, rfl, ⟨?_, ?_⟩, ⟨?_, ?_⟩, ?_, ?_⟩, ?_, ?_, ?_, ?_⟩ <;> omega
theorem share_impl (a b : Int) (ha : 0 ≤ a ∧ a ≤ 1000) (hb : 1 ≤ b ∧ b ≤ 1000) (k : Nat) : ∃ v, impl_ShareOf.f (k + 1) a b = some (v, 0) ∧ spec_ShareOf.f (k + 1) a b = some (v, 0) ∧ 0 ≤ v ∧ v ≤ 1000 := by
  unfold impl_ShareOf.f spec_ShareOf.f
  simp only [impl_isAmount.f, spec_l06Value.f, within_eq, l01In_eq, Option.bind_some]
  rw [decide_eq_true (show -1000000000 ≤ a ∧ a ≤ 1000000000 by omega), decide_eq_true (show -1000000000 ≤ b ∧ b ≤ 1000000000 by omega), if_pos rfl, if_pos rfl, impl_ShareOf.j0, spec_ShareOf.j0]
  simp only [Bool.not_true, Bool.false_eq_true, if_false]
  rw [if_neg (by omega), if_neg (by omega), if_neg (by omega), if_neg (by omega), wrap_id (n := 1000 * a) (by omega) (by omega), impl_floor_eq (by omega) (by omega) (by omega), spec_floor_eq (by omega) (by omega) (by omega), Option.bind_some, Option.bind_some]
  generalize floorI (1000 * a) b = q
  refine ⟨mn (mx q 0) 1000, rfl, ?_, ?_, ?_⟩
  · rw [show mx 0 (mn 1000 q) = mn (mx q 0) 1000 by (unfold mn mx; grind)]
  · unfold mn mx; grind
  · unfold mn mx; grind
theorem mean_three (n : Int) (h0 : -400 ≤ n) (h1 : n ≤ 500) : meanR [n, n, n] = (n, 0) := by
  have hr0 : rd [n, n, n] 0 = n := rfl
  have hr1 : rd [n, n, n] 1 = n := rfl
  have hr2 : rd [n, n, n] 2 = n := rfl
  have hb : badv n = false := by simp only [badv, Bool.not_eq_false', decide_eq_true_eq]; omega
  have ha : any_T3 badv [n, n, n] [n, n, n].length 0 = false := by
    show any_T3 badv [n, n, n] 3 0 = false
    simp only [any_T3, hr0, show (0 : Int) + 1 = 1 from rfl, hr1, show (1 : Int) + 1 = 2 from rfl, hr2, hb]
    simp
  have hs : sumI [n, n, n] 3 0 0 = n + n + n := by
    simp only [sumI, hr0, show (0 : Int) + 1 = 1 from rfl, hr1, show (1 : Int) + 1 = 2 from rfl, hr2]; omega
  have hf := floor_lit (n + n + n) 3 (.inl rfl)
  unfold meanR
  rw [if_neg (by simp), ha, if_neg (by decide), if_neg (by simp), show [n, n, n].length = 3 from rfl, hs]
  congr 1
  show floorI (n + n + n) 3 = n
  omega
theorem meter_exit (more l : List Int) (hm : ∀ y ∈ more, 0 ≤ y ∧ y ≤ 255) (hml : (more.length : Int) ≤ 1048576) (me le mo co i : Int) (hi : (l.length : Int) ≤ i) (k : Nat) (hk : l.length + 10 ≤ k) : laws_FnMeter.l0 (k + 1) more l i me le mo co = some true := by
  obtain ⟨k, rfl⟩ : ∃ z, k = z + 1 := ⟨k - 1, by omega⟩
  obtain ⟨v, ev, v0, v1⟩ := meter_at hm 0 900 (by omega) (by omega) (by omega) (by omega) hml
  obtain ⟨a, ea, a0, a1⟩ := meter_at hm 1 500 (by omega) (by omega) (by omega) (by omega) hml
  obtain ⟨b, eb, b0, b1⟩ := meter_at hm 2 500 (by omega) (by omega) (by omega) (by omega) hml
  obtain ⟨s, es, es2, s0, s1⟩ := share_impl a (1 + b) (by omega) (by omega) k
  have m3 := impl_MeanOf_ev [v - 400, v - 400, v - 400] (k + 1) (by simp; omega)
  rw [mean_three (v - 400) (by omega) (by omega)] at m3
  have ml := impl_MeanOf_ev l (k + 1) (by omega)
  have ms := spec_MeanOf_ev l (k + 1) (by omega)
  have sh : impl_ShareOf.f (k + 1) 7 0 = some (1000, 0) := rfl
  rw [laws_FnMeter.l0, if_neg (by omega), ev, Option.bind_some, wrap_id (n := v - 400) (by omega) (by omega), m3, Option.bind_some, ml, Option.bind_some, ms, Option.bind_some, ea, Option.bind_some, eb, Option.bind_some, wrap_id (n := 1 + b) (by omega) (by omega), es, Option.bind_some, Option.bind_some, Option.bind_some, wrap_id (n := 1 + b) (by omega) (by omega), es2, Option.bind_some, sh, Option.bind_some]
  dsimp only
  rw [if_pos rfl, if_pos rfl, if_pos rfl, if_pos rfl, if_pos rfl, if_pos rfl, if_pos s0, if_pos s1, if_pos rfl]
  rfl
theorem meter_loop (more l : List Int) (hm : ∀ y ∈ more, 0 ≤ y ∧ y ≤ 255) (hml : (more.length : Int) ≤ 1048576) (hl : l.length ≤ 20) (hok : ∀ y ∈ l, okAm y) : ∀ (d i : Nat) (me le mo : Int), i + d = l.length → MInv i me le mo i → ∀ k, d + 40 ≤ k → laws_FnMeter.l0 k more l i me le mo i = some true
  | 0, i, me, le, mo, hd, h, k, hk => by
    obtain ⟨k, rfl⟩ : ∃ z, k = z + 1 := ⟨k - 1, by omega⟩
    exact meter_exit more l hm hml me le mo i i (by omega) k (by omega)
  | d + 1, i, me, le, mo, hd, h, k, hk => by
    obtain ⟨k, rfl⟩ : ∃ z, k = z + 1 := ⟨k - 1, by omega⟩
    have hx : okAm (rd l i) := by
      rw [rd, List.getD_eq_getElem?_getD, Int.toNat_natCast, List.getElem?_eq_getElem (by omega)]
      exact hok _ (List.getElem_mem ..)
    obtain ⟨me', le', mo', e1, e2, h', x1, x2, x3, x4⟩ := meter_step i me le mo i (rd l i) h (by omega) (by omega) hx
    have ih := meter_loop more l hm hml hl hok d (i + 1) me' le' mo' (by omega) (by rw [show ((i + 1 : Nat) : Int) = (i : Int) + 1 by omega]; exact h') k (by omega)
    rw [show ((i + 1 : Nat) : Int) = (i : Int) + 1 by omega] at ih
    rw [laws_FnMeter.l0, if_pos (by omega), if_pos (by omega), e1, Option.bind_some, e2, Option.bind_some]
    dsimp only
    rw [if_pos rfl, if_neg (by simp), if_neg (by omega), if_neg (by omega), if_neg (by omega), if_neg (by omega), wrap_id (n := (i : Int) + 1) (by omega) (by omega), if_pos rfl, ih]
theorem pure_FnMeter : P_FnMeter := by
  intro l0 l1 ⟨_, _, w0⟩ ⟨_, _, w1⟩
  by_cases h0 : (l0.length : Int) > 1048576
  · exact ⟨1, by simp only [laws_FnMeter.f, if_pos h0, laws_FnMeter.j0, if_true]⟩
  by_cases h1 : (l1.length : Int) > 1048576
  · exact ⟨1, by simp only [laws_FnMeter.f, if_neg h0, decide_eq_true h1, laws_FnMeter.j0, if_true]⟩
  have b0 := byte_of_wf w0
  have b1 := byte_of_wf w1
  obtain ⟨r0, e0, a0, n0⟩ := amounts_of b0 (by omega)
  obtain ⟨r1, e1, a1, n1⟩ := amounts_of b1 (by omega)
  refine ⟨101, ?_⟩
  have hlp := meter_loop l1 ([] ++ r0 ++ r1) b1 (by omega) (by simp; omega) (fun y hy => by
    simp only [List.nil_append, List.mem_append] at hy
    rcases hy with hy | hy
    · exact a0 y hy
    · exact a1 y hy) ([] ++ r0 ++ r1).length 0 0 0 0 (by omega) (.inl ⟨rfl, rfl, rfl, rfl, rfl⟩) 100 (by simp; omega)
  simp only [laws_FnMeter.f, if_neg h0, decide_eq_false h1, laws_FnMeter.j0]
  rw [if_neg (by decide), Option.bind_some, e0 100 (by omega), Option.bind_some, if_pos (by simp; omega), Option.bind_some, e1 100 (by omega), Option.bind_some, if_pos (by simp; omega)]
  exact hlp
end
section
-- IMPORT Derived.Test.YtcakbenoaclbkaaRows
-- IMPORT Derived.WalkKit
-- IMPORT Derived.ProofKit
-- IMPORT Derived.OpenShut
-- IMPORT Derived.ShutString
-- IMPORT Derived.ChangeOld
-- IMPORT Derived.Below
-- IMPORT Derived.SizedLaws
open Go.ChangeShapes Go.WideShapes Go.ChangeAt
open Go.ChangeMaps (open_string shut_string)
theorem own_FnMeter : ownKnob Try.prog.godebug = none := by kernel_rfl
theorem laidOut_FnMeter : laidOutB Try.prog = true := by kernel_rfl
set_option maxHeartbeats 4000000 in
set_option maxRecDepth 100000 in
theorem lifted_FnMeter (os : Os) (started : os.Started) (H : Type) (enc : TypeId × Value → H) :
    ReturnsInHanded {} Try.checked os 6 .any (Rows.fnMeterSpec.pre6 enc Try.prog Try.f6 Rows.fnMeterRow.domain false) (Rows.fnMeterSpec.post enc Try.prog Try.f6 false true false false) := by
  refine returnsInHanded_of_change_sized (C := Try.checked) own_FnMeter started (by kernel_rfl) Try.func6
    (ChangeSpec.witness6 (enc := enc) (C := Try.checked) false ⟨#[], #[.slice none 0 0, .slice none 0 0], []⟩ 8 (by kernel_rfl) (by kernel_rfl) (by kernel_rfl) (by kernel_rfl)) ?_
  intro W base args ds gs before hval0 hW hcnd hsz0 _
  have hsz : (DataW.weightsEach Try.prog (Try.f6.params.toList ++ Rows.fnMeterSpec.plain.varTypes Try.prog) (ds ++ gs)).all (· ≤ reachBytes) = true := hsz0
  have hval : ∀ (j : Nat) t v, Try.f6.params[j]? = some t → args[j]? = some v → Value.okWide Try.prog W .any base t v := hval0
  have hW' := hW
  obtain ⟨p, q, hA0, hV, rfl, hfz, hnd⟩ := hW
  have hA : DataW.TrodAll enc Try.prog W 0 (fun _ => true) true Try.f6.params.toList args.toList ds p := hA0
  rw [Try.params6] at hA hval hsz
  obtain ⟨v0, vs0, d0, ds0, p0, q0, hargs, rfl, rfl, h0, r0⟩ := trodAll_cons hA
  obtain ⟨v1, vs1, d1, ds1, p1, q1, rfl, rfl, rfl, h1, r1⟩ := trodAll_cons r0
  obtain ⟨rfl, rfl, rfl⟩ := trodAll_nil r1
  obtain rfl : args = #[v0, v1] := by cases args; simp_all
  obtain ⟨rfl, rfl⟩ := trodVars_none hV
  have k0 := h0
  have lt0 : ∀ x ∈ p0, x.block < W.heap.size := by obtain ⟨m, hm⟩ := k0; exact DataW.trod_lt m _ _ _ hm
  obtain ⟨A0, n0, c0, rfl⟩ := okWide_slice Try.underlying36 (hval 0 36 v0 rfl rfl)
  obtain ⟨fuel0, hf0⟩ := h0
  obtain ⟨a0, ⟨A0', c0', e0, hl0, hc0⟩, w0⟩ := (Opens.slice Try.underlying36 (by kernel_rfl) 1 (by kernel_rfl) (Opens.int Try.underlying5 (by kernel_rfl))).op hf0 (fun n hn => by have z := List.all_eq_true.1 hsz _ (DataW.weights_mem_each (j := 0) (t := 36) rfl rfl n hn); simpa using z)
  simp only [Value.cells, List.cons.injEq, Value.slice.injEq, and_true] at e0
  obtain ⟨rfl, rfl, rfl⟩ := e0
  have k1 := h1
  have lt1 : ∀ x ∈ p1, x.block < W.heap.size := by obtain ⟨m, hm⟩ := k1; exact DataW.trod_lt m _ _ _ hm
  obtain ⟨A1, n1, c1, rfl⟩ := okWide_slice Try.underlying36 (hval 1 36 v1 rfl rfl)
  obtain ⟨fuel1, hf1⟩ := h1
  obtain ⟨a1, ⟨A1', c1', e1, hl1, hc1⟩, w1⟩ := (Opens.slice Try.underlying36 (by kernel_rfl) 1 (by kernel_rfl) (Opens.int Try.underlying5 (by kernel_rfl))).op hf1 (fun n hn => by have z := List.all_eq_true.1 hsz _ (DataW.weights_mem_each (j := 1) (t := 36) rfl rfl n hn); simpa using z)
  simp only [Value.cells, List.cons.injEq, Value.slice.injEq, and_true] at e1
  obtain ⟨rfl, rfl, rfl⟩ := e1
  clear hA0 hval0 hsz0 hsz
  obtain ⟨k, hk⟩ := pure_FnMeter a0 a1 w0 w1
  refine (laws_FnMeter.calls k _ _ a0 _ _ a1 true W hc0 hl0 hc1 hl1 hk rfl).mono fun e W' hh => ?_
  obtain ⟨he, bel0⟩ := hh
  have bel : Below W.heap.size W W' := bel0
  subst he
  exact ⟨_, rfl, _, _, _, [], _, [], hW', trodAll_mk1 (shut_bool Try.underlying4 _), (trodAll_cons_mk (Below.trod laidOut_FnMeter (by kernel_rfl) (of_decide_eq_true (by kernel_rfl)) k0 bel lt0) (trodAll_cons_mk (Below.trod laidOut_FnMeter (by kernel_rfl) (of_decide_eq_true (by kernel_rfl)) k1 bel lt1) trodAll_mk0)), rfl, bel.frame _, fun h => by cases h⟩
theorem over_FnMeter : Rows.fnMeterRow.holds Try.pinned (OpenSpec.ofChange Rows.fnMeterSpec) :=
  OpenClaim.holds_of_wide 6 Try.f6 rfl rfl rfl rfl rfl rfl rfl ⟨rfl, rfl, rfl, rfl, rfl⟩ rfl rfl rfl rfl rfl (by kernel_rfl) Try.func6 (by kernel_rfl)
    (of_decide_eq_true (by kernel_rfl)) (by unfold Func.isWrapper; first | (rw [if_pos (by decide +kernel)]; kernel_rfl) | (rw [if_neg (by decide +kernel)]; exact ⟨rfl, rfl⟩))
    (fun os started H enc _ => lifted_FnMeter os started H enc)
theorem proved_FnMeter : Rows.FnMeterSaid := over_FnMeter
#print axioms proved_FnMeter
end
end Go.Proofs.Ytcakbenoaclbkaa.X
