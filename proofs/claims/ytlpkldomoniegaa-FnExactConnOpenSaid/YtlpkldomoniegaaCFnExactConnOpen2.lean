/- Texts that the row of FnExactConnOpen stands on: functions of the program and of the reference, each as a Lean function with the same answers, and the plain lemmas. Conditions: none beside those that each theorem names. -/
import Derived.Test.YtlpkldomoniegaaCFnExactConnOpen1
namespace Go.Proofs.Ytlpkldomoniegaa.X
open Go.RowKit Go.Proofs.YtlpkldomoniegaaW.PrintWords Go.Proofs.YtlpkldomoniegaaW.PrintLast Go.Proofs.YtlpkldomoniegaaW.PrintMore
attribute [local go_sem] max2_int min2_int max_two min_two max_three min_three max_four min_four   -- for this text's walks alone
set_option linter.unusedVariables false
set_option linter.unusedSimpArgs false
section
/-! ### impl_segmentOK: function 84 -/
def impl_segmentOK.f (a0_0 : Int) (a0_1 : Int) (a0_2 : Int) (a0_3 : Int) (a0_4 : Int) (a0_5 : Int) (a0_6 : ByteArray) : Option (Bool) := (impl_isPort.f a0_0).bind fun t346 => (if t346 = true then ((impl_isPort.f a0_1).bind fun t347 => (if t347 = true then ((impl_isAddress.f a0_2).bind fun t348 => (if t348 = true then ((impl_isAddress.f a0_3).bind fun t349 => (if t349 = true then ((impl_within.f a0_4 0 31).bind fun t350 => (if t350 = true then ((impl_isPort.f a0_5).bind fun t351 => (if t351 = true then (some (decide ((a0_6.size : Int) ≤ 360))) else (some false))) else (some false))) else (some false))) else (some false))) else (some false))) else (some false))
set_option maxHeartbeats 8000000 in
set_option maxRecDepth 100000 in
theorem impl_segmentOK.calls (a0_0 : Int) (a0_1 : Int) (a0_2 : Int) (a0_3 : Int) (a0_4 : Int) (a0_5 : Int) (a0_6 : ByteArray) (r : Bool) (w : World) (h : impl_segmentOK.f a0_0 a0_1 a0_2 a0_3 a0_4 a0_5 a0_6 = some r) :
    Calls Try.prog 84 #[.agg #[.int .i64 a0_0, .int .i64 a0_1, .int .i64 a0_2, .int .i64 a0_3, .int .i64 a0_4, .int .i64 a0_5, .string a0_6]] w fun e w' => e = .returned (.bool r) ∧ Below w.heap.size w w' := by
  have hu53 := Try.underlying53
  have HB := Aside0.mk (Below.refl w.heap.size w)
  have H : ((impl_isPort.f a0_0).bind fun t346 => (if t346 = true then ((impl_isPort.f a0_1).bind fun t347 => (if t347 = true then ((impl_isAddress.f a0_2).bind fun t348 => (if t348 = true then ((impl_isAddress.f a0_3).bind fun t349 => (if t349 = true then ((impl_within.f a0_4 0 31).bind fun t350 => (if t350 = true then ((impl_isPort.f a0_5).bind fun t351 => (if t351 = true then (some (decide ((a0_6.size : Int) ≤ 360))) else (some false))) else (some false))) else (some false))) else (some false))) else (some false))) else (some false))) = some r := h
  clear h
  replace H := Option.bind_eq_some_iff.mp H
  obtain ⟨t346, A20, H⟩ := H
  replace H : (if t346 = true then ((impl_isPort.f a0_1).bind fun t347 => (if t347 = true then ((impl_isAddress.f a0_2).bind fun t348 => (if t348 = true then ((impl_isAddress.f a0_3).bind fun t349 => (if t349 = true then ((impl_within.f a0_4 0 31).bind fun t350 => (if t350 = true then ((impl_isPort.f a0_5).bind fun t351 => (if t351 = true then (some (decide ((a0_6.size : Int) ≤ 360))) else (some false))) else (some false))) else (some false))) else (some false))) else (some false))) else (some false)) = some r := H
  have A2 := Aside0.mk A20
  clear A20
  by_cases c3 : t346 = true
  · subst c3
    have H1 : ((impl_isPort.f a0_1).bind fun t347 => (if t347 = true then ((impl_isAddress.f a0_2).bind fun t348 => (if t348 = true then ((impl_isAddress.f a0_3).bind fun t349 => (if t349 = true then ((impl_within.f a0_4 0 31).bind fun t350 => (if t350 = true then ((impl_isPort.f a0_5).bind fun t351 => (if t351 = true then (some (decide ((a0_6.size : Int) ≤ 360))) else (some false))) else (some false))) else (some false))) else (some false))) else (some false))) = some r := by rw [if_pos rfl] at H; exact H
    clear H
    have H := H1
    clear H1
    replace H := Option.bind_eq_some_iff.mp H
    obtain ⟨t347, A40, H⟩ := H
    replace H : (if t347 = true then ((impl_isAddress.f a0_2).bind fun t348 => (if t348 = true then ((impl_isAddress.f a0_3).bind fun t349 => (if t349 = true then ((impl_within.f a0_4 0 31).bind fun t350 => (if t350 = true then ((impl_isPort.f a0_5).bind fun t351 => (if t351 = true then (some (decide ((a0_6.size : Int) ≤ 360))) else (some false))) else (some false))) else (some false))) else (some false))) else (some false)) = some r := H
    have A4 := Aside0.mk A40
    clear A40
    by_cases c5 : t347 = true
    · subst c5
      have H1 : ((impl_isAddress.f a0_2).bind fun t348 => (if t348 = true then ((impl_isAddress.f a0_3).bind fun t349 => (if t349 = true then ((impl_within.f a0_4 0 31).bind fun t350 => (if t350 = true then ((impl_isPort.f a0_5).bind fun t351 => (if t351 = true then (some (decide ((a0_6.size : Int) ≤ 360))) else (some false))) else (some false))) else (some false))) else (some false))) = some r := by rw [if_pos rfl] at H; exact H
      clear H
      have H := H1
      clear H1
      replace H := Option.bind_eq_some_iff.mp H
      obtain ⟨t348, A60, H⟩ := H
      replace H : (if t348 = true then ((impl_isAddress.f a0_3).bind fun t349 => (if t349 = true then ((impl_within.f a0_4 0 31).bind fun t350 => (if t350 = true then ((impl_isPort.f a0_5).bind fun t351 => (if t351 = true then (some (decide ((a0_6.size : Int) ≤ 360))) else (some false))) else (some false))) else (some false))) else (some false)) = some r := H
      have A6 := Aside0.mk A60
      clear A60
      by_cases c7 : t348 = true
      · subst c7
        have H1 : ((impl_isAddress.f a0_3).bind fun t349 => (if t349 = true then ((impl_within.f a0_4 0 31).bind fun t350 => (if t350 = true then ((impl_isPort.f a0_5).bind fun t351 => (if t351 = true then (some (decide ((a0_6.size : Int) ≤ 360))) else (some false))) else (some false))) else (some false))) = some r := by rw [if_pos rfl] at H; exact H
        clear H
        have H := H1
        clear H1
        replace H := Option.bind_eq_some_iff.mp H
        obtain ⟨t349, A80, H⟩ := H
        replace H : (if t349 = true then ((impl_within.f a0_4 0 31).bind fun t350 => (if t350 = true then ((impl_isPort.f a0_5).bind fun t351 => (if t351 = true then (some (decide ((a0_6.size : Int) ≤ 360))) else (some false))) else (some false))) else (some false)) = some r := H
        have A8 := Aside0.mk A80
        clear A80
        by_cases c9 : t349 = true
        · subst c9
          have H1 : ((impl_within.f a0_4 0 31).bind fun t350 => (if t350 = true then ((impl_isPort.f a0_5).bind fun t351 => (if t351 = true then (some (decide ((a0_6.size : Int) ≤ 360))) else (some false))) else (some false))) = some r := by rw [if_pos rfl] at H; exact H
          clear H
          have H := H1
          clear H1
          replace H := Option.bind_eq_some_iff.mp H
          obtain ⟨t350, A100, H⟩ := H
          replace H : (if t350 = true then ((impl_isPort.f a0_5).bind fun t351 => (if t351 = true then (some (decide ((a0_6.size : Int) ≤ 360))) else (some false))) else (some false)) = some r := H
          have A10 := Aside0.mk A100
          clear A100
          by_cases c11 : t350 = true
          · subst c11
            have H1 : ((impl_isPort.f a0_5).bind fun t351 => (if t351 = true then (some (decide ((a0_6.size : Int) ≤ 360))) else (some false))) = some r := by rw [if_pos rfl] at H; exact H
            clear H
            have H := H1
            clear H1
            replace H := Option.bind_eq_some_iff.mp H
            obtain ⟨t351, A120, H⟩ := H
            replace H : (if t351 = true then (some (decide ((a0_6.size : Int) ≤ 360))) else (some false)) = some r := H
            have A12 := Aside0.mk A120
            clear A120
            by_cases c13 : t351 = true
            · subst c13
              have H1 : (some (decide ((a0_6.size : Int) ≤ 360))) = some r := by rw [if_pos rfl] at H; exact H
              clear H
              have H := H1
              clear H1
              obtain rfl := Option.some.inj H
              go_enter Try.func84, Try.ntmps84
              go_wp2_with (first | ((with_reducible refine gate_dst (N := 1) rfl ?_); (try (refine gate_guard (by rfl) ?_; dsimp only)); refine box_event ?hg (N := 1) ?hd (cs := #[.int .i64 a0_0, .int .i64 a0_1, .int .i64 a0_2, .int .i64 a0_3, .int .i64 a0_4, .int .i64 a0_5, .string a0_6]) (t := 53) ?hr ?_; (case hd => rfl); (case hg => rfl); (case hr => first | (go_simp; done) | (go_simp; rfl)); intro gb345 hg w14 hbox hb; have n0_ := Aside0.mk (below_step (by repeat (first | (with_reducible first | exact HB.out | apply below_alloc | apply pw_below_drewN | apply below_drew1) | exact HB.out)) hb); have n1_ := Aside0.mk (hbox); have n2_ := Aside0.mk ((by rw [hg]; exact (below_size (by repeat (first | (with_reducible first | exact HB.out | apply below_alloc | apply pw_below_drewN | apply below_drew1) | exact HB.out))) : w.heap.size ≤ gb345)); have n3_ := Aside0.mk ((by rw [hg]; exact (below_size (by repeat (first | (with_reducible first | exact HB.out | apply below_alloc | apply pw_below_drewN | apply below_drew1) | exact HB.out))) : w.heap.size ≤ gb345)); clear HB; have HB := n0_; have BK345 := n1_; have GW345 := n2_; have GE345 := n3_; clear n0_ n1_ n2_ n3_; clear hb hbox hg; have hcz15_0 : w14.cell? ⟨gb345, 0, none⟩ = some (.int .i64 a0_0) := (blk_cell BK345.out 0).trans rfl; have hcz15_1 : w14.cell? ⟨gb345, 1, none⟩ = some (.int .i64 a0_1) := (blk_cell BK345.out 1).trans rfl; have hcz15_2 : w14.cell? ⟨gb345, 2, none⟩ = some (.int .i64 a0_2) := (blk_cell BK345.out 2).trans rfl; have hcz15_3 : w14.cell? ⟨gb345, 3, none⟩ = some (.int .i64 a0_3) := (blk_cell BK345.out 3).trans rfl; have hcz15_4 : w14.cell? ⟨gb345, 4, none⟩ = some (.int .i64 a0_4) := (blk_cell BK345.out 4).trans rfl; have hcz15_5 : w14.cell? ⟨gb345, 5, none⟩ = some (.int .i64 a0_5) := (blk_cell BK345.out 5).trans rfl; have hcz15_6 : w14.cell? ⟨gb345, 6, none⟩ = some (.string a0_6) := (blk_cell BK345.out 6).trans rfl; have hfz15_0 := blk_frozen BK345.out 0; have hfz15_1 := blk_frozen BK345.out 1; have hfz15_2 := blk_frozen BK345.out 2; have hfz15_3 := blk_frozen BK345.out 3; have hfz15_4 := blk_frozen BK345.out 4; have hfz15_5 := blk_frozen BK345.out 5; have hfz15_6 := blk_frozen BK345.out 6) | ((with_reducible refine gate_callee (f := 73) rfl ?_); refine goesL_ (some 5) rfl rfl Try.func73 (by kernel_rfl) rfl #[.int .i64 a0_0] rfl (by (try simp only [List.map_toArray, List.map_cons, List.map_nil]); first | done | rfl | (simp only [List.length_drop, List.length_take]; rfl)) ?_; (with_reducible refine (impl_isPort.calls a0_0 true _ A2.out).mono ?_); rintro e w' ⟨rfl, ⟨nd, rfl⟩⟩; refine ⟨_, rfl, ?_⟩) | (go_at_call 73; (with_reducible refine (impl_isPort.calls a0_1 true _ A4.out).mono ?_); rintro e w' ⟨rfl, ⟨nd, rfl⟩⟩) | (go_at_call 61; (with_reducible refine (impl_isAddress.calls a0_2 true _ A6.out).mono ?_); rintro e w' ⟨rfl, ⟨nd, rfl⟩⟩) | (go_at_call 61; (with_reducible refine (impl_isAddress.calls a0_3 true _ A8.out).mono ?_); rintro e w' ⟨rfl, ⟨nd, rfl⟩⟩) | (go_at_call 62; (with_reducible refine (impl_within.calls a0_4 0 31 true _ A10.out).mono ?_); rintro e w' ⟨rfl, ⟨nd, rfl⟩⟩) | (go_at_call 73; (with_reducible refine (impl_isPort.calls a0_5 true _ A12.out).mono ?_); rintro e w' ⟨rfl, ⟨nd, rfl⟩⟩))
              go_ret
              exact ⟨by first | rfl | (simp [errW_none, errW_some] <;> rfl) | (simp [*, errW_none, errW_some] <;> rfl), by repeat (first | (with_reducible first | exact HB.out | apply below_alloc | apply pw_below_drewN | apply below_drew1 | refine below_set ?_ GE345.out) | exact HB.out)⟩
            · replace c13 := Bool.eq_false_iff.mpr c13
              subst c13
              have H1 : (some false) = some r := by rw [if_neg (show ¬ (false = true) by decide)] at H; exact H
              clear H
              have H := H1
              clear H1
              obtain rfl := Option.some.inj H
              go_enter Try.func84, Try.ntmps84
              go_wp2_with (first | ((with_reducible refine gate_dst (N := 1) rfl ?_); (try (refine gate_guard (by rfl) ?_; dsimp only)); refine box_event ?hg (N := 1) ?hd (cs := #[.int .i64 a0_0, .int .i64 a0_1, .int .i64 a0_2, .int .i64 a0_3, .int .i64 a0_4, .int .i64 a0_5, .string a0_6]) (t := 53) ?hr ?_; (case hd => rfl); (case hg => rfl); (case hr => first | (go_simp; done) | (go_simp; rfl)); intro gb345 hg w16 hbox hb; have n0_ := Aside0.mk (below_step (by repeat (first | (with_reducible first | exact HB.out | apply below_alloc | apply pw_below_drewN | apply below_drew1) | exact HB.out)) hb); have n1_ := Aside0.mk (hbox); have n2_ := Aside0.mk ((by rw [hg]; exact (below_size (by repeat (first | (with_reducible first | exact HB.out | apply below_alloc | apply pw_below_drewN | apply below_drew1) | exact HB.out))) : w.heap.size ≤ gb345)); have n3_ := Aside0.mk ((by rw [hg]; exact (below_size (by repeat (first | (with_reducible first | exact HB.out | apply below_alloc | apply pw_below_drewN | apply below_drew1) | exact HB.out))) : w.heap.size ≤ gb345)); clear HB; have HB := n0_; have BK345 := n1_; have GW345 := n2_; have GE345 := n3_; clear n0_ n1_ n2_ n3_; clear hb hbox hg; have hcz17_0 : w16.cell? ⟨gb345, 0, none⟩ = some (.int .i64 a0_0) := (blk_cell BK345.out 0).trans rfl; have hcz17_1 : w16.cell? ⟨gb345, 1, none⟩ = some (.int .i64 a0_1) := (blk_cell BK345.out 1).trans rfl; have hcz17_2 : w16.cell? ⟨gb345, 2, none⟩ = some (.int .i64 a0_2) := (blk_cell BK345.out 2).trans rfl; have hcz17_3 : w16.cell? ⟨gb345, 3, none⟩ = some (.int .i64 a0_3) := (blk_cell BK345.out 3).trans rfl; have hcz17_4 : w16.cell? ⟨gb345, 4, none⟩ = some (.int .i64 a0_4) := (blk_cell BK345.out 4).trans rfl; have hcz17_5 : w16.cell? ⟨gb345, 5, none⟩ = some (.int .i64 a0_5) := (blk_cell BK345.out 5).trans rfl; have hcz17_6 : w16.cell? ⟨gb345, 6, none⟩ = some (.string a0_6) := (blk_cell BK345.out 6).trans rfl; have hfz17_0 := blk_frozen BK345.out 0; have hfz17_1 := blk_frozen BK345.out 1; have hfz17_2 := blk_frozen BK345.out 2; have hfz17_3 := blk_frozen BK345.out 3; have hfz17_4 := blk_frozen BK345.out 4; have hfz17_5 := blk_frozen BK345.out 5; have hfz17_6 := blk_frozen BK345.out 6) | ((with_reducible refine gate_callee (f := 73) rfl ?_); refine goesL_ (some 5) rfl rfl Try.func73 (by kernel_rfl) rfl #[.int .i64 a0_0] rfl (by (try simp only [List.map_toArray, List.map_cons, List.map_nil]); first | done | rfl | (simp only [List.length_drop, List.length_take]; rfl)) ?_; (with_reducible refine (impl_isPort.calls a0_0 true _ A2.out).mono ?_); rintro e w' ⟨rfl, ⟨nd, rfl⟩⟩; refine ⟨_, rfl, ?_⟩) | (go_at_call 73; (with_reducible refine (impl_isPort.calls a0_1 true _ A4.out).mono ?_); rintro e w' ⟨rfl, ⟨nd, rfl⟩⟩) | (go_at_call 61; (with_reducible refine (impl_isAddress.calls a0_2 true _ A6.out).mono ?_); rintro e w' ⟨rfl, ⟨nd, rfl⟩⟩) | (go_at_call 61; (with_reducible refine (impl_isAddress.calls a0_3 true _ A8.out).mono ?_); rintro e w' ⟨rfl, ⟨nd, rfl⟩⟩) | (go_at_call 62; (with_reducible refine (impl_within.calls a0_4 0 31 true _ A10.out).mono ?_); rintro e w' ⟨rfl, ⟨nd, rfl⟩⟩) | (go_at_call 73; (with_reducible refine (impl_isPort.calls a0_5 false _ A12.out).mono ?_); rintro e w' ⟨rfl, ⟨nd, rfl⟩⟩))
              go_ret
              exact ⟨by first | rfl | (simp [errW_none, errW_some] <;> rfl) | (simp [*, errW_none, errW_some] <;> rfl), by repeat (first | (with_reducible first | exact HB.out | apply below_alloc | apply pw_below_drewN | apply below_drew1 | refine below_set ?_ GE345.out) | exact HB.out)⟩
          · replace c11 := Bool.eq_false_iff.mpr c11
            subst c11
            have H1 : (some false) = some r := by rw [if_neg (show ¬ (false = true) by decide)] at H; exact H
            clear H
            have H := H1
            clear H1
            obtain rfl := Option.some.inj H
            go_enter Try.func84, Try.ntmps84
            go_wp2_with (first | ((with_reducible refine gate_dst (N := 1) rfl ?_); (try (refine gate_guard (by rfl) ?_; dsimp only)); refine box_event ?hg (N := 1) ?hd (cs := #[.int .i64 a0_0, .int .i64 a0_1, .int .i64 a0_2, .int .i64 a0_3, .int .i64 a0_4, .int .i64 a0_5, .string a0_6]) (t := 53) ?hr ?_; (case hd => rfl); (case hg => rfl); (case hr => first | (go_simp; done) | (go_simp; rfl)); intro gb345 hg w18 hbox hb; have n0_ := Aside0.mk (below_step (by repeat (first | (with_reducible first | exact HB.out | apply below_alloc | apply pw_below_drewN | apply below_drew1) | exact HB.out)) hb); have n1_ := Aside0.mk (hbox); have n2_ := Aside0.mk ((by rw [hg]; exact (below_size (by repeat (first | (with_reducible first | exact HB.out | apply below_alloc | apply pw_below_drewN | apply below_drew1) | exact HB.out))) : w.heap.size ≤ gb345)); have n3_ := Aside0.mk ((by rw [hg]; exact (below_size (by repeat (first | (with_reducible first | exact HB.out | apply below_alloc | apply pw_below_drewN | apply below_drew1) | exact HB.out))) : w.heap.size ≤ gb345)); clear HB; have HB := n0_; have BK345 := n1_; have GW345 := n2_; have GE345 := n3_; clear n0_ n1_ n2_ n3_; clear hb hbox hg; have hcz19_0 : w18.cell? ⟨gb345, 0, none⟩ = some (.int .i64 a0_0) := (blk_cell BK345.out 0).trans rfl; have hcz19_1 : w18.cell? ⟨gb345, 1, none⟩ = some (.int .i64 a0_1) := (blk_cell BK345.out 1).trans rfl; have hcz19_2 : w18.cell? ⟨gb345, 2, none⟩ = some (.int .i64 a0_2) := (blk_cell BK345.out 2).trans rfl; have hcz19_3 : w18.cell? ⟨gb345, 3, none⟩ = some (.int .i64 a0_3) := (blk_cell BK345.out 3).trans rfl; have hcz19_4 : w18.cell? ⟨gb345, 4, none⟩ = some (.int .i64 a0_4) := (blk_cell BK345.out 4).trans rfl; have hcz19_5 : w18.cell? ⟨gb345, 5, none⟩ = some (.int .i64 a0_5) := (blk_cell BK345.out 5).trans rfl; have hcz19_6 : w18.cell? ⟨gb345, 6, none⟩ = some (.string a0_6) := (blk_cell BK345.out 6).trans rfl; have hfz19_0 := blk_frozen BK345.out 0; have hfz19_1 := blk_frozen BK345.out 1; have hfz19_2 := blk_frozen BK345.out 2; have hfz19_3 := blk_frozen BK345.out 3; have hfz19_4 := blk_frozen BK345.out 4; have hfz19_5 := blk_frozen BK345.out 5; have hfz19_6 := blk_frozen BK345.out 6) | ((with_reducible refine gate_callee (f := 73) rfl ?_); refine goesL_ (some 5) rfl rfl Try.func73 (by kernel_rfl) rfl #[.int .i64 a0_0] rfl (by (try simp only [List.map_toArray, List.map_cons, List.map_nil]); first | done | rfl | (simp only [List.length_drop, List.length_take]; rfl)) ?_; (with_reducible refine (impl_isPort.calls a0_0 true _ A2.out).mono ?_); rintro e w' ⟨rfl, ⟨nd, rfl⟩⟩; refine ⟨_, rfl, ?_⟩) | (go_at_call 73; (with_reducible refine (impl_isPort.calls a0_1 true _ A4.out).mono ?_); rintro e w' ⟨rfl, ⟨nd, rfl⟩⟩) | (go_at_call 61; (with_reducible refine (impl_isAddress.calls a0_2 true _ A6.out).mono ?_); rintro e w' ⟨rfl, ⟨nd, rfl⟩⟩) | (go_at_call 61; (with_reducible refine (impl_isAddress.calls a0_3 true _ A8.out).mono ?_); rintro e w' ⟨rfl, ⟨nd, rfl⟩⟩) | (go_at_call 62; (with_reducible refine (impl_within.calls a0_4 0 31 false _ A10.out).mono ?_); rintro e w' ⟨rfl, ⟨nd, rfl⟩⟩))
            go_ret
            exact ⟨by first | rfl | (simp [errW_none, errW_some] <;> rfl) | (simp [*, errW_none, errW_some] <;> rfl), by repeat (first | (with_reducible first | exact HB.out | apply below_alloc | apply pw_below_drewN | apply below_drew1 | refine below_set ?_ GE345.out) | exact HB.out)⟩
        · replace c9 := Bool.eq_false_iff.mpr c9
          subst c9
          have H1 : (some false) = some r := by rw [if_neg (show ¬ (false = true) by decide)] at H; exact H
          clear H
          have H := H1
          clear H1
          obtain rfl := Option.some.inj H
          go_enter Try.func84, Try.ntmps84
          go_wp2_with (first | ((with_reducible refine gate_dst (N := 1) rfl ?_); (try (refine gate_guard (by rfl) ?_; dsimp only)); refine box_event ?hg (N := 1) ?hd (cs := #[.int .i64 a0_0, .int .i64 a0_1, .int .i64 a0_2, .int .i64 a0_3, .int .i64 a0_4, .int .i64 a0_5, .string a0_6]) (t := 53) ?hr ?_; (case hd => rfl); (case hg => rfl); (case hr => first | (go_simp; done) | (go_simp; rfl)); intro gb345 hg w20 hbox hb; have n0_ := Aside0.mk (below_step (by repeat (first | (with_reducible first | exact HB.out | apply below_alloc | apply pw_below_drewN | apply below_drew1) | exact HB.out)) hb); have n1_ := Aside0.mk (hbox); have n2_ := Aside0.mk ((by rw [hg]; exact (below_size (by repeat (first | (with_reducible first | exact HB.out | apply below_alloc | apply pw_below_drewN | apply below_drew1) | exact HB.out))) : w.heap.size ≤ gb345)); have n3_ := Aside0.mk ((by rw [hg]; exact (below_size (by repeat (first | (with_reducible first | exact HB.out | apply below_alloc | apply pw_below_drewN | apply below_drew1) | exact HB.out))) : w.heap.size ≤ gb345)); clear HB; have HB := n0_; have BK345 := n1_; have GW345 := n2_; have GE345 := n3_; clear n0_ n1_ n2_ n3_; clear hb hbox hg; have hcz21_0 : w20.cell? ⟨gb345, 0, none⟩ = some (.int .i64 a0_0) := (blk_cell BK345.out 0).trans rfl; have hcz21_1 : w20.cell? ⟨gb345, 1, none⟩ = some (.int .i64 a0_1) := (blk_cell BK345.out 1).trans rfl; have hcz21_2 : w20.cell? ⟨gb345, 2, none⟩ = some (.int .i64 a0_2) := (blk_cell BK345.out 2).trans rfl; have hcz21_3 : w20.cell? ⟨gb345, 3, none⟩ = some (.int .i64 a0_3) := (blk_cell BK345.out 3).trans rfl; have hcz21_4 : w20.cell? ⟨gb345, 4, none⟩ = some (.int .i64 a0_4) := (blk_cell BK345.out 4).trans rfl; have hcz21_5 : w20.cell? ⟨gb345, 5, none⟩ = some (.int .i64 a0_5) := (blk_cell BK345.out 5).trans rfl; have hcz21_6 : w20.cell? ⟨gb345, 6, none⟩ = some (.string a0_6) := (blk_cell BK345.out 6).trans rfl; have hfz21_0 := blk_frozen BK345.out 0; have hfz21_1 := blk_frozen BK345.out 1; have hfz21_2 := blk_frozen BK345.out 2; have hfz21_3 := blk_frozen BK345.out 3; have hfz21_4 := blk_frozen BK345.out 4; have hfz21_5 := blk_frozen BK345.out 5; have hfz21_6 := blk_frozen BK345.out 6) | ((with_reducible refine gate_callee (f := 73) rfl ?_); refine goesL_ (some 5) rfl rfl Try.func73 (by kernel_rfl) rfl #[.int .i64 a0_0] rfl (by (try simp only [List.map_toArray, List.map_cons, List.map_nil]); first | done | rfl | (simp only [List.length_drop, List.length_take]; rfl)) ?_; (with_reducible refine (impl_isPort.calls a0_0 true _ A2.out).mono ?_); rintro e w' ⟨rfl, ⟨nd, rfl⟩⟩; refine ⟨_, rfl, ?_⟩) | (go_at_call 73; (with_reducible refine (impl_isPort.calls a0_1 true _ A4.out).mono ?_); rintro e w' ⟨rfl, ⟨nd, rfl⟩⟩) | (go_at_call 61; (with_reducible refine (impl_isAddress.calls a0_2 true _ A6.out).mono ?_); rintro e w' ⟨rfl, ⟨nd, rfl⟩⟩) | (go_at_call 61; (with_reducible refine (impl_isAddress.calls a0_3 false _ A8.out).mono ?_); rintro e w' ⟨rfl, ⟨nd, rfl⟩⟩))
          go_ret
          exact ⟨by first | rfl | (simp [errW_none, errW_some] <;> rfl) | (simp [*, errW_none, errW_some] <;> rfl), by repeat (first | (with_reducible first | exact HB.out | apply below_alloc | apply pw_below_drewN | apply below_drew1 | refine below_set ?_ GE345.out) | exact HB.out)⟩
      · replace c7 := Bool.eq_false_iff.mpr c7
        subst c7
        have H1 : (some false) = some r := by rw [if_neg (show ¬ (false = true) by decide)] at H; exact H
        clear H
        have H := H1
        clear H1
        obtain rfl := Option.some.inj H
        go_enter Try.func84, Try.ntmps84
        go_wp2_with (first | ((with_reducible refine gate_dst (N := 1) rfl ?_); (try (refine gate_guard (by rfl) ?_; dsimp only)); refine box_event ?hg (N := 1) ?hd (cs := #[.int .i64 a0_0, .int .i64 a0_1, .int .i64 a0_2, .int .i64 a0_3, .int .i64 a0_4, .int .i64 a0_5, .string a0_6]) (t := 53) ?hr ?_; (case hd => rfl); (case hg => rfl); (case hr => first | (go_simp; done) | (go_simp; rfl)); intro gb345 hg w22 hbox hb; have n0_ := Aside0.mk (below_step (by repeat (first | (with_reducible first | exact HB.out | apply below_alloc | apply pw_below_drewN | apply below_drew1) | exact HB.out)) hb); have n1_ := Aside0.mk (hbox); have n2_ := Aside0.mk ((by rw [hg]; exact (below_size (by repeat (first | (with_reducible first | exact HB.out | apply below_alloc | apply pw_below_drewN | apply below_drew1) | exact HB.out))) : w.heap.size ≤ gb345)); have n3_ := Aside0.mk ((by rw [hg]; exact (below_size (by repeat (first | (with_reducible first | exact HB.out | apply below_alloc | apply pw_below_drewN | apply below_drew1) | exact HB.out))) : w.heap.size ≤ gb345)); clear HB; have HB := n0_; have BK345 := n1_; have GW345 := n2_; have GE345 := n3_; clear n0_ n1_ n2_ n3_; clear hb hbox hg; have hcz23_0 : w22.cell? ⟨gb345, 0, none⟩ = some (.int .i64 a0_0) := (blk_cell BK345.out 0).trans rfl; have hcz23_1 : w22.cell? ⟨gb345, 1, none⟩ = some (.int .i64 a0_1) := (blk_cell BK345.out 1).trans rfl; have hcz23_2 : w22.cell? ⟨gb345, 2, none⟩ = some (.int .i64 a0_2) := (blk_cell BK345.out 2).trans rfl; have hcz23_3 : w22.cell? ⟨gb345, 3, none⟩ = some (.int .i64 a0_3) := (blk_cell BK345.out 3).trans rfl; have hcz23_4 : w22.cell? ⟨gb345, 4, none⟩ = some (.int .i64 a0_4) := (blk_cell BK345.out 4).trans rfl; have hcz23_5 : w22.cell? ⟨gb345, 5, none⟩ = some (.int .i64 a0_5) := (blk_cell BK345.out 5).trans rfl; have hcz23_6 : w22.cell? ⟨gb345, 6, none⟩ = some (.string a0_6) := (blk_cell BK345.out 6).trans rfl; have hfz23_0 := blk_frozen BK345.out 0; have hfz23_1 := blk_frozen BK345.out 1; have hfz23_2 := blk_frozen BK345.out 2; have hfz23_3 := blk_frozen BK345.out 3; have hfz23_4 := blk_frozen BK345.out 4; have hfz23_5 := blk_frozen BK345.out 5; have hfz23_6 := blk_frozen BK345.out 6) | ((with_reducible refine gate_callee (f := 73) rfl ?_); refine goesL_ (some 5) rfl rfl Try.func73 (by kernel_rfl) rfl #[.int .i64 a0_0] rfl (by (try simp only [List.map_toArray, List.map_cons, List.map_nil]); first | done | rfl | (simp only [List.length_drop, List.length_take]; rfl)) ?_; (with_reducible refine (impl_isPort.calls a0_0 true _ A2.out).mono ?_); rintro e w' ⟨rfl, ⟨nd, rfl⟩⟩; refine ⟨_, rfl, ?_⟩) | (go_at_call 73; (with_reducible refine (impl_isPort.calls a0_1 true _ A4.out).mono ?_); rintro e w' ⟨rfl, ⟨nd, rfl⟩⟩) | (go_at_call 61; (with_reducible refine (impl_isAddress.calls a0_2 false _ A6.out).mono ?_); rintro e w' ⟨rfl, ⟨nd, rfl⟩⟩))
        go_ret
        exact ⟨by first | rfl | (simp [errW_none, errW_some] <;> rfl) | (simp [*, errW_none, errW_some] <;> rfl), by repeat (first | (with_reducible first | exact HB.out | apply below_alloc | apply pw_below_drewN | apply below_drew1 | refine below_set ?_ GE345.out) | exact HB.out)⟩
    · replace c5 := Bool.eq_false_iff.mpr c5
      subst c5
      have H1 : (some false) = some r := by rw [if_neg (show ¬ (false = true) by decide)] at H; exact H
      clear H
      have H := H1
      clear H1
      obtain rfl := Option.some.inj H
      go_enter Try.func84, Try.ntmps84
      go_wp2_with (first | ((with_reducible refine gate_dst (N := 1) rfl ?_); (try (refine gate_guard (by rfl) ?_; dsimp only)); refine box_event ?hg (N := 1) ?hd (cs := #[.int .i64 a0_0, .int .i64 a0_1, .int .i64 a0_2, .int .i64 a0_3, .int .i64 a0_4, .int .i64 a0_5, .string a0_6]) (t := 53) ?hr ?_; (case hd => rfl); (case hg => rfl); (case hr => first | (go_simp; done) | (go_simp; rfl)); intro gb345 hg w24 hbox hb; have n0_ := Aside0.mk (below_step (by repeat (first | (with_reducible first | exact HB.out | apply below_alloc | apply pw_below_drewN | apply below_drew1) | exact HB.out)) hb); have n1_ := Aside0.mk (hbox); have n2_ := Aside0.mk ((by rw [hg]; exact (below_size (by repeat (first | (with_reducible first | exact HB.out | apply below_alloc | apply pw_below_drewN | apply below_drew1) | exact HB.out))) : w.heap.size ≤ gb345)); have n3_ := Aside0.mk ((by rw [hg]; exact (below_size (by repeat (first | (with_reducible first | exact HB.out | apply below_alloc | apply pw_below_drewN | apply below_drew1) | exact HB.out))) : w.heap.size ≤ gb345)); clear HB; have HB := n0_; have BK345 := n1_; have GW345 := n2_; have GE345 := n3_; clear n0_ n1_ n2_ n3_; clear hb hbox hg; have hcz25_0 : w24.cell? ⟨gb345, 0, none⟩ = some (.int .i64 a0_0) := (blk_cell BK345.out 0).trans rfl; have hcz25_1 : w24.cell? ⟨gb345, 1, none⟩ = some (.int .i64 a0_1) := (blk_cell BK345.out 1).trans rfl; have hcz25_2 : w24.cell? ⟨gb345, 2, none⟩ = some (.int .i64 a0_2) := (blk_cell BK345.out 2).trans rfl; have hcz25_3 : w24.cell? ⟨gb345, 3, none⟩ = some (.int .i64 a0_3) := (blk_cell BK345.out 3).trans rfl; have hcz25_4 : w24.cell? ⟨gb345, 4, none⟩ = some (.int .i64 a0_4) := (blk_cell BK345.out 4).trans rfl; have hcz25_5 : w24.cell? ⟨gb345, 5, none⟩ = some (.int .i64 a0_5) := (blk_cell BK345.out 5).trans rfl; have hcz25_6 : w24.cell? ⟨gb345, 6, none⟩ = some (.string a0_6) := (blk_cell BK345.out 6).trans rfl; have hfz25_0 := blk_frozen BK345.out 0; have hfz25_1 := blk_frozen BK345.out 1; have hfz25_2 := blk_frozen BK345.out 2; have hfz25_3 := blk_frozen BK345.out 3; have hfz25_4 := blk_frozen BK345.out 4; have hfz25_5 := blk_frozen BK345.out 5; have hfz25_6 := blk_frozen BK345.out 6) | ((with_reducible refine gate_callee (f := 73) rfl ?_); refine goesL_ (some 5) rfl rfl Try.func73 (by kernel_rfl) rfl #[.int .i64 a0_0] rfl (by (try simp only [List.map_toArray, List.map_cons, List.map_nil]); first | done | rfl | (simp only [List.length_drop, List.length_take]; rfl)) ?_; (with_reducible refine (impl_isPort.calls a0_0 true _ A2.out).mono ?_); rintro e w' ⟨rfl, ⟨nd, rfl⟩⟩; refine ⟨_, rfl, ?_⟩) | (go_at_call 73; (with_reducible refine (impl_isPort.calls a0_1 false _ A4.out).mono ?_); rintro e w' ⟨rfl, ⟨nd, rfl⟩⟩))
      go_ret
      exact ⟨by first | rfl | (simp [errW_none, errW_some] <;> rfl) | (simp [*, errW_none, errW_some] <;> rfl), by repeat (first | (with_reducible first | exact HB.out | apply below_alloc | apply pw_below_drewN | apply below_drew1 | refine below_set ?_ GE345.out) | exact HB.out)⟩
  · replace c3 := Bool.eq_false_iff.mpr c3
    subst c3
    have H1 : (some false) = some r := by rw [if_neg (show ¬ (false = true) by decide)] at H; exact H
    clear H
    have H := H1
    clear H1
    obtain rfl := Option.some.inj H
    go_enter Try.func84, Try.ntmps84
    go_wp2_with (first | ((with_reducible refine gate_dst (N := 1) rfl ?_); (try (refine gate_guard (by rfl) ?_; dsimp only)); refine box_event ?hg (N := 1) ?hd (cs := #[.int .i64 a0_0, .int .i64 a0_1, .int .i64 a0_2, .int .i64 a0_3, .int .i64 a0_4, .int .i64 a0_5, .string a0_6]) (t := 53) ?hr ?_; (case hd => rfl); (case hg => rfl); (case hr => first | (go_simp; done) | (go_simp; rfl)); intro gb345 hg w26 hbox hb; have n0_ := Aside0.mk (below_step (by repeat (first | (with_reducible first | exact HB.out | apply below_alloc | apply pw_below_drewN | apply below_drew1) | exact HB.out)) hb); have n1_ := Aside0.mk (hbox); have n2_ := Aside0.mk ((by rw [hg]; exact (below_size (by repeat (first | (with_reducible first | exact HB.out | apply below_alloc | apply pw_below_drewN | apply below_drew1) | exact HB.out))) : w.heap.size ≤ gb345)); have n3_ := Aside0.mk ((by rw [hg]; exact (below_size (by repeat (first | (with_reducible first | exact HB.out | apply below_alloc | apply pw_below_drewN | apply below_drew1) | exact HB.out))) : w.heap.size ≤ gb345)); clear HB; have HB := n0_; have BK345 := n1_; have GW345 := n2_; have GE345 := n3_; clear n0_ n1_ n2_ n3_; clear hb hbox hg; have hcz27_0 : w26.cell? ⟨gb345, 0, none⟩ = some (.int .i64 a0_0) := (blk_cell BK345.out 0).trans rfl; have hcz27_1 : w26.cell? ⟨gb345, 1, none⟩ = some (.int .i64 a0_1) := (blk_cell BK345.out 1).trans rfl; have hcz27_2 : w26.cell? ⟨gb345, 2, none⟩ = some (.int .i64 a0_2) := (blk_cell BK345.out 2).trans rfl; have hcz27_3 : w26.cell? ⟨gb345, 3, none⟩ = some (.int .i64 a0_3) := (blk_cell BK345.out 3).trans rfl; have hcz27_4 : w26.cell? ⟨gb345, 4, none⟩ = some (.int .i64 a0_4) := (blk_cell BK345.out 4).trans rfl; have hcz27_5 : w26.cell? ⟨gb345, 5, none⟩ = some (.int .i64 a0_5) := (blk_cell BK345.out 5).trans rfl; have hcz27_6 : w26.cell? ⟨gb345, 6, none⟩ = some (.string a0_6) := (blk_cell BK345.out 6).trans rfl; have hfz27_0 := blk_frozen BK345.out 0; have hfz27_1 := blk_frozen BK345.out 1; have hfz27_2 := blk_frozen BK345.out 2; have hfz27_3 := blk_frozen BK345.out 3; have hfz27_4 := blk_frozen BK345.out 4; have hfz27_5 := blk_frozen BK345.out 5; have hfz27_6 := blk_frozen BK345.out 6) | ((with_reducible refine gate_callee (f := 73) rfl ?_); refine goesL_ (some 5) rfl rfl Try.func73 (by kernel_rfl) rfl #[.int .i64 a0_0] rfl (by (try simp only [List.map_toArray, List.map_cons, List.map_nil]); first | done | rfl | (simp only [List.length_drop, List.length_take]; rfl)) ?_; (with_reducible refine (impl_isPort.calls a0_0 false _ A2.out).mono ?_); rintro e w' ⟨rfl, ⟨nd, rfl⟩⟩; refine ⟨_, rfl, ?_⟩))
    go_ret
    exact ⟨by first | rfl | (simp [errW_none, errW_some] <;> rfl) | (simp [*, errW_none, errW_some] <;> rfl), by repeat (first | (with_reducible first | exact HB.out | apply below_alloc | apply pw_below_drewN | apply below_drew1 | refine below_set ?_ GE345.out) | exact HB.out)⟩
end
section
/-! ### impl_opens: function 85 -/
def impl_opens.f (a0_0 : Int) (a0_1 : Int) (a0_2 : Int) (a0_3 : Int) (a0_4 : Int) (a0_5 : Int) (a0_6 : ByteArray) : Option (Bool) := some ((Go.bits .and .i64 a0_4 23) == 2)
set_option maxHeartbeats 8000000 in
set_option maxRecDepth 100000 in
theorem impl_opens.calls (a0_0 : Int) (a0_1 : Int) (a0_2 : Int) (a0_3 : Int) (a0_4 : Int) (a0_5 : Int) (a0_6 : ByteArray) (r : Bool) (w : World) (h : impl_opens.f a0_0 a0_1 a0_2 a0_3 a0_4 a0_5 a0_6 = some r) :
    Calls Try.prog 85 #[.agg #[.int .i64 a0_0, .int .i64 a0_1, .int .i64 a0_2, .int .i64 a0_3, .int .i64 a0_4, .int .i64 a0_5, .string a0_6]] w fun e w' => e = .returned (.bool r) ∧ Below w.heap.size w w' := by
  have hu53 := Try.underlying53
  have HB := Aside0.mk (Below.refl w.heap.size w)
  have H : (some ((Go.bits .and .i64 a0_4 23) == 2)) = some r := h
  clear h
  obtain rfl := Option.some.inj H
  go_enter Try.func85, Try.ntmps85
  go_wp2_with (first | ((with_reducible refine gate_dst (N := 1) rfl ?_); refine box_event ?hg (N := 1) ?hd (cs := #[.int .i64 a0_0, .int .i64 a0_1, .int .i64 a0_2, .int .i64 a0_3, .int .i64 a0_4, .int .i64 a0_5, .string a0_6]) (t := 53) ?hr ?_; (case hd => rfl); (case hg => rfl); (case hr => first | (go_simp; done) | (go_simp; rfl)); intro gb352 hg w2 hbox hb; have n0_ := Aside0.mk (below_step (by repeat (first | (with_reducible first | exact HB.out | apply below_alloc | apply pw_below_drewN | apply below_drew1) | exact HB.out)) hb); have n1_ := Aside0.mk (hbox); have n2_ := Aside0.mk ((by rw [hg]; exact (below_size (by repeat (first | (with_reducible first | exact HB.out | apply below_alloc | apply pw_below_drewN | apply below_drew1) | exact HB.out))) : w.heap.size ≤ gb352)); have n3_ := Aside0.mk ((by rw [hg]; exact (below_size (by repeat (first | (with_reducible first | exact HB.out | apply below_alloc | apply pw_below_drewN | apply below_drew1) | exact HB.out))) : w.heap.size ≤ gb352)); clear HB; have HB := n0_; have BK352 := n1_; have GW352 := n2_; have GE352 := n3_; clear n0_ n1_ n2_ n3_; clear hb hbox hg; have hcz3_0 : w2.cell? ⟨gb352, 0, none⟩ = some (.int .i64 a0_0) := (blk_cell BK352.out 0).trans rfl; have hcz3_1 : w2.cell? ⟨gb352, 1, none⟩ = some (.int .i64 a0_1) := (blk_cell BK352.out 1).trans rfl; have hcz3_2 : w2.cell? ⟨gb352, 2, none⟩ = some (.int .i64 a0_2) := (blk_cell BK352.out 2).trans rfl; have hcz3_3 : w2.cell? ⟨gb352, 3, none⟩ = some (.int .i64 a0_3) := (blk_cell BK352.out 3).trans rfl; have hcz3_4 : w2.cell? ⟨gb352, 4, none⟩ = some (.int .i64 a0_4) := (blk_cell BK352.out 4).trans rfl; have hcz3_5 : w2.cell? ⟨gb352, 5, none⟩ = some (.int .i64 a0_5) := (blk_cell BK352.out 5).trans rfl; have hcz3_6 : w2.cell? ⟨gb352, 6, none⟩ = some (.string a0_6) := (blk_cell BK352.out 6).trans rfl; have hfz3_0 := blk_frozen BK352.out 0; have hfz3_1 := blk_frozen BK352.out 1; have hfz3_2 := blk_frozen BK352.out 2; have hfz3_3 := blk_frozen BK352.out 3; have hfz3_4 := blk_frozen BK352.out 4; have hfz3_5 := blk_frozen BK352.out 5; have hfz3_6 := blk_frozen BK352.out 6))
  go_ret
  exact ⟨by first | rfl | (simp [errW_none, errW_some] <;> rfl) | (simp [*, errW_none, errW_some] <;> rfl), by repeat (first | (with_reducible first | exact HB.out | apply below_alloc | apply pw_below_drewN | apply below_drew1 | refine below_set ?_ GE352.out) | exact HB.out)⟩
end
section
/-! ### impl_onward: function 112 -/
def impl_onward.f (a0 : Int) (a1 : Int) : Option (Int) := some (Int.tmod (wrap64 (a0 + a1)) 4294967296)
set_option maxHeartbeats 8000000 in
set_option maxRecDepth 100000 in
theorem impl_onward.calls (a0 : Int) (a1 : Int) (r : Int) (w : World) (h : impl_onward.f a0 a1 = some r) :
    Calls Try.prog 112 #[.int .i64 a0, .int .i64 a1] w fun e w' => e = .returned (.int .i64 r) ∧ Drawn0 w w' := by
  have H : (some (Int.tmod (wrap64 (a0 + a1)) 4294967296)) = some r := h
  clear h
  obtain rfl := Option.some.inj H
  go_enter Try.func112, Try.ntmps112
  go_wp2
  go_ret
  exact ⟨by first | rfl | (simp; done) | (simp [*]; done) | (simp [ne_nil_b]; done) | (simp [ne_nil_b, *]; done), by repeat (first | exact Drawn0.refl _ | apply Drawn0.step)⟩
end
section
/-! ### impl_newConn: function 86 -/
def impl_newConn.f (a0 : ByteArray) (a1 : Int) (a2 : Int) (a3_0 : Int) (a3_1 : Int) (a3_2 : Int) (a3_3 : Int) (a3_4 : Int) (a3_5 : Int) (a3_6 : ByteArray) (a4 : Int) : Option (ByteArray × Int × Int × Int × Int × Int × Int × Int × ByteArray × ByteArray × Bool) := (impl_onward.f a4 1).bind fun t355 => ((impl_onward.f a3_2 1).bind fun t356 => (some (a0, a1, a3_0, a2, 1, a4, t355, t356, (⟨#[]⟩ : ByteArray), (⟨#[]⟩ : ByteArray), false)))
def impl_newConn.T1 : Bool × List (List Nat × List Nat) := (true, [([], []), ([], []), ([], []), ([2], [2]), ([], []), ([], []), ([], []), ([6], [6]), ([], []), ([8], [8]), ([9, 7], [9]), ([0, 1, 3, 4, 5, 7, 10], [0, 1, 3, 4, 5, 7, 10]), ([11, 10, 0, 1, 2, 3, 4, 5, 6, 7, 8, 9, 10, 11], [11])])
def impl_newConn.B1 : List Nat := [0, 0, 0, 4, 0, 0, 0, 64, 0, 256, 960, 2047, 4095]
theorem impl_newConn.tab1 : rtab .any (opsOf Try.f86 1) = impl_newConn.T1 := by kernel_rfl
theorem impl_newConn.bits1 : waitsOk impl_newConn.T1.2 impl_newConn.B1 = true := by kernel_rfl
set_option maxHeartbeats 8000000 in
set_option maxRecDepth 100000 in
theorem impl_newConn.calls (a0 : ByteArray) (a1 : Int) (a2 : Int) (a3_0 : Int) (a3_1 : Int) (a3_2 : Int) (a3_3 : Int) (a3_4 : Int) (a3_5 : Int) (a3_6 : ByteArray) (a4 : Int) (r1 : ByteArray) (r2 : Int) (r3 : Int) (r4 : Int) (r5 : Int) (r6 : Int) (r7 : Int) (r8 : Int) (r9 : ByteArray) (r10 : ByteArray) (r11 : Bool) (w : World) (h : impl_newConn.f a0 a1 a2 a3_0 a3_1 a3_2 a3_3 a3_4 a3_5 a3_6 a4 = some (r1, r2, r3, r4, r5, r6, r7, r8, r9, r10, r11)) :
    Calls Try.prog 86 #[.string a0, .int .i64 a1, .int .i64 a2, .agg #[.int .i64 a3_0, .int .i64 a3_1, .int .i64 a3_2, .int .i64 a3_3, .int .i64 a3_4, .int .i64 a3_5, .string a3_6], .int .i64 a4] w fun e w' => e = .returned (.agg #[.string r1, .int .i64 r2, .int .i64 r3, .int .i64 r4, .int .i64 r5, .int .i64 r6, .int .i64 r7, .int .i64 r8, .string r9, .string r10, .bool r11]) ∧ Below w.heap.size w w' := by
  have hu53 := Try.underlying53
  have hu34 := Try.underlying34
  have HB := Aside0.mk (Below.refl w.heap.size w)
  have H : ((impl_onward.f a4 1).bind fun t355 => ((impl_onward.f a3_2 1).bind fun t356 => (some (a0, a1, a3_0, a2, 1, a4, t355, t356, (⟨#[]⟩ : ByteArray), (⟨#[]⟩ : ByteArray), false)))) = some (r1, r2, r3, r4, r5, r6, r7, r8, r9, r10, r11) := h
  clear h
  replace H := Option.bind_eq_some_iff.mp H
  obtain ⟨t355, A60, H⟩ := H
  replace H : ((impl_onward.f a3_2 1).bind fun t356 => (some (a0, a1, a3_0, a2, 1, a4, t355, t356, (⟨#[]⟩ : ByteArray), (⟨#[]⟩ : ByteArray), false))) = some (r1, r2, r3, r4, r5, r6, r7, r8, r9, r10, r11) := H
  have A6 := Aside0.mk A60
  clear A60
  replace H := Option.bind_eq_some_iff.mp H
  obtain ⟨t356, A70, H⟩ := H
  replace H : (some (a0, a1, a3_0, a2, 1, a4, t355, t356, (⟨#[]⟩ : ByteArray), (⟨#[]⟩ : ByteArray), false)) = some (r1, r2, r3, r4, r5, r6, r7, r8, r9, r10, r11) := H
  have A7 := Aside0.mk A70
  clear A70
  simp only [Option.some.injEq, Prod.mk.injEq] at H
  obtain ⟨rfl, rfl, rfl, rfl, rfl, rfl, rfl, rfl, rfl, rfl, rfl⟩ := H
  go_enter Try.func86, Try.ntmps86
  try go_wp2_with (first | ((with_reducible refine gate_dst (N := 8) rfl ?_); refine box_event ?hg (N := 8) ?hd (cs := #[.int .i64 a3_0, .int .i64 a3_1, .int .i64 a3_2, .int .i64 a3_3, .int .i64 a3_4, .int .i64 a3_5, .string a3_6]) (t := 53) ?hr ?_; (case hd => rfl); (case hg => rfl); (case hr => first | (go_simp; done) | (go_simp; rfl)); intro gb353 hg w8 hbox hb; have n0_ := Aside0.mk (below_step (by repeat (first | (with_reducible first | exact HB.out | apply below_alloc | apply pw_below_drewN | apply below_drew1) | exact HB.out)) hb); have n1_ := Aside0.mk (hbox); have n2_ := Aside0.mk ((by rw [hg]; exact (below_size (by repeat (first | (with_reducible first | exact HB.out | apply below_alloc | apply pw_below_drewN | apply below_drew1) | exact HB.out))) : w.heap.size ≤ gb353)); have n3_ := Aside0.mk ((by rw [hg]; exact (below_size (by repeat (first | (with_reducible first | exact HB.out | apply below_alloc | apply pw_below_drewN | apply below_drew1) | exact HB.out))) : w.heap.size ≤ gb353)); clear HB; have HB := n0_; have BK353 := n1_; have GW353 := n2_; have GE353 := n3_; clear n0_ n1_ n2_ n3_; clear hb hbox hg) | ((with_reducible refine gate_dst (N := 10) rfl ?_); refine box_event ?hg (N := 10) ?hd (cs := #[.string (⟨#[]⟩ : ByteArray), .int .i64 0, .int .i64 0, .int .i64 0, .int .i64 0, .int .i64 0, .int .i64 0, .int .i64 0, .string (⟨#[]⟩ : ByteArray), .string (⟨#[]⟩ : ByteArray), .bool false]) (t := 34) ?hr ?_; (case hd => rfl); (case hg => rfl); (case hr => first | (go_simp; done) | (go_simp; rfl)); intro gb354 hg w9 hbox hb; have n0_ := Aside0.mk (blk_below (g := gb353) (o := .cells #[.int .i64 a3_0, .int .i64 a3_1, .int .i64 a3_2, .int .i64 a3_3, .int .i64 a3_4, .int .i64 a3_5, .string a3_6] 53 (0, 0)) (by (with_reducible repeat (first | refine blk_drewN ?_ _ | refine blk_drew ?_ | refine blk_alloc ?_ _)); exact BK353.out) hb); have n1_ := Aside0.mk (below_step (by repeat (first | (with_reducible first | exact HB.out | apply below_alloc | apply pw_below_drewN | apply below_drew1 | refine below_set ?_ GE353.out) | exact HB.out)) hb); have n2_ := Aside0.mk (hbox); have n3_ := Aside0.mk ((by rw [hg]; exact (below_size (by repeat (first | (with_reducible first | exact HB.out | apply below_alloc | apply pw_below_drewN | apply below_drew1 | refine below_set ?_ GE353.out) | exact HB.out))) : w.heap.size ≤ gb354)); have n4_ := Aside0.mk ((by rw [hg]; exact (below_size (by repeat (first | (with_reducible first | exact HB.out | apply below_alloc | apply pw_below_drewN | apply below_drew1 | refine below_set ?_ GE353.out) | exact HB.out))) : w.heap.size ≤ gb354)); have n5_ := Aside0.mk ((by rw [hg]; exact Nat.ne_of_lt (blk_lt (g := gb353) (o := .cells #[.int .i64 a3_0, .int .i64 a3_1, .int .i64 a3_2, .int .i64 a3_3, .int .i64 a3_4, .int .i64 a3_5, .string a3_6] 53 (0, 0)) (by (with_reducible repeat (first | refine blk_drewN ?_ _ | refine blk_drew ?_ | refine blk_alloc ?_ _)); exact BK353.out)) : gb353 ≠ gb354)); have n6_ := Aside0.mk ((by rw [hg]; exact Nat.ne_of_gt (blk_lt (g := gb353) (o := .cells #[.int .i64 a3_0, .int .i64 a3_1, .int .i64 a3_2, .int .i64 a3_3, .int .i64 a3_4, .int .i64 a3_5, .string a3_6] 53 (0, 0)) (by (with_reducible repeat (first | refine blk_drewN ?_ _ | refine blk_drew ?_ | refine blk_alloc ?_ _)); exact BK353.out)) : gb354 ≠ gb353)); clear BK353; clear HB; have BK353 := n0_; have HB := n1_; have BK354 := n2_; have GW354 := n3_; have GE354 := n4_; have NB353_354 := n5_; have NB354_353 := n6_; clear n0_ n1_ n2_ n3_ n4_ n5_ n6_; clear hb hbox hg))
  have n0_ := Aside0.mk (blk_drew BK353.out)
  have n1_ := Aside0.mk (blk_drew BK354.out)
  have n2_ := Aside0.mk (below_drew1 HB.out)
  clear BK353
  clear BK354
  clear HB
  have BK353 := n0_
  have BK354 := n1_
  have HB := n2_
  clear n0_ n1_ n2_
  refine start_ (n := 13) (S := fun w' => w'.cell? ⟨gb353, 0, none⟩ = some (.int .i64 a3_0) ∧ w'.cell? ⟨gb353, 1, none⟩ = some (.int .i64 a3_1) ∧ w'.cell? ⟨gb353, 2, none⟩ = some (.int .i64 a3_2) ∧ w'.cell? ⟨gb353, 3, none⟩ = some (.int .i64 a3_3) ∧ w'.cell? ⟨gb353, 4, none⟩ = some (.int .i64 a3_4) ∧ w'.cell? ⟨gb353, 5, none⟩ = some (.int .i64 a3_5) ∧ w'.cell? ⟨gb353, 6, none⟩ = some (.string a3_6)) (ds := []) #[false, false, false, false, false, false, false, false, false, false, false, false, false] (by kernel_rfl) rfl rfl ⟨(blk_cell BK353.out 0).trans rfl, (blk_cell BK353.out 1).trans rfl, (blk_cell BK353.out 2).trans rfl, (blk_cell BK353.out 3).trans rfl, (blk_cell BK353.out 4).trans rfl, (blk_cell BK353.out 5).trans rfl, (blk_cell BK353.out 6).trans rfl⟩ (fun hHeld => ?_); refine with_tabW impl_newConn.tab1 impl_newConn.bits1 (fun HT_ HW_ => ?_)
  generalize w9.drew = w10 at BK353 BK354 HB hHeld ⊢
  refine pure_ (i := 0) (N := some 11) (v := ?_) (a' := ?_) #[true, false, false, false, false, false, false, false, false, false, false, false, false] rfl rfl (any_of HT_.out (by kernel_rfl)) (fun _ _ _ h => h) (Or.inl ⟨by rfl, ?_⟩) ?_ ?_
  rotate_left
  · intro w'
    go_simp
    with_reducible rfl
  rotate_left
  · simp only [Act.put, List.setIfInBounds_toArray, List.set_cons_zero, List.set_cons_succ, i64_w, i32_w]
    rfl
  refine pure_ (i := 1) (N := some 12) (v := ?_) (a' := ?_) #[true, true, false, false, false, false, false, false, false, false, false, false, false] rfl rfl (any_of HT_.out (by kernel_rfl)) (fun _ _ _ h => h) (Or.inl ⟨by rfl, ?_⟩) ?_ ?_
  rotate_left
  · intro w'
    go_simp
    with_reducible rfl
  rotate_left
  · simp only [Act.put, List.setIfInBounds_toArray, List.set_cons_zero, List.set_cons_succ, i64_w, i32_w]
    rfl
  refine pure_ (i := 2) (N := some 13) (v := ?_) (a' := ?_) #[true, true, true, false, false, false, false, false, false, false, false, false, false] rfl rfl (any_of HT_.out (by kernel_rfl)) (fun _ _ _ h => h) (Or.inl ⟨by rfl, ?_⟩) ?_ ?_
  rotate_left
  · intro w'
    go_simp
    with_reducible rfl
  rotate_left
  · simp only [Act.put, List.setIfInBounds_toArray, List.set_cons_zero, List.set_cons_succ, i64_w, i32_w]
    rfl
  refine pure_ (i := 4) (N := some 15) (v := ?_) (a' := ?_) #[true, true, true, false, true, false, false, false, false, false, false, false, false] rfl rfl (any_of HT_.out (by kernel_rfl)) (fun _ _ _ h => h) (Or.inl ⟨by rfl, ?_⟩) ?_ ?_
  rotate_left
  · intro w'
    go_simp
    with_reducible rfl
  rotate_left
  · simp only [Act.put, List.setIfInBounds_toArray, List.set_cons_zero, List.set_cons_succ, i64_w, i32_w]
    rfl
  refine pure_ (i := 5) (N := some 16) (v := ?_) (a' := ?_) #[true, true, true, false, true, true, false, false, false, false, false, false, false] rfl rfl (any_of HT_.out (by kernel_rfl)) (fun _ _ _ h => h) (Or.inl ⟨by rfl, ?_⟩) ?_ ?_
  rotate_left
  · intro w'
    go_simp
    with_reducible rfl
  rotate_left
  · simp only [Act.put, List.setIfInBounds_toArray, List.set_cons_zero, List.set_cons_succ, i64_w, i32_w]
    rfl
  refine pure_ (i := 6) (N := some 17) (v := ?_) (a' := ?_) #[true, true, true, false, true, true, true, false, false, false, false, false, false] rfl rfl (any_of HT_.out (by kernel_rfl)) (fun _ _ _ h => h) (Or.inl ⟨by rfl, ?_⟩) ?_ ?_
  rotate_left
  · intro w'
    go_simp
    with_reducible rfl
  rotate_left
  · simp only [Act.put, List.setIfInBounds_toArray, List.set_cons_zero, List.set_cons_succ, i64_w, i32_w]
    rfl
  refine pure_ (i := 8) (N := some 19) (v := ?_) (a' := ?_) #[true, true, true, false, true, true, true, false, true, false, false, false, false] rfl rfl (any_of HT_.out (by kernel_rfl)) (fun _ _ _ h => h) (Or.inl ⟨by rfl, ?_⟩) ?_ ?_
  rotate_left
  · intro w'
    go_simp
    with_reducible rfl
  rotate_left
  · simp only [Act.put, List.setIfInBounds_toArray, List.set_cons_zero, List.set_cons_succ, i64_w, i32_w]
    rfl
  refine take_ (i := 3) (N := some 14) (v := ?_) (a' := ?_) #[true, true, true, true, true, true, true, false, true, false, false, false, false] rfl rfl (take_ofW HT_.out HW_.out (by kernel_rfl)) (fun _ _ _ h => h) (Or.inl ⟨by rfl, ?_⟩) hHeld ?_ ?_
  rotate_left
  · rintro w' ⟨s0, s1, s2, s3, s4, s5, s6⟩
    go_simp
    with_reducible rfl
  rotate_left
  · simp only [Act.put, List.setIfInBounds_toArray, List.set_cons_zero, List.set_cons_succ, i64_w, i32_w]
    rfl
  refine take_ (i := 9) (N := some 20) (v := ?_) (a' := ?_) #[true, true, true, true, true, true, true, false, true, true, false, false, false] rfl rfl (take_ofW HT_.out HW_.out (by kernel_rfl)) (fun _ _ _ h => h) (Or.inl ⟨by rfl, ?_⟩) hHeld ?_ ?_
  rotate_left
  · rintro w' ⟨s0, s1, s2, s3, s4, s5, s6⟩
    go_simp
    with_reducible rfl
  rotate_left
  · simp only [Act.put, List.setIfInBounds_toArray, List.set_cons_zero, List.set_cons_succ, i64_w, i32_w]
    rfl
  refine one_ (i := 7) (N := some 18) #[true, true, true, true, true, true, true, true, true, true, false, false, false] rfl rfl (one_of HT_.out (by kernel_rfl)) (by decide) (fun K hK => ?_)
  refine goes_ Try.func112 (by kernel_rfl) rfl #[.int .i64 a4, .int .i64 1] (by rfl) rfl rfl (by (try simp only [List.map_toArray, List.map_cons, List.map_nil]); first | done | rfl | (simp only [List.length_drop, List.length_take]; rfl)) ?_
  with_reducible refine (impl_onward.calls a4 1 t355 _ A6.out).mono ?_
  rintro e w' ⟨rfl, ⟨nd, rfl⟩⟩
  refine ⟨_, rfl, ?_⟩
  refine hK.out _ _ ⟨(blk_cell BK353.out 0).trans rfl, (blk_cell BK353.out 1).trans rfl, (blk_cell BK353.out 2).trans rfl, (blk_cell BK353.out 3).trans rfl, (blk_cell BK353.out 4).trans rfl, (blk_cell BK353.out 5).trans rfl, (blk_cell BK353.out 6).trans rfl⟩ (fun hHeld => ?_)
  clear hK K
  refine norm_ (a' := ?_) ?_ ?_
  rotate_left
  · show Act.put _ (some 18) _ = _
    simp only [Act.put, List.setIfInBounds_toArray, List.set_cons_zero, List.set_cons_succ, i64_w, i32_w]
    rfl
  refine one_ (i := 10) (N := some 21) #[true, true, true, true, true, true, true, true, true, true, true, false, false] rfl rfl (one_of HT_.out (by kernel_rfl)) (by decide) (fun K hK => ?_)
  refine goes_ Try.func112 (by kernel_rfl) rfl #[.int .i64 a3_2, .int .i64 1] (by rfl) rfl rfl (by (try simp only [List.map_toArray, List.map_cons, List.map_nil]); first | done | rfl | (simp only [List.length_drop, List.length_take]; rfl)) ?_
  with_reducible refine (impl_onward.calls a3_2 1 t356 _ A7.out).mono ?_
  rintro e w' ⟨rfl, ⟨nd, rfl⟩⟩
  refine ⟨_, rfl, ?_⟩
  refine hK.out _ _ ⟨(blk_cell BK353.out 0).trans rfl, (blk_cell BK353.out 1).trans rfl, (blk_cell BK353.out 2).trans rfl, (blk_cell BK353.out 3).trans rfl, (blk_cell BK353.out 4).trans rfl, (blk_cell BK353.out 5).trans rfl, (blk_cell BK353.out 6).trans rfl⟩ (fun hHeld => ?_)
  clear hK K
  refine norm_ (a' := ?_) ?_ ?_
  rotate_left
  · show Act.put _ (some 21) _ = _
    simp only [Act.put, List.setIfInBounds_toArray, List.set_cons_zero, List.set_cons_succ, i64_w, i32_w]
    rfl
  refine pure_ (i := 11) (N := some 22) (v := ?_) (a' := ?_) #[true, true, true, true, true, true, true, true, true, true, true, true, false] rfl rfl (any_of HT_.out (by kernel_rfl)) (fun _ _ _ h => h) (Or.inl ⟨by rfl, ?_⟩) ?_ ?_
  rotate_left
  · intro w'
    go_simp
    with_reducible rfl
  rotate_left
  · simp only [Act.put, List.setIfInBounds_toArray, List.set_cons_zero, List.set_cons_succ, i64_w, i32_w]
    rfl
  refine one_ (i := 12) (N := none) #[true, true, true, true, true, true, true, true, true, true, true, true, true] rfl rfl (one_of HT_.out (by kernel_rfl)) (by decide) (fun K hK => ?_)
  have hs11 : w10.cell? ⟨gb354, 0, none⟩ = some (.string (⟨#[]⟩ : ByteArray)) := (blk_cell BK354.out 0).trans rfl
  have hfs11 := blk_frozen BK354.out 0
  have hns11_0 := NB353_354.out
  have hms11_0 := NB354_353.out
  have hs12 : w10.cell? ⟨gb354, 1, none⟩ = some (.int .i64 0) := (blk_cell BK354.out 1).trans rfl
  have hfs12 := blk_frozen BK354.out 1
  have hns12_0 := NB353_354.out
  have hms12_0 := NB354_353.out
  have hs13 : w10.cell? ⟨gb354, 2, none⟩ = some (.int .i64 0) := (blk_cell BK354.out 2).trans rfl
  have hfs13 := blk_frozen BK354.out 2
  have hns13_0 := NB353_354.out
  have hms13_0 := NB354_353.out
  have hs14 : w10.cell? ⟨gb354, 3, none⟩ = some (.int .i64 0) := (blk_cell BK354.out 3).trans rfl
  have hfs14 := blk_frozen BK354.out 3
  have hns14_0 := NB353_354.out
  have hms14_0 := NB354_353.out
  have hs15 : w10.cell? ⟨gb354, 4, none⟩ = some (.int .i64 0) := (blk_cell BK354.out 4).trans rfl
  have hfs15 := blk_frozen BK354.out 4
  have hns15_0 := NB353_354.out
  have hms15_0 := NB354_353.out
  have hs16 : w10.cell? ⟨gb354, 5, none⟩ = some (.int .i64 0) := (blk_cell BK354.out 5).trans rfl
  have hfs16 := blk_frozen BK354.out 5
  have hns16_0 := NB353_354.out
  have hms16_0 := NB354_353.out
  have hs17 : w10.cell? ⟨gb354, 6, none⟩ = some (.int .i64 0) := (blk_cell BK354.out 6).trans rfl
  have hfs17 := blk_frozen BK354.out 6
  have hns17_0 := NB353_354.out
  have hms17_0 := NB354_353.out
  have hs18 : w10.cell? ⟨gb354, 7, none⟩ = some (.int .i64 0) := (blk_cell BK354.out 7).trans rfl
  have hfs18 := blk_frozen BK354.out 7
  have hns18_0 := NB353_354.out
  have hms18_0 := NB354_353.out
  have hs19 : w10.cell? ⟨gb354, 8, none⟩ = some (.string (⟨#[]⟩ : ByteArray)) := (blk_cell BK354.out 8).trans rfl
  have hfs19 := blk_frozen BK354.out 8
  have hns19_0 := NB353_354.out
  have hms19_0 := NB354_353.out
  have hs20 : w10.cell? ⟨gb354, 9, none⟩ = some (.string (⟨#[]⟩ : ByteArray)) := (blk_cell BK354.out 9).trans rfl
  have hfs20 := blk_frozen BK354.out 9
  have hns20_0 := NB353_354.out
  have hms20_0 := NB354_353.out
  have hs21 : w10.cell? ⟨gb354, 10, none⟩ = some (.bool false) := (blk_cell BK354.out 10).trans rfl
  have hfs21 := blk_frozen BK354.out 10
  have hns21_0 := NB353_354.out
  have hms21_0 := NB354_353.out
  refine skip_ (w1 := ?_) (by rfl) rfl ?_ ?_
  rotate_left
  · go_simp
    rfl
  refine hK.out _ _ ⟨((cell_far (p := ⟨gb354, _, none⟩) NB353_354.out _).trans (((cell_far (p := ⟨gb354, _, none⟩) NB353_354.out _).trans (((cell_far (p := ⟨gb354, _, none⟩) NB353_354.out _).trans (((cell_far (p := ⟨gb354, _, none⟩) NB353_354.out _).trans (((cell_far (p := ⟨gb354, _, none⟩) NB353_354.out _).trans (((cell_far (p := ⟨gb354, _, none⟩) NB353_354.out _).trans (((cell_far (p := ⟨gb354, _, none⟩) NB353_354.out _).trans (((cell_far (p := ⟨gb354, _, none⟩) NB353_354.out _).trans (((cell_far (p := ⟨gb354, _, none⟩) NB353_354.out _).trans (((cell_far (p := ⟨gb354, _, none⟩) NB353_354.out _).trans (((cell_far (p := ⟨gb354, _, none⟩) NB353_354.out _).trans (hHeld.1)))))))))))))))))))))), ((cell_far (p := ⟨gb354, _, none⟩) NB353_354.out _).trans (((cell_far (p := ⟨gb354, _, none⟩) NB353_354.out _).trans (((cell_far (p := ⟨gb354, _, none⟩) NB353_354.out _).trans (((cell_far (p := ⟨gb354, _, none⟩) NB353_354.out _).trans (((cell_far (p := ⟨gb354, _, none⟩) NB353_354.out _).trans (((cell_far (p := ⟨gb354, _, none⟩) NB353_354.out _).trans (((cell_far (p := ⟨gb354, _, none⟩) NB353_354.out _).trans (((cell_far (p := ⟨gb354, _, none⟩) NB353_354.out _).trans (((cell_far (p := ⟨gb354, _, none⟩) NB353_354.out _).trans (((cell_far (p := ⟨gb354, _, none⟩) NB353_354.out _).trans (((cell_far (p := ⟨gb354, _, none⟩) NB353_354.out _).trans (hHeld.2.1)))))))))))))))))))))), ((cell_far (p := ⟨gb354, _, none⟩) NB353_354.out _).trans (((cell_far (p := ⟨gb354, _, none⟩) NB353_354.out _).trans (((cell_far (p := ⟨gb354, _, none⟩) NB353_354.out _).trans (((cell_far (p := ⟨gb354, _, none⟩) NB353_354.out _).trans (((cell_far (p := ⟨gb354, _, none⟩) NB353_354.out _).trans (((cell_far (p := ⟨gb354, _, none⟩) NB353_354.out _).trans (((cell_far (p := ⟨gb354, _, none⟩) NB353_354.out _).trans (((cell_far (p := ⟨gb354, _, none⟩) NB353_354.out _).trans (((cell_far (p := ⟨gb354, _, none⟩) NB353_354.out _).trans (((cell_far (p := ⟨gb354, _, none⟩) NB353_354.out _).trans (((cell_far (p := ⟨gb354, _, none⟩) NB353_354.out _).trans (hHeld.2.2.1)))))))))))))))))))))), ((cell_far (p := ⟨gb354, _, none⟩) NB353_354.out _).trans (((cell_far (p := ⟨gb354, _, none⟩) NB353_354.out _).trans (((cell_far (p := ⟨gb354, _, none⟩) NB353_354.out _).trans (((cell_far (p := ⟨gb354, _, none⟩) NB353_354.out _).trans (((cell_far (p := ⟨gb354, _, none⟩) NB353_354.out _).trans (((cell_far (p := ⟨gb354, _, none⟩) NB353_354.out _).trans (((cell_far (p := ⟨gb354, _, none⟩) NB353_354.out _).trans (((cell_far (p := ⟨gb354, _, none⟩) NB353_354.out _).trans (((cell_far (p := ⟨gb354, _, none⟩) NB353_354.out _).trans (((cell_far (p := ⟨gb354, _, none⟩) NB353_354.out _).trans (((cell_far (p := ⟨gb354, _, none⟩) NB353_354.out _).trans (hHeld.2.2.2.1)))))))))))))))))))))), ((cell_far (p := ⟨gb354, _, none⟩) NB353_354.out _).trans (((cell_far (p := ⟨gb354, _, none⟩) NB353_354.out _).trans (((cell_far (p := ⟨gb354, _, none⟩) NB353_354.out _).trans (((cell_far (p := ⟨gb354, _, none⟩) NB353_354.out _).trans (((cell_far (p := ⟨gb354, _, none⟩) NB353_354.out _).trans (((cell_far (p := ⟨gb354, _, none⟩) NB353_354.out _).trans (((cell_far (p := ⟨gb354, _, none⟩) NB353_354.out _).trans (((cell_far (p := ⟨gb354, _, none⟩) NB353_354.out _).trans (((cell_far (p := ⟨gb354, _, none⟩) NB353_354.out _).trans (((cell_far (p := ⟨gb354, _, none⟩) NB353_354.out _).trans (((cell_far (p := ⟨gb354, _, none⟩) NB353_354.out _).trans (hHeld.2.2.2.2.1)))))))))))))))))))))), ((cell_far (p := ⟨gb354, _, none⟩) NB353_354.out _).trans (((cell_far (p := ⟨gb354, _, none⟩) NB353_354.out _).trans (((cell_far (p := ⟨gb354, _, none⟩) NB353_354.out _).trans (((cell_far (p := ⟨gb354, _, none⟩) NB353_354.out _).trans (((cell_far (p := ⟨gb354, _, none⟩) NB353_354.out _).trans (((cell_far (p := ⟨gb354, _, none⟩) NB353_354.out _).trans (((cell_far (p := ⟨gb354, _, none⟩) NB353_354.out _).trans (((cell_far (p := ⟨gb354, _, none⟩) NB353_354.out _).trans (((cell_far (p := ⟨gb354, _, none⟩) NB353_354.out _).trans (((cell_far (p := ⟨gb354, _, none⟩) NB353_354.out _).trans (((cell_far (p := ⟨gb354, _, none⟩) NB353_354.out _).trans (hHeld.2.2.2.2.2.1)))))))))))))))))))))), ((cell_far (p := ⟨gb354, _, none⟩) NB353_354.out _).trans (((cell_far (p := ⟨gb354, _, none⟩) NB353_354.out _).trans (((cell_far (p := ⟨gb354, _, none⟩) NB353_354.out _).trans (((cell_far (p := ⟨gb354, _, none⟩) NB353_354.out _).trans (((cell_far (p := ⟨gb354, _, none⟩) NB353_354.out _).trans (((cell_far (p := ⟨gb354, _, none⟩) NB353_354.out _).trans (((cell_far (p := ⟨gb354, _, none⟩) NB353_354.out _).trans (((cell_far (p := ⟨gb354, _, none⟩) NB353_354.out _).trans (((cell_far (p := ⟨gb354, _, none⟩) NB353_354.out _).trans (((cell_far (p := ⟨gb354, _, none⟩) NB353_354.out _).trans (((cell_far (p := ⟨gb354, _, none⟩) NB353_354.out _).trans (hHeld.2.2.2.2.2.2))))))))))))))))))))))⟩ (fun hHeld => ?_)
  clear hK K
  refine done_ (done_of HT_.out (by kernel_rfl)) ?_
  try go_wp2
  refine bodyPost_ret (results_cell_row rfl _ _ gb354 34 #[.string a0, .int .i64 a1, .int .i64 a3_0, .int .i64 a2, .int .i64 1, .int .i64 a4, .int .i64 t355, .int .i64 t356, .string (⟨#[]⟩ : ByteArray), .string (⟨#[]⟩ : ByteArray), .bool false] (0, 0) _ rfl (by (with_reducible repeat (first | refine blk_drewN ?_ _ | refine blk_drew ?_ | refine blk_alloc ?_ _)); refine blk_put (cs := #[.string a0, .int .i64 a1, .int .i64 a3_0, .int .i64 a2, .int .i64 1, .int .i64 a4, .int .i64 t355, .int .i64 t356, .string (⟨#[]⟩ : ByteArray), .string (⟨#[]⟩ : ByteArray), .bool false]) ?_ 10 _ rfl; (with_reducible repeat (first | refine blk_drewN ?_ _ | refine blk_drew ?_ | refine blk_alloc ?_ _)); refine blk_put (cs := #[.string a0, .int .i64 a1, .int .i64 a3_0, .int .i64 a2, .int .i64 1, .int .i64 a4, .int .i64 t355, .int .i64 t356, .string (⟨#[]⟩ : ByteArray), .string (⟨#[]⟩ : ByteArray), .bool false]) ?_ 9 _ rfl; (with_reducible repeat (first | refine blk_drewN ?_ _ | refine blk_drew ?_ | refine blk_alloc ?_ _)); refine blk_put (cs := #[.string a0, .int .i64 a1, .int .i64 a3_0, .int .i64 a2, .int .i64 1, .int .i64 a4, .int .i64 t355, .int .i64 t356, .string (⟨#[]⟩ : ByteArray), .string (⟨#[]⟩ : ByteArray), .bool false]) ?_ 8 _ rfl; (with_reducible repeat (first | refine blk_drewN ?_ _ | refine blk_drew ?_ | refine blk_alloc ?_ _)); refine blk_put (cs := #[.string a0, .int .i64 a1, .int .i64 a3_0, .int .i64 a2, .int .i64 1, .int .i64 a4, .int .i64 t355, .int .i64 0, .string (⟨#[]⟩ : ByteArray), .string (⟨#[]⟩ : ByteArray), .bool false]) ?_ 7 _ rfl; (with_reducible repeat (first | refine blk_drewN ?_ _ | refine blk_drew ?_ | refine blk_alloc ?_ _)); refine blk_put (cs := #[.string a0, .int .i64 a1, .int .i64 a3_0, .int .i64 a2, .int .i64 1, .int .i64 a4, .int .i64 0, .int .i64 0, .string (⟨#[]⟩ : ByteArray), .string (⟨#[]⟩ : ByteArray), .bool false]) ?_ 6 _ rfl; (with_reducible repeat (first | refine blk_drewN ?_ _ | refine blk_drew ?_ | refine blk_alloc ?_ _)); refine blk_put (cs := #[.string a0, .int .i64 a1, .int .i64 a3_0, .int .i64 a2, .int .i64 1, .int .i64 0, .int .i64 0, .int .i64 0, .string (⟨#[]⟩ : ByteArray), .string (⟨#[]⟩ : ByteArray), .bool false]) ?_ 5 _ rfl; (with_reducible repeat (first | refine blk_drewN ?_ _ | refine blk_drew ?_ | refine blk_alloc ?_ _)); refine blk_put (cs := #[.string a0, .int .i64 a1, .int .i64 a3_0, .int .i64 a2, .int .i64 0, .int .i64 0, .int .i64 0, .int .i64 0, .string (⟨#[]⟩ : ByteArray), .string (⟨#[]⟩ : ByteArray), .bool false]) ?_ 4 _ rfl; (with_reducible repeat (first | refine blk_drewN ?_ _ | refine blk_drew ?_ | refine blk_alloc ?_ _)); refine blk_put (cs := #[.string a0, .int .i64 a1, .int .i64 a3_0, .int .i64 0, .int .i64 0, .int .i64 0, .int .i64 0, .int .i64 0, .string (⟨#[]⟩ : ByteArray), .string (⟨#[]⟩ : ByteArray), .bool false]) ?_ 3 _ rfl; (with_reducible repeat (first | refine blk_drewN ?_ _ | refine blk_drew ?_ | refine blk_alloc ?_ _)); refine blk_put (cs := #[.string a0, .int .i64 a1, .int .i64 0, .int .i64 0, .int .i64 0, .int .i64 0, .int .i64 0, .int .i64 0, .string (⟨#[]⟩ : ByteArray), .string (⟨#[]⟩ : ByteArray), .bool false]) ?_ 2 _ rfl; (with_reducible repeat (first | refine blk_drewN ?_ _ | refine blk_drew ?_ | refine blk_alloc ?_ _)); refine blk_put (cs := #[.string a0, .int .i64 0, .int .i64 0, .int .i64 0, .int .i64 0, .int .i64 0, .int .i64 0, .int .i64 0, .string (⟨#[]⟩ : ByteArray), .string (⟨#[]⟩ : ByteArray), .bool false]) ?_ 1 _ rfl; (with_reducible repeat (first | refine blk_drewN ?_ _ | refine blk_drew ?_ | refine blk_alloc ?_ _)); refine blk_put (cs := #[.string (⟨#[]⟩ : ByteArray), .int .i64 0, .int .i64 0, .int .i64 0, .int .i64 0, .int .i64 0, .int .i64 0, .int .i64 0, .string (⟨#[]⟩ : ByteArray), .string (⟨#[]⟩ : ByteArray), .bool false]) ?_ 0 _ rfl; (with_reducible repeat (first | refine blk_drewN ?_ _ | refine blk_drew ?_ | refine blk_alloc ?_ _)); exact BK354.out) Try.underlying34 rfl (by kernel_rfl)) rfl ?_
  exact ⟨by first | rfl | (simp [errW_none, errW_some] <;> rfl) | (simp [*, errW_none, errW_some] <;> rfl), by repeat (first | (with_reducible first | exact HB.out | apply below_alloc | apply pw_below_drewN | apply below_drew1 | refine below_set ?_ GE353.out | refine below_set ?_ GE354.out) | exact HB.out)⟩
end
section
/-- A state of type 34 at block g of W; what its slices lead to came in by w0. -/
def IsS34 (w0 W : World) (g : Nat) (f0 : ByteArray) (f1 : Int) (f2 : Int) (f3 : Int) (f4 : Int) (f5 : Int) (f6 : Int) (f7 : Int) (f8 : ByteArray) (f9 : ByteArray) (f10 : Bool) : Prop := W.heap[g]? = some (.cells #[.string f0, .int .i64 f1, .int .i64 f2, .int .i64 f3, .int .i64 f4, .int .i64 f5, .int .i64 f6, .int .i64 f7, .string f8, .string f9, .bool f10] 34 (0, 0)) ∧ w0.heap.size ≤ g
theorem IsS34.grown {w0 W : World} {g : Nat} {f0 : ByteArray} {f1 : Int} {f2 : Int} {f3 : Int} {f4 : Int} {f5 : Int} {f6 : Int} {f7 : Int} {f8 : ByteArray} {f9 : ByteArray} {f10 : Bool} {W1 : World} {row : Option Nat} (h : IsS34 w0 W g f0 f1 f2 f3 f4 f5 f6 f7 f8 f9 f10) (hw : W.grownBy W1 row) (hne : some g ≠ row) : IsS34 w0 W1 g f0 f1 f2 f3 f4 f5 f6 f7 f8 f9 f10 := by
  obtain ⟨hb, hg⟩ := h
  exact ⟨blk_grown hb hw hne, hg⟩
theorem IsS34.kept {w0 W : World} {g : Nat} {f0 : ByteArray} {f1 : Int} {f2 : Int} {f3 : Int} {f4 : Int} {f5 : Int} {f6 : Int} {f7 : Int} {f8 : ByteArray} {f9 : ByteArray} {f10 : Bool} {W1 : World} {S : Nat → Prop} (h : IsS34 w0 W g f0 f1 f2 f3 f4 f5 f6 f7 f8 f9 f10) (hk : Kept W W1 S) (hne : ¬ S g) : IsS34 w0 W1 g f0 f1 f2 f3 f4 f5 f6 f7 f8 f9 f10 := by
  obtain ⟨hb, hg⟩ := h
  exact ⟨blk_kept hb hk hne, hg⟩
theorem IsS34.below {w0 W : World} {g : Nat} {f0 : ByteArray} {f1 : Int} {f2 : Int} {f3 : Int} {f4 : Int} {f5 : Int} {f6 : Int} {f7 : Int} {f8 : ByteArray} {f9 : ByteArray} {f10 : Bool} {W1 : World} (h : IsS34 w0 W g f0 f1 f2 f3 f4 f5 f6 f7 f8 f9 f10) (hw : Below W.heap.size W W1) : IsS34 w0 W1 g f0 f1 f2 f3 f4 f5 f6 f7 f8 f9 f10 := h.grown (grown_of_below hw none) (by simp)
theorem IsS34.alloc {w0 W : World} {g : Nat} {f0 : ByteArray} {f1 : Int} {f2 : Int} {f3 : Int} {f4 : Int} {f5 : Int} {f6 : Int} {f7 : Int} {f8 : ByteArray} {f9 : ByteArray} {f10 : Bool} (h : IsS34 w0 W g f0 f1 f2 f3 f4 f5 f6 f7 f8 f9 f10) (o : Obj) : IsS34 w0 (W.alloc o) g f0 f1 f2 f3 f4 f5 f6 f7 f8 f9 f10 := h.below (below_alloc (Below.refl _ _) o)
theorem IsS34.drewN {w0 W : World} {g : Nat} {f0 : ByteArray} {f1 : Int} {f2 : Int} {f3 : Int} {f4 : Int} {f5 : Int} {f6 : Int} {f7 : Int} {f8 : ByteArray} {f9 : ByteArray} {f10 : Bool} (h : IsS34 w0 W g f0 f1 f2 f3 f4 f5 f6 f7 f8 f9 f10) (m : Nat) : IsS34 w0 (W.drewN m) g f0 f1 f2 f3 f4 f5 f6 f7 f8 f9 f10 := h
theorem IsS34.drew {w0 W : World} {g : Nat} {f0 : ByteArray} {f1 : Int} {f2 : Int} {f3 : Int} {f4 : Int} {f5 : Int} {f6 : Int} {f7 : Int} {f8 : ByteArray} {f9 : ByteArray} {f10 : Bool} (h : IsS34 w0 W g f0 f1 f2 f3 f4 f5 f6 f7 f8 f9 f10) : IsS34 w0 W.drew g f0 f1 f2 f3 f4 f5 f6 f7 f8 f9 f10 := h
theorem IsS34.at_ {w0 W : World} {g : Nat} {f0 : ByteArray} {f1 : Int} {f2 : Int} {f3 : Int} {f4 : Int} {f5 : Int} {f6 : Int} {f7 : Int} {f8 : ByteArray} {f9 : ByteArray} {f10 : Bool} {w' : World} {m : Nat} (hq : W.drewN m = w') (h : IsS34 w0 W g f0 f1 f2 f3 f4 f5 f6 f7 f8 f9 f10) : IsS34 w0 w' g f0 f1 f2 f3 f4 f5 f6 f7 f8 f9 f10 := by subst hq; exact IsS34.drewN h m
theorem IsS34.apart {w0 W : World} {g : Nat} {f0 : ByteArray} {f1 : Int} {f2 : Int} {f3 : Int} {f4 : Int} {f5 : Int} {f6 : Int} {f7 : Int} {f8 : ByteArray} {f9 : ByteArray} {f10 : Bool} {α : Type} {d : Kd α} {e : Nat} {base : Nat} {ok : Nat → Prop} {v : Value} {xs : List α} (h : IsS34 w0 W g f0 f1 f2 f3 f4 f5 f6 f7 f8 f9 f10) (ho : d.R e W base ok v xs) (ht : ∀ q, q ∈ e :: d.E → q ≠ 34) : d.R e W base (fun k => ok k ∧ k ≠ g) v xs := by
  obtain ⟨hb, hg⟩ := h
  exact Kd.R_types ho hb ht
theorem IsS34.own_ne {w0 W : World} {g : Nat} {f0 : ByteArray} {f1 : Int} {f2 : Int} {f3 : Int} {f4 : Int} {f5 : Int} {f6 : Int} {f7 : Int} {f8 : ByteArray} {f9 : ByteArray} {f10 : Bool} {α : Type} {d : Kd α} {e : Nat} {base : Nat} {ok : Nat → Prop} {v : Value} {xs : List α} (h : IsS34 w0 W g f0 f1 f2 f3 f4 f5 f6 f7 f8 f9 f10) (ho : d.R e W base ok v xs) (ht : e ≠ 34) : some g ≠ v.ownBlock := by
  obtain ⟨hb, hg⟩ := h
  exact Kd.R_ne ho hb ht
theorem IsS34.lt {w0 W : World} {g : Nat} {f0 : ByteArray} {f1 : Int} {f2 : Int} {f3 : Int} {f4 : Int} {f5 : Int} {f6 : Int} {f7 : Int} {f8 : ByteArray} {f9 : ByteArray} {f10 : Bool} (h : IsS34 w0 W g f0 f1 f2 f3 f4 f5 f6 f7 f8 f9 f10) : g < W.heap.size := by
  obtain ⟨hb, hg⟩ := h
  exact blk_lt hb
theorem IsS34.ge {w0 W : World} {g : Nat} {f0 : ByteArray} {f1 : Int} {f2 : Int} {f3 : Int} {f4 : Int} {f5 : Int} {f6 : Int} {f7 : Int} {f8 : ByteArray} {f9 : ByteArray} {f10 : Bool} (h : IsS34 w0 W g f0 f1 f2 f3 f4 f5 f6 f7 f8 f9 f10) : w0.heap.size ≤ g := by
  obtain ⟨hb, hg⟩ := h
  exact hg
theorem IsS34.far {w0 W : World} {g : Nat} {f0 : ByteArray} {f1 : Int} {f2 : Int} {f3 : Int} {f4 : Int} {f5 : Int} {f6 : Int} {f7 : Int} {f8 : ByteArray} {f9 : ByteArray} {f10 : Bool} {p : Addr} (h : IsS34 w0 W g f0 f1 f2 f3 f4 f5 f6 f7 f8 f9 f10) (hne : g ≠ p.block) (u : Value) : IsS34 w0 (W.setCell p u) g f0 f1 f2 f3 f4 f5 f6 f7 f8 f9 f10 := by
  obtain ⟨hb, hg⟩ := h
  exact ⟨blk_far hb hne u, hg⟩
theorem cellS34_0 {W : World} {g : Nat} {f0 : ByteArray} {f1 : Int} {f2 : Int} {f3 : Int} {f4 : Int} {f5 : Int} {f6 : Int} {f7 : Int} {f8 : ByteArray} {f9 : ByteArray} {f10 : Bool} (h : W.heap[g]? = some (.cells #[.string f0, .int .i64 f1, .int .i64 f2, .int .i64 f3, .int .i64 f4, .int .i64 f5, .int .i64 f6, .int .i64 f7, .string f8, .string f9, .bool f10] 34 (0, 0))) : W.cell? ⟨g, 0, none⟩ = some (.string f0) := (blk_cell h 0).trans rfl
theorem IsS34.set_0 {w0 W : World} {g : Nat} {f0 : ByteArray} {f1 : Int} {f2 : Int} {f3 : Int} {f4 : Int} {f5 : Int} {f6 : Int} {f7 : Int} {f8 : ByteArray} {f9 : ByteArray} {f10 : Bool} (h : IsS34 w0 W g f0 f1 f2 f3 f4 f5 f6 f7 f8 f9 f10) (x : ByteArray) : IsS34 w0 (W.setCell ⟨g, 0, none⟩ (.string x)) g x f1 f2 f3 f4 f5 f6 f7 f8 f9 f10 := by
  obtain ⟨hb, hg⟩ := h
  exact ⟨by simpa using blk_set hb 0 (.string x), hg⟩
theorem cellS34_1 {W : World} {g : Nat} {f0 : ByteArray} {f1 : Int} {f2 : Int} {f3 : Int} {f4 : Int} {f5 : Int} {f6 : Int} {f7 : Int} {f8 : ByteArray} {f9 : ByteArray} {f10 : Bool} (h : W.heap[g]? = some (.cells #[.string f0, .int .i64 f1, .int .i64 f2, .int .i64 f3, .int .i64 f4, .int .i64 f5, .int .i64 f6, .int .i64 f7, .string f8, .string f9, .bool f10] 34 (0, 0))) : W.cell? ⟨g, 1, none⟩ = some (.int .i64 f1) := (blk_cell h 1).trans rfl
theorem IsS34.set_1 {w0 W : World} {g : Nat} {f0 : ByteArray} {f1 : Int} {f2 : Int} {f3 : Int} {f4 : Int} {f5 : Int} {f6 : Int} {f7 : Int} {f8 : ByteArray} {f9 : ByteArray} {f10 : Bool} (h : IsS34 w0 W g f0 f1 f2 f3 f4 f5 f6 f7 f8 f9 f10) (x : Int) : IsS34 w0 (W.setCell ⟨g, 1, none⟩ (.int .i64 x)) g f0 x f2 f3 f4 f5 f6 f7 f8 f9 f10 := by
  obtain ⟨hb, hg⟩ := h
  exact ⟨by simpa using blk_set hb 1 (.int .i64 x), hg⟩
theorem cellS34_2 {W : World} {g : Nat} {f0 : ByteArray} {f1 : Int} {f2 : Int} {f3 : Int} {f4 : Int} {f5 : Int} {f6 : Int} {f7 : Int} {f8 : ByteArray} {f9 : ByteArray} {f10 : Bool} (h : W.heap[g]? = some (.cells #[.string f0, .int .i64 f1, .int .i64 f2, .int .i64 f3, .int .i64 f4, .int .i64 f5, .int .i64 f6, .int .i64 f7, .string f8, .string f9, .bool f10] 34 (0, 0))) : W.cell? ⟨g, 2, none⟩ = some (.int .i64 f2) := (blk_cell h 2).trans rfl
theorem IsS34.set_2 {w0 W : World} {g : Nat} {f0 : ByteArray} {f1 : Int} {f2 : Int} {f3 : Int} {f4 : Int} {f5 : Int} {f6 : Int} {f7 : Int} {f8 : ByteArray} {f9 : ByteArray} {f10 : Bool} (h : IsS34 w0 W g f0 f1 f2 f3 f4 f5 f6 f7 f8 f9 f10) (x : Int) : IsS34 w0 (W.setCell ⟨g, 2, none⟩ (.int .i64 x)) g f0 f1 x f3 f4 f5 f6 f7 f8 f9 f10 := by
  obtain ⟨hb, hg⟩ := h
  exact ⟨by simpa using blk_set hb 2 (.int .i64 x), hg⟩
theorem cellS34_3 {W : World} {g : Nat} {f0 : ByteArray} {f1 : Int} {f2 : Int} {f3 : Int} {f4 : Int} {f5 : Int} {f6 : Int} {f7 : Int} {f8 : ByteArray} {f9 : ByteArray} {f10 : Bool} (h : W.heap[g]? = some (.cells #[.string f0, .int .i64 f1, .int .i64 f2, .int .i64 f3, .int .i64 f4, .int .i64 f5, .int .i64 f6, .int .i64 f7, .string f8, .string f9, .bool f10] 34 (0, 0))) : W.cell? ⟨g, 3, none⟩ = some (.int .i64 f3) := (blk_cell h 3).trans rfl
theorem IsS34.set_3 {w0 W : World} {g : Nat} {f0 : ByteArray} {f1 : Int} {f2 : Int} {f3 : Int} {f4 : Int} {f5 : Int} {f6 : Int} {f7 : Int} {f8 : ByteArray} {f9 : ByteArray} {f10 : Bool} (h : IsS34 w0 W g f0 f1 f2 f3 f4 f5 f6 f7 f8 f9 f10) (x : Int) : IsS34 w0 (W.setCell ⟨g, 3, none⟩ (.int .i64 x)) g f0 f1 f2 x f4 f5 f6 f7 f8 f9 f10 := by
  obtain ⟨hb, hg⟩ := h
  exact ⟨by simpa using blk_set hb 3 (.int .i64 x), hg⟩
theorem cellS34_4 {W : World} {g : Nat} {f0 : ByteArray} {f1 : Int} {f2 : Int} {f3 : Int} {f4 : Int} {f5 : Int} {f6 : Int} {f7 : Int} {f8 : ByteArray} {f9 : ByteArray} {f10 : Bool} (h : W.heap[g]? = some (.cells #[.string f0, .int .i64 f1, .int .i64 f2, .int .i64 f3, .int .i64 f4, .int .i64 f5, .int .i64 f6, .int .i64 f7, .string f8, .string f9, .bool f10] 34 (0, 0))) : W.cell? ⟨g, 4, none⟩ = some (.int .i64 f4) := (blk_cell h 4).trans rfl
theorem IsS34.set_4 {w0 W : World} {g : Nat} {f0 : ByteArray} {f1 : Int} {f2 : Int} {f3 : Int} {f4 : Int} {f5 : Int} {f6 : Int} {f7 : Int} {f8 : ByteArray} {f9 : ByteArray} {f10 : Bool} (h : IsS34 w0 W g f0 f1 f2 f3 f4 f5 f6 f7 f8 f9 f10) (x : Int) : IsS34 w0 (W.setCell ⟨g, 4, none⟩ (.int .i64 x)) g f0 f1 f2 f3 x f5 f6 f7 f8 f9 f10 := by
  obtain ⟨hb, hg⟩ := h
  exact ⟨by simpa using blk_set hb 4 (.int .i64 x), hg⟩
theorem cellS34_5 {W : World} {g : Nat} {f0 : ByteArray} {f1 : Int} {f2 : Int} {f3 : Int} {f4 : Int} {f5 : Int} {f6 : Int} {f7 : Int} {f8 : ByteArray} {f9 : ByteArray} {f10 : Bool} (h : W.heap[g]? = some (.cells #[.string f0, .int .i64 f1, .int .i64 f2, .int .i64 f3, .int .i64 f4, .int .i64 f5, .int .i64 f6, .int .i64 f7, .string f8, .string f9, .bool f10] 34 (0, 0))) : W.cell? ⟨g, 5, none⟩ = some (.int .i64 f5) := (blk_cell h 5).trans rfl
theorem IsS34.set_5 {w0 W : World} {g : Nat} {f0 : ByteArray} {f1 : Int} {f2 : Int} {f3 : Int} {f4 : Int} {f5 : Int} {f6 : Int} {f7 : Int} {f8 : ByteArray} {f9 : ByteArray} {f10 : Bool} (h : IsS34 w0 W g f0 f1 f2 f3 f4 f5 f6 f7 f8 f9 f10) (x : Int) : IsS34 w0 (W.setCell ⟨g, 5, none⟩ (.int .i64 x)) g f0 f1 f2 f3 f4 x f6 f7 f8 f9 f10 := by
  obtain ⟨hb, hg⟩ := h
  exact ⟨by simpa using blk_set hb 5 (.int .i64 x), hg⟩
theorem cellS34_6 {W : World} {g : Nat} {f0 : ByteArray} {f1 : Int} {f2 : Int} {f3 : Int} {f4 : Int} {f5 : Int} {f6 : Int} {f7 : Int} {f8 : ByteArray} {f9 : ByteArray} {f10 : Bool} (h : W.heap[g]? = some (.cells #[.string f0, .int .i64 f1, .int .i64 f2, .int .i64 f3, .int .i64 f4, .int .i64 f5, .int .i64 f6, .int .i64 f7, .string f8, .string f9, .bool f10] 34 (0, 0))) : W.cell? ⟨g, 6, none⟩ = some (.int .i64 f6) := (blk_cell h 6).trans rfl
theorem IsS34.set_6 {w0 W : World} {g : Nat} {f0 : ByteArray} {f1 : Int} {f2 : Int} {f3 : Int} {f4 : Int} {f5 : Int} {f6 : Int} {f7 : Int} {f8 : ByteArray} {f9 : ByteArray} {f10 : Bool} (h : IsS34 w0 W g f0 f1 f2 f3 f4 f5 f6 f7 f8 f9 f10) (x : Int) : IsS34 w0 (W.setCell ⟨g, 6, none⟩ (.int .i64 x)) g f0 f1 f2 f3 f4 f5 x f7 f8 f9 f10 := by
  obtain ⟨hb, hg⟩ := h
  exact ⟨by simpa using blk_set hb 6 (.int .i64 x), hg⟩
theorem cellS34_7 {W : World} {g : Nat} {f0 : ByteArray} {f1 : Int} {f2 : Int} {f3 : Int} {f4 : Int} {f5 : Int} {f6 : Int} {f7 : Int} {f8 : ByteArray} {f9 : ByteArray} {f10 : Bool} (h : W.heap[g]? = some (.cells #[.string f0, .int .i64 f1, .int .i64 f2, .int .i64 f3, .int .i64 f4, .int .i64 f5, .int .i64 f6, .int .i64 f7, .string f8, .string f9, .bool f10] 34 (0, 0))) : W.cell? ⟨g, 7, none⟩ = some (.int .i64 f7) := (blk_cell h 7).trans rfl
theorem IsS34.set_7 {w0 W : World} {g : Nat} {f0 : ByteArray} {f1 : Int} {f2 : Int} {f3 : Int} {f4 : Int} {f5 : Int} {f6 : Int} {f7 : Int} {f8 : ByteArray} {f9 : ByteArray} {f10 : Bool} (h : IsS34 w0 W g f0 f1 f2 f3 f4 f5 f6 f7 f8 f9 f10) (x : Int) : IsS34 w0 (W.setCell ⟨g, 7, none⟩ (.int .i64 x)) g f0 f1 f2 f3 f4 f5 f6 x f8 f9 f10 := by
  obtain ⟨hb, hg⟩ := h
  exact ⟨by simpa using blk_set hb 7 (.int .i64 x), hg⟩
theorem cellS34_8 {W : World} {g : Nat} {f0 : ByteArray} {f1 : Int} {f2 : Int} {f3 : Int} {f4 : Int} {f5 : Int} {f6 : Int} {f7 : Int} {f8 : ByteArray} {f9 : ByteArray} {f10 : Bool} (h : W.heap[g]? = some (.cells #[.string f0, .int .i64 f1, .int .i64 f2, .int .i64 f3, .int .i64 f4, .int .i64 f5, .int .i64 f6, .int .i64 f7, .string f8, .string f9, .bool f10] 34 (0, 0))) : W.cell? ⟨g, 8, none⟩ = some (.string f8) := (blk_cell h 8).trans rfl
theorem IsS34.set_8 {w0 W : World} {g : Nat} {f0 : ByteArray} {f1 : Int} {f2 : Int} {f3 : Int} {f4 : Int} {f5 : Int} {f6 : Int} {f7 : Int} {f8 : ByteArray} {f9 : ByteArray} {f10 : Bool} (h : IsS34 w0 W g f0 f1 f2 f3 f4 f5 f6 f7 f8 f9 f10) (x : ByteArray) : IsS34 w0 (W.setCell ⟨g, 8, none⟩ (.string x)) g f0 f1 f2 f3 f4 f5 f6 f7 x f9 f10 := by
  obtain ⟨hb, hg⟩ := h
  exact ⟨by simpa using blk_set hb 8 (.string x), hg⟩
theorem cellS34_9 {W : World} {g : Nat} {f0 : ByteArray} {f1 : Int} {f2 : Int} {f3 : Int} {f4 : Int} {f5 : Int} {f6 : Int} {f7 : Int} {f8 : ByteArray} {f9 : ByteArray} {f10 : Bool} (h : W.heap[g]? = some (.cells #[.string f0, .int .i64 f1, .int .i64 f2, .int .i64 f3, .int .i64 f4, .int .i64 f5, .int .i64 f6, .int .i64 f7, .string f8, .string f9, .bool f10] 34 (0, 0))) : W.cell? ⟨g, 9, none⟩ = some (.string f9) := (blk_cell h 9).trans rfl
theorem IsS34.set_9 {w0 W : World} {g : Nat} {f0 : ByteArray} {f1 : Int} {f2 : Int} {f3 : Int} {f4 : Int} {f5 : Int} {f6 : Int} {f7 : Int} {f8 : ByteArray} {f9 : ByteArray} {f10 : Bool} (h : IsS34 w0 W g f0 f1 f2 f3 f4 f5 f6 f7 f8 f9 f10) (x : ByteArray) : IsS34 w0 (W.setCell ⟨g, 9, none⟩ (.string x)) g f0 f1 f2 f3 f4 f5 f6 f7 f8 x f10 := by
  obtain ⟨hb, hg⟩ := h
  exact ⟨by simpa using blk_set hb 9 (.string x), hg⟩
theorem cellS34_10 {W : World} {g : Nat} {f0 : ByteArray} {f1 : Int} {f2 : Int} {f3 : Int} {f4 : Int} {f5 : Int} {f6 : Int} {f7 : Int} {f8 : ByteArray} {f9 : ByteArray} {f10 : Bool} (h : W.heap[g]? = some (.cells #[.string f0, .int .i64 f1, .int .i64 f2, .int .i64 f3, .int .i64 f4, .int .i64 f5, .int .i64 f6, .int .i64 f7, .string f8, .string f9, .bool f10] 34 (0, 0))) : W.cell? ⟨g, 10, none⟩ = some (.bool f10) := (blk_cell h 10).trans rfl
theorem IsS34.set_10 {w0 W : World} {g : Nat} {f0 : ByteArray} {f1 : Int} {f2 : Int} {f3 : Int} {f4 : Int} {f5 : Int} {f6 : Int} {f7 : Int} {f8 : ByteArray} {f9 : ByteArray} {f10 : Bool} (h : IsS34 w0 W g f0 f1 f2 f3 f4 f5 f6 f7 f8 f9 f10) (x : Bool) : IsS34 w0 (W.setCell ⟨g, 10, none⟩ (.bool x)) g f0 f1 f2 f3 f4 f5 f6 f7 f8 f9 x := by
  obtain ⟨hb, hg⟩ := h
  exact ⟨by simpa using blk_set hb 10 (.bool x), hg⟩
theorem IsS34.new (w0 W : World) (f0 : ByteArray) (f1 : Int) (f2 : Int) (f3 : Int) (f4 : Int) (f5 : Int) (f6 : Int) (f7 : Int) (f8 : ByteArray) (f9 : ByteArray) (f10 : Bool) (hB : Below w0.heap.size w0 W) : IsS34 w0 (W.alloc (.cells #[.string f0, .int .i64 f1, .int .i64 f2, .int .i64 f3, .int .i64 f4, .int .i64 f5, .int .i64 f6, .int .i64 f7, .string f8, .string f9, .bool f10] 34)) W.heap.size f0 f1 f2 f3 f4 f5 f6 f7 f8 f9 f10 := ⟨by simpa using heap_alloc_new W _, hB.size⟩
end
section
/-! ### impl_Conn_tell: function 113 -/
def impl_Conn_tell.f (s0_0 : ByteArray) (s0_1 : Int) (s0_2 : Int) (s0_3 : Int) (s0_4 : Int) (s0_5 : Int) (s0_6 : Int) (s0_7 : Int) (s0_8 : ByteArray) (s0_9 : ByteArray) (s0_10 : Bool) (a1 : Int) (a2 : Int) (a3 : ByteArray) : Option (Int × Int × Int × Int × Int × Int × ByteArray) := some (80, s0_2, a1, s0_7, a2, 1000, a3)
def impl_Conn_tell.T1 : Bool × List (List Nat × List Nat) := (true, [([], []), ([0], [0]), ([1], [1]), ([2], [2]), ([], []), ([], []), ([5], [5]), ([6], [6]), ([7], [7]), ([], []), ([], []), ([3, 4, 8, 9, 10], [3, 4, 8, 9, 10]), ([11, 0, 1, 2, 3, 4, 5, 6, 7, 8, 9, 10, 11], [11])])
def impl_Conn_tell.B1 : List Nat := [0, 1, 3, 7, 0, 0, 32, 96, 224, 0, 0, 2047, 4095]
theorem impl_Conn_tell.tab1 : rtab .any (opsOf Try.f113 1) = impl_Conn_tell.T1 := by kernel_rfl
theorem impl_Conn_tell.bits1 : waitsOk impl_Conn_tell.T1.2 impl_Conn_tell.B1 = true := by kernel_rfl
set_option maxHeartbeats 8000000 in
set_option maxRecDepth 100000 in
theorem impl_Conn_tell.calls (g : Nat) (s0_0 : ByteArray) (s0_1 : Int) (s0_2 : Int) (s0_3 : Int) (s0_4 : Int) (s0_5 : Int) (s0_6 : Int) (s0_7 : Int) (s0_8 : ByteArray) (s0_9 : ByteArray) (s0_10 : Bool) (a1 : Int) (a2 : Int) (a3 : ByteArray) (r1 : Int) (r2 : Int) (r3 : Int) (r4 : Int) (r5 : Int) (r6 : Int) (r7 : ByteArray) (w0 w : World) (hI : IsS34 w0 w g s0_0 s0_1 s0_2 s0_3 s0_4 s0_5 s0_6 s0_7 s0_8 s0_9 s0_10) (hB : Below w0.heap.size w0 w) (h : impl_Conn_tell.f s0_0 s0_1 s0_2 s0_3 s0_4 s0_5 s0_6 s0_7 s0_8 s0_9 s0_10 a1 a2 a3 = some (r1, r2, r3, r4, r5, r6, r7)) :
    Calls Try.prog 113 #[.pointer (some ⟨g, 0, none⟩), .int .i64 a1, .int .i64 a2, .string a3] w fun e w' => e = .returned (.agg #[.int .i64 r1, .int .i64 r2, .int .i64 r3, .int .i64 r4, .int .i64 r5, .int .i64 r6, .string r7]) ∧ IsS34 w0 w' g s0_0 s0_1 s0_2 s0_3 s0_4 s0_5 s0_6 s0_7 s0_8 s0_9 s0_10 ∧ Below w0.heap.size w0 w' ∧ KeepBut w w' g none := by
  have hu53 := Try.underlying53
  have HI0 := Aside0.mk hI
  have HK := Aside0.mk (KeepBut.refl w g none)
  have HL := Aside0.mk hB.size
  clear hI
  have HW0 := Aside0.mk hB.size
  have HB := Aside0.mk hB
  clear hB
  have H : (some (80, s0_2, a1, s0_7, a2, 1000, a3)) = some (r1, r2, r3, r4, r5, r6, r7) := h
  clear h
  simp only [Option.some.injEq, Prod.mk.injEq] at H
  obtain ⟨rfl, rfl, rfl, rfl, rfl, rfl, rfl⟩ := H
  go_enter Try.func113, Try.ntmps113
  try go_wp2_with (first | ((with_reducible refine gate_dst (N := 8) rfl ?_); refine box_event ?hg (N := 8) ?hd (cs := #[.int .i64 0, .int .i64 0, .int .i64 0, .int .i64 0, .int .i64 0, .int .i64 0, .string (⟨#[]⟩ : ByteArray)]) (t := 53) ?hr ?_; (case hd => rfl); (case hg => rfl); (case hr => first | (go_simp; done) | (go_simp; rfl)); intro gb357 hg w5 hbox hb; have n0_ := Aside0.mk (IsS34.below (by repeat (first | (with_reducible first | exact HI0.out | apply IsS34.alloc | apply IsS34.drewN | apply IsS34.drew | apply IsS34.set_0 | apply IsS34.set_1 | apply IsS34.set_2 | apply IsS34.set_3 | apply IsS34.set_4 | apply IsS34.set_5 | apply IsS34.set_6 | apply IsS34.set_7 | apply IsS34.set_8 | apply IsS34.set_9 | apply IsS34.set_10) | exact HI0.out)) hb); have n1_ := Aside0.mk (KeepBut.trans (by repeat (first | (with_reducible first | exact HK.out | apply KeepBut.set_ | apply keep_drewN | apply keep_drew | apply keep_alloc) | exact HK.out)) (KeepBut.of_below hb g none) (.inl rfl)); have n2_ := Aside0.mk (below_step (by repeat (first | (with_reducible first | exact HB.out | apply below_alloc | apply pw_below_drewN | apply below_drew1 | refine below_set ?_ (IsS34.ge HI0.out)) | exact HB.out)) hb); have n3_ := Aside0.mk (hbox); have n4_ := Aside0.mk ((by rw [hg]; exact (keep_size (w := w) (g := g) (row := none) (by repeat (first | (with_reducible first | exact HK.out | apply KeepBut.set_ | apply keep_drewN | apply keep_drew | apply keep_alloc) | exact HK.out))) : w.heap.size ≤ gb357)); have n5_ := Aside0.mk ((Nat.le_trans HW0.out (by rw [hg]; exact (keep_size (w := w) (g := g) (row := none) (by repeat (first | (with_reducible first | exact HK.out | apply KeepBut.set_ | apply keep_drewN | apply keep_drew | apply keep_alloc) | exact HK.out))) : w.heap.size ≤ gb357) : w0.heap.size ≤ gb357)); have n6_ := Aside0.mk ((by rw [hg]; exact Nat.ne_of_lt (IsS34.lt (show IsS34 w0 _ g s0_0 s0_1 s0_2 s0_3 s0_4 s0_5 s0_6 s0_7 s0_8 s0_9 s0_10 from by repeat (first | (with_reducible first | exact HI0.out | apply IsS34.alloc | apply IsS34.drewN | apply IsS34.drew | apply IsS34.set_0 | apply IsS34.set_1 | apply IsS34.set_2 | apply IsS34.set_3 | apply IsS34.set_4 | apply IsS34.set_5 | apply IsS34.set_6 | apply IsS34.set_7 | apply IsS34.set_8 | apply IsS34.set_9 | apply IsS34.set_10) | exact HI0.out))) : g ≠ gb357)); have n7_ := Aside0.mk ((by rw [hg]; exact Nat.ne_of_gt (IsS34.lt (show IsS34 w0 _ g s0_0 s0_1 s0_2 s0_3 s0_4 s0_5 s0_6 s0_7 s0_8 s0_9 s0_10 from by repeat (first | (with_reducible first | exact HI0.out | apply IsS34.alloc | apply IsS34.drewN | apply IsS34.drew | apply IsS34.set_0 | apply IsS34.set_1 | apply IsS34.set_2 | apply IsS34.set_3 | apply IsS34.set_4 | apply IsS34.set_5 | apply IsS34.set_6 | apply IsS34.set_7 | apply IsS34.set_8 | apply IsS34.set_9 | apply IsS34.set_10) | exact HI0.out))) : gb357 ≠ g)); clear HI0; clear HK; clear HB; have HI0 := n0_; have HK := n1_; have HB := n2_; have BK357 := n3_; have GW357 := n4_; have GE357 := n5_; have NB0_357 := n6_; have NB357_0 := n7_; clear n0_ n1_ n2_ n3_ n4_ n5_ n6_ n7_; clear hb hbox hg))
  have n0_ := Aside0.mk (blk_drew BK357.out)
  have n1_ := Aside0.mk (IsS34.drew HI0.out)
  have n2_ := Aside0.mk (keep_drew HK.out)
  have n3_ := Aside0.mk (below_drew1 HB.out)
  clear BK357
  clear HI0
  clear HK
  clear HB
  have BK357 := n0_
  have HI0 := n1_
  have HK := n2_
  have HB := n3_
  clear n0_ n1_ n2_ n3_
  refine start_ (n := 13) (S := fun w' => w'.cell? ⟨g, 0, none⟩ = some (.string s0_0) ∧ w'.cell? ⟨g, 1, none⟩ = some (.int .i64 s0_1) ∧ w'.cell? ⟨g, 2, none⟩ = some (.int .i64 s0_2) ∧ w'.cell? ⟨g, 3, none⟩ = some (.int .i64 s0_3) ∧ w'.cell? ⟨g, 4, none⟩ = some (.int .i64 s0_4) ∧ w'.cell? ⟨g, 5, none⟩ = some (.int .i64 s0_5) ∧ w'.cell? ⟨g, 6, none⟩ = some (.int .i64 s0_6) ∧ w'.cell? ⟨g, 7, none⟩ = some (.int .i64 s0_7) ∧ w'.cell? ⟨g, 8, none⟩ = some (.string s0_8) ∧ w'.cell? ⟨g, 9, none⟩ = some (.string s0_9) ∧ w'.cell? ⟨g, 10, none⟩ = some (.bool s0_10)) (ds := []) #[false, false, false, false, false, false, false, false, false, false, false, false, false] (by kernel_rfl) rfl rfl ⟨(cellS34_0 HI0.out.1), (cellS34_1 HI0.out.1), (cellS34_2 HI0.out.1), (cellS34_3 HI0.out.1), (cellS34_4 HI0.out.1), (cellS34_5 HI0.out.1), (cellS34_6 HI0.out.1), (cellS34_7 HI0.out.1), (cellS34_8 HI0.out.1), (cellS34_9 HI0.out.1), (cellS34_10 HI0.out.1)⟩ (fun hHeld => ?_); refine with_tabW impl_Conn_tell.tab1 impl_Conn_tell.bits1 (fun HT_ HW_ => ?_)
  generalize w5.drew = w6 at BK357 HI0 HK HB hHeld ⊢
  refine pure_ (i := 0) (N := some 9) (v := ?_) (a' := ?_) #[true, false, false, false, false, false, false, false, false, false, false, false, false] rfl rfl (any_of HT_.out (by kernel_rfl)) (fun _ _ _ h => h) (Or.inl ⟨by rfl, ?_⟩) ?_ ?_
  rotate_left
  · intro w'
    go_simp
    with_reducible rfl
  rotate_left
  · simp only [Act.put, List.setIfInBounds_toArray, List.set_cons_zero, List.set_cons_succ, i64_w, i32_w]
    rfl
  refine pure_ (i := 1) (N := some 10) (v := ?_) (a' := ?_) #[true, true, false, false, false, false, false, false, false, false, false, false, false] rfl rfl (any_of HT_.out (by kernel_rfl)) (fun _ _ _ h => h) (Or.inl ⟨by rfl, ?_⟩) ?_ ?_
  rotate_left
  · intro w'
    go_simp
    with_reducible rfl
  rotate_left
  · simp only [Act.put, List.setIfInBounds_toArray, List.set_cons_zero, List.set_cons_succ, i64_w, i32_w]
    rfl
  refine pure_ (i := 2) (N := some 11) (v := ?_) (a' := ?_) #[true, true, true, false, false, false, false, false, false, false, false, false, false] rfl rfl (any_of HT_.out (by kernel_rfl)) (fun _ _ _ h => h) (Or.inl ⟨by rfl, ?_⟩) ?_ ?_
  rotate_left
  · intro w'
    go_simp
    with_reducible rfl
  rotate_left
  · simp only [Act.put, List.setIfInBounds_toArray, List.set_cons_zero, List.set_cons_succ, i64_w, i32_w]
    rfl
  refine pure_ (i := 4) (N := some 13) (v := ?_) (a' := ?_) #[true, true, true, false, true, false, false, false, false, false, false, false, false] rfl rfl (any_of HT_.out (by kernel_rfl)) (fun _ _ _ h => h) (Or.inl ⟨by rfl, ?_⟩) ?_ ?_
  rotate_left
  · intro w'
    go_simp
    with_reducible rfl
  rotate_left
  · simp only [Act.put, List.setIfInBounds_toArray, List.set_cons_zero, List.set_cons_succ, i64_w, i32_w]
    rfl
  refine pure_ (i := 5) (N := some 14) (v := ?_) (a' := ?_) #[true, true, true, false, true, true, false, false, false, false, false, false, false] rfl rfl (any_of HT_.out (by kernel_rfl)) (fun _ _ _ h => h) (Or.inl ⟨by rfl, ?_⟩) ?_ ?_
  rotate_left
  · intro w'
    go_simp
    with_reducible rfl
  rotate_left
  · simp only [Act.put, List.setIfInBounds_toArray, List.set_cons_zero, List.set_cons_succ, i64_w, i32_w]
    rfl
  refine pure_ (i := 6) (N := some 15) (v := ?_) (a' := ?_) #[true, true, true, false, true, true, true, false, false, false, false, false, false] rfl rfl (any_of HT_.out (by kernel_rfl)) (fun _ _ _ h => h) (Or.inl ⟨by rfl, ?_⟩) ?_ ?_
  rotate_left
  · intro w'
    go_simp
    with_reducible rfl
  rotate_left
  · simp only [Act.put, List.setIfInBounds_toArray, List.set_cons_zero, List.set_cons_succ, i64_w, i32_w]
    rfl
  refine pure_ (i := 7) (N := some 16) (v := ?_) (a' := ?_) #[true, true, true, false, true, true, true, true, false, false, false, false, false] rfl rfl (any_of HT_.out (by kernel_rfl)) (fun _ _ _ h => h) (Or.inl ⟨by rfl, ?_⟩) ?_ ?_
  rotate_left
  · intro w'
    go_simp
    with_reducible rfl
  rotate_left
  · simp only [Act.put, List.setIfInBounds_toArray, List.set_cons_zero, List.set_cons_succ, i64_w, i32_w]
    rfl
  refine pure_ (i := 9) (N := some 18) (v := ?_) (a' := ?_) #[true, true, true, false, true, true, true, true, false, true, false, false, false] rfl rfl (any_of HT_.out (by kernel_rfl)) (fun _ _ _ h => h) (Or.inl ⟨by rfl, ?_⟩) ?_ ?_
  rotate_left
  · intro w'
    go_simp
    with_reducible rfl
  rotate_left
  · simp only [Act.put, List.setIfInBounds_toArray, List.set_cons_zero, List.set_cons_succ, i64_w, i32_w]
    rfl
  refine pure_ (i := 10) (N := some 19) (v := ?_) (a' := ?_) #[true, true, true, false, true, true, true, true, false, true, true, false, false] rfl rfl (any_of HT_.out (by kernel_rfl)) (fun _ _ _ h => h) (Or.inl ⟨by rfl, ?_⟩) ?_ ?_
  rotate_left
  · intro w'
    go_simp
    with_reducible rfl
  rotate_left
  · simp only [Act.put, List.setIfInBounds_toArray, List.set_cons_zero, List.set_cons_succ, i64_w, i32_w]
    rfl
  refine take_ (i := 3) (N := some 12) (v := ?_) (a' := ?_) #[true, true, true, true, true, true, true, true, false, true, true, false, false] rfl rfl (take_ofW HT_.out HW_.out (by kernel_rfl)) (fun _ _ _ h => h) (Or.inl ⟨by rfl, ?_⟩) hHeld ?_ ?_
  rotate_left
  · rintro w' ⟨s0, s1, s2, s3, s4, s5, s6, s7, s8, s9, s10⟩
    go_simp
    with_reducible rfl
  rotate_left
  · simp only [Act.put, List.setIfInBounds_toArray, List.set_cons_zero, List.set_cons_succ, i64_w, i32_w]
    rfl
  refine take_ (i := 8) (N := some 17) (v := ?_) (a' := ?_) #[true, true, true, true, true, true, true, true, true, true, true, false, false] rfl rfl (take_ofW HT_.out HW_.out (by kernel_rfl)) (fun _ _ _ h => h) (Or.inl ⟨by rfl, ?_⟩) hHeld ?_ ?_
  rotate_left
  · rintro w' ⟨s0, s1, s2, s3, s4, s5, s6, s7, s8, s9, s10⟩
    go_simp
    with_reducible rfl
  rotate_left
  · simp only [Act.put, List.setIfInBounds_toArray, List.set_cons_zero, List.set_cons_succ, i64_w, i32_w]
    rfl
  refine pure_ (i := 11) (N := some 20) (v := ?_) (a' := ?_) #[true, true, true, true, true, true, true, true, true, true, true, true, false] rfl rfl (any_of HT_.out (by kernel_rfl)) (fun _ _ _ h => h) (Or.inl ⟨by rfl, ?_⟩) ?_ ?_
  rotate_left
  · intro w'
    go_simp
    with_reducible rfl
  rotate_left
  · simp only [Act.put, List.setIfInBounds_toArray, List.set_cons_zero, List.set_cons_succ, i64_w, i32_w]
    rfl
  refine one_ (i := 12) (N := none) #[true, true, true, true, true, true, true, true, true, true, true, true, true] rfl rfl (one_of HT_.out (by kernel_rfl)) (by decide) (fun K hK => ?_)
  have hs7 : w6.cell? ⟨gb357, 0, none⟩ = some (.int .i64 0) := (blk_cell BK357.out 0).trans rfl
  have hfs7 := blk_frozen BK357.out 0
  have hs8 : w6.cell? ⟨gb357, 1, none⟩ = some (.int .i64 0) := (blk_cell BK357.out 1).trans rfl
  have hfs8 := blk_frozen BK357.out 1
  have hs9 : w6.cell? ⟨gb357, 2, none⟩ = some (.int .i64 0) := (blk_cell BK357.out 2).trans rfl
  have hfs9 := blk_frozen BK357.out 2
  have hs10 : w6.cell? ⟨gb357, 3, none⟩ = some (.int .i64 0) := (blk_cell BK357.out 3).trans rfl
  have hfs10 := blk_frozen BK357.out 3
  have hs11 : w6.cell? ⟨gb357, 4, none⟩ = some (.int .i64 0) := (blk_cell BK357.out 4).trans rfl
  have hfs11 := blk_frozen BK357.out 4
  have hs12 : w6.cell? ⟨gb357, 5, none⟩ = some (.int .i64 0) := (blk_cell BK357.out 5).trans rfl
  have hfs12 := blk_frozen BK357.out 5
  have hs13 : w6.cell? ⟨gb357, 6, none⟩ = some (.string (⟨#[]⟩ : ByteArray)) := (blk_cell BK357.out 6).trans rfl
  have hfs13 := blk_frozen BK357.out 6
  refine skip_ (w1 := ?_) (by rfl) rfl ?_ ?_
  rotate_left
  · go_simp
    rfl
  refine hK.out _ _ ⟨((cell_far (p := ⟨gb357, _, none⟩) NB0_357.out _).trans (((cell_far (p := ⟨gb357, _, none⟩) NB0_357.out _).trans (((cell_far (p := ⟨gb357, _, none⟩) NB0_357.out _).trans (((cell_far (p := ⟨gb357, _, none⟩) NB0_357.out _).trans (((cell_far (p := ⟨gb357, _, none⟩) NB0_357.out _).trans (((cell_far (p := ⟨gb357, _, none⟩) NB0_357.out _).trans (((cell_far (p := ⟨gb357, _, none⟩) NB0_357.out _).trans (hHeld.1)))))))))))))), ((cell_far (p := ⟨gb357, _, none⟩) NB0_357.out _).trans (((cell_far (p := ⟨gb357, _, none⟩) NB0_357.out _).trans (((cell_far (p := ⟨gb357, _, none⟩) NB0_357.out _).trans (((cell_far (p := ⟨gb357, _, none⟩) NB0_357.out _).trans (((cell_far (p := ⟨gb357, _, none⟩) NB0_357.out _).trans (((cell_far (p := ⟨gb357, _, none⟩) NB0_357.out _).trans (((cell_far (p := ⟨gb357, _, none⟩) NB0_357.out _).trans (hHeld.2.1)))))))))))))), ((cell_far (p := ⟨gb357, _, none⟩) NB0_357.out _).trans (((cell_far (p := ⟨gb357, _, none⟩) NB0_357.out _).trans (((cell_far (p := ⟨gb357, _, none⟩) NB0_357.out _).trans (((cell_far (p := ⟨gb357, _, none⟩) NB0_357.out _).trans (((cell_far (p := ⟨gb357, _, none⟩) NB0_357.out _).trans (((cell_far (p := ⟨gb357, _, none⟩) NB0_357.out _).trans (((cell_far (p := ⟨gb357, _, none⟩) NB0_357.out _).trans (hHeld.2.2.1)))))))))))))), ((cell_far (p := ⟨gb357, _, none⟩) NB0_357.out _).trans (((cell_far (p := ⟨gb357, _, none⟩) NB0_357.out _).trans (((cell_far (p := ⟨gb357, _, none⟩) NB0_357.out _).trans (((cell_far (p := ⟨gb357, _, none⟩) NB0_357.out _).trans (((cell_far (p := ⟨gb357, _, none⟩) NB0_357.out _).trans (((cell_far (p := ⟨gb357, _, none⟩) NB0_357.out _).trans (((cell_far (p := ⟨gb357, _, none⟩) NB0_357.out _).trans (hHeld.2.2.2.1)))))))))))))), ((cell_far (p := ⟨gb357, _, none⟩) NB0_357.out _).trans (((cell_far (p := ⟨gb357, _, none⟩) NB0_357.out _).trans (((cell_far (p := ⟨gb357, _, none⟩) NB0_357.out _).trans (((cell_far (p := ⟨gb357, _, none⟩) NB0_357.out _).trans (((cell_far (p := ⟨gb357, _, none⟩) NB0_357.out _).trans (((cell_far (p := ⟨gb357, _, none⟩) NB0_357.out _).trans (((cell_far (p := ⟨gb357, _, none⟩) NB0_357.out _).trans (hHeld.2.2.2.2.1)))))))))))))), ((cell_far (p := ⟨gb357, _, none⟩) NB0_357.out _).trans (((cell_far (p := ⟨gb357, _, none⟩) NB0_357.out _).trans (((cell_far (p := ⟨gb357, _, none⟩) NB0_357.out _).trans (((cell_far (p := ⟨gb357, _, none⟩) NB0_357.out _).trans (((cell_far (p := ⟨gb357, _, none⟩) NB0_357.out _).trans (((cell_far (p := ⟨gb357, _, none⟩) NB0_357.out _).trans (((cell_far (p := ⟨gb357, _, none⟩) NB0_357.out _).trans (hHeld.2.2.2.2.2.1)))))))))))))), ((cell_far (p := ⟨gb357, _, none⟩) NB0_357.out _).trans (((cell_far (p := ⟨gb357, _, none⟩) NB0_357.out _).trans (((cell_far (p := ⟨gb357, _, none⟩) NB0_357.out _).trans (((cell_far (p := ⟨gb357, _, none⟩) NB0_357.out _).trans (((cell_far (p := ⟨gb357, _, none⟩) NB0_357.out _).trans (((cell_far (p := ⟨gb357, _, none⟩) NB0_357.out _).trans (((cell_far (p := ⟨gb357, _, none⟩) NB0_357.out _).trans (hHeld.2.2.2.2.2.2.1)))))))))))))), ((cell_far (p := ⟨gb357, _, none⟩) NB0_357.out _).trans (((cell_far (p := ⟨gb357, _, none⟩) NB0_357.out _).trans (((cell_far (p := ⟨gb357, _, none⟩) NB0_357.out _).trans (((cell_far (p := ⟨gb357, _, none⟩) NB0_357.out _).trans (((cell_far (p := ⟨gb357, _, none⟩) NB0_357.out _).trans (((cell_far (p := ⟨gb357, _, none⟩) NB0_357.out _).trans (((cell_far (p := ⟨gb357, _, none⟩) NB0_357.out _).trans (hHeld.2.2.2.2.2.2.2.1)))))))))))))), ((cell_far (p := ⟨gb357, _, none⟩) NB0_357.out _).trans (((cell_far (p := ⟨gb357, _, none⟩) NB0_357.out _).trans (((cell_far (p := ⟨gb357, _, none⟩) NB0_357.out _).trans (((cell_far (p := ⟨gb357, _, none⟩) NB0_357.out _).trans (((cell_far (p := ⟨gb357, _, none⟩) NB0_357.out _).trans (((cell_far (p := ⟨gb357, _, none⟩) NB0_357.out _).trans (((cell_far (p := ⟨gb357, _, none⟩) NB0_357.out _).trans (hHeld.2.2.2.2.2.2.2.2.1)))))))))))))), ((cell_far (p := ⟨gb357, _, none⟩) NB0_357.out _).trans (((cell_far (p := ⟨gb357, _, none⟩) NB0_357.out _).trans (((cell_far (p := ⟨gb357, _, none⟩) NB0_357.out _).trans (((cell_far (p := ⟨gb357, _, none⟩) NB0_357.out _).trans (((cell_far (p := ⟨gb357, _, none⟩) NB0_357.out _).trans (((cell_far (p := ⟨gb357, _, none⟩) NB0_357.out _).trans (((cell_far (p := ⟨gb357, _, none⟩) NB0_357.out _).trans (hHeld.2.2.2.2.2.2.2.2.2.1)))))))))))))), ((cell_far (p := ⟨gb357, _, none⟩) NB0_357.out _).trans (((cell_far (p := ⟨gb357, _, none⟩) NB0_357.out _).trans (((cell_far (p := ⟨gb357, _, none⟩) NB0_357.out _).trans (((cell_far (p := ⟨gb357, _, none⟩) NB0_357.out _).trans (((cell_far (p := ⟨gb357, _, none⟩) NB0_357.out _).trans (((cell_far (p := ⟨gb357, _, none⟩) NB0_357.out _).trans (((cell_far (p := ⟨gb357, _, none⟩) NB0_357.out _).trans (hHeld.2.2.2.2.2.2.2.2.2.2))))))))))))))⟩ (fun hHeld => ?_)
  clear hK K
  refine done_ (done_of HT_.out (by kernel_rfl)) ?_
  try go_wp2
  refine bodyPost_ret (results_cell_row rfl _ _ gb357 53 #[.int .i64 80, .int .i64 s0_2, .int .i64 a1, .int .i64 s0_7, .int .i64 a2, .int .i64 1000, .string a3] (0, 0) _ rfl (by (with_reducible repeat (first | refine blk_drewN ?_ _ | refine blk_drew ?_ | refine blk_alloc ?_ _)); refine blk_put (cs := #[.int .i64 80, .int .i64 s0_2, .int .i64 a1, .int .i64 s0_7, .int .i64 a2, .int .i64 1000, .string (⟨#[]⟩ : ByteArray)]) ?_ 6 _ rfl; (with_reducible repeat (first | refine blk_drewN ?_ _ | refine blk_drew ?_ | refine blk_alloc ?_ _)); refine blk_put (cs := #[.int .i64 80, .int .i64 s0_2, .int .i64 a1, .int .i64 s0_7, .int .i64 a2, .int .i64 0, .string (⟨#[]⟩ : ByteArray)]) ?_ 5 _ rfl; (with_reducible repeat (first | refine blk_drewN ?_ _ | refine blk_drew ?_ | refine blk_alloc ?_ _)); refine blk_put (cs := #[.int .i64 80, .int .i64 s0_2, .int .i64 a1, .int .i64 s0_7, .int .i64 0, .int .i64 0, .string (⟨#[]⟩ : ByteArray)]) ?_ 4 _ rfl; (with_reducible repeat (first | refine blk_drewN ?_ _ | refine blk_drew ?_ | refine blk_alloc ?_ _)); refine blk_put (cs := #[.int .i64 80, .int .i64 s0_2, .int .i64 a1, .int .i64 0, .int .i64 0, .int .i64 0, .string (⟨#[]⟩ : ByteArray)]) ?_ 3 _ rfl; (with_reducible repeat (first | refine blk_drewN ?_ _ | refine blk_drew ?_ | refine blk_alloc ?_ _)); refine blk_put (cs := #[.int .i64 80, .int .i64 s0_2, .int .i64 0, .int .i64 0, .int .i64 0, .int .i64 0, .string (⟨#[]⟩ : ByteArray)]) ?_ 2 _ rfl; (with_reducible repeat (first | refine blk_drewN ?_ _ | refine blk_drew ?_ | refine blk_alloc ?_ _)); refine blk_put (cs := #[.int .i64 80, .int .i64 0, .int .i64 0, .int .i64 0, .int .i64 0, .int .i64 0, .string (⟨#[]⟩ : ByteArray)]) ?_ 1 _ rfl; (with_reducible repeat (first | refine blk_drewN ?_ _ | refine blk_drew ?_ | refine blk_alloc ?_ _)); refine blk_put (cs := #[.int .i64 0, .int .i64 0, .int .i64 0, .int .i64 0, .int .i64 0, .int .i64 0, .string (⟨#[]⟩ : ByteArray)]) ?_ 0 _ rfl; (with_reducible repeat (first | refine blk_drewN ?_ _ | refine blk_drew ?_ | refine blk_alloc ?_ _)); exact BK357.out) Try.underlying53 rfl (by kernel_rfl)) rfl ?_
  exact ⟨by first | rfl | (simp [errW_none, errW_some] <;> rfl) | (simp [*, errW_none, errW_some] <;> rfl), by repeat (first | (with_reducible first | exact HI0.out | apply IsS34.alloc | apply IsS34.drewN | apply IsS34.drew | apply IsS34.set_0 | apply IsS34.set_1 | apply IsS34.set_2 | apply IsS34.set_3 | apply IsS34.set_4 | apply IsS34.set_5 | apply IsS34.set_6 | apply IsS34.set_7 | apply IsS34.set_8 | apply IsS34.set_9 | apply IsS34.set_10 | refine IsS34.far ?_ NB0_357.out _) | exact HI0.out), by repeat (first | (with_reducible first | exact HB.out | apply below_alloc | apply pw_below_drewN | apply below_drew1 | refine below_set ?_ (IsS34.ge HI0.out) | refine below_set ?_ GE357.out) | exact HB.out), by repeat (first | (with_reducible first | exact HK.out | apply KeepBut.set_ | apply keep_drewN | apply keep_drew | apply keep_alloc | refine keep_far ?_ GW357.out _) | exact HK.out)⟩
end
section
/-! ### impl_Conn_opened: function 87 -/
def impl_Conn_opened.f (s0_0 : ByteArray) (s0_1 : Int) (s0_2 : Int) (s0_3 : Int) (s0_4 : Int) (s0_5 : Int) (s0_6 : Int) (s0_7 : Int) (s0_8 : ByteArray) (s0_9 : ByteArray) (s0_10 : Bool) : Option ((List (S53))) := (impl_Conn_tell.f s0_0 s0_1 s0_2 s0_3 s0_4 s0_5 s0_6 s0_7 s0_8 s0_9 s0_10 s0_5 18 (⟨#[]⟩ : ByteArray)).bind fun bt358 => (some (([(⟨bt358.1, bt358.2.1, bt358.2.2.1, bt358.2.2.2.1, bt358.2.2.2.2.1, bt358.2.2.2.2.2.1, bt358.2.2.2.2.2.2⟩ : S53)] : List (S53))))
set_option maxHeartbeats 8000000 in
set_option maxRecDepth 100000 in
theorem impl_Conn_opened.calls (g : Nat) (s0_0 : ByteArray) (s0_1 : Int) (s0_2 : Int) (s0_3 : Int) (s0_4 : Int) (s0_5 : Int) (s0_6 : Int) (s0_7 : Int) (s0_8 : ByteArray) (s0_9 : ByteArray) (s0_10 : Bool) (r : List (S53)) (w0 w : World) (hI : IsS34 w0 w g s0_0 s0_1 s0_2 s0_3 s0_4 s0_5 s0_6 s0_7 s0_8 s0_9 s0_10) (hB : Below w0.heap.size w0 w) (h : impl_Conn_opened.f s0_0 s0_1 s0_2 s0_3 s0_4 s0_5 s0_6 s0_7 s0_8 s0_9 s0_10 = some r) :
    Calls Try.prog 87 #[.pointer (some ⟨g, 0, none⟩)] w fun e w' => ∃ v0_ : Value, e = .returned (v0_) ∧ Kd.R k53 53 w' w.heap.size (fun _ => True) v0_ r ∧ IsS34 w0 w' g s0_0 s0_1 s0_2 s0_3 s0_4 s0_5 s0_6 s0_7 s0_8 s0_9 s0_10 ∧ Below w0.heap.size w0 w' ∧ KeepBut w w' g none := by
  have HI0 := Aside0.mk hI
  have HK := Aside0.mk (KeepBut.refl w g none)
  have HL := Aside0.mk hB.size
  clear hI
  have HW0 := Aside0.mk hB.size
  have HB := Aside0.mk hB
  clear hB
  have H : ((impl_Conn_tell.f s0_0 s0_1 s0_2 s0_3 s0_4 s0_5 s0_6 s0_7 s0_8 s0_9 s0_10 s0_5 18 (⟨#[]⟩ : ByteArray)).bind fun bt358 => (some (([(⟨bt358.1, bt358.2.1, bt358.2.2.1, bt358.2.2.2.1, bt358.2.2.2.2.1, bt358.2.2.2.2.2.1, bt358.2.2.2.2.2.2⟩ : S53)] : List (S53))))) = some r := h
  clear h
  replace H := Option.bind_eq_some_iff.mp H
  obtain ⟨⟨t358, t359, t360, t361, t362, t363, t364⟩, A20, H⟩ := H
  replace H : (some (([(⟨t358, t359, t360, t361, t362, t363, t364⟩ : S53)] : List (S53)))) = some r := H
  have A2 := Aside0.mk A20
  clear A20
  obtain ⟨y365, hy365⟩ : ∃ y_ : List (S53), y_ = (([(⟨t358, t359, t360, t361, t362, t363, t364⟩ : S53)] : List (S53))) := ⟨_, rfl⟩
  replace H : (some y365) = some r := by first | (rw [hy365]; with_reducible exact H) | (have H2_ := (Option.bind_some _ _).symm.trans H; rw [hy365]; with_reducible exact H2_) | (have H2_ := (Option.bind_some _ _).symm.trans H; with_reducible exact H2_) | with_reducible exact H | (rw [hy365]; exact H) | exact H
  have Ny365 := Aside0.mk hy365
  clear hy365
  obtain rfl := Option.some.inj H
  obtain ⟨HGz3, hgz3⟩ := HI0.out
  have hcz3_0 := cellS34_0 HGz3
  have hcz3_1 := cellS34_1 HGz3
  have hcz3_2 := cellS34_2 HGz3
  have hcz3_3 := cellS34_3 HGz3
  have hcz3_4 := cellS34_4 HGz3
  have hcz3_5 := cellS34_5 HGz3
  have hcz3_6 := cellS34_6 HGz3
  have hcz3_7 := cellS34_7 HGz3
  have hcz3_8 := cellS34_8 HGz3
  have hcz3_9 := cellS34_9 HGz3
  have hcz3_10 := cellS34_10 HGz3
  have hfz3_0 := blk_frozen HGz3 0
  have hfz3_1 := blk_frozen HGz3 1
  have hfz3_2 := blk_frozen HGz3 2
  have hfz3_3 := blk_frozen HGz3 3
  have hfz3_4 := blk_frozen HGz3 4
  have hfz3_5 := blk_frozen HGz3 5
  have hfz3_6 := blk_frozen HGz3 6
  have hfz3_7 := blk_frozen HGz3 7
  have hfz3_8 := blk_frozen HGz3 8
  have hfz3_9 := blk_frozen HGz3 9
  have hfz3_10 := blk_frozen HGz3 10
  clear HGz3 hgz3
  go_enter Try.func87, Try.ntmps87
  go_wp2_with (first | ((with_reducible refine gate_callee (f := 113) rfl ?_); refine goesL_ (some 8) rfl rfl Try.func113 (by kernel_rfl) rfl #[.pointer (some ⟨g, 0, none⟩), .int .i64 s0_5, .int .i64 18, .string (⟨#[]⟩ : ByteArray)] rfl (by (try simp only [List.map_toArray, List.map_cons, List.map_nil]); first | done | rfl | (simp only [List.length_drop, List.length_take]; rfl)) ?_; (with_reducible refine (impl_Conn_tell.calls g s0_0 s0_1 s0_2 s0_3 s0_4 s0_5 s0_6 s0_7 s0_8 s0_9 s0_10 s0_5 18 (⟨#[]⟩ : ByteArray) t358 t359 t360 t361 t362 t363 t364 w0 _ ?side1 ?side2 A2.out).mono ?_); (case side1 => repeat (first | (with_reducible first | exact HI0.out | apply IsS34.alloc | apply IsS34.drewN | apply IsS34.drew | apply IsS34.set_0 | apply IsS34.set_1 | apply IsS34.set_2 | apply IsS34.set_3 | apply IsS34.set_4 | apply IsS34.set_5 | apply IsS34.set_6 | apply IsS34.set_7 | apply IsS34.set_8 | apply IsS34.set_9 | apply IsS34.set_10) | exact HI0.out)); (case side2 => repeat (first | (with_reducible first | exact HB.out | apply below_alloc | apply pw_below_drewN | apply below_drew1 | refine below_set ?_ (IsS34.ge HI0.out)) | exact HB.out)); rintro e w4 ⟨rfl, hi, hb, hk⟩; refine ⟨_, rfl, ?_⟩; have n0_ := Aside0.mk (KeepBut.trans (by repeat (first | (with_reducible first | exact HK.out | apply KeepBut.set_ | apply keep_drewN | apply keep_drew | apply keep_alloc) | exact HK.out)) hk (.inl rfl)); have n1_ := Aside0.mk (hb); have n2_ := Aside0.mk (hi); clear HK; clear HB; clear HI0; have HK := n0_; have HB := n1_; have HI0 := n2_; clear n0_ n1_ n2_; (try clear hb); (try clear hb2); (try clear hk); (try clear hi)) | ((with_reducible refine gate_dst (N := 9) rfl ?_); refine Kd.R_lit k53 _ 53 ?hg (N := 9) ?hd (xs := ([(⟨t358, t359, t360, t361, t362, t363, t364⟩ : S53)] : List (S53))) (inner := [.int .i64 t358, .int .i64 t359, .int .i64 t360, .int .i64 t361, .int .i64 t362, .int .i64 t363, .string t364]) (ok := fun _ => True) (okp := fun _ => True) ?hr ?hp (fun _ hk => hk) trivial (Below.refl _ _) (Nat.le_refl _) (by simp) ?_; (case hd => rfl); (case hg => rfl); (case hr => first | (go_simp; done) | (go_simp; rfl)); (case hp => exact (Reps.c7 (show Kd.M k53 _ _ _ (⟨t358, t359, t360, t361, t362, t363, t364⟩ : S53) [.int .i64 t358, .int .i64 t359, .int .i64 t360, .int .i64 t361, .int .i64 t362, .int .i64 t363, .string t364] from (k53_mkM _ _ _ (⟨t358, t359, t360, t361, t362, t363, t364⟩ : S53) )) (Reps.none _ _))); intro v366 w5 ho6 hb hg_ hnew_; clear hg_ hnew_; (first | rw [← Ny365.out] at ho6 | (simp only [Int.reduceToNat] at ho6; rw [← Ny365.out] at ho6)); have n0_ := Aside0.mk (Kd.R_lower ho6 (keep_size (w := w) (g := g) (row := none) (by repeat (first | (with_reducible first | exact HK.out | apply KeepBut.set_ | apply keep_drewN | apply keep_drew | apply keep_alloc) | exact HK.out)))); have n1_ := Aside0.mk (IsS34.below (by repeat (first | (with_reducible first | exact HI0.out | apply IsS34.alloc | apply IsS34.drewN | apply IsS34.drew | apply IsS34.set_0 | apply IsS34.set_1 | apply IsS34.set_2 | apply IsS34.set_3 | apply IsS34.set_4 | apply IsS34.set_5 | apply IsS34.set_6 | apply IsS34.set_7 | apply IsS34.set_8 | apply IsS34.set_9 | apply IsS34.set_10) | exact HI0.out)) hb); have n2_ := Aside0.mk (KeepBut.trans (by repeat (first | (with_reducible first | exact HK.out | apply KeepBut.set_ | apply keep_drewN | apply keep_drew | apply keep_alloc) | exact HK.out)) (KeepBut.of_below hb g none) (.inl rfl)); have n3_ := Aside0.mk (below_step (by repeat (first | (with_reducible first | exact HB.out | apply below_alloc | apply pw_below_drewN | apply below_drew1 | refine below_set ?_ (IsS34.ge HI0.out)) | exact HB.out)) hb); clear HI0; clear HK; clear HB; have HO367 := n0_; have HI0 := n1_; have HK := n2_; have HB := n3_; clear n0_ n1_ n2_ n3_; clear hb ho6))
  go_ret
  exact ⟨_, by first | rfl | (simp [errW_none, errW_some] <;> rfl) | (simp [*, errW_none, errW_some] <;> rfl), by (with_reducible repeat (first | apply Kd.R_alloc | apply Kd.R_drewN | apply Kd.R_drew)); exact HO367.out, by repeat (first | (with_reducible first | exact HI0.out | apply IsS34.alloc | apply IsS34.drewN | apply IsS34.drew | apply IsS34.set_0 | apply IsS34.set_1 | apply IsS34.set_2 | apply IsS34.set_3 | apply IsS34.set_4 | apply IsS34.set_5 | apply IsS34.set_6 | apply IsS34.set_7 | apply IsS34.set_8 | apply IsS34.set_9 | apply IsS34.set_10) | exact HI0.out), by repeat (first | (with_reducible first | exact HB.out | apply below_alloc | apply pw_below_drewN | apply below_drew1 | refine below_set ?_ (IsS34.ge HI0.out)) | exact HB.out), by repeat (first | (with_reducible first | exact HK.out | apply KeepBut.set_ | apply keep_drewN | apply keep_drew | apply keep_alloc) | exact HK.out)⟩
end
section
/-! ### impl_ConnOpen: function 36 -/
def impl_ConnOpen.j0 : Nat → ByteArray → Int → Int → Int → Bool → Int → Int → Int → Int → Int → Int → ByteArray → Option (ByteArray × Int × Int × Int × Int × Int × Int × Int × ByteArray × ByteArray × Bool × (List (S53)) × Int)
  | 0, _, _, _, _, _, _, _, _, _, _, _, _ => none
  | k + 1, x0, x1, x2, x4, x19, x369000, x369001, x369002, x369003, x369004, x369005, x369006 => if x19 = true then (some ((⟨#[]⟩ : ByteArray), 0, 0, 0, 0, 0, 0, 0, (⟨#[]⟩ : ByteArray), (⟨#[]⟩ : ByteArray), false, ([] : List (S53)), 1)) else ((impl_isAddress.f x4).bind fun t374 => (if t374 = true then ((impl_opens.f x369000 x369001 x369002 x369003 x369004 x369005 x369006).bind fun t375 => (if t375 = true then ((impl_newConn.f x0 x1 x2 x369000 x369001 x369002 x369003 x369004 x369005 x369006 x4).bind fun bt376 => ((impl_Conn_opened.f bt376.1 bt376.2.1 bt376.2.2.1 bt376.2.2.2.1 bt376.2.2.2.2.1 bt376.2.2.2.2.2.1 bt376.2.2.2.2.2.2.1 bt376.2.2.2.2.2.2.2.1 bt376.2.2.2.2.2.2.2.2.1 bt376.2.2.2.2.2.2.2.2.2.1 bt376.2.2.2.2.2.2.2.2.2.2).bind fun t388 => (some (bt376.1, bt376.2.1, bt376.2.2.1, bt376.2.2.2.1, bt376.2.2.2.2.1, bt376.2.2.2.2.2.1, bt376.2.2.2.2.2.2.1, bt376.2.2.2.2.2.2.2.1, bt376.2.2.2.2.2.2.2.2.1, bt376.2.2.2.2.2.2.2.2.2.1, bt376.2.2.2.2.2.2.2.2.2.2, t388, 0)))) else (some ((⟨#[]⟩ : ByteArray), 0, 0, 0, 0, 0, 0, 0, (⟨#[]⟩ : ByteArray), (⟨#[]⟩ : ByteArray), false, ([] : List (S53)), 12)))) else (some ((⟨#[]⟩ : ByteArray), 0, 0, 0, 0, 0, 0, 0, (⟨#[]⟩ : ByteArray), (⟨#[]⟩ : ByteArray), false, ([] : List (S53)), 4))))
def impl_ConnOpen.f (k : Nat) (a0 : ByteArray) (a1 : Int) (a2 : Int) (a3_0 : Int) (a3_1 : Int) (a3_2 : Int) (a3_3 : Int) (a3_4 : Int) (a3_5 : Int) (a3_6 : ByteArray) (a4 : Int) : Option (ByteArray × Int × Int × Int × Int × Int × Int × Int × ByteArray × ByteArray × Bool × (List (S53)) × Int) := if (a0.size : Int) > 65536 then (some ((⟨#[]⟩ : ByteArray), 0, 0, 0, 0, 0, 0, 0, (⟨#[]⟩ : ByteArray), (⟨#[]⟩ : ByteArray), false, ([] : List (S53)), 2)) else ((impl_macOK.f a0).bind fun t370 => (if t370 = true then ((impl_isAddress.f a1).bind fun t371 => (if t371 = true then ((impl_isAddress.f a2).bind fun t372 => (if t372 = true then ((impl_segmentOK.f a3_0 a3_1 a3_2 a3_3 a3_4 a3_5 a3_6).bind fun t373 => (impl_ConnOpen.j0 k a0 a1 a2 a4 (!t373) a3_0 a3_1 a3_2 a3_3 a3_4 a3_5 a3_6)) else (impl_ConnOpen.j0 k a0 a1 a2 a4 true a3_0 a3_1 a3_2 a3_3 a3_4 a3_5 a3_6))) else (impl_ConnOpen.j0 k a0 a1 a2 a4 true a3_0 a3_1 a3_2 a3_3 a3_4 a3_5 a3_6))) else (impl_ConnOpen.j0 k a0 a1 a2 a4 true a3_0 a3_1 a3_2 a3_3 a3_4 a3_5 a3_6)))
theorem impl_ConnOpen.mono_l : ∀ k, (∀ y0 y1 y2 y3 y4 y5 y6 y7 y8 y9 y10 y11, LeO (impl_ConnOpen.j0 k y0 y1 y2 y3 y4 y5 y6 y7 y8 y9 y10 y11) (impl_ConnOpen.j0 (k + 1) y0 y1 y2 y3 y4 y5 y6 y7 y8 y9 y10 y11))
  | 0 => fun _ _ _ _ _ _ _ _ _ _ _ _ r h => by simp [impl_ConnOpen.j0] at h
  | k + 1 => by
    have ih0 := impl_ConnOpen.mono_l k
    · intro y0 y1 y2 y3 y4 y5 y6 y7 y8 y9 y10 y11
      unfold impl_ConnOpen.j0
      repeat' first
      | (with_reducible exact ih0 _ _ _ _ _ _ _ _ _ _ _ _)
      | (with_reducible exact LeO.refl _)
      | (with_reducible exact LeO.none _)
      | (with_reducible refine LeO.ite ?_ ?_)
      | (with_reducible refine LeO.bind ?_ (fun _ => ?_))
      | exact ih0 _ _ _ _ _ _ _ _ _ _ _ _
      | exact LeO.none _
      | refine LeO.ite ?_ ?_
      | refine LeO.bind ?_ (fun _ => ?_)
theorem impl_ConnOpen.mono : ∀ a0 a1 a2 a3 a4 a5 a6 a7 a8 a9 a10 k, LeO (impl_ConnOpen.f k a0 a1 a2 a3 a4 a5 a6 a7 a8 a9 a10) (impl_ConnOpen.f (k + 1) a0 a1 a2 a3 a4 a5 a6 a7 a8 a9 a10) := by
  intro a0 a1 a2 a3 a4 a5 a6 a7 a8 a9 a10 k
  have ih0 := impl_ConnOpen.mono_l k
  unfold impl_ConnOpen.f
  repeat' first
      | (with_reducible exact ih0 _ _ _ _ _ _ _ _ _ _ _ _)
      | (with_reducible exact LeO.refl _)
      | (with_reducible exact LeO.none _)
      | (with_reducible refine LeO.ite ?_ ?_)
      | (with_reducible refine LeO.bind ?_ (fun _ => ?_))
      | exact ih0 _ _ _ _ _ _ _ _ _ _ _ _
      | exact LeO.none _
      | refine LeO.ite ?_ ?_
      | refine LeO.bind ?_ (fun _ => ?_)
set_option maxHeartbeats 8000000 in
set_option maxRecDepth 100000 in
theorem impl_ConnOpen.calls (k : Nat) (a0 : ByteArray) (a1 : Int) (a2 : Int) (a3_0 : Int) (a3_1 : Int) (a3_2 : Int) (a3_3 : Int) (a3_4 : Int) (a3_5 : Int) (a3_6 : ByteArray) (a4 : Int) (r1 : ByteArray) (r2 : Int) (r3 : Int) (r4 : Int) (r5 : Int) (r6 : Int) (r7 : Int) (r8 : Int) (r9 : ByteArray) (r10 : ByteArray) (r11 : Bool) (r12 : List (S53)) (r13 : Int) (w : World) (h : impl_ConnOpen.f k a0 a1 a2 a3_0 a3_1 a3_2 a3_3 a3_4 a3_5 a3_6 a4 = some (r1, r2, r3, r4, r5, r6, r7, r8, r9, r10, r11, r12, r13)) :
    Calls Try.prog 36 #[.string a0, .int .i64 a1, .int .i64 a2, .agg #[.int .i64 a3_0, .int .i64 a3_1, .int .i64 a3_2, .int .i64 a3_3, .int .i64 a3_4, .int .i64 a3_5, .string a3_6], .int .i64 a4] w fun e w' => ∃ v11_ : Value, e = .returned (.tuple #[.agg #[.string r1, .int .i64 r2, .int .i64 r3, .int .i64 r4, .int .i64 r5, .int .i64 r6, .int .i64 r7, .int .i64 r8, .string r9, .string r10, .bool r11], v11_, .int .i64 r13]) ∧ Kd.R k53 53 w' w.heap.size (fun _ => True) v11_ r12 ∧ Below w.heap.size w w' := by
  have hu53 := Try.underlying53
  have hu34 := Try.underlying34
  have HB := Aside0.mk (Below.refl w.heap.size w)
  have H : (if (a0.size : Int) > 65536 then (some ((⟨#[]⟩ : ByteArray), 0, 0, 0, 0, 0, 0, 0, (⟨#[]⟩ : ByteArray), (⟨#[]⟩ : ByteArray), false, ([] : List (S53)), 2)) else ((impl_macOK.f a0).bind fun t370 => (if t370 = true then ((impl_isAddress.f a1).bind fun t371 => (if t371 = true then ((impl_isAddress.f a2).bind fun t372 => (if t372 = true then ((impl_segmentOK.f a3_0 a3_1 a3_2 a3_3 a3_4 a3_5 a3_6).bind fun t373 => (impl_ConnOpen.j0 k a0 a1 a2 a4 (!t373) a3_0 a3_1 a3_2 a3_3 a3_4 a3_5 a3_6)) else (impl_ConnOpen.j0 k a0 a1 a2 a4 true a3_0 a3_1 a3_2 a3_3 a3_4 a3_5 a3_6))) else (impl_ConnOpen.j0 k a0 a1 a2 a4 true a3_0 a3_1 a3_2 a3_3 a3_4 a3_5 a3_6))) else (impl_ConnOpen.j0 k a0 a1 a2 a4 true a3_0 a3_1 a3_2 a3_3 a3_4 a3_5 a3_6)))) = some (r1, r2, r3, r4, r5, r6, r7, r8, r9, r10, r11, r12, r13) := h
  clear h
  by_cases c6 : (a0.size : Int) > 65536
  · rw [if_pos c6] at H
    have c6b0 : decide (65536 < (a0.size : Int)) = true := decide_eq_true c6
    have c6b1 : decide (65536 < a0.size) = true := decide_eq_true (by omega)
    clear c6
    simp only [Option.some.injEq, Prod.mk.injEq] at H
    obtain ⟨rfl, rfl, rfl, rfl, rfl, rfl, rfl, rfl, rfl, rfl, rfl, rfl, rfl⟩ := H
    go_enter Try.func36, Try.ntmps36
    go_wp2_with (first | ((with_reducible refine gate_dst (N := 8) rfl ?_); refine box_event ?hg (N := 8) ?hd (cs := #[.int .i64 a3_0, .int .i64 a3_1, .int .i64 a3_2, .int .i64 a3_3, .int .i64 a3_4, .int .i64 a3_5, .string a3_6]) (t := 53) ?hr ?_; (case hd => rfl); (case hg => rfl); (case hr => first | (go_simp; done) | (go_simp; rfl)); intro gb368 hg w7 hbox hb; have n0_ := Aside0.mk (below_step (by repeat (first | (with_reducible first | exact HB.out | apply below_alloc | apply pw_below_drewN | apply below_drew1) | exact HB.out)) hb); have n1_ := Aside0.mk (hbox); have n2_ := Aside0.mk ((by rw [hg]; exact (below_size (by repeat (first | (with_reducible first | exact HB.out | apply below_alloc | apply pw_below_drewN | apply below_drew1) | exact HB.out))) : w.heap.size ≤ gb368)); have n3_ := Aside0.mk ((by rw [hg]; exact (below_size (by repeat (first | (with_reducible first | exact HB.out | apply below_alloc | apply pw_below_drewN | apply below_drew1) | exact HB.out))) : w.heap.size ≤ gb368)); clear HB; have HB := n0_; have BK368 := n1_; have GW368 := n2_; have GE368 := n3_; clear n0_ n1_ n2_ n3_; clear hb hbox hg) | ((with_reducible refine gate_dst (N := 10) rfl ?_); refine box_event ?hg (N := 10) ?hd (cs := #[.string (⟨#[]⟩ : ByteArray), .int .i64 0, .int .i64 0, .int .i64 0, .int .i64 0, .int .i64 0, .int .i64 0, .int .i64 0, .string (⟨#[]⟩ : ByteArray), .string (⟨#[]⟩ : ByteArray), .bool false]) (t := 34) ?hr ?_; (case hd => rfl); (case hg => rfl); (case hr => first | (go_simp; done) | (go_simp; rfl)); intro gb369 hg w8 hbox hb; have n0_ := Aside0.mk (blk_below (g := gb368) (o := .cells #[.int .i64 a3_0, .int .i64 a3_1, .int .i64 a3_2, .int .i64 a3_3, .int .i64 a3_4, .int .i64 a3_5, .string a3_6] 53 (0, 0)) (by (with_reducible repeat (first | refine blk_drewN ?_ _ | refine blk_drew ?_ | refine blk_alloc ?_ _)); exact BK368.out) hb); have n1_ := Aside0.mk (below_step (by repeat (first | (with_reducible first | exact HB.out | apply below_alloc | apply pw_below_drewN | apply below_drew1 | refine below_set ?_ GE368.out) | exact HB.out)) hb); have n2_ := Aside0.mk (hbox); have n3_ := Aside0.mk ((by rw [hg]; exact (below_size (by repeat (first | (with_reducible first | exact HB.out | apply below_alloc | apply pw_below_drewN | apply below_drew1 | refine below_set ?_ GE368.out) | exact HB.out))) : w.heap.size ≤ gb369)); have n4_ := Aside0.mk ((by rw [hg]; exact (below_size (by repeat (first | (with_reducible first | exact HB.out | apply below_alloc | apply pw_below_drewN | apply below_drew1 | refine below_set ?_ GE368.out) | exact HB.out))) : w.heap.size ≤ gb369)); have n5_ := Aside0.mk ((by rw [hg]; exact Nat.ne_of_lt (blk_lt (g := gb368) (o := .cells #[.int .i64 a3_0, .int .i64 a3_1, .int .i64 a3_2, .int .i64 a3_3, .int .i64 a3_4, .int .i64 a3_5, .string a3_6] 53 (0, 0)) (by (with_reducible repeat (first | refine blk_drewN ?_ _ | refine blk_drew ?_ | refine blk_alloc ?_ _)); exact BK368.out)) : gb368 ≠ gb369)); have n6_ := Aside0.mk ((by rw [hg]; exact Nat.ne_of_gt (blk_lt (g := gb368) (o := .cells #[.int .i64 a3_0, .int .i64 a3_1, .int .i64 a3_2, .int .i64 a3_3, .int .i64 a3_4, .int .i64 a3_5, .string a3_6] 53 (0, 0)) (by (with_reducible repeat (first | refine blk_drewN ?_ _ | refine blk_drew ?_ | refine blk_alloc ?_ _)); exact BK368.out)) : gb369 ≠ gb368)); clear BK368; clear HB; have BK368 := n0_; have HB := n1_; have BK369 := n2_; have GW369 := n3_; have GE369 := n4_; have NB368_369 := n5_; have NB369_368 := n6_; clear n0_ n1_ n2_ n3_ n4_ n5_ n6_; clear hb hbox hg; have hnb9 := NB369_368.out; have hnc9 := NB368_369.out; have hcz10_0 : w8.cell? ⟨gb369, 0, none⟩ = some (.string (⟨#[]⟩ : ByteArray)) := (blk_cell BK369.out 0).trans rfl; have hcz10_1 : w8.cell? ⟨gb369, 1, none⟩ = some (.int .i64 0) := (blk_cell BK369.out 1).trans rfl; have hcz10_2 : w8.cell? ⟨gb369, 2, none⟩ = some (.int .i64 0) := (blk_cell BK369.out 2).trans rfl; have hcz10_3 : w8.cell? ⟨gb369, 3, none⟩ = some (.int .i64 0) := (blk_cell BK369.out 3).trans rfl; have hcz10_4 : w8.cell? ⟨gb369, 4, none⟩ = some (.int .i64 0) := (blk_cell BK369.out 4).trans rfl; have hcz10_5 : w8.cell? ⟨gb369, 5, none⟩ = some (.int .i64 0) := (blk_cell BK369.out 5).trans rfl; have hcz10_6 : w8.cell? ⟨gb369, 6, none⟩ = some (.int .i64 0) := (blk_cell BK369.out 6).trans rfl; have hcz10_7 : w8.cell? ⟨gb369, 7, none⟩ = some (.int .i64 0) := (blk_cell BK369.out 7).trans rfl; have hcz10_8 : w8.cell? ⟨gb369, 8, none⟩ = some (.string (⟨#[]⟩ : ByteArray)) := (blk_cell BK369.out 8).trans rfl; have hcz10_9 : w8.cell? ⟨gb369, 9, none⟩ = some (.string (⟨#[]⟩ : ByteArray)) := (blk_cell BK369.out 9).trans rfl; have hcz10_10 : w8.cell? ⟨gb369, 10, none⟩ = some (.bool false) := (blk_cell BK369.out 10).trans rfl; have hfz10_0 := blk_frozen BK369.out 0; have hfz10_1 := blk_frozen BK369.out 1; have hfz10_2 := blk_frozen BK369.out 2; have hfz10_3 := blk_frozen BK369.out 3; have hfz10_4 := blk_frozen BK369.out 4; have hfz10_5 := blk_frozen BK369.out 5; have hfz10_6 := blk_frozen BK369.out 6; have hfz10_7 := blk_frozen BK369.out 7; have hfz10_8 := blk_frozen BK369.out 8; have hfz10_9 := blk_frozen BK369.out 9; have hfz10_10 := blk_frozen BK369.out 10))
    refine bodyPost_ret (results_ctt rfl _ _ gb369 34 #[.string (⟨#[]⟩ : ByteArray), .int .i64 0, .int .i64 0, .int .i64 0, .int .i64 0, .int .i64 0, .int .i64 0, .int .i64 0, .string (⟨#[]⟩ : ByteArray), .string (⟨#[]⟩ : ByteArray), .bool false] (0, 0) _ rfl (by (with_reducible repeat (first | refine blk_drewN ?_ _ | refine blk_drew ?_ | refine blk_alloc ?_ _)); refine blk_put (cs := #[.string (⟨#[]⟩ : ByteArray), .int .i64 0, .int .i64 0, .int .i64 0, .int .i64 0, .int .i64 0, .int .i64 0, .int .i64 0, .string (⟨#[]⟩ : ByteArray), .string (⟨#[]⟩ : ByteArray), .bool false]) ?_ 10 _ rfl; (with_reducible repeat (first | refine blk_drewN ?_ _ | refine blk_drew ?_ | refine blk_alloc ?_ _)); refine blk_put (cs := #[.string (⟨#[]⟩ : ByteArray), .int .i64 0, .int .i64 0, .int .i64 0, .int .i64 0, .int .i64 0, .int .i64 0, .int .i64 0, .string (⟨#[]⟩ : ByteArray), .string (⟨#[]⟩ : ByteArray), .bool false]) ?_ 9 _ rfl; (with_reducible repeat (first | refine blk_drewN ?_ _ | refine blk_drew ?_ | refine blk_alloc ?_ _)); refine blk_put (cs := #[.string (⟨#[]⟩ : ByteArray), .int .i64 0, .int .i64 0, .int .i64 0, .int .i64 0, .int .i64 0, .int .i64 0, .int .i64 0, .string (⟨#[]⟩ : ByteArray), .string (⟨#[]⟩ : ByteArray), .bool false]) ?_ 8 _ rfl; (with_reducible repeat (first | refine blk_drewN ?_ _ | refine blk_drew ?_ | refine blk_alloc ?_ _)); refine blk_put (cs := #[.string (⟨#[]⟩ : ByteArray), .int .i64 0, .int .i64 0, .int .i64 0, .int .i64 0, .int .i64 0, .int .i64 0, .int .i64 0, .string (⟨#[]⟩ : ByteArray), .string (⟨#[]⟩ : ByteArray), .bool false]) ?_ 7 _ rfl; (with_reducible repeat (first | refine blk_drewN ?_ _ | refine blk_drew ?_ | refine blk_alloc ?_ _)); refine blk_put (cs := #[.string (⟨#[]⟩ : ByteArray), .int .i64 0, .int .i64 0, .int .i64 0, .int .i64 0, .int .i64 0, .int .i64 0, .int .i64 0, .string (⟨#[]⟩ : ByteArray), .string (⟨#[]⟩ : ByteArray), .bool false]) ?_ 6 _ rfl; (with_reducible repeat (first | refine blk_drewN ?_ _ | refine blk_drew ?_ | refine blk_alloc ?_ _)); refine blk_put (cs := #[.string (⟨#[]⟩ : ByteArray), .int .i64 0, .int .i64 0, .int .i64 0, .int .i64 0, .int .i64 0, .int .i64 0, .int .i64 0, .string (⟨#[]⟩ : ByteArray), .string (⟨#[]⟩ : ByteArray), .bool false]) ?_ 5 _ rfl; (with_reducible repeat (first | refine blk_drewN ?_ _ | refine blk_drew ?_ | refine blk_alloc ?_ _)); refine blk_put (cs := #[.string (⟨#[]⟩ : ByteArray), .int .i64 0, .int .i64 0, .int .i64 0, .int .i64 0, .int .i64 0, .int .i64 0, .int .i64 0, .string (⟨#[]⟩ : ByteArray), .string (⟨#[]⟩ : ByteArray), .bool false]) ?_ 4 _ rfl; (with_reducible repeat (first | refine blk_drewN ?_ _ | refine blk_drew ?_ | refine blk_alloc ?_ _)); refine blk_put (cs := #[.string (⟨#[]⟩ : ByteArray), .int .i64 0, .int .i64 0, .int .i64 0, .int .i64 0, .int .i64 0, .int .i64 0, .int .i64 0, .string (⟨#[]⟩ : ByteArray), .string (⟨#[]⟩ : ByteArray), .bool false]) ?_ 3 _ rfl; (with_reducible repeat (first | refine blk_drewN ?_ _ | refine blk_drew ?_ | refine blk_alloc ?_ _)); refine blk_put (cs := #[.string (⟨#[]⟩ : ByteArray), .int .i64 0, .int .i64 0, .int .i64 0, .int .i64 0, .int .i64 0, .int .i64 0, .int .i64 0, .string (⟨#[]⟩ : ByteArray), .string (⟨#[]⟩ : ByteArray), .bool false]) ?_ 2 _ rfl; (with_reducible repeat (first | refine blk_drewN ?_ _ | refine blk_drew ?_ | refine blk_alloc ?_ _)); refine blk_put (cs := #[.string (⟨#[]⟩ : ByteArray), .int .i64 0, .int .i64 0, .int .i64 0, .int .i64 0, .int .i64 0, .int .i64 0, .int .i64 0, .string (⟨#[]⟩ : ByteArray), .string (⟨#[]⟩ : ByteArray), .bool false]) ?_ 1 _ rfl; (with_reducible repeat (first | refine blk_drewN ?_ _ | refine blk_drew ?_ | refine blk_alloc ?_ _)); refine blk_put (cs := #[.string (⟨#[]⟩ : ByteArray), .int .i64 0, .int .i64 0, .int .i64 0, .int .i64 0, .int .i64 0, .int .i64 0, .int .i64 0, .string (⟨#[]⟩ : ByteArray), .string (⟨#[]⟩ : ByteArray), .bool false]) ?_ 0 _ rfl; (with_reducible repeat (first | refine blk_drewN ?_ _ | refine blk_drew ?_ | refine blk_alloc ?_ _)); exact BK369.out) Try.underlying34 rfl (by kernel_rfl)) rfl ?_
    exact ⟨_, by first | rfl | (simp [errW_none, errW_some] <;> rfl) | (simp [*, errW_none, errW_some] <;> rfl), by first | exact Kd.R_nil _ _ _ _ _ | exact Kd.N_nil _ _ _ _ _ | exact Kd.V_nil _ _ _ _ _ | exact Kd.Q_nil _ _ _ _ _ | exact Kd.S_nil _ _ _ _ _, by repeat (first | (with_reducible first | exact HB.out | apply below_alloc | apply pw_below_drewN | apply below_drew1 | refine below_set ?_ GE368.out | refine below_set ?_ GE369.out) | exact HB.out)⟩
  · rw [if_neg c6] at H
    have c6b0 : decide (65536 < (a0.size : Int)) = false := decide_eq_false c6
    have c6b1 : decide (65536 < a0.size) = false := decide_eq_false (by omega)
    clear c6
    have HC11 := Aside0.mk H
    clear H
    go_enter Try.func36, Try.ntmps36
    go_upto_region 3 with (first | ((with_reducible refine gate_dst (N := 8) rfl ?_); refine box_event ?hg (N := 8) ?hd (cs := #[.int .i64 a3_0, .int .i64 a3_1, .int .i64 a3_2, .int .i64 a3_3, .int .i64 a3_4, .int .i64 a3_5, .string a3_6]) (t := 53) ?hr ?_; (case hd => rfl); (case hg => rfl); (case hr => first | (go_simp; done) | (go_simp; rfl)); intro gb368 hg w12 hbox hb; have n0_ := Aside0.mk (below_step (by repeat (first | (with_reducible first | exact HB.out | apply below_alloc | apply pw_below_drewN | apply below_drew1) | exact HB.out)) hb); have n1_ := Aside0.mk (hbox); have n2_ := Aside0.mk ((by rw [hg]; exact (below_size (by repeat (first | (with_reducible first | exact HB.out | apply below_alloc | apply pw_below_drewN | apply below_drew1) | exact HB.out))) : w.heap.size ≤ gb368)); have n3_ := Aside0.mk ((by rw [hg]; exact (below_size (by repeat (first | (with_reducible first | exact HB.out | apply below_alloc | apply pw_below_drewN | apply below_drew1) | exact HB.out))) : w.heap.size ≤ gb368)); clear HB; have HB := n0_; have BK368 := n1_; have GW368 := n2_; have GE368 := n3_; clear n0_ n1_ n2_ n3_; clear hb hbox hg) | ((with_reducible refine gate_dst (N := 10) rfl ?_); refine box_event ?hg (N := 10) ?hd (cs := #[.string (⟨#[]⟩ : ByteArray), .int .i64 0, .int .i64 0, .int .i64 0, .int .i64 0, .int .i64 0, .int .i64 0, .int .i64 0, .string (⟨#[]⟩ : ByteArray), .string (⟨#[]⟩ : ByteArray), .bool false]) (t := 34) ?hr ?_; (case hd => rfl); (case hg => rfl); (case hr => first | (go_simp; done) | (go_simp; rfl)); intro gb369 hg w13 hbox hb; have n0_ := Aside0.mk (blk_below (g := gb368) (o := .cells #[.int .i64 a3_0, .int .i64 a3_1, .int .i64 a3_2, .int .i64 a3_3, .int .i64 a3_4, .int .i64 a3_5, .string a3_6] 53 (0, 0)) (by (with_reducible repeat (first | refine blk_drewN ?_ _ | refine blk_drew ?_ | refine blk_alloc ?_ _)); exact BK368.out) hb); have n1_ := Aside0.mk (below_step (by repeat (first | (with_reducible first | exact HB.out | apply below_alloc | apply pw_below_drewN | apply below_drew1 | refine below_set ?_ GE368.out) | exact HB.out)) hb); have n2_ := Aside0.mk (hbox); have n3_ := Aside0.mk ((by rw [hg]; exact (below_size (by repeat (first | (with_reducible first | exact HB.out | apply below_alloc | apply pw_below_drewN | apply below_drew1 | refine below_set ?_ GE368.out) | exact HB.out))) : w.heap.size ≤ gb369)); have n4_ := Aside0.mk ((by rw [hg]; exact (below_size (by repeat (first | (with_reducible first | exact HB.out | apply below_alloc | apply pw_below_drewN | apply below_drew1 | refine below_set ?_ GE368.out) | exact HB.out))) : w.heap.size ≤ gb369)); have n5_ := Aside0.mk ((by rw [hg]; exact Nat.ne_of_lt (blk_lt (g := gb368) (o := .cells #[.int .i64 a3_0, .int .i64 a3_1, .int .i64 a3_2, .int .i64 a3_3, .int .i64 a3_4, .int .i64 a3_5, .string a3_6] 53 (0, 0)) (by (with_reducible repeat (first | refine blk_drewN ?_ _ | refine blk_drew ?_ | refine blk_alloc ?_ _)); exact BK368.out)) : gb368 ≠ gb369)); have n6_ := Aside0.mk ((by rw [hg]; exact Nat.ne_of_gt (blk_lt (g := gb368) (o := .cells #[.int .i64 a3_0, .int .i64 a3_1, .int .i64 a3_2, .int .i64 a3_3, .int .i64 a3_4, .int .i64 a3_5, .string a3_6] 53 (0, 0)) (by (with_reducible repeat (first | refine blk_drewN ?_ _ | refine blk_drew ?_ | refine blk_alloc ?_ _)); exact BK368.out)) : gb369 ≠ gb368)); clear BK368; clear HB; have BK368 := n0_; have HB := n1_; have BK369 := n2_; have GW369 := n3_; have GE369 := n4_; have NB368_369 := n5_; have NB369_368 := n6_; clear n0_ n1_ n2_ n3_ n4_ n5_ n6_; clear hb hbox hg))
    (try simp only [Act.put, List.setIfInBounds_toArray, List.set_cons_zero, List.set_cons_succ])
    go_cut [19] (fun v19 wc => ∃ (kq : Nat) (x19_10 : Bool), v19 = .bool x19_10 ∧ Aside0 (impl_ConnOpen.j0 kq a0 a1 a2 a4 x19_10 a3_0 a3_1 a3_2 a3_3 a3_4 a3_5 a3_6 = some (r1, r2, r3, r4, r5, r6, r7, r8, r9, r10, r11, r12, r13)) ∧ Aside0 (kq ≤ k) ∧ Aside0 (wc.heap[gb368]? = some (.cells #[.int .i64 a3_0, .int .i64 a3_1, .int .i64 a3_2, .int .i64 a3_3, .int .i64 a3_4, .int .i64 a3_5, .string a3_6] 53 (0, 0))) ∧ Aside0 (wc.heap[gb369]? = some (.cells #[.string (⟨#[]⟩ : ByteArray), .int .i64 0, .int .i64 0, .int .i64 0, .int .i64 0, .int .i64 0, .int .i64 0, .int .i64 0, .string (⟨#[]⟩ : ByteArray), .string (⟨#[]⟩ : ByteArray), .bool false] 34 (0, 0))) ∧ Aside0 (Below w.heap.size w wc))
    case first =>
      have H := HC11.out
      clear HC11
      replace H := Option.bind_eq_some_iff.mp H
      obtain ⟨t370, A140, H⟩ := H
      replace H : (if t370 = true then ((impl_isAddress.f a1).bind fun t371 => (if t371 = true then ((impl_isAddress.f a2).bind fun t372 => (if t372 = true then ((impl_segmentOK.f a3_0 a3_1 a3_2 a3_3 a3_4 a3_5 a3_6).bind fun t373 => (impl_ConnOpen.j0 k a0 a1 a2 a4 (!t373) a3_0 a3_1 a3_2 a3_3 a3_4 a3_5 a3_6)) else (impl_ConnOpen.j0 k a0 a1 a2 a4 true a3_0 a3_1 a3_2 a3_3 a3_4 a3_5 a3_6))) else (impl_ConnOpen.j0 k a0 a1 a2 a4 true a3_0 a3_1 a3_2 a3_3 a3_4 a3_5 a3_6))) else (impl_ConnOpen.j0 k a0 a1 a2 a4 true a3_0 a3_1 a3_2 a3_3 a3_4 a3_5 a3_6)) = some (r1, r2, r3, r4, r5, r6, r7, r8, r9, r10, r11, r12, r13) := H
      have A14 := Aside0.mk A140
      clear A140
      by_cases c15 : t370 = true
      · subst c15
        have H1 : ((impl_isAddress.f a1).bind fun t371 => (if t371 = true then ((impl_isAddress.f a2).bind fun t372 => (if t372 = true then ((impl_segmentOK.f a3_0 a3_1 a3_2 a3_3 a3_4 a3_5 a3_6).bind fun t373 => (impl_ConnOpen.j0 k a0 a1 a2 a4 (!t373) a3_0 a3_1 a3_2 a3_3 a3_4 a3_5 a3_6)) else (impl_ConnOpen.j0 k a0 a1 a2 a4 true a3_0 a3_1 a3_2 a3_3 a3_4 a3_5 a3_6))) else (impl_ConnOpen.j0 k a0 a1 a2 a4 true a3_0 a3_1 a3_2 a3_3 a3_4 a3_5 a3_6))) = some (r1, r2, r3, r4, r5, r6, r7, r8, r9, r10, r11, r12, r13) := by rw [if_pos rfl] at H; exact H
        clear H
        have H := H1
        clear H1
        replace H := Option.bind_eq_some_iff.mp H
        obtain ⟨t371, A160, H⟩ := H
        replace H : (if t371 = true then ((impl_isAddress.f a2).bind fun t372 => (if t372 = true then ((impl_segmentOK.f a3_0 a3_1 a3_2 a3_3 a3_4 a3_5 a3_6).bind fun t373 => (impl_ConnOpen.j0 k a0 a1 a2 a4 (!t373) a3_0 a3_1 a3_2 a3_3 a3_4 a3_5 a3_6)) else (impl_ConnOpen.j0 k a0 a1 a2 a4 true a3_0 a3_1 a3_2 a3_3 a3_4 a3_5 a3_6))) else (impl_ConnOpen.j0 k a0 a1 a2 a4 true a3_0 a3_1 a3_2 a3_3 a3_4 a3_5 a3_6)) = some (r1, r2, r3, r4, r5, r6, r7, r8, r9, r10, r11, r12, r13) := H
        have A16 := Aside0.mk A160
        clear A160
        by_cases c17 : t371 = true
        · subst c17
          have H1 : ((impl_isAddress.f a2).bind fun t372 => (if t372 = true then ((impl_segmentOK.f a3_0 a3_1 a3_2 a3_3 a3_4 a3_5 a3_6).bind fun t373 => (impl_ConnOpen.j0 k a0 a1 a2 a4 (!t373) a3_0 a3_1 a3_2 a3_3 a3_4 a3_5 a3_6)) else (impl_ConnOpen.j0 k a0 a1 a2 a4 true a3_0 a3_1 a3_2 a3_3 a3_4 a3_5 a3_6))) = some (r1, r2, r3, r4, r5, r6, r7, r8, r9, r10, r11, r12, r13) := by rw [if_pos rfl] at H; exact H
          clear H
          have H := H1
          clear H1
          replace H := Option.bind_eq_some_iff.mp H
          obtain ⟨t372, A180, H⟩ := H
          replace H : (if t372 = true then ((impl_segmentOK.f a3_0 a3_1 a3_2 a3_3 a3_4 a3_5 a3_6).bind fun t373 => (impl_ConnOpen.j0 k a0 a1 a2 a4 (!t373) a3_0 a3_1 a3_2 a3_3 a3_4 a3_5 a3_6)) else (impl_ConnOpen.j0 k a0 a1 a2 a4 true a3_0 a3_1 a3_2 a3_3 a3_4 a3_5 a3_6)) = some (r1, r2, r3, r4, r5, r6, r7, r8, r9, r10, r11, r12, r13) := H
          have A18 := Aside0.mk A180
          clear A180
          by_cases c19 : t372 = true
          · subst c19
            have H1 : ((impl_segmentOK.f a3_0 a3_1 a3_2 a3_3 a3_4 a3_5 a3_6).bind fun t373 => (impl_ConnOpen.j0 k a0 a1 a2 a4 (!t373) a3_0 a3_1 a3_2 a3_3 a3_4 a3_5 a3_6)) = some (r1, r2, r3, r4, r5, r6, r7, r8, r9, r10, r11, r12, r13) := by rw [if_pos rfl] at H; exact H
            clear H
            have H := H1
            clear H1
            replace H := Option.bind_eq_some_iff.mp H
            obtain ⟨t373, A200, H⟩ := H
            replace H : (impl_ConnOpen.j0 k a0 a1 a2 a4 (!t373) a3_0 a3_1 a3_2 a3_3 a3_4 a3_5 a3_6) = some (r1, r2, r3, r4, r5, r6, r7, r8, r9, r10, r11, r12, r13) := H
            have A20 := Aside0.mk A200
            clear A200
            have H' := Aside0.mk H
            clear H
            go_wp2_with (first | ((with_reducible refine gate_callee (f := 72) rfl ?_); refine goesL_ (some 21) rfl rfl Try.func72 (by kernel_rfl) rfl #[.string a0] rfl (by (try simp only [List.map_toArray, List.map_cons, List.map_nil]); first | done | rfl | (simp only [List.length_drop, List.length_take]; rfl)) ?_; (with_reducible refine (impl_macOK.calls a0 true _ A14.out).mono ?_); rintro e w' ⟨rfl, ⟨nd, rfl⟩⟩; refine ⟨_, rfl, ?_⟩) | (go_at_call 61; (with_reducible refine (impl_isAddress.calls a1 true _ A16.out).mono ?_); rintro e w' ⟨rfl, ⟨nd, rfl⟩⟩) | (go_at_call 61; (with_reducible refine (impl_isAddress.calls a2 true _ A18.out).mono ?_); rintro e w' ⟨rfl, ⟨nd, rfl⟩⟩; have hnb21 := NB368_369.out; have hnc21 := NB369_368.out; have hcz22_0 : w13.cell? ⟨gb368, 0, none⟩ = some (.int .i64 a3_0) := (blk_cell BK368.out 0).trans rfl; have hcz22_1 : w13.cell? ⟨gb368, 1, none⟩ = some (.int .i64 a3_1) := (blk_cell BK368.out 1).trans rfl; have hcz22_2 : w13.cell? ⟨gb368, 2, none⟩ = some (.int .i64 a3_2) := (blk_cell BK368.out 2).trans rfl; have hcz22_3 : w13.cell? ⟨gb368, 3, none⟩ = some (.int .i64 a3_3) := (blk_cell BK368.out 3).trans rfl; have hcz22_4 : w13.cell? ⟨gb368, 4, none⟩ = some (.int .i64 a3_4) := (blk_cell BK368.out 4).trans rfl; have hcz22_5 : w13.cell? ⟨gb368, 5, none⟩ = some (.int .i64 a3_5) := (blk_cell BK368.out 5).trans rfl; have hcz22_6 : w13.cell? ⟨gb368, 6, none⟩ = some (.string a3_6) := (blk_cell BK368.out 6).trans rfl; have hfz22_0 := blk_frozen BK368.out 0; have hfz22_1 := blk_frozen BK368.out 1; have hfz22_2 := blk_frozen BK368.out 2; have hfz22_3 := blk_frozen BK368.out 3; have hfz22_4 := blk_frozen BK368.out 4; have hfz22_5 := blk_frozen BK368.out 5; have hfz22_6 := blk_frozen BK368.out 6) | (go_at_call 84; (with_reducible refine (impl_segmentOK.calls a3_0 a3_1 a3_2 a3_3 a3_4 a3_5 a3_6 t373 _ A20.out).mono ?_); rintro e w23 ⟨rfl, hb⟩; have n0_ := Aside0.mk (blk_below (g := gb368) (o := .cells #[.int .i64 a3_0, .int .i64 a3_1, .int .i64 a3_2, .int .i64 a3_3, .int .i64 a3_4, .int .i64 a3_5, .string a3_6] 53 (0, 0)) (by (with_reducible repeat (first | refine blk_drewN ?_ _ | refine blk_drew ?_ | refine blk_alloc ?_ _)); exact BK368.out) hb); have n1_ := Aside0.mk (blk_below (g := gb369) (o := .cells #[.string (⟨#[]⟩ : ByteArray), .int .i64 0, .int .i64 0, .int .i64 0, .int .i64 0, .int .i64 0, .int .i64 0, .int .i64 0, .string (⟨#[]⟩ : ByteArray), .string (⟨#[]⟩ : ByteArray), .bool false] 34 (0, 0)) (by (with_reducible repeat (first | refine blk_drewN ?_ _ | refine blk_drew ?_ | refine blk_alloc ?_ _)); exact BK369.out) hb); have n2_ := Aside0.mk (below_step (by repeat (first | (with_reducible first | exact HB.out | apply below_alloc | apply pw_below_drewN | apply below_drew1 | refine below_set ?_ GE368.out | refine below_set ?_ GE369.out) | exact HB.out)) hb); clear BK368; clear BK369; clear HB; have BK368 := n0_; have BK369 := n1_; have HB := n2_; clear n0_ n1_ n2_; (try clear hb); (try clear hb2); (try clear hk); (try clear hi)))
            go_meet
            case rel => exact ⟨_, (!t373), (by first | rfl | (simp; done) | (simp [*]; done) | (simp [ne_nil_b]; done) | (simp [ne_nil_b, *]; done)), H', ⟨by first | omega | exact Nat.le_refl _⟩, ⟨by (with_reducible repeat (first | refine blk_drewN ?_ _ | refine blk_drew ?_ | refine blk_alloc ?_ _)); exact BK368.out⟩, ⟨by (with_reducible repeat (first | refine blk_drewN ?_ _ | refine blk_drew ?_ | refine blk_alloc ?_ _)); exact BK369.out⟩, ⟨by repeat (first | (with_reducible first | exact HB.out | apply below_alloc | apply pw_below_drewN | apply below_drew1 | refine below_set ?_ GE368.out | refine below_set ?_ GE369.out) | exact HB.out)⟩⟩
          · replace c19 := Bool.eq_false_iff.mpr c19
            subst c19
            have H1 : (impl_ConnOpen.j0 k a0 a1 a2 a4 true a3_0 a3_1 a3_2 a3_3 a3_4 a3_5 a3_6) = some (r1, r2, r3, r4, r5, r6, r7, r8, r9, r10, r11, r12, r13) := by rw [if_neg (show ¬ (false = true) by decide)] at H; exact H
            clear H
            have H := H1
            clear H1
            have H' := Aside0.mk H
            clear H
            go_wp2_with (first | ((with_reducible refine gate_callee (f := 72) rfl ?_); refine goesL_ (some 21) rfl rfl Try.func72 (by kernel_rfl) rfl #[.string a0] rfl (by (try simp only [List.map_toArray, List.map_cons, List.map_nil]); first | done | rfl | (simp only [List.length_drop, List.length_take]; rfl)) ?_; (with_reducible refine (impl_macOK.calls a0 true _ A14.out).mono ?_); rintro e w' ⟨rfl, ⟨nd, rfl⟩⟩; refine ⟨_, rfl, ?_⟩) | (go_at_call 61; (with_reducible refine (impl_isAddress.calls a1 true _ A16.out).mono ?_); rintro e w' ⟨rfl, ⟨nd, rfl⟩⟩) | (go_at_call 61; (with_reducible refine (impl_isAddress.calls a2 false _ A18.out).mono ?_); rintro e w' ⟨rfl, ⟨nd, rfl⟩⟩))
            go_meet
            case rel => exact ⟨_, (true), (by first | rfl | (simp; done) | (simp [*]; done) | (simp [ne_nil_b]; done) | (simp [ne_nil_b, *]; done)), H', ⟨by first | omega | exact Nat.le_refl _⟩, ⟨by (with_reducible repeat (first | refine blk_drewN ?_ _ | refine blk_drew ?_ | refine blk_alloc ?_ _)); exact BK368.out⟩, ⟨by (with_reducible repeat (first | refine blk_drewN ?_ _ | refine blk_drew ?_ | refine blk_alloc ?_ _)); exact BK369.out⟩, ⟨by repeat (first | (with_reducible first | exact HB.out | apply below_alloc | apply pw_below_drewN | apply below_drew1 | refine below_set ?_ GE368.out | refine below_set ?_ GE369.out) | exact HB.out)⟩⟩
        · replace c17 := Bool.eq_false_iff.mpr c17
          subst c17
          have H1 : (impl_ConnOpen.j0 k a0 a1 a2 a4 true a3_0 a3_1 a3_2 a3_3 a3_4 a3_5 a3_6) = some (r1, r2, r3, r4, r5, r6, r7, r8, r9, r10, r11, r12, r13) := by rw [if_neg (show ¬ (false = true) by decide)] at H; exact H
          clear H
          have H := H1
          clear H1
          have H' := Aside0.mk H
          clear H
          go_wp2_with (first | ((with_reducible refine gate_callee (f := 72) rfl ?_); refine goesL_ (some 21) rfl rfl Try.func72 (by kernel_rfl) rfl #[.string a0] rfl (by (try simp only [List.map_toArray, List.map_cons, List.map_nil]); first | done | rfl | (simp only [List.length_drop, List.length_take]; rfl)) ?_; (with_reducible refine (impl_macOK.calls a0 true _ A14.out).mono ?_); rintro e w' ⟨rfl, ⟨nd, rfl⟩⟩; refine ⟨_, rfl, ?_⟩) | (go_at_call 61; (with_reducible refine (impl_isAddress.calls a1 false _ A16.out).mono ?_); rintro e w' ⟨rfl, ⟨nd, rfl⟩⟩))
          go_meet
          case rel => exact ⟨_, (true), (by first | rfl | (simp; done) | (simp [*]; done) | (simp [ne_nil_b]; done) | (simp [ne_nil_b, *]; done)), H', ⟨by first | omega | exact Nat.le_refl _⟩, ⟨by (with_reducible repeat (first | refine blk_drewN ?_ _ | refine blk_drew ?_ | refine blk_alloc ?_ _)); exact BK368.out⟩, ⟨by (with_reducible repeat (first | refine blk_drewN ?_ _ | refine blk_drew ?_ | refine blk_alloc ?_ _)); exact BK369.out⟩, ⟨by repeat (first | (with_reducible first | exact HB.out | apply below_alloc | apply pw_below_drewN | apply below_drew1 | refine below_set ?_ GE368.out | refine below_set ?_ GE369.out) | exact HB.out)⟩⟩
      · replace c15 := Bool.eq_false_iff.mpr c15
        subst c15
        have H1 : (impl_ConnOpen.j0 k a0 a1 a2 a4 true a3_0 a3_1 a3_2 a3_3 a3_4 a3_5 a3_6) = some (r1, r2, r3, r4, r5, r6, r7, r8, r9, r10, r11, r12, r13) := by rw [if_neg (show ¬ (false = true) by decide)] at H; exact H
        clear H
        have H := H1
        clear H1
        have H' := Aside0.mk H
        clear H
        go_wp2_with (first | ((with_reducible refine gate_callee (f := 72) rfl ?_); refine goesL_ (some 21) rfl rfl Try.func72 (by kernel_rfl) rfl #[.string a0] rfl (by (try simp only [List.map_toArray, List.map_cons, List.map_nil]); first | done | rfl | (simp only [List.length_drop, List.length_take]; rfl)) ?_; (with_reducible refine (impl_macOK.calls a0 false _ A14.out).mono ?_); rintro e w' ⟨rfl, ⟨nd, rfl⟩⟩; refine ⟨_, rfl, ?_⟩))
        go_meet
        case rel => exact ⟨_, (true), (by first | rfl | (simp; done) | (simp [*]; done) | (simp [ne_nil_b]; done) | (simp [ne_nil_b, *]; done)), H', ⟨by first | omega | exact Nat.le_refl _⟩, ⟨by (with_reducible repeat (first | refine blk_drewN ?_ _ | refine blk_drew ?_ | refine blk_alloc ?_ _)); exact BK368.out⟩, ⟨by (with_reducible repeat (first | refine blk_drewN ?_ _ | refine blk_drew ?_ | refine blk_alloc ?_ _)); exact BK369.out⟩, ⟨by repeat (first | (with_reducible first | exact HB.out | apply below_alloc | apply pw_below_drewN | apply below_drew1 | refine below_set ?_ GE368.out | refine below_set ?_ GE369.out) | exact HB.out)⟩⟩
    case rest =>
      clear HC11
      try clear c1
      try clear c2
      try clear p2
      try clear c3
      try clear c6
      try clear c6b0
      try clear c6b1
      try clear c7
      try clear c9
      try clear c15
      try clear c17
      try clear c19
      try clear c21
      try clear hcz10_0
      try clear hcz10_1
      try clear hcz10_10
      try clear hcz10_2
      try clear hcz10_3
      try clear hcz10_4
      try clear hcz10_5
      try clear hcz10_6
      try clear hcz10_7
      try clear hcz10_8
      try clear hcz10_9
      try clear hcz22_0
      try clear hcz22_1
      try clear hcz22_2
      try clear hcz22_3
      try clear hcz22_4
      try clear hcz22_5
      try clear hcz22_6
      try clear hfz10_0
      try clear hfz10_1
      try clear hfz10_10
      try clear hfz10_2
      try clear hfz10_3
      try clear hfz10_4
      try clear hfz10_5
      try clear hfz10_6
      try clear hfz10_7
      try clear hfz10_8
      try clear hfz10_9
      try clear hfz22_0
      try clear hfz22_1
      try clear hfz22_2
      try clear hfz22_3
      try clear hfz22_4
      try clear hfz22_5
      try clear hfz22_6
      obtain ⟨kq, x19_10, rfl, HA, HJ10, BK368, BK369, HB⟩ := hcut
      cases kq with
      | zero => exact absurd HA.out (by simp [impl_ConnOpen.j0])
      | succ kj10 =>
        have H := HA.out
        clear HA
        simp only [impl_ConnOpen.j0] at H
        by_cases c24 : x19_10 = true
        · subst c24
          have H1 : (some ((⟨#[]⟩ : ByteArray), 0, 0, 0, 0, 0, 0, 0, (⟨#[]⟩ : ByteArray), (⟨#[]⟩ : ByteArray), false, ([] : List (S53)), 1)) = some (r1, r2, r3, r4, r5, r6, r7, r8, r9, r10, r11, r12, r13) := by rw [if_pos rfl] at H; exact H
          clear H
          have H := H1
          clear H1
          simp only [Option.some.injEq, Prod.mk.injEq] at H
          obtain ⟨rfl, rfl, rfl, rfl, rfl, rfl, rfl, rfl, rfl, rfl, rfl, rfl, rfl⟩ := H
          have hnb25 := NB369_368.out
          have hnc25 := NB368_369.out
          have hcz26_0 : wc.cell? ⟨gb369, 0, none⟩ = some (.string (⟨#[]⟩ : ByteArray)) := (blk_cell BK369.out 0).trans rfl
          have hcz26_1 : wc.cell? ⟨gb369, 1, none⟩ = some (.int .i64 0) := (blk_cell BK369.out 1).trans rfl
          have hcz26_2 : wc.cell? ⟨gb369, 2, none⟩ = some (.int .i64 0) := (blk_cell BK369.out 2).trans rfl
          have hcz26_3 : wc.cell? ⟨gb369, 3, none⟩ = some (.int .i64 0) := (blk_cell BK369.out 3).trans rfl
          have hcz26_4 : wc.cell? ⟨gb369, 4, none⟩ = some (.int .i64 0) := (blk_cell BK369.out 4).trans rfl
          have hcz26_5 : wc.cell? ⟨gb369, 5, none⟩ = some (.int .i64 0) := (blk_cell BK369.out 5).trans rfl
          have hcz26_6 : wc.cell? ⟨gb369, 6, none⟩ = some (.int .i64 0) := (blk_cell BK369.out 6).trans rfl
          have hcz26_7 : wc.cell? ⟨gb369, 7, none⟩ = some (.int .i64 0) := (blk_cell BK369.out 7).trans rfl
          have hcz26_8 : wc.cell? ⟨gb369, 8, none⟩ = some (.string (⟨#[]⟩ : ByteArray)) := (blk_cell BK369.out 8).trans rfl
          have hcz26_9 : wc.cell? ⟨gb369, 9, none⟩ = some (.string (⟨#[]⟩ : ByteArray)) := (blk_cell BK369.out 9).trans rfl
          have hcz26_10 : wc.cell? ⟨gb369, 10, none⟩ = some (.bool false) := (blk_cell BK369.out 10).trans rfl
          have hfz26_0 := blk_frozen BK369.out 0
          have hfz26_1 := blk_frozen BK369.out 1
          have hfz26_2 := blk_frozen BK369.out 2
          have hfz26_3 := blk_frozen BK369.out 3
          have hfz26_4 := blk_frozen BK369.out 4
          have hfz26_5 := blk_frozen BK369.out 5
          have hfz26_6 := blk_frozen BK369.out 6
          have hfz26_7 := blk_frozen BK369.out 7
          have hfz26_8 := blk_frozen BK369.out 8
          have hfz26_9 := blk_frozen BK369.out 9
          have hfz26_10 := blk_frozen BK369.out 10
          go_wp2
          refine bodyPost_ret (results_ctt rfl _ _ gb369 34 #[.string (⟨#[]⟩ : ByteArray), .int .i64 0, .int .i64 0, .int .i64 0, .int .i64 0, .int .i64 0, .int .i64 0, .int .i64 0, .string (⟨#[]⟩ : ByteArray), .string (⟨#[]⟩ : ByteArray), .bool false] (0, 0) _ rfl (by (with_reducible repeat (first | refine blk_drewN ?_ _ | refine blk_drew ?_ | refine blk_alloc ?_ _)); refine blk_put (cs := #[.string (⟨#[]⟩ : ByteArray), .int .i64 0, .int .i64 0, .int .i64 0, .int .i64 0, .int .i64 0, .int .i64 0, .int .i64 0, .string (⟨#[]⟩ : ByteArray), .string (⟨#[]⟩ : ByteArray), .bool false]) ?_ 10 _ rfl; (with_reducible repeat (first | refine blk_drewN ?_ _ | refine blk_drew ?_ | refine blk_alloc ?_ _)); refine blk_put (cs := #[.string (⟨#[]⟩ : ByteArray), .int .i64 0, .int .i64 0, .int .i64 0, .int .i64 0, .int .i64 0, .int .i64 0, .int .i64 0, .string (⟨#[]⟩ : ByteArray), .string (⟨#[]⟩ : ByteArray), .bool false]) ?_ 9 _ rfl; (with_reducible repeat (first | refine blk_drewN ?_ _ | refine blk_drew ?_ | refine blk_alloc ?_ _)); refine blk_put (cs := #[.string (⟨#[]⟩ : ByteArray), .int .i64 0, .int .i64 0, .int .i64 0, .int .i64 0, .int .i64 0, .int .i64 0, .int .i64 0, .string (⟨#[]⟩ : ByteArray), .string (⟨#[]⟩ : ByteArray), .bool false]) ?_ 8 _ rfl; (with_reducible repeat (first | refine blk_drewN ?_ _ | refine blk_drew ?_ | refine blk_alloc ?_ _)); refine blk_put (cs := #[.string (⟨#[]⟩ : ByteArray), .int .i64 0, .int .i64 0, .int .i64 0, .int .i64 0, .int .i64 0, .int .i64 0, .int .i64 0, .string (⟨#[]⟩ : ByteArray), .string (⟨#[]⟩ : ByteArray), .bool false]) ?_ 7 _ rfl; (with_reducible repeat (first | refine blk_drewN ?_ _ | refine blk_drew ?_ | refine blk_alloc ?_ _)); refine blk_put (cs := #[.string (⟨#[]⟩ : ByteArray), .int .i64 0, .int .i64 0, .int .i64 0, .int .i64 0, .int .i64 0, .int .i64 0, .int .i64 0, .string (⟨#[]⟩ : ByteArray), .string (⟨#[]⟩ : ByteArray), .bool false]) ?_ 6 _ rfl; (with_reducible repeat (first | refine blk_drewN ?_ _ | refine blk_drew ?_ | refine blk_alloc ?_ _)); refine blk_put (cs := #[.string (⟨#[]⟩ : ByteArray), .int .i64 0, .int .i64 0, .int .i64 0, .int .i64 0, .int .i64 0, .int .i64 0, .int .i64 0, .string (⟨#[]⟩ : ByteArray), .string (⟨#[]⟩ : ByteArray), .bool false]) ?_ 5 _ rfl; (with_reducible repeat (first | refine blk_drewN ?_ _ | refine blk_drew ?_ | refine blk_alloc ?_ _)); refine blk_put (cs := #[.string (⟨#[]⟩ : ByteArray), .int .i64 0, .int .i64 0, .int .i64 0, .int .i64 0, .int .i64 0, .int .i64 0, .int .i64 0, .string (⟨#[]⟩ : ByteArray), .string (⟨#[]⟩ : ByteArray), .bool false]) ?_ 4 _ rfl; (with_reducible repeat (first | refine blk_drewN ?_ _ | refine blk_drew ?_ | refine blk_alloc ?_ _)); refine blk_put (cs := #[.string (⟨#[]⟩ : ByteArray), .int .i64 0, .int .i64 0, .int .i64 0, .int .i64 0, .int .i64 0, .int .i64 0, .int .i64 0, .string (⟨#[]⟩ : ByteArray), .string (⟨#[]⟩ : ByteArray), .bool false]) ?_ 3 _ rfl; (with_reducible repeat (first | refine blk_drewN ?_ _ | refine blk_drew ?_ | refine blk_alloc ?_ _)); refine blk_put (cs := #[.string (⟨#[]⟩ : ByteArray), .int .i64 0, .int .i64 0, .int .i64 0, .int .i64 0, .int .i64 0, .int .i64 0, .int .i64 0, .string (⟨#[]⟩ : ByteArray), .string (⟨#[]⟩ : ByteArray), .bool false]) ?_ 2 _ rfl; (with_reducible repeat (first | refine blk_drewN ?_ _ | refine blk_drew ?_ | refine blk_alloc ?_ _)); refine blk_put (cs := #[.string (⟨#[]⟩ : ByteArray), .int .i64 0, .int .i64 0, .int .i64 0, .int .i64 0, .int .i64 0, .int .i64 0, .int .i64 0, .string (⟨#[]⟩ : ByteArray), .string (⟨#[]⟩ : ByteArray), .bool false]) ?_ 1 _ rfl; (with_reducible repeat (first | refine blk_drewN ?_ _ | refine blk_drew ?_ | refine blk_alloc ?_ _)); refine blk_put (cs := #[.string (⟨#[]⟩ : ByteArray), .int .i64 0, .int .i64 0, .int .i64 0, .int .i64 0, .int .i64 0, .int .i64 0, .int .i64 0, .string (⟨#[]⟩ : ByteArray), .string (⟨#[]⟩ : ByteArray), .bool false]) ?_ 0 _ rfl; (with_reducible repeat (first | refine blk_drewN ?_ _ | refine blk_drew ?_ | refine blk_alloc ?_ _)); exact BK369.out) Try.underlying34 rfl (by kernel_rfl)) rfl ?_
          exact ⟨_, by first | rfl | (simp [errW_none, errW_some] <;> rfl) | (simp [*, errW_none, errW_some] <;> rfl), by first | exact Kd.R_nil _ _ _ _ _ | exact Kd.N_nil _ _ _ _ _ | exact Kd.V_nil _ _ _ _ _ | exact Kd.Q_nil _ _ _ _ _ | exact Kd.S_nil _ _ _ _ _, by repeat (first | (with_reducible first | exact HB.out | apply below_alloc | apply pw_below_drewN | apply below_drew1 | refine below_set ?_ GE368.out | refine below_set ?_ GE369.out) | exact HB.out)⟩
        · replace c24 := Bool.eq_false_iff.mpr c24
          subst c24
          have H1 : ((impl_isAddress.f a4).bind fun t374 => (if t374 = true then ((impl_opens.f a3_0 a3_1 a3_2 a3_3 a3_4 a3_5 a3_6).bind fun t375 => (if t375 = true then ((impl_newConn.f a0 a1 a2 a3_0 a3_1 a3_2 a3_3 a3_4 a3_5 a3_6 a4).bind fun bt376 => ((impl_Conn_opened.f bt376.1 bt376.2.1 bt376.2.2.1 bt376.2.2.2.1 bt376.2.2.2.2.1 bt376.2.2.2.2.2.1 bt376.2.2.2.2.2.2.1 bt376.2.2.2.2.2.2.2.1 bt376.2.2.2.2.2.2.2.2.1 bt376.2.2.2.2.2.2.2.2.2.1 bt376.2.2.2.2.2.2.2.2.2.2).bind fun t388 => (some (bt376.1, bt376.2.1, bt376.2.2.1, bt376.2.2.2.1, bt376.2.2.2.2.1, bt376.2.2.2.2.2.1, bt376.2.2.2.2.2.2.1, bt376.2.2.2.2.2.2.2.1, bt376.2.2.2.2.2.2.2.2.1, bt376.2.2.2.2.2.2.2.2.2.1, bt376.2.2.2.2.2.2.2.2.2.2, t388, 0)))) else (some ((⟨#[]⟩ : ByteArray), 0, 0, 0, 0, 0, 0, 0, (⟨#[]⟩ : ByteArray), (⟨#[]⟩ : ByteArray), false, ([] : List (S53)), 12)))) else (some ((⟨#[]⟩ : ByteArray), 0, 0, 0, 0, 0, 0, 0, (⟨#[]⟩ : ByteArray), (⟨#[]⟩ : ByteArray), false, ([] : List (S53)), 4)))) = some (r1, r2, r3, r4, r5, r6, r7, r8, r9, r10, r11, r12, r13) := by rw [if_neg (show ¬ (false = true) by decide)] at H; exact H
          clear H
          have H := H1
          clear H1
          replace H := Option.bind_eq_some_iff.mp H
          obtain ⟨t374, A270, H⟩ := H
          replace H : (if t374 = true then ((impl_opens.f a3_0 a3_1 a3_2 a3_3 a3_4 a3_5 a3_6).bind fun t375 => (if t375 = true then ((impl_newConn.f a0 a1 a2 a3_0 a3_1 a3_2 a3_3 a3_4 a3_5 a3_6 a4).bind fun bt376 => ((impl_Conn_opened.f bt376.1 bt376.2.1 bt376.2.2.1 bt376.2.2.2.1 bt376.2.2.2.2.1 bt376.2.2.2.2.2.1 bt376.2.2.2.2.2.2.1 bt376.2.2.2.2.2.2.2.1 bt376.2.2.2.2.2.2.2.2.1 bt376.2.2.2.2.2.2.2.2.2.1 bt376.2.2.2.2.2.2.2.2.2.2).bind fun t388 => (some (bt376.1, bt376.2.1, bt376.2.2.1, bt376.2.2.2.1, bt376.2.2.2.2.1, bt376.2.2.2.2.2.1, bt376.2.2.2.2.2.2.1, bt376.2.2.2.2.2.2.2.1, bt376.2.2.2.2.2.2.2.2.1, bt376.2.2.2.2.2.2.2.2.2.1, bt376.2.2.2.2.2.2.2.2.2.2, t388, 0)))) else (some ((⟨#[]⟩ : ByteArray), 0, 0, 0, 0, 0, 0, 0, (⟨#[]⟩ : ByteArray), (⟨#[]⟩ : ByteArray), false, ([] : List (S53)), 12)))) else (some ((⟨#[]⟩ : ByteArray), 0, 0, 0, 0, 0, 0, 0, (⟨#[]⟩ : ByteArray), (⟨#[]⟩ : ByteArray), false, ([] : List (S53)), 4))) = some (r1, r2, r3, r4, r5, r6, r7, r8, r9, r10, r11, r12, r13) := H
          have A27 := Aside0.mk A270
          clear A270
          by_cases c28 : t374 = true
          · subst c28
            have H1 : ((impl_opens.f a3_0 a3_1 a3_2 a3_3 a3_4 a3_5 a3_6).bind fun t375 => (if t375 = true then ((impl_newConn.f a0 a1 a2 a3_0 a3_1 a3_2 a3_3 a3_4 a3_5 a3_6 a4).bind fun bt376 => ((impl_Conn_opened.f bt376.1 bt376.2.1 bt376.2.2.1 bt376.2.2.2.1 bt376.2.2.2.2.1 bt376.2.2.2.2.2.1 bt376.2.2.2.2.2.2.1 bt376.2.2.2.2.2.2.2.1 bt376.2.2.2.2.2.2.2.2.1 bt376.2.2.2.2.2.2.2.2.2.1 bt376.2.2.2.2.2.2.2.2.2.2).bind fun t388 => (some (bt376.1, bt376.2.1, bt376.2.2.1, bt376.2.2.2.1, bt376.2.2.2.2.1, bt376.2.2.2.2.2.1, bt376.2.2.2.2.2.2.1, bt376.2.2.2.2.2.2.2.1, bt376.2.2.2.2.2.2.2.2.1, bt376.2.2.2.2.2.2.2.2.2.1, bt376.2.2.2.2.2.2.2.2.2.2, t388, 0)))) else (some ((⟨#[]⟩ : ByteArray), 0, 0, 0, 0, 0, 0, 0, (⟨#[]⟩ : ByteArray), (⟨#[]⟩ : ByteArray), false, ([] : List (S53)), 12)))) = some (r1, r2, r3, r4, r5, r6, r7, r8, r9, r10, r11, r12, r13) := by rw [if_pos rfl] at H; exact H
            clear H
            have H := H1
            clear H1
            replace H := Option.bind_eq_some_iff.mp H
            obtain ⟨t375, A290, H⟩ := H
            replace H : (if t375 = true then ((impl_newConn.f a0 a1 a2 a3_0 a3_1 a3_2 a3_3 a3_4 a3_5 a3_6 a4).bind fun bt376 => ((impl_Conn_opened.f bt376.1 bt376.2.1 bt376.2.2.1 bt376.2.2.2.1 bt376.2.2.2.2.1 bt376.2.2.2.2.2.1 bt376.2.2.2.2.2.2.1 bt376.2.2.2.2.2.2.2.1 bt376.2.2.2.2.2.2.2.2.1 bt376.2.2.2.2.2.2.2.2.2.1 bt376.2.2.2.2.2.2.2.2.2.2).bind fun t388 => (some (bt376.1, bt376.2.1, bt376.2.2.1, bt376.2.2.2.1, bt376.2.2.2.2.1, bt376.2.2.2.2.2.1, bt376.2.2.2.2.2.2.1, bt376.2.2.2.2.2.2.2.1, bt376.2.2.2.2.2.2.2.2.1, bt376.2.2.2.2.2.2.2.2.2.1, bt376.2.2.2.2.2.2.2.2.2.2, t388, 0)))) else (some ((⟨#[]⟩ : ByteArray), 0, 0, 0, 0, 0, 0, 0, (⟨#[]⟩ : ByteArray), (⟨#[]⟩ : ByteArray), false, ([] : List (S53)), 12))) = some (r1, r2, r3, r4, r5, r6, r7, r8, r9, r10, r11, r12, r13) := H
            have A29 := Aside0.mk A290
            clear A290
            by_cases c30 : t375 = true
            · subst c30
              have H1 : ((impl_newConn.f a0 a1 a2 a3_0 a3_1 a3_2 a3_3 a3_4 a3_5 a3_6 a4).bind fun bt376 => ((impl_Conn_opened.f bt376.1 bt376.2.1 bt376.2.2.1 bt376.2.2.2.1 bt376.2.2.2.2.1 bt376.2.2.2.2.2.1 bt376.2.2.2.2.2.2.1 bt376.2.2.2.2.2.2.2.1 bt376.2.2.2.2.2.2.2.2.1 bt376.2.2.2.2.2.2.2.2.2.1 bt376.2.2.2.2.2.2.2.2.2.2).bind fun t388 => (some (bt376.1, bt376.2.1, bt376.2.2.1, bt376.2.2.2.1, bt376.2.2.2.2.1, bt376.2.2.2.2.2.1, bt376.2.2.2.2.2.2.1, bt376.2.2.2.2.2.2.2.1, bt376.2.2.2.2.2.2.2.2.1, bt376.2.2.2.2.2.2.2.2.2.1, bt376.2.2.2.2.2.2.2.2.2.2, t388, 0)))) = some (r1, r2, r3, r4, r5, r6, r7, r8, r9, r10, r11, r12, r13) := by rw [if_pos rfl] at H; exact H
              clear H
              have H := H1
              clear H1
              replace H := Option.bind_eq_some_iff.mp H
              obtain ⟨⟨t376, t377, t378, t379, t380, t381, t382, t383, t384, t385, t386⟩, A310, H⟩ := H
              replace H : ((impl_Conn_opened.f t376 t377 t378 t379 t380 t381 t382 t383 t384 t385 t386).bind fun t388 => (some (t376, t377, t378, t379, t380, t381, t382, t383, t384, t385, t386, t388, 0))) = some (r1, r2, r3, r4, r5, r6, r7, r8, r9, r10, r11, r12, r13) := H
              have A31 := Aside0.mk A310
              clear A310
              replace H := Option.bind_eq_some_iff.mp H
              obtain ⟨t388, A320, H⟩ := H
              replace H : (some (t376, t377, t378, t379, t380, t381, t382, t383, t384, t385, t386, t388, 0)) = some (r1, r2, r3, r4, r5, r6, r7, r8, r9, r10, r11, r12, r13) := H
              have A32 := Aside0.mk A320
              clear A320
              simp only [Option.some.injEq, Prod.mk.injEq] at H
              obtain ⟨rfl, rfl, rfl, rfl, rfl, rfl, rfl, rfl, rfl, rfl, rfl, rfl, rfl⟩ := H
              try go_wp2_with (first | ((with_reducible refine gate_callee (f := 61) rfl ?_); refine goesL_ (some 41) rfl rfl Try.func61 (by kernel_rfl) rfl #[.int .i64 a4] rfl (by (try simp only [List.map_toArray, List.map_cons, List.map_nil]); first | done | rfl | (simp only [List.length_drop, List.length_take]; rfl)) ?_; (with_reducible refine (impl_isAddress.calls a4 true _ A27.out).mono ?_); rintro e w' ⟨rfl, ⟨nd, rfl⟩⟩; refine ⟨_, rfl, ?_⟩; (try (rw [drewN_self wc]; generalize hq_ : World.drewN wc _ = wc; have n0_ : Aside0 (wc.heap[gb368]? = some (.cells #[.int .i64 a3_0, .int .i64 a3_1, .int .i64 a3_2, .int .i64 a3_3, .int .i64 a3_4, .int .i64 a3_5, .string a3_6] 53 (0, 0))) := ⟨by rw [← hq_]; exact (by (with_reducible repeat (first | refine blk_drewN ?_ _ | refine blk_drew ?_ | refine blk_alloc ?_ _)); exact BK368.out)⟩; have n1_ : Aside0 (wc.heap[gb369]? = some (.cells #[.string (⟨#[]⟩ : ByteArray), .int .i64 0, .int .i64 0, .int .i64 0, .int .i64 0, .int .i64 0, .int .i64 0, .int .i64 0, .string (⟨#[]⟩ : ByteArray), .string (⟨#[]⟩ : ByteArray), .bool false] 34 (0, 0))) := ⟨by rw [← hq_]; exact (by (with_reducible repeat (first | refine blk_drewN ?_ _ | refine blk_drew ?_ | refine blk_alloc ?_ _)); exact BK369.out)⟩; have n2_ : Aside0 (Below w.heap.size w wc) := ⟨by rw [← hq_]; exact (by repeat (first | (with_reducible first | exact HB.out | apply below_alloc | apply pw_below_drewN | apply below_drew1 | refine below_set ?_ GE368.out | refine below_set ?_ GE369.out) | exact HB.out))⟩; clear BK368 BK369 HB hq_; have BK368 := n0_; have BK369 := n1_; have HB := n2_; clear n0_ n1_ n2_)); have hnb33 := NB368_369.out; have hnc33 := NB369_368.out; have hcz34_0 : wc.cell? ⟨gb368, 0, none⟩ = some (.int .i64 a3_0) := (blk_cell BK368.out 0).trans rfl; have hcz34_1 : wc.cell? ⟨gb368, 1, none⟩ = some (.int .i64 a3_1) := (blk_cell BK368.out 1).trans rfl; have hcz34_2 : wc.cell? ⟨gb368, 2, none⟩ = some (.int .i64 a3_2) := (blk_cell BK368.out 2).trans rfl; have hcz34_3 : wc.cell? ⟨gb368, 3, none⟩ = some (.int .i64 a3_3) := (blk_cell BK368.out 3).trans rfl; have hcz34_4 : wc.cell? ⟨gb368, 4, none⟩ = some (.int .i64 a3_4) := (blk_cell BK368.out 4).trans rfl; have hcz34_5 : wc.cell? ⟨gb368, 5, none⟩ = some (.int .i64 a3_5) := (blk_cell BK368.out 5).trans rfl; have hcz34_6 : wc.cell? ⟨gb368, 6, none⟩ = some (.string a3_6) := (blk_cell BK368.out 6).trans rfl; have hfz34_0 := blk_frozen BK368.out 0; have hfz34_1 := blk_frozen BK368.out 1; have hfz34_2 := blk_frozen BK368.out 2; have hfz34_3 := blk_frozen BK368.out 3; have hfz34_4 := blk_frozen BK368.out 4; have hfz34_5 := blk_frozen BK368.out 5; have hfz34_6 := blk_frozen BK368.out 6) | ((with_reducible refine gate_callee (f := 85) rfl ?_); refine goesL_ (some 46) rfl rfl Try.func85 (by kernel_rfl) rfl #[.agg #[.int .i64 a3_0, .int .i64 a3_1, .int .i64 a3_2, .int .i64 a3_3, .int .i64 a3_4, .int .i64 a3_5, .string a3_6]] rfl (by (try simp only [List.map_toArray, List.map_cons, List.map_nil]); first | done | rfl | (simp only [List.length_drop, List.length_take]; rfl)) ?_; (with_reducible refine (impl_opens.calls a3_0 a3_1 a3_2 a3_3 a3_4 a3_5 a3_6 true _ A29.out).mono ?_); rintro e w35 ⟨rfl, hb⟩; refine ⟨_, rfl, ?_⟩; have n0_ := Aside0.mk (blk_below (g := gb368) (o := .cells #[.int .i64 a3_0, .int .i64 a3_1, .int .i64 a3_2, .int .i64 a3_3, .int .i64 a3_4, .int .i64 a3_5, .string a3_6] 53 (0, 0)) (by (with_reducible repeat (first | refine blk_drewN ?_ _ | refine blk_drew ?_ | refine blk_alloc ?_ _)); exact BK368.out) hb); have n1_ := Aside0.mk (blk_below (g := gb369) (o := .cells #[.string (⟨#[]⟩ : ByteArray), .int .i64 0, .int .i64 0, .int .i64 0, .int .i64 0, .int .i64 0, .int .i64 0, .int .i64 0, .string (⟨#[]⟩ : ByteArray), .string (⟨#[]⟩ : ByteArray), .bool false] 34 (0, 0)) (by (with_reducible repeat (first | refine blk_drewN ?_ _ | refine blk_drew ?_ | refine blk_alloc ?_ _)); exact BK369.out) hb); have n2_ := Aside0.mk (below_step (by repeat (first | (with_reducible first | exact HB.out | apply below_alloc | apply pw_below_drewN | apply below_drew1 | refine below_set ?_ GE368.out | refine below_set ?_ GE369.out) | exact HB.out)) hb); clear BK368; clear BK369; clear HB; have BK368 := n0_; have BK369 := n1_; have HB := n2_; clear n0_ n1_ n2_; (try clear hb); (try clear hb2); (try clear hk); (try clear hi); have hcz36_0 : w35.cell? ⟨gb368, 0, none⟩ = some (.int .i64 a3_0) := (blk_cell BK368.out 0).trans rfl; have hcz36_1 : w35.cell? ⟨gb368, 1, none⟩ = some (.int .i64 a3_1) := (blk_cell BK368.out 1).trans rfl; have hcz36_2 : w35.cell? ⟨gb368, 2, none⟩ = some (.int .i64 a3_2) := (blk_cell BK368.out 2).trans rfl; have hcz36_3 : w35.cell? ⟨gb368, 3, none⟩ = some (.int .i64 a3_3) := (blk_cell BK368.out 3).trans rfl; have hcz36_4 : w35.cell? ⟨gb368, 4, none⟩ = some (.int .i64 a3_4) := (blk_cell BK368.out 4).trans rfl; have hcz36_5 : w35.cell? ⟨gb368, 5, none⟩ = some (.int .i64 a3_5) := (blk_cell BK368.out 5).trans rfl; have hcz36_6 : w35.cell? ⟨gb368, 6, none⟩ = some (.string a3_6) := (blk_cell BK368.out 6).trans rfl; have hfz36_0 := blk_frozen BK368.out 0; have hfz36_1 := blk_frozen BK368.out 1; have hfz36_2 := blk_frozen BK368.out 2; have hfz36_3 := blk_frozen BK368.out 3; have hfz36_4 := blk_frozen BK368.out 4; have hfz36_5 := blk_frozen BK368.out 5; have hfz36_6 := blk_frozen BK368.out 6) | ((with_reducible refine gate_callee (f := 86) rfl ?_); refine goesL_ (some 54) rfl rfl Try.func86 (by kernel_rfl) rfl #[.string a0, .int .i64 a1, .int .i64 a2, .agg #[.int .i64 a3_0, .int .i64 a3_1, .int .i64 a3_2, .int .i64 a3_3, .int .i64 a3_4, .int .i64 a3_5, .string a3_6], .int .i64 a4] rfl (by (try simp only [List.map_toArray, List.map_cons, List.map_nil]); first | done | rfl | (simp only [List.length_drop, List.length_take]; rfl)) ?_; (with_reducible refine (impl_newConn.calls a0 a1 a2 a3_0 a3_1 a3_2 a3_3 a3_4 a3_5 a3_6 a4 t376 t377 t378 t379 t380 t381 t382 t383 t384 t385 t386 _ A31.out).mono ?_); rintro e w37 ⟨rfl, hb⟩; refine ⟨_, rfl, ?_⟩; have n0_ := Aside0.mk (blk_below (g := gb368) (o := .cells #[.int .i64 a3_0, .int .i64 a3_1, .int .i64 a3_2, .int .i64 a3_3, .int .i64 a3_4, .int .i64 a3_5, .string a3_6] 53 (0, 0)) (by (with_reducible repeat (first | refine blk_drewN ?_ _ | refine blk_drew ?_ | refine blk_alloc ?_ _)); exact BK368.out) hb); have n1_ := Aside0.mk (blk_below (g := gb369) (o := .cells #[.string (⟨#[]⟩ : ByteArray), .int .i64 0, .int .i64 0, .int .i64 0, .int .i64 0, .int .i64 0, .int .i64 0, .int .i64 0, .string (⟨#[]⟩ : ByteArray), .string (⟨#[]⟩ : ByteArray), .bool false] 34 (0, 0)) (by (with_reducible repeat (first | refine blk_drewN ?_ _ | refine blk_drew ?_ | refine blk_alloc ?_ _)); exact BK369.out) hb); have n2_ := Aside0.mk (below_step (by repeat (first | (with_reducible first | exact HB.out | apply below_alloc | apply pw_below_drewN | apply below_drew1 | refine below_set ?_ GE368.out | refine below_set ?_ GE369.out) | exact HB.out)) hb); clear BK368; clear BK369; clear HB; have BK368 := n0_; have BK369 := n1_; have HB := n2_; clear n0_ n1_ n2_; (try clear hb); (try clear hb2); (try clear hk); (try clear hi)) | ((with_reducible refine gate_dst (N := 13) rfl ?_); refine box_event ?hg (N := 13) ?hd (cs := #[.string (⟨#[]⟩ : ByteArray), .int .i64 0, .int .i64 0, .int .i64 0, .int .i64 0, .int .i64 0, .int .i64 0, .int .i64 0, .string (⟨#[]⟩ : ByteArray), .string (⟨#[]⟩ : ByteArray), .bool false]) (t := 34) ?hr ?_; (case hd => rfl); (case hg => rfl); (case hr => first | (go_simp; done) | (go_simp; rfl)); intro gb387 hg w38 hbox hb; have n0_ := Aside0.mk (blk_below (g := gb368) (o := .cells #[.int .i64 a3_0, .int .i64 a3_1, .int .i64 a3_2, .int .i64 a3_3, .int .i64 a3_4, .int .i64 a3_5, .string a3_6] 53 (0, 0)) (by (with_reducible repeat (first | refine blk_drewN ?_ _ | refine blk_drew ?_ | refine blk_alloc ?_ _)); exact BK368.out) hb); have n1_ := Aside0.mk (blk_below (g := gb369) (o := .cells #[.string (⟨#[]⟩ : ByteArray), .int .i64 0, .int .i64 0, .int .i64 0, .int .i64 0, .int .i64 0, .int .i64 0, .int .i64 0, .string (⟨#[]⟩ : ByteArray), .string (⟨#[]⟩ : ByteArray), .bool false] 34 (0, 0)) (by (with_reducible repeat (first | refine blk_drewN ?_ _ | refine blk_drew ?_ | refine blk_alloc ?_ _)); exact BK369.out) hb); have n2_ := Aside0.mk (below_step (by repeat (first | (with_reducible first | exact HB.out | apply below_alloc | apply pw_below_drewN | apply below_drew1 | refine below_set ?_ GE368.out | refine below_set ?_ GE369.out) | exact HB.out)) hb); have n3_ := Aside0.mk ((by rw [hg]; exact Nat.ne_of_lt (blk_lt (g := gb368) (o := .cells #[.int .i64 a3_0, .int .i64 a3_1, .int .i64 a3_2, .int .i64 a3_3, .int .i64 a3_4, .int .i64 a3_5, .string a3_6] 53 (0, 0)) (by (with_reducible repeat (first | refine blk_drewN ?_ _ | refine blk_drew ?_ | refine blk_alloc ?_ _)); exact BK368.out)) : gb368 ≠ gb387)); have n4_ := Aside0.mk ((by rw [hg]; exact Nat.ne_of_gt (blk_lt (g := gb368) (o := .cells #[.int .i64 a3_0, .int .i64 a3_1, .int .i64 a3_2, .int .i64 a3_3, .int .i64 a3_4, .int .i64 a3_5, .string a3_6] 53 (0, 0)) (by (with_reducible repeat (first | refine blk_drewN ?_ _ | refine blk_drew ?_ | refine blk_alloc ?_ _)); exact BK368.out)) : gb387 ≠ gb368)); have n5_ := Aside0.mk ((by rw [hg]; exact Nat.ne_of_lt (blk_lt (g := gb369) (o := .cells #[.string (⟨#[]⟩ : ByteArray), .int .i64 0, .int .i64 0, .int .i64 0, .int .i64 0, .int .i64 0, .int .i64 0, .int .i64 0, .string (⟨#[]⟩ : ByteArray), .string (⟨#[]⟩ : ByteArray), .bool false] 34 (0, 0)) (by (with_reducible repeat (first | refine blk_drewN ?_ _ | refine blk_drew ?_ | refine blk_alloc ?_ _)); exact BK369.out)) : gb369 ≠ gb387)); have n6_ := Aside0.mk ((by rw [hg]; exact Nat.ne_of_gt (blk_lt (g := gb369) (o := .cells #[.string (⟨#[]⟩ : ByteArray), .int .i64 0, .int .i64 0, .int .i64 0, .int .i64 0, .int .i64 0, .int .i64 0, .int .i64 0, .string (⟨#[]⟩ : ByteArray), .string (⟨#[]⟩ : ByteArray), .bool false] 34 (0, 0)) (by (with_reducible repeat (first | refine blk_drewN ?_ _ | refine blk_drew ?_ | refine blk_alloc ?_ _)); exact BK369.out)) : gb387 ≠ gb369)); have n7_ := Aside0.mk ((show IsS34 w w38 gb387 (⟨#[]⟩ : ByteArray) 0 0 0 0 0 0 0 (⟨#[]⟩ : ByteArray) (⟨#[]⟩ : ByteArray) false from ⟨hbox, (by rw [hg]; exact (below_size (by repeat (first | (with_reducible first | exact HB.out | apply below_alloc | apply pw_below_drewN | apply below_drew1 | refine below_set ?_ GE368.out | refine below_set ?_ GE369.out) | exact HB.out))) : w.heap.size ≤ gb387)⟩)); clear BK368; clear BK369; clear HB; have BK368 := n0_; have BK369 := n1_; have HB := n2_; have NB368_387 := n3_; have NB387_368 := n4_; have NB369_387 := n5_; have NB387_369 := n6_; have HI387 := n7_; clear n0_ n1_ n2_ n3_ n4_ n5_ n6_ n7_; clear hb hbox hg; obtain ⟨HGz39, hgz39⟩ := HI387.out; have hcz39_0 := cellS34_0 HGz39; have hcz39_1 := cellS34_1 HGz39; have hcz39_2 := cellS34_2 HGz39; have hcz39_3 := cellS34_3 HGz39; have hcz39_4 := cellS34_4 HGz39; have hcz39_5 := cellS34_5 HGz39; have hcz39_6 := cellS34_6 HGz39; have hcz39_7 := cellS34_7 HGz39; have hcz39_8 := cellS34_8 HGz39; have hcz39_9 := cellS34_9 HGz39; have hcz39_10 := cellS34_10 HGz39; have hfz39_0 := blk_frozen HGz39 0; have hfz39_1 := blk_frozen HGz39 1; have hfz39_2 := blk_frozen HGz39 2; have hfz39_3 := blk_frozen HGz39 3; have hfz39_4 := blk_frozen HGz39 4; have hfz39_5 := blk_frozen HGz39 5; have hfz39_6 := blk_frozen HGz39 6; have hfz39_7 := blk_frozen HGz39 7; have hfz39_8 := blk_frozen HGz39 8; have hfz39_9 := blk_frozen HGz39 9; have hfz39_10 := blk_frozen HGz39 10; clear HGz39 hgz39))
              have n0_ : Aside0 ((((((((((((w38.setCell ⟨gb387, 0, none⟩ (.string t376)).setCell ⟨gb387, 1, none⟩ (.int .i64 t377)).setCell ⟨gb387, 2, none⟩ (.int .i64 t378)).setCell ⟨gb387, 3, none⟩ (.int .i64 t379)).setCell ⟨gb387, 4, none⟩ (.int .i64 t380)).setCell ⟨gb387, 5, none⟩ (.int .i64 t381)).setCell ⟨gb387, 6, none⟩ (.int .i64 t382)).setCell ⟨gb387, 7, none⟩ (.int .i64 t383)).setCell ⟨gb387, 8, none⟩ (.string t384)).setCell ⟨gb387, 9, none⟩ (.string t385)).setCell ⟨gb387, 10, none⟩ (.bool t386)).heap[gb368]? = some (.cells #[.int .i64 a3_0, .int .i64 a3_1, .int .i64 a3_2, .int .i64 a3_3, .int .i64 a3_4, .int .i64 a3_5, .string a3_6] 53 (0, 0))) := ⟨by (with_reducible repeat (first | refine blk_drewN ?_ _ | refine blk_drew ?_ | refine blk_alloc ?_ _)); refine blk_far ?_ NB368_387.out _; (with_reducible repeat (first | refine blk_drewN ?_ _ | refine blk_drew ?_ | refine blk_alloc ?_ _)); refine blk_far ?_ NB368_387.out _; (with_reducible repeat (first | refine blk_drewN ?_ _ | refine blk_drew ?_ | refine blk_alloc ?_ _)); refine blk_far ?_ NB368_387.out _; (with_reducible repeat (first | refine blk_drewN ?_ _ | refine blk_drew ?_ | refine blk_alloc ?_ _)); refine blk_far ?_ NB368_387.out _; (with_reducible repeat (first | refine blk_drewN ?_ _ | refine blk_drew ?_ | refine blk_alloc ?_ _)); refine blk_far ?_ NB368_387.out _; (with_reducible repeat (first | refine blk_drewN ?_ _ | refine blk_drew ?_ | refine blk_alloc ?_ _)); refine blk_far ?_ NB368_387.out _; (with_reducible repeat (first | refine blk_drewN ?_ _ | refine blk_drew ?_ | refine blk_alloc ?_ _)); refine blk_far ?_ NB368_387.out _; (with_reducible repeat (first | refine blk_drewN ?_ _ | refine blk_drew ?_ | refine blk_alloc ?_ _)); refine blk_far ?_ NB368_387.out _; (with_reducible repeat (first | refine blk_drewN ?_ _ | refine blk_drew ?_ | refine blk_alloc ?_ _)); refine blk_far ?_ NB368_387.out _; (with_reducible repeat (first | refine blk_drewN ?_ _ | refine blk_drew ?_ | refine blk_alloc ?_ _)); refine blk_far ?_ NB368_387.out _; (with_reducible repeat (first | refine blk_drewN ?_ _ | refine blk_drew ?_ | refine blk_alloc ?_ _)); refine blk_far ?_ NB368_387.out _; (with_reducible repeat (first | refine blk_drewN ?_ _ | refine blk_drew ?_ | refine blk_alloc ?_ _)); exact BK368.out⟩
              have n1_ : Aside0 ((((((((((((w38.setCell ⟨gb387, 0, none⟩ (.string t376)).setCell ⟨gb387, 1, none⟩ (.int .i64 t377)).setCell ⟨gb387, 2, none⟩ (.int .i64 t378)).setCell ⟨gb387, 3, none⟩ (.int .i64 t379)).setCell ⟨gb387, 4, none⟩ (.int .i64 t380)).setCell ⟨gb387, 5, none⟩ (.int .i64 t381)).setCell ⟨gb387, 6, none⟩ (.int .i64 t382)).setCell ⟨gb387, 7, none⟩ (.int .i64 t383)).setCell ⟨gb387, 8, none⟩ (.string t384)).setCell ⟨gb387, 9, none⟩ (.string t385)).setCell ⟨gb387, 10, none⟩ (.bool t386)).heap[gb369]? = some (.cells #[.string (⟨#[]⟩ : ByteArray), .int .i64 0, .int .i64 0, .int .i64 0, .int .i64 0, .int .i64 0, .int .i64 0, .int .i64 0, .string (⟨#[]⟩ : ByteArray), .string (⟨#[]⟩ : ByteArray), .bool false] 34 (0, 0))) := ⟨by (with_reducible repeat (first | refine blk_drewN ?_ _ | refine blk_drew ?_ | refine blk_alloc ?_ _)); refine blk_far ?_ NB369_387.out _; (with_reducible repeat (first | refine blk_drewN ?_ _ | refine blk_drew ?_ | refine blk_alloc ?_ _)); refine blk_far ?_ NB369_387.out _; (with_reducible repeat (first | refine blk_drewN ?_ _ | refine blk_drew ?_ | refine blk_alloc ?_ _)); refine blk_far ?_ NB369_387.out _; (with_reducible repeat (first | refine blk_drewN ?_ _ | refine blk_drew ?_ | refine blk_alloc ?_ _)); refine blk_far ?_ NB369_387.out _; (with_reducible repeat (first | refine blk_drewN ?_ _ | refine blk_drew ?_ | refine blk_alloc ?_ _)); refine blk_far ?_ NB369_387.out _; (with_reducible repeat (first | refine blk_drewN ?_ _ | refine blk_drew ?_ | refine blk_alloc ?_ _)); refine blk_far ?_ NB369_387.out _; (with_reducible repeat (first | refine blk_drewN ?_ _ | refine blk_drew ?_ | refine blk_alloc ?_ _)); refine blk_far ?_ NB369_387.out _; (with_reducible repeat (first | refine blk_drewN ?_ _ | refine blk_drew ?_ | refine blk_alloc ?_ _)); refine blk_far ?_ NB369_387.out _; (with_reducible repeat (first | refine blk_drewN ?_ _ | refine blk_drew ?_ | refine blk_alloc ?_ _)); refine blk_far ?_ NB369_387.out _; (with_reducible repeat (first | refine blk_drewN ?_ _ | refine blk_drew ?_ | refine blk_alloc ?_ _)); refine blk_far ?_ NB369_387.out _; (with_reducible repeat (first | refine blk_drewN ?_ _ | refine blk_drew ?_ | refine blk_alloc ?_ _)); refine blk_far ?_ NB369_387.out _; (with_reducible repeat (first | refine blk_drewN ?_ _ | refine blk_drew ?_ | refine blk_alloc ?_ _)); exact BK369.out⟩
              have n2_ : Aside0 (IsS34 w (((((((((((w38.setCell ⟨gb387, 0, none⟩ (.string t376)).setCell ⟨gb387, 1, none⟩ (.int .i64 t377)).setCell ⟨gb387, 2, none⟩ (.int .i64 t378)).setCell ⟨gb387, 3, none⟩ (.int .i64 t379)).setCell ⟨gb387, 4, none⟩ (.int .i64 t380)).setCell ⟨gb387, 5, none⟩ (.int .i64 t381)).setCell ⟨gb387, 6, none⟩ (.int .i64 t382)).setCell ⟨gb387, 7, none⟩ (.int .i64 t383)).setCell ⟨gb387, 8, none⟩ (.string t384)).setCell ⟨gb387, 9, none⟩ (.string t385)).setCell ⟨gb387, 10, none⟩ (.bool t386)) gb387 t376 t377 t378 t379 t380 t381 t382 t383 t384 t385 t386) := ⟨by repeat (first | (with_reducible first | exact HI387.out | apply IsS34.alloc | apply IsS34.drewN | apply IsS34.drew | apply IsS34.set_0 | apply IsS34.set_1 | apply IsS34.set_2 | apply IsS34.set_3 | apply IsS34.set_4 | apply IsS34.set_5 | apply IsS34.set_6 | apply IsS34.set_7 | apply IsS34.set_8 | apply IsS34.set_9 | apply IsS34.set_10 | refine IsS34.far ?_ NB387_368.out _ | refine IsS34.far ?_ NB387_369.out _) | exact HI387.out)⟩
              have n3_ : Aside0 (Below w.heap.size w (((((((((((w38.setCell ⟨gb387, 0, none⟩ (.string t376)).setCell ⟨gb387, 1, none⟩ (.int .i64 t377)).setCell ⟨gb387, 2, none⟩ (.int .i64 t378)).setCell ⟨gb387, 3, none⟩ (.int .i64 t379)).setCell ⟨gb387, 4, none⟩ (.int .i64 t380)).setCell ⟨gb387, 5, none⟩ (.int .i64 t381)).setCell ⟨gb387, 6, none⟩ (.int .i64 t382)).setCell ⟨gb387, 7, none⟩ (.int .i64 t383)).setCell ⟨gb387, 8, none⟩ (.string t384)).setCell ⟨gb387, 9, none⟩ (.string t385)).setCell ⟨gb387, 10, none⟩ (.bool t386))) := ⟨by repeat (first | (with_reducible first | exact HB.out | apply below_alloc | apply pw_below_drewN | apply below_drew1 | refine below_set ?_ (IsS34.ge HI387.out) | refine below_set ?_ GE368.out | refine below_set ?_ GE369.out) | exact HB.out)⟩
              (try clear BK368)
              (try clear BK369)
              (try clear HI387)
              (try clear HB)
              generalize (((((((((((w38.setCell ⟨gb387, 0, none⟩ (.string t376)).setCell ⟨gb387, 1, none⟩ (.int .i64 t377)).setCell ⟨gb387, 2, none⟩ (.int .i64 t378)).setCell ⟨gb387, 3, none⟩ (.int .i64 t379)).setCell ⟨gb387, 4, none⟩ (.int .i64 t380)).setCell ⟨gb387, 5, none⟩ (.int .i64 t381)).setCell ⟨gb387, 6, none⟩ (.int .i64 t382)).setCell ⟨gb387, 7, none⟩ (.int .i64 t383)).setCell ⟨gb387, 8, none⟩ (.string t384)).setCell ⟨gb387, 9, none⟩ (.string t385)).setCell ⟨gb387, 10, none⟩ (.bool t386)) = w40 at n0_ n1_ n2_ n3_ ⊢
              have BK368 := n0_
              have BK369 := n1_
              have HI387 := n2_
              have HB := n3_
              clear n0_ n1_ n2_ n3_
              have n0_ := Aside0.mk (blk_drew BK368.out)
              have n1_ := Aside0.mk (blk_drew BK369.out)
              have n2_ := Aside0.mk (IsS34.drew HI387.out)
              have n3_ := Aside0.mk (below_drew1 HB.out)
              clear BK368
              clear BK369
              clear HI387
              clear HB
              have BK368 := n0_
              have BK369 := n1_
              have HI387 := n2_
              have HB := n3_
              clear n0_ n1_ n2_ n3_
              refine start_ (n := 5) (S := fun w' => w'.cell? ⟨gb387, 0, none⟩ = some (.string t376) ∧ w'.cell? ⟨gb387, 1, none⟩ = some (.int .i64 t377) ∧ w'.cell? ⟨gb387, 2, none⟩ = some (.int .i64 t378) ∧ w'.cell? ⟨gb387, 3, none⟩ = some (.int .i64 t379) ∧ w'.cell? ⟨gb387, 4, none⟩ = some (.int .i64 t380) ∧ w'.cell? ⟨gb387, 5, none⟩ = some (.int .i64 t381) ∧ w'.cell? ⟨gb387, 6, none⟩ = some (.int .i64 t382) ∧ w'.cell? ⟨gb387, 7, none⟩ = some (.int .i64 t383) ∧ w'.cell? ⟨gb387, 8, none⟩ = some (.string t384) ∧ w'.cell? ⟨gb387, 9, none⟩ = some (.string t385) ∧ w'.cell? ⟨gb387, 10, none⟩ = some (.bool t386)) (ds := []) #[false, false, false, false, false] (by kernel_rfl) rfl rfl ⟨(cellS34_0 HI387.out.1), (cellS34_1 HI387.out.1), (cellS34_2 HI387.out.1), (cellS34_3 HI387.out.1), (cellS34_4 HI387.out.1), (cellS34_5 HI387.out.1), (cellS34_6 HI387.out.1), (cellS34_7 HI387.out.1), (cellS34_8 HI387.out.1), (cellS34_9 HI387.out.1), (cellS34_10 HI387.out.1)⟩ (fun hHeld => ?_)
              generalize w40.drew = w41 at BK368 BK369 HI387 HB hHeld ⊢
              refine take_ (i := 0) (N := some 55) (v := ?_) (a' := ?_) #[true, false, false, false, false] rfl rfl (by kernel_rfl) (fun _ _ _ h => h) (Or.inl ⟨by rfl, ?_⟩) hHeld ?_ ?_
              rotate_left
              · rintro w' ⟨s0, s1, s2, s3, s4, s5, s6, s7, s8, s9, s10⟩
                go_simp
                with_reducible rfl
              rotate_left
              · simp only [Act.put, List.setIfInBounds_toArray, List.set_cons_zero, List.set_cons_succ, i64_w, i32_w]
                rfl
              refine one_ (i := 1) (N := some 56) #[true, true, false, false, false] rfl rfl (by kernel_rfl) (by decide) (fun K hK => ?_)
              refine goes_ Try.func87 (by kernel_rfl) rfl #[.pointer (some ⟨gb387, 0, none⟩)] (by rfl) rfl rfl (by (try simp only [List.map_toArray, List.map_cons, List.map_nil]); first | done | rfl | (simp only [List.length_drop, List.length_take]; rfl)) ?_
              with_reducible refine (impl_Conn_opened.calls gb387 t376 t377 t378 t379 t380 t381 t382 t383 t384 t385 t386 t388 w _ ?side1 ?side2 A32.out).mono ?_
              (case side1 => repeat (first | (with_reducible first | exact HI387.out | apply IsS34.alloc | apply IsS34.drewN | apply IsS34.drew | apply IsS34.set_0 | apply IsS34.set_1 | apply IsS34.set_2 | apply IsS34.set_3 | apply IsS34.set_4 | apply IsS34.set_5 | apply IsS34.set_6 | apply IsS34.set_7 | apply IsS34.set_8 | apply IsS34.set_9 | apply IsS34.set_10 | refine IsS34.far ?_ NB387_368.out _ | refine IsS34.far ?_ NB387_369.out _) | exact HI387.out))
              (case side2 => repeat (first | (with_reducible first | exact HB.out | apply below_alloc | apply pw_below_drewN | apply below_drew1 | refine below_set ?_ (IsS34.ge HI387.out) | refine below_set ?_ GE368.out | refine below_set ?_ GE369.out) | exact HB.out))
              rintro e w42 ⟨v389, rfl, ho0, hi, hb, hk⟩
              refine ⟨_, rfl, ?_⟩
              have n0_ := Aside0.mk (KeepBut.blk hk (g' := gb368) (o := .cells #[.int .i64 a3_0, .int .i64 a3_1, .int .i64 a3_2, .int .i64 a3_3, .int .i64 a3_4, .int .i64 a3_5, .string a3_6] 53 (0, 0)) (by (with_reducible repeat (first | refine blk_drewN ?_ _ | refine blk_drew ?_ | refine blk_alloc ?_ _)); exact BK368.out) NB368_387.out (by simp))
              have n1_ := Aside0.mk (KeepBut.blk hk (g' := gb369) (o := .cells #[.string (⟨#[]⟩ : ByteArray), .int .i64 0, .int .i64 0, .int .i64 0, .int .i64 0, .int .i64 0, .int .i64 0, .int .i64 0, .string (⟨#[]⟩ : ByteArray), .string (⟨#[]⟩ : ByteArray), .bool false] 34 (0, 0)) (by (with_reducible repeat (first | refine blk_drewN ?_ _ | refine blk_drew ?_ | refine blk_alloc ?_ _)); exact BK369.out) NB369_387.out (by simp))
              have n2_ := Aside0.mk (Kd.R_lower (Kd.R_newB ho0 (g := gb368) (o := .cells #[.int .i64 a3_0, .int .i64 a3_1, .int .i64 a3_2, .int .i64 a3_3, .int .i64 a3_4, .int .i64 a3_5, .string a3_6] 53 (0, 0)) (by (with_reducible repeat (first | refine blk_drewN ?_ _ | refine blk_drew ?_ | refine blk_alloc ?_ _)); exact BK368.out)) (below_size (by repeat (first | (with_reducible first | exact HB.out | apply below_alloc | apply pw_below_drewN | apply below_drew1 | refine below_set ?_ (IsS34.ge HI387.out) | refine below_set ?_ GE368.out | refine below_set ?_ GE369.out) | exact HB.out))))
              have n3_ := Aside0.mk (hb)
              have n4_ := Aside0.mk (hi)
              clear BK368
              clear BK369
              clear HB
              clear HI387
              have BK368 := n0_
              have BK369 := n1_
              have HO390 := n2_
              have HB := n3_
              have HI387 := n4_
              clear n0_ n1_ n2_ n3_ n4_
              (try clear hb)
              (try clear hb2)
              (try clear hk)
              (try clear hi)
              (try clear ho0)
              refine hK.out _ _ ⟨(cellS34_0 HI387.out.1), (cellS34_1 HI387.out.1), (cellS34_2 HI387.out.1), (cellS34_3 HI387.out.1), (cellS34_4 HI387.out.1), (cellS34_5 HI387.out.1), (cellS34_6 HI387.out.1), (cellS34_7 HI387.out.1), (cellS34_8 HI387.out.1), (cellS34_9 HI387.out.1), (cellS34_10 HI387.out.1)⟩ (fun hHeld => ?_)
              clear hK K
              refine norm_ (a' := ?_) ?_ ?_
              rotate_left
              · show Act.put _ (some 56) _ = _
                simp only [Act.put, List.setIfInBounds_toArray, List.set_cons_zero, List.set_cons_succ, i64_w, i32_w]
                rfl
              refine one_ (i := 2) (N := none) #[true, true, true, false, false] rfl rfl (by kernel_rfl) (by decide) (fun K hK => ?_)
              have hs43 : w42.cell? ⟨gb369, 0, none⟩ = some (.string (⟨#[]⟩ : ByteArray)) := (blk_cell BK369.out 0).trans rfl
              have hfs43 := blk_frozen BK369.out 0
              have hns43_0 := NB368_369.out
              have hms43_0 := NB369_368.out
              have hs44 : w42.cell? ⟨gb369, 1, none⟩ = some (.int .i64 0) := (blk_cell BK369.out 1).trans rfl
              have hfs44 := blk_frozen BK369.out 1
              have hns44_0 := NB368_369.out
              have hms44_0 := NB369_368.out
              have hs45 : w42.cell? ⟨gb369, 2, none⟩ = some (.int .i64 0) := (blk_cell BK369.out 2).trans rfl
              have hfs45 := blk_frozen BK369.out 2
              have hns45_0 := NB368_369.out
              have hms45_0 := NB369_368.out
              have hs46 : w42.cell? ⟨gb369, 3, none⟩ = some (.int .i64 0) := (blk_cell BK369.out 3).trans rfl
              have hfs46 := blk_frozen BK369.out 3
              have hns46_0 := NB368_369.out
              have hms46_0 := NB369_368.out
              have hs47 : w42.cell? ⟨gb369, 4, none⟩ = some (.int .i64 0) := (blk_cell BK369.out 4).trans rfl
              have hfs47 := blk_frozen BK369.out 4
              have hns47_0 := NB368_369.out
              have hms47_0 := NB369_368.out
              have hs48 : w42.cell? ⟨gb369, 5, none⟩ = some (.int .i64 0) := (blk_cell BK369.out 5).trans rfl
              have hfs48 := blk_frozen BK369.out 5
              have hns48_0 := NB368_369.out
              have hms48_0 := NB369_368.out
              have hs49 : w42.cell? ⟨gb369, 6, none⟩ = some (.int .i64 0) := (blk_cell BK369.out 6).trans rfl
              have hfs49 := blk_frozen BK369.out 6
              have hns49_0 := NB368_369.out
              have hms49_0 := NB369_368.out
              have hs50 : w42.cell? ⟨gb369, 7, none⟩ = some (.int .i64 0) := (blk_cell BK369.out 7).trans rfl
              have hfs50 := blk_frozen BK369.out 7
              have hns50_0 := NB368_369.out
              have hms50_0 := NB369_368.out
              have hs51 : w42.cell? ⟨gb369, 8, none⟩ = some (.string (⟨#[]⟩ : ByteArray)) := (blk_cell BK369.out 8).trans rfl
              have hfs51 := blk_frozen BK369.out 8
              have hns51_0 := NB368_369.out
              have hms51_0 := NB369_368.out
              have hs52 : w42.cell? ⟨gb369, 9, none⟩ = some (.string (⟨#[]⟩ : ByteArray)) := (blk_cell BK369.out 9).trans rfl
              have hfs52 := blk_frozen BK369.out 9
              have hns52_0 := NB368_369.out
              have hms52_0 := NB369_368.out
              have hs53 : w42.cell? ⟨gb369, 10, none⟩ = some (.bool false) := (blk_cell BK369.out 10).trans rfl
              have hfs53 := blk_frozen BK369.out 10
              have hns53_0 := NB368_369.out
              have hms53_0 := NB369_368.out
              refine skip_ (w1 := ?_) (by rfl) rfl ?_ ?_
              rotate_left
              · go_simp
                rfl
              refine hK.out _ _ ⟨((cell_far (p := ⟨gb369, _, none⟩) NB387_369.out _).trans (((cell_far (p := ⟨gb369, _, none⟩) NB387_369.out _).trans (((cell_far (p := ⟨gb369, _, none⟩) NB387_369.out _).trans (((cell_far (p := ⟨gb369, _, none⟩) NB387_369.out _).trans (((cell_far (p := ⟨gb369, _, none⟩) NB387_369.out _).trans (((cell_far (p := ⟨gb369, _, none⟩) NB387_369.out _).trans (((cell_far (p := ⟨gb369, _, none⟩) NB387_369.out _).trans (((cell_far (p := ⟨gb369, _, none⟩) NB387_369.out _).trans (((cell_far (p := ⟨gb369, _, none⟩) NB387_369.out _).trans (((cell_far (p := ⟨gb369, _, none⟩) NB387_369.out _).trans (((cell_far (p := ⟨gb369, _, none⟩) NB387_369.out _).trans (hHeld.1)))))))))))))))))))))), ((cell_far (p := ⟨gb369, _, none⟩) NB387_369.out _).trans (((cell_far (p := ⟨gb369, _, none⟩) NB387_369.out _).trans (((cell_far (p := ⟨gb369, _, none⟩) NB387_369.out _).trans (((cell_far (p := ⟨gb369, _, none⟩) NB387_369.out _).trans (((cell_far (p := ⟨gb369, _, none⟩) NB387_369.out _).trans (((cell_far (p := ⟨gb369, _, none⟩) NB387_369.out _).trans (((cell_far (p := ⟨gb369, _, none⟩) NB387_369.out _).trans (((cell_far (p := ⟨gb369, _, none⟩) NB387_369.out _).trans (((cell_far (p := ⟨gb369, _, none⟩) NB387_369.out _).trans (((cell_far (p := ⟨gb369, _, none⟩) NB387_369.out _).trans (((cell_far (p := ⟨gb369, _, none⟩) NB387_369.out _).trans (hHeld.2.1)))))))))))))))))))))), ((cell_far (p := ⟨gb369, _, none⟩) NB387_369.out _).trans (((cell_far (p := ⟨gb369, _, none⟩) NB387_369.out _).trans (((cell_far (p := ⟨gb369, _, none⟩) NB387_369.out _).trans (((cell_far (p := ⟨gb369, _, none⟩) NB387_369.out _).trans (((cell_far (p := ⟨gb369, _, none⟩) NB387_369.out _).trans (((cell_far (p := ⟨gb369, _, none⟩) NB387_369.out _).trans (((cell_far (p := ⟨gb369, _, none⟩) NB387_369.out _).trans (((cell_far (p := ⟨gb369, _, none⟩) NB387_369.out _).trans (((cell_far (p := ⟨gb369, _, none⟩) NB387_369.out _).trans (((cell_far (p := ⟨gb369, _, none⟩) NB387_369.out _).trans (((cell_far (p := ⟨gb369, _, none⟩) NB387_369.out _).trans (hHeld.2.2.1)))))))))))))))))))))), ((cell_far (p := ⟨gb369, _, none⟩) NB387_369.out _).trans (((cell_far (p := ⟨gb369, _, none⟩) NB387_369.out _).trans (((cell_far (p := ⟨gb369, _, none⟩) NB387_369.out _).trans (((cell_far (p := ⟨gb369, _, none⟩) NB387_369.out _).trans (((cell_far (p := ⟨gb369, _, none⟩) NB387_369.out _).trans (((cell_far (p := ⟨gb369, _, none⟩) NB387_369.out _).trans (((cell_far (p := ⟨gb369, _, none⟩) NB387_369.out _).trans (((cell_far (p := ⟨gb369, _, none⟩) NB387_369.out _).trans (((cell_far (p := ⟨gb369, _, none⟩) NB387_369.out _).trans (((cell_far (p := ⟨gb369, _, none⟩) NB387_369.out _).trans (((cell_far (p := ⟨gb369, _, none⟩) NB387_369.out _).trans (hHeld.2.2.2.1)))))))))))))))))))))), ((cell_far (p := ⟨gb369, _, none⟩) NB387_369.out _).trans (((cell_far (p := ⟨gb369, _, none⟩) NB387_369.out _).trans (((cell_far (p := ⟨gb369, _, none⟩) NB387_369.out _).trans (((cell_far (p := ⟨gb369, _, none⟩) NB387_369.out _).trans (((cell_far (p := ⟨gb369, _, none⟩) NB387_369.out _).trans (((cell_far (p := ⟨gb369, _, none⟩) NB387_369.out _).trans (((cell_far (p := ⟨gb369, _, none⟩) NB387_369.out _).trans (((cell_far (p := ⟨gb369, _, none⟩) NB387_369.out _).trans (((cell_far (p := ⟨gb369, _, none⟩) NB387_369.out _).trans (((cell_far (p := ⟨gb369, _, none⟩) NB387_369.out _).trans (((cell_far (p := ⟨gb369, _, none⟩) NB387_369.out _).trans (hHeld.2.2.2.2.1)))))))))))))))))))))), ((cell_far (p := ⟨gb369, _, none⟩) NB387_369.out _).trans (((cell_far (p := ⟨gb369, _, none⟩) NB387_369.out _).trans (((cell_far (p := ⟨gb369, _, none⟩) NB387_369.out _).trans (((cell_far (p := ⟨gb369, _, none⟩) NB387_369.out _).trans (((cell_far (p := ⟨gb369, _, none⟩) NB387_369.out _).trans (((cell_far (p := ⟨gb369, _, none⟩) NB387_369.out _).trans (((cell_far (p := ⟨gb369, _, none⟩) NB387_369.out _).trans (((cell_far (p := ⟨gb369, _, none⟩) NB387_369.out _).trans (((cell_far (p := ⟨gb369, _, none⟩) NB387_369.out _).trans (((cell_far (p := ⟨gb369, _, none⟩) NB387_369.out _).trans (((cell_far (p := ⟨gb369, _, none⟩) NB387_369.out _).trans (hHeld.2.2.2.2.2.1)))))))))))))))))))))), ((cell_far (p := ⟨gb369, _, none⟩) NB387_369.out _).trans (((cell_far (p := ⟨gb369, _, none⟩) NB387_369.out _).trans (((cell_far (p := ⟨gb369, _, none⟩) NB387_369.out _).trans (((cell_far (p := ⟨gb369, _, none⟩) NB387_369.out _).trans (((cell_far (p := ⟨gb369, _, none⟩) NB387_369.out _).trans (((cell_far (p := ⟨gb369, _, none⟩) NB387_369.out _).trans (((cell_far (p := ⟨gb369, _, none⟩) NB387_369.out _).trans (((cell_far (p := ⟨gb369, _, none⟩) NB387_369.out _).trans (((cell_far (p := ⟨gb369, _, none⟩) NB387_369.out _).trans (((cell_far (p := ⟨gb369, _, none⟩) NB387_369.out _).trans (((cell_far (p := ⟨gb369, _, none⟩) NB387_369.out _).trans (hHeld.2.2.2.2.2.2.1)))))))))))))))))))))), ((cell_far (p := ⟨gb369, _, none⟩) NB387_369.out _).trans (((cell_far (p := ⟨gb369, _, none⟩) NB387_369.out _).trans (((cell_far (p := ⟨gb369, _, none⟩) NB387_369.out _).trans (((cell_far (p := ⟨gb369, _, none⟩) NB387_369.out _).trans (((cell_far (p := ⟨gb369, _, none⟩) NB387_369.out _).trans (((cell_far (p := ⟨gb369, _, none⟩) NB387_369.out _).trans (((cell_far (p := ⟨gb369, _, none⟩) NB387_369.out _).trans (((cell_far (p := ⟨gb369, _, none⟩) NB387_369.out _).trans (((cell_far (p := ⟨gb369, _, none⟩) NB387_369.out _).trans (((cell_far (p := ⟨gb369, _, none⟩) NB387_369.out _).trans (((cell_far (p := ⟨gb369, _, none⟩) NB387_369.out _).trans (hHeld.2.2.2.2.2.2.2.1)))))))))))))))))))))), ((cell_far (p := ⟨gb369, _, none⟩) NB387_369.out _).trans (((cell_far (p := ⟨gb369, _, none⟩) NB387_369.out _).trans (((cell_far (p := ⟨gb369, _, none⟩) NB387_369.out _).trans (((cell_far (p := ⟨gb369, _, none⟩) NB387_369.out _).trans (((cell_far (p := ⟨gb369, _, none⟩) NB387_369.out _).trans (((cell_far (p := ⟨gb369, _, none⟩) NB387_369.out _).trans (((cell_far (p := ⟨gb369, _, none⟩) NB387_369.out _).trans (((cell_far (p := ⟨gb369, _, none⟩) NB387_369.out _).trans (((cell_far (p := ⟨gb369, _, none⟩) NB387_369.out _).trans (((cell_far (p := ⟨gb369, _, none⟩) NB387_369.out _).trans (((cell_far (p := ⟨gb369, _, none⟩) NB387_369.out _).trans (hHeld.2.2.2.2.2.2.2.2.1)))))))))))))))))))))), ((cell_far (p := ⟨gb369, _, none⟩) NB387_369.out _).trans (((cell_far (p := ⟨gb369, _, none⟩) NB387_369.out _).trans (((cell_far (p := ⟨gb369, _, none⟩) NB387_369.out _).trans (((cell_far (p := ⟨gb369, _, none⟩) NB387_369.out _).trans (((cell_far (p := ⟨gb369, _, none⟩) NB387_369.out _).trans (((cell_far (p := ⟨gb369, _, none⟩) NB387_369.out _).trans (((cell_far (p := ⟨gb369, _, none⟩) NB387_369.out _).trans (((cell_far (p := ⟨gb369, _, none⟩) NB387_369.out _).trans (((cell_far (p := ⟨gb369, _, none⟩) NB387_369.out _).trans (((cell_far (p := ⟨gb369, _, none⟩) NB387_369.out _).trans (((cell_far (p := ⟨gb369, _, none⟩) NB387_369.out _).trans (hHeld.2.2.2.2.2.2.2.2.2.1)))))))))))))))))))))), ((cell_far (p := ⟨gb369, _, none⟩) NB387_369.out _).trans (((cell_far (p := ⟨gb369, _, none⟩) NB387_369.out _).trans (((cell_far (p := ⟨gb369, _, none⟩) NB387_369.out _).trans (((cell_far (p := ⟨gb369, _, none⟩) NB387_369.out _).trans (((cell_far (p := ⟨gb369, _, none⟩) NB387_369.out _).trans (((cell_far (p := ⟨gb369, _, none⟩) NB387_369.out _).trans (((cell_far (p := ⟨gb369, _, none⟩) NB387_369.out _).trans (((cell_far (p := ⟨gb369, _, none⟩) NB387_369.out _).trans (((cell_far (p := ⟨gb369, _, none⟩) NB387_369.out _).trans (((cell_far (p := ⟨gb369, _, none⟩) NB387_369.out _).trans (((cell_far (p := ⟨gb369, _, none⟩) NB387_369.out _).trans (hHeld.2.2.2.2.2.2.2.2.2.2))))))))))))))))))))))⟩ (fun hHeld => ?_)
              clear hK K
              refine pure_ (i := 3) (N := some 11) (v := ?_) (a' := ?_) #[true, true, true, true, false] rfl rfl (by kernel_rfl) (fun _ _ _ h => h) (Or.inl ⟨by rfl, ?_⟩) ?_ ?_
              rotate_left
              · intro w'
                go_simp
                with_reducible rfl
              rotate_left
              · simp only [Act.put, List.setIfInBounds_toArray, List.set_cons_zero, List.set_cons_succ, i64_w, i32_w]
                rfl
              refine pure_ (i := 4) (N := some 12) (v := ?_) (a' := ?_) #[true, true, true, true, true] rfl rfl (by kernel_rfl) (fun _ _ _ h => h) (Or.inl ⟨by rfl, ?_⟩) ?_ ?_
              rotate_left
              · intro w'
                go_simp
                with_reducible rfl
              rotate_left
              · simp only [Act.put, List.setIfInBounds_toArray, List.set_cons_zero, List.set_cons_succ, i64_w, i32_w]
                rfl
              refine done_ (by kernel_rfl) ?_
              try go_wp2
              refine bodyPost_ret (results_ctt rfl _ _ gb369 34 #[.string t376, .int .i64 t377, .int .i64 t378, .int .i64 t379, .int .i64 t380, .int .i64 t381, .int .i64 t382, .int .i64 t383, .string t384, .string t385, .bool t386] (0, 0) _ rfl (by (with_reducible repeat (first | refine blk_drewN ?_ _ | refine blk_drew ?_ | refine blk_alloc ?_ _)); refine blk_put (cs := #[.string t376, .int .i64 t377, .int .i64 t378, .int .i64 t379, .int .i64 t380, .int .i64 t381, .int .i64 t382, .int .i64 t383, .string t384, .string t385, .bool false]) ?_ 10 _ rfl; (with_reducible repeat (first | refine blk_drewN ?_ _ | refine blk_drew ?_ | refine blk_alloc ?_ _)); refine blk_put (cs := #[.string t376, .int .i64 t377, .int .i64 t378, .int .i64 t379, .int .i64 t380, .int .i64 t381, .int .i64 t382, .int .i64 t383, .string t384, .string (⟨#[]⟩ : ByteArray), .bool false]) ?_ 9 _ rfl; (with_reducible repeat (first | refine blk_drewN ?_ _ | refine blk_drew ?_ | refine blk_alloc ?_ _)); refine blk_put (cs := #[.string t376, .int .i64 t377, .int .i64 t378, .int .i64 t379, .int .i64 t380, .int .i64 t381, .int .i64 t382, .int .i64 t383, .string (⟨#[]⟩ : ByteArray), .string (⟨#[]⟩ : ByteArray), .bool false]) ?_ 8 _ rfl; (with_reducible repeat (first | refine blk_drewN ?_ _ | refine blk_drew ?_ | refine blk_alloc ?_ _)); refine blk_put (cs := #[.string t376, .int .i64 t377, .int .i64 t378, .int .i64 t379, .int .i64 t380, .int .i64 t381, .int .i64 t382, .int .i64 0, .string (⟨#[]⟩ : ByteArray), .string (⟨#[]⟩ : ByteArray), .bool false]) ?_ 7 _ rfl; (with_reducible repeat (first | refine blk_drewN ?_ _ | refine blk_drew ?_ | refine blk_alloc ?_ _)); refine blk_put (cs := #[.string t376, .int .i64 t377, .int .i64 t378, .int .i64 t379, .int .i64 t380, .int .i64 t381, .int .i64 0, .int .i64 0, .string (⟨#[]⟩ : ByteArray), .string (⟨#[]⟩ : ByteArray), .bool false]) ?_ 6 _ rfl; (with_reducible repeat (first | refine blk_drewN ?_ _ | refine blk_drew ?_ | refine blk_alloc ?_ _)); refine blk_put (cs := #[.string t376, .int .i64 t377, .int .i64 t378, .int .i64 t379, .int .i64 t380, .int .i64 0, .int .i64 0, .int .i64 0, .string (⟨#[]⟩ : ByteArray), .string (⟨#[]⟩ : ByteArray), .bool false]) ?_ 5 _ rfl; (with_reducible repeat (first | refine blk_drewN ?_ _ | refine blk_drew ?_ | refine blk_alloc ?_ _)); refine blk_put (cs := #[.string t376, .int .i64 t377, .int .i64 t378, .int .i64 t379, .int .i64 0, .int .i64 0, .int .i64 0, .int .i64 0, .string (⟨#[]⟩ : ByteArray), .string (⟨#[]⟩ : ByteArray), .bool false]) ?_ 4 _ rfl; (with_reducible repeat (first | refine blk_drewN ?_ _ | refine blk_drew ?_ | refine blk_alloc ?_ _)); refine blk_put (cs := #[.string t376, .int .i64 t377, .int .i64 t378, .int .i64 0, .int .i64 0, .int .i64 0, .int .i64 0, .int .i64 0, .string (⟨#[]⟩ : ByteArray), .string (⟨#[]⟩ : ByteArray), .bool false]) ?_ 3 _ rfl; (with_reducible repeat (first | refine blk_drewN ?_ _ | refine blk_drew ?_ | refine blk_alloc ?_ _)); refine blk_put (cs := #[.string t376, .int .i64 t377, .int .i64 0, .int .i64 0, .int .i64 0, .int .i64 0, .int .i64 0, .int .i64 0, .string (⟨#[]⟩ : ByteArray), .string (⟨#[]⟩ : ByteArray), .bool false]) ?_ 2 _ rfl; (with_reducible repeat (first | refine blk_drewN ?_ _ | refine blk_drew ?_ | refine blk_alloc ?_ _)); refine blk_put (cs := #[.string t376, .int .i64 0, .int .i64 0, .int .i64 0, .int .i64 0, .int .i64 0, .int .i64 0, .int .i64 0, .string (⟨#[]⟩ : ByteArray), .string (⟨#[]⟩ : ByteArray), .bool false]) ?_ 1 _ rfl; (with_reducible repeat (first | refine blk_drewN ?_ _ | refine blk_drew ?_ | refine blk_alloc ?_ _)); refine blk_put (cs := #[.string (⟨#[]⟩ : ByteArray), .int .i64 0, .int .i64 0, .int .i64 0, .int .i64 0, .int .i64 0, .int .i64 0, .int .i64 0, .string (⟨#[]⟩ : ByteArray), .string (⟨#[]⟩ : ByteArray), .bool false]) ?_ 0 _ rfl; (with_reducible repeat (first | refine blk_drewN ?_ _ | refine blk_drew ?_ | refine blk_alloc ?_ _)); exact BK369.out) Try.underlying34 rfl (by kernel_rfl)) rfl ?_
              exact ⟨_, by first | rfl | (simp [errW_none, errW_some] <;> rfl) | (simp [*, errW_none, errW_some] <;> rfl), by (with_reducible repeat (first | apply Kd.R_alloc | apply Kd.R_drewN | apply Kd.R_drew)); exact Kd.R_mono (Kd.R_far (p := ⟨gb369, 10, none⟩) (Kd.R_far (p := ⟨gb369, 9, none⟩) (Kd.R_far (p := ⟨gb369, 8, none⟩) (Kd.R_far (p := ⟨gb369, 7, none⟩) (Kd.R_far (p := ⟨gb369, 6, none⟩) (Kd.R_far (p := ⟨gb369, 5, none⟩) (Kd.R_far (p := ⟨gb369, 4, none⟩) (Kd.R_far (p := ⟨gb369, 3, none⟩) (Kd.R_far (p := ⟨gb369, 2, none⟩) (Kd.R_far (p := ⟨gb369, 1, none⟩) (Kd.R_far (p := ⟨gb369, 0, none⟩) (Kd.R_types HO390.out BK369.out (by decide)) (fun _ hk => hk.2) (.string t376)) (fun _ hk => hk.2) (.int .i64 t377)) (fun _ hk => hk.2) (.int .i64 t378)) (fun _ hk => hk.2) (.int .i64 t379)) (fun _ hk => hk.2) (.int .i64 t380)) (fun _ hk => hk.2) (.int .i64 t381)) (fun _ hk => hk.2) (.int .i64 t382)) (fun _ hk => hk.2) (.int .i64 t383)) (fun _ hk => hk.2) (.string t384)) (fun _ hk => hk.2) (.string t385)) (fun _ hk => hk.2) (.bool t386)) (fun _ hk => trivial), by repeat (first | (with_reducible first | exact HB.out | apply below_alloc | apply pw_below_drewN | apply below_drew1 | refine below_set ?_ (IsS34.ge HI387.out) | refine below_set ?_ GE368.out | refine below_set ?_ GE369.out) | exact HB.out)⟩
            · replace c30 := Bool.eq_false_iff.mpr c30
              subst c30
              have H1 : (some ((⟨#[]⟩ : ByteArray), 0, 0, 0, 0, 0, 0, 0, (⟨#[]⟩ : ByteArray), (⟨#[]⟩ : ByteArray), false, ([] : List (S53)), 12)) = some (r1, r2, r3, r4, r5, r6, r7, r8, r9, r10, r11, r12, r13) := by rw [if_neg (show ¬ (false = true) by decide)] at H; exact H
              clear H
              have H := H1
              clear H1
              simp only [Option.some.injEq, Prod.mk.injEq] at H
              obtain ⟨rfl, rfl, rfl, rfl, rfl, rfl, rfl, rfl, rfl, rfl, rfl, rfl, rfl⟩ := H
              go_wp2_with (first | ((with_reducible refine gate_callee (f := 61) rfl ?_); refine goesL_ (some 41) rfl rfl Try.func61 (by kernel_rfl) rfl #[.int .i64 a4] rfl (by (try simp only [List.map_toArray, List.map_cons, List.map_nil]); first | done | rfl | (simp only [List.length_drop, List.length_take]; rfl)) ?_; (with_reducible refine (impl_isAddress.calls a4 true _ A27.out).mono ?_); rintro e w' ⟨rfl, ⟨nd, rfl⟩⟩; refine ⟨_, rfl, ?_⟩; (try (rw [drewN_self wc]; generalize hq_ : World.drewN wc _ = wc; have n0_ : Aside0 (wc.heap[gb368]? = some (.cells #[.int .i64 a3_0, .int .i64 a3_1, .int .i64 a3_2, .int .i64 a3_3, .int .i64 a3_4, .int .i64 a3_5, .string a3_6] 53 (0, 0))) := ⟨by rw [← hq_]; exact (by (with_reducible repeat (first | refine blk_drewN ?_ _ | refine blk_drew ?_ | refine blk_alloc ?_ _)); exact BK368.out)⟩; have n1_ : Aside0 (wc.heap[gb369]? = some (.cells #[.string (⟨#[]⟩ : ByteArray), .int .i64 0, .int .i64 0, .int .i64 0, .int .i64 0, .int .i64 0, .int .i64 0, .int .i64 0, .string (⟨#[]⟩ : ByteArray), .string (⟨#[]⟩ : ByteArray), .bool false] 34 (0, 0))) := ⟨by rw [← hq_]; exact (by (with_reducible repeat (first | refine blk_drewN ?_ _ | refine blk_drew ?_ | refine blk_alloc ?_ _)); exact BK369.out)⟩; have n2_ : Aside0 (Below w.heap.size w wc) := ⟨by rw [← hq_]; exact (by repeat (first | (with_reducible first | exact HB.out | apply below_alloc | apply pw_below_drewN | apply below_drew1 | refine below_set ?_ GE368.out | refine below_set ?_ GE369.out) | exact HB.out))⟩; clear BK368 BK369 HB hq_; have BK368 := n0_; have BK369 := n1_; have HB := n2_; clear n0_ n1_ n2_)); have hnb54 := NB368_369.out; have hnc54 := NB369_368.out; have hcz55_0 : wc.cell? ⟨gb368, 0, none⟩ = some (.int .i64 a3_0) := (blk_cell BK368.out 0).trans rfl; have hcz55_1 : wc.cell? ⟨gb368, 1, none⟩ = some (.int .i64 a3_1) := (blk_cell BK368.out 1).trans rfl; have hcz55_2 : wc.cell? ⟨gb368, 2, none⟩ = some (.int .i64 a3_2) := (blk_cell BK368.out 2).trans rfl; have hcz55_3 : wc.cell? ⟨gb368, 3, none⟩ = some (.int .i64 a3_3) := (blk_cell BK368.out 3).trans rfl; have hcz55_4 : wc.cell? ⟨gb368, 4, none⟩ = some (.int .i64 a3_4) := (blk_cell BK368.out 4).trans rfl; have hcz55_5 : wc.cell? ⟨gb368, 5, none⟩ = some (.int .i64 a3_5) := (blk_cell BK368.out 5).trans rfl; have hcz55_6 : wc.cell? ⟨gb368, 6, none⟩ = some (.string a3_6) := (blk_cell BK368.out 6).trans rfl; have hfz55_0 := blk_frozen BK368.out 0; have hfz55_1 := blk_frozen BK368.out 1; have hfz55_2 := blk_frozen BK368.out 2; have hfz55_3 := blk_frozen BK368.out 3; have hfz55_4 := blk_frozen BK368.out 4; have hfz55_5 := blk_frozen BK368.out 5; have hfz55_6 := blk_frozen BK368.out 6) | ((with_reducible refine gate_callee (f := 85) rfl ?_); refine goesL_ (some 46) rfl rfl Try.func85 (by kernel_rfl) rfl #[.agg #[.int .i64 a3_0, .int .i64 a3_1, .int .i64 a3_2, .int .i64 a3_3, .int .i64 a3_4, .int .i64 a3_5, .string a3_6]] rfl (by (try simp only [List.map_toArray, List.map_cons, List.map_nil]); first | done | rfl | (simp only [List.length_drop, List.length_take]; rfl)) ?_; (with_reducible refine (impl_opens.calls a3_0 a3_1 a3_2 a3_3 a3_4 a3_5 a3_6 false _ A29.out).mono ?_); rintro e w56 ⟨rfl, hb⟩; refine ⟨_, rfl, ?_⟩; have n0_ := Aside0.mk (blk_below (g := gb368) (o := .cells #[.int .i64 a3_0, .int .i64 a3_1, .int .i64 a3_2, .int .i64 a3_3, .int .i64 a3_4, .int .i64 a3_5, .string a3_6] 53 (0, 0)) (by (with_reducible repeat (first | refine blk_drewN ?_ _ | refine blk_drew ?_ | refine blk_alloc ?_ _)); exact BK368.out) hb); have n1_ := Aside0.mk (blk_below (g := gb369) (o := .cells #[.string (⟨#[]⟩ : ByteArray), .int .i64 0, .int .i64 0, .int .i64 0, .int .i64 0, .int .i64 0, .int .i64 0, .int .i64 0, .string (⟨#[]⟩ : ByteArray), .string (⟨#[]⟩ : ByteArray), .bool false] 34 (0, 0)) (by (with_reducible repeat (first | refine blk_drewN ?_ _ | refine blk_drew ?_ | refine blk_alloc ?_ _)); exact BK369.out) hb); have n2_ := Aside0.mk (below_step (by repeat (first | (with_reducible first | exact HB.out | apply below_alloc | apply pw_below_drewN | apply below_drew1 | refine below_set ?_ GE368.out | refine below_set ?_ GE369.out) | exact HB.out)) hb); clear BK368; clear BK369; clear HB; have BK368 := n0_; have BK369 := n1_; have HB := n2_; clear n0_ n1_ n2_; (try clear hb); (try clear hb2); (try clear hk); (try clear hi); have hcz57_0 : w56.cell? ⟨gb369, 0, none⟩ = some (.string (⟨#[]⟩ : ByteArray)) := (blk_cell BK369.out 0).trans rfl; have hcz57_1 : w56.cell? ⟨gb369, 1, none⟩ = some (.int .i64 0) := (blk_cell BK369.out 1).trans rfl; have hcz57_2 : w56.cell? ⟨gb369, 2, none⟩ = some (.int .i64 0) := (blk_cell BK369.out 2).trans rfl; have hcz57_3 : w56.cell? ⟨gb369, 3, none⟩ = some (.int .i64 0) := (blk_cell BK369.out 3).trans rfl; have hcz57_4 : w56.cell? ⟨gb369, 4, none⟩ = some (.int .i64 0) := (blk_cell BK369.out 4).trans rfl; have hcz57_5 : w56.cell? ⟨gb369, 5, none⟩ = some (.int .i64 0) := (blk_cell BK369.out 5).trans rfl; have hcz57_6 : w56.cell? ⟨gb369, 6, none⟩ = some (.int .i64 0) := (blk_cell BK369.out 6).trans rfl; have hcz57_7 : w56.cell? ⟨gb369, 7, none⟩ = some (.int .i64 0) := (blk_cell BK369.out 7).trans rfl; have hcz57_8 : w56.cell? ⟨gb369, 8, none⟩ = some (.string (⟨#[]⟩ : ByteArray)) := (blk_cell BK369.out 8).trans rfl; have hcz57_9 : w56.cell? ⟨gb369, 9, none⟩ = some (.string (⟨#[]⟩ : ByteArray)) := (blk_cell BK369.out 9).trans rfl; have hcz57_10 : w56.cell? ⟨gb369, 10, none⟩ = some (.bool false) := (blk_cell BK369.out 10).trans rfl; have hfz57_0 := blk_frozen BK369.out 0; have hfz57_1 := blk_frozen BK369.out 1; have hfz57_2 := blk_frozen BK369.out 2; have hfz57_3 := blk_frozen BK369.out 3; have hfz57_4 := blk_frozen BK369.out 4; have hfz57_5 := blk_frozen BK369.out 5; have hfz57_6 := blk_frozen BK369.out 6; have hfz57_7 := blk_frozen BK369.out 7; have hfz57_8 := blk_frozen BK369.out 8; have hfz57_9 := blk_frozen BK369.out 9; have hfz57_10 := blk_frozen BK369.out 10))
              refine bodyPost_ret (results_ctt rfl _ _ gb369 34 #[.string (⟨#[]⟩ : ByteArray), .int .i64 0, .int .i64 0, .int .i64 0, .int .i64 0, .int .i64 0, .int .i64 0, .int .i64 0, .string (⟨#[]⟩ : ByteArray), .string (⟨#[]⟩ : ByteArray), .bool false] (0, 0) _ rfl (by (with_reducible repeat (first | refine blk_drewN ?_ _ | refine blk_drew ?_ | refine blk_alloc ?_ _)); refine blk_put (cs := #[.string (⟨#[]⟩ : ByteArray), .int .i64 0, .int .i64 0, .int .i64 0, .int .i64 0, .int .i64 0, .int .i64 0, .int .i64 0, .string (⟨#[]⟩ : ByteArray), .string (⟨#[]⟩ : ByteArray), .bool false]) ?_ 10 _ rfl; (with_reducible repeat (first | refine blk_drewN ?_ _ | refine blk_drew ?_ | refine blk_alloc ?_ _)); refine blk_put (cs := #[.string (⟨#[]⟩ : ByteArray), .int .i64 0, .int .i64 0, .int .i64 0, .int .i64 0, .int .i64 0, .int .i64 0, .int .i64 0, .string (⟨#[]⟩ : ByteArray), .string (⟨#[]⟩ : ByteArray), .bool false]) ?_ 9 _ rfl; (with_reducible repeat (first | refine blk_drewN ?_ _ | refine blk_drew ?_ | refine blk_alloc ?_ _)); refine blk_put (cs := #[.string (⟨#[]⟩ : ByteArray), .int .i64 0, .int .i64 0, .int .i64 0, .int .i64 0, .int .i64 0, .int .i64 0, .int .i64 0, .string (⟨#[]⟩ : ByteArray), .string (⟨#[]⟩ : ByteArray), .bool false]) ?_ 8 _ rfl; (with_reducible repeat (first | refine blk_drewN ?_ _ | refine blk_drew ?_ | refine blk_alloc ?_ _)); refine blk_put (cs := #[.string (⟨#[]⟩ : ByteArray), .int .i64 0, .int .i64 0, .int .i64 0, .int .i64 0, .int .i64 0, .int .i64 0, .int .i64 0, .string (⟨#[]⟩ : ByteArray), .string (⟨#[]⟩ : ByteArray), .bool false]) ?_ 7 _ rfl; (with_reducible repeat (first | refine blk_drewN ?_ _ | refine blk_drew ?_ | refine blk_alloc ?_ _)); refine blk_put (cs := #[.string (⟨#[]⟩ : ByteArray), .int .i64 0, .int .i64 0, .int .i64 0, .int .i64 0, .int .i64 0, .int .i64 0, .int .i64 0, .string (⟨#[]⟩ : ByteArray), .string (⟨#[]⟩ : ByteArray), .bool false]) ?_ 6 _ rfl; (with_reducible repeat (first | refine blk_drewN ?_ _ | refine blk_drew ?_ | refine blk_alloc ?_ _)); refine blk_put (cs := #[.string (⟨#[]⟩ : ByteArray), .int .i64 0, .int .i64 0, .int .i64 0, .int .i64 0, .int .i64 0, .int .i64 0, .int .i64 0, .string (⟨#[]⟩ : ByteArray), .string (⟨#[]⟩ : ByteArray), .bool false]) ?_ 5 _ rfl; (with_reducible repeat (first | refine blk_drewN ?_ _ | refine blk_drew ?_ | refine blk_alloc ?_ _)); refine blk_put (cs := #[.string (⟨#[]⟩ : ByteArray), .int .i64 0, .int .i64 0, .int .i64 0, .int .i64 0, .int .i64 0, .int .i64 0, .int .i64 0, .string (⟨#[]⟩ : ByteArray), .string (⟨#[]⟩ : ByteArray), .bool false]) ?_ 4 _ rfl; (with_reducible repeat (first | refine blk_drewN ?_ _ | refine blk_drew ?_ | refine blk_alloc ?_ _)); refine blk_put (cs := #[.string (⟨#[]⟩ : ByteArray), .int .i64 0, .int .i64 0, .int .i64 0, .int .i64 0, .int .i64 0, .int .i64 0, .int .i64 0, .string (⟨#[]⟩ : ByteArray), .string (⟨#[]⟩ : ByteArray), .bool false]) ?_ 3 _ rfl; (with_reducible repeat (first | refine blk_drewN ?_ _ | refine blk_drew ?_ | refine blk_alloc ?_ _)); refine blk_put (cs := #[.string (⟨#[]⟩ : ByteArray), .int .i64 0, .int .i64 0, .int .i64 0, .int .i64 0, .int .i64 0, .int .i64 0, .int .i64 0, .string (⟨#[]⟩ : ByteArray), .string (⟨#[]⟩ : ByteArray), .bool false]) ?_ 2 _ rfl; (with_reducible repeat (first | refine blk_drewN ?_ _ | refine blk_drew ?_ | refine blk_alloc ?_ _)); refine blk_put (cs := #[.string (⟨#[]⟩ : ByteArray), .int .i64 0, .int .i64 0, .int .i64 0, .int .i64 0, .int .i64 0, .int .i64 0, .int .i64 0, .string (⟨#[]⟩ : ByteArray), .string (⟨#[]⟩ : ByteArray), .bool false]) ?_ 1 _ rfl; (with_reducible repeat (first | refine blk_drewN ?_ _ | refine blk_drew ?_ | refine blk_alloc ?_ _)); refine blk_put (cs := #[.string (⟨#[]⟩ : ByteArray), .int .i64 0, .int .i64 0, .int .i64 0, .int .i64 0, .int .i64 0, .int .i64 0, .int .i64 0, .string (⟨#[]⟩ : ByteArray), .string (⟨#[]⟩ : ByteArray), .bool false]) ?_ 0 _ rfl; (with_reducible repeat (first | refine blk_drewN ?_ _ | refine blk_drew ?_ | refine blk_alloc ?_ _)); exact BK369.out) Try.underlying34 rfl (by kernel_rfl)) rfl ?_
              exact ⟨_, by first | rfl | (simp [errW_none, errW_some] <;> rfl) | (simp [*, errW_none, errW_some] <;> rfl), by first | exact Kd.R_nil _ _ _ _ _ | exact Kd.N_nil _ _ _ _ _ | exact Kd.V_nil _ _ _ _ _ | exact Kd.Q_nil _ _ _ _ _ | exact Kd.S_nil _ _ _ _ _, by repeat (first | (with_reducible first | exact HB.out | apply below_alloc | apply pw_below_drewN | apply below_drew1 | refine below_set ?_ GE368.out | refine below_set ?_ GE369.out) | exact HB.out)⟩
          · replace c28 := Bool.eq_false_iff.mpr c28
            subst c28
            have H1 : (some ((⟨#[]⟩ : ByteArray), 0, 0, 0, 0, 0, 0, 0, (⟨#[]⟩ : ByteArray), (⟨#[]⟩ : ByteArray), false, ([] : List (S53)), 4)) = some (r1, r2, r3, r4, r5, r6, r7, r8, r9, r10, r11, r12, r13) := by rw [if_neg (show ¬ (false = true) by decide)] at H; exact H
            clear H
            have H := H1
            clear H1
            simp only [Option.some.injEq, Prod.mk.injEq] at H
            obtain ⟨rfl, rfl, rfl, rfl, rfl, rfl, rfl, rfl, rfl, rfl, rfl, rfl, rfl⟩ := H
            go_wp2_with (first | ((with_reducible refine gate_callee (f := 61) rfl ?_); refine goesL_ (some 41) rfl rfl Try.func61 (by kernel_rfl) rfl #[.int .i64 a4] rfl (by (try simp only [List.map_toArray, List.map_cons, List.map_nil]); first | done | rfl | (simp only [List.length_drop, List.length_take]; rfl)) ?_; (with_reducible refine (impl_isAddress.calls a4 false _ A27.out).mono ?_); rintro e w' ⟨rfl, ⟨nd, rfl⟩⟩; refine ⟨_, rfl, ?_⟩; (try (rw [drewN_self wc]; generalize hq_ : World.drewN wc _ = wc; have n0_ : Aside0 (wc.heap[gb368]? = some (.cells #[.int .i64 a3_0, .int .i64 a3_1, .int .i64 a3_2, .int .i64 a3_3, .int .i64 a3_4, .int .i64 a3_5, .string a3_6] 53 (0, 0))) := ⟨by rw [← hq_]; exact (by (with_reducible repeat (first | refine blk_drewN ?_ _ | refine blk_drew ?_ | refine blk_alloc ?_ _)); exact BK368.out)⟩; have n1_ : Aside0 (wc.heap[gb369]? = some (.cells #[.string (⟨#[]⟩ : ByteArray), .int .i64 0, .int .i64 0, .int .i64 0, .int .i64 0, .int .i64 0, .int .i64 0, .int .i64 0, .string (⟨#[]⟩ : ByteArray), .string (⟨#[]⟩ : ByteArray), .bool false] 34 (0, 0))) := ⟨by rw [← hq_]; exact (by (with_reducible repeat (first | refine blk_drewN ?_ _ | refine blk_drew ?_ | refine blk_alloc ?_ _)); exact BK369.out)⟩; have n2_ : Aside0 (Below w.heap.size w wc) := ⟨by rw [← hq_]; exact (by repeat (first | (with_reducible first | exact HB.out | apply below_alloc | apply pw_below_drewN | apply below_drew1 | refine below_set ?_ GE368.out | refine below_set ?_ GE369.out) | exact HB.out))⟩; clear BK368 BK369 HB hq_; have BK368 := n0_; have BK369 := n1_; have HB := n2_; clear n0_ n1_ n2_)); have hnb58 := NB369_368.out; have hnc58 := NB368_369.out; have hcz59_0 : wc.cell? ⟨gb369, 0, none⟩ = some (.string (⟨#[]⟩ : ByteArray)) := (blk_cell BK369.out 0).trans rfl; have hcz59_1 : wc.cell? ⟨gb369, 1, none⟩ = some (.int .i64 0) := (blk_cell BK369.out 1).trans rfl; have hcz59_2 : wc.cell? ⟨gb369, 2, none⟩ = some (.int .i64 0) := (blk_cell BK369.out 2).trans rfl; have hcz59_3 : wc.cell? ⟨gb369, 3, none⟩ = some (.int .i64 0) := (blk_cell BK369.out 3).trans rfl; have hcz59_4 : wc.cell? ⟨gb369, 4, none⟩ = some (.int .i64 0) := (blk_cell BK369.out 4).trans rfl; have hcz59_5 : wc.cell? ⟨gb369, 5, none⟩ = some (.int .i64 0) := (blk_cell BK369.out 5).trans rfl; have hcz59_6 : wc.cell? ⟨gb369, 6, none⟩ = some (.int .i64 0) := (blk_cell BK369.out 6).trans rfl; have hcz59_7 : wc.cell? ⟨gb369, 7, none⟩ = some (.int .i64 0) := (blk_cell BK369.out 7).trans rfl; have hcz59_8 : wc.cell? ⟨gb369, 8, none⟩ = some (.string (⟨#[]⟩ : ByteArray)) := (blk_cell BK369.out 8).trans rfl; have hcz59_9 : wc.cell? ⟨gb369, 9, none⟩ = some (.string (⟨#[]⟩ : ByteArray)) := (blk_cell BK369.out 9).trans rfl; have hcz59_10 : wc.cell? ⟨gb369, 10, none⟩ = some (.bool false) := (blk_cell BK369.out 10).trans rfl; have hfz59_0 := blk_frozen BK369.out 0; have hfz59_1 := blk_frozen BK369.out 1; have hfz59_2 := blk_frozen BK369.out 2; have hfz59_3 := blk_frozen BK369.out 3; have hfz59_4 := blk_frozen BK369.out 4; have hfz59_5 := blk_frozen BK369.out 5; have hfz59_6 := blk_frozen BK369.out 6; have hfz59_7 := blk_frozen BK369.out 7; have hfz59_8 := blk_frozen BK369.out 8; have hfz59_9 := blk_frozen BK369.out 9; have hfz59_10 := blk_frozen BK369.out 10))
            refine bodyPost_ret (results_ctt rfl _ _ gb369 34 #[.string (⟨#[]⟩ : ByteArray), .int .i64 0, .int .i64 0, .int .i64 0, .int .i64 0, .int .i64 0, .int .i64 0, .int .i64 0, .string (⟨#[]⟩ : ByteArray), .string (⟨#[]⟩ : ByteArray), .bool false] (0, 0) _ rfl (by (with_reducible repeat (first | refine blk_drewN ?_ _ | refine blk_drew ?_ | refine blk_alloc ?_ _)); refine blk_put (cs := #[.string (⟨#[]⟩ : ByteArray), .int .i64 0, .int .i64 0, .int .i64 0, .int .i64 0, .int .i64 0, .int .i64 0, .int .i64 0, .string (⟨#[]⟩ : ByteArray), .string (⟨#[]⟩ : ByteArray), .bool false]) ?_ 10 _ rfl; (with_reducible repeat (first | refine blk_drewN ?_ _ | refine blk_drew ?_ | refine blk_alloc ?_ _)); refine blk_put (cs := #[.string (⟨#[]⟩ : ByteArray), .int .i64 0, .int .i64 0, .int .i64 0, .int .i64 0, .int .i64 0, .int .i64 0, .int .i64 0, .string (⟨#[]⟩ : ByteArray), .string (⟨#[]⟩ : ByteArray), .bool false]) ?_ 9 _ rfl; (with_reducible repeat (first | refine blk_drewN ?_ _ | refine blk_drew ?_ | refine blk_alloc ?_ _)); refine blk_put (cs := #[.string (⟨#[]⟩ : ByteArray), .int .i64 0, .int .i64 0, .int .i64 0, .int .i64 0, .int .i64 0, .int .i64 0, .int .i64 0, .string (⟨#[]⟩ : ByteArray), .string (⟨#[]⟩ : ByteArray), .bool false]) ?_ 8 _ rfl; (with_reducible repeat (first | refine blk_drewN ?_ _ | refine blk_drew ?_ | refine blk_alloc ?_ _)); refine blk_put (cs := #[.string (⟨#[]⟩ : ByteArray), .int .i64 0, .int .i64 0, .int .i64 0, .int .i64 0, .int .i64 0, .int .i64 0, .int .i64 0, .string (⟨#[]⟩ : ByteArray), .string (⟨#[]⟩ : ByteArray), .bool false]) ?_ 7 _ rfl; (with_reducible repeat (first | refine blk_drewN ?_ _ | refine blk_drew ?_ | refine blk_alloc ?_ _)); refine blk_put (cs := #[.string (⟨#[]⟩ : ByteArray), .int .i64 0, .int .i64 0, .int .i64 0, .int .i64 0, .int .i64 0, .int .i64 0, .int .i64 0, .string (⟨#[]⟩ : ByteArray), .string (⟨#[]⟩ : ByteArray), .bool false]) ?_ 6 _ rfl; (with_reducible repeat (first | refine blk_drewN ?_ _ | refine blk_drew ?_ | refine blk_alloc ?_ _)); refine blk_put (cs := #[.string (⟨#[]⟩ : ByteArray), .int .i64 0, .int .i64 0, .int .i64 0, .int .i64 0, .int .i64 0, .int .i64 0, .int .i64 0, .string (⟨#[]⟩ : ByteArray), .string (⟨#[]⟩ : ByteArray), .bool false]) ?_ 5 _ rfl; (with_reducible repeat (first | refine blk_drewN ?_ _ | refine blk_drew ?_ | refine blk_alloc ?_ _)); refine blk_put (cs := #[.string (⟨#[]⟩ : ByteArray), .int .i64 0, .int .i64 0, .int .i64 0, .int .i64 0, .int .i64 0, .int .i64 0, .int .i64 0, .string (⟨#[]⟩ : ByteArray), .string (⟨#[]⟩ : ByteArray), .bool false]) ?_ 4 _ rfl; (with_reducible repeat (first | refine blk_drewN ?_ _ | refine blk_drew ?_ | refine blk_alloc ?_ _)); refine blk_put (cs := #[.string (⟨#[]⟩ : ByteArray), .int .i64 0, .int .i64 0, .int .i64 0, .int .i64 0, .int .i64 0, .int .i64 0, .int .i64 0, .string (⟨#[]⟩ : ByteArray), .string (⟨#[]⟩ : ByteArray), .bool false]) ?_ 3 _ rfl; (with_reducible repeat (first | refine blk_drewN ?_ _ | refine blk_drew ?_ | refine blk_alloc ?_ _)); refine blk_put (cs := #[.string (⟨#[]⟩ : ByteArray), .int .i64 0, .int .i64 0, .int .i64 0, .int .i64 0, .int .i64 0, .int .i64 0, .int .i64 0, .string (⟨#[]⟩ : ByteArray), .string (⟨#[]⟩ : ByteArray), .bool false]) ?_ 2 _ rfl; (with_reducible repeat (first | refine blk_drewN ?_ _ | refine blk_drew ?_ | refine blk_alloc ?_ _)); refine blk_put (cs := #[.string (⟨#[]⟩ : ByteArray), .int .i64 0, .int .i64 0, .int .i64 0, .int .i64 0, .int .i64 0, .int .i64 0, .int .i64 0, .string (⟨#[]⟩ : ByteArray), .string (⟨#[]⟩ : ByteArray), .bool false]) ?_ 1 _ rfl; (with_reducible repeat (first | refine blk_drewN ?_ _ | refine blk_drew ?_ | refine blk_alloc ?_ _)); refine blk_put (cs := #[.string (⟨#[]⟩ : ByteArray), .int .i64 0, .int .i64 0, .int .i64 0, .int .i64 0, .int .i64 0, .int .i64 0, .int .i64 0, .string (⟨#[]⟩ : ByteArray), .string (⟨#[]⟩ : ByteArray), .bool false]) ?_ 0 _ rfl; (with_reducible repeat (first | refine blk_drewN ?_ _ | refine blk_drew ?_ | refine blk_alloc ?_ _)); exact BK369.out) Try.underlying34 rfl (by kernel_rfl)) rfl ?_
            exact ⟨_, by first | rfl | (simp [errW_none, errW_some] <;> rfl) | (simp [*, errW_none, errW_some] <;> rfl), by first | exact Kd.R_nil _ _ _ _ _ | exact Kd.N_nil _ _ _ _ _ | exact Kd.V_nil _ _ _ _ _ | exact Kd.Q_nil _ _ _ _ _ | exact Kd.S_nil _ _ _ _ _, by repeat (first | (with_reducible first | exact HB.out | apply below_alloc | apply pw_below_drewN | apply below_drew1 | refine below_set ?_ GE368.out | refine below_set ?_ GE369.out) | exact HB.out)⟩
end
end Go.Proofs.Ytlpkldomoniegaa.X
