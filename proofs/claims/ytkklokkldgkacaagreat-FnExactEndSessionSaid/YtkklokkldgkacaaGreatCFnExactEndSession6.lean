/- Texts that the row of FnExactEndSession stands on: functions of the program and of the reference, each as a Lean function with the same answers, and the plain lemmas. Conditions: none beside those that each theorem names. -/
import Derived.Test.YtkklokkldgkacaaGreatCFnExactEndSession5
namespace Go.Proofs.YtkklokkldgkacaaGreat.X
open Go.RowKit Go.Proofs.YtkklokkldgkacaaGreatW.PrintWords Go.Proofs.YtkklokkldgkacaaGreatW.PrintLast Go.Proofs.YtkklokkldgkacaaGreatW.PrintMore
attribute [local go_sem] max2_int min2_int max_two min_two max_three min_three max_four min_four   -- for this text's walks alone
set_option linter.unusedVariables false
set_option linter.unusedSimpArgs false
section
-- NEEDS laws.eqConfig
def ClashP (s x : S76) : Prop := x.f1 = s.f1 ∨ x.f2.toList = s.f2.toList ∨ x.f3 = s.f3
set_option maxHeartbeats 8000000 in
set_option maxRecDepth 100000 in
theorem iClash1 (s x : S76) (gs : Nat) (w : World) (hx : w.heap[gs]? = some (.cells #[.int .i64 s.f0, .int .i64 s.f1, .string s.f2, .int .i64 s.f3, .int .i64 s.f4, .int .i64 s.f5, .int .i64 s.f6, .int .i64 s.f7, .int .i64 s.f8, .int .i64 s.f9] 76 (0, 0))) : Calls Tryz.prog 50 #[.agg #[.int .i64 x.f0, .int .i64 x.f1, .string x.f2, .int .i64 x.f3, .int .i64 x.f4, .int .i64 x.f5, .int .i64 x.f6, .int .i64 x.f7, .int .i64 x.f8, .int .i64 x.f9], .pointer (some ⟨gs, 0, none⟩)] w (IsB (ClashP s x) w) := by
  have hu := Tryz.underlying76
  have hc := blk_cell hx
  have hlt := blk_lt hx
  clear hx
  rcases beq_em x.f1 s.f1 with ⟨b0, k0⟩ | ⟨b0, k0⟩
  rotate_left
  rcases beq_emS x.f2 s.f2 with ⟨b1, k1⟩ | ⟨b1, k1⟩
  rotate_left
  rcases beq_em x.f3 s.f3 with ⟨b2, k2⟩ | ⟨b2, k2⟩
  all_goals go_enter Tryz.func50, Tryz.ntmps50
  all_goals go_wp2
  all_goals go_ret
  all_goals first
    | exact .inl ⟨rfl, .inr (.inr k2.out), below_alloc (Below.refl _ _) _⟩
    | exact .inl ⟨rfl, .inr (.inl k1.out), below_alloc (Below.refl _ _) _⟩
    | exact .inl ⟨rfl, .inl k0.out, below_alloc (Below.refl _ _) _⟩
    | exact .inr ⟨rfl, fun h => by rcases h with h | h | h; exact k0.out h; exact k1.out h; exact k2.out h, below_alloc (Below.refl _ _) _⟩
set_option maxHeartbeats 8000000 in
set_option maxRecDepth 100000 in
theorem iRecord1 (B0 B1 B2 B3 : Option Addr) (d0 d1 d2 d3 : Nat) (us : List S92) (ss : List S76) (fs : List S81) (rs : List S83) (nx : Int) (gg : Nat) (r : S83) (w : World) (hy : w.heap[gg]? = some (.cells #[.slice B0 us.length d0, .slice B1 ss.length d1, .slice B2 fs.length d2, .slice B3 rs.length d3, .int .i64 nx] 48 (0, 0))) (n0 : 1 ≤ nx) (n1 : nx ≤ 10000) : Calls Tryz.prog 55 #[.pointer (some ⟨gg, 0, none⟩), .agg #[.int .i64 r.f0, .int .i64 r.f1, .int .i64 r.f2, .int .i64 r.f3, .bool r.f4]] w (IsB (RecordP nx r) w) := by
  have hu := Tryz.underlying83
  have hu3 := Tryz.underlying48
  have H0 := Aside0.mk hy
  clear hy
  have hw1 : IntKind.i64.wrap (nx - 1) = nx - 1 := i64id (by omega) (by omega)
  go_enter Tryz.func55, Tryz.ntmps55
  go_wp2
  have HB := Aside0.mk (below_alloc (Below.refl w.heap.size w) (.cells #[.int .i64 r.f0, .int .i64 r.f1, .int .i64 r.f2, .int .i64 r.f3, .bool r.f4] 83 (0, 0)))
  have HX := Aside0.mk (blk_new w (.cells #[.int .i64 r.f0, .int .i64 r.f1, .int .i64 r.f2, .int .i64 r.f3, .bool r.f4] 83 (0, 0)))
  have hg2 := blk_below H0.out HB.out
  generalize hW : w.alloc (.cells #[.int .i64 r.f0, .int .i64 r.f1, .int .i64 r.f2, .int .i64 r.f3, .bool r.f4] 83 (0, 0)) = W0 at *
  clear hW
  rcases Classical.em (1 ≤ r.f0 ∧ r.f0 ≤ nx - 1) with k1 | k1 <;> (have K1 := Aside0.mk k1; clear k1)
  rotate_left
  · refine qS (fun w' => w'.cell? ⟨w.heap.size, 0, none⟩ = some (.int .i64 r.f0) ∧ w'.cell? ⟨w.heap.size, 1, none⟩ = some (.int .i64 r.f1) ∧ w'.cell? ⟨w.heap.size, 2, none⟩ = some (.int .i64 r.f2) ∧ w'.cell? ⟨w.heap.size, 3, none⟩ = some (.int .i64 r.f3) ∧ w'.cell? ⟨w.heap.size, 4, none⟩ = some (.bool r.f4) ∧ w'.cell? ⟨gg, 4, none⟩ = some (.int .i64 nx)) 21 ⟨blk_cell HX.out 0, blk_cell HX.out 1, blk_cell HX.out 2, blk_cell HX.out 3, blk_cell HX.out 4, blk_cell hg2 4⟩ (fun hs => ?_)
    have n_ := Aside0.mk (below_drew1 HB.out)
    clear HB
    have HB := n_
    clear n_
    have n_ := Aside0.mk (blk_drew HX.out)
    clear HX
    have HX := n_
    clear n_
    refine qP 0 5 ?_
    refine qP 2 7 ?_
    refine qP 3 8 ?_
    refine qP 4 9 ?_
    refine qT 1 6 hs ?_
    refine qT 5 10 hs ?_
    refine qP 6 11 ?_
    refine q1 7 12 (fun K hK => ?_)
    refine qC Tryz.func47 _ ?_
    refine (iIn1 _ _ _ _).mono ?_
    intro e w2 h2
    obtain ⟨rfl, hb⟩ := h2.no K1.out
    have n_ := Aside0.mk (below_step HB.out hb)
    clear HB
    have HB := n_
    clear n_
    have n_ := Aside0.mk (blk_below HX.out hb)
    clear HX
    have HX := n_
    clear n_
    refine ⟨_, rfl, hK.out _ _ ⟨pw_cell_below hb hs.1, pw_cell_below hb hs.2.1, pw_cell_below hb hs.2.2.1, pw_cell_below hb hs.2.2.2.1, pw_cell_below hb hs.2.2.2.2.1, pw_cell_below hb hs.2.2.2.2.2⟩ (fun hs2 => ?_)⟩
    clear hK K hs hb
    have hs := hs2
    clear hs2
    refine qN ?_
    refine qP 8 13 ?_
    refine qP 9 14 ?_
    refine qU 10 15 ?_
    refine qU 11 16 ?_
    refine qU 12 17 ?_
    refine qU 13 18 ?_
    refine qP 14 19 ?_
    refine qP 15 20 ?_
    refine qU 16 21 ?_
    refine qU 17 22 ?_
    refine qU 18 23 ?_
    refine qU 19 24 ?_
    refine qP 20 25 ?_
    refine qD ?_
    clear hs
    clear hg2 hw1
    go_wp2
    go_ret
    exact .inr ⟨rfl, fun h => K1.out h.1, HB.out⟩
  rcases Classical.em (0 ≤ r.f1 ∧ r.f1 ≤ 100000) with k2 | k2 <;> (have K2 := Aside0.mk k2; clear k2)
  rotate_left
  · refine qS (fun w' => w'.cell? ⟨w.heap.size, 0, none⟩ = some (.int .i64 r.f0) ∧ w'.cell? ⟨w.heap.size, 1, none⟩ = some (.int .i64 r.f1) ∧ w'.cell? ⟨w.heap.size, 2, none⟩ = some (.int .i64 r.f2) ∧ w'.cell? ⟨w.heap.size, 3, none⟩ = some (.int .i64 r.f3) ∧ w'.cell? ⟨w.heap.size, 4, none⟩ = some (.bool r.f4) ∧ w'.cell? ⟨gg, 4, none⟩ = some (.int .i64 nx)) 21 ⟨blk_cell HX.out 0, blk_cell HX.out 1, blk_cell HX.out 2, blk_cell HX.out 3, blk_cell HX.out 4, blk_cell hg2 4⟩ (fun hs => ?_)
    have n_ := Aside0.mk (below_drew1 HB.out)
    clear HB
    have HB := n_
    clear n_
    have n_ := Aside0.mk (blk_drew HX.out)
    clear HX
    have HX := n_
    clear n_
    refine qP 0 5 ?_
    refine qP 2 7 ?_
    refine qP 3 8 ?_
    refine qP 4 9 ?_
    refine qT 1 6 hs ?_
    refine qT 5 10 hs ?_
    refine qP 6 11 ?_
    refine q1 7 12 (fun K hK => ?_)
    refine qC Tryz.func47 _ ?_
    refine (iIn1 _ _ _ _).mono ?_
    intro e w2 h2
    obtain ⟨rfl, hb⟩ := h2.yes K1.out
    have n_ := Aside0.mk (below_step HB.out hb)
    clear HB
    have HB := n_
    clear n_
    have n_ := Aside0.mk (blk_below HX.out hb)
    clear HX
    have HX := n_
    clear n_
    refine ⟨_, rfl, hK.out _ _ ⟨pw_cell_below hb hs.1, pw_cell_below hb hs.2.1, pw_cell_below hb hs.2.2.1, pw_cell_below hb hs.2.2.2.1, pw_cell_below hb hs.2.2.2.2.1, pw_cell_below hb hs.2.2.2.2.2⟩ (fun hs2 => ?_)⟩
    clear hK K hs hb
    have hs := hs2
    clear hs2
    refine qN ?_
    refine qP 8 13 ?_
    refine qP 9 14 ?_
    refine qP 10 15 ?_
    refine qT 11 16 hs ?_
    refine q1 12 17 (fun K hK => ?_)
    refine qC Tryz.func113 _ ?_
    refine (iTime1 _ _).mono ?_
    intro e w2 h2
    obtain ⟨rfl, hb⟩ := h2.no K2.out
    have n_ := Aside0.mk (below_step HB.out hb)
    clear HB
    have HB := n_
    clear n_
    have n_ := Aside0.mk (blk_below HX.out hb)
    clear HX
    have HX := n_
    clear n_
    refine ⟨_, rfl, hK.out _ _ ⟨pw_cell_below hb hs.1, pw_cell_below hb hs.2.1, pw_cell_below hb hs.2.2.1, pw_cell_below hb hs.2.2.2.1, pw_cell_below hb hs.2.2.2.2.1, pw_cell_below hb hs.2.2.2.2.2⟩ (fun hs2 => ?_)⟩
    clear hK K hs hb
    have hs := hs2
    clear hs2
    refine qN ?_
    refine qP 13 18 ?_
    refine qP 14 19 ?_
    refine qP 15 20 ?_
    refine qU 16 21 ?_
    refine qU 17 22 ?_
    refine qU 18 23 ?_
    refine qU 19 24 ?_
    refine qP 20 25 ?_
    refine qD ?_
    clear hs
    clear hg2 hw1
    go_wp2
    go_ret
    exact .inr ⟨rfl, fun h => K2.out h.2.1, HB.out⟩
  rcases Classical.em (0 ≤ r.f3 ∧ r.f3 ≤ 1000000) with k3 | k3 <;> (have K3 := Aside0.mk k3; clear k3)
  rotate_left
  · refine qS (fun w' => w'.cell? ⟨w.heap.size, 0, none⟩ = some (.int .i64 r.f0) ∧ w'.cell? ⟨w.heap.size, 1, none⟩ = some (.int .i64 r.f1) ∧ w'.cell? ⟨w.heap.size, 2, none⟩ = some (.int .i64 r.f2) ∧ w'.cell? ⟨w.heap.size, 3, none⟩ = some (.int .i64 r.f3) ∧ w'.cell? ⟨w.heap.size, 4, none⟩ = some (.bool r.f4) ∧ w'.cell? ⟨gg, 4, none⟩ = some (.int .i64 nx)) 21 ⟨blk_cell HX.out 0, blk_cell HX.out 1, blk_cell HX.out 2, blk_cell HX.out 3, blk_cell HX.out 4, blk_cell hg2 4⟩ (fun hs => ?_)
    have n_ := Aside0.mk (below_drew1 HB.out)
    clear HB
    have HB := n_
    clear n_
    have n_ := Aside0.mk (blk_drew HX.out)
    clear HX
    have HX := n_
    clear n_
    refine qP 0 5 ?_
    refine qP 2 7 ?_
    refine qP 3 8 ?_
    refine qP 4 9 ?_
    refine qT 1 6 hs ?_
    refine qT 5 10 hs ?_
    refine qP 6 11 ?_
    refine q1 7 12 (fun K hK => ?_)
    refine qC Tryz.func47 _ ?_
    refine (iIn1 _ _ _ _).mono ?_
    intro e w2 h2
    obtain ⟨rfl, hb⟩ := h2.yes K1.out
    have n_ := Aside0.mk (below_step HB.out hb)
    clear HB
    have HB := n_
    clear n_
    have n_ := Aside0.mk (blk_below HX.out hb)
    clear HX
    have HX := n_
    clear n_
    refine ⟨_, rfl, hK.out _ _ ⟨pw_cell_below hb hs.1, pw_cell_below hb hs.2.1, pw_cell_below hb hs.2.2.1, pw_cell_below hb hs.2.2.2.1, pw_cell_below hb hs.2.2.2.2.1, pw_cell_below hb hs.2.2.2.2.2⟩ (fun hs2 => ?_)⟩
    clear hK K hs hb
    have hs := hs2
    clear hs2
    refine qN ?_
    refine qP 8 13 ?_
    refine qP 9 14 ?_
    refine qP 10 15 ?_
    refine qT 11 16 hs ?_
    refine q1 12 17 (fun K hK => ?_)
    refine qC Tryz.func113 _ ?_
    refine (iTime1 _ _).mono ?_
    intro e w2 h2
    obtain ⟨rfl, hb⟩ := h2.yes K2.out
    have n_ := Aside0.mk (below_step HB.out hb)
    clear HB
    have HB := n_
    clear n_
    have n_ := Aside0.mk (blk_below HX.out hb)
    clear HX
    have HX := n_
    clear n_
    refine ⟨_, rfl, hK.out _ _ ⟨pw_cell_below hb hs.1, pw_cell_below hb hs.2.1, pw_cell_below hb hs.2.2.1, pw_cell_below hb hs.2.2.2.1, pw_cell_below hb hs.2.2.2.2.1, pw_cell_below hb hs.2.2.2.2.2⟩ (fun hs2 => ?_)⟩
    clear hK K hs hb
    have hs := hs2
    clear hs2
    refine qN ?_
    refine qP 13 18 ?_
    refine qP 14 19 ?_
    refine qP 15 20 ?_
    refine qP 16 21 ?_
    refine qT 17 22 hs ?_
    refine q1 18 23 (fun K hK => ?_)
    refine qC Tryz.func47 _ ?_
    refine (iIn1 _ _ _ _).mono ?_
    intro e w2 h2
    obtain ⟨rfl, hb⟩ := h2.no K3.out
    have n_ := Aside0.mk (below_step HB.out hb)
    clear HB
    have HB := n_
    clear n_
    have n_ := Aside0.mk (blk_below HX.out hb)
    clear HX
    have HX := n_
    clear n_
    refine ⟨_, rfl, hK.out _ _ ⟨pw_cell_below hb hs.1, pw_cell_below hb hs.2.1, pw_cell_below hb hs.2.2.1, pw_cell_below hb hs.2.2.2.1, pw_cell_below hb hs.2.2.2.2.1, pw_cell_below hb hs.2.2.2.2.2⟩ (fun hs2 => ?_)⟩
    clear hK K hs hb
    have hs := hs2
    clear hs2
    refine qN ?_
    refine qP 19 24 ?_
    refine qP 20 25 ?_
    refine qD ?_
    clear hs
    clear hg2 hw1
    go_wp2
    go_ret
    exact .inr ⟨rfl, fun h => K3.out h.2.2.1, HB.out⟩
  refine qS (fun w' => w'.cell? ⟨w.heap.size, 0, none⟩ = some (.int .i64 r.f0) ∧ w'.cell? ⟨w.heap.size, 1, none⟩ = some (.int .i64 r.f1) ∧ w'.cell? ⟨w.heap.size, 2, none⟩ = some (.int .i64 r.f2) ∧ w'.cell? ⟨w.heap.size, 3, none⟩ = some (.int .i64 r.f3) ∧ w'.cell? ⟨w.heap.size, 4, none⟩ = some (.bool r.f4) ∧ w'.cell? ⟨gg, 4, none⟩ = some (.int .i64 nx)) 21 ⟨blk_cell HX.out 0, blk_cell HX.out 1, blk_cell HX.out 2, blk_cell HX.out 3, blk_cell HX.out 4, blk_cell hg2 4⟩ (fun hs => ?_)
  have n_ := Aside0.mk (below_drew1 HB.out)
  clear HB
  have HB := n_
  clear n_
  have n_ := Aside0.mk (blk_drew HX.out)
  clear HX
  have HX := n_
  clear n_
  refine qP 0 5 ?_
  refine qP 2 7 ?_
  refine qP 3 8 ?_
  refine qP 4 9 ?_
  refine qT 1 6 hs ?_
  refine qT 5 10 hs ?_
  refine qP 6 11 ?_
  refine q1 7 12 (fun K hK => ?_)
  refine qC Tryz.func47 _ ?_
  refine (iIn1 _ _ _ _).mono ?_
  intro e w2 h2
  obtain ⟨rfl, hb⟩ := h2.yes K1.out
  have n_ := Aside0.mk (below_step HB.out hb)
  clear HB
  have HB := n_
  clear n_
  have n_ := Aside0.mk (blk_below HX.out hb)
  clear HX
  have HX := n_
  clear n_
  refine ⟨_, rfl, hK.out _ _ ⟨pw_cell_below hb hs.1, pw_cell_below hb hs.2.1, pw_cell_below hb hs.2.2.1, pw_cell_below hb hs.2.2.2.1, pw_cell_below hb hs.2.2.2.2.1, pw_cell_below hb hs.2.2.2.2.2⟩ (fun hs2 => ?_)⟩
  clear hK K hs hb
  have hs := hs2
  clear hs2
  refine qN ?_
  refine qP 8 13 ?_
  refine qP 9 14 ?_
  refine qP 10 15 ?_
  refine qT 11 16 hs ?_
  refine q1 12 17 (fun K hK => ?_)
  refine qC Tryz.func113 _ ?_
  refine (iTime1 _ _).mono ?_
  intro e w2 h2
  obtain ⟨rfl, hb⟩ := h2.yes K2.out
  have n_ := Aside0.mk (below_step HB.out hb)
  clear HB
  have HB := n_
  clear n_
  have n_ := Aside0.mk (blk_below HX.out hb)
  clear HX
  have HX := n_
  clear n_
  refine ⟨_, rfl, hK.out _ _ ⟨pw_cell_below hb hs.1, pw_cell_below hb hs.2.1, pw_cell_below hb hs.2.2.1, pw_cell_below hb hs.2.2.2.1, pw_cell_below hb hs.2.2.2.2.1, pw_cell_below hb hs.2.2.2.2.2⟩ (fun hs2 => ?_)⟩
  clear hK K hs hb
  have hs := hs2
  clear hs2
  refine qN ?_
  refine qP 13 18 ?_
  refine qP 14 19 ?_
  refine qP 15 20 ?_
  refine qP 16 21 ?_
  refine qT 17 22 hs ?_
  refine q1 18 23 (fun K hK => ?_)
  refine qC Tryz.func47 _ ?_
  refine (iIn1 _ _ _ _).mono ?_
  intro e w2 h2
  obtain ⟨rfl, hb⟩ := h2.yes K3.out
  have n_ := Aside0.mk (below_step HB.out hb)
  clear HB
  have HB := n_
  clear n_
  have n_ := Aside0.mk (blk_below HX.out hb)
  clear HX
  have HX := n_
  clear n_
  refine ⟨_, rfl, hK.out _ _ ⟨pw_cell_below hb hs.1, pw_cell_below hb hs.2.1, pw_cell_below hb hs.2.2.1, pw_cell_below hb hs.2.2.2.1, pw_cell_below hb hs.2.2.2.2.1, pw_cell_below hb hs.2.2.2.2.2⟩ (fun hs2 => ?_)⟩
  clear hK K hs hb
  have hs := hs2
  clear hs2
  refine qN ?_
  refine qP 19 24 ?_
  refine qP 20 25 ?_
  refine qD ?_
  clear hs
  clear hg2 hw1
  have HP := Aside0.mk True.intro
  have hx := blk_cell HX.out
  have hzr := blk_lt HX.out
  rcases bool_em r.f4 with k4 | k4
  · have K4 := Aside0.mk k4
    rw [k4] at hx HX
    clear k4
    go_wp2_with (first
      | (go_at_call 47; refine (iIn1 _ _ _ _).mono ?_; rintro e w2 (⟨rfl, hr, hb⟩ | ⟨rfl, hr, hb⟩) <;> (have n_ := Aside0.mk (And.intro hr HP.out); clear HP hr; have HP := n_; clear n_; have n_ := Aside0.mk (below_step (w := w) (by repeat' (with_reducible first | exact HB.out | apply below_alloc | apply below_drew1 | refine below_set ?_ (by omega))) hb); clear HB; have HB := n_; clear n_; have n_ := Aside0.mk (blk_below (g := w.heap.size) (o := .cells #[.int .i64 r.f0, .int .i64 r.f1, .int .i64 r.f2, .int .i64 r.f3, .bool true] 83 (0, 0)) (by repeat' (with_reducible first | exact HX.out | exact blk_new _ _ | refine blk_alloc ?_ _ | refine blk_drew ?_ | refine blk_far ?_ (by dsimp only; omega) _)) hb); (try clear HX); have HX := n_; clear n_; obtain ⟨hc, hf⟩ := bcell hb; have hz : w.heap.size < w2.heap.size := blk_lt HX.out; clear hb)))
    · go_ret
      exact .inl ⟨rfl, ⟨K1.out, K2.out, K3.out, fun _ => HP.out.1, fun h => absurd (K4.out.symm.trans h) (by decide)⟩, HB.out⟩
    · go_ret
      exact .inr ⟨rfl, fun h => HP.out.1 (h.2.2.2.1 K4.out), HB.out⟩
  · have K4 := Aside0.mk k4
    rw [k4] at hx HX
    clear k4
    rcases beq_em r.f2 0 with ⟨b5, k5⟩ | ⟨b5, k5⟩
    · go_wp2
      go_ret
      exact IsB.of rfl (by rw [beq_iff_eq]; exact ⟨fun h => ⟨K1.out, K2.out, K3.out, fun h4 => absurd (K4.out.symm.trans h4) (by decide), fun _ => ⟨k5.out, h⟩⟩, fun h => (h.2.2.2.2 K4.out).2⟩) HB.out
    · go_wp2
      go_ret
      exact .inr ⟨rfl, fun h => k5.out (h.2.2.2.2 K4.out).1, HB.out⟩
set_option maxHeartbeats 8000000 in
set_option maxRecDepth 100000 in
theorem iRecordN (B0 B1 B2 B3 : Option Addr) (d0 d1 d2 d3 : Nat) (us : List S92) (ss : List S76) (fs : List S81) (rs : List S83) (nx : Int) (gg : Nat) (r : S83) (w : World) (hy : w.heap[gg]? = some (.cells #[.slice B0 us.length d0, .slice B1 ss.length d1, .slice B2 fs.length d2, .slice B3 rs.length d3, .int .i64 nx] 48 (0, 0))) (n0 : 1 ≤ nx) (n1 : nx ≤ 10000) : Calls Tryz.prog 54 #[.agg #[.int .i64 r.f0, .int .i64 r.f1, .int .i64 r.f2, .int .i64 r.f3, .bool r.f4], .pointer (some ⟨gg, 0, none⟩)] w (IsB (¬ RecordP nx r) w) := by
  have hu := Tryz.underlying83
  have H0 := Aside0.mk hy
  clear hy
  have HB := Aside0.mk (Below.refl w.heap.size w)
  have HP := Aside0.mk True.intro
  go_enter Tryz.func54, Tryz.ntmps54
  go_wp2_with (first
    | (go_at_call 55; refine (iRecord1 B0 B1 B2 B3 d0 d1 d2 d3 us ss fs rs nx gg r _ (blk_below H0.out (below_alloc (Below.refl _ _) _)) n0 n1).mono ?_; rintro e w2 (⟨rfl, hr, hb⟩ | ⟨rfl, hr, hb⟩) <;> (have n_ := Aside0.mk (And.intro hr HP.out); clear HP hr; have HP := n_; clear n_; have n_ := Aside0.mk (below_step (w := w) (by repeat' (with_reducible first | exact HB.out | apply below_alloc | apply below_drew1 | refine below_set ?_ (by omega))) hb); clear HB; have HB := n_; clear n_; clear hb)))
  · go_ret
    exact .inr ⟨rfl, fun h => h HP.out.1, HB.out⟩
  · go_ret
    exact .inl ⟨rfl, HP.out.1, HB.out⟩
end
section
-- NEEDS laws.eqConfig
def SessUpP (ss : List S76) (i : Int) : Prop := 0 < i → (rd_T76 ss (i - 1)).f0 < (rd_T76 ss i).f0
def ApartP (ss : List S76) (i : Int) : Prop := ¬ ∃ x ∈ ss.take i.toNat, ClashP (rd_T76 ss i) x
def FailUpP (fs : List S81) (i : Int) : Prop := 0 < i → Op.bytesLess (rd_T81 fs (i - 1)).f0.toList (rd_T81 fs i).f0.toList = true
def GuestsP (ip b gate : Int) (gm wm : ByteArray) (res : Int) (g : List S140) (l : List S145) (us : List S92) (ss : List S76) (fs : List S81) (rs : List S83) (nx : Int) : Prop :=
  ConfigP ip b gate gm wm res g l ∧ UsersP l us ∧ ss.length ≤ 3 ∧ fs.length ≤ 20 ∧ rs.length ≤ 60 ∧ (1 ≤ nx ∧ nx ≤ 10000) ∧ (∀ x ∈ ss, SessionP ip b nx us.length x) ∧ (∀ i : Int, 0 ≤ i → i < ss.length → SessUpP ss i ∧ ApartP ss i) ∧ (∀ x ∈ fs, FailP x) ∧ (∀ i : Int, 0 ≤ i → i < fs.length → FailUpP fs i) ∧ (∀ x ∈ rs, RecordP nx x)
theorem netbits {ip b : Int} (h : NetP ip b) : 0 ≤ b ∧ b ≤ 32 := h.2.1
end
section
theorem impl_User.eql (a : Addr) (n c : Nat) (w : World) : (Sem.run Tryz.prog (binOp BinOp.eql 43 (Value.slice (some a) n c) (Value.slice none 0 0)) w) = .ok (.bool false) w := by
  simp only [binOp, Op.equal]
  rw [show Op.maxDepth = 9999 + 1 from rfl, Op.equalIn]
  simp
theorem impl_User.nil (n c : Nat) (w : World) : (Sem.run Tryz.prog (binOp BinOp.eql 43 (Value.slice none n c) (Value.slice none 0 0)) w) = .ok (.bool true) w := by
  simp only [binOp, Op.equal]
  rw [show Op.maxDepth = 9999 + 1 from rfl, Op.equalIn]
  simp
attribute [local go_sem] impl_User.eql impl_User.nil
/-! ### impl_User: function 121 -/
def impl_User.f (l0 : List (S92)) : Option ((List (S92))) := (some (([] : List (S92)) : List (S92))).bind fun y586 => (if y586.length + l0.length < 1759218604441 then (some (y586 ++ l0)) else (none))
set_option maxHeartbeats 8000000 in
set_option maxRecDepth 100000 in
theorem impl_User.calls0 (a0_ : Addr) (c0 : Nat) (l0 : List (S92)) (r : List (S92)) (w : World) (hr0 : Kd.C k92 w (some a0_) l0.length l0) (hc0 : l0.length ≤ c0) (h : impl_User.f l0 = some r) :
    Calls Tryz.prog 121 #[.slice (some a0_) l0.length c0] w fun e w' => ∃ v0_ : Value, e = .returned (v0_) ∧ Kd.R k92 92 w' w.heap.size (fun _ => True) v0_ r ∧ Below w.heap.size w w' := by
  have HR0 := Aside0.mk hr0
  have HC0 := Aside0.mk hc0
  clear hr0 hc0
  have HB := Aside0.mk (Below.refl w.heap.size w)
  have H : ((some (([] : List (S92)) : List (S92))).bind fun y586 => (if y586.length + l0.length < 1759218604441 then (some (y586 ++ l0)) else (none))) = some r := h
  clear h
  obtain ⟨y586, hy586⟩ : ∃ y_ : List (S92), y_ = (([] : List (S92))) := ⟨_, rfl⟩
  replace H : (if y586.length + l0.length < 1759218604441 then (some (y586 ++ l0)) else (none)) = some r := by first | (rw [hy586]; with_reducible exact H) | (have H2_ := (Option.bind_some _ _).symm.trans H; rw [hy586]; with_reducible exact H2_) | (have H2_ := (Option.bind_some _ _).symm.trans H; with_reducible exact H2_) | with_reducible exact H | (rw [hy586]; exact H) | exact H
  have Ny586 := Aside0.mk hy586
  clear hy586
  by_cases c2 : y586.length + l0.length < 1759218604441
  · rw [if_pos c2] at H
    have LMc2 := Aside0.mk c2
    clear c2
    obtain ⟨y589, hy589⟩ : ∃ y_ : List (S92), y_ = (y586 ++ l0) := ⟨_, rfl⟩
    replace H : (some y589) = some r := by first | (rw [hy589]; with_reducible exact H) | (have H2_ := (Option.bind_some _ _).symm.trans H; rw [hy589]; with_reducible exact H2_) | (have H2_ := (Option.bind_some _ _).symm.trans H; with_reducible exact H2_) | with_reducible exact H | (rw [hy589]; exact H) | exact H
    have Ny589 := Aside0.mk hy589
    clear hy589
    obtain rfl := Option.some.inj H
    go_enter Tryz.func121, Tryz.ntmps121
    go_wp2_with (first | ((with_reducible refine gate_dst (N := 5) rfl ?_); refine Kd.R_lit k92 _ 92 ?hg (N := 5) ?hd (xs := ([] : List (S92))) (inner := []) (ok := fun _ => True) (okp := fun _ => True) ?hr ?hp (fun _ hk => hk) trivial (Below.refl _ _) (Nat.le_refl _) (by simp) ?_; (case hd => rfl); (case hg => rfl); (case hr => first | (go_simp; done) | (go_simp; rfl)); (case hp => exact (Reps.none _ _)); intro v587 w3 ho4 hb hg_ hnew_; clear hg_ hnew_; (first | rw [← Ny586.out] at ho4 | (simp only [Int.reduceToNat] at ho4; rw [← Ny586.out] at ho4)); have n0_ := Aside0.mk (Kd.R_lower ho4 (below_size (by repeat (first | (with_reducible first | exact HB.out | apply below_alloc | apply pw_below_drewN | apply below_drew1) | exact HB.out)))); have n1_ := Aside0.mk (below_step (by repeat (first | (with_reducible first | exact HB.out | apply below_alloc | apply pw_below_drewN | apply below_drew1) | exact HB.out)) hb); clear HB; have HO588 := n0_; have HB := n1_; clear n0_ n1_; clear hb ho4) | ((with_reducible refine gate_builtin (b := .append) (xs := #[.tmp 5, .tmp 6]) rfl ?_); at_builtin; refine Kd.R_append_rows k92 (w0 := w) w.heap.size rfl (.tmp 5) (.tmp 6) 43 92 (.agg #[(.string ⟨#[]⟩), (.string ⟨#[]⟩), (.string ⟨#[]⟩), (.string ⟨#[]⟩), (.int .i64 0), (.int .i64 0)]) 80 rfl Tryz.underlying43 info92 rfl (by decide) (by omega) v587 y586 l0 _ _ _ (fun _ => True) (fun _ => False) rfl rfl ?aO ?aR (fun _ _ h => h) (fun _ h => h.elim) ?aF ?aB ?aS ?aL ?_; (case aR => repeat (first | exact (Kd.C_below HR0.out HB.out) | (with_reducible refine Kd.C_alloc ?_ _) | (with_reducible refine Kd.C_drewN ?_ _) | (with_reducible refine Kd.C_drew ?_))); (case aB => exact (by repeat (first | (with_reducible first | exact HB.out | apply below_alloc | apply pw_below_drewN | apply below_drew1) | exact HB.out))); (case aF => exact (fun _ _ => trivial)); (case aO => exact (by (with_reducible repeat (first | apply Kd.R_alloc | apply Kd.R_drewN | apply Kd.R_drew)); exact HO588.out)); (case aS => exact (below_size (by repeat (first | (with_reducible first | exact HB.out | apply below_alloc | apply pw_below_drewN | apply below_drew1) | exact HB.out)))); (case aL => have := LMc2.out; omega); intro v590 w5 ho hb hg hat; rw [← Ny589.out] at ho; have n0_ := Aside0.mk (hb); have n1_ := Aside0.mk (ho); clear HB; clear HO588; have HB := n0_; have HO591 := n1_; clear n0_ n1_; clear ho hb hg hat))
    go_ret
    exact ⟨_, by first | rfl | (simp [errW_none, errW_some] <;> rfl) | (simp [*, errW_none, errW_some] <;> rfl), by (with_reducible repeat (first | apply Kd.R_alloc | apply Kd.R_drewN | apply Kd.R_drew)); exact HO591.out, by repeat (first | (with_reducible first | exact HB.out | apply below_alloc | apply pw_below_drewN | apply below_drew1) | exact HB.out)⟩
  · rw [if_neg c2] at H
    exact absurd H (by simp)

set_option maxHeartbeats 8000000 in
set_option maxRecDepth 100000 in
theorem impl_User.calls (A0 : Option Addr) (c0 : Nat) (l0 : List (S92)) (r : List (S92)) (w : World) (hr0 : Kd.C k92 w A0 l0.length l0) (hc0 : l0.length ≤ c0) (h : impl_User.f l0 = some r) :
    Calls Tryz.prog 121 #[.slice A0 l0.length c0] w fun e w' => ∃ v0_ : Value, e = .returned (v0_) ∧ Kd.R k92 92 w' w.heap.size (fun _ => True) v0_ r ∧ Below w.heap.size w w' := by
  cases A0 with
  | some a => exact impl_User.calls0 a c0 l0 r w hr0 hc0 h
  | none =>
    have hl : l0 = [] := by
      cases l0 with
      | nil => rfl
      | cons y ys =>
        obtain ⟨ad, e_, _⟩ := at_T92 hr0 0 (by omega) (by simp)
        cases e_
    subst hl
    obtain rfl : r = [] := by simpa [impl_User.f] using h.symm
    go_enter Tryz.func121, Tryz.ntmps121
    go_wp2
    go_ret
    exact ⟨_, rfl, Kd.R_nil _ _ _ _ _, by repeat (first | exact Below.refl _ _ | apply below_alloc | apply pw_below_drewN | apply below_drew1)⟩
end
section
theorem impl_Session_122.eql (a : Addr) (n c : Nat) (w : World) : (Sem.run Tryz.prog (binOp BinOp.eql 44 (Value.slice (some a) n c) (Value.slice none 0 0)) w) = .ok (.bool false) w := by
  simp only [binOp, Op.equal]
  rw [show Op.maxDepth = 9999 + 1 from rfl, Op.equalIn]
  simp
theorem impl_Session_122.nil (n c : Nat) (w : World) : (Sem.run Tryz.prog (binOp BinOp.eql 44 (Value.slice none n c) (Value.slice none 0 0)) w) = .ok (.bool true) w := by
  simp only [binOp, Op.equal]
  rw [show Op.maxDepth = 9999 + 1 from rfl, Op.equalIn]
  simp
attribute [local go_sem] impl_Session_122.eql impl_Session_122.nil
/-! ### impl_Session_122: function 122 -/
def impl_Session_122.f (l0 : List (S76)) : Option ((List (S76))) := (some (([] : List (S76)) : List (S76))).bind fun y592 => (if y592.length + l0.length < 1599289640401 then (some (y592 ++ l0)) else (none))
set_option maxHeartbeats 8000000 in
set_option maxRecDepth 100000 in
theorem impl_Session_122.calls0 (a0_ : Addr) (c0 : Nat) (l0 : List (S76)) (r : List (S76)) (w : World) (hr0 : Kd.C k76 w (some a0_) l0.length l0) (hc0 : l0.length ≤ c0) (h : impl_Session_122.f l0 = some r) :
    Calls Tryz.prog 122 #[.slice (some a0_) l0.length c0] w fun e w' => ∃ v0_ : Value, e = .returned (v0_) ∧ Kd.R k76 76 w' w.heap.size (fun _ => True) v0_ r ∧ Below w.heap.size w w' := by
  have HR0 := Aside0.mk hr0
  have HC0 := Aside0.mk hc0
  clear hr0 hc0
  have HB := Aside0.mk (Below.refl w.heap.size w)
  have H : ((some (([] : List (S76)) : List (S76))).bind fun y592 => (if y592.length + l0.length < 1599289640401 then (some (y592 ++ l0)) else (none))) = some r := h
  clear h
  obtain ⟨y592, hy592⟩ : ∃ y_ : List (S76), y_ = (([] : List (S76))) := ⟨_, rfl⟩
  replace H : (if y592.length + l0.length < 1599289640401 then (some (y592 ++ l0)) else (none)) = some r := by first | (rw [hy592]; with_reducible exact H) | (have H2_ := (Option.bind_some _ _).symm.trans H; rw [hy592]; with_reducible exact H2_) | (have H2_ := (Option.bind_some _ _).symm.trans H; with_reducible exact H2_) | with_reducible exact H | (rw [hy592]; exact H) | exact H
  have Ny592 := Aside0.mk hy592
  clear hy592
  by_cases c2 : y592.length + l0.length < 1599289640401
  · rw [if_pos c2] at H
    have LMc2 := Aside0.mk c2
    clear c2
    obtain ⟨y595, hy595⟩ : ∃ y_ : List (S76), y_ = (y592 ++ l0) := ⟨_, rfl⟩
    replace H : (some y595) = some r := by first | (rw [hy595]; with_reducible exact H) | (have H2_ := (Option.bind_some _ _).symm.trans H; rw [hy595]; with_reducible exact H2_) | (have H2_ := (Option.bind_some _ _).symm.trans H; with_reducible exact H2_) | with_reducible exact H | (rw [hy595]; exact H) | exact H
    have Ny595 := Aside0.mk hy595
    clear hy595
    obtain rfl := Option.some.inj H
    go_enter Tryz.func122, Tryz.ntmps122
    go_wp2_with (first | ((with_reducible refine gate_dst (N := 5) rfl ?_); refine Kd.R_lit k76 _ 76 ?hg (N := 5) ?hd (xs := ([] : List (S76))) (inner := []) (ok := fun _ => True) (okp := fun _ => True) ?hr ?hp (fun _ hk => hk) trivial (Below.refl _ _) (Nat.le_refl _) (by simp) ?_; (case hd => rfl); (case hg => rfl); (case hr => first | (go_simp; done) | (go_simp; rfl)); (case hp => exact (Reps.none _ _)); intro v593 w3 ho4 hb hg_ hnew_; clear hg_ hnew_; (first | rw [← Ny592.out] at ho4 | (simp only [Int.reduceToNat] at ho4; rw [← Ny592.out] at ho4)); have n0_ := Aside0.mk (Kd.R_lower ho4 (below_size (by repeat (first | (with_reducible first | exact HB.out | apply below_alloc | apply pw_below_drewN | apply below_drew1) | exact HB.out)))); have n1_ := Aside0.mk (below_step (by repeat (first | (with_reducible first | exact HB.out | apply below_alloc | apply pw_below_drewN | apply below_drew1) | exact HB.out)) hb); clear HB; have HO594 := n0_; have HB := n1_; clear n0_ n1_; clear hb ho4) | ((with_reducible refine gate_builtin (b := .append) (xs := #[.tmp 5, .tmp 6]) rfl ?_); at_builtin; refine Kd.R_append_rows k76 (w0 := w) w.heap.size rfl (.tmp 5) (.tmp 6) 44 76 (.agg #[(.int .i64 0), (.int .i64 0), (.string ⟨#[]⟩), (.int .i64 0), (.int .i64 0), (.int .i64 0), (.int .i64 0), (.int .i64 0), (.int .i64 0), (.int .i64 0)]) 88 rfl Tryz.underlying44 info76 rfl (by decide) (by omega) v593 y592 l0 _ _ _ (fun _ => True) (fun _ => False) rfl rfl ?aO ?aR (fun _ _ h => h) (fun _ h => h.elim) ?aF ?aB ?aS ?aL ?_; (case aR => repeat (first | exact (Kd.C_below HR0.out HB.out) | (with_reducible refine Kd.C_alloc ?_ _) | (with_reducible refine Kd.C_drewN ?_ _) | (with_reducible refine Kd.C_drew ?_))); (case aB => exact (by repeat (first | (with_reducible first | exact HB.out | apply below_alloc | apply pw_below_drewN | apply below_drew1) | exact HB.out))); (case aF => exact (fun _ _ => trivial)); (case aO => exact (by (with_reducible repeat (first | apply Kd.R_alloc | apply Kd.R_drewN | apply Kd.R_drew)); exact HO594.out)); (case aS => exact (below_size (by repeat (first | (with_reducible first | exact HB.out | apply below_alloc | apply pw_below_drewN | apply below_drew1) | exact HB.out)))); (case aL => have := LMc2.out; omega); intro v596 w5 ho hb hg hat; rw [← Ny595.out] at ho; have n0_ := Aside0.mk (hb); have n1_ := Aside0.mk (ho); clear HB; clear HO594; have HB := n0_; have HO597 := n1_; clear n0_ n1_; clear ho hb hg hat))
    go_ret
    exact ⟨_, by first | rfl | (simp [errW_none, errW_some] <;> rfl) | (simp [*, errW_none, errW_some] <;> rfl), by (with_reducible repeat (first | apply Kd.R_alloc | apply Kd.R_drewN | apply Kd.R_drew)); exact HO597.out, by repeat (first | (with_reducible first | exact HB.out | apply below_alloc | apply pw_below_drewN | apply below_drew1) | exact HB.out)⟩
  · rw [if_neg c2] at H
    exact absurd H (by simp)

set_option maxHeartbeats 8000000 in
set_option maxRecDepth 100000 in
theorem impl_Session_122.calls (A0 : Option Addr) (c0 : Nat) (l0 : List (S76)) (r : List (S76)) (w : World) (hr0 : Kd.C k76 w A0 l0.length l0) (hc0 : l0.length ≤ c0) (h : impl_Session_122.f l0 = some r) :
    Calls Tryz.prog 122 #[.slice A0 l0.length c0] w fun e w' => ∃ v0_ : Value, e = .returned (v0_) ∧ Kd.R k76 76 w' w.heap.size (fun _ => True) v0_ r ∧ Below w.heap.size w w' := by
  cases A0 with
  | some a => exact impl_Session_122.calls0 a c0 l0 r w hr0 hc0 h
  | none =>
    have hl : l0 = [] := by
      cases l0 with
      | nil => rfl
      | cons y ys =>
        obtain ⟨ad, e_, _⟩ := at_T76 hr0 0 (by omega) (by simp)
        cases e_
    subst hl
    obtain rfl : r = [] := by simpa [impl_Session_122.f] using h.symm
    go_enter Tryz.func122, Tryz.ntmps122
    go_wp2
    go_ret
    exact ⟨_, rfl, Kd.R_nil _ _ _ _ _, by repeat (first | exact Below.refl _ _ | apply below_alloc | apply pw_below_drewN | apply below_drew1)⟩
end
section
theorem impl_Fail.eql (a : Addr) (n c : Nat) (w : World) : (Sem.run Tryz.prog (binOp BinOp.eql 45 (Value.slice (some a) n c) (Value.slice none 0 0)) w) = .ok (.bool false) w := by
  simp only [binOp, Op.equal]
  rw [show Op.maxDepth = 9999 + 1 from rfl, Op.equalIn]
  simp
theorem impl_Fail.nil (n c : Nat) (w : World) : (Sem.run Tryz.prog (binOp BinOp.eql 45 (Value.slice none n c) (Value.slice none 0 0)) w) = .ok (.bool true) w := by
  simp only [binOp, Op.equal]
  rw [show Op.maxDepth = 9999 + 1 from rfl, Op.equalIn]
  simp
attribute [local go_sem] impl_Fail.eql impl_Fail.nil
/-! ### impl_Fail: function 123 -/
def impl_Fail.f (l0 : List (S81)) : Option ((List (S81))) := (some (([] : List (S81)) : List (S81))).bind fun y598 => (if y598.length + l0.length < 4398046511104 then (some (y598 ++ l0)) else (none))
set_option maxHeartbeats 8000000 in
set_option maxRecDepth 100000 in
theorem impl_Fail.calls0 (a0_ : Addr) (c0 : Nat) (l0 : List (S81)) (r : List (S81)) (w : World) (hr0 : Kd.C k81 w (some a0_) l0.length l0) (hc0 : l0.length ≤ c0) (h : impl_Fail.f l0 = some r) :
    Calls Tryz.prog 123 #[.slice (some a0_) l0.length c0] w fun e w' => ∃ v0_ : Value, e = .returned (v0_) ∧ Kd.R k81 81 w' w.heap.size (fun _ => True) v0_ r ∧ Below w.heap.size w w' := by
  have HR0 := Aside0.mk hr0
  have HC0 := Aside0.mk hc0
  clear hr0 hc0
  have HB := Aside0.mk (Below.refl w.heap.size w)
  have H : ((some (([] : List (S81)) : List (S81))).bind fun y598 => (if y598.length + l0.length < 4398046511104 then (some (y598 ++ l0)) else (none))) = some r := h
  clear h
  obtain ⟨y598, hy598⟩ : ∃ y_ : List (S81), y_ = (([] : List (S81))) := ⟨_, rfl⟩
  replace H : (if y598.length + l0.length < 4398046511104 then (some (y598 ++ l0)) else (none)) = some r := by first | (rw [hy598]; with_reducible exact H) | (have H2_ := (Option.bind_some _ _).symm.trans H; rw [hy598]; with_reducible exact H2_) | (have H2_ := (Option.bind_some _ _).symm.trans H; with_reducible exact H2_) | with_reducible exact H | (rw [hy598]; exact H) | exact H
  have Ny598 := Aside0.mk hy598
  clear hy598
  by_cases c2 : y598.length + l0.length < 4398046511104
  · rw [if_pos c2] at H
    have LMc2 := Aside0.mk c2
    clear c2
    obtain ⟨y601, hy601⟩ : ∃ y_ : List (S81), y_ = (y598 ++ l0) := ⟨_, rfl⟩
    replace H : (some y601) = some r := by first | (rw [hy601]; with_reducible exact H) | (have H2_ := (Option.bind_some _ _).symm.trans H; rw [hy601]; with_reducible exact H2_) | (have H2_ := (Option.bind_some _ _).symm.trans H; with_reducible exact H2_) | with_reducible exact H | (rw [hy601]; exact H) | exact H
    have Ny601 := Aside0.mk hy601
    clear hy601
    obtain rfl := Option.some.inj H
    go_enter Tryz.func123, Tryz.ntmps123
    go_wp2_with (first | ((with_reducible refine gate_dst (N := 5) rfl ?_); refine Kd.R_lit k81 _ 81 ?hg (N := 5) ?hd (xs := ([] : List (S81))) (inner := []) (ok := fun _ => True) (okp := fun _ => True) ?hr ?hp (fun _ hk => hk) trivial (Below.refl _ _) (Nat.le_refl _) (by simp) ?_; (case hd => rfl); (case hg => rfl); (case hr => first | (go_simp; done) | (go_simp; rfl)); (case hp => exact (Reps.none _ _)); intro v599 w3 ho4 hb hg_ hnew_; clear hg_ hnew_; (first | rw [← Ny598.out] at ho4 | (simp only [Int.reduceToNat] at ho4; rw [← Ny598.out] at ho4)); have n0_ := Aside0.mk (Kd.R_lower ho4 (below_size (by repeat (first | (with_reducible first | exact HB.out | apply below_alloc | apply pw_below_drewN | apply below_drew1) | exact HB.out)))); have n1_ := Aside0.mk (below_step (by repeat (first | (with_reducible first | exact HB.out | apply below_alloc | apply pw_below_drewN | apply below_drew1) | exact HB.out)) hb); clear HB; have HO600 := n0_; have HB := n1_; clear n0_ n1_; clear hb ho4) | ((with_reducible refine gate_builtin (b := .append) (xs := #[.tmp 5, .tmp 6]) rfl ?_); at_builtin; refine Kd.R_append_rows k81 (w0 := w) w.heap.size rfl (.tmp 5) (.tmp 6) 45 81 (.agg #[(.string ⟨#[]⟩), (.int .i64 0), (.int .i64 0)]) 32 rfl Tryz.underlying45 info81 rfl (by decide) (by omega) v599 y598 l0 _ _ _ (fun _ => True) (fun _ => False) rfl rfl ?aO ?aR (fun _ _ h => h) (fun _ h => h.elim) ?aF ?aB ?aS ?aL ?_; (case aR => repeat (first | exact (Kd.C_below HR0.out HB.out) | (with_reducible refine Kd.C_alloc ?_ _) | (with_reducible refine Kd.C_drewN ?_ _) | (with_reducible refine Kd.C_drew ?_))); (case aB => exact (by repeat (first | (with_reducible first | exact HB.out | apply below_alloc | apply pw_below_drewN | apply below_drew1) | exact HB.out))); (case aF => exact (fun _ _ => trivial)); (case aO => exact (by (with_reducible repeat (first | apply Kd.R_alloc | apply Kd.R_drewN | apply Kd.R_drew)); exact HO600.out)); (case aS => exact (below_size (by repeat (first | (with_reducible first | exact HB.out | apply below_alloc | apply pw_below_drewN | apply below_drew1) | exact HB.out)))); (case aL => have := LMc2.out; omega); intro v602 w5 ho hb hg hat; rw [← Ny601.out] at ho; have n0_ := Aside0.mk (hb); have n1_ := Aside0.mk (ho); clear HB; clear HO600; have HB := n0_; have HO603 := n1_; clear n0_ n1_; clear ho hb hg hat))
    go_ret
    exact ⟨_, by first | rfl | (simp [errW_none, errW_some] <;> rfl) | (simp [*, errW_none, errW_some] <;> rfl), by (with_reducible repeat (first | apply Kd.R_alloc | apply Kd.R_drewN | apply Kd.R_drew)); exact HO603.out, by repeat (first | (with_reducible first | exact HB.out | apply below_alloc | apply pw_below_drewN | apply below_drew1) | exact HB.out)⟩
  · rw [if_neg c2] at H
    exact absurd H (by simp)

set_option maxHeartbeats 8000000 in
set_option maxRecDepth 100000 in
theorem impl_Fail.calls (A0 : Option Addr) (c0 : Nat) (l0 : List (S81)) (r : List (S81)) (w : World) (hr0 : Kd.C k81 w A0 l0.length l0) (hc0 : l0.length ≤ c0) (h : impl_Fail.f l0 = some r) :
    Calls Tryz.prog 123 #[.slice A0 l0.length c0] w fun e w' => ∃ v0_ : Value, e = .returned (v0_) ∧ Kd.R k81 81 w' w.heap.size (fun _ => True) v0_ r ∧ Below w.heap.size w w' := by
  cases A0 with
  | some a => exact impl_Fail.calls0 a c0 l0 r w hr0 hc0 h
  | none =>
    have hl : l0 = [] := by
      cases l0 with
      | nil => rfl
      | cons y ys =>
        obtain ⟨ad, e_, _⟩ := at_T81 hr0 0 (by omega) (by simp)
        cases e_
    subst hl
    obtain rfl : r = [] := by simpa [impl_Fail.f] using h.symm
    go_enter Tryz.func123, Tryz.ntmps123
    go_wp2
    go_ret
    exact ⟨_, rfl, Kd.R_nil _ _ _ _ _, by repeat (first | exact Below.refl _ _ | apply below_alloc | apply pw_below_drewN | apply below_drew1)⟩
end
section
theorem impl_Record_124.eql (a : Addr) (n c : Nat) (w : World) : (Sem.run Tryz.prog (binOp BinOp.eql 46 (Value.slice (some a) n c) (Value.slice none 0 0)) w) = .ok (.bool false) w := by
  simp only [binOp, Op.equal]
  rw [show Op.maxDepth = 9999 + 1 from rfl, Op.equalIn]
  simp
theorem impl_Record_124.nil (n c : Nat) (w : World) : (Sem.run Tryz.prog (binOp BinOp.eql 46 (Value.slice none n c) (Value.slice none 0 0)) w) = .ok (.bool true) w := by
  simp only [binOp, Op.equal]
  rw [show Op.maxDepth = 9999 + 1 from rfl, Op.equalIn]
  simp
attribute [local go_sem] impl_Record_124.eql impl_Record_124.nil
/-! ### impl_Record_124: function 124 -/
def impl_Record_124.f (l0 : List (S83)) : Option ((List (S83))) := (some (([] : List (S83)) : List (S83))).bind fun y604 => (if y604.length + l0.length < 3518437208883 then (some (y604 ++ l0)) else (none))
set_option maxHeartbeats 8000000 in
set_option maxRecDepth 100000 in
theorem impl_Record_124.calls0 (a0_ : Addr) (c0 : Nat) (l0 : List (S83)) (r : List (S83)) (w : World) (hr0 : Kd.C k83 w (some a0_) l0.length l0) (hc0 : l0.length ≤ c0) (h : impl_Record_124.f l0 = some r) :
    Calls Tryz.prog 124 #[.slice (some a0_) l0.length c0] w fun e w' => ∃ v0_ : Value, e = .returned (v0_) ∧ Kd.R k83 83 w' w.heap.size (fun _ => True) v0_ r ∧ Below w.heap.size w w' := by
  have HR0 := Aside0.mk hr0
  have HC0 := Aside0.mk hc0
  clear hr0 hc0
  have HB := Aside0.mk (Below.refl w.heap.size w)
  have H : ((some (([] : List (S83)) : List (S83))).bind fun y604 => (if y604.length + l0.length < 3518437208883 then (some (y604 ++ l0)) else (none))) = some r := h
  clear h
  obtain ⟨y604, hy604⟩ : ∃ y_ : List (S83), y_ = (([] : List (S83))) := ⟨_, rfl⟩
  replace H : (if y604.length + l0.length < 3518437208883 then (some (y604 ++ l0)) else (none)) = some r := by first | (rw [hy604]; with_reducible exact H) | (have H2_ := (Option.bind_some _ _).symm.trans H; rw [hy604]; with_reducible exact H2_) | (have H2_ := (Option.bind_some _ _).symm.trans H; with_reducible exact H2_) | with_reducible exact H | (rw [hy604]; exact H) | exact H
  have Ny604 := Aside0.mk hy604
  clear hy604
  by_cases c2 : y604.length + l0.length < 3518437208883
  · rw [if_pos c2] at H
    have LMc2 := Aside0.mk c2
    clear c2
    obtain ⟨y607, hy607⟩ : ∃ y_ : List (S83), y_ = (y604 ++ l0) := ⟨_, rfl⟩
    replace H : (some y607) = some r := by first | (rw [hy607]; with_reducible exact H) | (have H2_ := (Option.bind_some _ _).symm.trans H; rw [hy607]; with_reducible exact H2_) | (have H2_ := (Option.bind_some _ _).symm.trans H; with_reducible exact H2_) | with_reducible exact H | (rw [hy607]; exact H) | exact H
    have Ny607 := Aside0.mk hy607
    clear hy607
    obtain rfl := Option.some.inj H
    go_enter Tryz.func124, Tryz.ntmps124
    go_wp2_with (first | ((with_reducible refine gate_dst (N := 5) rfl ?_); refine Kd.R_lit k83 _ 83 ?hg (N := 5) ?hd (xs := ([] : List (S83))) (inner := []) (ok := fun _ => True) (okp := fun _ => True) ?hr ?hp (fun _ hk => hk) trivial (Below.refl _ _) (Nat.le_refl _) (by simp) ?_; (case hd => rfl); (case hg => rfl); (case hr => first | (go_simp; done) | (go_simp; rfl)); (case hp => exact (Reps.none _ _)); intro v605 w3 ho4 hb hg_ hnew_; clear hg_ hnew_; (first | rw [← Ny604.out] at ho4 | (simp only [Int.reduceToNat] at ho4; rw [← Ny604.out] at ho4)); have n0_ := Aside0.mk (Kd.R_lower ho4 (below_size (by repeat (first | (with_reducible first | exact HB.out | apply below_alloc | apply pw_below_drewN | apply below_drew1) | exact HB.out)))); have n1_ := Aside0.mk (below_step (by repeat (first | (with_reducible first | exact HB.out | apply below_alloc | apply pw_below_drewN | apply below_drew1) | exact HB.out)) hb); clear HB; have HO606 := n0_; have HB := n1_; clear n0_ n1_; clear hb ho4) | ((with_reducible refine gate_builtin (b := .append) (xs := #[.tmp 5, .tmp 6]) rfl ?_); at_builtin; refine Kd.R_append_rows k83 (w0 := w) w.heap.size rfl (.tmp 5) (.tmp 6) 46 83 (.agg #[(.int .i64 0), (.int .i64 0), (.int .i64 0), (.int .i64 0), (.bool false)]) 40 rfl Tryz.underlying46 info83 rfl (by decide) (by omega) v605 y604 l0 _ _ _ (fun _ => True) (fun _ => False) rfl rfl ?aO ?aR (fun _ _ h => h) (fun _ h => h.elim) ?aF ?aB ?aS ?aL ?_; (case aR => repeat (first | exact (Kd.C_below HR0.out HB.out) | (with_reducible refine Kd.C_alloc ?_ _) | (with_reducible refine Kd.C_drewN ?_ _) | (with_reducible refine Kd.C_drew ?_))); (case aB => exact (by repeat (first | (with_reducible first | exact HB.out | apply below_alloc | apply pw_below_drewN | apply below_drew1) | exact HB.out))); (case aF => exact (fun _ _ => trivial)); (case aO => exact (by (with_reducible repeat (first | apply Kd.R_alloc | apply Kd.R_drewN | apply Kd.R_drew)); exact HO606.out)); (case aS => exact (below_size (by repeat (first | (with_reducible first | exact HB.out | apply below_alloc | apply pw_below_drewN | apply below_drew1) | exact HB.out)))); (case aL => have := LMc2.out; omega); intro v608 w5 ho hb hg hat; rw [← Ny607.out] at ho; have n0_ := Aside0.mk (hb); have n1_ := Aside0.mk (ho); clear HB; clear HO606; have HB := n0_; have HO609 := n1_; clear n0_ n1_; clear ho hb hg hat))
    go_ret
    exact ⟨_, by first | rfl | (simp [errW_none, errW_some] <;> rfl) | (simp [*, errW_none, errW_some] <;> rfl), by (with_reducible repeat (first | apply Kd.R_alloc | apply Kd.R_drewN | apply Kd.R_drew)); exact HO609.out, by repeat (first | (with_reducible first | exact HB.out | apply below_alloc | apply pw_below_drewN | apply below_drew1) | exact HB.out)⟩
  · rw [if_neg c2] at H
    exact absurd H (by simp)

set_option maxHeartbeats 8000000 in
set_option maxRecDepth 100000 in
theorem impl_Record_124.calls (A0 : Option Addr) (c0 : Nat) (l0 : List (S83)) (r : List (S83)) (w : World) (hr0 : Kd.C k83 w A0 l0.length l0) (hc0 : l0.length ≤ c0) (h : impl_Record_124.f l0 = some r) :
    Calls Tryz.prog 124 #[.slice A0 l0.length c0] w fun e w' => ∃ v0_ : Value, e = .returned (v0_) ∧ Kd.R k83 83 w' w.heap.size (fun _ => True) v0_ r ∧ Below w.heap.size w w' := by
  cases A0 with
  | some a => exact impl_Record_124.calls0 a c0 l0 r w hr0 hc0 h
  | none =>
    have hl : l0 = [] := by
      cases l0 with
      | nil => rfl
      | cons y ys =>
        obtain ⟨ad, e_, _⟩ := at_T83 hr0 0 (by omega) (by simp)
        cases e_
    subst hl
    obtain rfl : r = [] := by simpa [impl_Record_124.f] using h.symm
    go_enter Tryz.func124, Tryz.ntmps124
    go_wp2
    go_ret
    exact ⟨_, rfl, Kd.R_nil _ _ _ _ _, by repeat (first | exact Below.refl _ _ | apply below_alloc | apply pw_below_drewN | apply below_drew1)⟩
end
section
/-! ### impl_cloneGuests: function 68 -/
def impl_cloneGuests.f (l0_0 : List (S92)) (l0_1 : List (S76)) (l0_2 : List (S81)) (l0_3 : List (S83)) (a0_4 : Int) : Option ((List (S92)) × (List (S76)) × (List (S81)) × (List (S83)) × Int) := (impl_User.f l0_0).bind fun t612 => ((impl_Session_122.f l0_1).bind fun t615 => ((impl_Fail.f l0_2).bind fun t618 => ((impl_Record_124.f l0_3).bind fun t621 => (some (t612, t615, t618, t621, a0_4)))))
def impl_cloneGuests.T1 : Bool × List (List Nat × List Nat) := (true, [([], []), ([0], [0]), ([1], [1]), ([], []), ([3], [3]), ([4, 2], [4]), ([], []), ([6], [6]), ([7, 5], [7]), ([], []), ([9], [9]), ([10, 8], [10]), ([0, 1, 2, 3, 4, 6, 7, 9, 10], []), ([12, 2, 11, 0, 1, 2, 3, 4, 6, 7, 9, 10], [2, 12]), ([0, 1, 2, 3, 4, 5, 6, 7, 9, 10, 12, 13], []), ([14, 5, 13, 0, 1, 2, 3, 4, 5, 6, 7, 9, 10, 12, 13], [5, 14]), ([0, 1, 2, 3, 4, 5, 6, 7, 8, 9, 10, 12, 13, 14, 15], []), ([16, 8, 15, 0, 1, 2, 3, 4, 5, 6, 7, 8, 9, 10, 12, 13, 14, 15], [8, 16]), ([0, 1, 2, 3, 4, 5, 6, 7, 8, 9, 10, 11, 12, 13, 14, 15, 16, 17], []), ([18, 11, 17, 0, 1, 2, 3, 4, 5, 6, 7, 8, 9, 10, 11, 12, 13, 14, 15, 16, 17], [11, 18])])
def impl_cloneGuests.B1 : List Nat := [0, 1, 3, 0, 8, 31, 0, 64, 255, 0, 512, 2047, 1759, 8191, 16383, 32767, 65535, 131071, 262143, 524287]
theorem impl_cloneGuests.tab1 : rtab .any (opsOf Tryz.f68 1) = impl_cloneGuests.T1 := by kernel_rfl
theorem impl_cloneGuests.bits1 : waitsOk impl_cloneGuests.T1.2 impl_cloneGuests.B1 = true := by kernel_rfl
set_option maxHeartbeats 8000000 in
set_option maxRecDepth 100000 in
theorem impl_cloneGuests.calls (A0_0 : Option Addr) (c0_0 : Nat) (l0_0 : List (S92)) (A0_1 : Option Addr) (c0_1 : Nat) (l0_1 : List (S76)) (A0_2 : Option Addr) (c0_2 : Nat) (l0_2 : List (S81)) (A0_3 : Option Addr) (c0_3 : Nat) (l0_3 : List (S83)) (a0_4 : Int) (r1 : List (S92)) (r2 : List (S76)) (r3 : List (S81)) (r4 : List (S83)) (r5 : Int) (w : World) (hr0_0 : Kd.C k92 w A0_0 l0_0.length l0_0) (hc0_0 : l0_0.length ≤ c0_0) (hr0_1 : Kd.C k76 w A0_1 l0_1.length l0_1) (hc0_1 : l0_1.length ≤ c0_1) (hr0_2 : Kd.C k81 w A0_2 l0_2.length l0_2) (hc0_2 : l0_2.length ≤ c0_2) (hr0_3 : Kd.C k83 w A0_3 l0_3.length l0_3) (hc0_3 : l0_3.length ≤ c0_3) (h : impl_cloneGuests.f l0_0 l0_1 l0_2 l0_3 a0_4 = some (r1, r2, r3, r4, r5)) :
    Calls Tryz.prog 68 #[.agg #[.slice A0_0 l0_0.length c0_0, .slice A0_1 l0_1.length c0_1, .slice A0_2 l0_2.length c0_2, .slice A0_3 l0_3.length c0_3, .int .i64 a0_4]] w fun e w' => ∃ v0_ v1_ v2_ v3_ : Value, e = .returned (.agg #[v0_, v1_, v2_, v3_, .int .i64 r5]) ∧ Kd.R k92 92 w' w.heap.size (fun _ => True) v0_ r1 ∧ Kd.R k76 76 w' w.heap.size (fun _ => True) v1_ r2 ∧ Kd.R k81 81 w' w.heap.size (fun _ => True) v2_ r3 ∧ Kd.R k83 83 w' w.heap.size (fun _ => True) v3_ r4 ∧ Below w.heap.size w w' := by
  have hu48 := Tryz.underlying48
  have HR0_0 := Aside0.mk hr0_0
  have HC0_0 := Aside0.mk hc0_0
  clear hr0_0 hc0_0
  have HR0_1 := Aside0.mk hr0_1
  have HC0_1 := Aside0.mk hc0_1
  clear hr0_1 hc0_1
  have HR0_2 := Aside0.mk hr0_2
  have HC0_2 := Aside0.mk hc0_2
  clear hr0_2 hc0_2
  have HR0_3 := Aside0.mk hr0_3
  have HC0_3 := Aside0.mk hc0_3
  clear hr0_3 hc0_3
  have HB := Aside0.mk (Below.refl w.heap.size w)
  have H : ((impl_User.f l0_0).bind fun t612 => ((impl_Session_122.f l0_1).bind fun t615 => ((impl_Fail.f l0_2).bind fun t618 => ((impl_Record_124.f l0_3).bind fun t621 => (some (t612, t615, t618, t621, a0_4)))))) = some (r1, r2, r3, r4, r5) := h
  clear h
  replace H := Option.bind_eq_some_iff.mp H
  obtain ⟨t612, A20, H⟩ := H
  replace H : ((impl_Session_122.f l0_1).bind fun t615 => ((impl_Fail.f l0_2).bind fun t618 => ((impl_Record_124.f l0_3).bind fun t621 => (some (t612, t615, t618, t621, a0_4))))) = some (r1, r2, r3, r4, r5) := H
  have A2 := Aside0.mk A20
  clear A20
  replace H := Option.bind_eq_some_iff.mp H
  obtain ⟨t615, A30, H⟩ := H
  replace H : ((impl_Fail.f l0_2).bind fun t618 => ((impl_Record_124.f l0_3).bind fun t621 => (some (t612, t615, t618, t621, a0_4)))) = some (r1, r2, r3, r4, r5) := H
  have A3 := Aside0.mk A30
  clear A30
  replace H := Option.bind_eq_some_iff.mp H
  obtain ⟨t618, A40, H⟩ := H
  replace H : ((impl_Record_124.f l0_3).bind fun t621 => (some (t612, t615, t618, t621, a0_4))) = some (r1, r2, r3, r4, r5) := H
  have A4 := Aside0.mk A40
  clear A40
  replace H := Option.bind_eq_some_iff.mp H
  obtain ⟨t621, A50, H⟩ := H
  replace H : (some (t612, t615, t618, t621, a0_4)) = some (r1, r2, r3, r4, r5) := H
  have A5 := Aside0.mk A50
  clear A50
  simp only [Option.some.injEq, Prod.mk.injEq] at H
  obtain ⟨rfl, rfl, rfl, rfl, rfl⟩ := H
  go_enter Tryz.func68, Tryz.ntmps68
  try go_wp2_with (first | ((with_reducible refine gate_dst (N := 1) rfl ?_); refine box_event ?hg (N := 1) ?hd (cs := #[.slice A0_0 l0_0.length c0_0, .slice A0_1 l0_1.length c0_1, .slice A0_2 l0_2.length c0_2, .slice A0_3 l0_3.length c0_3, .int .i64 a0_4]) (t := 48) ?hr ?_; (case hd => rfl); (case hg => rfl); (case hr => first | (go_simp; done) | (go_simp; rfl)); intro gb610 hg w6 hbox hb; have n0_ := Aside0.mk (below_step (by repeat (first | (with_reducible first | exact HB.out | apply below_alloc | apply pw_below_drewN | apply below_drew1) | exact HB.out)) hb); have n1_ := Aside0.mk (hbox); have n2_ := Aside0.mk ((by rw [hg]; exact (below_size (by repeat (first | (with_reducible first | exact HB.out | apply below_alloc | apply pw_below_drewN | apply below_drew1) | exact HB.out))) : w.heap.size ≤ gb610)); have n3_ := Aside0.mk ((by rw [hg]; exact (below_size (by repeat (first | (with_reducible first | exact HB.out | apply below_alloc | apply pw_below_drewN | apply below_drew1) | exact HB.out))) : w.heap.size ≤ gb610)); clear HB; have HB := n0_; have BK610 := n1_; have GW610 := n2_; have GE610 := n3_; clear n0_ n1_ n2_ n3_; clear hb hbox hg) | ((with_reducible refine gate_dst (N := 2) rfl ?_); refine box_event ?hg (N := 2) ?hd (cs := #[.slice none 0 0, .slice none 0 0, .slice none 0 0, .slice none 0 0, .int .i64 0]) (t := 48) ?hr ?_; (case hd => rfl); (case hg => rfl); (case hr => first | (go_simp; done) | (go_simp; rfl)); intro gb611 hg w7 hbox hb; have n0_ := Aside0.mk (blk_below (g := gb610) (o := .cells #[.slice A0_0 l0_0.length c0_0, .slice A0_1 l0_1.length c0_1, .slice A0_2 l0_2.length c0_2, .slice A0_3 l0_3.length c0_3, .int .i64 a0_4] 48 (0, 0)) (by (with_reducible repeat (first | refine blk_drewN ?_ _ | refine blk_drew ?_ | refine blk_alloc ?_ _)); exact BK610.out) hb); have n1_ := Aside0.mk (below_step (by repeat (first | (with_reducible first | exact HB.out | apply below_alloc | apply pw_below_drewN | apply below_drew1 | refine below_set ?_ GE610.out) | exact HB.out)) hb); have n2_ := Aside0.mk (hbox); have n3_ := Aside0.mk ((by rw [hg]; exact (below_size (by repeat (first | (with_reducible first | exact HB.out | apply below_alloc | apply pw_below_drewN | apply below_drew1 | refine below_set ?_ GE610.out) | exact HB.out))) : w.heap.size ≤ gb611)); have n4_ := Aside0.mk ((by rw [hg]; exact (below_size (by repeat (first | (with_reducible first | exact HB.out | apply below_alloc | apply pw_below_drewN | apply below_drew1 | refine below_set ?_ GE610.out) | exact HB.out))) : w.heap.size ≤ gb611)); have n5_ := Aside0.mk ((by rw [hg]; exact Nat.ne_of_lt (blk_lt (g := gb610) (o := .cells #[.slice A0_0 l0_0.length c0_0, .slice A0_1 l0_1.length c0_1, .slice A0_2 l0_2.length c0_2, .slice A0_3 l0_3.length c0_3, .int .i64 a0_4] 48 (0, 0)) (by (with_reducible repeat (first | refine blk_drewN ?_ _ | refine blk_drew ?_ | refine blk_alloc ?_ _)); exact BK610.out)) : gb610 ≠ gb611)); have n6_ := Aside0.mk ((by rw [hg]; exact Nat.ne_of_gt (blk_lt (g := gb610) (o := .cells #[.slice A0_0 l0_0.length c0_0, .slice A0_1 l0_1.length c0_1, .slice A0_2 l0_2.length c0_2, .slice A0_3 l0_3.length c0_3, .int .i64 a0_4] 48 (0, 0)) (by (with_reducible repeat (first | refine blk_drewN ?_ _ | refine blk_drew ?_ | refine blk_alloc ?_ _)); exact BK610.out)) : gb611 ≠ gb610)); clear BK610; clear HB; have BK610 := n0_; have HB := n1_; have BK611 := n2_; have GW611 := n3_; have GE611 := n4_; have NB610_611 := n5_; have NB611_610 := n6_; clear n0_ n1_ n2_ n3_ n4_ n5_ n6_; clear hb hbox hg))
  have n0_ := Aside0.mk (blk_drew BK610.out)
  have n1_ := Aside0.mk (blk_drew BK611.out)
  have n2_ := Aside0.mk (below_drew1 HB.out)
  clear BK610
  clear BK611
  clear HB
  have BK610 := n0_
  have BK611 := n1_
  have HB := n2_
  clear n0_ n1_ n2_
  refine start_ (n := 20) (S := fun w' => w'.cell? ⟨gb610, 0, none⟩ = some (.slice A0_0 l0_0.length c0_0) ∧ w'.cell? ⟨gb610, 1, none⟩ = some (.slice A0_1 l0_1.length c0_1) ∧ w'.cell? ⟨gb610, 2, none⟩ = some (.slice A0_2 l0_2.length c0_2) ∧ w'.cell? ⟨gb610, 3, none⟩ = some (.slice A0_3 l0_3.length c0_3) ∧ w'.cell? ⟨gb610, 4, none⟩ = some (.int .i64 a0_4)) (ds := [13, 15, 17, 19]) #[false, false, false, false, false, false, false, false, false, false, false, false, false, false, false, false, false, false, false, false] (by kernel_rfl) rfl rfl ⟨(blk_cell BK610.out 0).trans rfl, (blk_cell BK610.out 1).trans rfl, (blk_cell BK610.out 2).trans rfl, (blk_cell BK610.out 3).trans rfl, (blk_cell BK610.out 4).trans rfl⟩ (fun hHeld => ?_); refine with_tabW impl_cloneGuests.tab1 impl_cloneGuests.bits1 (fun HT_ HW_ => ?_)
  generalize w7.drew = w8 at BK610 BK611 HB hHeld ⊢
  refine pure_ (i := 0) (N := some 3) (v := ?_) (a' := ?_) #[true, false, false, false, false, false, false, false, false, false, false, false, false, false, false, false, false, false, false, false] rfl rfl (any_of HT_.out (by kernel_rfl)) (fun _ _ _ h => h) (Or.inl ⟨by rfl, ?_⟩) ?_ ?_
  rotate_left
  · intro w'
    go_simp
    with_reducible rfl
  rotate_left
  · simp only [Act.put, List.setIfInBounds_toArray, List.set_cons_zero, List.set_cons_succ, i64_w, i32_w]
    rfl
  refine pure_ (i := 3) (N := some 6) (v := ?_) (a' := ?_) #[true, false, false, true, false, false, false, false, false, false, false, false, false, false, false, false, false, false, false, false] rfl rfl (any_of HT_.out (by kernel_rfl)) (fun _ _ _ h => h) (Or.inl ⟨by rfl, ?_⟩) ?_ ?_
  rotate_left
  · intro w'
    go_simp
    with_reducible rfl
  rotate_left
  · simp only [Act.put, List.setIfInBounds_toArray, List.set_cons_zero, List.set_cons_succ, i64_w, i32_w]
    rfl
  refine pure_ (i := 6) (N := some 9) (v := ?_) (a' := ?_) #[true, false, false, true, false, false, true, false, false, false, false, false, false, false, false, false, false, false, false, false] rfl rfl (any_of HT_.out (by kernel_rfl)) (fun _ _ _ h => h) (Or.inl ⟨by rfl, ?_⟩) ?_ ?_
  rotate_left
  · intro w'
    go_simp
    with_reducible rfl
  rotate_left
  · simp only [Act.put, List.setIfInBounds_toArray, List.set_cons_zero, List.set_cons_succ, i64_w, i32_w]
    rfl
  refine pure_ (i := 9) (N := some 12) (v := ?_) (a' := ?_) #[true, false, false, true, false, false, true, false, false, true, false, false, false, false, false, false, false, false, false, false] rfl rfl (any_of HT_.out (by kernel_rfl)) (fun _ _ _ h => h) (Or.inl ⟨by rfl, ?_⟩) ?_ ?_
  rotate_left
  · intro w'
    go_simp
    with_reducible rfl
  rotate_left
  · simp only [Act.put, List.setIfInBounds_toArray, List.set_cons_zero, List.set_cons_succ, i64_w, i32_w]
    rfl
  refine take_ (i := 1) (N := some 4) (v := ?_) (a' := ?_) #[true, true, false, true, false, false, true, false, false, true, false, false, false, false, false, false, false, false, false, false] rfl rfl (take_ofW HT_.out HW_.out (by kernel_rfl)) (fun _ _ _ h => h) (Or.inl ⟨by rfl, ?_⟩) hHeld ?_ ?_
  rotate_left
  · rintro w' ⟨s0, s1, s2, s3, s4⟩
    go_simp
    with_reducible rfl
  rotate_left
  · simp only [Act.put, List.setIfInBounds_toArray, List.set_cons_zero, List.set_cons_succ, i64_w, i32_w]
    rfl
  refine take_ (i := 4) (N := some 7) (v := ?_) (a' := ?_) #[true, true, false, true, true, false, true, false, false, true, false, false, false, false, false, false, false, false, false, false] rfl rfl (take_ofW HT_.out HW_.out (by kernel_rfl)) (fun _ _ _ h => h) (Or.inl ⟨by rfl, ?_⟩) hHeld ?_ ?_
  rotate_left
  · rintro w' ⟨s0, s1, s2, s3, s4⟩
    go_simp
    with_reducible rfl
  rotate_left
  · simp only [Act.put, List.setIfInBounds_toArray, List.set_cons_zero, List.set_cons_succ, i64_w, i32_w]
    rfl
  refine take_ (i := 7) (N := some 10) (v := ?_) (a' := ?_) #[true, true, false, true, true, false, true, true, false, true, false, false, false, false, false, false, false, false, false, false] rfl rfl (take_ofW HT_.out HW_.out (by kernel_rfl)) (fun _ _ _ h => h) (Or.inl ⟨by rfl, ?_⟩) hHeld ?_ ?_
  rotate_left
  · rintro w' ⟨s0, s1, s2, s3, s4⟩
    go_simp
    with_reducible rfl
  rotate_left
  · simp only [Act.put, List.setIfInBounds_toArray, List.set_cons_zero, List.set_cons_succ, i64_w, i32_w]
    rfl
  refine take_ (i := 10) (N := some 13) (v := ?_) (a' := ?_) #[true, true, false, true, true, false, true, true, false, true, true, false, false, false, false, false, false, false, false, false] rfl rfl (take_ofW HT_.out HW_.out (by kernel_rfl)) (fun _ _ _ h => h) (Or.inl ⟨by rfl, ?_⟩) hHeld ?_ ?_
  rotate_left
  · rintro w' ⟨s0, s1, s2, s3, s4⟩
    go_simp
    with_reducible rfl
  rotate_left
  · simp only [Act.put, List.setIfInBounds_toArray, List.set_cons_zero, List.set_cons_succ, i64_w, i32_w]
    rfl
  refine one_ (i := 2) (N := some 5) #[true, true, true, true, true, false, true, true, false, true, true, false, false, false, false, false, false, false, false, false] rfl rfl (one_of HT_.out (by kernel_rfl)) (by decide) (fun K hK => ?_)
  refine goes_ Tryz.func121 (by kernel_rfl) rfl #[.slice A0_0 l0_0.length c0_0] (by rfl) rfl rfl (by (try simp only [List.map_toArray, List.map_cons, List.map_nil]); first | done | rfl | (simp only [List.length_drop, List.length_take]; rfl)) ?_
  with_reducible refine (impl_User.calls _ _ l0_0 t612 _ ?side1 ?side2 A2.out).mono ?_
  (case side1 => repeat (first | exact (Kd.C_below HR0_0.out HB.out) | (with_reducible refine Kd.C_alloc ?_ _) | (with_reducible refine Kd.C_drewN ?_ _) | (with_reducible refine Kd.C_drew ?_)))
  (case side2 => exact HC0_0.out)
  rintro e w9 ⟨v613, rfl, ho0, hb⟩
  refine ⟨_, rfl, ?_⟩
  have n0_ := Aside0.mk (Kd.R_lower ho0 (below_size (by repeat (first | (with_reducible first | exact HB.out | apply below_alloc | apply pw_below_drewN | apply below_drew1 | refine below_set ?_ GE610.out | refine below_set ?_ GE611.out) | exact HB.out))))
  have n1_ := Aside0.mk (blk_below (g := gb610) (o := .cells #[.slice A0_0 l0_0.length c0_0, .slice A0_1 l0_1.length c0_1, .slice A0_2 l0_2.length c0_2, .slice A0_3 l0_3.length c0_3, .int .i64 a0_4] 48 (0, 0)) (by (with_reducible repeat (first | refine blk_drewN ?_ _ | refine blk_drew ?_ | refine blk_alloc ?_ _)); exact BK610.out) hb)
  have n2_ := Aside0.mk (blk_below (g := gb611) (o := .cells #[.slice none 0 0, .slice none 0 0, .slice none 0 0, .slice none 0 0, .int .i64 0] 48 (0, 0)) (by (with_reducible repeat (first | refine blk_drewN ?_ _ | refine blk_drew ?_ | refine blk_alloc ?_ _)); exact BK611.out) hb)
  have n3_ := Aside0.mk (below_step (by repeat (first | (with_reducible first | exact HB.out | apply below_alloc | apply pw_below_drewN | apply below_drew1 | refine below_set ?_ GE610.out | refine below_set ?_ GE611.out) | exact HB.out)) hb)
  clear BK610
  clear BK611
  clear HB
  have HO614 := n0_
  have BK610 := n1_
  have BK611 := n2_
  have HB := n3_
  clear n0_ n1_ n2_ n3_
  (try clear hb)
  (try clear hb2)
  (try clear hk)
  (try clear hi)
  (try clear ho0)
  refine hK.out _ _ ⟨(blk_cell BK610.out 0).trans rfl, (blk_cell BK610.out 1).trans rfl, (blk_cell BK610.out 2).trans rfl, (blk_cell BK610.out 3).trans rfl, (blk_cell BK610.out 4).trans rfl⟩ (fun hHeld => ?_)
  clear hK K
  refine norm_ (a' := ?_) ?_ ?_
  rotate_left
  · show Act.put _ (some 5) _ = _
    simp only [Act.put, List.setIfInBounds_toArray, List.set_cons_zero, List.set_cons_succ, i64_w, i32_w]
    rfl
  refine pure_ (i := 12) (N := some 15) (v := ?_) (a' := ?_) #[true, true, true, true, true, false, true, true, false, true, true, false, true, false, false, false, false, false, false, false] rfl rfl (any_of HT_.out (by kernel_rfl)) (fun _ _ _ h => h) (Or.inl ⟨by rfl, ?_⟩) ?_ ?_
  rotate_left
  · intro w'
    go_simp
    with_reducible rfl
  rotate_left
  · simp only [Act.put, List.setIfInBounds_toArray, List.set_cons_zero, List.set_cons_succ, i64_w, i32_w]
    rfl
  refine one_ (i := 5) (N := some 8) #[true, true, true, true, true, true, true, true, false, true, true, false, true, false, false, false, false, false, false, false] rfl rfl (one_of HT_.out (by kernel_rfl)) (by decide) (fun K hK => ?_)
  refine goes_ Tryz.func122 (by kernel_rfl) rfl #[.slice A0_1 l0_1.length c0_1] (by rfl) rfl rfl (by (try simp only [List.map_toArray, List.map_cons, List.map_nil]); first | done | rfl | (simp only [List.length_drop, List.length_take]; rfl)) ?_
  with_reducible refine (impl_Session_122.calls _ _ l0_1 t615 _ ?side1 ?side2 A3.out).mono ?_
  (case side1 => repeat (first | exact (Kd.C_below HR0_1.out HB.out) | (with_reducible refine Kd.C_alloc ?_ _) | (with_reducible refine Kd.C_drewN ?_ _) | (with_reducible refine Kd.C_drew ?_)))
  (case side2 => exact HC0_1.out)
  rintro e w10 ⟨v616, rfl, ho0, hb⟩
  refine ⟨_, rfl, ?_⟩
  have n0_ := Aside0.mk (Kd.R_below (by (with_reducible repeat (first | apply Kd.R_alloc | apply Kd.R_drewN | apply Kd.R_drew)); exact HO614.out) hb)
  have n1_ := Aside0.mk (Kd.R_lower ho0 (below_size (by repeat (first | (with_reducible first | exact HB.out | apply below_alloc | apply pw_below_drewN | apply below_drew1 | refine below_set ?_ GE610.out | refine below_set ?_ GE611.out) | exact HB.out))))
  have n2_ := Aside0.mk (blk_below (g := gb610) (o := .cells #[.slice A0_0 l0_0.length c0_0, .slice A0_1 l0_1.length c0_1, .slice A0_2 l0_2.length c0_2, .slice A0_3 l0_3.length c0_3, .int .i64 a0_4] 48 (0, 0)) (by (with_reducible repeat (first | refine blk_drewN ?_ _ | refine blk_drew ?_ | refine blk_alloc ?_ _)); exact BK610.out) hb)
  have n3_ := Aside0.mk (blk_below (g := gb611) (o := .cells #[.slice none 0 0, .slice none 0 0, .slice none 0 0, .slice none 0 0, .int .i64 0] 48 (0, 0)) (by (with_reducible repeat (first | refine blk_drewN ?_ _ | refine blk_drew ?_ | refine blk_alloc ?_ _)); exact BK611.out) hb)
  have n4_ := Aside0.mk (below_step (by repeat (first | (with_reducible first | exact HB.out | apply below_alloc | apply pw_below_drewN | apply below_drew1 | refine below_set ?_ GE610.out | refine below_set ?_ GE611.out) | exact HB.out)) hb)
  clear HO614
  clear BK610
  clear BK611
  clear HB
  have HO614 := n0_
  have HO617 := n1_
  have BK610 := n2_
  have BK611 := n3_
  have HB := n4_
  clear n0_ n1_ n2_ n3_ n4_
  (try clear hb)
  (try clear hb2)
  (try clear hk)
  (try clear hi)
  (try clear ho0)
  refine hK.out _ _ ⟨(blk_cell BK610.out 0).trans rfl, (blk_cell BK610.out 1).trans rfl, (blk_cell BK610.out 2).trans rfl, (blk_cell BK610.out 3).trans rfl, (blk_cell BK610.out 4).trans rfl⟩ (fun hHeld => ?_)
  clear hK K
  refine norm_ (a' := ?_) ?_ ?_
  rotate_left
  · show Act.put _ (some 8) _ = _
    simp only [Act.put, List.setIfInBounds_toArray, List.set_cons_zero, List.set_cons_succ, i64_w, i32_w]
    rfl
  refine one_ (i := 8) (N := some 11) #[true, true, true, true, true, true, true, true, true, true, true, false, true, false, false, false, false, false, false, false] rfl rfl (one_of HT_.out (by kernel_rfl)) (by decide) (fun K hK => ?_)
  refine goes_ Tryz.func123 (by kernel_rfl) rfl #[.slice A0_2 l0_2.length c0_2] (by rfl) rfl rfl (by (try simp only [List.map_toArray, List.map_cons, List.map_nil]); first | done | rfl | (simp only [List.length_drop, List.length_take]; rfl)) ?_
  with_reducible refine (impl_Fail.calls _ _ l0_2 t618 _ ?side1 ?side2 A4.out).mono ?_
  (case side1 => repeat (first | exact (Kd.C_below HR0_2.out HB.out) | (with_reducible refine Kd.C_alloc ?_ _) | (with_reducible refine Kd.C_drewN ?_ _) | (with_reducible refine Kd.C_drew ?_)))
  (case side2 => exact HC0_2.out)
  rintro e w11 ⟨v619, rfl, ho0, hb⟩
  refine ⟨_, rfl, ?_⟩
  have n0_ := Aside0.mk (Kd.R_below (by (with_reducible repeat (first | apply Kd.R_alloc | apply Kd.R_drewN | apply Kd.R_drew)); exact HO614.out) hb)
  have n1_ := Aside0.mk (Kd.R_below (by (with_reducible repeat (first | apply Kd.R_alloc | apply Kd.R_drewN | apply Kd.R_drew)); exact HO617.out) hb)
  have n2_ := Aside0.mk (Kd.R_lower ho0 (below_size (by repeat (first | (with_reducible first | exact HB.out | apply below_alloc | apply pw_below_drewN | apply below_drew1 | refine below_set ?_ GE610.out | refine below_set ?_ GE611.out) | exact HB.out))))
  have n3_ := Aside0.mk (blk_below (g := gb610) (o := .cells #[.slice A0_0 l0_0.length c0_0, .slice A0_1 l0_1.length c0_1, .slice A0_2 l0_2.length c0_2, .slice A0_3 l0_3.length c0_3, .int .i64 a0_4] 48 (0, 0)) (by (with_reducible repeat (first | refine blk_drewN ?_ _ | refine blk_drew ?_ | refine blk_alloc ?_ _)); exact BK610.out) hb)
  have n4_ := Aside0.mk (blk_below (g := gb611) (o := .cells #[.slice none 0 0, .slice none 0 0, .slice none 0 0, .slice none 0 0, .int .i64 0] 48 (0, 0)) (by (with_reducible repeat (first | refine blk_drewN ?_ _ | refine blk_drew ?_ | refine blk_alloc ?_ _)); exact BK611.out) hb)
  have n5_ := Aside0.mk (below_step (by repeat (first | (with_reducible first | exact HB.out | apply below_alloc | apply pw_below_drewN | apply below_drew1 | refine below_set ?_ GE610.out | refine below_set ?_ GE611.out) | exact HB.out)) hb)
  clear HO614
  clear HO617
  clear BK610
  clear BK611
  clear HB
  have HO614 := n0_
  have HO617 := n1_
  have HO620 := n2_
  have BK610 := n3_
  have BK611 := n4_
  have HB := n5_
  clear n0_ n1_ n2_ n3_ n4_ n5_
  (try clear hb)
  (try clear hb2)
  (try clear hk)
  (try clear hi)
  (try clear ho0)
  refine hK.out _ _ ⟨(blk_cell BK610.out 0).trans rfl, (blk_cell BK610.out 1).trans rfl, (blk_cell BK610.out 2).trans rfl, (blk_cell BK610.out 3).trans rfl, (blk_cell BK610.out 4).trans rfl⟩ (fun hHeld => ?_)
  clear hK K
  refine norm_ (a' := ?_) ?_ ?_
  rotate_left
  · show Act.put _ (some 11) _ = _
    simp only [Act.put, List.setIfInBounds_toArray, List.set_cons_zero, List.set_cons_succ, i64_w, i32_w]
    rfl
  refine one_ (i := 11) (N := some 14) #[true, true, true, true, true, true, true, true, true, true, true, true, true, false, false, false, false, false, false, false] rfl rfl (one_of HT_.out (by kernel_rfl)) (by decide) (fun K hK => ?_)
  refine goes_ Tryz.func124 (by kernel_rfl) rfl #[.slice A0_3 l0_3.length c0_3] (by rfl) rfl rfl (by (try simp only [List.map_toArray, List.map_cons, List.map_nil]); first | done | rfl | (simp only [List.length_drop, List.length_take]; rfl)) ?_
  with_reducible refine (impl_Record_124.calls _ _ l0_3 t621 _ ?side1 ?side2 A5.out).mono ?_
  (case side1 => repeat (first | exact (Kd.C_below HR0_3.out HB.out) | (with_reducible refine Kd.C_alloc ?_ _) | (with_reducible refine Kd.C_drewN ?_ _) | (with_reducible refine Kd.C_drew ?_)))
  (case side2 => exact HC0_3.out)
  rintro e w12 ⟨v622, rfl, ho0, hb⟩
  refine ⟨_, rfl, ?_⟩
  have n0_ := Aside0.mk (Kd.R_below (by (with_reducible repeat (first | apply Kd.R_alloc | apply Kd.R_drewN | apply Kd.R_drew)); exact HO614.out) hb)
  have n1_ := Aside0.mk (Kd.R_below (by (with_reducible repeat (first | apply Kd.R_alloc | apply Kd.R_drewN | apply Kd.R_drew)); exact HO617.out) hb)
  have n2_ := Aside0.mk (Kd.R_below (by (with_reducible repeat (first | apply Kd.R_alloc | apply Kd.R_drewN | apply Kd.R_drew)); exact HO620.out) hb)
  have n3_ := Aside0.mk (Kd.R_lower ho0 (below_size (by repeat (first | (with_reducible first | exact HB.out | apply below_alloc | apply pw_below_drewN | apply below_drew1 | refine below_set ?_ GE610.out | refine below_set ?_ GE611.out) | exact HB.out))))
  have n4_ := Aside0.mk (blk_below (g := gb610) (o := .cells #[.slice A0_0 l0_0.length c0_0, .slice A0_1 l0_1.length c0_1, .slice A0_2 l0_2.length c0_2, .slice A0_3 l0_3.length c0_3, .int .i64 a0_4] 48 (0, 0)) (by (with_reducible repeat (first | refine blk_drewN ?_ _ | refine blk_drew ?_ | refine blk_alloc ?_ _)); exact BK610.out) hb)
  have n5_ := Aside0.mk (blk_below (g := gb611) (o := .cells #[.slice none 0 0, .slice none 0 0, .slice none 0 0, .slice none 0 0, .int .i64 0] 48 (0, 0)) (by (with_reducible repeat (first | refine blk_drewN ?_ _ | refine blk_drew ?_ | refine blk_alloc ?_ _)); exact BK611.out) hb)
  have n6_ := Aside0.mk (below_step (by repeat (first | (with_reducible first | exact HB.out | apply below_alloc | apply pw_below_drewN | apply below_drew1 | refine below_set ?_ GE610.out | refine below_set ?_ GE611.out) | exact HB.out)) hb)
  clear HO614
  clear HO617
  clear HO620
  clear BK610
  clear BK611
  clear HB
  have HO614 := n0_
  have HO617 := n1_
  have HO620 := n2_
  have HO623 := n3_
  have BK610 := n4_
  have BK611 := n5_
  have HB := n6_
  clear n0_ n1_ n2_ n3_ n4_ n5_ n6_
  (try clear hb)
  (try clear hb2)
  (try clear hk)
  (try clear hi)
  (try clear ho0)
  obtain ⟨Ao13, co13, eo13⟩ := Kd.R_slice HO614.out
  (first | subst eo13 | (injection eo13 with f1_ f2_ f3_; have f4_ := f1_.symm; have f5_ := f3_.symm; clear f1_ f2_ f3_; subst f4_; subst f5_))
  obtain ⟨Ao15, co15, eo15⟩ := Kd.R_slice HO617.out
  (first | subst eo15 | (injection eo15 with f1_ f2_ f3_; have f4_ := f1_.symm; have f5_ := f3_.symm; clear f1_ f2_ f3_; subst f4_; subst f5_))
  obtain ⟨Ao17, co17, eo17⟩ := Kd.R_slice HO620.out
  (first | subst eo17 | (injection eo17 with f1_ f2_ f3_; have f4_ := f1_.symm; have f5_ := f3_.symm; clear f1_ f2_ f3_; subst f4_; subst f5_))
  obtain ⟨Ao19, co19, eo19⟩ := Kd.R_slice HO623.out
  (first | subst eo19 | (injection eo19 with f1_ f2_ f3_; have f4_ := f1_.symm; have f5_ := f3_.symm; clear f1_ f2_ f3_; subst f4_; subst f5_))
  refine hK.out _ _ ⟨(blk_cell BK610.out 0).trans rfl, (blk_cell BK610.out 1).trans rfl, (blk_cell BK610.out 2).trans rfl, (blk_cell BK610.out 3).trans rfl, (blk_cell BK610.out 4).trans rfl⟩ (fun hHeld => ?_)
  clear hK K
  refine norm_ (a' := ?_) ?_ ?_
  rotate_left
  · show Act.put _ (some 14) _ = _
    simp only [Act.put, List.setIfInBounds_toArray, List.set_cons_zero, List.set_cons_succ, i64_w, i32_w]
    rfl
  refine last_ (i := 13) (N := none) #[true, true, true, true, true, true, true, true, true, true, true, true, true, true, false, false, false, false, false, false] rfl rfl (one_of HT_.out (by kernel_rfl)) (by decide) (fun K hK => ?_)
  have hs14 : w12.cell? ⟨gb610, 0, none⟩ = some (.slice A0_0 l0_0.length c0_0) := (blk_cell BK610.out 0).trans rfl
  have hfs14 := blk_frozen BK610.out 0
  have hns14_1 := NB611_610.out
  have hms14_1 := NB610_611.out
  refine skip_ (w1 := ?_) (by rfl) rfl ?_ ?_
  rotate_left
  · go_simp
    rfl
  refine hK.out _ _ ?_
  clear hK K
  refine pure_ (i := 14) (N := some 16) (v := ?_) (a' := ?_) #[true, true, true, true, true, true, true, true, true, true, true, true, true, true, true, false, false, false, false, false] rfl rfl (any_of HT_.out (by kernel_rfl)) (fun _ _ _ h => h) (Or.inl ⟨by rfl, ?_⟩) ?_ ?_
  rotate_left
  · intro w'
    go_simp
    with_reducible rfl
  rotate_left
  · simp only [Act.put, List.setIfInBounds_toArray, List.set_cons_zero, List.set_cons_succ, i64_w, i32_w]
    rfl
  refine last_ (i := 15) (N := none) #[true, true, true, true, true, true, true, true, true, true, true, true, true, true, true, true, false, false, false, false] rfl rfl (one_of HT_.out (by kernel_rfl)) (by decide) (fun K hK => ?_)
  have hs16 : w12.cell? ⟨gb610, 1, none⟩ = some (.slice A0_1 l0_1.length c0_1) := (blk_cell BK610.out 1).trans rfl
  have hfs16 := blk_frozen BK610.out 1
  have hns16_1 := NB611_610.out
  have hms16_1 := NB610_611.out
  refine skip_ (w1 := ?_) (by rfl) rfl ?_ ?_
  rotate_left
  · go_simp
    rfl
  refine hK.out _ _ ?_
  clear hK K
  refine pure_ (i := 16) (N := some 17) (v := ?_) (a' := ?_) #[true, true, true, true, true, true, true, true, true, true, true, true, true, true, true, true, true, false, false, false] rfl rfl (any_of HT_.out (by kernel_rfl)) (fun _ _ _ h => h) (Or.inl ⟨by rfl, ?_⟩) ?_ ?_
  rotate_left
  · intro w'
    go_simp
    with_reducible rfl
  rotate_left
  · simp only [Act.put, List.setIfInBounds_toArray, List.set_cons_zero, List.set_cons_succ, i64_w, i32_w]
    rfl
  refine last_ (i := 17) (N := none) #[true, true, true, true, true, true, true, true, true, true, true, true, true, true, true, true, true, true, false, false] rfl rfl (one_of HT_.out (by kernel_rfl)) (by decide) (fun K hK => ?_)
  have hs18 : w12.cell? ⟨gb610, 2, none⟩ = some (.slice A0_2 l0_2.length c0_2) := (blk_cell BK610.out 2).trans rfl
  have hfs18 := blk_frozen BK610.out 2
  have hns18_1 := NB611_610.out
  have hms18_1 := NB610_611.out
  refine skip_ (w1 := ?_) (by rfl) rfl ?_ ?_
  rotate_left
  · go_simp
    rfl
  refine hK.out _ _ ?_
  clear hK K
  refine pure_ (i := 18) (N := some 18) (v := ?_) (a' := ?_) #[true, true, true, true, true, true, true, true, true, true, true, true, true, true, true, true, true, true, true, false] rfl rfl (any_of HT_.out (by kernel_rfl)) (fun _ _ _ h => h) (Or.inl ⟨by rfl, ?_⟩) ?_ ?_
  rotate_left
  · intro w'
    go_simp
    with_reducible rfl
  rotate_left
  · simp only [Act.put, List.setIfInBounds_toArray, List.set_cons_zero, List.set_cons_succ, i64_w, i32_w]
    rfl
  refine last_ (i := 19) (N := none) #[true, true, true, true, true, true, true, true, true, true, true, true, true, true, true, true, true, true, true, true] rfl rfl (one_of HT_.out (by kernel_rfl)) (by decide) (fun K hK => ?_)
  have hs20 : w12.cell? ⟨gb610, 3, none⟩ = some (.slice A0_3 l0_3.length c0_3) := (blk_cell BK610.out 3).trans rfl
  have hfs20 := blk_frozen BK610.out 3
  have hns20_1 := NB611_610.out
  have hms20_1 := NB610_611.out
  refine skip_ (w1 := ?_) (by rfl) rfl ?_ ?_
  rotate_left
  · go_simp
    rfl
  refine hK.out _ _ ?_
  clear hK K
  refine done_ (done_of HT_.out (by kernel_rfl)) ?_
  have hnb21 := NB610_611.out
  have hnc21 := NB611_610.out
  have hcz22_0 : w12.cell? ⟨gb610, 0, none⟩ = some (.slice A0_0 l0_0.length c0_0) := (blk_cell BK610.out 0).trans rfl
  have hcz22_1 : w12.cell? ⟨gb610, 1, none⟩ = some (.slice A0_1 l0_1.length c0_1) := (blk_cell BK610.out 1).trans rfl
  have hcz22_2 : w12.cell? ⟨gb610, 2, none⟩ = some (.slice A0_2 l0_2.length c0_2) := (blk_cell BK610.out 2).trans rfl
  have hcz22_3 : w12.cell? ⟨gb610, 3, none⟩ = some (.slice A0_3 l0_3.length c0_3) := (blk_cell BK610.out 3).trans rfl
  have hcz22_4 : w12.cell? ⟨gb610, 4, none⟩ = some (.int .i64 a0_4) := (blk_cell BK610.out 4).trans rfl
  have hfz22_0 := blk_frozen BK610.out 0
  have hfz22_1 := blk_frozen BK610.out 1
  have hfz22_2 := blk_frozen BK610.out 2
  have hfz22_3 := blk_frozen BK610.out 3
  have hfz22_4 := blk_frozen BK610.out 4
  have hcz23_0 : w12.cell? ⟨gb611, 0, none⟩ = some (.slice none 0 0) := (blk_cell BK611.out 0).trans rfl
  have hcz23_1 : w12.cell? ⟨gb611, 1, none⟩ = some (.slice none 0 0) := (blk_cell BK611.out 1).trans rfl
  have hcz23_2 : w12.cell? ⟨gb611, 2, none⟩ = some (.slice none 0 0) := (blk_cell BK611.out 2).trans rfl
  have hcz23_3 : w12.cell? ⟨gb611, 3, none⟩ = some (.slice none 0 0) := (blk_cell BK611.out 3).trans rfl
  have hcz23_4 : w12.cell? ⟨gb611, 4, none⟩ = some (.int .i64 0) := (blk_cell BK611.out 4).trans rfl
  have hfz23_0 := blk_frozen BK611.out 0
  have hfz23_1 := blk_frozen BK611.out 1
  have hfz23_2 := blk_frozen BK611.out 2
  have hfz23_3 := blk_frozen BK611.out 3
  have hfz23_4 := blk_frozen BK611.out 4
  try go_wp2
  refine bodyPost_ret (results_cell_row rfl _ _ gb611 48 #[.slice Ao13 t612.length co13, .slice Ao15 t615.length co15, .slice Ao17 t618.length co17, .slice Ao19 t621.length co19, .int .i64 a0_4] (0, 0) _ rfl (by (with_reducible repeat (first | refine blk_drewN ?_ _ | refine blk_drew ?_ | refine blk_alloc ?_ _)); refine blk_put (cs := #[.slice Ao13 t612.length co13, .slice Ao15 t615.length co15, .slice Ao17 t618.length co17, .slice Ao19 t621.length co19, .int .i64 0]) ?_ 4 _ rfl; (with_reducible repeat (first | refine blk_drewN ?_ _ | refine blk_drew ?_ | refine blk_alloc ?_ _)); refine blk_put (cs := #[.slice Ao13 t612.length co13, .slice Ao15 t615.length co15, .slice Ao17 t618.length co17, .slice none 0 0, .int .i64 0]) ?_ 3 _ rfl; (with_reducible repeat (first | refine blk_drewN ?_ _ | refine blk_drew ?_ | refine blk_alloc ?_ _)); refine blk_put (cs := #[.slice Ao13 t612.length co13, .slice Ao15 t615.length co15, .slice none 0 0, .slice none 0 0, .int .i64 0]) ?_ 2 _ rfl; (with_reducible repeat (first | refine blk_drewN ?_ _ | refine blk_drew ?_ | refine blk_alloc ?_ _)); refine blk_put (cs := #[.slice Ao13 t612.length co13, .slice none 0 0, .slice none 0 0, .slice none 0 0, .int .i64 0]) ?_ 1 _ rfl; (with_reducible repeat (first | refine blk_drewN ?_ _ | refine blk_drew ?_ | refine blk_alloc ?_ _)); refine blk_put (cs := #[.slice none 0 0, .slice none 0 0, .slice none 0 0, .slice none 0 0, .int .i64 0]) ?_ 0 _ rfl; (with_reducible repeat (first | refine blk_drewN ?_ _ | refine blk_drew ?_ | refine blk_alloc ?_ _)); refine blk_far ?_ NB611_610.out _; (with_reducible repeat (first | refine blk_drewN ?_ _ | refine blk_drew ?_ | refine blk_alloc ?_ _)); refine blk_far ?_ NB611_610.out _; (with_reducible repeat (first | refine blk_drewN ?_ _ | refine blk_drew ?_ | refine blk_alloc ?_ _)); refine blk_far ?_ NB611_610.out _; (with_reducible repeat (first | refine blk_drewN ?_ _ | refine blk_drew ?_ | refine blk_alloc ?_ _)); refine blk_far ?_ NB611_610.out _; (with_reducible repeat (first | refine blk_drewN ?_ _ | refine blk_drew ?_ | refine blk_alloc ?_ _)); exact BK611.out) Tryz.underlying48 rfl (by kernel_rfl)) rfl ?_
  exact ⟨_, _, _, _, by first | rfl | (simp [errW_none, errW_some] <;> rfl) | (simp [*, errW_none, errW_some] <;> rfl), by (with_reducible repeat (first | apply Kd.R_alloc | apply Kd.R_drewN | apply Kd.R_drew)); exact Kd.R_mono (Kd.R_far (p := ⟨gb611, 4, none⟩) (Kd.R_far (p := ⟨gb611, 3, none⟩) (Kd.R_far (p := ⟨gb611, 2, none⟩) (Kd.R_far (p := ⟨gb611, 1, none⟩) (Kd.R_far (p := ⟨gb611, 0, none⟩) (Kd.R_far (p := ⟨gb610, 3, none⟩) (Kd.R_far (p := ⟨gb610, 2, none⟩) (Kd.R_far (p := ⟨gb610, 1, none⟩) (Kd.R_far (p := ⟨gb610, 0, none⟩) (Kd.R_types (Kd.R_types HO614.out BK610.out (by decide)) BK611.out (by decide)) (fun _ hk => hk.1.2) (.slice Ao13 t612.length co13)) (fun _ hk => hk.1.2) (.slice Ao15 t615.length co15)) (fun _ hk => hk.1.2) (.slice Ao17 t618.length co17)) (fun _ hk => hk.1.2) (.slice Ao19 t621.length co19)) (fun _ hk => hk.2) (.slice Ao13 t612.length co13)) (fun _ hk => hk.2) (.slice Ao15 t615.length co15)) (fun _ hk => hk.2) (.slice Ao17 t618.length co17)) (fun _ hk => hk.2) (.slice Ao19 t621.length co19)) (fun _ hk => hk.2) (.int .i64 a0_4)) (fun _ hk => trivial), by (with_reducible repeat (first | apply Kd.R_alloc | apply Kd.R_drewN | apply Kd.R_drew)); exact Kd.R_mono (Kd.R_far (p := ⟨gb611, 4, none⟩) (Kd.R_far (p := ⟨gb611, 3, none⟩) (Kd.R_far (p := ⟨gb611, 2, none⟩) (Kd.R_far (p := ⟨gb611, 1, none⟩) (Kd.R_far (p := ⟨gb611, 0, none⟩) (Kd.R_far (p := ⟨gb610, 3, none⟩) (Kd.R_far (p := ⟨gb610, 2, none⟩) (Kd.R_far (p := ⟨gb610, 1, none⟩) (Kd.R_far (p := ⟨gb610, 0, none⟩) (Kd.R_types (Kd.R_types HO617.out BK610.out (by decide)) BK611.out (by decide)) (fun _ hk => hk.1.2) (.slice Ao13 t612.length co13)) (fun _ hk => hk.1.2) (.slice Ao15 t615.length co15)) (fun _ hk => hk.1.2) (.slice Ao17 t618.length co17)) (fun _ hk => hk.1.2) (.slice Ao19 t621.length co19)) (fun _ hk => hk.2) (.slice Ao13 t612.length co13)) (fun _ hk => hk.2) (.slice Ao15 t615.length co15)) (fun _ hk => hk.2) (.slice Ao17 t618.length co17)) (fun _ hk => hk.2) (.slice Ao19 t621.length co19)) (fun _ hk => hk.2) (.int .i64 a0_4)) (fun _ hk => trivial), by (with_reducible repeat (first | apply Kd.R_alloc | apply Kd.R_drewN | apply Kd.R_drew)); exact Kd.R_mono (Kd.R_far (p := ⟨gb611, 4, none⟩) (Kd.R_far (p := ⟨gb611, 3, none⟩) (Kd.R_far (p := ⟨gb611, 2, none⟩) (Kd.R_far (p := ⟨gb611, 1, none⟩) (Kd.R_far (p := ⟨gb611, 0, none⟩) (Kd.R_far (p := ⟨gb610, 3, none⟩) (Kd.R_far (p := ⟨gb610, 2, none⟩) (Kd.R_far (p := ⟨gb610, 1, none⟩) (Kd.R_far (p := ⟨gb610, 0, none⟩) (Kd.R_types (Kd.R_types HO620.out BK610.out (by decide)) BK611.out (by decide)) (fun _ hk => hk.1.2) (.slice Ao13 t612.length co13)) (fun _ hk => hk.1.2) (.slice Ao15 t615.length co15)) (fun _ hk => hk.1.2) (.slice Ao17 t618.length co17)) (fun _ hk => hk.1.2) (.slice Ao19 t621.length co19)) (fun _ hk => hk.2) (.slice Ao13 t612.length co13)) (fun _ hk => hk.2) (.slice Ao15 t615.length co15)) (fun _ hk => hk.2) (.slice Ao17 t618.length co17)) (fun _ hk => hk.2) (.slice Ao19 t621.length co19)) (fun _ hk => hk.2) (.int .i64 a0_4)) (fun _ hk => trivial), by (with_reducible repeat (first | apply Kd.R_alloc | apply Kd.R_drewN | apply Kd.R_drew)); exact Kd.R_mono (Kd.R_far (p := ⟨gb611, 4, none⟩) (Kd.R_far (p := ⟨gb611, 3, none⟩) (Kd.R_far (p := ⟨gb611, 2, none⟩) (Kd.R_far (p := ⟨gb611, 1, none⟩) (Kd.R_far (p := ⟨gb611, 0, none⟩) (Kd.R_far (p := ⟨gb610, 3, none⟩) (Kd.R_far (p := ⟨gb610, 2, none⟩) (Kd.R_far (p := ⟨gb610, 1, none⟩) (Kd.R_far (p := ⟨gb610, 0, none⟩) (Kd.R_types (Kd.R_types HO623.out BK610.out (by decide)) BK611.out (by decide)) (fun _ hk => hk.1.2) (.slice Ao13 t612.length co13)) (fun _ hk => hk.1.2) (.slice Ao15 t615.length co15)) (fun _ hk => hk.1.2) (.slice Ao17 t618.length co17)) (fun _ hk => hk.1.2) (.slice Ao19 t621.length co19)) (fun _ hk => hk.2) (.slice Ao13 t612.length co13)) (fun _ hk => hk.2) (.slice Ao15 t615.length co15)) (fun _ hk => hk.2) (.slice Ao17 t618.length co17)) (fun _ hk => hk.2) (.slice Ao19 t621.length co19)) (fun _ hk => hk.2) (.int .i64 a0_4)) (fun _ hk => trivial), by repeat (first | (with_reducible first | exact HB.out | apply below_alloc | apply pw_below_drewN | apply below_drew1 | refine below_set ?_ GE610.out | refine below_set ?_ GE611.out) | exact HB.out)⟩
end
section
-- NEEDS laws.eqConfig impl.cloneGuests
theorem clone_f (us : List S92) (ss : List S76) (fs : List S81) (rs : List S83) (nx : Int) (y0 : us.length ≤ 1048577) (y1 : ss.length ≤ 1048577) (y2 : fs.length ≤ 1048577) (y3 : rs.length ≤ 1048577) : impl_cloneGuests.f us ss fs rs nx = some (us, ss, fs, rs, nx) := by
  have e0 : impl_User.f us = some us := by
    simp only [impl_User.f, Option.bind_some, List.length_nil, Nat.zero_add, List.nil_append]
    rw [if_pos (by omega)]
  have e1 : impl_Session_122.f ss = some ss := by
    simp only [impl_Session_122.f, Option.bind_some, List.length_nil, Nat.zero_add, List.nil_append]
    rw [if_pos (by omega)]
  have e2 : impl_Fail.f fs = some fs := by
    simp only [impl_Fail.f, Option.bind_some, List.length_nil, Nat.zero_add, List.nil_append]
    rw [if_pos (by omega)]
  have e3 : impl_Record_124.f rs = some rs := by
    simp only [impl_Record_124.f, Option.bind_some, List.length_nil, Nat.zero_add, List.nil_append]
    rw [if_pos (by omega)]
  rw [impl_cloneGuests.f, e0, Option.bind_some, e1, Option.bind_some, e2, Option.bind_some, e3, Option.bind_some]
end
end Go.Proofs.YtkklokkldgkacaaGreat.X
