/- Texts that the row of FnExactEndMoved stands on: functions of the program and of the reference, each as a Lean function with the same answers, and the plain lemmas. Conditions: none beside those that each theorem names. -/
import Derived.Test.YtkklokkldgkacaaGreatCFnExactEndMoved5
namespace Go.Proofs.YtkklokkldgkacaaGreat.X
open Go.RowKit Go.Proofs.YtkklokkldgkacaaGreatW.PrintWords Go.Proofs.YtkklokkldgkacaaGreatW.PrintLast Go.Proofs.YtkklokkldgkacaaGreatW.PrintMore
attribute [local go_sem] max2_int min2_int max_two min_two max_three min_three max_four min_four   -- for this text's walks alone
set_option linter.unusedVariables false
set_option linter.unusedSimpArgs false
section
-- NEEDS laws.eqConfig
def ClashP (s x : S76) : Prop := x.f1 = s.f1 ∨ x.f2.toList = s.f2.toList ∨ x.f3 = s.f3
set_option maxHeartbeats 8000000 in
set_option maxRecDepth 100000 in
theorem iClash1 (s x : S76) (gs : Nat) (w : World) (hx : w.heap[gs]? = some (.cells #[.int .i64 s.f0, .int .i64 s.f1, .string s.f2, .int .i64 s.f3, .int .i64 s.f4, .int .i64 s.f5, .int .i64 s.f6, .int .i64 s.f7, .int .i64 s.f8, .int .i64 s.f9] 76 (0, 0))) : Calls Tryz.prog 50 #[.agg #[.int .i64 x.f0, .int .i64 x.f1, .string x.f2, .int .i64 x.f3, .int .i64 x.f4, .int .i64 x.f5, .int .i64 x.f6, .int .i64 x.f7, .int .i64 x.f8, .int .i64 x.f9], .pointer (some ⟨gs, 0, none⟩)] w (IsB (ClashP s x) w) := by
  have hu := Tryz.underlying76
  have hc := blk_cell hx
  have hlt := blk_lt hx
  clear hx
  rcases beq_em x.f1 s.f1 with ⟨b0, k0⟩ | ⟨b0, k0⟩
  rotate_left
  rcases beq_emS x.f2 s.f2 with ⟨b1, k1⟩ | ⟨b1, k1⟩
  rotate_left
  rcases beq_em x.f3 s.f3 with ⟨b2, k2⟩ | ⟨b2, k2⟩
  all_goals go_enter Tryz.func50, Tryz.ntmps50
  all_goals go_wp2
  all_goals go_ret
  all_goals first
    | exact .inl ⟨rfl, .inr (.inr k2.out), below_alloc (Below.refl _ _) _⟩
    | exact .inl ⟨rfl, .inr (.inl k1.out), below_alloc (Below.refl _ _) _⟩
    | exact .inl ⟨rfl, .inl k0.out, below_alloc (Below.refl _ _) _⟩
    | exact .inr ⟨rfl, fun h => by rcases h with h | h | h; exact k0.out h; exact k1.out h; exact k2.out h, below_alloc (Below.refl _ _) _⟩
set_option maxHeartbeats 8000000 in
set_option maxRecDepth 100000 in
theorem iRecord1 (B0 B1 B2 B3 : Option Addr) (d0 d1 d2 d3 : Nat) (us : List S92) (ss : List S76) (fs : List S81) (rs : List S83) (nx : Int) (gg : Nat) (r : S83) (w : World) (hy : w.heap[gg]? = some (.cells #[.slice B0 us.length d0, .slice B1 ss.length d1, .slice B2 fs.length d2, .slice B3 rs.length d3, .int .i64 nx] 48 (0, 0))) (n0 : 1 ≤ nx) (n1 : nx ≤ 10000) : Calls Tryz.prog 55 #[.pointer (some ⟨gg, 0, none⟩), .agg #[.int .i64 r.f0, .int .i64 r.f1, .int .i64 r.f2, .int .i64 r.f3, .bool r.f4]] w (IsB (RecordP nx r) w) := by
  have hu := Tryz.underlying83
  have hu3 := Tryz.underlying48
  have H0 := Aside0.mk hy
  clear hy
  have hw1 : IntKind.i64.wrap (nx - 1) = nx - 1 := i64id (by omega) (by omega)
  go_enter Tryz.func55, Tryz.ntmps55
  go_wp2
  have HB := Aside0.mk (below_alloc (Below.refl w.heap.size w) (.cells #[.int .i64 r.f0, .int .i64 r.f1, .int .i64 r.f2, .int .i64 r.f3, .bool r.f4] 83 (0, 0)))
  have HX := Aside0.mk (blk_new w (.cells #[.int .i64 r.f0, .int .i64 r.f1, .int .i64 r.f2, .int .i64 r.f3, .bool r.f4] 83 (0, 0)))
  have hg2 := blk_below H0.out HB.out
  generalize hW : w.alloc (.cells #[.int .i64 r.f0, .int .i64 r.f1, .int .i64 r.f2, .int .i64 r.f3, .bool r.f4] 83 (0, 0)) = W0 at *
  clear hW
  rcases Classical.em (1 ≤ r.f0 ∧ r.f0 ≤ nx - 1) with k1 | k1 <;> (have K1 := Aside0.mk k1; clear k1)
  rotate_left
  · refine qS (fun w' => w'.cell? ⟨w.heap.size, 0, none⟩ = some (.int .i64 r.f0) ∧ w'.cell? ⟨w.heap.size, 1, none⟩ = some (.int .i64 r.f1) ∧ w'.cell? ⟨w.heap.size, 2, none⟩ = some (.int .i64 r.f2) ∧ w'.cell? ⟨w.heap.size, 3, none⟩ = some (.int .i64 r.f3) ∧ w'.cell? ⟨w.heap.size, 4, none⟩ = some (.bool r.f4) ∧ w'.cell? ⟨gg, 4, none⟩ = some (.int .i64 nx)) 21 ⟨blk_cell HX.out 0, blk_cell HX.out 1, blk_cell HX.out 2, blk_cell HX.out 3, blk_cell HX.out 4, blk_cell hg2 4⟩ (fun hs => ?_)
    have n_ := Aside0.mk (below_drew1 HB.out)
    clear HB
    have HB := n_
    clear n_
    have n_ := Aside0.mk (blk_drew HX.out)
    clear HX
    have HX := n_
    clear n_
    refine qP 0 5 ?_
    refine qP 2 7 ?_
    refine qP 3 8 ?_
    refine qP 4 9 ?_
    refine qT 1 6 hs ?_
    refine qT 5 10 hs ?_
    refine qP 6 11 ?_
    refine q1 7 12 (fun K hK => ?_)
    refine qC Tryz.func47 _ ?_
    refine (iIn1 _ _ _ _).mono ?_
    intro e w2 h2
    obtain ⟨rfl, hb⟩ := h2.no K1.out
    have n_ := Aside0.mk (below_step HB.out hb)
    clear HB
    have HB := n_
    clear n_
    have n_ := Aside0.mk (blk_below HX.out hb)
    clear HX
    have HX := n_
    clear n_
    refine ⟨_, rfl, hK.out _ _ ⟨pw_cell_below hb hs.1, pw_cell_below hb hs.2.1, pw_cell_below hb hs.2.2.1, pw_cell_below hb hs.2.2.2.1, pw_cell_below hb hs.2.2.2.2.1, pw_cell_below hb hs.2.2.2.2.2⟩ (fun hs2 => ?_)⟩
    clear hK K hs hb
    have hs := hs2
    clear hs2
    refine qN ?_
    refine qP 8 13 ?_
    refine qP 9 14 ?_
    refine qU 10 15 ?_
    refine qU 11 16 ?_
    refine qU 12 17 ?_
    refine qU 13 18 ?_
    refine qP 14 19 ?_
    refine qP 15 20 ?_
    refine qU 16 21 ?_
    refine qU 17 22 ?_
    refine qU 18 23 ?_
    refine qU 19 24 ?_
    refine qP 20 25 ?_
    refine qD ?_
    clear hs
    clear hg2 hw1
    go_wp2
    go_ret
    exact .inr ⟨rfl, fun h => K1.out h.1, HB.out⟩
  rcases Classical.em (0 ≤ r.f1 ∧ r.f1 ≤ 100000) with k2 | k2 <;> (have K2 := Aside0.mk k2; clear k2)
  rotate_left
  · refine qS (fun w' => w'.cell? ⟨w.heap.size, 0, none⟩ = some (.int .i64 r.f0) ∧ w'.cell? ⟨w.heap.size, 1, none⟩ = some (.int .i64 r.f1) ∧ w'.cell? ⟨w.heap.size, 2, none⟩ = some (.int .i64 r.f2) ∧ w'.cell? ⟨w.heap.size, 3, none⟩ = some (.int .i64 r.f3) ∧ w'.cell? ⟨w.heap.size, 4, none⟩ = some (.bool r.f4) ∧ w'.cell? ⟨gg, 4, none⟩ = some (.int .i64 nx)) 21 ⟨blk_cell HX.out 0, blk_cell HX.out 1, blk_cell HX.out 2, blk_cell HX.out 3, blk_cell HX.out 4, blk_cell hg2 4⟩ (fun hs => ?_)
    have n_ := Aside0.mk (below_drew1 HB.out)
    clear HB
    have HB := n_
    clear n_
    have n_ := Aside0.mk (blk_drew HX.out)
    clear HX
    have HX := n_
    clear n_
    refine qP 0 5 ?_
    refine qP 2 7 ?_
    refine qP 3 8 ?_
    refine qP 4 9 ?_
    refine qT 1 6 hs ?_
    refine qT 5 10 hs ?_
    refine qP 6 11 ?_
    refine q1 7 12 (fun K hK => ?_)
    refine qC Tryz.func47 _ ?_
    refine (iIn1 _ _ _ _).mono ?_
    intro e w2 h2
    obtain ⟨rfl, hb⟩ := h2.yes K1.out
    have n_ := Aside0.mk (below_step HB.out hb)
    clear HB
    have HB := n_
    clear n_
    have n_ := Aside0.mk (blk_below HX.out hb)
    clear HX
    have HX := n_
    clear n_
    refine ⟨_, rfl, hK.out _ _ ⟨pw_cell_below hb hs.1, pw_cell_below hb hs.2.1, pw_cell_below hb hs.2.2.1, pw_cell_below hb hs.2.2.2.1, pw_cell_below hb hs.2.2.2.2.1, pw_cell_below hb hs.2.2.2.2.2⟩ (fun hs2 => ?_)⟩
    clear hK K hs hb
    have hs := hs2
    clear hs2
    refine qN ?_
    refine qP 8 13 ?_
    refine qP 9 14 ?_
    refine qP 10 15 ?_
    refine qT 11 16 hs ?_
    refine q1 12 17 (fun K hK => ?_)
    refine qC Tryz.func113 _ ?_
    refine (iTime1 _ _).mono ?_
    intro e w2 h2
    obtain ⟨rfl, hb⟩ := h2.no K2.out
    have n_ := Aside0.mk (below_step HB.out hb)
    clear HB
    have HB := n_
    clear n_
    have n_ := Aside0.mk (blk_below HX.out hb)
    clear HX
    have HX := n_
    clear n_
    refine ⟨_, rfl, hK.out _ _ ⟨pw_cell_below hb hs.1, pw_cell_below hb hs.2.1, pw_cell_below hb hs.2.2.1, pw_cell_below hb hs.2.2.2.1, pw_cell_below hb hs.2.2.2.2.1, pw_cell_below hb hs.2.2.2.2.2⟩ (fun hs2 => ?_)⟩
    clear hK K hs hb
    have hs := hs2
    clear hs2
    refine qN ?_
    refine qP 13 18 ?_
    refine qP 14 19 ?_
    refine qP 15 20 ?_
    refine qU 16 21 ?_
    refine qU 17 22 ?_
    refine qU 18 23 ?_
    refine qU 19 24 ?_
    refine qP 20 25 ?_
    refine qD ?_
    clear hs
    clear hg2 hw1
    go_wp2
    go_ret
    exact .inr ⟨rfl, fun h => K2.out h.2.1, HB.out⟩
  rcases Classical.em (0 ≤ r.f3 ∧ r.f3 ≤ 1000000) with k3 | k3 <;> (have K3 := Aside0.mk k3; clear k3)
  rotate_left
  · refine qS (fun w' => w'.cell? ⟨w.heap.size, 0, none⟩ = some (.int .i64 r.f0) ∧ w'.cell? ⟨w.heap.size, 1, none⟩ = some (.int .i64 r.f1) ∧ w'.cell? ⟨w.heap.size, 2, none⟩ = some (.int .i64 r.f2) ∧ w'.cell? ⟨w.heap.size, 3, none⟩ = some (.int .i64 r.f3) ∧ w'.cell? ⟨w.heap.size, 4, none⟩ = some (.bool r.f4) ∧ w'.cell? ⟨gg, 4, none⟩ = some (.int .i64 nx)) 21 ⟨blk_cell HX.out 0, blk_cell HX.out 1, blk_cell HX.out 2, blk_cell HX.out 3, blk_cell HX.out 4, blk_cell hg2 4⟩ (fun hs => ?_)
    have n_ := Aside0.mk (below_drew1 HB.out)
    clear HB
    have HB := n_
    clear n_
    have n_ := Aside0.mk (blk_drew HX.out)
    clear HX
    have HX := n_
    clear n_
    refine qP 0 5 ?_
    refine qP 2 7 ?_
    refine qP 3 8 ?_
    refine qP 4 9 ?_
    refine qT 1 6 hs ?_
    refine qT 5 10 hs ?_
    refine qP 6 11 ?_
    refine q1 7 12 (fun K hK => ?_)
    refine qC Tryz.func47 _ ?_
    refine (iIn1 _ _ _ _).mono ?_
    intro e w2 h2
    obtain ⟨rfl, hb⟩ := h2.yes K1.out
    have n_ := Aside0.mk (below_step HB.out hb)
    clear HB
    have HB := n_
    clear n_
    have n_ := Aside0.mk (blk_below HX.out hb)
    clear HX
    have HX := n_
    clear n_
    refine ⟨_, rfl, hK.out _ _ ⟨pw_cell_below hb hs.1, pw_cell_below hb hs.2.1, pw_cell_below hb hs.2.2.1, pw_cell_below hb hs.2.2.2.1, pw_cell_below hb hs.2.2.2.2.1, pw_cell_below hb hs.2.2.2.2.2⟩ (fun hs2 => ?_)⟩
    clear hK K hs hb
    have hs := hs2
    clear hs2
    refine qN ?_
    refine qP 8 13 ?_
    refine qP 9 14 ?_
    refine qP 10 15 ?_
    refine qT 11 16 hs ?_
    refine q1 12 17 (fun K hK => ?_)
    refine qC Tryz.func113 _ ?_
    refine (iTime1 _ _).mono ?_
    intro e w2 h2
    obtain ⟨rfl, hb⟩ := h2.yes K2.out
    have n_ := Aside0.mk (below_step HB.out hb)
    clear HB
    have HB := n_
    clear n_
    have n_ := Aside0.mk (blk_below HX.out hb)
    clear HX
    have HX := n_
    clear n_
    refine ⟨_, rfl, hK.out _ _ ⟨pw_cell_below hb hs.1, pw_cell_below hb hs.2.1, pw_cell_below hb hs.2.2.1, pw_cell_below hb hs.2.2.2.1, pw_cell_below hb hs.2.2.2.2.1, pw_cell_below hb hs.2.2.2.2.2⟩ (fun hs2 => ?_)⟩
    clear hK K hs hb
    have hs := hs2
    clear hs2
    refine qN ?_
    refine qP 13 18 ?_
    refine qP 14 19 ?_
    refine qP 15 20 ?_
    refine qP 16 21 ?_
    refine qT 17 22 hs ?_
    refine q1 18 23 (fun K hK => ?_)
    refine qC Tryz.func47 _ ?_
    refine (iIn1 _ _ _ _).mono ?_
    intro e w2 h2
    obtain ⟨rfl, hb⟩ := h2.no K3.out
    have n_ := Aside0.mk (below_step HB.out hb)
    clear HB
    have HB := n_
    clear n_
    have n_ := Aside0.mk (blk_below HX.out hb)
    clear HX
    have HX := n_
    clear n_
    refine ⟨_, rfl, hK.out _ _ ⟨pw_cell_below hb hs.1, pw_cell_below hb hs.2.1, pw_cell_below hb hs.2.2.1, pw_cell_below hb hs.2.2.2.1, pw_cell_below hb hs.2.2.2.2.1, pw_cell_below hb hs.2.2.2.2.2⟩ (fun hs2 => ?_)⟩
    clear hK K hs hb
    have hs := hs2
    clear hs2
    refine qN ?_
    refine qP 19 24 ?_
    refine qP 20 25 ?_
    refine qD ?_
    clear hs
    clear hg2 hw1
    go_wp2
    go_ret
    exact .inr ⟨rfl, fun h => K3.out h.2.2.1, HB.out⟩
  refine qS (fun w' => w'.cell? ⟨w.heap.size, 0, none⟩ = some (.int .i64 r.f0) ∧ w'.cell? ⟨w.heap.size, 1, none⟩ = some (.int .i64 r.f1) ∧ w'.cell? ⟨w.heap.size, 2, none⟩ = some (.int .i64 r.f2) ∧ w'.cell? ⟨w.heap.size, 3, none⟩ = some (.int .i64 r.f3) ∧ w'.cell? ⟨w.heap.size, 4, none⟩ = some (.bool r.f4) ∧ w'.cell? ⟨gg, 4, none⟩ = some (.int .i64 nx)) 21 ⟨blk_cell HX.out 0, blk_cell HX.out 1, blk_cell HX.out 2, blk_cell HX.out 3, blk_cell HX.out 4, blk_cell hg2 4⟩ (fun hs => ?_)
  have n_ := Aside0.mk (below_drew1 HB.out)
  clear HB
  have HB := n_
  clear n_
  have n_ := Aside0.mk (blk_drew HX.out)
  clear HX
  have HX := n_
  clear n_
  refine qP 0 5 ?_
  refine qP 2 7 ?_
  refine qP 3 8 ?_
  refine qP 4 9 ?_
  refine qT 1 6 hs ?_
  refine qT 5 10 hs ?_
  refine qP 6 11 ?_
  refine q1 7 12 (fun K hK => ?_)
  refine qC Tryz.func47 _ ?_
  refine (iIn1 _ _ _ _).mono ?_
  intro e w2 h2
  obtain ⟨rfl, hb⟩ := h2.yes K1.out
  have n_ := Aside0.mk (below_step HB.out hb)
  clear HB
  have HB := n_
  clear n_
  have n_ := Aside0.mk (blk_below HX.out hb)
  clear HX
  have HX := n_
  clear n_
  refine ⟨_, rfl, hK.out _ _ ⟨pw_cell_below hb hs.1, pw_cell_below hb hs.2.1, pw_cell_below hb hs.2.2.1, pw_cell_below hb hs.2.2.2.1, pw_cell_below hb hs.2.2.2.2.1, pw_cell_below hb hs.2.2.2.2.2⟩ (fun hs2 => ?_)⟩
  clear hK K hs hb
  have hs := hs2
  clear hs2
  refine qN ?_
  refine qP 8 13 ?_
  refine qP 9 14 ?_
  refine qP 10 15 ?_
  refine qT 11 16 hs ?_
  refine q1 12 17 (fun K hK => ?_)
  refine qC Tryz.func113 _ ?_
  refine (iTime1 _ _).mono ?_
  intro e w2 h2
  obtain ⟨rfl, hb⟩ := h2.yes K2.out
  have n_ := Aside0.mk (below_step HB.out hb)
  clear HB
  have HB := n_
  clear n_
  have n_ := Aside0.mk (blk_below HX.out hb)
  clear HX
  have HX := n_
  clear n_
  refine ⟨_, rfl, hK.out _ _ ⟨pw_cell_below hb hs.1, pw_cell_below hb hs.2.1, pw_cell_below hb hs.2.2.1, pw_cell_below hb hs.2.2.2.1, pw_cell_below hb hs.2.2.2.2.1, pw_cell_below hb hs.2.2.2.2.2⟩ (fun hs2 => ?_)⟩
  clear hK K hs hb
  have hs := hs2
  clear hs2
  refine qN ?_
  refine qP 13 18 ?_
  refine qP 14 19 ?_
  refine qP 15 20 ?_
  refine qP 16 21 ?_
  refine qT 17 22 hs ?_
  refine q1 18 23 (fun K hK => ?_)
  refine qC Tryz.func47 _ ?_
  refine (iIn1 _ _ _ _).mono ?_
  intro e w2 h2
  obtain ⟨rfl, hb⟩ := h2.yes K3.out
  have n_ := Aside0.mk (below_step HB.out hb)
  clear HB
  have HB := n_
  clear n_
  have n_ := Aside0.mk (blk_below HX.out hb)
  clear HX
  have HX := n_
  clear n_
  refine ⟨_, rfl, hK.out _ _ ⟨pw_cell_below hb hs.1, pw_cell_below hb hs.2.1, pw_cell_below hb hs.2.2.1, pw_cell_below hb hs.2.2.2.1, pw_cell_below hb hs.2.2.2.2.1, pw_cell_below hb hs.2.2.2.2.2⟩ (fun hs2 => ?_)⟩
  clear hK K hs hb
  have hs := hs2
  clear hs2
  refine qN ?_
  refine qP 19 24 ?_
  refine qP 20 25 ?_
  refine qD ?_
  clear hs
  clear hg2 hw1
  have HP := Aside0.mk True.intro
  have hx := blk_cell HX.out
  have hzr := blk_lt HX.out
  rcases bool_em r.f4 with k4 | k4
  · have K4 := Aside0.mk k4
    rw [k4] at hx HX
    clear k4
    go_wp2_with (first
      | (go_at_call 47; refine (iIn1 _ _ _ _).mono ?_; rintro e w2 (⟨rfl, hr, hb⟩ | ⟨rfl, hr, hb⟩) <;> (have n_ := Aside0.mk (And.intro hr HP.out); clear HP hr; have HP := n_; clear n_; have n_ := Aside0.mk (below_step (w := w) (by repeat' (with_reducible first | exact HB.out | apply below_alloc | apply below_drew1 | refine below_set ?_ (by omega))) hb); clear HB; have HB := n_; clear n_; have n_ := Aside0.mk (blk_below (g := w.heap.size) (o := .cells #[.int .i64 r.f0, .int .i64 r.f1, .int .i64 r.f2, .int .i64 r.f3, .bool true] 83 (0, 0)) (by repeat' (with_reducible first | exact HX.out | exact blk_new _ _ | refine blk_alloc ?_ _ | refine blk_drew ?_ | refine blk_far ?_ (by dsimp only; omega) _)) hb); (try clear HX); have HX := n_; clear n_; obtain ⟨hc, hf⟩ := bcell hb; have hz : w.heap.size < w2.heap.size := blk_lt HX.out; clear hb)))
    · go_ret
      exact .inl ⟨rfl, ⟨K1.out, K2.out, K3.out, fun _ => HP.out.1, fun h => absurd (K4.out.symm.trans h) (by decide)⟩, HB.out⟩
    · go_ret
      exact .inr ⟨rfl, fun h => HP.out.1 (h.2.2.2.1 K4.out), HB.out⟩
  · have K4 := Aside0.mk k4
    rw [k4] at hx HX
    clear k4
    rcases beq_em r.f2 0 with ⟨b5, k5⟩ | ⟨b5, k5⟩
    · go_wp2
      go_ret
      exact IsB.of rfl (by rw [beq_iff_eq]; exact ⟨fun h => ⟨K1.out, K2.out, K3.out, fun h4 => absurd (K4.out.symm.trans h4) (by decide), fun _ => ⟨k5.out, h⟩⟩, fun h => (h.2.2.2.2 K4.out).2⟩) HB.out
    · go_wp2
      go_ret
      exact .inr ⟨rfl, fun h => k5.out (h.2.2.2.2 K4.out).1, HB.out⟩
set_option maxHeartbeats 8000000 in
set_option maxRecDepth 100000 in
theorem iRecordN (B0 B1 B2 B3 : Option Addr) (d0 d1 d2 d3 : Nat) (us : List S92) (ss : List S76) (fs : List S81) (rs : List S83) (nx : Int) (gg : Nat) (r : S83) (w : World) (hy : w.heap[gg]? = some (.cells #[.slice B0 us.length d0, .slice B1 ss.length d1, .slice B2 fs.length d2, .slice B3 rs.length d3, .int .i64 nx] 48 (0, 0))) (n0 : 1 ≤ nx) (n1 : nx ≤ 10000) : Calls Tryz.prog 54 #[.agg #[.int .i64 r.f0, .int .i64 r.f1, .int .i64 r.f2, .int .i64 r.f3, .bool r.f4], .pointer (some ⟨gg, 0, none⟩)] w (IsB (¬ RecordP nx r) w) := by
  have hu := Tryz.underlying83
  have H0 := Aside0.mk hy
  clear hy
  have HB := Aside0.mk (Below.refl w.heap.size w)
  have HP := Aside0.mk True.intro
  go_enter Tryz.func54, Tryz.ntmps54
  go_wp2_with (first
    | (go_at_call 55; refine (iRecord1 B0 B1 B2 B3 d0 d1 d2 d3 us ss fs rs nx gg r _ (blk_below H0.out (below_alloc (Below.refl _ _) _)) n0 n1).mono ?_; rintro e w2 (⟨rfl, hr, hb⟩ | ⟨rfl, hr, hb⟩) <;> (have n_ := Aside0.mk (And.intro hr HP.out); clear HP hr; have HP := n_; clear n_; have n_ := Aside0.mk (below_step (w := w) (by repeat' (with_reducible first | exact HB.out | apply below_alloc | apply below_drew1 | refine below_set ?_ (by omega))) hb); clear HB; have HB := n_; clear n_; clear hb)))
  · go_ret
    exact .inr ⟨rfl, fun h => h HP.out.1, HB.out⟩
  · go_ret
    exact .inl ⟨rfl, HP.out.1, HB.out⟩
end
section
-- NEEDS laws.eqConfig
def SessUpP (ss : List S76) (i : Int) : Prop := 0 < i → (rd_T76 ss (i - 1)).f0 < (rd_T76 ss i).f0
def ApartP (ss : List S76) (i : Int) : Prop := ¬ ∃ x ∈ ss.take i.toNat, ClashP (rd_T76 ss i) x
def FailUpP (fs : List S81) (i : Int) : Prop := 0 < i → Op.bytesLess (rd_T81 fs (i - 1)).f0.toList (rd_T81 fs i).f0.toList = true
def GuestsP (ip b gate : Int) (gm wm : ByteArray) (res : Int) (g : List S140) (l : List S145) (us : List S92) (ss : List S76) (fs : List S81) (rs : List S83) (nx : Int) : Prop :=
  ConfigP ip b gate gm wm res g l ∧ UsersP l us ∧ ss.length ≤ 3 ∧ fs.length ≤ 20 ∧ rs.length ≤ 60 ∧ (1 ≤ nx ∧ nx ≤ 10000) ∧ (∀ x ∈ ss, SessionP ip b nx us.length x) ∧ (∀ i : Int, 0 ≤ i → i < ss.length → SessUpP ss i ∧ ApartP ss i) ∧ (∀ x ∈ fs, FailP x) ∧ (∀ i : Int, 0 ≤ i → i < fs.length → FailUpP fs i) ∧ (∀ x ∈ rs, RecordP nx x)
theorem netbits {ip b : Int} (h : NetP ip b) : 0 ≤ b ∧ b ≤ 32 := h.2.1
end
section
-- NEEDS impl.ConfigOK laws.eqConfig spec.ConfigOK
attribute [local go_sem] str_geq str_lss
set_option maxHeartbeats 8000000 in
set_option maxRecDepth 100000 in
theorem iConfig1 (ip b gate : Int) (gm wm : ByteArray) (res : Int) (A6 : Option Addr) (c6 : Nat) (g : List S140) (A7 : Option Addr) (c7 : Nat) (l : List S145) (w : World) (hg : Kd.C k140 w A6 g.length g) (hl : Kd.C k145 w A7 l.length l) (zg : g.length ≤ 1152921504606846976) (zl : l.length ≤ 1152921504606846976) (zr : ∀ x ∈ l, x.f1.length ≤ 1152921504606846976 ∧ x.f0.size ≤ 1152921504606846976) (zm : gm.size ≤ 1152921504606846976) (zw : wm.size ≤ 1152921504606846976) :
    Calls Tryz.prog 46 #[.agg #[.int .i64 ip, .int .i64 b, .int .i64 gate, .string gm, .string wm, .int .i64 res, .slice A6 g.length c6, .slice A7 l.length c7]] w (IsB (ConfigP ip b gate gm wm res g l) w) := by
  have hu := Tryz.underlying41
  have hu2 := Tryz.underlying145
  have H0 := Aside0.mk (And.intro hg hl)
  have HZ := Aside0.mk zr
  clear hg hl zr
  have eg := enters_ Tryz.func105 (by kernel_rfl) rfl
  have HB := Aside0.mk (Below.refl w.heap.size w)
  have HP := Aside0.mk True.intro
  rcases dec_em (8 < (g.length : Int)) with ⟨k1, b1⟩ | ⟨k1, b1⟩
  all_goals go_enter Tryz.func46, Tryz.ntmps46
  all_goals go_wp2_with (first
   | (go_at_call 100; refine (iNet1 _ _ _).mono ?_; rintro e w2 (⟨rfl, hr, hb⟩ | ⟨rfl, hr, hb⟩); (obtain ⟨hk0, hk1⟩ := NetP.bits hr); all_goals (have n_ := Aside0.mk (And.intro hr HP.out); clear HP hr; have HP := n_; clear n_; have n_ := Aside0.mk (below_step (w := w) (by repeat' (with_reducible first | exact HB.out | apply below_alloc | apply below_drew1 | refine below_set ?_ (by omega))) hb); clear HB; have HB := n_; clear n_; have n_ := Aside0.mk (blk_below (g := w.heap.size) (o := .cells #[.int .i64 ip, .int .i64 b, .int .i64 gate, .string gm, .string wm, .int .i64 res, .slice A6 g.length c6, .slice A7 l.length c7] 41 (0, 0)) (by repeat' (with_reducible first | exact HX.out | exact blk_new _ _ | refine blk_alloc ?_ _ | refine blk_drew ?_ | refine blk_far ?_ (by dsimp only; omega) _)) hb); (try clear HX); have HX := n_; clear n_; obtain ⟨hc, hf⟩ := bcell hb; have hz : w.heap.size < w2.heap.size := blk_lt HX.out; clear hb))
   | (go_at_call 101; refine (iIp1 _ _).mono ?_; rintro e w2 (⟨rfl, hr, hb⟩ | ⟨rfl, hr, hb⟩) <;> (have n_ := Aside0.mk (And.intro hr HP.out); clear HP hr; have HP := n_; clear n_; have n_ := Aside0.mk (below_step (w := w) (by repeat' (with_reducible first | exact HB.out | apply below_alloc | apply below_drew1 | refine below_set ?_ (by omega))) hb); clear HB; have HB := n_; clear n_; have n_ := Aside0.mk (blk_below (g := w.heap.size) (o := .cells #[.int .i64 ip, .int .i64 b, .int .i64 gate, .string gm, .string wm, .int .i64 res, .slice A6 g.length c6, .slice A7 l.length c7] 41 (0, 0)) (by repeat' (with_reducible first | exact HX.out | exact blk_new _ _ | refine blk_alloc ?_ _ | refine blk_drew ?_ | refine blk_far ?_ (by dsimp only; omega) _)) hb); (try clear HX); have HX := n_; clear n_; obtain ⟨hc, hf⟩ := bcell hb; have hz : w.heap.size < w2.heap.size := blk_lt HX.out; clear hb))
   | (go_at_call 102; refine (iHas1 _ _ _ _ hk0 hk1).mono ?_; rintro e w2 (⟨rfl, hr, hb⟩ | ⟨rfl, hr, hb⟩) <;> (have n_ := Aside0.mk (And.intro hr HP.out); clear HP hr; have HP := n_; clear n_; have n_ := Aside0.mk (below_step (w := w) (by repeat' (with_reducible first | exact HB.out | apply below_alloc | apply below_drew1 | refine below_set ?_ (by omega))) hb); clear HB; have HB := n_; clear n_; have n_ := Aside0.mk (blk_below (g := w.heap.size) (o := .cells #[.int .i64 ip, .int .i64 b, .int .i64 gate, .string gm, .string wm, .int .i64 res, .slice A6 g.length c6, .slice A7 l.length c7] 41 (0, 0)) (by repeat' (with_reducible first | exact HX.out | exact blk_new _ _ | refine blk_alloc ?_ _ | refine blk_drew ?_ | refine blk_far ?_ (by dsimp only; omega) _)) hb); (try clear HX); have HX := n_; clear n_; obtain ⟨hc, hf⟩ := bcell hb; have hz : w.heap.size < w2.heap.size := blk_lt HX.out; clear hb))
   | (go_at_call 103; refine (iMac1 gm _ zm).mono ?_; rintro e w2 (⟨rfl, hr, hb⟩ | ⟨rfl, hr, hb⟩) <;> (have n_ := Aside0.mk (And.intro hr HP.out); clear HP hr; have HP := n_; clear n_; have n_ := Aside0.mk (below_step (w := w) (by repeat' (with_reducible first | exact HB.out | apply below_alloc | apply below_drew1 | refine below_set ?_ (by omega))) hb); clear HB; have HB := n_; clear n_; have n_ := Aside0.mk (blk_below (g := w.heap.size) (o := .cells #[.int .i64 ip, .int .i64 b, .int .i64 gate, .string gm, .string wm, .int .i64 res, .slice A6 g.length c6, .slice A7 l.length c7] 41 (0, 0)) (by repeat' (with_reducible first | exact HX.out | exact blk_new _ _ | refine blk_alloc ?_ _ | refine blk_drew ?_ | refine blk_far ?_ (by dsimp only; omega) _)) hb); (try clear HX); have HX := n_; clear n_; obtain ⟨hc, hf⟩ := bcell hb; have hz : w.heap.size < w2.heap.size := blk_lt HX.out; clear hb))
   | (go_at_call 103; refine (iMac1 wm _ zw).mono ?_; rintro e w2 (⟨rfl, hr, hb⟩ | ⟨rfl, hr, hb⟩) <;> (have n_ := Aside0.mk (And.intro hr HP.out); clear HP hr; have HP := n_; clear n_; have n_ := Aside0.mk (below_step (w := w) (by repeat' (with_reducible first | exact HB.out | apply below_alloc | apply below_drew1 | refine below_set ?_ (by omega))) hb); clear HB; have HB := n_; clear n_; have n_ := Aside0.mk (blk_below (g := w.heap.size) (o := .cells #[.int .i64 ip, .int .i64 b, .int .i64 gate, .string gm, .string wm, .int .i64 res, .slice A6 g.length c6, .slice A7 l.length c7] 41 (0, 0)) (by repeat' (with_reducible first | exact HX.out | exact blk_new _ _ | refine blk_alloc ?_ _ | refine blk_drew ?_ | refine blk_far ?_ (by dsimp only; omega) _)) hb); (try clear HX); have HX := n_; clear n_; obtain ⟨hc, hf⟩ := bcell hb; have hz : w.heap.size < w2.heap.size := blk_lt HX.out; clear hb))
   | (go_at_call 47; refine (iIn1 _ _ _ _).mono ?_; rintro e w2 (⟨rfl, hr, hb⟩ | ⟨rfl, hr, hb⟩) <;> (have n_ := Aside0.mk (And.intro hr HP.out); clear HP hr; have HP := n_; clear n_; have n_ := Aside0.mk (below_step (w := w) (by repeat' (with_reducible first | exact HB.out | apply below_alloc | apply below_drew1 | refine below_set ?_ (by omega))) hb); clear HB; have HB := n_; clear n_; have n_ := Aside0.mk (blk_below (g := w.heap.size) (o := .cells #[.int .i64 ip, .int .i64 b, .int .i64 gate, .string gm, .string wm, .int .i64 res, .slice A6 g.length c6, .slice A7 l.length c7] 41 (0, 0)) (by repeat' (with_reducible first | exact HX.out | exact blk_new _ _ | refine blk_alloc ?_ _ | refine blk_drew ?_ | refine blk_far ?_ (by dsimp only; omega) _)) hb); (try clear HX); have HX := n_; clear n_; obtain ⟨hc, hf⟩ := bcell hb; have hz : w.heap.size < w2.heap.size := blk_lt HX.out; clear hb))
   | (go_at_call 104; refine (containsPlace 105 #[] eg (fun r => ¬ PlaceP r) A6 c6 g _ zg (fun W x _ _ => iPlaceN x W) (Kd.C_below H0.out.1 (by repeat' (with_reducible first | exact HB.out | apply below_alloc | apply below_drew1 | refine below_set ?_ (by omega))))).mono ?_; rintro e w2 (⟨rfl, hr, hb⟩ | ⟨rfl, hr, hb⟩) <;> (have n_ := Aside0.mk (And.intro hr HP.out); clear HP hr; have HP := n_; clear n_; have n_ := Aside0.mk (below_step (w := w) (by repeat' (with_reducible first | exact HB.out | apply below_alloc | apply below_drew1 | refine below_set ?_ (by omega))) hb); clear HB; have HB := n_; clear n_; have n_ := Aside0.mk (blk_below (g := w.heap.size) (o := .cells #[.int .i64 ip, .int .i64 b, .int .i64 gate, .string gm, .string wm, .int .i64 res, .slice A6 g.length c6, .slice A7 l.length c7] 41 (0, 0)) (by repeat' (with_reducible first | exact HX.out | exact blk_new _ _ | refine blk_alloc ?_ _ | refine blk_drew ?_ | refine blk_far ?_ (by dsimp only; omega) _)) hb); (try clear HX); have HX := n_; clear n_; obtain ⟨hc, hf⟩ := bcell hb; have hz : w.heap.size < w2.heap.size := blk_lt HX.out; clear hb)))
  all_goals try (go_ret; exact .inr ⟨rfl, by rintro ⟨p1, p2, p3, p4, p5, p6, p7, p8, p9, p10, p11, p12⟩; first | exact HP.out.1 p1 | exact HP.out.1 p2 | exact HP.out.1 p3 | exact HP.out.1 p4 | exact HP.out.1 p5 | exact HP.out.1 p6 | exact p7 HP.out.1 | exact HP.out.1 p9 | omega | (obtain ⟨r, hr, hn⟩ := HP.out.1; exact hn (p10 r hr)), HB.out⟩; done)
  (try clear hc hf hz)
  have HQ := HP
  clear HP
  obtain ⟨ad0, hA7⟩ : ∃ x : Option Addr, x = A7 := ⟨_, rfl⟩
  go_loopg [67] l.length (fun gg v w' => ∃ i : Int, v = .int .i64 i ∧ 0 ≤ i ∧ i ≤ l.length ∧ l.length - i ≤ gg ∧ Aside0 (Below w.heap.size w w') ∧ Aside0 (w'.heap[w.heap.size]? = some (.cells #[.int .i64 ip, .int .i64 b, .int .i64 gate, .string gm, .string wm, .int .i64 res, .slice A6 g.length c6, .slice A7 l.length c7] 41 (0, 0))) ∧ Aside0 (∀ j : Int, 0 ≤ j → j < i → RoleP (l.getD j.toNat z145)) ∧ Aside0 (∀ j : Int, 0 ≤ j → j < i → RisesP l j))
  case atStart => exact ⟨0, rfl, Int.le_refl _, by omega, by omega, HB, HX, ⟨fun j h0 h1 => by omega⟩, ⟨fun j h0 h1 => by omega⟩⟩
  case round =>
    clear HB HX hA7
    obtain ⟨i, rfl, hi0, hi, hgg, HB, HX, HA, HS⟩ := hrel
    have hx := blk_cell HX.out
    have hzr := blk_lt HX.out
    by_cases hlt : i < l.length
    · obtain ⟨ad, aA, aC, eA, r0, r1, r2, r3, r4, al, ak⟩ := at_T145 (Kd.C_below H0.out.2 HB.out) i hi0 hlt
      have HK := Aside0.mk ak
      have HM := Aside0.mk (HZ.out _ (rdmem (z := z145) hi0 hlt))
      clear al ak
      have hb7 : wr.cell? ⟨w.heap.size, 7, none⟩ = some (.slice (some ad) l.length c7) := by rw [← eA]; exact hx 7
      rcases Classical.em (RoleP (rd_T145 l i)) with k1 | k1
      rotate_left
      · have K1 := Aside0.mk k1
        clear k1
        subst eA
        go_wp2
        generalize hW : wr.alloc (.cells #[.string (rd_T145 l i).f0, .slice aA (rd_T145 l i).f1.length aC, .int .i64 (rd_T145 l i).f2, .int .i64 (rd_T145 l i).f3, .int .i64 (rd_T145 l i).f4] 145 (0, 0)) = W0 at *
        have hB0 : Below wr.heap.size wr W0 := by rw [← hW]; exact below_alloc (Below.refl _ _) _
        have hr : W0.heap[wr.heap.size]? = some (.cells #[.string (rd_T145 l i).f0, .slice aA (rd_T145 l i).f1.length aC, .int .i64 (rd_T145 l i).f2, .int .i64 (rd_T145 l i).f3, .int .i64 (rd_T145 l i).f4] 145 (0, 0)) := by rw [← hW]; exact blk_new _ _
        replace hb7 := pw_cell_below hB0 hb7
        refine qS (fun w' => w'.cell? ⟨w.heap.size, 7, none⟩ = some (.slice (some ad) l.length c7) ∧ w'.cell? ⟨wr.heap.size, 0, none⟩ = some (.string (rd_T145 l i).f0) ∧ w'.cell? ⟨wr.heap.size, 1, none⟩ = some (.slice aA (rd_T145 l i).f1.length aC) ∧ w'.cell? ⟨wr.heap.size, 2, none⟩ = some (.int .i64 (rd_T145 l i).f2) ∧ w'.cell? ⟨wr.heap.size, 3, none⟩ = some (.int .i64 (rd_T145 l i).f3) ∧ w'.cell? ⟨wr.heap.size, 4, none⟩ = some (.int .i64 (rd_T145 l i).f4)) 19 ⟨hb7, blk_cell hr 0, blk_cell hr 1, blk_cell hr 2, blk_cell hr 3, blk_cell hr 4⟩ (fun hs => ?_)
        refine qT 0 72 hs ?_
        refine q1 1 73 (fun K hK => ?_)
        refine qC Tryz.func107 _ ?_
        refine (iRole1 _ _ _ _ _ _ _ _ (Kd.C_below HK.out (below_drew1 hB0)) HM.out.1 HM.out.2).mono ?_
        intro e w2 h2
        obtain ⟨rfl, hb⟩ := h2.no K1.out
        have hr2 := blk_below (blk_drew hr) hb
        refine ⟨_, rfl, hK.out _ _ ⟨pw_cell_below hb hb7, blk_cell hr2 0, blk_cell hr2 1, blk_cell hr2 2, blk_cell hr2 3, blk_cell hr2 4⟩ (fun hs => ?_)⟩
        clear hK K
        refine qN ?_
        refine qP 2 74 ?_
        refine qP 3 75 ?_
        refine qU 4 76 ?_
        refine qU 5 77 ?_
        refine qU 6 78 ?_
        refine qU 7 79 ?_
        refine qU 8 80 ?_
        refine qU 9 81 ?_
        refine qU 10 82 ?_
        refine qU 11 83 ?_
        refine qU 12 84 ?_
        refine qU 13 85 ?_
        refine qU 14 86 ?_
        refine qU 15 87 ?_
        refine qU 16 88 ?_
        refine qU 17 89 ?_
        refine qP 18 90 ?_
        refine qD ?_
        have HX2 := Aside0.mk (blk_below (blk_drew (blk_below HX.out hB0)) hb)
        have HB2 := Aside0.mk (below_step (below_drew1 (below_step HB.out hB0)) hb)
        clear hb hx hs hb7 hr hr2 hB0
        go_wp2
        go_ret
        exact .inr ⟨rfl, fun h => K1.out (h.2.2.2.2.2.2.2.2.2.2.1 _ (rdmem hi0 hlt)), HB2.out⟩
      · have K1 := Aside0.mk k1
        clear k1
        rcases dec_em (0 < i) with ⟨k2, b2⟩ | ⟨k2, b2⟩
        rotate_left
        · subst eA
          go_wp2
          generalize hW : wr.alloc (.cells #[.string (rd_T145 l i).f0, .slice aA (rd_T145 l i).f1.length aC, .int .i64 (rd_T145 l i).f2, .int .i64 (rd_T145 l i).f3, .int .i64 (rd_T145 l i).f4] 145 (0, 0)) = W0 at *
          have hB0 : Below wr.heap.size wr W0 := by rw [← hW]; exact below_alloc (Below.refl _ _) _
          have hr : W0.heap[wr.heap.size]? = some (.cells #[.string (rd_T145 l i).f0, .slice aA (rd_T145 l i).f1.length aC, .int .i64 (rd_T145 l i).f2, .int .i64 (rd_T145 l i).f3, .int .i64 (rd_T145 l i).f4] 145 (0, 0)) := by rw [← hW]; exact blk_new _ _
          replace hb7 := pw_cell_below hB0 hb7
          refine qS (fun w' => w'.cell? ⟨w.heap.size, 7, none⟩ = some (.slice (some ad) l.length c7) ∧ w'.cell? ⟨wr.heap.size, 0, none⟩ = some (.string (rd_T145 l i).f0) ∧ w'.cell? ⟨wr.heap.size, 1, none⟩ = some (.slice aA (rd_T145 l i).f1.length aC) ∧ w'.cell? ⟨wr.heap.size, 2, none⟩ = some (.int .i64 (rd_T145 l i).f2) ∧ w'.cell? ⟨wr.heap.size, 3, none⟩ = some (.int .i64 (rd_T145 l i).f3) ∧ w'.cell? ⟨wr.heap.size, 4, none⟩ = some (.int .i64 (rd_T145 l i).f4)) 19 ⟨hb7, blk_cell hr 0, blk_cell hr 1, blk_cell hr 2, blk_cell hr 3, blk_cell hr 4⟩ (fun hs => ?_)
          refine qT 0 72 hs ?_
          refine q1 1 73 (fun K hK => ?_)
          refine qC Tryz.func107 _ ?_
          refine (iRole1 _ _ _ _ _ _ _ _ (Kd.C_below HK.out (below_drew1 hB0)) HM.out.1 HM.out.2).mono ?_
          intro e w2 h2
          obtain ⟨rfl, hb⟩ := h2.yes K1.out
          have hr2 := blk_below (blk_drew hr) hb
          refine ⟨_, rfl, hK.out _ _ ⟨pw_cell_below hb hb7, blk_cell hr2 0, blk_cell hr2 1, blk_cell hr2 2, blk_cell hr2 3, blk_cell hr2 4⟩ (fun hs => ?_)⟩
          clear hK K
          refine qN ?_
          refine qP 2 74 ?_
          refine qP 3 75 ?_
          refine qP 4 76 ?_
          refine qP 5 77 ?_
          refine qP 6 78 ?_
          refine qU 7 79 ?_
          refine qU 8 80 ?_
          refine qU 9 81 ?_
          refine qU 10 82 ?_
          refine qU 11 83 ?_
          refine qU 12 84 ?_
          refine qU 13 85 ?_
          refine qU 14 86 ?_
          refine qU 15 87 ?_
          refine qU 16 88 ?_
          refine qP 17 89 ?_
          refine qP 18 90 ?_
          refine qD ?_
          have HX2 := Aside0.mk (blk_below (blk_drew (blk_below HX.out hB0)) hb)
          have HB2 := Aside0.mk (below_step (below_drew1 (below_step HB.out hB0)) hb)
          clear hb hx hs hb7 hr hr2 hB0
          go_wp2
          go_roundg (l.length - (i + 1)).toNat
          case measure => omega
          case rel => exact ⟨i + 1, rfl, by omega, by omega, by omega, HB2, HX2, ⟨fun j h0 h1 => by
            by_cases hj : j < i
            · exact HA.out j h0 hj
            · obtain rfl : j = i := by omega
              exact K1.out⟩, ⟨fun j h0 h1 => by
            by_cases hj : j < i
            · exact HS.out j h0 hj
            · intro h2; omega⟩⟩
        · obtain ⟨pd, pA, pC, eP, q0, _⟩ := at_T145 (Kd.C_below H0.out.2 HB.out) (i - 1) (by omega) (by omega)
          obtain rfl : ad = pd := Option.some.inj (eA.symm.trans eP)
          have hwr : IntKind.i64.wrap (i - 1) = i - 1 := i64id (by omega) (by omega)
          have h1m : 1 ≤ i := by omega
          have h2m : i - 1 < (l.length : Int) := by omega
          rw [show (i - 1).toNat = i.toNat - 1 by omega] at q0
          subst eA
          clear eP
          rcases bool_em (Op.bytesLess (rd_T145 l (i - 1)).f0.toList (rd_T145 l i).f0.toList) with k3 | k3
          all_goals
            go_wp2
            generalize hW : wr.alloc (.cells #[.string (rd_T145 l i).f0, .slice aA (rd_T145 l i).f1.length aC, .int .i64 (rd_T145 l i).f2, .int .i64 (rd_T145 l i).f3, .int .i64 (rd_T145 l i).f4] 145 (0, 0)) = W0 at *
            have hB0 : Below wr.heap.size wr W0 := by rw [← hW]; exact below_alloc (Below.refl _ _) _
            have hr : W0.heap[wr.heap.size]? = some (.cells #[.string (rd_T145 l i).f0, .slice aA (rd_T145 l i).f1.length aC, .int .i64 (rd_T145 l i).f2, .int .i64 (rd_T145 l i).f3, .int .i64 (rd_T145 l i).f4] 145 (0, 0)) := by rw [← hW]; exact blk_new _ _
            replace hb7 := pw_cell_below hB0 hb7
            replace q0 := pw_cell_below hB0 q0
            refine qS (fun w' => w'.cell? ⟨w.heap.size, 7, none⟩ = some (.slice (some ad) l.length c7) ∧ w'.cell? ⟨wr.heap.size, 0, none⟩ = some (.string (rd_T145 l i).f0) ∧ w'.cell? ⟨wr.heap.size, 1, none⟩ = some (.slice aA (rd_T145 l i).f1.length aC) ∧ w'.cell? ⟨wr.heap.size, 2, none⟩ = some (.int .i64 (rd_T145 l i).f2) ∧ w'.cell? ⟨wr.heap.size, 3, none⟩ = some (.int .i64 (rd_T145 l i).f3) ∧ w'.cell? ⟨wr.heap.size, 4, none⟩ = some (.int .i64 (rd_T145 l i).f4) ∧ w'.cell? (ad.add ((i.toNat - 1) * 5)) = some (.string (rd_T145 l (i - 1)).f0)) 19 ⟨hb7, blk_cell hr 0, blk_cell hr 1, blk_cell hr 2, blk_cell hr 3, blk_cell hr 4, q0⟩ (fun hs => ?_)
            refine qT 0 72 hs ?_
            refine q1 1 73 (fun K hK => ?_)
            refine qC Tryz.func107 _ ?_
            refine (iRole1 _ _ _ _ _ _ _ _ (Kd.C_below HK.out (below_drew1 hB0)) HM.out.1 HM.out.2).mono ?_
            intro e w2 h2
            obtain ⟨rfl, hb⟩ := h2.yes K1.out
            have hr2 := blk_below (blk_drew hr) hb
            refine ⟨_, rfl, hK.out _ _ ⟨pw_cell_below hb hb7, blk_cell hr2 0, blk_cell hr2 1, blk_cell hr2 2, blk_cell hr2 3, blk_cell hr2 4, pw_cell_below hb q0⟩ (fun hs => ?_)⟩
            clear hK K
            refine qN ?_
            refine qP 2 74 ?_
            refine qP 3 75 ?_
            refine qP 4 76 ?_
            refine qP 5 77 ?_
            refine qP 6 78 ?_
            refine qP 7 79 ?_
            refine qP 9 81 ?_
            refine qP 10 82 ?_
            refine qP 14 86 ?_
            refine qT 8 80 hs ?_
            refine qP 11 83 ?_
            refine qP 12 84 ?_
            refine qT 13 85 hs ?_
            refine qT 15 87 hs ?_
            refine qP 16 88 ?_
            refine qP 17 89 ?_
            refine qP 18 90 ?_
            refine qD ?_
            have HX2 := Aside0.mk (blk_below (blk_drew (blk_below HX.out hB0)) hb)
            have HB2 := Aside0.mk (below_step (below_drew1 (below_step HB.out hB0)) hb)
            clear hb hx hs hb7 hr hr2 hB0 q0 hwr h1m h2m
            go_wp2
          · have K3 := Aside0.mk k3
            clear k3
            go_roundg (l.length - (i + 1)).toNat
            case measure => omega
            case rel => exact ⟨i + 1, rfl, by omega, by omega, by omega, HB2, HX2, ⟨fun j h0 h1 => by
              by_cases hj : j < i
              · exact HA.out j h0 hj
              · obtain rfl : j = i := by omega
                exact K1.out⟩, ⟨fun j h0 h1 => by
              by_cases hj : j < i
              · exact HS.out j h0 hj
              · obtain rfl : j = i := by omega
                exact fun _ => K3.out⟩⟩
          · go_ret
            exact .inr ⟨rfl, fun h => absurd (h.2.2.2.2.2.2.2.2.2.2.2 i hi0 hlt k2) (by rw [k3]; decide), HB2.out⟩
    · obtain rfl : i = l.length := by omega
      go_wp2
      go_ret
      exact .inl ⟨rfl, ⟨HQ.out.2.2.2.2.2.2.2.2.1, HQ.out.2.2.2.2.2.2.2.1, HQ.out.2.2.2.2.2.2.1, HQ.out.2.2.2.1, HQ.out.2.2.1, HQ.out.2.2.2.2.2.1, HQ.out.2.2.2.2.1, by omega, HQ.out.2.1, fun x hx => Classical.byContradiction fun hn => HQ.out.1 ⟨x, hx, hn⟩, all_of rfl HA.out, HS.out⟩, HB.out⟩
end
end Go.Proofs.YtkklokkldgkacaaGreat.X
