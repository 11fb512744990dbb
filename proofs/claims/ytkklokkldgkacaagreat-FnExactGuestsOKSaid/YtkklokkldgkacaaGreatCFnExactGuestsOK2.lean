/- Texts that the row of FnExactGuestsOK stands on: functions of the program and of the reference, each as a Lean function with the same answers, and the plain lemmas. Conditions: none beside those that each theorem names. -/
import Derived.Test.YtkklokkldgkacaaGreatCFnExactGuestsOK1
namespace Go.Proofs.YtkklokkldgkacaaGreat.X
open Go.RowKit Go.Proofs.YtkklokkldgkacaaGreatW.PrintWords Go.Proofs.YtkklokkldgkacaaGreatW.PrintLast Go.Proofs.YtkklokkldgkacaaGreatW.PrintMore
attribute [local go_sem] max2_int min2_int max_two min_two max_three min_three max_four min_four   -- for this text's walks alone
set_option linter.unusedVariables false
set_option linter.unusedSimpArgs false
section
-- NEEDS laws.eqConfig
def ClashP (s x : S76) : Prop := x.f1 = s.f1 ∨ x.f2.toList = s.f2.toList ∨ x.f3 = s.f3
set_option maxHeartbeats 8000000 in
set_option maxRecDepth 100000 in
theorem iClash1 (s x : S76) (gs : Nat) (w : World) (hx : w.heap[gs]? = some (.cells #[.int .i64 s.f0, .int .i64 s.f1, .string s.f2, .int .i64 s.f3, .int .i64 s.f4, .int .i64 s.f5, .int .i64 s.f6, .int .i64 s.f7, .int .i64 s.f8, .int .i64 s.f9] 76 (0, 0))) : Calls Tryz.prog 50 #[.agg #[.int .i64 x.f0, .int .i64 x.f1, .string x.f2, .int .i64 x.f3, .int .i64 x.f4, .int .i64 x.f5, .int .i64 x.f6, .int .i64 x.f7, .int .i64 x.f8, .int .i64 x.f9], .pointer (some ⟨gs, 0, none⟩)] w (IsB (ClashP s x) w) := by
  have hu := Tryz.underlying76
  have hc := blk_cell hx
  have hlt := blk_lt hx
  clear hx
  rcases beq_em x.f1 s.f1 with ⟨b0, k0⟩ | ⟨b0, k0⟩
  rotate_left
  rcases beq_emS x.f2 s.f2 with ⟨b1, k1⟩ | ⟨b1, k1⟩
  rotate_left
  rcases beq_em x.f3 s.f3 with ⟨b2, k2⟩ | ⟨b2, k2⟩
  all_goals go_enter Tryz.func50, Tryz.ntmps50
  all_goals go_wp2
  all_goals go_ret
  all_goals first
    | exact .inl ⟨rfl, .inr (.inr k2.out), below_alloc (Below.refl _ _) _⟩
    | exact .inl ⟨rfl, .inr (.inl k1.out), below_alloc (Below.refl _ _) _⟩
    | exact .inl ⟨rfl, .inl k0.out, below_alloc (Below.refl _ _) _⟩
    | exact .inr ⟨rfl, fun h => by rcases h with h | h | h; exact k0.out h; exact k1.out h; exact k2.out h, below_alloc (Below.refl _ _) _⟩
set_option maxHeartbeats 8000000 in
set_option maxRecDepth 100000 in
theorem iRecord1 (B0 B1 B2 B3 : Option Addr) (d0 d1 d2 d3 : Nat) (us : List S92) (ss : List S76) (fs : List S81) (rs : List S83) (nx : Int) (gg : Nat) (r : S83) (w : World) (hy : w.heap[gg]? = some (.cells #[.slice B0 us.length d0, .slice B1 ss.length d1, .slice B2 fs.length d2, .slice B3 rs.length d3, .int .i64 nx] 48 (0, 0))) (n0 : 1 ≤ nx) (n1 : nx ≤ 10000) : Calls Tryz.prog 55 #[.pointer (some ⟨gg, 0, none⟩), .agg #[.int .i64 r.f0, .int .i64 r.f1, .int .i64 r.f2, .int .i64 r.f3, .bool r.f4]] w (IsB (RecordP nx r) w) := by
  have hu := Tryz.underlying83
  have hu3 := Tryz.underlying48
  have H0 := Aside0.mk hy
  clear hy
  have hw1 : IntKind.i64.wrap (nx - 1) = nx - 1 := i64id (by omega) (by omega)
  go_enter Tryz.func55, Tryz.ntmps55
  go_wp2
  have HB := Aside0.mk (below_alloc (Below.refl w.heap.size w) (.cells #[.int .i64 r.f0, .int .i64 r.f1, .int .i64 r.f2, .int .i64 r.f3, .bool r.f4] 83 (0, 0)))
  have HX := Aside0.mk (blk_new w (.cells #[.int .i64 r.f0, .int .i64 r.f1, .int .i64 r.f2, .int .i64 r.f3, .bool r.f4] 83 (0, 0)))
  have hg2 := blk_below H0.out HB.out
  generalize hW : w.alloc (.cells #[.int .i64 r.f0, .int .i64 r.f1, .int .i64 r.f2, .int .i64 r.f3, .bool r.f4] 83 (0, 0)) = W0 at *
  clear hW
  rcases Classical.em (1 ≤ r.f0 ∧ r.f0 ≤ nx - 1) with k1 | k1 <;> (have K1 := Aside0.mk k1; clear k1)
  rotate_left
  · refine qS (fun w' => w'.cell? ⟨w.heap.size, 0, none⟩ = some (.int .i64 r.f0) ∧ w'.cell? ⟨w.heap.size, 1, none⟩ = some (.int .i64 r.f1) ∧ w'.cell? ⟨w.heap.size, 2, none⟩ = some (.int .i64 r.f2) ∧ w'.cell? ⟨w.heap.size, 3, none⟩ = some (.int .i64 r.f3) ∧ w'.cell? ⟨w.heap.size, 4, none⟩ = some (.bool r.f4) ∧ w'.cell? ⟨gg, 4, none⟩ = some (.int .i64 nx)) 21 ⟨blk_cell HX.out 0, blk_cell HX.out 1, blk_cell HX.out 2, blk_cell HX.out 3, blk_cell HX.out 4, blk_cell hg2 4⟩ (fun hs => ?_)
    have n_ := Aside0.mk (below_drew1 HB.out)
    clear HB
    have HB := n_
    clear n_
    have n_ := Aside0.mk (blk_drew HX.out)
    clear HX
    have HX := n_
    clear n_
    refine qP 0 5 ?_
    refine qP 2 7 ?_
    refine qP 3 8 ?_
    refine qP 4 9 ?_
    refine qT 1 6 hs ?_
    refine qT 5 10 hs ?_
    refine qP 6 11 ?_
    refine q1 7 12 (fun K hK => ?_)
    refine qC Tryz.func47 _ ?_
    refine (iIn1 _ _ _ _).mono ?_
    intro e w2 h2
    obtain ⟨rfl, hb⟩ := h2.no K1.out
    have n_ := Aside0.mk (below_step HB.out hb)
    clear HB
    have HB := n_
    clear n_
    have n_ := Aside0.mk (blk_below HX.out hb)
    clear HX
    have HX := n_
    clear n_
    refine ⟨_, rfl, hK.out _ _ ⟨pw_cell_below hb hs.1, pw_cell_below hb hs.2.1, pw_cell_below hb hs.2.2.1, pw_cell_below hb hs.2.2.2.1, pw_cell_below hb hs.2.2.2.2.1, pw_cell_below hb hs.2.2.2.2.2⟩ (fun hs2 => ?_)⟩
    clear hK K hs hb
    have hs := hs2
    clear hs2
    refine qN ?_
    refine qP 8 13 ?_
    refine qP 9 14 ?_
    refine qU 10 15 ?_
    refine qU 11 16 ?_
    refine qU 12 17 ?_
    refine qU 13 18 ?_
    refine qP 14 19 ?_
    refine qP 15 20 ?_
    refine qU 16 21 ?_
    refine qU 17 22 ?_
    refine qU 18 23 ?_
    refine qU 19 24 ?_
    refine qP 20 25 ?_
    refine qD ?_
    clear hs
    clear hg2 hw1
    go_wp2
    go_ret
    exact .inr ⟨rfl, fun h => K1.out h.1, HB.out⟩
  rcases Classical.em (0 ≤ r.f1 ∧ r.f1 ≤ 100000) with k2 | k2 <;> (have K2 := Aside0.mk k2; clear k2)
  rotate_left
  · refine qS (fun w' => w'.cell? ⟨w.heap.size, 0, none⟩ = some (.int .i64 r.f0) ∧ w'.cell? ⟨w.heap.size, 1, none⟩ = some (.int .i64 r.f1) ∧ w'.cell? ⟨w.heap.size, 2, none⟩ = some (.int .i64 r.f2) ∧ w'.cell? ⟨w.heap.size, 3, none⟩ = some (.int .i64 r.f3) ∧ w'.cell? ⟨w.heap.size, 4, none⟩ = some (.bool r.f4) ∧ w'.cell? ⟨gg, 4, none⟩ = some (.int .i64 nx)) 21 ⟨blk_cell HX.out 0, blk_cell HX.out 1, blk_cell HX.out 2, blk_cell HX.out 3, blk_cell HX.out 4, blk_cell hg2 4⟩ (fun hs => ?_)
    have n_ := Aside0.mk (below_drew1 HB.out)
    clear HB
    have HB := n_
    clear n_
    have n_ := Aside0.mk (blk_drew HX.out)
    clear HX
    have HX := n_
    clear n_
    refine qP 0 5 ?_
    refine qP 2 7 ?_
    refine qP 3 8 ?_
    refine qP 4 9 ?_
    refine qT 1 6 hs ?_
    refine qT 5 10 hs ?_
    refine qP 6 11 ?_
    refine q1 7 12 (fun K hK => ?_)
    refine qC Tryz.func47 _ ?_
    refine (iIn1 _ _ _ _).mono ?_
    intro e w2 h2
    obtain ⟨rfl, hb⟩ := h2.yes K1.out
    have n_ := Aside0.mk (below_step HB.out hb)
    clear HB
    have HB := n_
    clear n_
    have n_ := Aside0.mk (blk_below HX.out hb)
    clear HX
    have HX := n_
    clear n_
    refine ⟨_, rfl, hK.out _ _ ⟨pw_cell_below hb hs.1, pw_cell_below hb hs.2.1, pw_cell_below hb hs.2.2.1, pw_cell_below hb hs.2.2.2.1, pw_cell_below hb hs.2.2.2.2.1, pw_cell_below hb hs.2.2.2.2.2⟩ (fun hs2 => ?_)⟩
    clear hK K hs hb
    have hs := hs2
    clear hs2
    refine qN ?_
    refine qP 8 13 ?_
    refine qP 9 14 ?_
    refine qP 10 15 ?_
    refine qT 11 16 hs ?_
    refine q1 12 17 (fun K hK => ?_)
    refine qC Tryz.func113 _ ?_
    refine (iTime1 _ _).mono ?_
    intro e w2 h2
    obtain ⟨rfl, hb⟩ := h2.no K2.out
    have n_ := Aside0.mk (below_step HB.out hb)
    clear HB
    have HB := n_
    clear n_
    have n_ := Aside0.mk (blk_below HX.out hb)
    clear HX
    have HX := n_
    clear n_
    refine ⟨_, rfl, hK.out _ _ ⟨pw_cell_below hb hs.1, pw_cell_below hb hs.2.1, pw_cell_below hb hs.2.2.1, pw_cell_below hb hs.2.2.2.1, pw_cell_below hb hs.2.2.2.2.1, pw_cell_below hb hs.2.2.2.2.2⟩ (fun hs2 => ?_)⟩
    clear hK K hs hb
    have hs := hs2
    clear hs2
    refine qN ?_
    refine qP 13 18 ?_
    refine qP 14 19 ?_
    refine qP 15 20 ?_
    refine qU 16 21 ?_
    refine qU 17 22 ?_
    refine qU 18 23 ?_
    refine qU 19 24 ?_
    refine qP 20 25 ?_
    refine qD ?_
    clear hs
    clear hg2 hw1
    go_wp2
    go_ret
    exact .inr ⟨rfl, fun h => K2.out h.2.1, HB.out⟩
  rcases Classical.em (0 ≤ r.f3 ∧ r.f3 ≤ 1000000) with k3 | k3 <;> (have K3 := Aside0.mk k3; clear k3)
  rotate_left
  · refine qS (fun w' => w'.cell? ⟨w.heap.size, 0, none⟩ = some (.int .i64 r.f0) ∧ w'.cell? ⟨w.heap.size, 1, none⟩ = some (.int .i64 r.f1) ∧ w'.cell? ⟨w.heap.size, 2, none⟩ = some (.int .i64 r.f2) ∧ w'.cell? ⟨w.heap.size, 3, none⟩ = some (.int .i64 r.f3) ∧ w'.cell? ⟨w.heap.size, 4, none⟩ = some (.bool r.f4) ∧ w'.cell? ⟨gg, 4, none⟩ = some (.int .i64 nx)) 21 ⟨blk_cell HX.out 0, blk_cell HX.out 1, blk_cell HX.out 2, blk_cell HX.out 3, blk_cell HX.out 4, blk_cell hg2 4⟩ (fun hs => ?_)
    have n_ := Aside0.mk (below_drew1 HB.out)
    clear HB
    have HB := n_
    clear n_
    have n_ := Aside0.mk (blk_drew HX.out)
    clear HX
    have HX := n_
    clear n_
    refine qP 0 5 ?_
    refine qP 2 7 ?_
    refine qP 3 8 ?_
    refine qP 4 9 ?_
    refine qT 1 6 hs ?_
    refine qT 5 10 hs ?_
    refine qP 6 11 ?_
    refine q1 7 12 (fun K hK => ?_)
    refine qC Tryz.func47 _ ?_
    refine (iIn1 _ _ _ _).mono ?_
    intro e w2 h2
    obtain ⟨rfl, hb⟩ := h2.yes K1.out
    have n_ := Aside0.mk (below_step HB.out hb)
    clear HB
    have HB := n_
    clear n_
    have n_ := Aside0.mk (blk_below HX.out hb)
    clear HX
    have HX := n_
    clear n_
    refine ⟨_, rfl, hK.out _ _ ⟨pw_cell_below hb hs.1, pw_cell_below hb hs.2.1, pw_cell_below hb hs.2.2.1, pw_cell_below hb hs.2.2.2.1, pw_cell_below hb hs.2.2.2.2.1, pw_cell_below hb hs.2.2.2.2.2⟩ (fun hs2 => ?_)⟩
    clear hK K hs hb
    have hs := hs2
    clear hs2
    refine qN ?_
    refine qP 8 13 ?_
    refine qP 9 14 ?_
    refine qP 10 15 ?_
    refine qT 11 16 hs ?_
    refine q1 12 17 (fun K hK => ?_)
    refine qC Tryz.func113 _ ?_
    refine (iTime1 _ _).mono ?_
    intro e w2 h2
    obtain ⟨rfl, hb⟩ := h2.yes K2.out
    have n_ := Aside0.mk (below_step HB.out hb)
    clear HB
    have HB := n_
    clear n_
    have n_ := Aside0.mk (blk_below HX.out hb)
    clear HX
    have HX := n_
    clear n_
    refine ⟨_, rfl, hK.out _ _ ⟨pw_cell_below hb hs.1, pw_cell_below hb hs.2.1, pw_cell_below hb hs.2.2.1, pw_cell_below hb hs.2.2.2.1, pw_cell_below hb hs.2.2.2.2.1, pw_cell_below hb hs.2.2.2.2.2⟩ (fun hs2 => ?_)⟩
    clear hK K hs hb
    have hs := hs2
    clear hs2
    refine qN ?_
    refine qP 13 18 ?_
    refine qP 14 19 ?_
    refine qP 15 20 ?_
    refine qP 16 21 ?_
    refine qT 17 22 hs ?_
    refine q1 18 23 (fun K hK => ?_)
    refine qC Tryz.func47 _ ?_
    refine (iIn1 _ _ _ _).mono ?_
    intro e w2 h2
    obtain ⟨rfl, hb⟩ := h2.no K3.out
    have n_ := Aside0.mk (below_step HB.out hb)
    clear HB
    have HB := n_
    clear n_
    have n_ := Aside0.mk (blk_below HX.out hb)
    clear HX
    have HX := n_
    clear n_
    refine ⟨_, rfl, hK.out _ _ ⟨pw_cell_below hb hs.1, pw_cell_below hb hs.2.1, pw_cell_below hb hs.2.2.1, pw_cell_below hb hs.2.2.2.1, pw_cell_below hb hs.2.2.2.2.1, pw_cell_below hb hs.2.2.2.2.2⟩ (fun hs2 => ?_)⟩
    clear hK K hs hb
    have hs := hs2
    clear hs2
    refine qN ?_
    refine qP 19 24 ?_
    refine qP 20 25 ?_
    refine qD ?_
    clear hs
    clear hg2 hw1
    go_wp2
    go_ret
    exact .inr ⟨rfl, fun h => K3.out h.2.2.1, HB.out⟩
  refine qS (fun w' => w'.cell? ⟨w.heap.size, 0, none⟩ = some (.int .i64 r.f0) ∧ w'.cell? ⟨w.heap.size, 1, none⟩ = some (.int .i64 r.f1) ∧ w'.cell? ⟨w.heap.size, 2, none⟩ = some (.int .i64 r.f2) ∧ w'.cell? ⟨w.heap.size, 3, none⟩ = some (.int .i64 r.f3) ∧ w'.cell? ⟨w.heap.size, 4, none⟩ = some (.bool r.f4) ∧ w'.cell? ⟨gg, 4, none⟩ = some (.int .i64 nx)) 21 ⟨blk_cell HX.out 0, blk_cell HX.out 1, blk_cell HX.out 2, blk_cell HX.out 3, blk_cell HX.out 4, blk_cell hg2 4⟩ (fun hs => ?_)
  have n_ := Aside0.mk (below_drew1 HB.out)
  clear HB
  have HB := n_
  clear n_
  have n_ := Aside0.mk (blk_drew HX.out)
  clear HX
  have HX := n_
  clear n_
  refine qP 0 5 ?_
  refine qP 2 7 ?_
  refine qP 3 8 ?_
  refine qP 4 9 ?_
  refine qT 1 6 hs ?_
  refine qT 5 10 hs ?_
  refine qP 6 11 ?_
  refine q1 7 12 (fun K hK => ?_)
  refine qC Tryz.func47 _ ?_
  refine (iIn1 _ _ _ _).mono ?_
  intro e w2 h2
  obtain ⟨rfl, hb⟩ := h2.yes K1.out
  have n_ := Aside0.mk (below_step HB.out hb)
  clear HB
  have HB := n_
  clear n_
  have n_ := Aside0.mk (blk_below HX.out hb)
  clear HX
  have HX := n_
  clear n_
  refine ⟨_, rfl, hK.out _ _ ⟨pw_cell_below hb hs.1, pw_cell_below hb hs.2.1, pw_cell_below hb hs.2.2.1, pw_cell_below hb hs.2.2.2.1, pw_cell_below hb hs.2.2.2.2.1, pw_cell_below hb hs.2.2.2.2.2⟩ (fun hs2 => ?_)⟩
  clear hK K hs hb
  have hs := hs2
  clear hs2
  refine qN ?_
  refine qP 8 13 ?_
  refine qP 9 14 ?_
  refine qP 10 15 ?_
  refine qT 11 16 hs ?_
  refine q1 12 17 (fun K hK => ?_)
  refine qC Tryz.func113 _ ?_
  refine (iTime1 _ _).mono ?_
  intro e w2 h2
  obtain ⟨rfl, hb⟩ := h2.yes K2.out
  have n_ := Aside0.mk (below_step HB.out hb)
  clear HB
  have HB := n_
  clear n_
  have n_ := Aside0.mk (blk_below HX.out hb)
  clear HX
  have HX := n_
  clear n_
  refine ⟨_, rfl, hK.out _ _ ⟨pw_cell_below hb hs.1, pw_cell_below hb hs.2.1, pw_cell_below hb hs.2.2.1, pw_cell_below hb hs.2.2.2.1, pw_cell_below hb hs.2.2.2.2.1, pw_cell_below hb hs.2.2.2.2.2⟩ (fun hs2 => ?_)⟩
  clear hK K hs hb
  have hs := hs2
  clear hs2
  refine qN ?_
  refine qP 13 18 ?_
  refine qP 14 19 ?_
  refine qP 15 20 ?_
  refine qP 16 21 ?_
  refine qT 17 22 hs ?_
  refine q1 18 23 (fun K hK => ?_)
  refine qC Tryz.func47 _ ?_
  refine (iIn1 _ _ _ _).mono ?_
  intro e w2 h2
  obtain ⟨rfl, hb⟩ := h2.yes K3.out
  have n_ := Aside0.mk (below_step HB.out hb)
  clear HB
  have HB := n_
  clear n_
  have n_ := Aside0.mk (blk_below HX.out hb)
  clear HX
  have HX := n_
  clear n_
  refine ⟨_, rfl, hK.out _ _ ⟨pw_cell_below hb hs.1, pw_cell_below hb hs.2.1, pw_cell_below hb hs.2.2.1, pw_cell_below hb hs.2.2.2.1, pw_cell_below hb hs.2.2.2.2.1, pw_cell_below hb hs.2.2.2.2.2⟩ (fun hs2 => ?_)⟩
  clear hK K hs hb
  have hs := hs2
  clear hs2
  refine qN ?_
  refine qP 19 24 ?_
  refine qP 20 25 ?_
  refine qD ?_
  clear hs
  clear hg2 hw1
  have HP := Aside0.mk True.intro
  have hx := blk_cell HX.out
  have hzr := blk_lt HX.out
  rcases bool_em r.f4 with k4 | k4
  · have K4 := Aside0.mk k4
    rw [k4] at hx HX
    clear k4
    go_wp2_with (first
      | (go_at_call 47; refine (iIn1 _ _ _ _).mono ?_; rintro e w2 (⟨rfl, hr, hb⟩ | ⟨rfl, hr, hb⟩) <;> (have n_ := Aside0.mk (And.intro hr HP.out); clear HP hr; have HP := n_; clear n_; have n_ := Aside0.mk (below_step (w := w) (by repeat' (with_reducible first | exact HB.out | apply below_alloc | apply below_drew1 | refine below_set ?_ (by omega))) hb); clear HB; have HB := n_; clear n_; have n_ := Aside0.mk (blk_below (g := w.heap.size) (o := .cells #[.int .i64 r.f0, .int .i64 r.f1, .int .i64 r.f2, .int .i64 r.f3, .bool true] 83 (0, 0)) (by repeat' (with_reducible first | exact HX.out | exact blk_new _ _ | refine blk_alloc ?_ _ | refine blk_drew ?_ | refine blk_far ?_ (by dsimp only; omega) _)) hb); (try clear HX); have HX := n_; clear n_; obtain ⟨hc, hf⟩ := bcell hb; have hz : w.heap.size < w2.heap.size := blk_lt HX.out; clear hb)))
    · go_ret
      exact .inl ⟨rfl, ⟨K1.out, K2.out, K3.out, fun _ => HP.out.1, fun h => absurd (K4.out.symm.trans h) (by decide)⟩, HB.out⟩
    · go_ret
      exact .inr ⟨rfl, fun h => HP.out.1 (h.2.2.2.1 K4.out), HB.out⟩
  · have K4 := Aside0.mk k4
    rw [k4] at hx HX
    clear k4
    rcases beq_em r.f2 0 with ⟨b5, k5⟩ | ⟨b5, k5⟩
    · go_wp2
      go_ret
      exact IsB.of rfl (by rw [beq_iff_eq]; exact ⟨fun h => ⟨K1.out, K2.out, K3.out, fun h4 => absurd (K4.out.symm.trans h4) (by decide), fun _ => ⟨k5.out, h⟩⟩, fun h => (h.2.2.2.2 K4.out).2⟩) HB.out
    · go_wp2
      go_ret
      exact .inr ⟨rfl, fun h => k5.out (h.2.2.2.2 K4.out).1, HB.out⟩
set_option maxHeartbeats 8000000 in
set_option maxRecDepth 100000 in
theorem iRecordN (B0 B1 B2 B3 : Option Addr) (d0 d1 d2 d3 : Nat) (us : List S92) (ss : List S76) (fs : List S81) (rs : List S83) (nx : Int) (gg : Nat) (r : S83) (w : World) (hy : w.heap[gg]? = some (.cells #[.slice B0 us.length d0, .slice B1 ss.length d1, .slice B2 fs.length d2, .slice B3 rs.length d3, .int .i64 nx] 48 (0, 0))) (n0 : 1 ≤ nx) (n1 : nx ≤ 10000) : Calls Tryz.prog 54 #[.agg #[.int .i64 r.f0, .int .i64 r.f1, .int .i64 r.f2, .int .i64 r.f3, .bool r.f4], .pointer (some ⟨gg, 0, none⟩)] w (IsB (¬ RecordP nx r) w) := by
  have hu := Tryz.underlying83
  have H0 := Aside0.mk hy
  clear hy
  have HB := Aside0.mk (Below.refl w.heap.size w)
  have HP := Aside0.mk True.intro
  go_enter Tryz.func54, Tryz.ntmps54
  go_wp2_with (first
    | (go_at_call 55; refine (iRecord1 B0 B1 B2 B3 d0 d1 d2 d3 us ss fs rs nx gg r _ (blk_below H0.out (below_alloc (Below.refl _ _) _)) n0 n1).mono ?_; rintro e w2 (⟨rfl, hr, hb⟩ | ⟨rfl, hr, hb⟩) <;> (have n_ := Aside0.mk (And.intro hr HP.out); clear HP hr; have HP := n_; clear n_; have n_ := Aside0.mk (below_step (w := w) (by repeat' (with_reducible first | exact HB.out | apply below_alloc | apply below_drew1 | refine below_set ?_ (by omega))) hb); clear HB; have HB := n_; clear n_; clear hb)))
  · go_ret
    exact .inr ⟨rfl, fun h => h HP.out.1, HB.out⟩
  · go_ret
    exact .inl ⟨rfl, HP.out.1, HB.out⟩
end
section
-- NEEDS laws.eqConfig
def SessUpP (ss : List S76) (i : Int) : Prop := 0 < i → (rd_T76 ss (i - 1)).f0 < (rd_T76 ss i).f0
def ApartP (ss : List S76) (i : Int) : Prop := ¬ ∃ x ∈ ss.take i.toNat, ClashP (rd_T76 ss i) x
def FailUpP (fs : List S81) (i : Int) : Prop := 0 < i → Op.bytesLess (rd_T81 fs (i - 1)).f0.toList (rd_T81 fs i).f0.toList = true
def GuestsP (ip b gate : Int) (gm wm : ByteArray) (res : Int) (g : List S140) (l : List S145) (us : List S92) (ss : List S76) (fs : List S81) (rs : List S83) (nx : Int) : Prop :=
  ConfigP ip b gate gm wm res g l ∧ UsersP l us ∧ ss.length ≤ 3 ∧ fs.length ≤ 20 ∧ rs.length ≤ 60 ∧ (1 ≤ nx ∧ nx ≤ 10000) ∧ (∀ x ∈ ss, SessionP ip b nx us.length x) ∧ (∀ i : Int, 0 ≤ i → i < ss.length → SessUpP ss i ∧ ApartP ss i) ∧ (∀ x ∈ fs, FailP x) ∧ (∀ i : Int, 0 ≤ i → i < fs.length → FailUpP fs i) ∧ (∀ x ∈ rs, RecordP nx x)
theorem netbits {ip b : Int} (h : NetP ip b) : 0 ≤ b ∧ b ≤ 32 := h.2.1
end
section
-- NEEDS impl.ConfigOK laws.eqConfig spec.ConfigOK
attribute [local go_sem] str_geq str_lss
set_option maxHeartbeats 8000000 in
set_option maxRecDepth 100000 in
theorem iConfig1 (ip b gate : Int) (gm wm : ByteArray) (res : Int) (A6 : Option Addr) (c6 : Nat) (g : List S140) (A7 : Option Addr) (c7 : Nat) (l : List S145) (w : World) (hg : Kd.C k140 w A6 g.length g) (hl : Kd.C k145 w A7 l.length l) (zg : g.length ≤ 1152921504606846976) (zl : l.length ≤ 1152921504606846976) (zr : ∀ x ∈ l, x.f1.length ≤ 1152921504606846976 ∧ x.f0.size ≤ 1152921504606846976) (zm : gm.size ≤ 1152921504606846976) (zw : wm.size ≤ 1152921504606846976) :
    Calls Tryz.prog 46 #[.agg #[.int .i64 ip, .int .i64 b, .int .i64 gate, .string gm, .string wm, .int .i64 res, .slice A6 g.length c6, .slice A7 l.length c7]] w (IsB (ConfigP ip b gate gm wm res g l) w) := by
  have hu := Tryz.underlying41
  have hu2 := Tryz.underlying145
  have H0 := Aside0.mk (And.intro hg hl)
  have HZ := Aside0.mk zr
  clear hg hl zr
  have eg := enters_ Tryz.func105 (by kernel_rfl) rfl
  have HB := Aside0.mk (Below.refl w.heap.size w)
  have HP := Aside0.mk True.intro
  rcases dec_em (8 < (g.length : Int)) with ⟨k1, b1⟩ | ⟨k1, b1⟩
  all_goals go_enter Tryz.func46, Tryz.ntmps46
  all_goals go_wp2_with (first
   | (go_at_call 100; refine (iNet1 _ _ _).mono ?_; rintro e w2 (⟨rfl, hr, hb⟩ | ⟨rfl, hr, hb⟩); (obtain ⟨hk0, hk1⟩ := NetP.bits hr); all_goals (have n_ := Aside0.mk (And.intro hr HP.out); clear HP hr; have HP := n_; clear n_; have n_ := Aside0.mk (below_step (w := w) (by repeat' (with_reducible first | exact HB.out | apply below_alloc | apply below_drew1 | refine below_set ?_ (by omega))) hb); clear HB; have HB := n_; clear n_; have n_ := Aside0.mk (blk_below (g := w.heap.size) (o := .cells #[.int .i64 ip, .int .i64 b, .int .i64 gate, .string gm, .string wm, .int .i64 res, .slice A6 g.length c6, .slice A7 l.length c7] 41 (0, 0)) (by repeat' (with_reducible first | exact HX.out | exact blk_new _ _ | refine blk_alloc ?_ _ | refine blk_drew ?_ | refine blk_far ?_ (by dsimp only; omega) _)) hb); (try clear HX); have HX := n_; clear n_; obtain ⟨hc, hf⟩ := bcell hb; have hz : w.heap.size < w2.heap.size := blk_lt HX.out; clear hb))
   | (go_at_call 101; refine (iIp1 _ _).mono ?_; rintro e w2 (⟨rfl, hr, hb⟩ | ⟨rfl, hr, hb⟩) <;> (have n_ := Aside0.mk (And.intro hr HP.out); clear HP hr; have HP := n_; clear n_; have n_ := Aside0.mk (below_step (w := w) (by repeat' (with_reducible first | exact HB.out | apply below_alloc | apply below_drew1 | refine below_set ?_ (by omega))) hb); clear HB; have HB := n_; clear n_; have n_ := Aside0.mk (blk_below (g := w.heap.size) (o := .cells #[.int .i64 ip, .int .i64 b, .int .i64 gate, .string gm, .string wm, .int .i64 res, .slice A6 g.length c6, .slice A7 l.length c7] 41 (0, 0)) (by repeat' (with_reducible first | exact HX.out | exact blk_new _ _ | refine blk_alloc ?_ _ | refine blk_drew ?_ | refine blk_far ?_ (by dsimp only; omega) _)) hb); (try clear HX); have HX := n_; clear n_; obtain ⟨hc, hf⟩ := bcell hb; have hz : w.heap.size < w2.heap.size := blk_lt HX.out; clear hb))
   | (go_at_call 102; refine (iHas1 _ _ _ _ hk0 hk1).mono ?_; rintro e w2 (⟨rfl, hr, hb⟩ | ⟨rfl, hr, hb⟩) <;> (have n_ := Aside0.mk (And.intro hr HP.out); clear HP hr; have HP := n_; clear n_; have n_ := Aside0.mk (below_step (w := w) (by repeat' (with_reducible first | exact HB.out | apply below_alloc | apply below_drew1 | refine below_set ?_ (by omega))) hb); clear HB; have HB := n_; clear n_; have n_ := Aside0.mk (blk_below (g := w.heap.size) (o := .cells #[.int .i64 ip, .int .i64 b, .int .i64 gate, .string gm, .string wm, .int .i64 res, .slice A6 g.length c6, .slice A7 l.length c7] 41 (0, 0)) (by repeat' (with_reducible first | exact HX.out | exact blk_new _ _ | refine blk_alloc ?_ _ | refine blk_drew ?_ | refine blk_far ?_ (by dsimp only; omega) _)) hb); (try clear HX); have HX := n_; clear n_; obtain ⟨hc, hf⟩ := bcell hb; have hz : w.heap.size < w2.heap.size := blk_lt HX.out; clear hb))
   | (go_at_call 103; refine (iMac1 gm _ zm).mono ?_; rintro e w2 (⟨rfl, hr, hb⟩ | ⟨rfl, hr, hb⟩) <;> (have n_ := Aside0.mk (And.intro hr HP.out); clear HP hr; have HP := n_; clear n_; have n_ := Aside0.mk (below_step (w := w) (by repeat' (with_reducible first | exact HB.out | apply below_alloc | apply below_drew1 | refine below_set ?_ (by omega))) hb); clear HB; have HB := n_; clear n_; have n_ := Aside0.mk (blk_below (g := w.heap.size) (o := .cells #[.int .i64 ip, .int .i64 b, .int .i64 gate, .string gm, .string wm, .int .i64 res, .slice A6 g.length c6, .slice A7 l.length c7] 41 (0, 0)) (by repeat' (with_reducible first | exact HX.out | exact blk_new _ _ | refine blk_alloc ?_ _ | refine blk_drew ?_ | refine blk_far ?_ (by dsimp only; omega) _)) hb); (try clear HX); have HX := n_; clear n_; obtain ⟨hc, hf⟩ := bcell hb; have hz : w.heap.size < w2.heap.size := blk_lt HX.out; clear hb))
   | (go_at_call 103; refine (iMac1 wm _ zw).mono ?_; rintro e w2 (⟨rfl, hr, hb⟩ | ⟨rfl, hr, hb⟩) <;> (have n_ := Aside0.mk (And.intro hr HP.out); clear HP hr; have HP := n_; clear n_; have n_ := Aside0.mk (below_step (w := w) (by repeat' (with_reducible first | exact HB.out | apply below_alloc | apply below_drew1 | refine below_set ?_ (by omega))) hb); clear HB; have HB := n_; clear n_; have n_ := Aside0.mk (blk_below (g := w.heap.size) (o := .cells #[.int .i64 ip, .int .i64 b, .int .i64 gate, .string gm, .string wm, .int .i64 res, .slice A6 g.length c6, .slice A7 l.length c7] 41 (0, 0)) (by repeat' (with_reducible first | exact HX.out | exact blk_new _ _ | refine blk_alloc ?_ _ | refine blk_drew ?_ | refine blk_far ?_ (by dsimp only; omega) _)) hb); (try clear HX); have HX := n_; clear n_; obtain ⟨hc, hf⟩ := bcell hb; have hz : w.heap.size < w2.heap.size := blk_lt HX.out; clear hb))
   | (go_at_call 47; refine (iIn1 _ _ _ _).mono ?_; rintro e w2 (⟨rfl, hr, hb⟩ | ⟨rfl, hr, hb⟩) <;> (have n_ := Aside0.mk (And.intro hr HP.out); clear HP hr; have HP := n_; clear n_; have n_ := Aside0.mk (below_step (w := w) (by repeat' (with_reducible first | exact HB.out | apply below_alloc | apply below_drew1 | refine below_set ?_ (by omega))) hb); clear HB; have HB := n_; clear n_; have n_ := Aside0.mk (blk_below (g := w.heap.size) (o := .cells #[.int .i64 ip, .int .i64 b, .int .i64 gate, .string gm, .string wm, .int .i64 res, .slice A6 g.length c6, .slice A7 l.length c7] 41 (0, 0)) (by repeat' (with_reducible first | exact HX.out | exact blk_new _ _ | refine blk_alloc ?_ _ | refine blk_drew ?_ | refine blk_far ?_ (by dsimp only; omega) _)) hb); (try clear HX); have HX := n_; clear n_; obtain ⟨hc, hf⟩ := bcell hb; have hz : w.heap.size < w2.heap.size := blk_lt HX.out; clear hb))
   | (go_at_call 104; refine (containsPlace 105 #[] eg (fun r => ¬ PlaceP r) A6 c6 g _ zg (fun W x _ _ => iPlaceN x W) (Kd.C_below H0.out.1 (by repeat' (with_reducible first | exact HB.out | apply below_alloc | apply below_drew1 | refine below_set ?_ (by omega))))).mono ?_; rintro e w2 (⟨rfl, hr, hb⟩ | ⟨rfl, hr, hb⟩) <;> (have n_ := Aside0.mk (And.intro hr HP.out); clear HP hr; have HP := n_; clear n_; have n_ := Aside0.mk (below_step (w := w) (by repeat' (with_reducible first | exact HB.out | apply below_alloc | apply below_drew1 | refine below_set ?_ (by omega))) hb); clear HB; have HB := n_; clear n_; have n_ := Aside0.mk (blk_below (g := w.heap.size) (o := .cells #[.int .i64 ip, .int .i64 b, .int .i64 gate, .string gm, .string wm, .int .i64 res, .slice A6 g.length c6, .slice A7 l.length c7] 41 (0, 0)) (by repeat' (with_reducible first | exact HX.out | exact blk_new _ _ | refine blk_alloc ?_ _ | refine blk_drew ?_ | refine blk_far ?_ (by dsimp only; omega) _)) hb); (try clear HX); have HX := n_; clear n_; obtain ⟨hc, hf⟩ := bcell hb; have hz : w.heap.size < w2.heap.size := blk_lt HX.out; clear hb)))
  all_goals try (go_ret; exact .inr ⟨rfl, by rintro ⟨p1, p2, p3, p4, p5, p6, p7, p8, p9, p10, p11, p12⟩; first | exact HP.out.1 p1 | exact HP.out.1 p2 | exact HP.out.1 p3 | exact HP.out.1 p4 | exact HP.out.1 p5 | exact HP.out.1 p6 | exact p7 HP.out.1 | exact HP.out.1 p9 | omega | (obtain ⟨r, hr, hn⟩ := HP.out.1; exact hn (p10 r hr)), HB.out⟩; done)
  (try clear hc hf hz)
  have HQ := HP
  clear HP
  obtain ⟨ad0, hA7⟩ : ∃ x : Option Addr, x = A7 := ⟨_, rfl⟩
  go_loopg [67] l.length (fun gg v w' => ∃ i : Int, v = .int .i64 i ∧ 0 ≤ i ∧ i ≤ l.length ∧ l.length - i ≤ gg ∧ Aside0 (Below w.heap.size w w') ∧ Aside0 (w'.heap[w.heap.size]? = some (.cells #[.int .i64 ip, .int .i64 b, .int .i64 gate, .string gm, .string wm, .int .i64 res, .slice A6 g.length c6, .slice A7 l.length c7] 41 (0, 0))) ∧ Aside0 (∀ j : Int, 0 ≤ j → j < i → RoleP (l.getD j.toNat z145)) ∧ Aside0 (∀ j : Int, 0 ≤ j → j < i → RisesP l j))
  case atStart => exact ⟨0, rfl, Int.le_refl _, by omega, by omega, HB, HX, ⟨fun j h0 h1 => by omega⟩, ⟨fun j h0 h1 => by omega⟩⟩
  case round =>
    clear HB HX hA7
    obtain ⟨i, rfl, hi0, hi, hgg, HB, HX, HA, HS⟩ := hrel
    have hx := blk_cell HX.out
    have hzr := blk_lt HX.out
    by_cases hlt : i < l.length
    · obtain ⟨ad, aA, aC, eA, r0, r1, r2, r3, r4, al, ak⟩ := at_T145 (Kd.C_below H0.out.2 HB.out) i hi0 hlt
      have HK := Aside0.mk ak
      have HM := Aside0.mk (HZ.out _ (rdmem (z := z145) hi0 hlt))
      clear al ak
      have hb7 : wr.cell? ⟨w.heap.size, 7, none⟩ = some (.slice (some ad) l.length c7) := by rw [← eA]; exact hx 7
      rcases Classical.em (RoleP (rd_T145 l i)) with k1 | k1
      rotate_left
      · have K1 := Aside0.mk k1
        clear k1
        subst eA
        go_wp2
        generalize hW : wr.alloc (.cells #[.string (rd_T145 l i).f0, .slice aA (rd_T145 l i).f1.length aC, .int .i64 (rd_T145 l i).f2, .int .i64 (rd_T145 l i).f3, .int .i64 (rd_T145 l i).f4] 145 (0, 0)) = W0 at *
        have hB0 : Below wr.heap.size wr W0 := by rw [← hW]; exact below_alloc (Below.refl _ _) _
        have hr : W0.heap[wr.heap.size]? = some (.cells #[.string (rd_T145 l i).f0, .slice aA (rd_T145 l i).f1.length aC, .int .i64 (rd_T145 l i).f2, .int .i64 (rd_T145 l i).f3, .int .i64 (rd_T145 l i).f4] 145 (0, 0)) := by rw [← hW]; exact blk_new _ _
        replace hb7 := pw_cell_below hB0 hb7
        refine qS (fun w' => w'.cell? ⟨w.heap.size, 7, none⟩ = some (.slice (some ad) l.length c7) ∧ w'.cell? ⟨wr.heap.size, 0, none⟩ = some (.string (rd_T145 l i).f0) ∧ w'.cell? ⟨wr.heap.size, 1, none⟩ = some (.slice aA (rd_T145 l i).f1.length aC) ∧ w'.cell? ⟨wr.heap.size, 2, none⟩ = some (.int .i64 (rd_T145 l i).f2) ∧ w'.cell? ⟨wr.heap.size, 3, none⟩ = some (.int .i64 (rd_T145 l i).f3) ∧ w'.cell? ⟨wr.heap.size, 4, none⟩ = some (.int .i64 (rd_T145 l i).f4)) 19 ⟨hb7, blk_cell hr 0, blk_cell hr 1, blk_cell hr 2, blk_cell hr 3, blk_cell hr 4⟩ (fun hs => ?_)
        refine qT 0 72 hs ?_
        refine q1 1 73 (fun K hK => ?_)
        refine qC Tryz.func107 _ ?_
        refine (iRole1 _ _ _ _ _ _ _ _ (Kd.C_below HK.out (below_drew1 hB0)) HM.out.1 HM.out.2).mono ?_
        intro e w2 h2
        obtain ⟨rfl, hb⟩ := h2.no K1.out
        have hr2 := blk_below (blk_drew hr) hb
        refine ⟨_, rfl, hK.out _ _ ⟨pw_cell_below hb hb7, blk_cell hr2 0, blk_cell hr2 1, blk_cell hr2 2, blk_cell hr2 3, blk_cell hr2 4⟩ (fun hs => ?_)⟩
        clear hK K
        refine qN ?_
        refine qP 2 74 ?_
        refine qP 3 75 ?_
        refine qU 4 76 ?_
        refine qU 5 77 ?_
        refine qU 6 78 ?_
        refine qU 7 79 ?_
        refine qU 8 80 ?_
        refine qU 9 81 ?_
        refine qU 10 82 ?_
        refine qU 11 83 ?_
        refine qU 12 84 ?_
        refine qU 13 85 ?_
        refine qU 14 86 ?_
        refine qU 15 87 ?_
        refine qU 16 88 ?_
        refine qU 17 89 ?_
        refine qP 18 90 ?_
        refine qD ?_
        have HX2 := Aside0.mk (blk_below (blk_drew (blk_below HX.out hB0)) hb)
        have HB2 := Aside0.mk (below_step (below_drew1 (below_step HB.out hB0)) hb)
        clear hb hx hs hb7 hr hr2 hB0
        go_wp2
        go_ret
        exact .inr ⟨rfl, fun h => K1.out (h.2.2.2.2.2.2.2.2.2.2.1 _ (rdmem hi0 hlt)), HB2.out⟩
      · have K1 := Aside0.mk k1
        clear k1
        rcases dec_em (0 < i) with ⟨k2, b2⟩ | ⟨k2, b2⟩
        rotate_left
        · subst eA
          go_wp2
          generalize hW : wr.alloc (.cells #[.string (rd_T145 l i).f0, .slice aA (rd_T145 l i).f1.length aC, .int .i64 (rd_T145 l i).f2, .int .i64 (rd_T145 l i).f3, .int .i64 (rd_T145 l i).f4] 145 (0, 0)) = W0 at *
          have hB0 : Below wr.heap.size wr W0 := by rw [← hW]; exact below_alloc (Below.refl _ _) _
          have hr : W0.heap[wr.heap.size]? = some (.cells #[.string (rd_T145 l i).f0, .slice aA (rd_T145 l i).f1.length aC, .int .i64 (rd_T145 l i).f2, .int .i64 (rd_T145 l i).f3, .int .i64 (rd_T145 l i).f4] 145 (0, 0)) := by rw [← hW]; exact blk_new _ _
          replace hb7 := pw_cell_below hB0 hb7
          refine qS (fun w' => w'.cell? ⟨w.heap.size, 7, none⟩ = some (.slice (some ad) l.length c7) ∧ w'.cell? ⟨wr.heap.size, 0, none⟩ = some (.string (rd_T145 l i).f0) ∧ w'.cell? ⟨wr.heap.size, 1, none⟩ = some (.slice aA (rd_T145 l i).f1.length aC) ∧ w'.cell? ⟨wr.heap.size, 2, none⟩ = some (.int .i64 (rd_T145 l i).f2) ∧ w'.cell? ⟨wr.heap.size, 3, none⟩ = some (.int .i64 (rd_T145 l i).f3) ∧ w'.cell? ⟨wr.heap.size, 4, none⟩ = some (.int .i64 (rd_T145 l i).f4)) 19 ⟨hb7, blk_cell hr 0, blk_cell hr 1, blk_cell hr 2, blk_cell hr 3, blk_cell hr 4⟩ (fun hs => ?_)
          refine qT 0 72 hs ?_
          refine q1 1 73 (fun K hK => ?_)
          refine qC Tryz.func107 _ ?_
          refine (iRole1 _ _ _ _ _ _ _ _ (Kd.C_below HK.out (below_drew1 hB0)) HM.out.1 HM.out.2).mono ?_
          intro e w2 h2
          obtain ⟨rfl, hb⟩ := h2.yes K1.out
          have hr2 := blk_below (blk_drew hr) hb
          refine ⟨_, rfl, hK.out _ _ ⟨pw_cell_below hb hb7, blk_cell hr2 0, blk_cell hr2 1, blk_cell hr2 2, blk_cell hr2 3, blk_cell hr2 4⟩ (fun hs => ?_)⟩
          clear hK K
          refine qN ?_
          refine qP 2 74 ?_
          refine qP 3 75 ?_
          refine qP 4 76 ?_
          refine qP 5 77 ?_
          refine qP 6 78 ?_
          refine qU 7 79 ?_
          refine qU 8 80 ?_
          refine qU 9 81 ?_
          refine qU 10 82 ?_
          refine qU 11 83 ?_
          refine qU 12 84 ?_
          refine qU 13 85 ?_
          refine qU 14 86 ?_
          refine qU 15 87 ?_
          refine qU 16 88 ?_
          refine qP 17 89 ?_
          refine qP 18 90 ?_
          refine qD ?_
          have HX2 := Aside0.mk (blk_below (blk_drew (blk_below HX.out hB0)) hb)
          have HB2 := Aside0.mk (below_step (below_drew1 (below_step HB.out hB0)) hb)
          clear hb hx hs hb7 hr hr2 hB0
          go_wp2
          go_roundg (l.length - (i + 1)).toNat
          case measure => omega
          case rel => exact ⟨i + 1, rfl, by omega, by omega, by omega, HB2, HX2, ⟨fun j h0 h1 => by
            by_cases hj : j < i
            · exact HA.out j h0 hj
            · obtain rfl : j = i := by omega
              exact K1.out⟩, ⟨fun j h0 h1 => by
            by_cases hj : j < i
            · exact HS.out j h0 hj
            · intro h2; omega⟩⟩
        · obtain ⟨pd, pA, pC, eP, q0, _⟩ := at_T145 (Kd.C_below H0.out.2 HB.out) (i - 1) (by omega) (by omega)
          obtain rfl : ad = pd := Option.some.inj (eA.symm.trans eP)
          have hwr : IntKind.i64.wrap (i - 1) = i - 1 := i64id (by omega) (by omega)
          have h1m : 1 ≤ i := by omega
          have h2m : i - 1 < (l.length : Int) := by omega
          rw [show (i - 1).toNat = i.toNat - 1 by omega] at q0
          subst eA
          clear eP
          rcases bool_em (Op.bytesLess (rd_T145 l (i - 1)).f0.toList (rd_T145 l i).f0.toList) with k3 | k3
          all_goals
            go_wp2
            generalize hW : wr.alloc (.cells #[.string (rd_T145 l i).f0, .slice aA (rd_T145 l i).f1.length aC, .int .i64 (rd_T145 l i).f2, .int .i64 (rd_T145 l i).f3, .int .i64 (rd_T145 l i).f4] 145 (0, 0)) = W0 at *
            have hB0 : Below wr.heap.size wr W0 := by rw [← hW]; exact below_alloc (Below.refl _ _) _
            have hr : W0.heap[wr.heap.size]? = some (.cells #[.string (rd_T145 l i).f0, .slice aA (rd_T145 l i).f1.length aC, .int .i64 (rd_T145 l i).f2, .int .i64 (rd_T145 l i).f3, .int .i64 (rd_T145 l i).f4] 145 (0, 0)) := by rw [← hW]; exact blk_new _ _
            replace hb7 := pw_cell_below hB0 hb7
            replace q0 := pw_cell_below hB0 q0
            refine qS (fun w' => w'.cell? ⟨w.heap.size, 7, none⟩ = some (.slice (some ad) l.length c7) ∧ w'.cell? ⟨wr.heap.size, 0, none⟩ = some (.string (rd_T145 l i).f0) ∧ w'.cell? ⟨wr.heap.size, 1, none⟩ = some (.slice aA (rd_T145 l i).f1.length aC) ∧ w'.cell? ⟨wr.heap.size, 2, none⟩ = some (.int .i64 (rd_T145 l i).f2) ∧ w'.cell? ⟨wr.heap.size, 3, none⟩ = some (.int .i64 (rd_T145 l i).f3) ∧ w'.cell? ⟨wr.heap.size, 4, none⟩ = some (.int .i64 (rd_T145 l i).f4) ∧ w'.cell? (ad.add ((i.toNat - 1) * 5)) = some (.string (rd_T145 l (i - 1)).f0)) 19 ⟨hb7, blk_cell hr 0, blk_cell hr 1, blk_cell hr 2, blk_cell hr 3, blk_cell hr 4, q0⟩ (fun hs => ?_)
            refine qT 0 72 hs ?_
            refine q1 1 73 (fun K hK => ?_)
            refine qC Tryz.func107 _ ?_
            refine (iRole1 _ _ _ _ _ _ _ _ (Kd.C_below HK.out (below_drew1 hB0)) HM.out.1 HM.out.2).mono ?_
            intro e w2 h2
            obtain ⟨rfl, hb⟩ := h2.yes K1.out
            have hr2 := blk_below (blk_drew hr) hb
            refine ⟨_, rfl, hK.out _ _ ⟨pw_cell_below hb hb7, blk_cell hr2 0, blk_cell hr2 1, blk_cell hr2 2, blk_cell hr2 3, blk_cell hr2 4, pw_cell_below hb q0⟩ (fun hs => ?_)⟩
            clear hK K
            refine qN ?_
            refine qP 2 74 ?_
            refine qP 3 75 ?_
            refine qP 4 76 ?_
            refine qP 5 77 ?_
            refine qP 6 78 ?_
            refine qP 7 79 ?_
            refine qP 9 81 ?_
            refine qP 10 82 ?_
            refine qP 14 86 ?_
            refine qT 8 80 hs ?_
            refine qP 11 83 ?_
            refine qP 12 84 ?_
            refine qT 13 85 hs ?_
            refine qT 15 87 hs ?_
            refine qP 16 88 ?_
            refine qP 17 89 ?_
            refine qP 18 90 ?_
            refine qD ?_
            have HX2 := Aside0.mk (blk_below (blk_drew (blk_below HX.out hB0)) hb)
            have HB2 := Aside0.mk (below_step (below_drew1 (below_step HB.out hB0)) hb)
            clear hb hx hs hb7 hr hr2 hB0 q0 hwr h1m h2m
            go_wp2
          · have K3 := Aside0.mk k3
            clear k3
            go_roundg (l.length - (i + 1)).toNat
            case measure => omega
            case rel => exact ⟨i + 1, rfl, by omega, by omega, by omega, HB2, HX2, ⟨fun j h0 h1 => by
              by_cases hj : j < i
              · exact HA.out j h0 hj
              · obtain rfl : j = i := by omega
                exact K1.out⟩, ⟨fun j h0 h1 => by
              by_cases hj : j < i
              · exact HS.out j h0 hj
              · obtain rfl : j = i := by omega
                exact fun _ => K3.out⟩⟩
          · go_ret
            exact .inr ⟨rfl, fun h => absurd (h.2.2.2.2.2.2.2.2.2.2.2 i hi0 hlt k2) (by rw [k3]; decide), HB2.out⟩
    · obtain rfl : i = l.length := by omega
      go_wp2
      go_ret
      exact .inl ⟨rfl, ⟨HQ.out.2.2.2.2.2.2.2.2.1, HQ.out.2.2.2.2.2.2.2.1, HQ.out.2.2.2.2.2.2.1, HQ.out.2.2.2.1, HQ.out.2.2.1, HQ.out.2.2.2.2.2.1, HQ.out.2.2.2.2.1, by omega, HQ.out.2.1, fun x hx => Classical.byContradiction fun hn => HQ.out.1 ⟨x, hx, hn⟩, all_of rfl HA.out, HS.out⟩, HB.out⟩
end
section
-- NEEDS laws.eqConfig
attribute [local go_sem] str_geq str_lss
theorem C_take {α : Type} {d : Kd α} {w : World} {A : Option Addr} {xs : List α} (h : Kd.C d w A xs.length xs) (n : Nat) (hn : n ≤ xs.length) : Kd.C d w A (xs.take n).length (xs.take n) := by
  have e : (xs.take n).length = n := by rw [List.length_take]; omega
  refine ⟨rfl, by rw [e]; have := h.2.1; omega, fun hp => ?_⟩
  obtain ⟨ad, ea, hc⟩ := h.2.2 (by omega)
  refine ⟨ad, ea, fun j p hj => hc j p ?_⟩
  rw [List.getElem?_take] at hj
  split at hj
  · exact hj
  · cases hj
theorem containsTake (g : FuncId) (lb : Array Value) (eg : ∀ args w, (callFunc g args).run Tryz.prog w = .ok (.enter g args) w) (P : S76 → Prop) (A0 : Option Addr) (c0 : Nat) (l : List S76) (n : Nat) (w : World) (en : l.length = n) (zl : n ≤ 1152921504606846976)
    (hp : ∀ (W : World) (x : S76), x ∈ l → Below w.heap.size w W → Calls Tryz.prog g (#[.agg #[.int .i64 x.f0, .int .i64 x.f1, .string x.f2, .int .i64 x.f3, .int .i64 x.f4, .int .i64 x.f5, .int .i64 x.f6, .int .i64 x.f7, .int .i64 x.f8, .int .i64 x.f9]] ++ lb) W (IsB (P x) W)) (hr0 : Kd.C k76 w A0 l.length l) :
    Calls Tryz.prog 49 #[.slice A0 n c0, .func (.func g) #[] lb] w (IsB (∃ x ∈ l, P x) w) := by
  subst en
  exact containsSession g lb eg P A0 c0 l w zl hp hr0
set_option maxHeartbeats 8000000 in
set_option maxRecDepth 100000 in
theorem iGuests1 (ip b gate : Int) (gm wm : ByteArray) (res : Int) (A6 : Option Addr) (c6 : Nat) (g : List S140) (A7 : Option Addr) (c7 : Nat) (l : List S145) (B0 B1 B2 B3 : Option Addr) (d0 d1 d2 d3 : Nat) (us : List S92) (ss : List S76) (fs : List S81) (rs : List S83) (nx : Int) (w : World) (hg : Kd.C k140 w A6 g.length g) (hl : Kd.C k145 w A7 l.length l) (h0 : Kd.C k92 w B0 us.length us) (h1 : Kd.C k76 w B1 ss.length ss) (h2 : Kd.C k81 w B2 fs.length fs) (h3 : Kd.C k83 w B3 rs.length rs) (zg : g.length ≤ 1152921504606846976) (zl : l.length ≤ 1152921504606846976) (zr : ∀ x ∈ l, x.f1.length ≤ 1152921504606846976 ∧ x.f0.size ≤ 1152921504606846976) (zm : gm.size ≤ 1152921504606846976) (zw : wm.size ≤ 1152921504606846976) (y0 : us.length ≤ 1152921504606846976) (y1 : ss.length ≤ 1152921504606846976) (y2 : fs.length ≤ 1152921504606846976) (y3 : rs.length ≤ 1152921504606846976) (e1 : ss.length ≤ d1) (zu : ∀ u ∈ us, u.f0.size ≤ 1152921504606846976 ∧ u.f1.size ≤ 1152921504606846976 ∧ u.f2.size ≤ 1152921504606846976) (zs : ∀ s ∈ ss, s.f2.size ≤ 1152921504606846976) (zf : ∀ f ∈ fs, f.f0.size ≤ 1152921504606846976) :
    Calls Tryz.prog 12 #[.agg #[.int .i64 ip, .int .i64 b, .int .i64 gate, .string gm, .string wm, .int .i64 res, .slice A6 g.length c6, .slice A7 l.length c7], .agg #[.slice B0 us.length d0, .slice B1 ss.length d1, .slice B2 fs.length d2, .slice B3 rs.length d3, .int .i64 nx]] w (IsB (GuestsP ip b gate gm wm res g l us ss fs rs nx) w) := by
  have hu := Tryz.underlying41
  have hu2 := Tryz.underlying48
  have hu3 := Tryz.underlying92
  have H0 := Aside0.mk (And.intro hg (And.intro hl (And.intro h0 (And.intro h1 (And.intro h2 h3)))))
  have HZ := Aside0.mk (And.intro zr (And.intro zu (And.intro zs zf)))
  clear hg hl h0 h1 h2 h3 zr zu zs zf
  have HB := Aside0.mk (Below.refl w.heap.size w)
  have HP := Aside0.mk True.intro
  rcases dec_em (6 < (us.length : Int)) with ⟨k1, b1⟩ | ⟨k1, b1⟩
  rotate_left
  rcases dec_em (3 < (ss.length : Int)) with ⟨k2, b2⟩ | ⟨k2, b2⟩
  rotate_left
  rcases dec_em (20 < (fs.length : Int)) with ⟨k3, b3⟩ | ⟨k3, b3⟩
  rotate_left
  rcases dec_em (60 < (rs.length : Int)) with ⟨k4, b4⟩ | ⟨k4, b4⟩
  all_goals go_enter Tryz.func12, Tryz.ntmps12
  all_goals go_wp2_with (first
   | (go_at_call 46; refine (iConfig1 ip b gate gm wm res A6 c6 g A7 c7 l _ (Kd.C_below H0.out.1 (by repeat' (with_reducible first | exact HB.out | apply below_alloc | apply below_drew1 | refine below_set ?_ (by omega)))) (Kd.C_below H0.out.2.1 (by repeat' (with_reducible first | exact HB.out | apply below_alloc | apply below_drew1 | refine below_set ?_ (by omega)))) zg zl HZ.out.1 zm zw).mono ?_; rintro e w2 (⟨rfl, hr, hb⟩ | ⟨rfl, hr, hb⟩) <;> (have n_ := Aside0.mk (And.intro hr HP.out); clear HP hr; have HP := n_; clear n_; have n_ := Aside0.mk (below_step (w := w) (by repeat' (with_reducible first | exact HB.out | apply below_alloc | apply below_drew1 | refine below_set ?_ (by omega))) hb); clear HB; have HB := n_; clear n_; have n_ := Aside0.mk (blk_below (g := w.heap.size) (o := .cells #[.int .i64 ip, .int .i64 b, .int .i64 gate, .string gm, .string wm, .int .i64 res, .slice A6 g.length c6, .slice A7 l.length c7] 41 (0, 0)) (by repeat' (with_reducible first | exact HX.out | exact blk_new1 _ _ _ | exact blk_alloc (blk_new _ _) _ | refine blk_alloc ?_ _ | refine blk_drew ?_)) hb); (try clear HX); have HX := n_; clear n_; have n_ := Aside0.mk (blk_below (g := w.heap.size + 1) (o := .cells #[.slice B0 us.length d0, .slice B1 ss.length d1, .slice B2 fs.length d2, .slice B3 rs.length d3, .int .i64 nx] 48 (0, 0)) (by repeat' (with_reducible first | exact HG.out | exact blk_new1 _ _ _ | exact blk_alloc (blk_new _ _) _ | refine blk_alloc ?_ _ | refine blk_drew ?_)) hb); (try clear HG); have HG := n_; clear n_; obtain ⟨hc, hf⟩ := bcell hb; have hz : w.heap.size < w2.heap.size := blk_lt HX.out; have hz1 : w.heap.size + 1 < w2.heap.size := blk_lt HG.out; clear hb))
   | (go_at_call 47; refine (iIn1 _ _ _ _).mono ?_; rintro e w2 (⟨rfl, hr, hb⟩ | ⟨rfl, hr, hb⟩) <;> (have n_ := Aside0.mk (And.intro hr HP.out); clear HP hr; have HP := n_; clear n_; have n_ := Aside0.mk (below_step (w := w) (by repeat' (with_reducible first | exact HB.out | apply below_alloc | apply below_drew1 | refine below_set ?_ (by omega))) hb); clear HB; have HB := n_; clear n_; have n_ := Aside0.mk (blk_below (g := w.heap.size) (o := .cells #[.int .i64 ip, .int .i64 b, .int .i64 gate, .string gm, .string wm, .int .i64 res, .slice A6 g.length c6, .slice A7 l.length c7] 41 (0, 0)) (by repeat' (with_reducible first | exact HX.out | exact blk_new1 _ _ _ | exact blk_alloc (blk_new _ _) _ | refine blk_alloc ?_ _ | refine blk_drew ?_)) hb); (try clear HX); have HX := n_; clear n_; have n_ := Aside0.mk (blk_below (g := w.heap.size + 1) (o := .cells #[.slice B0 us.length d0, .slice B1 ss.length d1, .slice B2 fs.length d2, .slice B3 rs.length d3, .int .i64 nx] 48 (0, 0)) (by repeat' (with_reducible first | exact HG.out | exact blk_new1 _ _ _ | exact blk_alloc (blk_new _ _) _ | refine blk_alloc ?_ _ | refine blk_drew ?_)) hb); (try clear HG); have HG := n_; clear n_; obtain ⟨hc, hf⟩ := bcell hb; have hz : w.heap.size < w2.heap.size := blk_lt HX.out; have hz1 : w.heap.size + 1 < w2.heap.size := blk_lt HG.out; clear hb)))
  all_goals try (go_ret; exact .inr ⟨rfl, by rintro ⟨p1, p2, p3, p4, p5, p6, _⟩; have p2 := p2.1; first | exact HP.out.1 p1 | exact HP.out.1 p6 | omega, HB.out⟩; done)
  (try clear hc hf hz hz1)
  have HQ := HP
  clear HP
  go_loopg [48] us.length (fun gg v w' => ∃ i : Int, v = .int .i64 i ∧ 0 ≤ i ∧ i ≤ us.length ∧ us.length - i ≤ gg ∧ Aside0 (Below w.heap.size w w') ∧ Aside0 (w'.heap[w.heap.size]? = some (.cells #[.int .i64 ip, .int .i64 b, .int .i64 gate, .string gm, .string wm, .int .i64 res, .slice A6 g.length c6, .slice A7 l.length c7] 41 (0, 0))) ∧ Aside0 (w'.heap[w.heap.size + 1]? = some (.cells #[.slice B0 us.length d0, .slice B1 ss.length d1, .slice B2 fs.length d2, .slice B3 rs.length d3, .int .i64 nx] 48 (0, 0))) ∧ Aside0 (∀ j : Int, 0 ≤ j → j < i → UserP l (us.getD j.toNat z92)) ∧ Aside0 (∀ j : Int, 0 ≤ j → j < i → UpP us j))
  case atStart => exact ⟨0, rfl, Int.le_refl _, by omega, by omega, HB, HX, HG, ⟨fun j h0 h1 => by omega⟩, ⟨fun j h0 h1 => by omega⟩⟩
  case round =>
    clear HB HX HG
    obtain ⟨i, rfl, hi0, hi, hgg, HB, HX, HG, HA, HS⟩ := hrel
    by_cases hlt : i < us.length
    · obtain ⟨ad, eA, hrow⟩ := at_T92 (Kd.C_below H0.out.2.2.1 HB.out) i hi0 hlt
      have HM := Aside0.mk (HZ.out.2.1 _ (rdmem (z := z92) hi0 hlt))
      subst eA
      go_wp2
      generalize hW : wr.alloc (.cells #[.string (rd_T92 us i).f0, .string (rd_T92 us i).f1, .string (rd_T92 us i).f2, .string (rd_T92 us i).f3, .int .i64 (rd_T92 us i).f4, .int .i64 (rd_T92 us i).f5] 92 (0, 0)) = W0 at *
      have hB0 : Below wr.heap.size wr W0 := by rw [← hW]; exact below_alloc (Below.refl _ _) _
      have hub : W0.heap[wr.heap.size]? = some (.cells #[.string (rd_T92 us i).f0, .string (rd_T92 us i).f1, .string (rd_T92 us i).f2, .string (rd_T92 us i).f3, .int .i64 (rd_T92 us i).f4, .int .i64 (rd_T92 us i).f5] 92 (0, 0)) := by rw [← hW]; exact blk_new _ _
      have n_ := And.intro (Aside0.mk (below_step HB.out hB0)) (And.intro (Aside0.mk (blk_below HX.out hB0)) (Aside0.mk (blk_below HG.out hB0)))
      clear HB HX HG
      obtain ⟨HB, HX, HG⟩ := n_
      clear hB0 hW hrow
      rcases Classical.em (UserP l (rd_T92 us i)) with k1 | k1 <;> (have K1 := Aside0.mk k1; clear k1)
      rotate_left
      · refine qS (fun w' => w'.cell? ⟨wr.heap.size, 0, none⟩ = some (.string (rd_T92 us i).f0) ∧ w'.cell? ⟨wr.heap.size, 1, none⟩ = some (.string (rd_T92 us i).f1) ∧ w'.cell? ⟨wr.heap.size, 2, none⟩ = some (.string (rd_T92 us i).f2) ∧ w'.cell? ⟨wr.heap.size, 3, none⟩ = some (.string (rd_T92 us i).f3) ∧ w'.cell? ⟨wr.heap.size, 4, none⟩ = some (.int .i64 (rd_T92 us i).f4) ∧ w'.cell? ⟨wr.heap.size, 5, none⟩ = some (.int .i64 (rd_T92 us i).f5) ∧ w'.cell? ⟨w.heap.size + 1, 0, none⟩ = some (.slice (some ad) us.length d0)) 19 ⟨blk_cell hub 0, blk_cell hub 1, blk_cell hub 2, blk_cell hub 3, blk_cell hub 4, blk_cell hub 5, blk_cell HG.out 0⟩ (fun hs => ?_)
        have n_ := Aside0.mk (below_drew1 HB.out)
        clear HB
        have HB := n_
        clear n_
        have n_ := Aside0.mk (blk_drew HX.out)
        clear HX
        have HX := n_
        clear n_
        have n_ := Aside0.mk (blk_drew HG.out)
        clear HG
        have HG := n_
        clear n_
        refine qT 0 53 hs ?_
        refine q1 1 54 (fun K hK => ?_)
        refine qC Tryz.func48 _ ?_
        refine (iUser1 ip b gate gm wm res A6 c6 g A7 c7 l w.heap.size (rd_T92 us i) _ HX.out (Kd.C_below H0.out.2.1 HB.out) zl HM.out.1 HM.out.2.1 HM.out.2.2).mono ?_
        intro e w2 h2
        obtain ⟨rfl, hb⟩ := h2.no K1.out
        have n_ := Aside0.mk (below_step HB.out hb)
        clear HB
        have HB := n_
        clear n_
        have n_ := Aside0.mk (blk_below HX.out hb)
        clear HX
        have HX := n_
        clear n_
        have n_ := Aside0.mk (blk_below HG.out hb)
        clear HG
        have HG := n_
        clear n_
        refine ⟨_, rfl, hK.out _ _ ⟨pw_cell_below hb hs.1, pw_cell_below hb hs.2.1, pw_cell_below hb hs.2.2.1, pw_cell_below hb hs.2.2.2.1, pw_cell_below hb hs.2.2.2.2.1, pw_cell_below hb hs.2.2.2.2.2.1, pw_cell_below hb hs.2.2.2.2.2.2⟩ (fun hs2 => ?_)⟩
        clear hK K hs hb
        have hs := hs2
        clear hs2
        refine qN ?_
        refine qP 2 55 ?_
        refine qP 3 56 ?_
        refine qU 4 57 ?_
        refine qU 5 58 ?_
        refine qU 6 59 ?_
        refine qU 7 60 ?_
        refine qU 8 61 ?_
        refine qU 9 62 ?_
        refine qU 10 63 ?_
        refine qU 11 64 ?_
        refine qU 12 65 ?_
        refine qU 13 66 ?_
        refine qU 14 67 ?_
        refine qU 15 68 ?_
        refine qU 16 69 ?_
        refine qU 17 70 ?_
        refine qP 18 71 ?_
        refine qD ?_
        clear hs
        go_wp2
        go_ret
        exact .inr ⟨rfl, fun h => K1.out (h.2.1.2.1 _ (rdmem (z := z92) hi0 hlt)), HB.out⟩
      rcases dec_em (0 < i) with ⟨k7, b7⟩ | ⟨k7, b7⟩
      rotate_left
      · refine qS (fun w' => w'.cell? ⟨wr.heap.size, 0, none⟩ = some (.string (rd_T92 us i).f0) ∧ w'.cell? ⟨wr.heap.size, 1, none⟩ = some (.string (rd_T92 us i).f1) ∧ w'.cell? ⟨wr.heap.size, 2, none⟩ = some (.string (rd_T92 us i).f2) ∧ w'.cell? ⟨wr.heap.size, 3, none⟩ = some (.string (rd_T92 us i).f3) ∧ w'.cell? ⟨wr.heap.size, 4, none⟩ = some (.int .i64 (rd_T92 us i).f4) ∧ w'.cell? ⟨wr.heap.size, 5, none⟩ = some (.int .i64 (rd_T92 us i).f5) ∧ w'.cell? ⟨w.heap.size + 1, 0, none⟩ = some (.slice (some ad) us.length d0)) 19 ⟨blk_cell hub 0, blk_cell hub 1, blk_cell hub 2, blk_cell hub 3, blk_cell hub 4, blk_cell hub 5, blk_cell HG.out 0⟩ (fun hs => ?_)
        have n_ := Aside0.mk (below_drew1 HB.out)
        clear HB
        have HB := n_
        clear n_
        have n_ := Aside0.mk (blk_drew HX.out)
        clear HX
        have HX := n_
        clear n_
        have n_ := Aside0.mk (blk_drew HG.out)
        clear HG
        have HG := n_
        clear n_
        refine qT 0 53 hs ?_
        refine q1 1 54 (fun K hK => ?_)
        refine qC Tryz.func48 _ ?_
        refine (iUser1 ip b gate gm wm res A6 c6 g A7 c7 l w.heap.size (rd_T92 us i) _ HX.out (Kd.C_below H0.out.2.1 HB.out) zl HM.out.1 HM.out.2.1 HM.out.2.2).mono ?_
        intro e w2 h2
        obtain ⟨rfl, hb⟩ := h2.yes K1.out
        have n_ := Aside0.mk (below_step HB.out hb)
        clear HB
        have HB := n_
        clear n_
        have n_ := Aside0.mk (blk_below HX.out hb)
        clear HX
        have HX := n_
        clear n_
        have n_ := Aside0.mk (blk_below HG.out hb)
        clear HG
        have HG := n_
        clear n_
        refine ⟨_, rfl, hK.out _ _ ⟨pw_cell_below hb hs.1, pw_cell_below hb hs.2.1, pw_cell_below hb hs.2.2.1, pw_cell_below hb hs.2.2.2.1, pw_cell_below hb hs.2.2.2.2.1, pw_cell_below hb hs.2.2.2.2.2.1, pw_cell_below hb hs.2.2.2.2.2.2⟩ (fun hs2 => ?_)⟩
        clear hK K hs hb
        have hs := hs2
        clear hs2
        refine qN ?_
        refine qP 2 55 ?_
        refine qP 3 56 ?_
        refine qP 4 57 ?_
        refine qP 5 58 ?_
        refine qP 6 59 ?_
        refine qU 7 60 ?_
        refine qU 8 61 ?_
        refine qU 9 62 ?_
        refine qU 10 63 ?_
        refine qU 11 64 ?_
        refine qU 12 65 ?_
        refine qU 13 66 ?_
        refine qU 14 67 ?_
        refine qU 15 68 ?_
        refine qU 16 69 ?_
        refine qP 17 70 ?_
        refine qP 18 71 ?_
        refine qD ?_
        clear hs
        go_wp2
        go_roundg (us.length - (i + 1)).toNat
        case measure => omega
        case rel => exact ⟨i + 1, rfl, by omega, by omega, by omega, HB, HX, HG, ⟨fun j h0 h1 => by
          by_cases hj : j < i
          · exact HA.out j h0 hj
          · obtain rfl : j = i := by omega
            exact K1.out⟩, ⟨fun j h0 h1 => by
          by_cases hj : j < i
          · exact HS.out j h0 hj
          · intro h2; omega⟩⟩
      obtain ⟨pd, eP, q0, _⟩ := at_T92 (Kd.C_below H0.out.2.2.1 HB.out) (i - 1) (by omega) (by omega)
      obtain rfl : ad = pd := Option.some.inj eP
      have hwr : IntKind.i64.wrap (i - 1) = i - 1 := i64id (by omega) (by omega)
      have h1m : 1 ≤ i := by omega
      have h2m : i - 1 < (us.length : Int) := by omega
      rw [show (i - 1).toNat = i.toNat - 1 by omega] at q0
      clear eP
      rcases bool_em (Op.bytesLess (rd_T92 us (i - 1)).f0.toList (rd_T92 us i).f0.toList) with k8 | k8
      · have K8 := Aside0.mk k8
        refine qS (fun w' => w'.cell? ⟨wr.heap.size, 0, none⟩ = some (.string (rd_T92 us i).f0) ∧ w'.cell? ⟨wr.heap.size, 1, none⟩ = some (.string (rd_T92 us i).f1) ∧ w'.cell? ⟨wr.heap.size, 2, none⟩ = some (.string (rd_T92 us i).f2) ∧ w'.cell? ⟨wr.heap.size, 3, none⟩ = some (.string (rd_T92 us i).f3) ∧ w'.cell? ⟨wr.heap.size, 4, none⟩ = some (.int .i64 (rd_T92 us i).f4) ∧ w'.cell? ⟨wr.heap.size, 5, none⟩ = some (.int .i64 (rd_T92 us i).f5) ∧ w'.cell? ⟨w.heap.size + 1, 0, none⟩ = some (.slice (some ad) us.length d0) ∧ w'.cell? (ad.add ((i.toNat - 1) * 6)) = some (.string (rd_T92 us (i - 1)).f0)) 19 ⟨blk_cell hub 0, blk_cell hub 1, blk_cell hub 2, blk_cell hub 3, blk_cell hub 4, blk_cell hub 5, blk_cell HG.out 0, q0⟩ (fun hs => ?_)
        have n_ := Aside0.mk (below_drew1 HB.out)
        clear HB
        have HB := n_
        clear n_
        have n_ := Aside0.mk (blk_drew HX.out)
        clear HX
        have HX := n_
        clear n_
        have n_ := Aside0.mk (blk_drew HG.out)
        clear HG
        have HG := n_
        clear n_
        refine qT 0 53 hs ?_
        refine q1 1 54 (fun K hK => ?_)
        refine qC Tryz.func48 _ ?_
        refine (iUser1 ip b gate gm wm res A6 c6 g A7 c7 l w.heap.size (rd_T92 us i) _ HX.out (Kd.C_below H0.out.2.1 HB.out) zl HM.out.1 HM.out.2.1 HM.out.2.2).mono ?_
        intro e w2 h2
        obtain ⟨rfl, hb⟩ := h2.yes K1.out
        have n_ := Aside0.mk (below_step HB.out hb)
        clear HB
        have HB := n_
        clear n_
        have n_ := Aside0.mk (blk_below HX.out hb)
        clear HX
        have HX := n_
        clear n_
        have n_ := Aside0.mk (blk_below HG.out hb)
        clear HG
        have HG := n_
        clear n_
        refine ⟨_, rfl, hK.out _ _ ⟨pw_cell_below hb hs.1, pw_cell_below hb hs.2.1, pw_cell_below hb hs.2.2.1, pw_cell_below hb hs.2.2.2.1, pw_cell_below hb hs.2.2.2.2.1, pw_cell_below hb hs.2.2.2.2.2.1, pw_cell_below hb hs.2.2.2.2.2.2.1, pw_cell_below hb hs.2.2.2.2.2.2.2⟩ (fun hs2 => ?_)⟩
        clear hK K hs hb
        have hs := hs2
        clear hs2
        refine qN ?_
        refine qP 2 55 ?_
        refine qP 3 56 ?_
        refine qP 4 57 ?_
        refine qP 5 58 ?_
        refine qP 6 59 ?_
        refine qP 7 60 ?_
        refine qP 9 62 ?_
        refine qP 10 63 ?_
        refine qP 14 67 ?_
        refine qT 8 61 hs ?_
        refine qP 11 64 ?_
        refine qP 12 65 ?_
        refine qT 13 66 hs ?_
        refine qT 15 68 hs ?_
        refine qP 16 69 ?_
        refine qP 17 70 ?_
        refine qP 18 71 ?_
        refine qD ?_
        clear hs
        clear k8 q0 hwr h1m h2m
        go_wp2
        go_roundg (us.length - (i + 1)).toNat
        case measure => omega
        case rel => exact ⟨i + 1, rfl, by omega, by omega, by omega, HB, HX, HG, ⟨fun j h0 h1 => by
          by_cases hj : j < i
          · exact HA.out j h0 hj
          · obtain rfl : j = i := by omega
            exact K1.out⟩, ⟨fun j h0 h1 => by
          by_cases hj : j < i
          · exact HS.out j h0 hj
          · obtain rfl : j = i := by omega
            exact fun _ => K8.out⟩⟩
      · refine qS (fun w' => w'.cell? ⟨wr.heap.size, 0, none⟩ = some (.string (rd_T92 us i).f0) ∧ w'.cell? ⟨wr.heap.size, 1, none⟩ = some (.string (rd_T92 us i).f1) ∧ w'.cell? ⟨wr.heap.size, 2, none⟩ = some (.string (rd_T92 us i).f2) ∧ w'.cell? ⟨wr.heap.size, 3, none⟩ = some (.string (rd_T92 us i).f3) ∧ w'.cell? ⟨wr.heap.size, 4, none⟩ = some (.int .i64 (rd_T92 us i).f4) ∧ w'.cell? ⟨wr.heap.size, 5, none⟩ = some (.int .i64 (rd_T92 us i).f5) ∧ w'.cell? ⟨w.heap.size + 1, 0, none⟩ = some (.slice (some ad) us.length d0) ∧ w'.cell? (ad.add ((i.toNat - 1) * 6)) = some (.string (rd_T92 us (i - 1)).f0)) 19 ⟨blk_cell hub 0, blk_cell hub 1, blk_cell hub 2, blk_cell hub 3, blk_cell hub 4, blk_cell hub 5, blk_cell HG.out 0, q0⟩ (fun hs => ?_)
        have n_ := Aside0.mk (below_drew1 HB.out)
        clear HB
        have HB := n_
        clear n_
        have n_ := Aside0.mk (blk_drew HX.out)
        clear HX
        have HX := n_
        clear n_
        have n_ := Aside0.mk (blk_drew HG.out)
        clear HG
        have HG := n_
        clear n_
        refine qT 0 53 hs ?_
        refine q1 1 54 (fun K hK => ?_)
        refine qC Tryz.func48 _ ?_
        refine (iUser1 ip b gate gm wm res A6 c6 g A7 c7 l w.heap.size (rd_T92 us i) _ HX.out (Kd.C_below H0.out.2.1 HB.out) zl HM.out.1 HM.out.2.1 HM.out.2.2).mono ?_
        intro e w2 h2
        obtain ⟨rfl, hb⟩ := h2.yes K1.out
        have n_ := Aside0.mk (below_step HB.out hb)
        clear HB
        have HB := n_
        clear n_
        have n_ := Aside0.mk (blk_below HX.out hb)
        clear HX
        have HX := n_
        clear n_
        have n_ := Aside0.mk (blk_below HG.out hb)
        clear HG
        have HG := n_
        clear n_
        refine ⟨_, rfl, hK.out _ _ ⟨pw_cell_below hb hs.1, pw_cell_below hb hs.2.1, pw_cell_below hb hs.2.2.1, pw_cell_below hb hs.2.2.2.1, pw_cell_below hb hs.2.2.2.2.1, pw_cell_below hb hs.2.2.2.2.2.1, pw_cell_below hb hs.2.2.2.2.2.2.1, pw_cell_below hb hs.2.2.2.2.2.2.2⟩ (fun hs2 => ?_)⟩
        clear hK K hs hb
        have hs := hs2
        clear hs2
        refine qN ?_
        refine qP 2 55 ?_
        refine qP 3 56 ?_
        refine qP 4 57 ?_
        refine qP 5 58 ?_
        refine qP 6 59 ?_
        refine qP 7 60 ?_
        refine qP 9 62 ?_
        refine qP 10 63 ?_
        refine qP 14 67 ?_
        refine qT 8 61 hs ?_
        refine qP 11 64 ?_
        refine qP 12 65 ?_
        refine qT 13 66 hs ?_
        refine qT 15 68 hs ?_
        refine qP 16 69 ?_
        refine qP 17 70 ?_
        refine qP 18 71 ?_
        refine qD ?_
        clear hs
        go_wp2
        go_ret
        exact .inr ⟨rfl, fun h => absurd (h.2.1.2.2 i hi0 hlt k7) (by rw [k8]; decide), HB.out⟩
    · obtain rfl : i = us.length := by omega
      have HU := Aside0.mk (show UsersP l us from ⟨by omega, all_of rfl HA.out, HS.out⟩)
      clear HA HS hi0 hi hgg hlt
      have hx := blk_cell HG.out
      have hzr := blk_lt HG.out
      go_wp2
      clear hx hzr
      go_loopg [76] ss.length (fun gg v w' => ∃ i : Int, v = .int .i64 i ∧ 0 ≤ i ∧ i ≤ ss.length ∧ ss.length - i ≤ gg ∧ Aside0 (Below w.heap.size w w') ∧ Aside0 (w'.heap[w.heap.size]? = some (.cells #[.int .i64 ip, .int .i64 b, .int .i64 gate, .string gm, .string wm, .int .i64 res, .slice A6 g.length c6, .slice A7 l.length c7] 41 (0, 0))) ∧ Aside0 (w'.heap[w.heap.size + 1]? = some (.cells #[.slice B0 us.length d0, .slice B1 ss.length d1, .slice B2 fs.length d2, .slice B3 rs.length d3, .int .i64 nx] 48 (0, 0))) ∧ Aside0 (∀ j : Int, 0 ≤ j → j < i → SessionP ip b nx us.length (ss.getD j.toNat z76)) ∧ Aside0 (∀ j : Int, 0 ≤ j → j < i → SessUpP ss j ∧ ApartP ss j))
      case atStart => exact ⟨0, rfl, Int.le_refl _, by omega, by omega, HB, HX, HG, ⟨fun j h0 h1 => by omega⟩, ⟨fun j h0 h1 => by omega⟩⟩
      case round =>
        clear HB HX HG
        obtain ⟨i, rfl, hi0, hi, hgg, HB, HX, HG, HA, HS⟩ := hrel
        by_cases hlt : i < ss.length
        · obtain ⟨ad, eA, hrow⟩ := at_T76 (Kd.C_below H0.out.2.2.2.1 HB.out) i hi0 hlt
          have HM := Aside0.mk (HZ.out.2.2.1 _ (rdmem (z := z76) hi0 hlt))
          subst eA
          have hx := blk_cell HG.out
          have hzr := blk_lt HG.out
          have HP := Aside0.mk True.intro
          have el : (ss.take i.toNat).length = i.toNat := by rw [List.length_take]; omega
          go_wp2_with (first
            | (go_at_call 49; go_loud (refine (containsTake 50 #[.pointer (some ⟨wr.heap.size, 0, none⟩)] (enters_ Tryz.func50 (by kernel_rfl) rfl) (ClashP (rd_T76 ss i)) (some ad) d1 (ss.take i.toNat) i.toNat _ el (by omega) (fun W x hx hb => iClash1 (rd_T76 ss i) x wr.heap.size W (blk_below (blk_new _ _) hb)) (C_take (Kd.C_below H0.out.2.2.2.1 (by repeat' (with_reducible first | exact HB.out | apply below_alloc | apply below_drew1 | refine below_set ?_ (by omega)))) _ (by omega))).mono ?_; rintro e w2 (⟨rfl, hr, hb⟩ | ⟨rfl, hr, hb⟩) <;> (have n_ := Aside0.mk (And.intro hr HP.out); clear HP hr; have HP := n_; clear n_; have n_ := Aside0.mk (below_step (w := w) (by repeat' (with_reducible first | exact HB.out | apply below_alloc | apply below_drew1 | refine below_set ?_ (by omega))) hb); clear HB; have HB := n_; clear n_; have n_ := Aside0.mk (blk_below (g := w.heap.size) (o := .cells #[.int .i64 ip, .int .i64 b, .int .i64 gate, .string gm, .string wm, .int .i64 res, .slice A6 g.length c6, .slice A7 l.length c7] 41 (0, 0)) (by repeat' (with_reducible first | exact HX.out | exact blk_new1 _ _ _ | exact blk_alloc (blk_new _ _) _ | refine blk_alloc ?_ _ | refine blk_drew ?_)) hb); (try clear HX); have HX := n_; clear n_; have n_ := Aside0.mk (blk_below (g := w.heap.size + 1) (o := .cells #[.slice B0 us.length d0, .slice (some ad) ss.length d1, .slice B2 fs.length d2, .slice B3 rs.length d3, .int .i64 nx] 48 (0, 0)) (by repeat' (with_reducible first | exact HG.out | exact blk_new1 _ _ _ | exact blk_alloc (blk_new _ _) _ | refine blk_alloc ?_ _ | refine blk_drew ?_)) hb); (try clear HG); have HG := n_; clear n_; obtain ⟨hc, hf⟩ := bcell hb; have hz : w.heap.size < w2.heap.size := blk_lt HX.out; have hz1 : w.heap.size + 1 < w2.heap.size := blk_lt HG.out; have HU := Aside0.mk (blk_below (blk_new wr (.cells #[.int .i64 (rd_T76 ss i).f0, .int .i64 (rd_T76 ss i).f1, .string (rd_T76 ss i).f2, .int .i64 (rd_T76 ss i).f3, .int .i64 (rd_T76 ss i).f4, .int .i64 (rd_T76 ss i).f5, .int .i64 (rd_T76 ss i).f6, .int .i64 (rd_T76 ss i).f7, .int .i64 (rd_T76 ss i).f8, .int .i64 (rd_T76 ss i).f9] 76 (0, 0))) hb); clear hb))))
          all_goals (try clear hx hzr el)
          all_goals clear hc hf hz hz1
          all_goals (obtain ⟨n0, n1⟩ := HQ.out.1; obtain ⟨kb0, kb1⟩ := netbits HQ.out.2.1.1)
          · -- a clash
            rcases Classical.em (SessionP ip b nx us.length (rd_T76 ss i)) with k1 | k1 <;> (have K1 := Aside0.mk k1; clear k1)
            · refine qS (fun w' => w'.cell? ⟨wr.heap.size, 0, none⟩ = some (.int .i64 (rd_T76 ss i).f0) ∧ w'.cell? ⟨wr.heap.size, 1, none⟩ = some (.int .i64 (rd_T76 ss i).f1) ∧ w'.cell? ⟨wr.heap.size, 2, none⟩ = some (.string (rd_T76 ss i).f2) ∧ w'.cell? ⟨wr.heap.size, 3, none⟩ = some (.int .i64 (rd_T76 ss i).f3) ∧ w'.cell? ⟨wr.heap.size, 4, none⟩ = some (.int .i64 (rd_T76 ss i).f4) ∧ w'.cell? ⟨wr.heap.size, 5, none⟩ = some (.int .i64 (rd_T76 ss i).f5) ∧ w'.cell? ⟨wr.heap.size, 6, none⟩ = some (.int .i64 (rd_T76 ss i).f6) ∧ w'.cell? ⟨wr.heap.size, 7, none⟩ = some (.int .i64 (rd_T76 ss i).f7) ∧ w'.cell? ⟨wr.heap.size, 8, none⟩ = some (.int .i64 (rd_T76 ss i).f8) ∧ w'.cell? ⟨wr.heap.size, 9, none⟩ = some (.int .i64 (rd_T76 ss i).f9) ∧ w'.cell? ⟨w.heap.size + 1, 1, none⟩ = some (.slice (some ad) ss.length d1)) 22 ⟨blk_cell HU.out 0, blk_cell HU.out 1, blk_cell HU.out 2, blk_cell HU.out 3, blk_cell HU.out 4, blk_cell HU.out 5, blk_cell HU.out 6, blk_cell HU.out 7, blk_cell HU.out 8, blk_cell HU.out 9, blk_cell HG.out 1⟩ (fun hs => ?_)
              have n_ := Aside0.mk (below_drew1 HB.out)
              clear HB
              have HB := n_
              clear n_
              have n_ := Aside0.mk (blk_drew HX.out)
              clear HX
              have HX := n_
              clear n_
              have n_ := Aside0.mk (blk_drew HG.out)
              clear HG
              have HG := n_
              clear n_
              have n_ := Aside0.mk (blk_drew HU.out)
              clear HU
              have HU := n_
              clear n_
              refine qT 0 87 hs ?_
              refine q1 1 88 (fun K hK => ?_)
              refine qC Tryz.func51 _ ?_
              refine (iSession1 ip b gate gm wm res A6 c6 g A7 c7 l B0 (some ad) B2 B3 d0 d1 d2 d3 us ss fs rs nx w.heap.size (w.heap.size + 1) (rd_T76 ss i) _ HX.out HG.out n0 n1 y0 kb0 kb1 HM.out).mono ?_
              intro e w2 h2
              obtain ⟨rfl, hb⟩ := h2.yes K1.out
              have n_ := Aside0.mk (below_step HB.out hb)
              clear HB
              have HB := n_
              clear n_
              have n_ := Aside0.mk (blk_below HX.out hb)
              clear HX
              have HX := n_
              clear n_
              have n_ := Aside0.mk (blk_below HG.out hb)
              clear HG
              have HG := n_
              clear n_
              have n_ := Aside0.mk (blk_below HU.out hb)
              clear HU
              have HU := n_
              clear n_
              refine ⟨_, rfl, hK.out _ _ ⟨pw_cell_below hb hs.1, pw_cell_below hb hs.2.1, pw_cell_below hb hs.2.2.1, pw_cell_below hb hs.2.2.2.1, pw_cell_below hb hs.2.2.2.2.1, pw_cell_below hb hs.2.2.2.2.2.1, pw_cell_below hb hs.2.2.2.2.2.2.1, pw_cell_below hb hs.2.2.2.2.2.2.2.1, pw_cell_below hb hs.2.2.2.2.2.2.2.2.1, pw_cell_below hb hs.2.2.2.2.2.2.2.2.2.1, pw_cell_below hb hs.2.2.2.2.2.2.2.2.2.2⟩ (fun hs2 => ?_)⟩
              clear hK K hs hb
              have hs := hs2
              clear hs2
              refine qN ?_
              refine qP 2 89 ?_
              refine qP 3 90 ?_
              refine qP 4 91 ?_
              refine qP 5 92 ?_
              refine qP 6 93 ?_
              refine qU 7 94 ?_
              refine qU 8 95 ?_
              refine qU 9 96 ?_
              refine qU 10 97 ?_
              refine qU 11 98 ?_
              refine qU 12 99 ?_
              refine qU 13 100 ?_
              refine qU 14 101 ?_
              refine qU 15 102 ?_
              refine qU 16 103 ?_
              refine qU 17 104 ?_
              refine qU 18 105 ?_
              refine qU 19 106 ?_
              refine qU 20 107 ?_
              refine qP 21 108 ?_
              refine qD ?_
              clear hs
              go_wp2
              go_ret
              exact .inr ⟨rfl, fun h => (h.2.2.2.2.2.2.2.1 i hi0 hlt).2 HP.out.1, HB.out⟩
            · refine qS (fun w' => w'.cell? ⟨wr.heap.size, 0, none⟩ = some (.int .i64 (rd_T76 ss i).f0) ∧ w'.cell? ⟨wr.heap.size, 1, none⟩ = some (.int .i64 (rd_T76 ss i).f1) ∧ w'.cell? ⟨wr.heap.size, 2, none⟩ = some (.string (rd_T76 ss i).f2) ∧ w'.cell? ⟨wr.heap.size, 3, none⟩ = some (.int .i64 (rd_T76 ss i).f3) ∧ w'.cell? ⟨wr.heap.size, 4, none⟩ = some (.int .i64 (rd_T76 ss i).f4) ∧ w'.cell? ⟨wr.heap.size, 5, none⟩ = some (.int .i64 (rd_T76 ss i).f5) ∧ w'.cell? ⟨wr.heap.size, 6, none⟩ = some (.int .i64 (rd_T76 ss i).f6) ∧ w'.cell? ⟨wr.heap.size, 7, none⟩ = some (.int .i64 (rd_T76 ss i).f7) ∧ w'.cell? ⟨wr.heap.size, 8, none⟩ = some (.int .i64 (rd_T76 ss i).f8) ∧ w'.cell? ⟨wr.heap.size, 9, none⟩ = some (.int .i64 (rd_T76 ss i).f9) ∧ w'.cell? ⟨w.heap.size + 1, 1, none⟩ = some (.slice (some ad) ss.length d1)) 22 ⟨blk_cell HU.out 0, blk_cell HU.out 1, blk_cell HU.out 2, blk_cell HU.out 3, blk_cell HU.out 4, blk_cell HU.out 5, blk_cell HU.out 6, blk_cell HU.out 7, blk_cell HU.out 8, blk_cell HU.out 9, blk_cell HG.out 1⟩ (fun hs => ?_)
              have n_ := Aside0.mk (below_drew1 HB.out)
              clear HB
              have HB := n_
              clear n_
              have n_ := Aside0.mk (blk_drew HX.out)
              clear HX
              have HX := n_
              clear n_
              have n_ := Aside0.mk (blk_drew HG.out)
              clear HG
              have HG := n_
              clear n_
              have n_ := Aside0.mk (blk_drew HU.out)
              clear HU
              have HU := n_
              clear n_
              refine qT 0 87 hs ?_
              refine q1 1 88 (fun K hK => ?_)
              refine qC Tryz.func51 _ ?_
              refine (iSession1 ip b gate gm wm res A6 c6 g A7 c7 l B0 (some ad) B2 B3 d0 d1 d2 d3 us ss fs rs nx w.heap.size (w.heap.size + 1) (rd_T76 ss i) _ HX.out HG.out n0 n1 y0 kb0 kb1 HM.out).mono ?_
              intro e w2 h2
              obtain ⟨rfl, hb⟩ := h2.no K1.out
              have n_ := Aside0.mk (below_step HB.out hb)
              clear HB
              have HB := n_
              clear n_
              have n_ := Aside0.mk (blk_below HX.out hb)
              clear HX
              have HX := n_
              clear n_
              have n_ := Aside0.mk (blk_below HG.out hb)
              clear HG
              have HG := n_
              clear n_
              have n_ := Aside0.mk (blk_below HU.out hb)
              clear HU
              have HU := n_
              clear n_
              refine ⟨_, rfl, hK.out _ _ ⟨pw_cell_below hb hs.1, pw_cell_below hb hs.2.1, pw_cell_below hb hs.2.2.1, pw_cell_below hb hs.2.2.2.1, pw_cell_below hb hs.2.2.2.2.1, pw_cell_below hb hs.2.2.2.2.2.1, pw_cell_below hb hs.2.2.2.2.2.2.1, pw_cell_below hb hs.2.2.2.2.2.2.2.1, pw_cell_below hb hs.2.2.2.2.2.2.2.2.1, pw_cell_below hb hs.2.2.2.2.2.2.2.2.2.1, pw_cell_below hb hs.2.2.2.2.2.2.2.2.2.2⟩ (fun hs2 => ?_)⟩
              clear hK K hs hb
              have hs := hs2
              clear hs2
              refine qN ?_
              refine qP 2 89 ?_
              refine qP 3 90 ?_
              refine qU 4 91 ?_
              refine qP 5 92 ?_
              refine qP 6 93 ?_
              refine qU 7 94 ?_
              refine qU 8 95 ?_
              refine qU 9 96 ?_
              refine qU 10 97 ?_
              refine qU 11 98 ?_
              refine qU 12 99 ?_
              refine qU 13 100 ?_
              refine qU 14 101 ?_
              refine qU 15 102 ?_
              refine qU 16 103 ?_
              refine qU 17 104 ?_
              refine qU 18 105 ?_
              refine qU 19 106 ?_
              refine qU 20 107 ?_
              refine qP 21 108 ?_
              refine qD ?_
              clear hs
              go_wp2
              go_ret
              exact .inr ⟨rfl, fun h => K1.out (h.2.2.2.2.2.2.1 _ (rdmem (z := z76) hi0 hlt)), HB.out⟩
          · rcases Classical.em (SessionP ip b nx us.length (rd_T76 ss i)) with k1 | k1 <;> (have K1 := Aside0.mk k1; clear k1)
            rotate_left
            · refine qS (fun w' => w'.cell? ⟨wr.heap.size, 0, none⟩ = some (.int .i64 (rd_T76 ss i).f0) ∧ w'.cell? ⟨wr.heap.size, 1, none⟩ = some (.int .i64 (rd_T76 ss i).f1) ∧ w'.cell? ⟨wr.heap.size, 2, none⟩ = some (.string (rd_T76 ss i).f2) ∧ w'.cell? ⟨wr.heap.size, 3, none⟩ = some (.int .i64 (rd_T76 ss i).f3) ∧ w'.cell? ⟨wr.heap.size, 4, none⟩ = some (.int .i64 (rd_T76 ss i).f4) ∧ w'.cell? ⟨wr.heap.size, 5, none⟩ = some (.int .i64 (rd_T76 ss i).f5) ∧ w'.cell? ⟨wr.heap.size, 6, none⟩ = some (.int .i64 (rd_T76 ss i).f6) ∧ w'.cell? ⟨wr.heap.size, 7, none⟩ = some (.int .i64 (rd_T76 ss i).f7) ∧ w'.cell? ⟨wr.heap.size, 8, none⟩ = some (.int .i64 (rd_T76 ss i).f8) ∧ w'.cell? ⟨wr.heap.size, 9, none⟩ = some (.int .i64 (rd_T76 ss i).f9) ∧ w'.cell? ⟨w.heap.size + 1, 1, none⟩ = some (.slice (some ad) ss.length d1)) 22 ⟨blk_cell HU.out 0, blk_cell HU.out 1, blk_cell HU.out 2, blk_cell HU.out 3, blk_cell HU.out 4, blk_cell HU.out 5, blk_cell HU.out 6, blk_cell HU.out 7, blk_cell HU.out 8, blk_cell HU.out 9, blk_cell HG.out 1⟩ (fun hs => ?_)
              have n_ := Aside0.mk (below_drew1 HB.out)
              clear HB
              have HB := n_
              clear n_
              have n_ := Aside0.mk (blk_drew HX.out)
              clear HX
              have HX := n_
              clear n_
              have n_ := Aside0.mk (blk_drew HG.out)
              clear HG
              have HG := n_
              clear n_
              have n_ := Aside0.mk (blk_drew HU.out)
              clear HU
              have HU := n_
              clear n_
              refine qT 0 87 hs ?_
              refine q1 1 88 (fun K hK => ?_)
              refine qC Tryz.func51 _ ?_
              refine (iSession1 ip b gate gm wm res A6 c6 g A7 c7 l B0 (some ad) B2 B3 d0 d1 d2 d3 us ss fs rs nx w.heap.size (w.heap.size + 1) (rd_T76 ss i) _ HX.out HG.out n0 n1 y0 kb0 kb1 HM.out).mono ?_
              intro e w2 h2
              obtain ⟨rfl, hb⟩ := h2.no K1.out
              have n_ := Aside0.mk (below_step HB.out hb)
              clear HB
              have HB := n_
              clear n_
              have n_ := Aside0.mk (blk_below HX.out hb)
              clear HX
              have HX := n_
              clear n_
              have n_ := Aside0.mk (blk_below HG.out hb)
              clear HG
              have HG := n_
              clear n_
              have n_ := Aside0.mk (blk_below HU.out hb)
              clear HU
              have HU := n_
              clear n_
              refine ⟨_, rfl, hK.out _ _ ⟨pw_cell_below hb hs.1, pw_cell_below hb hs.2.1, pw_cell_below hb hs.2.2.1, pw_cell_below hb hs.2.2.2.1, pw_cell_below hb hs.2.2.2.2.1, pw_cell_below hb hs.2.2.2.2.2.1, pw_cell_below hb hs.2.2.2.2.2.2.1, pw_cell_below hb hs.2.2.2.2.2.2.2.1, pw_cell_below hb hs.2.2.2.2.2.2.2.2.1, pw_cell_below hb hs.2.2.2.2.2.2.2.2.2.1, pw_cell_below hb hs.2.2.2.2.2.2.2.2.2.2⟩ (fun hs2 => ?_)⟩
              clear hK K hs hb
              have hs := hs2
              clear hs2
              refine qN ?_
              refine qP 2 89 ?_
              refine qP 3 90 ?_
              refine qU 4 91 ?_
              refine qP 5 92 ?_
              refine qP 6 93 ?_
              refine qU 7 94 ?_
              refine qU 8 95 ?_
              refine qU 9 96 ?_
              refine qU 10 97 ?_
              refine qU 11 98 ?_
              refine qU 12 99 ?_
              refine qU 13 100 ?_
              refine qU 14 101 ?_
              refine qU 15 102 ?_
              refine qU 16 103 ?_
              refine qU 17 104 ?_
              refine qU 18 105 ?_
              refine qU 19 106 ?_
              refine qU 20 107 ?_
              refine qP 21 108 ?_
              refine qD ?_
              clear hs
              go_wp2
              go_ret
              exact .inr ⟨rfl, fun h => K1.out (h.2.2.2.2.2.2.1 _ (rdmem (z := z76) hi0 hlt)), HB.out⟩
            rcases dec_em (0 < i) with ⟨k7, b7⟩ | ⟨k7, b7⟩
            rotate_left
            · refine qS (fun w' => w'.cell? ⟨wr.heap.size, 0, none⟩ = some (.int .i64 (rd_T76 ss i).f0) ∧ w'.cell? ⟨wr.heap.size, 1, none⟩ = some (.int .i64 (rd_T76 ss i).f1) ∧ w'.cell? ⟨wr.heap.size, 2, none⟩ = some (.string (rd_T76 ss i).f2) ∧ w'.cell? ⟨wr.heap.size, 3, none⟩ = some (.int .i64 (rd_T76 ss i).f3) ∧ w'.cell? ⟨wr.heap.size, 4, none⟩ = some (.int .i64 (rd_T76 ss i).f4) ∧ w'.cell? ⟨wr.heap.size, 5, none⟩ = some (.int .i64 (rd_T76 ss i).f5) ∧ w'.cell? ⟨wr.heap.size, 6, none⟩ = some (.int .i64 (rd_T76 ss i).f6) ∧ w'.cell? ⟨wr.heap.size, 7, none⟩ = some (.int .i64 (rd_T76 ss i).f7) ∧ w'.cell? ⟨wr.heap.size, 8, none⟩ = some (.int .i64 (rd_T76 ss i).f8) ∧ w'.cell? ⟨wr.heap.size, 9, none⟩ = some (.int .i64 (rd_T76 ss i).f9) ∧ w'.cell? ⟨w.heap.size + 1, 1, none⟩ = some (.slice (some ad) ss.length d1)) 22 ⟨blk_cell HU.out 0, blk_cell HU.out 1, blk_cell HU.out 2, blk_cell HU.out 3, blk_cell HU.out 4, blk_cell HU.out 5, blk_cell HU.out 6, blk_cell HU.out 7, blk_cell HU.out 8, blk_cell HU.out 9, blk_cell HG.out 1⟩ (fun hs => ?_)
              have n_ := Aside0.mk (below_drew1 HB.out)
              clear HB
              have HB := n_
              clear n_
              have n_ := Aside0.mk (blk_drew HX.out)
              clear HX
              have HX := n_
              clear n_
              have n_ := Aside0.mk (blk_drew HG.out)
              clear HG
              have HG := n_
              clear n_
              have n_ := Aside0.mk (blk_drew HU.out)
              clear HU
              have HU := n_
              clear n_
              refine qT 0 87 hs ?_
              refine q1 1 88 (fun K hK => ?_)
              refine qC Tryz.func51 _ ?_
              refine (iSession1 ip b gate gm wm res A6 c6 g A7 c7 l B0 (some ad) B2 B3 d0 d1 d2 d3 us ss fs rs nx w.heap.size (w.heap.size + 1) (rd_T76 ss i) _ HX.out HG.out n0 n1 y0 kb0 kb1 HM.out).mono ?_
              intro e w2 h2
              obtain ⟨rfl, hb⟩ := h2.yes K1.out
              have n_ := Aside0.mk (below_step HB.out hb)
              clear HB
              have HB := n_
              clear n_
              have n_ := Aside0.mk (blk_below HX.out hb)
              clear HX
              have HX := n_
              clear n_
              have n_ := Aside0.mk (blk_below HG.out hb)
              clear HG
              have HG := n_
              clear n_
              have n_ := Aside0.mk (blk_below HU.out hb)
              clear HU
              have HU := n_
              clear n_
              refine ⟨_, rfl, hK.out _ _ ⟨pw_cell_below hb hs.1, pw_cell_below hb hs.2.1, pw_cell_below hb hs.2.2.1, pw_cell_below hb hs.2.2.2.1, pw_cell_below hb hs.2.2.2.2.1, pw_cell_below hb hs.2.2.2.2.2.1, pw_cell_below hb hs.2.2.2.2.2.2.1, pw_cell_below hb hs.2.2.2.2.2.2.2.1, pw_cell_below hb hs.2.2.2.2.2.2.2.2.1, pw_cell_below hb hs.2.2.2.2.2.2.2.2.2.1, pw_cell_below hb hs.2.2.2.2.2.2.2.2.2.2⟩ (fun hs2 => ?_)⟩
              clear hK K hs hb
              have hs := hs2
              clear hs2
              refine qN ?_
              refine qP 2 89 ?_
              refine qP 3 90 ?_
              refine qP 4 91 ?_
              refine qP 5 92 ?_
              refine qP 6 93 ?_
              refine qP 7 94 ?_
              refine qP 8 95 ?_
              refine qP 9 96 ?_
              refine qU 10 97 ?_
              refine qU 11 98 ?_
              refine qU 12 99 ?_
              refine qU 13 100 ?_
              refine qU 14 101 ?_
              refine qU 15 102 ?_
              refine qU 16 103 ?_
              refine qU 17 104 ?_
              refine qU 18 105 ?_
              refine qU 19 106 ?_
              refine qP 20 107 ?_
              refine qP 21 108 ?_
              refine qD ?_
              clear hs
              go_wp2
              go_roundg (ss.length - (i + 1)).toNat
              case measure => omega
              case rel => exact ⟨i + 1, rfl, by omega, by omega, by omega, HB, HX, HG, ⟨fun j h0 h1 => by
                by_cases hj : j < i
                · exact HA.out j h0 hj
                · obtain rfl : j = i := by omega
                  exact K1.out⟩, ⟨fun j h0 h1 => by
                by_cases hj : j < i
                · exact HS.out j h0 hj
                · obtain rfl : j = i := by omega
                  exact ⟨fun h => absurd h (by omega), HP.out.1⟩⟩⟩
            obtain ⟨pd, eP, q0, _⟩ := at_T76 (Kd.C_below H0.out.2.2.2.1 HB.out) (i - 1) (by omega) (by omega)
            obtain rfl : ad = pd := Option.some.inj eP
            have hwr : IntKind.i64.wrap (i - 1) = i - 1 := i64id (by omega) (by omega)
            have h1m : 1 ≤ i := by omega
            have h2m : i - 1 < (ss.length : Int) := by omega
            rw [show (i - 1).toNat = i.toNat - 1 by omega] at q0
            clear eP
            rcases dec_em ((rd_T76 ss (i - 1)).f0 ≥ (rd_T76 ss i).f0) with ⟨k8, b8⟩ | ⟨k8, b8⟩
            · refine qS (fun w' => w'.cell? ⟨wr.heap.size, 0, none⟩ = some (.int .i64 (rd_T76 ss i).f0) ∧ w'.cell? ⟨wr.heap.size, 1, none⟩ = some (.int .i64 (rd_T76 ss i).f1) ∧ w'.cell? ⟨wr.heap.size, 2, none⟩ = some (.string (rd_T76 ss i).f2) ∧ w'.cell? ⟨wr.heap.size, 3, none⟩ = some (.int .i64 (rd_T76 ss i).f3) ∧ w'.cell? ⟨wr.heap.size, 4, none⟩ = some (.int .i64 (rd_T76 ss i).f4) ∧ w'.cell? ⟨wr.heap.size, 5, none⟩ = some (.int .i64 (rd_T76 ss i).f5) ∧ w'.cell? ⟨wr.heap.size, 6, none⟩ = some (.int .i64 (rd_T76 ss i).f6) ∧ w'.cell? ⟨wr.heap.size, 7, none⟩ = some (.int .i64 (rd_T76 ss i).f7) ∧ w'.cell? ⟨wr.heap.size, 8, none⟩ = some (.int .i64 (rd_T76 ss i).f8) ∧ w'.cell? ⟨wr.heap.size, 9, none⟩ = some (.int .i64 (rd_T76 ss i).f9) ∧ w'.cell? ⟨w.heap.size + 1, 1, none⟩ = some (.slice (some ad) ss.length d1) ∧ w'.cell? (ad.add ((i.toNat - 1) * 10)) = some (.int .i64 (rd_T76 ss (i - 1)).f0)) 22 ⟨blk_cell HU.out 0, blk_cell HU.out 1, blk_cell HU.out 2, blk_cell HU.out 3, blk_cell HU.out 4, blk_cell HU.out 5, blk_cell HU.out 6, blk_cell HU.out 7, blk_cell HU.out 8, blk_cell HU.out 9, blk_cell HG.out 1, q0⟩ (fun hs => ?_)
              have n_ := Aside0.mk (below_drew1 HB.out)
              clear HB
              have HB := n_
              clear n_
              have n_ := Aside0.mk (blk_drew HX.out)
              clear HX
              have HX := n_
              clear n_
              have n_ := Aside0.mk (blk_drew HG.out)
              clear HG
              have HG := n_
              clear n_
              have n_ := Aside0.mk (blk_drew HU.out)
              clear HU
              have HU := n_
              clear n_
              refine qT 0 87 hs ?_
              refine q1 1 88 (fun K hK => ?_)
              refine qC Tryz.func51 _ ?_
              refine (iSession1 ip b gate gm wm res A6 c6 g A7 c7 l B0 (some ad) B2 B3 d0 d1 d2 d3 us ss fs rs nx w.heap.size (w.heap.size + 1) (rd_T76 ss i) _ HX.out HG.out n0 n1 y0 kb0 kb1 HM.out).mono ?_
              intro e w2 h2
              obtain ⟨rfl, hb⟩ := h2.yes K1.out
              have n_ := Aside0.mk (below_step HB.out hb)
              clear HB
              have HB := n_
              clear n_
              have n_ := Aside0.mk (blk_below HX.out hb)
              clear HX
              have HX := n_
              clear n_
              have n_ := Aside0.mk (blk_below HG.out hb)
              clear HG
              have HG := n_
              clear n_
              have n_ := Aside0.mk (blk_below HU.out hb)
              clear HU
              have HU := n_
              clear n_
              refine ⟨_, rfl, hK.out _ _ ⟨pw_cell_below hb hs.1, pw_cell_below hb hs.2.1, pw_cell_below hb hs.2.2.1, pw_cell_below hb hs.2.2.2.1, pw_cell_below hb hs.2.2.2.2.1, pw_cell_below hb hs.2.2.2.2.2.1, pw_cell_below hb hs.2.2.2.2.2.2.1, pw_cell_below hb hs.2.2.2.2.2.2.2.1, pw_cell_below hb hs.2.2.2.2.2.2.2.2.1, pw_cell_below hb hs.2.2.2.2.2.2.2.2.2.1, pw_cell_below hb hs.2.2.2.2.2.2.2.2.2.2.1, pw_cell_below hb hs.2.2.2.2.2.2.2.2.2.2.2⟩ (fun hs2 => ?_)⟩
              clear hK K hs hb
              have hs := hs2
              clear hs2
              refine qN ?_
              refine qP 2 89 ?_
              refine qP 3 90 ?_
              refine qP 4 91 ?_
              refine qP 5 92 ?_
              refine qP 6 93 ?_
              refine qP 7 94 ?_
              refine qP 8 95 ?_
              refine qP 9 96 ?_
              refine qP 10 97 ?_
              refine qP 12 99 ?_
              refine qP 13 100 ?_
              refine qP 17 104 ?_
              refine qT 11 98 hs ?_
              refine qP 14 101 ?_
              refine qP 15 102 ?_
              refine qT 16 103 hs ?_
              refine qT 18 105 hs ?_
              refine qP 19 106 ?_
              refine qP 20 107 ?_
              refine qP 21 108 ?_
              refine qD ?_
              clear hs
              go_wp2
              go_ret
              exact .inr ⟨rfl, fun h => absurd ((h.2.2.2.2.2.2.2.1 i hi0 hlt).1 k7) (by omega), HB.out⟩
            · refine qS (fun w' => w'.cell? ⟨wr.heap.size, 0, none⟩ = some (.int .i64 (rd_T76 ss i).f0) ∧ w'.cell? ⟨wr.heap.size, 1, none⟩ = some (.int .i64 (rd_T76 ss i).f1) ∧ w'.cell? ⟨wr.heap.size, 2, none⟩ = some (.string (rd_T76 ss i).f2) ∧ w'.cell? ⟨wr.heap.size, 3, none⟩ = some (.int .i64 (rd_T76 ss i).f3) ∧ w'.cell? ⟨wr.heap.size, 4, none⟩ = some (.int .i64 (rd_T76 ss i).f4) ∧ w'.cell? ⟨wr.heap.size, 5, none⟩ = some (.int .i64 (rd_T76 ss i).f5) ∧ w'.cell? ⟨wr.heap.size, 6, none⟩ = some (.int .i64 (rd_T76 ss i).f6) ∧ w'.cell? ⟨wr.heap.size, 7, none⟩ = some (.int .i64 (rd_T76 ss i).f7) ∧ w'.cell? ⟨wr.heap.size, 8, none⟩ = some (.int .i64 (rd_T76 ss i).f8) ∧ w'.cell? ⟨wr.heap.size, 9, none⟩ = some (.int .i64 (rd_T76 ss i).f9) ∧ w'.cell? ⟨w.heap.size + 1, 1, none⟩ = some (.slice (some ad) ss.length d1) ∧ w'.cell? (ad.add ((i.toNat - 1) * 10)) = some (.int .i64 (rd_T76 ss (i - 1)).f0)) 22 ⟨blk_cell HU.out 0, blk_cell HU.out 1, blk_cell HU.out 2, blk_cell HU.out 3, blk_cell HU.out 4, blk_cell HU.out 5, blk_cell HU.out 6, blk_cell HU.out 7, blk_cell HU.out 8, blk_cell HU.out 9, blk_cell HG.out 1, q0⟩ (fun hs => ?_)
              have n_ := Aside0.mk (below_drew1 HB.out)
              clear HB
              have HB := n_
              clear n_
              have n_ := Aside0.mk (blk_drew HX.out)
              clear HX
              have HX := n_
              clear n_
              have n_ := Aside0.mk (blk_drew HG.out)
              clear HG
              have HG := n_
              clear n_
              have n_ := Aside0.mk (blk_drew HU.out)
              clear HU
              have HU := n_
              clear n_
              refine qT 0 87 hs ?_
              refine q1 1 88 (fun K hK => ?_)
              refine qC Tryz.func51 _ ?_
              refine (iSession1 ip b gate gm wm res A6 c6 g A7 c7 l B0 (some ad) B2 B3 d0 d1 d2 d3 us ss fs rs nx w.heap.size (w.heap.size + 1) (rd_T76 ss i) _ HX.out HG.out n0 n1 y0 kb0 kb1 HM.out).mono ?_
              intro e w2 h2
              obtain ⟨rfl, hb⟩ := h2.yes K1.out
              have n_ := Aside0.mk (below_step HB.out hb)
              clear HB
              have HB := n_
              clear n_
              have n_ := Aside0.mk (blk_below HX.out hb)
              clear HX
              have HX := n_
              clear n_
              have n_ := Aside0.mk (blk_below HG.out hb)
              clear HG
              have HG := n_
              clear n_
              have n_ := Aside0.mk (blk_below HU.out hb)
              clear HU
              have HU := n_
              clear n_
              refine ⟨_, rfl, hK.out _ _ ⟨pw_cell_below hb hs.1, pw_cell_below hb hs.2.1, pw_cell_below hb hs.2.2.1, pw_cell_below hb hs.2.2.2.1, pw_cell_below hb hs.2.2.2.2.1, pw_cell_below hb hs.2.2.2.2.2.1, pw_cell_below hb hs.2.2.2.2.2.2.1, pw_cell_below hb hs.2.2.2.2.2.2.2.1, pw_cell_below hb hs.2.2.2.2.2.2.2.2.1, pw_cell_below hb hs.2.2.2.2.2.2.2.2.2.1, pw_cell_below hb hs.2.2.2.2.2.2.2.2.2.2.1, pw_cell_below hb hs.2.2.2.2.2.2.2.2.2.2.2⟩ (fun hs2 => ?_)⟩
              clear hK K hs hb
              have hs := hs2
              clear hs2
              refine qN ?_
              refine qP 2 89 ?_
              refine qP 3 90 ?_
              refine qP 4 91 ?_
              refine qP 5 92 ?_
              refine qP 6 93 ?_
              refine qP 7 94 ?_
              refine qP 8 95 ?_
              refine qP 9 96 ?_
              refine qP 10 97 ?_
              refine qP 12 99 ?_
              refine qP 13 100 ?_
              refine qP 17 104 ?_
              refine qT 11 98 hs ?_
              refine qP 14 101 ?_
              refine qP 15 102 ?_
              refine qT 16 103 hs ?_
              refine qT 18 105 hs ?_
              refine qP 19 106 ?_
              refine qP 20 107 ?_
              refine qP 21 108 ?_
              refine qD ?_
              clear hs
              clear q0 hwr h1m h2m
              go_wp2
              go_roundg (ss.length - (i + 1)).toNat
              case measure => omega
              case rel => exact ⟨i + 1, rfl, by omega, by omega, by omega, HB, HX, HG, ⟨fun j h0 h1 => by
                by_cases hj : j < i
                · exact HA.out j h0 hj
                · obtain rfl : j = i := by omega
                  exact K1.out⟩, ⟨fun j h0 h1 => by
                by_cases hj : j < i
                · exact HS.out j h0 hj
                · obtain rfl : j = i := by omega
                  exact ⟨fun _ => by omega, HP.out.1⟩⟩⟩
        · obtain rfl : i = ss.length := by omega
          have HSS := Aside0.mk (And.intro (all_of rfl HA.out) HS.out)
          clear HA HS hi0 hi hgg hlt
          have hx := blk_cell HG.out
          have hzr := blk_lt HG.out
          go_wp2
          clear hx hzr
          go_loopg [113] fs.length (fun gg v w' => ∃ i : Int, v = .int .i64 i ∧ 0 ≤ i ∧ i ≤ fs.length ∧ fs.length - i ≤ gg ∧ Aside0 (Below w.heap.size w w') ∧ Aside0 (w'.heap[w.heap.size]? = some (.cells #[.int .i64 ip, .int .i64 b, .int .i64 gate, .string gm, .string wm, .int .i64 res, .slice A6 g.length c6, .slice A7 l.length c7] 41 (0, 0))) ∧ Aside0 (w'.heap[w.heap.size + 1]? = some (.cells #[.slice B0 us.length d0, .slice B1 ss.length d1, .slice B2 fs.length d2, .slice B3 rs.length d3, .int .i64 nx] 48 (0, 0))) ∧ Aside0 (∀ j : Int, 0 ≤ j → j < i → FailP (fs.getD j.toNat z81)) ∧ Aside0 (∀ j : Int, 0 ≤ j → j < i → FailUpP fs j))
          case atStart => exact ⟨0, rfl, Int.le_refl _, by omega, by omega, HB, HX, HG, ⟨fun j h0 h1 => by omega⟩, ⟨fun j h0 h1 => by omega⟩⟩
          case round =>
            clear HB HX HG
            obtain ⟨i, rfl, hi0, hi, hgg, HB, HX, HG, HA, HS⟩ := hrel
            by_cases hlt : i < fs.length
            · obtain ⟨ad, eA, hrow⟩ := at_T81 (Kd.C_below H0.out.2.2.2.2.1 HB.out) i hi0 hlt
              have HM := Aside0.mk (HZ.out.2.2.2 _ (rdmem (z := z81) hi0 hlt))
              subst eA
              go_wp2
              generalize hW : wr.alloc (.cells #[.string (rd_T81 fs i).f0, .int .i64 (rd_T81 fs i).f1, .int .i64 (rd_T81 fs i).f2] 81 (0, 0)) = W0 at *
              have hB0 : Below wr.heap.size wr W0 := by rw [← hW]; exact below_alloc (Below.refl _ _) _
              have hub : W0.heap[wr.heap.size]? = some (.cells #[.string (rd_T81 fs i).f0, .int .i64 (rd_T81 fs i).f1, .int .i64 (rd_T81 fs i).f2] 81 (0, 0)) := by rw [← hW]; exact blk_new _ _
              have n_ := And.intro (Aside0.mk (below_step HB.out hB0)) (And.intro (Aside0.mk (blk_below HX.out hB0)) (Aside0.mk (blk_below HG.out hB0)))
              clear HB HX HG
              obtain ⟨HB, HX, HG⟩ := n_
              clear hB0 hW hrow
              rcases Classical.em (FailP (rd_T81 fs i)) with k1 | k1 <;> (have K1 := Aside0.mk k1; clear k1)
              rotate_left
              · refine qS (fun w' => w'.cell? ⟨wr.heap.size, 0, none⟩ = some (.string (rd_T81 fs i).f0) ∧ w'.cell? ⟨wr.heap.size, 1, none⟩ = some (.int .i64 (rd_T81 fs i).f1) ∧ w'.cell? ⟨wr.heap.size, 2, none⟩ = some (.int .i64 (rd_T81 fs i).f2) ∧ w'.cell? ⟨w.heap.size + 1, 2, none⟩ = some (.slice (some ad) fs.length d2)) 19 ⟨blk_cell hub 0, blk_cell hub 1, blk_cell hub 2, blk_cell HG.out 2⟩ (fun hs => ?_)
                have n_ := Aside0.mk (below_drew1 HB.out)
                clear HB
                have HB := n_
                clear n_
                have n_ := Aside0.mk (blk_drew HX.out)
                clear HX
                have HX := n_
                clear n_
                have n_ := Aside0.mk (blk_drew HG.out)
                clear HG
                have HG := n_
                clear n_
                refine qT 0 118 hs ?_
                refine q1 1 119 (fun K hK => ?_)
                refine qC Tryz.func52 _ ?_
                refine (iFail1 (rd_T81 fs i) _ HM.out).mono ?_
                intro e w2 h2
                obtain ⟨rfl, hb⟩ := h2.no K1.out
                have n_ := Aside0.mk (below_step HB.out hb)
                clear HB
                have HB := n_
                clear n_
                have n_ := Aside0.mk (blk_below HX.out hb)
                clear HX
                have HX := n_
                clear n_
                have n_ := Aside0.mk (blk_below HG.out hb)
                clear HG
                have HG := n_
                clear n_
                refine ⟨_, rfl, hK.out _ _ ⟨pw_cell_below hb hs.1, pw_cell_below hb hs.2.1, pw_cell_below hb hs.2.2.1, pw_cell_below hb hs.2.2.2⟩ (fun hs2 => ?_)⟩
                clear hK K hs hb
                have hs := hs2
                clear hs2
                refine qN ?_
                refine qP 2 120 ?_
                refine qP 3 121 ?_
                refine qU 4 122 ?_
                refine qU 5 123 ?_
                refine qU 6 124 ?_
                refine qU 7 125 ?_
                refine qU 8 126 ?_
                refine qU 9 127 ?_
                refine qU 10 128 ?_
                refine qU 11 129 ?_
                refine qU 12 130 ?_
                refine qU 13 131 ?_
                refine qU 14 132 ?_
                refine qU 15 133 ?_
                refine qU 16 134 ?_
                refine qU 17 135 ?_
                refine qP 18 136 ?_
                refine qD ?_
                clear hs
                go_wp2
                go_ret
                exact .inr ⟨rfl, fun h => K1.out (h.2.2.2.2.2.2.2.2.1 _ (rdmem (z := z81) hi0 hlt)), HB.out⟩
              rcases dec_em (0 < i) with ⟨k7, b7⟩ | ⟨k7, b7⟩
              rotate_left
              · refine qS (fun w' => w'.cell? ⟨wr.heap.size, 0, none⟩ = some (.string (rd_T81 fs i).f0) ∧ w'.cell? ⟨wr.heap.size, 1, none⟩ = some (.int .i64 (rd_T81 fs i).f1) ∧ w'.cell? ⟨wr.heap.size, 2, none⟩ = some (.int .i64 (rd_T81 fs i).f2) ∧ w'.cell? ⟨w.heap.size + 1, 2, none⟩ = some (.slice (some ad) fs.length d2)) 19 ⟨blk_cell hub 0, blk_cell hub 1, blk_cell hub 2, blk_cell HG.out 2⟩ (fun hs => ?_)
                have n_ := Aside0.mk (below_drew1 HB.out)
                clear HB
                have HB := n_
                clear n_
                have n_ := Aside0.mk (blk_drew HX.out)
                clear HX
                have HX := n_
                clear n_
                have n_ := Aside0.mk (blk_drew HG.out)
                clear HG
                have HG := n_
                clear n_
                refine qT 0 118 hs ?_
                refine q1 1 119 (fun K hK => ?_)
                refine qC Tryz.func52 _ ?_
                refine (iFail1 (rd_T81 fs i) _ HM.out).mono ?_
                intro e w2 h2
                obtain ⟨rfl, hb⟩ := h2.yes K1.out
                have n_ := Aside0.mk (below_step HB.out hb)
                clear HB
                have HB := n_
                clear n_
                have n_ := Aside0.mk (blk_below HX.out hb)
                clear HX
                have HX := n_
                clear n_
                have n_ := Aside0.mk (blk_below HG.out hb)
                clear HG
                have HG := n_
                clear n_
                refine ⟨_, rfl, hK.out _ _ ⟨pw_cell_below hb hs.1, pw_cell_below hb hs.2.1, pw_cell_below hb hs.2.2.1, pw_cell_below hb hs.2.2.2⟩ (fun hs2 => ?_)⟩
                clear hK K hs hb
                have hs := hs2
                clear hs2
                refine qN ?_
                refine qP 2 120 ?_
                refine qP 3 121 ?_
                refine qP 4 122 ?_
                refine qP 5 123 ?_
                refine qP 6 124 ?_
                refine qU 7 125 ?_
                refine qU 8 126 ?_
                refine qU 9 127 ?_
                refine qU 10 128 ?_
                refine qU 11 129 ?_
                refine qU 12 130 ?_
                refine qU 13 131 ?_
                refine qU 14 132 ?_
                refine qU 15 133 ?_
                refine qU 16 134 ?_
                refine qP 17 135 ?_
                refine qP 18 136 ?_
                refine qD ?_
                clear hs
                go_wp2
                go_roundg (fs.length - (i + 1)).toNat
                case measure => omega
                case rel => exact ⟨i + 1, rfl, by omega, by omega, by omega, HB, HX, HG, ⟨fun j h0 h1 => by
                  by_cases hj : j < i
                  · exact HA.out j h0 hj
                  · obtain rfl : j = i := by omega
                    exact K1.out⟩, ⟨fun j h0 h1 => by
                  by_cases hj : j < i
                  · exact HS.out j h0 hj
                  · intro h2; omega⟩⟩
              obtain ⟨pd, eP, q0, _⟩ := at_T81 (Kd.C_below H0.out.2.2.2.2.1 HB.out) (i - 1) (by omega) (by omega)
              obtain rfl : ad = pd := Option.some.inj eP
              have hwr : IntKind.i64.wrap (i - 1) = i - 1 := i64id (by omega) (by omega)
              have h1m : 1 ≤ i := by omega
              have h2m : i - 1 < (fs.length : Int) := by omega
              rw [show (i - 1).toNat = i.toNat - 1 by omega] at q0
              clear eP
              rcases bool_em (Op.bytesLess (rd_T81 fs (i - 1)).f0.toList (rd_T81 fs i).f0.toList) with k8 | k8
              · have K8 := Aside0.mk k8
                refine qS (fun w' => w'.cell? ⟨wr.heap.size, 0, none⟩ = some (.string (rd_T81 fs i).f0) ∧ w'.cell? ⟨wr.heap.size, 1, none⟩ = some (.int .i64 (rd_T81 fs i).f1) ∧ w'.cell? ⟨wr.heap.size, 2, none⟩ = some (.int .i64 (rd_T81 fs i).f2) ∧ w'.cell? ⟨w.heap.size + 1, 2, none⟩ = some (.slice (some ad) fs.length d2) ∧ w'.cell? (ad.add ((i.toNat - 1) * 3)) = some (.string (rd_T81 fs (i - 1)).f0)) 19 ⟨blk_cell hub 0, blk_cell hub 1, blk_cell hub 2, blk_cell HG.out 2, q0⟩ (fun hs => ?_)
                have n_ := Aside0.mk (below_drew1 HB.out)
                clear HB
                have HB := n_
                clear n_
                have n_ := Aside0.mk (blk_drew HX.out)
                clear HX
                have HX := n_
                clear n_
                have n_ := Aside0.mk (blk_drew HG.out)
                clear HG
                have HG := n_
                clear n_
                refine qT 0 118 hs ?_
                refine q1 1 119 (fun K hK => ?_)
                refine qC Tryz.func52 _ ?_
                refine (iFail1 (rd_T81 fs i) _ HM.out).mono ?_
                intro e w2 h2
                obtain ⟨rfl, hb⟩ := h2.yes K1.out
                have n_ := Aside0.mk (below_step HB.out hb)
                clear HB
                have HB := n_
                clear n_
                have n_ := Aside0.mk (blk_below HX.out hb)
                clear HX
                have HX := n_
                clear n_
                have n_ := Aside0.mk (blk_below HG.out hb)
                clear HG
                have HG := n_
                clear n_
                refine ⟨_, rfl, hK.out _ _ ⟨pw_cell_below hb hs.1, pw_cell_below hb hs.2.1, pw_cell_below hb hs.2.2.1, pw_cell_below hb hs.2.2.2.1, pw_cell_below hb hs.2.2.2.2⟩ (fun hs2 => ?_)⟩
                clear hK K hs hb
                have hs := hs2
                clear hs2
                refine qN ?_
                refine qP 2 120 ?_
                refine qP 3 121 ?_
                refine qP 4 122 ?_
                refine qP 5 123 ?_
                refine qP 6 124 ?_
                refine qP 7 125 ?_
                refine qP 9 127 ?_
                refine qP 10 128 ?_
                refine qP 14 132 ?_
                refine qT 8 126 hs ?_
                refine qP 11 129 ?_
                refine qP 12 130 ?_
                refine qT 13 131 hs ?_
                refine qT 15 133 hs ?_
                refine qP 16 134 ?_
                refine qP 17 135 ?_
                refine qP 18 136 ?_
                refine qD ?_
                clear hs
                clear k8 q0 hwr h1m h2m
                go_wp2
                go_roundg (fs.length - (i + 1)).toNat
                case measure => omega
                case rel => exact ⟨i + 1, rfl, by omega, by omega, by omega, HB, HX, HG, ⟨fun j h0 h1 => by
                  by_cases hj : j < i
                  · exact HA.out j h0 hj
                  · obtain rfl : j = i := by omega
                    exact K1.out⟩, ⟨fun j h0 h1 => by
                  by_cases hj : j < i
                  · exact HS.out j h0 hj
                  · obtain rfl : j = i := by omega
                    exact fun _ => K8.out⟩⟩
              · refine qS (fun w' => w'.cell? ⟨wr.heap.size, 0, none⟩ = some (.string (rd_T81 fs i).f0) ∧ w'.cell? ⟨wr.heap.size, 1, none⟩ = some (.int .i64 (rd_T81 fs i).f1) ∧ w'.cell? ⟨wr.heap.size, 2, none⟩ = some (.int .i64 (rd_T81 fs i).f2) ∧ w'.cell? ⟨w.heap.size + 1, 2, none⟩ = some (.slice (some ad) fs.length d2) ∧ w'.cell? (ad.add ((i.toNat - 1) * 3)) = some (.string (rd_T81 fs (i - 1)).f0)) 19 ⟨blk_cell hub 0, blk_cell hub 1, blk_cell hub 2, blk_cell HG.out 2, q0⟩ (fun hs => ?_)
                have n_ := Aside0.mk (below_drew1 HB.out)
                clear HB
                have HB := n_
                clear n_
                have n_ := Aside0.mk (blk_drew HX.out)
                clear HX
                have HX := n_
                clear n_
                have n_ := Aside0.mk (blk_drew HG.out)
                clear HG
                have HG := n_
                clear n_
                refine qT 0 118 hs ?_
                refine q1 1 119 (fun K hK => ?_)
                refine qC Tryz.func52 _ ?_
                refine (iFail1 (rd_T81 fs i) _ HM.out).mono ?_
                intro e w2 h2
                obtain ⟨rfl, hb⟩ := h2.yes K1.out
                have n_ := Aside0.mk (below_step HB.out hb)
                clear HB
                have HB := n_
                clear n_
                have n_ := Aside0.mk (blk_below HX.out hb)
                clear HX
                have HX := n_
                clear n_
                have n_ := Aside0.mk (blk_below HG.out hb)
                clear HG
                have HG := n_
                clear n_
                refine ⟨_, rfl, hK.out _ _ ⟨pw_cell_below hb hs.1, pw_cell_below hb hs.2.1, pw_cell_below hb hs.2.2.1, pw_cell_below hb hs.2.2.2.1, pw_cell_below hb hs.2.2.2.2⟩ (fun hs2 => ?_)⟩
                clear hK K hs hb
                have hs := hs2
                clear hs2
                refine qN ?_
                refine qP 2 120 ?_
                refine qP 3 121 ?_
                refine qP 4 122 ?_
                refine qP 5 123 ?_
                refine qP 6 124 ?_
                refine qP 7 125 ?_
                refine qP 9 127 ?_
                refine qP 10 128 ?_
                refine qP 14 132 ?_
                refine qT 8 126 hs ?_
                refine qP 11 129 ?_
                refine qP 12 130 ?_
                refine qT 13 131 hs ?_
                refine qT 15 133 hs ?_
                refine qP 16 134 ?_
                refine qP 17 135 ?_
                refine qP 18 136 ?_
                refine qD ?_
                clear hs
                go_wp2
                go_ret
                exact .inr ⟨rfl, fun h => absurd (h.2.2.2.2.2.2.2.2.2.1 i hi0 hlt k7) (by rw [k8]; decide), HB.out⟩
            · obtain rfl : i = fs.length := by omega
              have HF := Aside0.mk (And.intro (all_of rfl HA.out) HS.out)
              clear HA HS hi0 hi hgg hlt
              have hx := blk_cell HG.out
              have hzr := blk_lt HG.out
              have HP := Aside0.mk True.intro
              obtain ⟨n0, n1⟩ := HQ.out.1
              go_wp2_with (first
                | (go_at_call 53; go_loud (refine (containsRecord 54 #[.pointer (some ⟨w.heap.size + 1, 0, none⟩)] (enters_ Tryz.func54 (by kernel_rfl) rfl) (fun x => ¬ RecordP nx x) B3 d3 rs _ y3 (fun W x hx hb => iRecordN B0 B1 B2 B3 d0 d1 d2 d3 us ss fs rs nx (w.heap.size + 1) x W (blk_below HG.out hb) n0 n1) (Kd.C_below H0.out.2.2.2.2.2 (by repeat' (with_reducible first | exact HB.out | apply below_alloc | apply below_drew1 | refine below_set ?_ (by omega))))).mono ?_; rintro e w2 (⟨rfl, hr, hb⟩ | ⟨rfl, hr, hb⟩) <;> (have n_ := Aside0.mk (And.intro hr HP.out); clear HP hr; have HP := n_; clear n_; have n_ := Aside0.mk (below_step (w := w) (by repeat' (with_reducible first | exact HB.out | apply below_alloc | apply below_drew1 | refine below_set ?_ (by omega))) hb); clear HB; have HB := n_; clear n_; have n_ := Aside0.mk (blk_below (g := w.heap.size) (o := .cells #[.int .i64 ip, .int .i64 b, .int .i64 gate, .string gm, .string wm, .int .i64 res, .slice A6 g.length c6, .slice A7 l.length c7] 41 (0, 0)) (by repeat' (with_reducible first | exact HX.out | exact blk_new1 _ _ _ | exact blk_alloc (blk_new _ _) _ | refine blk_alloc ?_ _ | refine blk_drew ?_)) hb); (try clear HX); have HX := n_; clear n_; have n_ := Aside0.mk (blk_below (g := w.heap.size + 1) (o := .cells #[.slice B0 us.length d0, .slice B1 ss.length d1, .slice B2 fs.length d2, .slice B3 rs.length d3, .int .i64 nx] 48 (0, 0)) (by repeat' (with_reducible first | exact HG.out | exact blk_new1 _ _ _ | exact blk_alloc (blk_new _ _) _ | refine blk_alloc ?_ _ | refine blk_drew ?_)) hb); (try clear HG); have HG := n_; clear n_; obtain ⟨hc, hf⟩ := bcell hb; have hz : w.heap.size < w2.heap.size := blk_lt HX.out; have hz1 : w.heap.size + 1 < w2.heap.size := blk_lt HG.out; clear hb))))
              · go_ret
                exact .inr ⟨rfl, fun h => by
                  obtain ⟨x, hx, hn⟩ := HP.out.1
                  exact hn (h.2.2.2.2.2.2.2.2.2.2 x hx), HB.out⟩
              · go_ret
                exact .inl ⟨rfl, ⟨HQ.out.2.1, HU.out, by omega, by omega, by omega, HQ.out.1, HSS.out.1, HSS.out.2, HF.out.1, HF.out.2, fun x hx => Classical.byContradiction fun h => HP.out.1 ⟨x, hx, h⟩⟩, HB.out⟩
end
section
-- NEEDS laws.eqConfig
attribute [local go_sem] str_geq str_lss
set_option maxHeartbeats 8000000 in
set_option maxRecDepth 100000 in
theorem sUsers1 (ip b gate : Int) (gm wm : ByteArray) (res : Int) (A6 : Option Addr) (c6 : Nat) (g : List S140) (A7 : Option Addr) (c7 : Nat) (l : List S145) (A1 : Option Addr) (c1 : Nat) (us : List S92) (w : World) (hl : Kd.C k145 w A7 l.length l) (hus : Kd.C k92 w A1 us.length us) (zl : l.length ≤ 1152921504606846976) (zu : us.length ≤ 1152921504606846976) (zs : ∀ u ∈ us, u.f0.size ≤ 1152921504606846976 ∧ u.f1.size ≤ 1152921504606846976 ∧ u.f2.size ≤ 1152921504606846976) : Calls Tryz.prog 34 #[.agg #[.int .i64 ip, .int .i64 b, .int .i64 gate, .string gm, .string wm, .int .i64 res, .slice A6 g.length c6, .slice A7 l.length c7], .slice A1 us.length c1] w (IsB (UsersP l us) w) := by
  have hu := Tryz.underlying41
  have hu2 := Tryz.underlying92
  have H0 := Aside0.mk (And.intro hl hus)
  have HZ := Aside0.mk zs
  clear hl hus zs
  go_enter Tryz.func34, Tryz.ntmps34
  go_wp2
  go_loopg [5] us.length (fun gg v w' => ∃ i : Int, v = .int .i64 i ∧ 0 ≤ i ∧ i ≤ us.length ∧ us.length - i ≤ gg ∧ Aside0 (Below w.heap.size w w') ∧ Aside0 (w'.heap[w.heap.size]? = some (.cells #[.int .i64 ip, .int .i64 b, .int .i64 gate, .string gm, .string wm, .int .i64 res, .slice A6 g.length c6, .slice A7 l.length c7] 41 (0, 0))) ∧ Aside0 (∀ j : Int, 0 ≤ j → j < i → UserP l (us.getD j.toNat z92)) ∧ Aside0 (∀ j : Int, 0 ≤ j → j < i → UpP us j))
  case atStart => exact ⟨0, rfl, Int.le_refl _, by omega, by omega, ⟨below_alloc (Below.refl _ _) _⟩, ⟨blk_new _ _⟩, ⟨fun j h0 h1 => by omega⟩, ⟨fun j h0 h1 => by omega⟩⟩
  case round =>
    obtain ⟨i, rfl, hi0, hi, hgg, HB, HX, HA, HS⟩ := hrel
    by_cases hlt : i < us.length
    · obtain ⟨ad, eA, hrow⟩ := at_T92 (Kd.C_below H0.out.2 HB.out) i hi0 hlt
      have HM := Aside0.mk (HZ.out _ (rdmem (z := z92) hi0 hlt))
      have hn1 : (rd_T92 us i).f1.size ≤ 1152921504606846976 := HM.out.2.1
      have hn2 : (rd_T92 us i).f2.size ≤ 1152921504606846976 := HM.out.2.2
      have HE := Aside0.mk eA
      subst eA
      go_wp2
      generalize hW : wr.alloc (.cells #[.string (rd_T92 us i).f0, .string (rd_T92 us i).f1, .string (rd_T92 us i).f2, .string (rd_T92 us i).f3, .int .i64 (rd_T92 us i).f4, .int .i64 (rd_T92 us i).f5] 92 (0, 0)) = W0 at *
      have hB0 : Below wr.heap.size wr W0 := by rw [← hW]; exact below_alloc (Below.refl _ _) _
      have hub : W0.heap[wr.heap.size]? = some (.cells #[.string (rd_T92 us i).f0, .string (rd_T92 us i).f1, .string (rd_T92 us i).f2, .string (rd_T92 us i).f3, .int .i64 (rd_T92 us i).f4, .int .i64 (rd_T92 us i).f5] 92 (0, 0)) := by rw [← hW]; exact blk_new _ _
      have n_ := Aside0.mk (below_step HB.out hB0)
      clear HB
      have HB := n_
      clear n_
      have n_ := Aside0.mk (blk_below HX.out hB0)
      clear HX
      have HX := n_
      clear n_ hB0 hW hrow
      rcases Classical.em (NameP (rd_T92 us i).f0 ∧ (rd_T92 us i).f0.size ≤ 8) with k1 | k1 <;> (have K1 := Aside0.mk k1; clear k1)
      rotate_left
      · refine qS (fun w' => w'.cell? ⟨wr.heap.size, 0, none⟩ = some (.string (rd_T92 us i).f0) ∧ w'.cell? ⟨wr.heap.size, 1, none⟩ = some (.string (rd_T92 us i).f1) ∧ w'.cell? ⟨wr.heap.size, 2, none⟩ = some (.string (rd_T92 us i).f2) ∧ w'.cell? ⟨wr.heap.size, 3, none⟩ = some (.string (rd_T92 us i).f3) ∧ w'.cell? ⟨wr.heap.size, 4, none⟩ = some (.int .i64 (rd_T92 us i).f4) ∧ w'.cell? ⟨wr.heap.size, 5, none⟩ = some (.int .i64 (rd_T92 us i).f5) ∧ w'.cell? ⟨w.heap.size, 0, none⟩ = some (.int .i64 ip) ∧ w'.cell? ⟨w.heap.size, 1, none⟩ = some (.int .i64 b) ∧ w'.cell? ⟨w.heap.size, 2, none⟩ = some (.int .i64 gate) ∧ w'.cell? ⟨w.heap.size, 3, none⟩ = some (.string gm) ∧ w'.cell? ⟨w.heap.size, 4, none⟩ = some (.string wm) ∧ w'.cell? ⟨w.heap.size, 5, none⟩ = some (.int .i64 res) ∧ w'.cell? ⟨w.heap.size, 6, none⟩ = some (.slice A6 g.length c6) ∧ w'.cell? ⟨w.heap.size, 7, none⟩ = some (.slice A7 l.length c7)) 50 ⟨blk_cell hub 0, blk_cell hub 1, blk_cell hub 2, blk_cell hub 3, blk_cell hub 4, blk_cell hub 5, blk_cell HX.out 0, blk_cell HX.out 1, blk_cell HX.out 2, blk_cell HX.out 3, blk_cell HX.out 4, blk_cell HX.out 5, blk_cell HX.out 6, blk_cell HX.out 7⟩ (fun hs => ?_)
        have n_ := Aside0.mk (below_drew1 HB.out)
        clear HB
        have HB := n_
        clear n_
        have n_ := Aside0.mk (blk_drew HX.out)
        clear HX
        have HX := n_
        clear n_
        refine qP 0 17 ?_
        refine qT 1 18 hs ?_
        refine q1 2 19 (fun K hK => ?_)
        refine qC Tryz.func92 _ ?_
        refine (sName8 _ _ HM.out.1).mono ?_
        intro e w2 h2
        obtain ⟨rfl, hb⟩ := h2.no K1.out
        have n_ := Aside0.mk (below_step HB.out hb)
        clear HB
        have HB := n_
        clear n_
        have n_ := Aside0.mk (blk_below HX.out hb)
        clear HX
        have HX := n_
        clear n_
        refine ⟨_, rfl, hK.out _ _ ⟨pw_cell_below hb hs.1, pw_cell_below hb hs.2.1, pw_cell_below hb hs.2.2.1, pw_cell_below hb hs.2.2.2.1, pw_cell_below hb hs.2.2.2.2.1, pw_cell_below hb hs.2.2.2.2.2.1, pw_cell_below hb hs.2.2.2.2.2.2.1, pw_cell_below hb hs.2.2.2.2.2.2.2.1, pw_cell_below hb hs.2.2.2.2.2.2.2.2.1, pw_cell_below hb hs.2.2.2.2.2.2.2.2.2.1, pw_cell_below hb hs.2.2.2.2.2.2.2.2.2.2.1, pw_cell_below hb hs.2.2.2.2.2.2.2.2.2.2.2.1, pw_cell_below hb hs.2.2.2.2.2.2.2.2.2.2.2.2.1, pw_cell_below hb hs.2.2.2.2.2.2.2.2.2.2.2.2.2⟩ (fun hs2 => ?_)⟩
        clear hK K hs hb
        have hs := hs2
        clear hs2
        refine qN ?_
        refine qP 3 20 ?_
        refine qP 4 21 ?_
        refine qU 5 22 ?_
        refine qU 6 23 ?_
        refine qU 7 24 ?_
        refine qU 8 25 ?_
        refine qP 9 26 ?_
        refine qP 10 27 ?_
        refine qU 11 28 ?_
        refine qU 12 29 ?_
        refine qU 13 30 ?_
        refine qU 14 31 ?_
        refine qP 15 32 ?_
        refine qP 16 33 ?_
        refine qU 17 34 ?_
        refine qU 18 35 ?_
        refine qU 19 36 ?_
        refine qU 20 37 ?_
        refine qU 21 38 ?_
        refine qP 22 39 ?_
        refine qP 23 40 ?_
        refine qU 24 41 ?_
        refine qU 25 42 ?_
        refine qU 26 43 ?_
        refine qU 27 44 ?_
        refine qP 28 45 ?_
        refine qP 29 46 ?_
        refine qU 30 47 ?_
        refine qU 31 48 ?_
        refine qU 32 49 ?_
        refine qU 33 50 ?_
        refine qP 34 51 ?_
        refine qP 35 52 ?_
        refine qU 36 53 ?_
        refine qU 37 54 ?_
        refine qU 38 55 ?_
        refine qU 39 56 ?_
        refine qU 40 57 ?_
        refine qU 41 58 ?_
        refine qU 42 59 ?_
        refine qU 43 60 ?_
        refine qU 44 61 ?_
        refine qU 45 62 ?_
        refine qU 46 63 ?_
        refine qU 47 64 ?_
        refine qU 48 65 ?_
        refine qP 49 66 ?_
        refine qD ?_
        clear hs
        go_wp2
        go_ret
        exact .inr ⟨rfl, fun h => K1.out (h.2.1 _ (rdmem (z := z92) hi0 hlt)).1, HB.out⟩
      rcases dec_em (40 < ((rd_T92 us i).f1.size : Int)) with ⟨k2, b2⟩ | ⟨k2, b2⟩
      · refine qS (fun w' => w'.cell? ⟨wr.heap.size, 0, none⟩ = some (.string (rd_T92 us i).f0) ∧ w'.cell? ⟨wr.heap.size, 1, none⟩ = some (.string (rd_T92 us i).f1) ∧ w'.cell? ⟨wr.heap.size, 2, none⟩ = some (.string (rd_T92 us i).f2) ∧ w'.cell? ⟨wr.heap.size, 3, none⟩ = some (.string (rd_T92 us i).f3) ∧ w'.cell? ⟨wr.heap.size, 4, none⟩ = some (.int .i64 (rd_T92 us i).f4) ∧ w'.cell? ⟨wr.heap.size, 5, none⟩ = some (.int .i64 (rd_T92 us i).f5) ∧ w'.cell? ⟨w.heap.size, 0, none⟩ = some (.int .i64 ip) ∧ w'.cell? ⟨w.heap.size, 1, none⟩ = some (.int .i64 b) ∧ w'.cell? ⟨w.heap.size, 2, none⟩ = some (.int .i64 gate) ∧ w'.cell? ⟨w.heap.size, 3, none⟩ = some (.string gm) ∧ w'.cell? ⟨w.heap.size, 4, none⟩ = some (.string wm) ∧ w'.cell? ⟨w.heap.size, 5, none⟩ = some (.int .i64 res) ∧ w'.cell? ⟨w.heap.size, 6, none⟩ = some (.slice A6 g.length c6) ∧ w'.cell? ⟨w.heap.size, 7, none⟩ = some (.slice A7 l.length c7)) 50 ⟨blk_cell hub 0, blk_cell hub 1, blk_cell hub 2, blk_cell hub 3, blk_cell hub 4, blk_cell hub 5, blk_cell HX.out 0, blk_cell HX.out 1, blk_cell HX.out 2, blk_cell HX.out 3, blk_cell HX.out 4, blk_cell HX.out 5, blk_cell HX.out 6, blk_cell HX.out 7⟩ (fun hs => ?_)
        have n_ := Aside0.mk (below_drew1 HB.out)
        clear HB
        have HB := n_
        clear n_
        have n_ := Aside0.mk (blk_drew HX.out)
        clear HX
        have HX := n_
        clear n_
        refine qP 0 17 ?_
        refine qT 1 18 hs ?_
        refine q1 2 19 (fun K hK => ?_)
        refine qC Tryz.func92 _ ?_
        refine (sName8 _ _ HM.out.1).mono ?_
        intro e w2 h2
        obtain ⟨rfl, hb⟩ := h2.yes K1.out
        have n_ := Aside0.mk (below_step HB.out hb)
        clear HB
        have HB := n_
        clear n_
        have n_ := Aside0.mk (blk_below HX.out hb)
        clear HX
        have HX := n_
        clear n_
        refine ⟨_, rfl, hK.out _ _ ⟨pw_cell_below hb hs.1, pw_cell_below hb hs.2.1, pw_cell_below hb hs.2.2.1, pw_cell_below hb hs.2.2.2.1, pw_cell_below hb hs.2.2.2.2.1, pw_cell_below hb hs.2.2.2.2.2.1, pw_cell_below hb hs.2.2.2.2.2.2.1, pw_cell_below hb hs.2.2.2.2.2.2.2.1, pw_cell_below hb hs.2.2.2.2.2.2.2.2.1, pw_cell_below hb hs.2.2.2.2.2.2.2.2.2.1, pw_cell_below hb hs.2.2.2.2.2.2.2.2.2.2.1, pw_cell_below hb hs.2.2.2.2.2.2.2.2.2.2.2.1, pw_cell_below hb hs.2.2.2.2.2.2.2.2.2.2.2.2.1, pw_cell_below hb hs.2.2.2.2.2.2.2.2.2.2.2.2.2⟩ (fun hs2 => ?_)⟩
        clear hK K hs hb
        have hs := hs2
        clear hs2
        refine qN ?_
        refine qP 3 20 ?_
        refine qP 4 21 ?_
        refine qP 5 22 ?_
        refine qT 6 23 hs ?_
        refine qP 7 24 ?_
        refine qP 8 25 ?_
        refine qP 9 26 ?_
        refine qP 10 27 ?_
        refine qU 11 28 ?_
        refine qU 12 29 ?_
        refine qU 13 30 ?_
        refine qU 14 31 ?_
        refine qP 15 32 ?_
        refine qP 16 33 ?_
        refine qU 17 34 ?_
        refine qU 18 35 ?_
        refine qU 19 36 ?_
        refine qU 20 37 ?_
        refine qU 21 38 ?_
        refine qP 22 39 ?_
        refine qP 23 40 ?_
        refine qU 24 41 ?_
        refine qU 25 42 ?_
        refine qU 26 43 ?_
        refine qU 27 44 ?_
        refine qP 28 45 ?_
        refine qP 29 46 ?_
        refine qU 30 47 ?_
        refine qU 31 48 ?_
        refine qU 32 49 ?_
        refine qU 33 50 ?_
        refine qP 34 51 ?_
        refine qP 35 52 ?_
        refine qU 36 53 ?_
        refine qU 37 54 ?_
        refine qU 38 55 ?_
        refine qU 39 56 ?_
        refine qU 40 57 ?_
        refine qU 41 58 ?_
        refine qU 42 59 ?_
        refine qU 43 60 ?_
        refine qU 44 61 ?_
        refine qU 45 62 ?_
        refine qU 46 63 ?_
        refine qU 47 64 ?_
        refine qU 48 65 ?_
        refine qP 49 66 ?_
        refine qD ?_
        clear hs
        go_wp2
        go_ret
        exact .inr ⟨rfl, fun h => by have hq : (rd_T92 us i).f1.size ≤ 40 := (h.2.1 _ (rdmem (z := z92) hi0 hlt)).2.1; omega, HB.out⟩
      rcases beq_em ((rd_T92 us i).f2.size : Int) 32 with ⟨b3, k3⟩ | ⟨b3, k3⟩
      rotate_left
      · have bn : (((rd_T92 us i).f2.size : Int) != 32) = true := by simp only [bne, b3, Bool.not_false]
        refine qS (fun w' => w'.cell? ⟨wr.heap.size, 0, none⟩ = some (.string (rd_T92 us i).f0) ∧ w'.cell? ⟨wr.heap.size, 1, none⟩ = some (.string (rd_T92 us i).f1) ∧ w'.cell? ⟨wr.heap.size, 2, none⟩ = some (.string (rd_T92 us i).f2) ∧ w'.cell? ⟨wr.heap.size, 3, none⟩ = some (.string (rd_T92 us i).f3) ∧ w'.cell? ⟨wr.heap.size, 4, none⟩ = some (.int .i64 (rd_T92 us i).f4) ∧ w'.cell? ⟨wr.heap.size, 5, none⟩ = some (.int .i64 (rd_T92 us i).f5) ∧ w'.cell? ⟨w.heap.size, 0, none⟩ = some (.int .i64 ip) ∧ w'.cell? ⟨w.heap.size, 1, none⟩ = some (.int .i64 b) ∧ w'.cell? ⟨w.heap.size, 2, none⟩ = some (.int .i64 gate) ∧ w'.cell? ⟨w.heap.size, 3, none⟩ = some (.string gm) ∧ w'.cell? ⟨w.heap.size, 4, none⟩ = some (.string wm) ∧ w'.cell? ⟨w.heap.size, 5, none⟩ = some (.int .i64 res) ∧ w'.cell? ⟨w.heap.size, 6, none⟩ = some (.slice A6 g.length c6) ∧ w'.cell? ⟨w.heap.size, 7, none⟩ = some (.slice A7 l.length c7)) 50 ⟨blk_cell hub 0, blk_cell hub 1, blk_cell hub 2, blk_cell hub 3, blk_cell hub 4, blk_cell hub 5, blk_cell HX.out 0, blk_cell HX.out 1, blk_cell HX.out 2, blk_cell HX.out 3, blk_cell HX.out 4, blk_cell HX.out 5, blk_cell HX.out 6, blk_cell HX.out 7⟩ (fun hs => ?_)
        have n_ := Aside0.mk (below_drew1 HB.out)
        clear HB
        have HB := n_
        clear n_
        have n_ := Aside0.mk (blk_drew HX.out)
        clear HX
        have HX := n_
        clear n_
        refine qP 0 17 ?_
        refine qT 1 18 hs ?_
        refine q1 2 19 (fun K hK => ?_)
        refine qC Tryz.func92 _ ?_
        refine (sName8 _ _ HM.out.1).mono ?_
        intro e w2 h2
        obtain ⟨rfl, hb⟩ := h2.yes K1.out
        have n_ := Aside0.mk (below_step HB.out hb)
        clear HB
        have HB := n_
        clear n_
        have n_ := Aside0.mk (blk_below HX.out hb)
        clear HX
        have HX := n_
        clear n_
        refine ⟨_, rfl, hK.out _ _ ⟨pw_cell_below hb hs.1, pw_cell_below hb hs.2.1, pw_cell_below hb hs.2.2.1, pw_cell_below hb hs.2.2.2.1, pw_cell_below hb hs.2.2.2.2.1, pw_cell_below hb hs.2.2.2.2.2.1, pw_cell_below hb hs.2.2.2.2.2.2.1, pw_cell_below hb hs.2.2.2.2.2.2.2.1, pw_cell_below hb hs.2.2.2.2.2.2.2.2.1, pw_cell_below hb hs.2.2.2.2.2.2.2.2.2.1, pw_cell_below hb hs.2.2.2.2.2.2.2.2.2.2.1, pw_cell_below hb hs.2.2.2.2.2.2.2.2.2.2.2.1, pw_cell_below hb hs.2.2.2.2.2.2.2.2.2.2.2.2.1, pw_cell_below hb hs.2.2.2.2.2.2.2.2.2.2.2.2.2⟩ (fun hs2 => ?_)⟩
        clear hK K hs hb
        have hs := hs2
        clear hs2
        refine qN ?_
        refine qP 3 20 ?_
        refine qP 4 21 ?_
        refine qP 5 22 ?_
        refine qT 6 23 hs ?_
        refine qP 7 24 ?_
        refine qP 8 25 ?_
        refine qP 9 26 ?_
        refine qP 10 27 ?_
        refine qP 11 28 ?_
        refine qT 12 29 hs ?_
        refine qP 13 30 ?_
        refine qP 14 31 ?_
        refine qP 15 32 ?_
        refine qP 16 33 ?_
        refine qU 17 34 ?_
        refine qU 18 35 ?_
        refine qU 19 36 ?_
        refine qU 20 37 ?_
        refine qU 21 38 ?_
        refine qP 22 39 ?_
        refine qP 23 40 ?_
        refine qU 24 41 ?_
        refine qU 25 42 ?_
        refine qU 26 43 ?_
        refine qU 27 44 ?_
        refine qP 28 45 ?_
        refine qP 29 46 ?_
        refine qU 30 47 ?_
        refine qU 31 48 ?_
        refine qU 32 49 ?_
        refine qU 33 50 ?_
        refine qP 34 51 ?_
        refine qP 35 52 ?_
        refine qU 36 53 ?_
        refine qU 37 54 ?_
        refine qU 38 55 ?_
        refine qU 39 56 ?_
        refine qU 40 57 ?_
        refine qU 41 58 ?_
        refine qU 42 59 ?_
        refine qU 43 60 ?_
        refine qU 44 61 ?_
        refine qU 45 62 ?_
        refine qU 46 63 ?_
        refine qU 47 64 ?_
        refine qU 48 65 ?_
        refine qP 49 66 ?_
        refine qD ?_
        clear hs
        go_wp2
        go_ret
        exact .inr ⟨rfl, fun h => by have hq : (rd_T92 us i).f2.size = 32 := (h.2.1 _ (rdmem (z := z92) hi0 hlt)).2.2.1; have hk := k3.out; omega, HB.out⟩
      have K3 := Aside0.mk (show (rd_T92 us i).f2.size = 32 from by have := k3.out; omega)
      clear k3
      have bn : (((rd_T92 us i).f2.size : Int) != 32) = false := by simp only [bne, b3, Bool.not_true]
      rcases Classical.em (∃ r ∈ l, HasRole l (rd_T92 us i).f3 r) with k4 | k4 <;> (have K4 := Aside0.mk k4; clear k4)
      rotate_left
      · refine qS (fun w' => w'.cell? ⟨wr.heap.size, 0, none⟩ = some (.string (rd_T92 us i).f0) ∧ w'.cell? ⟨wr.heap.size, 1, none⟩ = some (.string (rd_T92 us i).f1) ∧ w'.cell? ⟨wr.heap.size, 2, none⟩ = some (.string (rd_T92 us i).f2) ∧ w'.cell? ⟨wr.heap.size, 3, none⟩ = some (.string (rd_T92 us i).f3) ∧ w'.cell? ⟨wr.heap.size, 4, none⟩ = some (.int .i64 (rd_T92 us i).f4) ∧ w'.cell? ⟨wr.heap.size, 5, none⟩ = some (.int .i64 (rd_T92 us i).f5) ∧ w'.cell? ⟨w.heap.size, 0, none⟩ = some (.int .i64 ip) ∧ w'.cell? ⟨w.heap.size, 1, none⟩ = some (.int .i64 b) ∧ w'.cell? ⟨w.heap.size, 2, none⟩ = some (.int .i64 gate) ∧ w'.cell? ⟨w.heap.size, 3, none⟩ = some (.string gm) ∧ w'.cell? ⟨w.heap.size, 4, none⟩ = some (.string wm) ∧ w'.cell? ⟨w.heap.size, 5, none⟩ = some (.int .i64 res) ∧ w'.cell? ⟨w.heap.size, 6, none⟩ = some (.slice A6 g.length c6) ∧ w'.cell? ⟨w.heap.size, 7, none⟩ = some (.slice A7 l.length c7)) 50 ⟨blk_cell hub 0, blk_cell hub 1, blk_cell hub 2, blk_cell hub 3, blk_cell hub 4, blk_cell hub 5, blk_cell HX.out 0, blk_cell HX.out 1, blk_cell HX.out 2, blk_cell HX.out 3, blk_cell HX.out 4, blk_cell HX.out 5, blk_cell HX.out 6, blk_cell HX.out 7⟩ (fun hs => ?_)
        have n_ := Aside0.mk (below_drew1 HB.out)
        clear HB
        have HB := n_
        clear n_
        have n_ := Aside0.mk (blk_drew HX.out)
        clear HX
        have HX := n_
        clear n_
        refine qP 0 17 ?_
        refine qT 1 18 hs ?_
        refine q1 2 19 (fun K hK => ?_)
        refine qC Tryz.func92 _ ?_
        refine (sName8 _ _ HM.out.1).mono ?_
        intro e w2 h2
        obtain ⟨rfl, hb⟩ := h2.yes K1.out
        have n_ := Aside0.mk (below_step HB.out hb)
        clear HB
        have HB := n_
        clear n_
        have n_ := Aside0.mk (blk_below HX.out hb)
        clear HX
        have HX := n_
        clear n_
        refine ⟨_, rfl, hK.out _ _ ⟨pw_cell_below hb hs.1, pw_cell_below hb hs.2.1, pw_cell_below hb hs.2.2.1, pw_cell_below hb hs.2.2.2.1, pw_cell_below hb hs.2.2.2.2.1, pw_cell_below hb hs.2.2.2.2.2.1, pw_cell_below hb hs.2.2.2.2.2.2.1, pw_cell_below hb hs.2.2.2.2.2.2.2.1, pw_cell_below hb hs.2.2.2.2.2.2.2.2.1, pw_cell_below hb hs.2.2.2.2.2.2.2.2.2.1, pw_cell_below hb hs.2.2.2.2.2.2.2.2.2.2.1, pw_cell_below hb hs.2.2.2.2.2.2.2.2.2.2.2.1, pw_cell_below hb hs.2.2.2.2.2.2.2.2.2.2.2.2.1, pw_cell_below hb hs.2.2.2.2.2.2.2.2.2.2.2.2.2⟩ (fun hs2 => ?_)⟩
        clear hK K hs hb
        have hs := hs2
        clear hs2
        refine qN ?_
        refine qP 3 20 ?_
        refine qP 4 21 ?_
        refine qP 5 22 ?_
        refine qT 6 23 hs ?_
        refine qP 7 24 ?_
        refine qP 8 25 ?_
        refine qP 9 26 ?_
        refine qP 10 27 ?_
        refine qP 11 28 ?_
        refine qT 12 29 hs ?_
        refine qP 13 30 ?_
        refine qP 14 31 ?_
        refine qP 15 32 ?_
        refine qP 16 33 ?_
        refine qP 18 35 ?_
        refine qT 17 34 hs ?_
        refine qT 19 36 hs ?_
        refine q1 20 37 (fun K hK => ?_)
        refine qC Tryz.func93 _ ?_
        refine (sRoleIx _ _ _ _ _ _ _ _ _ _ _ _ _ _ (Kd.C_below H0.out.1 HB.out) zl).mono ?_
        intro e w2 h2
        obtain ⟨r, rfl, hb, hr⟩ := h2
        obtain rfl : r = -1 := by
          rcases hr with ⟨h, _⟩ | ⟨h0, h1, hp, _⟩
          · exact h
          · exact absurd ⟨_, rdmem h0 h1, hp⟩ K4.out
        clear hr
        have n_ := Aside0.mk (below_step HB.out hb)
        clear HB
        have HB := n_
        clear n_
        have n_ := Aside0.mk (blk_below HX.out hb)
        clear HX
        have HX := n_
        clear n_
        refine ⟨_, rfl, hK.out _ _ ⟨pw_cell_below hb hs.1, pw_cell_below hb hs.2.1, pw_cell_below hb hs.2.2.1, pw_cell_below hb hs.2.2.2.1, pw_cell_below hb hs.2.2.2.2.1, pw_cell_below hb hs.2.2.2.2.2.1, pw_cell_below hb hs.2.2.2.2.2.2.1, pw_cell_below hb hs.2.2.2.2.2.2.2.1, pw_cell_below hb hs.2.2.2.2.2.2.2.2.1, pw_cell_below hb hs.2.2.2.2.2.2.2.2.2.1, pw_cell_below hb hs.2.2.2.2.2.2.2.2.2.2.1, pw_cell_below hb hs.2.2.2.2.2.2.2.2.2.2.2.1, pw_cell_below hb hs.2.2.2.2.2.2.2.2.2.2.2.2.1, pw_cell_below hb hs.2.2.2.2.2.2.2.2.2.2.2.2.2⟩ (fun hs2 => ?_)⟩
        clear hK K hs hb
        have hs := hs2
        clear hs2
        refine qN ?_
        refine qP 21 38 ?_
        refine qP 22 39 ?_
        refine qP 23 40 ?_
        refine qU 24 41 ?_
        refine qU 25 42 ?_
        refine qU 26 43 ?_
        refine qU 27 44 ?_
        refine qP 28 45 ?_
        refine qP 29 46 ?_
        refine qU 30 47 ?_
        refine qU 31 48 ?_
        refine qU 32 49 ?_
        refine qU 33 50 ?_
        refine qP 34 51 ?_
        refine qP 35 52 ?_
        refine qU 36 53 ?_
        refine qU 37 54 ?_
        refine qU 38 55 ?_
        refine qU 39 56 ?_
        refine qU 40 57 ?_
        refine qU 41 58 ?_
        refine qU 42 59 ?_
        refine qU 43 60 ?_
        refine qU 44 61 ?_
        refine qU 45 62 ?_
        refine qU 46 63 ?_
        refine qU 47 64 ?_
        refine qU 48 65 ?_
        refine qP 49 66 ?_
        refine qD ?_
        clear hs
        go_wp2
        go_ret
        exact .inr ⟨rfl, fun h => K4.out (h.2.1 _ (rdmem (z := z92) hi0 hlt)).2.2.2.1, HB.out⟩
      rcases Classical.em (0 ≤ (rd_T92 us i).f4 ∧ (rd_T92 us i).f4 ≤ 1000000) with k5 | k5 <;> (have K5 := Aside0.mk k5; clear k5)
      rotate_left
      · refine qS (fun w' => w'.cell? ⟨wr.heap.size, 0, none⟩ = some (.string (rd_T92 us i).f0) ∧ w'.cell? ⟨wr.heap.size, 1, none⟩ = some (.string (rd_T92 us i).f1) ∧ w'.cell? ⟨wr.heap.size, 2, none⟩ = some (.string (rd_T92 us i).f2) ∧ w'.cell? ⟨wr.heap.size, 3, none⟩ = some (.string (rd_T92 us i).f3) ∧ w'.cell? ⟨wr.heap.size, 4, none⟩ = some (.int .i64 (rd_T92 us i).f4) ∧ w'.cell? ⟨wr.heap.size, 5, none⟩ = some (.int .i64 (rd_T92 us i).f5) ∧ w'.cell? ⟨w.heap.size, 0, none⟩ = some (.int .i64 ip) ∧ w'.cell? ⟨w.heap.size, 1, none⟩ = some (.int .i64 b) ∧ w'.cell? ⟨w.heap.size, 2, none⟩ = some (.int .i64 gate) ∧ w'.cell? ⟨w.heap.size, 3, none⟩ = some (.string gm) ∧ w'.cell? ⟨w.heap.size, 4, none⟩ = some (.string wm) ∧ w'.cell? ⟨w.heap.size, 5, none⟩ = some (.int .i64 res) ∧ w'.cell? ⟨w.heap.size, 6, none⟩ = some (.slice A6 g.length c6) ∧ w'.cell? ⟨w.heap.size, 7, none⟩ = some (.slice A7 l.length c7)) 50 ⟨blk_cell hub 0, blk_cell hub 1, blk_cell hub 2, blk_cell hub 3, blk_cell hub 4, blk_cell hub 5, blk_cell HX.out 0, blk_cell HX.out 1, blk_cell HX.out 2, blk_cell HX.out 3, blk_cell HX.out 4, blk_cell HX.out 5, blk_cell HX.out 6, blk_cell HX.out 7⟩ (fun hs => ?_)
        have n_ := Aside0.mk (below_drew1 HB.out)
        clear HB
        have HB := n_
        clear n_
        have n_ := Aside0.mk (blk_drew HX.out)
        clear HX
        have HX := n_
        clear n_
        refine qP 0 17 ?_
        refine qT 1 18 hs ?_
        refine q1 2 19 (fun K hK => ?_)
        refine qC Tryz.func92 _ ?_
        refine (sName8 _ _ HM.out.1).mono ?_
        intro e w2 h2
        obtain ⟨rfl, hb⟩ := h2.yes K1.out
        have n_ := Aside0.mk (below_step HB.out hb)
        clear HB
        have HB := n_
        clear n_
        have n_ := Aside0.mk (blk_below HX.out hb)
        clear HX
        have HX := n_
        clear n_
        refine ⟨_, rfl, hK.out _ _ ⟨pw_cell_below hb hs.1, pw_cell_below hb hs.2.1, pw_cell_below hb hs.2.2.1, pw_cell_below hb hs.2.2.2.1, pw_cell_below hb hs.2.2.2.2.1, pw_cell_below hb hs.2.2.2.2.2.1, pw_cell_below hb hs.2.2.2.2.2.2.1, pw_cell_below hb hs.2.2.2.2.2.2.2.1, pw_cell_below hb hs.2.2.2.2.2.2.2.2.1, pw_cell_below hb hs.2.2.2.2.2.2.2.2.2.1, pw_cell_below hb hs.2.2.2.2.2.2.2.2.2.2.1, pw_cell_below hb hs.2.2.2.2.2.2.2.2.2.2.2.1, pw_cell_below hb hs.2.2.2.2.2.2.2.2.2.2.2.2.1, pw_cell_below hb hs.2.2.2.2.2.2.2.2.2.2.2.2.2⟩ (fun hs2 => ?_)⟩
        clear hK K hs hb
        have hs := hs2
        clear hs2
        refine qN ?_
        refine qP 3 20 ?_
        refine qP 4 21 ?_
        refine qP 5 22 ?_
        refine qT 6 23 hs ?_
        refine qP 7 24 ?_
        refine qP 8 25 ?_
        refine qP 9 26 ?_
        refine qP 10 27 ?_
        refine qP 11 28 ?_
        refine qT 12 29 hs ?_
        refine qP 13 30 ?_
        refine qP 14 31 ?_
        refine qP 15 32 ?_
        refine qP 16 33 ?_
        refine qP 18 35 ?_
        refine qT 17 34 hs ?_
        refine qT 19 36 hs ?_
        refine q1 20 37 (fun K hK => ?_)
        refine qC Tryz.func93 _ ?_
        refine (sRoleIx _ _ _ _ _ _ _ _ _ _ _ _ _ _ (Kd.C_below H0.out.1 HB.out) zl).mono ?_
        intro e w2 h2
        obtain ⟨r, rfl, hb, hr⟩ := h2
        have hr0 : 0 ≤ r := by
          rcases hr with ⟨h, hn⟩ | ⟨h0, _⟩
          · obtain ⟨x, hx, hp⟩ := K4.out
            exact absurd hp (hn x hx)
          · exact h0
        have hrk : decide (r < 0) = false := decide_eq_false (by omega)
        clear hr
        have n_ := Aside0.mk (below_step HB.out hb)
        clear HB
        have HB := n_
        clear n_
        have n_ := Aside0.mk (blk_below HX.out hb)
        clear HX
        have HX := n_
        clear n_
        refine ⟨_, rfl, hK.out _ _ ⟨pw_cell_below hb hs.1, pw_cell_below hb hs.2.1, pw_cell_below hb hs.2.2.1, pw_cell_below hb hs.2.2.2.1, pw_cell_below hb hs.2.2.2.2.1, pw_cell_below hb hs.2.2.2.2.2.1, pw_cell_below hb hs.2.2.2.2.2.2.1, pw_cell_below hb hs.2.2.2.2.2.2.2.1, pw_cell_below hb hs.2.2.2.2.2.2.2.2.1, pw_cell_below hb hs.2.2.2.2.2.2.2.2.2.1, pw_cell_below hb hs.2.2.2.2.2.2.2.2.2.2.1, pw_cell_below hb hs.2.2.2.2.2.2.2.2.2.2.2.1, pw_cell_below hb hs.2.2.2.2.2.2.2.2.2.2.2.2.1, pw_cell_below hb hs.2.2.2.2.2.2.2.2.2.2.2.2.2⟩ (fun hs2 => ?_)⟩
        clear hK K hs hb
        have hs := hs2
        clear hs2
        refine qN ?_
        refine qP 21 38 ?_
        refine qP 22 39 ?_
        refine qP 23 40 ?_
        refine qP 24 41 ?_
        refine qT 25 42 hs ?_
        refine q1 26 43 (fun K hK => ?_)
        refine qC Tryz.func35 _ ?_
        refine (sIn1 _ _ _ _).mono ?_
        intro e w2 h2
        obtain ⟨rfl, hb⟩ := h2.no K5.out
        have n_ := Aside0.mk (below_step HB.out hb)
        clear HB
        have HB := n_
        clear n_
        have n_ := Aside0.mk (blk_below HX.out hb)
        clear HX
        have HX := n_
        clear n_
        refine ⟨_, rfl, hK.out _ _ ⟨pw_cell_below hb hs.1, pw_cell_below hb hs.2.1, pw_cell_below hb hs.2.2.1, pw_cell_below hb hs.2.2.2.1, pw_cell_below hb hs.2.2.2.2.1, pw_cell_below hb hs.2.2.2.2.2.1, pw_cell_below hb hs.2.2.2.2.2.2.1, pw_cell_below hb hs.2.2.2.2.2.2.2.1, pw_cell_below hb hs.2.2.2.2.2.2.2.2.1, pw_cell_below hb hs.2.2.2.2.2.2.2.2.2.1, pw_cell_below hb hs.2.2.2.2.2.2.2.2.2.2.1, pw_cell_below hb hs.2.2.2.2.2.2.2.2.2.2.2.1, pw_cell_below hb hs.2.2.2.2.2.2.2.2.2.2.2.2.1, pw_cell_below hb hs.2.2.2.2.2.2.2.2.2.2.2.2.2⟩ (fun hs2 => ?_)⟩
        clear hK K hs hb
        have hs := hs2
        clear hs2
        refine qN ?_
        refine qP 27 44 ?_
        refine qP 28 45 ?_
        refine qP 29 46 ?_
        refine qU 30 47 ?_
        refine qU 31 48 ?_
        refine qU 32 49 ?_
        refine qU 33 50 ?_
        refine qP 34 51 ?_
        refine qP 35 52 ?_
        refine qU 36 53 ?_
        refine qU 37 54 ?_
        refine qU 38 55 ?_
        refine qU 39 56 ?_
        refine qU 40 57 ?_
        refine qU 41 58 ?_
        refine qU 42 59 ?_
        refine qU 43 60 ?_
        refine qU 44 61 ?_
        refine qU 45 62 ?_
        refine qU 46 63 ?_
        refine qU 47 64 ?_
        refine qU 48 65 ?_
        refine qP 49 66 ?_
        refine qD ?_
        clear hs
        go_wp2
        go_ret
        exact .inr ⟨rfl, fun h => K5.out (h.2.1 _ (rdmem (z := z92) hi0 hlt)).2.2.2.2.1, HB.out⟩
      rcases Classical.em (0 ≤ (rd_T92 us i).f5 ∧ (rd_T92 us i).f5 ≤ 1000) with k6 | k6 <;> (have K6 := Aside0.mk k6; clear k6)
      rotate_left
      · refine qS (fun w' => w'.cell? ⟨wr.heap.size, 0, none⟩ = some (.string (rd_T92 us i).f0) ∧ w'.cell? ⟨wr.heap.size, 1, none⟩ = some (.string (rd_T92 us i).f1) ∧ w'.cell? ⟨wr.heap.size, 2, none⟩ = some (.string (rd_T92 us i).f2) ∧ w'.cell? ⟨wr.heap.size, 3, none⟩ = some (.string (rd_T92 us i).f3) ∧ w'.cell? ⟨wr.heap.size, 4, none⟩ = some (.int .i64 (rd_T92 us i).f4) ∧ w'.cell? ⟨wr.heap.size, 5, none⟩ = some (.int .i64 (rd_T92 us i).f5) ∧ w'.cell? ⟨w.heap.size, 0, none⟩ = some (.int .i64 ip) ∧ w'.cell? ⟨w.heap.size, 1, none⟩ = some (.int .i64 b) ∧ w'.cell? ⟨w.heap.size, 2, none⟩ = some (.int .i64 gate) ∧ w'.cell? ⟨w.heap.size, 3, none⟩ = some (.string gm) ∧ w'.cell? ⟨w.heap.size, 4, none⟩ = some (.string wm) ∧ w'.cell? ⟨w.heap.size, 5, none⟩ = some (.int .i64 res) ∧ w'.cell? ⟨w.heap.size, 6, none⟩ = some (.slice A6 g.length c6) ∧ w'.cell? ⟨w.heap.size, 7, none⟩ = some (.slice A7 l.length c7)) 50 ⟨blk_cell hub 0, blk_cell hub 1, blk_cell hub 2, blk_cell hub 3, blk_cell hub 4, blk_cell hub 5, blk_cell HX.out 0, blk_cell HX.out 1, blk_cell HX.out 2, blk_cell HX.out 3, blk_cell HX.out 4, blk_cell HX.out 5, blk_cell HX.out 6, blk_cell HX.out 7⟩ (fun hs => ?_)
        have n_ := Aside0.mk (below_drew1 HB.out)
        clear HB
        have HB := n_
        clear n_
        have n_ := Aside0.mk (blk_drew HX.out)
        clear HX
        have HX := n_
        clear n_
        refine qP 0 17 ?_
        refine qT 1 18 hs ?_
        refine q1 2 19 (fun K hK => ?_)
        refine qC Tryz.func92 _ ?_
        refine (sName8 _ _ HM.out.1).mono ?_
        intro e w2 h2
        obtain ⟨rfl, hb⟩ := h2.yes K1.out
        have n_ := Aside0.mk (below_step HB.out hb)
        clear HB
        have HB := n_
        clear n_
        have n_ := Aside0.mk (blk_below HX.out hb)
        clear HX
        have HX := n_
        clear n_
        refine ⟨_, rfl, hK.out _ _ ⟨pw_cell_below hb hs.1, pw_cell_below hb hs.2.1, pw_cell_below hb hs.2.2.1, pw_cell_below hb hs.2.2.2.1, pw_cell_below hb hs.2.2.2.2.1, pw_cell_below hb hs.2.2.2.2.2.1, pw_cell_below hb hs.2.2.2.2.2.2.1, pw_cell_below hb hs.2.2.2.2.2.2.2.1, pw_cell_below hb hs.2.2.2.2.2.2.2.2.1, pw_cell_below hb hs.2.2.2.2.2.2.2.2.2.1, pw_cell_below hb hs.2.2.2.2.2.2.2.2.2.2.1, pw_cell_below hb hs.2.2.2.2.2.2.2.2.2.2.2.1, pw_cell_below hb hs.2.2.2.2.2.2.2.2.2.2.2.2.1, pw_cell_below hb hs.2.2.2.2.2.2.2.2.2.2.2.2.2⟩ (fun hs2 => ?_)⟩
        clear hK K hs hb
        have hs := hs2
        clear hs2
        refine qN ?_
        refine qP 3 20 ?_
        refine qP 4 21 ?_
        refine qP 5 22 ?_
        refine qT 6 23 hs ?_
        refine qP 7 24 ?_
        refine qP 8 25 ?_
        refine qP 9 26 ?_
        refine qP 10 27 ?_
        refine qP 11 28 ?_
        refine qT 12 29 hs ?_
        refine qP 13 30 ?_
        refine qP 14 31 ?_
        refine qP 15 32 ?_
        refine qP 16 33 ?_
        refine qP 18 35 ?_
        refine qT 17 34 hs ?_
        refine qT 19 36 hs ?_
        refine q1 20 37 (fun K hK => ?_)
        refine qC Tryz.func93 _ ?_
        refine (sRoleIx _ _ _ _ _ _ _ _ _ _ _ _ _ _ (Kd.C_below H0.out.1 HB.out) zl).mono ?_
        intro e w2 h2
        obtain ⟨r, rfl, hb, hr⟩ := h2
        have hr0 : 0 ≤ r := by
          rcases hr with ⟨h, hn⟩ | ⟨h0, _⟩
          · obtain ⟨x, hx, hp⟩ := K4.out
            exact absurd hp (hn x hx)
          · exact h0
        have hrk : decide (r < 0) = false := decide_eq_false (by omega)
        clear hr
        have n_ := Aside0.mk (below_step HB.out hb)
        clear HB
        have HB := n_
        clear n_
        have n_ := Aside0.mk (blk_below HX.out hb)
        clear HX
        have HX := n_
        clear n_
        refine ⟨_, rfl, hK.out _ _ ⟨pw_cell_below hb hs.1, pw_cell_below hb hs.2.1, pw_cell_below hb hs.2.2.1, pw_cell_below hb hs.2.2.2.1, pw_cell_below hb hs.2.2.2.2.1, pw_cell_below hb hs.2.2.2.2.2.1, pw_cell_below hb hs.2.2.2.2.2.2.1, pw_cell_below hb hs.2.2.2.2.2.2.2.1, pw_cell_below hb hs.2.2.2.2.2.2.2.2.1, pw_cell_below hb hs.2.2.2.2.2.2.2.2.2.1, pw_cell_below hb hs.2.2.2.2.2.2.2.2.2.2.1, pw_cell_below hb hs.2.2.2.2.2.2.2.2.2.2.2.1, pw_cell_below hb hs.2.2.2.2.2.2.2.2.2.2.2.2.1, pw_cell_below hb hs.2.2.2.2.2.2.2.2.2.2.2.2.2⟩ (fun hs2 => ?_)⟩
        clear hK K hs hb
        have hs := hs2
        clear hs2
        refine qN ?_
        refine qP 21 38 ?_
        refine qP 22 39 ?_
        refine qP 23 40 ?_
        refine qP 24 41 ?_
        refine qT 25 42 hs ?_
        refine q1 26 43 (fun K hK => ?_)
        refine qC Tryz.func35 _ ?_
        refine (sIn1 _ _ _ _).mono ?_
        intro e w2 h2
        obtain ⟨rfl, hb⟩ := h2.yes K5.out
        have n_ := Aside0.mk (below_step HB.out hb)
        clear HB
        have HB := n_
        clear n_
        have n_ := Aside0.mk (blk_below HX.out hb)
        clear HX
        have HX := n_
        clear n_
        refine ⟨_, rfl, hK.out _ _ ⟨pw_cell_below hb hs.1, pw_cell_below hb hs.2.1, pw_cell_below hb hs.2.2.1, pw_cell_below hb hs.2.2.2.1, pw_cell_below hb hs.2.2.2.2.1, pw_cell_below hb hs.2.2.2.2.2.1, pw_cell_below hb hs.2.2.2.2.2.2.1, pw_cell_below hb hs.2.2.2.2.2.2.2.1, pw_cell_below hb hs.2.2.2.2.2.2.2.2.1, pw_cell_below hb hs.2.2.2.2.2.2.2.2.2.1, pw_cell_below hb hs.2.2.2.2.2.2.2.2.2.2.1, pw_cell_below hb hs.2.2.2.2.2.2.2.2.2.2.2.1, pw_cell_below hb hs.2.2.2.2.2.2.2.2.2.2.2.2.1, pw_cell_below hb hs.2.2.2.2.2.2.2.2.2.2.2.2.2⟩ (fun hs2 => ?_)⟩
        clear hK K hs hb
        have hs := hs2
        clear hs2
        refine qN ?_
        refine qP 27 44 ?_
        refine qP 28 45 ?_
        refine qP 29 46 ?_
        refine qP 30 47 ?_
        refine qT 31 48 hs ?_
        refine q1 32 49 (fun K hK => ?_)
        refine qC Tryz.func35 _ ?_
        refine (sIn1 _ _ _ _).mono ?_
        intro e w2 h2
        obtain ⟨rfl, hb⟩ := h2.no K6.out
        have n_ := Aside0.mk (below_step HB.out hb)
        clear HB
        have HB := n_
        clear n_
        have n_ := Aside0.mk (blk_below HX.out hb)
        clear HX
        have HX := n_
        clear n_
        refine ⟨_, rfl, hK.out _ _ ⟨pw_cell_below hb hs.1, pw_cell_below hb hs.2.1, pw_cell_below hb hs.2.2.1, pw_cell_below hb hs.2.2.2.1, pw_cell_below hb hs.2.2.2.2.1, pw_cell_below hb hs.2.2.2.2.2.1, pw_cell_below hb hs.2.2.2.2.2.2.1, pw_cell_below hb hs.2.2.2.2.2.2.2.1, pw_cell_below hb hs.2.2.2.2.2.2.2.2.1, pw_cell_below hb hs.2.2.2.2.2.2.2.2.2.1, pw_cell_below hb hs.2.2.2.2.2.2.2.2.2.2.1, pw_cell_below hb hs.2.2.2.2.2.2.2.2.2.2.2.1, pw_cell_below hb hs.2.2.2.2.2.2.2.2.2.2.2.2.1, pw_cell_below hb hs.2.2.2.2.2.2.2.2.2.2.2.2.2⟩ (fun hs2 => ?_)⟩
        clear hK K hs hb
        have hs := hs2
        clear hs2
        refine qN ?_
        refine qP 33 50 ?_
        refine qP 34 51 ?_
        refine qP 35 52 ?_
        refine qU 36 53 ?_
        refine qU 37 54 ?_
        refine qU 38 55 ?_
        refine qU 39 56 ?_
        refine qU 40 57 ?_
        refine qU 41 58 ?_
        refine qU 42 59 ?_
        refine qU 43 60 ?_
        refine qU 44 61 ?_
        refine qU 45 62 ?_
        refine qU 46 63 ?_
        refine qU 47 64 ?_
        refine qU 48 65 ?_
        refine qP 49 66 ?_
        refine qD ?_
        clear hs
        go_wp2
        go_ret
        exact .inr ⟨rfl, fun h => K6.out (h.2.1 _ (rdmem (z := z92) hi0 hlt)).2.2.2.2.2, HB.out⟩
      rcases dec_em (0 < i) with ⟨k7, b7⟩ | ⟨k7, b7⟩
      rotate_left
      · refine qS (fun w' => w'.cell? ⟨wr.heap.size, 0, none⟩ = some (.string (rd_T92 us i).f0) ∧ w'.cell? ⟨wr.heap.size, 1, none⟩ = some (.string (rd_T92 us i).f1) ∧ w'.cell? ⟨wr.heap.size, 2, none⟩ = some (.string (rd_T92 us i).f2) ∧ w'.cell? ⟨wr.heap.size, 3, none⟩ = some (.string (rd_T92 us i).f3) ∧ w'.cell? ⟨wr.heap.size, 4, none⟩ = some (.int .i64 (rd_T92 us i).f4) ∧ w'.cell? ⟨wr.heap.size, 5, none⟩ = some (.int .i64 (rd_T92 us i).f5) ∧ w'.cell? ⟨w.heap.size, 0, none⟩ = some (.int .i64 ip) ∧ w'.cell? ⟨w.heap.size, 1, none⟩ = some (.int .i64 b) ∧ w'.cell? ⟨w.heap.size, 2, none⟩ = some (.int .i64 gate) ∧ w'.cell? ⟨w.heap.size, 3, none⟩ = some (.string gm) ∧ w'.cell? ⟨w.heap.size, 4, none⟩ = some (.string wm) ∧ w'.cell? ⟨w.heap.size, 5, none⟩ = some (.int .i64 res) ∧ w'.cell? ⟨w.heap.size, 6, none⟩ = some (.slice A6 g.length c6) ∧ w'.cell? ⟨w.heap.size, 7, none⟩ = some (.slice A7 l.length c7)) 50 ⟨blk_cell hub 0, blk_cell hub 1, blk_cell hub 2, blk_cell hub 3, blk_cell hub 4, blk_cell hub 5, blk_cell HX.out 0, blk_cell HX.out 1, blk_cell HX.out 2, blk_cell HX.out 3, blk_cell HX.out 4, blk_cell HX.out 5, blk_cell HX.out 6, blk_cell HX.out 7⟩ (fun hs => ?_)
        have n_ := Aside0.mk (below_drew1 HB.out)
        clear HB
        have HB := n_
        clear n_
        have n_ := Aside0.mk (blk_drew HX.out)
        clear HX
        have HX := n_
        clear n_
        refine qP 0 17 ?_
        refine qT 1 18 hs ?_
        refine q1 2 19 (fun K hK => ?_)
        refine qC Tryz.func92 _ ?_
        refine (sName8 _ _ HM.out.1).mono ?_
        intro e w2 h2
        obtain ⟨rfl, hb⟩ := h2.yes K1.out
        have n_ := Aside0.mk (below_step HB.out hb)
        clear HB
        have HB := n_
        clear n_
        have n_ := Aside0.mk (blk_below HX.out hb)
        clear HX
        have HX := n_
        clear n_
        refine ⟨_, rfl, hK.out _ _ ⟨pw_cell_below hb hs.1, pw_cell_below hb hs.2.1, pw_cell_below hb hs.2.2.1, pw_cell_below hb hs.2.2.2.1, pw_cell_below hb hs.2.2.2.2.1, pw_cell_below hb hs.2.2.2.2.2.1, pw_cell_below hb hs.2.2.2.2.2.2.1, pw_cell_below hb hs.2.2.2.2.2.2.2.1, pw_cell_below hb hs.2.2.2.2.2.2.2.2.1, pw_cell_below hb hs.2.2.2.2.2.2.2.2.2.1, pw_cell_below hb hs.2.2.2.2.2.2.2.2.2.2.1, pw_cell_below hb hs.2.2.2.2.2.2.2.2.2.2.2.1, pw_cell_below hb hs.2.2.2.2.2.2.2.2.2.2.2.2.1, pw_cell_below hb hs.2.2.2.2.2.2.2.2.2.2.2.2.2⟩ (fun hs2 => ?_)⟩
        clear hK K hs hb
        have hs := hs2
        clear hs2
        refine qN ?_
        refine qP 3 20 ?_
        refine qP 4 21 ?_
        refine qP 5 22 ?_
        refine qT 6 23 hs ?_
        refine qP 7 24 ?_
        refine qP 8 25 ?_
        refine qP 9 26 ?_
        refine qP 10 27 ?_
        refine qP 11 28 ?_
        refine qT 12 29 hs ?_
        refine qP 13 30 ?_
        refine qP 14 31 ?_
        refine qP 15 32 ?_
        refine qP 16 33 ?_
        refine qP 18 35 ?_
        refine qT 17 34 hs ?_
        refine qT 19 36 hs ?_
        refine q1 20 37 (fun K hK => ?_)
        refine qC Tryz.func93 _ ?_
        refine (sRoleIx _ _ _ _ _ _ _ _ _ _ _ _ _ _ (Kd.C_below H0.out.1 HB.out) zl).mono ?_
        intro e w2 h2
        obtain ⟨r, rfl, hb, hr⟩ := h2
        have hr0 : 0 ≤ r := by
          rcases hr with ⟨h, hn⟩ | ⟨h0, _⟩
          · obtain ⟨x, hx, hp⟩ := K4.out
            exact absurd hp (hn x hx)
          · exact h0
        have hrk : decide (r < 0) = false := decide_eq_false (by omega)
        clear hr
        have n_ := Aside0.mk (below_step HB.out hb)
        clear HB
        have HB := n_
        clear n_
        have n_ := Aside0.mk (blk_below HX.out hb)
        clear HX
        have HX := n_
        clear n_
        refine ⟨_, rfl, hK.out _ _ ⟨pw_cell_below hb hs.1, pw_cell_below hb hs.2.1, pw_cell_below hb hs.2.2.1, pw_cell_below hb hs.2.2.2.1, pw_cell_below hb hs.2.2.2.2.1, pw_cell_below hb hs.2.2.2.2.2.1, pw_cell_below hb hs.2.2.2.2.2.2.1, pw_cell_below hb hs.2.2.2.2.2.2.2.1, pw_cell_below hb hs.2.2.2.2.2.2.2.2.1, pw_cell_below hb hs.2.2.2.2.2.2.2.2.2.1, pw_cell_below hb hs.2.2.2.2.2.2.2.2.2.2.1, pw_cell_below hb hs.2.2.2.2.2.2.2.2.2.2.2.1, pw_cell_below hb hs.2.2.2.2.2.2.2.2.2.2.2.2.1, pw_cell_below hb hs.2.2.2.2.2.2.2.2.2.2.2.2.2⟩ (fun hs2 => ?_)⟩
        clear hK K hs hb
        have hs := hs2
        clear hs2
        refine qN ?_
        refine qP 21 38 ?_
        refine qP 22 39 ?_
        refine qP 23 40 ?_
        refine qP 24 41 ?_
        refine qT 25 42 hs ?_
        refine q1 26 43 (fun K hK => ?_)
        refine qC Tryz.func35 _ ?_
        refine (sIn1 _ _ _ _).mono ?_
        intro e w2 h2
        obtain ⟨rfl, hb⟩ := h2.yes K5.out
        have n_ := Aside0.mk (below_step HB.out hb)
        clear HB
        have HB := n_
        clear n_
        have n_ := Aside0.mk (blk_below HX.out hb)
        clear HX
        have HX := n_
        clear n_
        refine ⟨_, rfl, hK.out _ _ ⟨pw_cell_below hb hs.1, pw_cell_below hb hs.2.1, pw_cell_below hb hs.2.2.1, pw_cell_below hb hs.2.2.2.1, pw_cell_below hb hs.2.2.2.2.1, pw_cell_below hb hs.2.2.2.2.2.1, pw_cell_below hb hs.2.2.2.2.2.2.1, pw_cell_below hb hs.2.2.2.2.2.2.2.1, pw_cell_below hb hs.2.2.2.2.2.2.2.2.1, pw_cell_below hb hs.2.2.2.2.2.2.2.2.2.1, pw_cell_below hb hs.2.2.2.2.2.2.2.2.2.2.1, pw_cell_below hb hs.2.2.2.2.2.2.2.2.2.2.2.1, pw_cell_below hb hs.2.2.2.2.2.2.2.2.2.2.2.2.1, pw_cell_below hb hs.2.2.2.2.2.2.2.2.2.2.2.2.2⟩ (fun hs2 => ?_)⟩
        clear hK K hs hb
        have hs := hs2
        clear hs2
        refine qN ?_
        refine qP 27 44 ?_
        refine qP 28 45 ?_
        refine qP 29 46 ?_
        refine qP 30 47 ?_
        refine qT 31 48 hs ?_
        refine q1 32 49 (fun K hK => ?_)
        refine qC Tryz.func35 _ ?_
        refine (sIn1 _ _ _ _).mono ?_
        intro e w2 h2
        obtain ⟨rfl, hb⟩ := h2.yes K6.out
        have n_ := Aside0.mk (below_step HB.out hb)
        clear HB
        have HB := n_
        clear n_
        have n_ := Aside0.mk (blk_below HX.out hb)
        clear HX
        have HX := n_
        clear n_
        refine ⟨_, rfl, hK.out _ _ ⟨pw_cell_below hb hs.1, pw_cell_below hb hs.2.1, pw_cell_below hb hs.2.2.1, pw_cell_below hb hs.2.2.2.1, pw_cell_below hb hs.2.2.2.2.1, pw_cell_below hb hs.2.2.2.2.2.1, pw_cell_below hb hs.2.2.2.2.2.2.1, pw_cell_below hb hs.2.2.2.2.2.2.2.1, pw_cell_below hb hs.2.2.2.2.2.2.2.2.1, pw_cell_below hb hs.2.2.2.2.2.2.2.2.2.1, pw_cell_below hb hs.2.2.2.2.2.2.2.2.2.2.1, pw_cell_below hb hs.2.2.2.2.2.2.2.2.2.2.2.1, pw_cell_below hb hs.2.2.2.2.2.2.2.2.2.2.2.2.1, pw_cell_below hb hs.2.2.2.2.2.2.2.2.2.2.2.2.2⟩ (fun hs2 => ?_)⟩
        clear hK K hs hb
        have hs := hs2
        clear hs2
        refine qN ?_
        refine qP 33 50 ?_
        refine qP 34 51 ?_
        refine qP 35 52 ?_
        refine qP 36 53 ?_
        refine qP 37 54 ?_
        refine qP 38 55 ?_
        refine qU 39 56 ?_
        refine qU 40 57 ?_
        refine qU 41 58 ?_
        refine qU 42 59 ?_
        refine qU 43 60 ?_
        refine qU 44 61 ?_
        refine qU 45 62 ?_
        refine qU 46 63 ?_
        refine qU 47 64 ?_
        refine qP 48 65 ?_
        refine qP 49 66 ?_
        refine qD ?_
        clear hs
        go_wp2
        go_roundg (us.length - (i + 1)).toNat
        case measure => omega
        case rel => exact ⟨i + 1, rfl, by omega, by omega, by omega, HB, HX, ⟨fun j h0 h1 => by
          by_cases hj : j < i
          · exact HA.out j h0 hj
          · obtain rfl : j = i := by omega
            exact ⟨K1.out, (by show (rd_T92 us _).f1.size ≤ 40; omega), K3.out, K4.out, K5.out, K6.out⟩⟩, ⟨fun j h0 h1 => by
          by_cases hj : j < i
          · exact HS.out j h0 hj
          · intro h2; omega⟩⟩
      obtain ⟨pd, eP, q0, _⟩ := at_T92 (Kd.C_below H0.out.2 HB.out) (i - 1) (by omega) (by omega)
      obtain rfl : ad = pd := Option.some.inj eP
      have hwr : IntKind.i64.wrap (i - 1) = i - 1 := i64id (by omega) (by omega)
      have h1m : 1 ≤ i := by omega
      have h2m : i - 1 < (us.length : Int) := by omega
      rw [show (i - 1).toNat = i.toNat - 1 by omega] at q0
      clear eP HE
      rcases bool_em (Op.bytesLess (rd_T92 us (i - 1)).f0.toList (rd_T92 us i).f0.toList) with k8 | k8
      · have K8 := Aside0.mk k8
        refine qS (fun w' => w'.cell? ⟨wr.heap.size, 0, none⟩ = some (.string (rd_T92 us i).f0) ∧ w'.cell? ⟨wr.heap.size, 1, none⟩ = some (.string (rd_T92 us i).f1) ∧ w'.cell? ⟨wr.heap.size, 2, none⟩ = some (.string (rd_T92 us i).f2) ∧ w'.cell? ⟨wr.heap.size, 3, none⟩ = some (.string (rd_T92 us i).f3) ∧ w'.cell? ⟨wr.heap.size, 4, none⟩ = some (.int .i64 (rd_T92 us i).f4) ∧ w'.cell? ⟨wr.heap.size, 5, none⟩ = some (.int .i64 (rd_T92 us i).f5) ∧ w'.cell? ⟨w.heap.size, 0, none⟩ = some (.int .i64 ip) ∧ w'.cell? ⟨w.heap.size, 1, none⟩ = some (.int .i64 b) ∧ w'.cell? ⟨w.heap.size, 2, none⟩ = some (.int .i64 gate) ∧ w'.cell? ⟨w.heap.size, 3, none⟩ = some (.string gm) ∧ w'.cell? ⟨w.heap.size, 4, none⟩ = some (.string wm) ∧ w'.cell? ⟨w.heap.size, 5, none⟩ = some (.int .i64 res) ∧ w'.cell? ⟨w.heap.size, 6, none⟩ = some (.slice A6 g.length c6) ∧ w'.cell? ⟨w.heap.size, 7, none⟩ = some (.slice A7 l.length c7) ∧ w'.cell? (ad.add ((i.toNat - 1) * 6)) = some (.string (rd_T92 us (i - 1)).f0)) 50 ⟨blk_cell hub 0, blk_cell hub 1, blk_cell hub 2, blk_cell hub 3, blk_cell hub 4, blk_cell hub 5, blk_cell HX.out 0, blk_cell HX.out 1, blk_cell HX.out 2, blk_cell HX.out 3, blk_cell HX.out 4, blk_cell HX.out 5, blk_cell HX.out 6, blk_cell HX.out 7, q0⟩ (fun hs => ?_)
        have n_ := Aside0.mk (below_drew1 HB.out)
        clear HB
        have HB := n_
        clear n_
        have n_ := Aside0.mk (blk_drew HX.out)
        clear HX
        have HX := n_
        clear n_
        refine qP 0 17 ?_
        refine qT 1 18 hs ?_
        refine q1 2 19 (fun K hK => ?_)
        refine qC Tryz.func92 _ ?_
        refine (sName8 _ _ HM.out.1).mono ?_
        intro e w2 h2
        obtain ⟨rfl, hb⟩ := h2.yes K1.out
        have n_ := Aside0.mk (below_step HB.out hb)
        clear HB
        have HB := n_
        clear n_
        have n_ := Aside0.mk (blk_below HX.out hb)
        clear HX
        have HX := n_
        clear n_
        refine ⟨_, rfl, hK.out _ _ ⟨pw_cell_below hb hs.1, pw_cell_below hb hs.2.1, pw_cell_below hb hs.2.2.1, pw_cell_below hb hs.2.2.2.1, pw_cell_below hb hs.2.2.2.2.1, pw_cell_below hb hs.2.2.2.2.2.1, pw_cell_below hb hs.2.2.2.2.2.2.1, pw_cell_below hb hs.2.2.2.2.2.2.2.1, pw_cell_below hb hs.2.2.2.2.2.2.2.2.1, pw_cell_below hb hs.2.2.2.2.2.2.2.2.2.1, pw_cell_below hb hs.2.2.2.2.2.2.2.2.2.2.1, pw_cell_below hb hs.2.2.2.2.2.2.2.2.2.2.2.1, pw_cell_below hb hs.2.2.2.2.2.2.2.2.2.2.2.2.1, pw_cell_below hb hs.2.2.2.2.2.2.2.2.2.2.2.2.2.1, pw_cell_below hb hs.2.2.2.2.2.2.2.2.2.2.2.2.2.2⟩ (fun hs2 => ?_)⟩
        clear hK K hs hb
        have hs := hs2
        clear hs2
        refine qN ?_
        refine qP 3 20 ?_
        refine qP 4 21 ?_
        refine qP 5 22 ?_
        refine qT 6 23 hs ?_
        refine qP 7 24 ?_
        refine qP 8 25 ?_
        refine qP 9 26 ?_
        refine qP 10 27 ?_
        refine qP 11 28 ?_
        refine qT 12 29 hs ?_
        refine qP 13 30 ?_
        refine qP 14 31 ?_
        refine qP 15 32 ?_
        refine qP 16 33 ?_
        refine qP 18 35 ?_
        refine qT 17 34 hs ?_
        refine qT 19 36 hs ?_
        refine q1 20 37 (fun K hK => ?_)
        refine qC Tryz.func93 _ ?_
        refine (sRoleIx _ _ _ _ _ _ _ _ _ _ _ _ _ _ (Kd.C_below H0.out.1 HB.out) zl).mono ?_
        intro e w2 h2
        obtain ⟨r, rfl, hb, hr⟩ := h2
        have hr0 : 0 ≤ r := by
          rcases hr with ⟨h, hn⟩ | ⟨h0, _⟩
          · obtain ⟨x, hx, hp⟩ := K4.out
            exact absurd hp (hn x hx)
          · exact h0
        have hrk : decide (r < 0) = false := decide_eq_false (by omega)
        clear hr
        have n_ := Aside0.mk (below_step HB.out hb)
        clear HB
        have HB := n_
        clear n_
        have n_ := Aside0.mk (blk_below HX.out hb)
        clear HX
        have HX := n_
        clear n_
        refine ⟨_, rfl, hK.out _ _ ⟨pw_cell_below hb hs.1, pw_cell_below hb hs.2.1, pw_cell_below hb hs.2.2.1, pw_cell_below hb hs.2.2.2.1, pw_cell_below hb hs.2.2.2.2.1, pw_cell_below hb hs.2.2.2.2.2.1, pw_cell_below hb hs.2.2.2.2.2.2.1, pw_cell_below hb hs.2.2.2.2.2.2.2.1, pw_cell_below hb hs.2.2.2.2.2.2.2.2.1, pw_cell_below hb hs.2.2.2.2.2.2.2.2.2.1, pw_cell_below hb hs.2.2.2.2.2.2.2.2.2.2.1, pw_cell_below hb hs.2.2.2.2.2.2.2.2.2.2.2.1, pw_cell_below hb hs.2.2.2.2.2.2.2.2.2.2.2.2.1, pw_cell_below hb hs.2.2.2.2.2.2.2.2.2.2.2.2.2.1, pw_cell_below hb hs.2.2.2.2.2.2.2.2.2.2.2.2.2.2⟩ (fun hs2 => ?_)⟩
        clear hK K hs hb
        have hs := hs2
        clear hs2
        refine qN ?_
        refine qP 21 38 ?_
        refine qP 22 39 ?_
        refine qP 23 40 ?_
        refine qP 24 41 ?_
        refine qT 25 42 hs ?_
        refine q1 26 43 (fun K hK => ?_)
        refine qC Tryz.func35 _ ?_
        refine (sIn1 _ _ _ _).mono ?_
        intro e w2 h2
        obtain ⟨rfl, hb⟩ := h2.yes K5.out
        have n_ := Aside0.mk (below_step HB.out hb)
        clear HB
        have HB := n_
        clear n_
        have n_ := Aside0.mk (blk_below HX.out hb)
        clear HX
        have HX := n_
        clear n_
        refine ⟨_, rfl, hK.out _ _ ⟨pw_cell_below hb hs.1, pw_cell_below hb hs.2.1, pw_cell_below hb hs.2.2.1, pw_cell_below hb hs.2.2.2.1, pw_cell_below hb hs.2.2.2.2.1, pw_cell_below hb hs.2.2.2.2.2.1, pw_cell_below hb hs.2.2.2.2.2.2.1, pw_cell_below hb hs.2.2.2.2.2.2.2.1, pw_cell_below hb hs.2.2.2.2.2.2.2.2.1, pw_cell_below hb hs.2.2.2.2.2.2.2.2.2.1, pw_cell_below hb hs.2.2.2.2.2.2.2.2.2.2.1, pw_cell_below hb hs.2.2.2.2.2.2.2.2.2.2.2.1, pw_cell_below hb hs.2.2.2.2.2.2.2.2.2.2.2.2.1, pw_cell_below hb hs.2.2.2.2.2.2.2.2.2.2.2.2.2.1, pw_cell_below hb hs.2.2.2.2.2.2.2.2.2.2.2.2.2.2⟩ (fun hs2 => ?_)⟩
        clear hK K hs hb
        have hs := hs2
        clear hs2
        refine qN ?_
        refine qP 27 44 ?_
        refine qP 28 45 ?_
        refine qP 29 46 ?_
        refine qP 30 47 ?_
        refine qT 31 48 hs ?_
        refine q1 32 49 (fun K hK => ?_)
        refine qC Tryz.func35 _ ?_
        refine (sIn1 _ _ _ _).mono ?_
        intro e w2 h2
        obtain ⟨rfl, hb⟩ := h2.yes K6.out
        have n_ := Aside0.mk (below_step HB.out hb)
        clear HB
        have HB := n_
        clear n_
        have n_ := Aside0.mk (blk_below HX.out hb)
        clear HX
        have HX := n_
        clear n_
        refine ⟨_, rfl, hK.out _ _ ⟨pw_cell_below hb hs.1, pw_cell_below hb hs.2.1, pw_cell_below hb hs.2.2.1, pw_cell_below hb hs.2.2.2.1, pw_cell_below hb hs.2.2.2.2.1, pw_cell_below hb hs.2.2.2.2.2.1, pw_cell_below hb hs.2.2.2.2.2.2.1, pw_cell_below hb hs.2.2.2.2.2.2.2.1, pw_cell_below hb hs.2.2.2.2.2.2.2.2.1, pw_cell_below hb hs.2.2.2.2.2.2.2.2.2.1, pw_cell_below hb hs.2.2.2.2.2.2.2.2.2.2.1, pw_cell_below hb hs.2.2.2.2.2.2.2.2.2.2.2.1, pw_cell_below hb hs.2.2.2.2.2.2.2.2.2.2.2.2.1, pw_cell_below hb hs.2.2.2.2.2.2.2.2.2.2.2.2.2.1, pw_cell_below hb hs.2.2.2.2.2.2.2.2.2.2.2.2.2.2⟩ (fun hs2 => ?_)⟩
        clear hK K hs hb
        have hs := hs2
        clear hs2
        refine qN ?_
        refine qP 33 50 ?_
        refine qP 34 51 ?_
        refine qP 35 52 ?_
        refine qP 36 53 ?_
        refine qP 37 54 ?_
        refine qP 38 55 ?_
        refine qP 39 56 ?_
        refine qP 40 57 ?_
        refine qP 41 58 ?_
        refine qP 42 59 ?_
        refine qP 43 60 ?_
        refine qP 45 62 ?_
        refine qT 44 61 hs ?_
        refine qT 46 63 hs ?_
        refine qP 47 64 ?_
        refine qP 48 65 ?_
        refine qP 49 66 ?_
        refine qD ?_
        clear hs
        clear k8 q0 hwr h1m h2m
        go_wp2
        go_roundg (us.length - (i + 1)).toNat
        case measure => omega
        case rel => exact ⟨i + 1, rfl, by omega, by omega, by omega, HB, HX, ⟨fun j h0 h1 => by
          by_cases hj : j < i
          · exact HA.out j h0 hj
          · obtain rfl : j = i := by omega
            exact ⟨K1.out, (by show (rd_T92 us _).f1.size ≤ 40; omega), K3.out, K4.out, K5.out, K6.out⟩⟩, ⟨fun j h0 h1 => by
          by_cases hj : j < i
          · exact HS.out j h0 hj
          · obtain rfl : j = i := by omega
            exact fun _ => K8.out⟩⟩
      · refine qS (fun w' => w'.cell? ⟨wr.heap.size, 0, none⟩ = some (.string (rd_T92 us i).f0) ∧ w'.cell? ⟨wr.heap.size, 1, none⟩ = some (.string (rd_T92 us i).f1) ∧ w'.cell? ⟨wr.heap.size, 2, none⟩ = some (.string (rd_T92 us i).f2) ∧ w'.cell? ⟨wr.heap.size, 3, none⟩ = some (.string (rd_T92 us i).f3) ∧ w'.cell? ⟨wr.heap.size, 4, none⟩ = some (.int .i64 (rd_T92 us i).f4) ∧ w'.cell? ⟨wr.heap.size, 5, none⟩ = some (.int .i64 (rd_T92 us i).f5) ∧ w'.cell? ⟨w.heap.size, 0, none⟩ = some (.int .i64 ip) ∧ w'.cell? ⟨w.heap.size, 1, none⟩ = some (.int .i64 b) ∧ w'.cell? ⟨w.heap.size, 2, none⟩ = some (.int .i64 gate) ∧ w'.cell? ⟨w.heap.size, 3, none⟩ = some (.string gm) ∧ w'.cell? ⟨w.heap.size, 4, none⟩ = some (.string wm) ∧ w'.cell? ⟨w.heap.size, 5, none⟩ = some (.int .i64 res) ∧ w'.cell? ⟨w.heap.size, 6, none⟩ = some (.slice A6 g.length c6) ∧ w'.cell? ⟨w.heap.size, 7, none⟩ = some (.slice A7 l.length c7) ∧ w'.cell? (ad.add ((i.toNat - 1) * 6)) = some (.string (rd_T92 us (i - 1)).f0)) 50 ⟨blk_cell hub 0, blk_cell hub 1, blk_cell hub 2, blk_cell hub 3, blk_cell hub 4, blk_cell hub 5, blk_cell HX.out 0, blk_cell HX.out 1, blk_cell HX.out 2, blk_cell HX.out 3, blk_cell HX.out 4, blk_cell HX.out 5, blk_cell HX.out 6, blk_cell HX.out 7, q0⟩ (fun hs => ?_)
        have n_ := Aside0.mk (below_drew1 HB.out)
        clear HB
        have HB := n_
        clear n_
        have n_ := Aside0.mk (blk_drew HX.out)
        clear HX
        have HX := n_
        clear n_
        refine qP 0 17 ?_
        refine qT 1 18 hs ?_
        refine q1 2 19 (fun K hK => ?_)
        refine qC Tryz.func92 _ ?_
        refine (sName8 _ _ HM.out.1).mono ?_
        intro e w2 h2
        obtain ⟨rfl, hb⟩ := h2.yes K1.out
        have n_ := Aside0.mk (below_step HB.out hb)
        clear HB
        have HB := n_
        clear n_
        have n_ := Aside0.mk (blk_below HX.out hb)
        clear HX
        have HX := n_
        clear n_
        refine ⟨_, rfl, hK.out _ _ ⟨pw_cell_below hb hs.1, pw_cell_below hb hs.2.1, pw_cell_below hb hs.2.2.1, pw_cell_below hb hs.2.2.2.1, pw_cell_below hb hs.2.2.2.2.1, pw_cell_below hb hs.2.2.2.2.2.1, pw_cell_below hb hs.2.2.2.2.2.2.1, pw_cell_below hb hs.2.2.2.2.2.2.2.1, pw_cell_below hb hs.2.2.2.2.2.2.2.2.1, pw_cell_below hb hs.2.2.2.2.2.2.2.2.2.1, pw_cell_below hb hs.2.2.2.2.2.2.2.2.2.2.1, pw_cell_below hb hs.2.2.2.2.2.2.2.2.2.2.2.1, pw_cell_below hb hs.2.2.2.2.2.2.2.2.2.2.2.2.1, pw_cell_below hb hs.2.2.2.2.2.2.2.2.2.2.2.2.2.1, pw_cell_below hb hs.2.2.2.2.2.2.2.2.2.2.2.2.2.2⟩ (fun hs2 => ?_)⟩
        clear hK K hs hb
        have hs := hs2
        clear hs2
        refine qN ?_
        refine qP 3 20 ?_
        refine qP 4 21 ?_
        refine qP 5 22 ?_
        refine qT 6 23 hs ?_
        refine qP 7 24 ?_
        refine qP 8 25 ?_
        refine qP 9 26 ?_
        refine qP 10 27 ?_
        refine qP 11 28 ?_
        refine qT 12 29 hs ?_
        refine qP 13 30 ?_
        refine qP 14 31 ?_
        refine qP 15 32 ?_
        refine qP 16 33 ?_
        refine qP 18 35 ?_
        refine qT 17 34 hs ?_
        refine qT 19 36 hs ?_
        refine q1 20 37 (fun K hK => ?_)
        refine qC Tryz.func93 _ ?_
        refine (sRoleIx _ _ _ _ _ _ _ _ _ _ _ _ _ _ (Kd.C_below H0.out.1 HB.out) zl).mono ?_
        intro e w2 h2
        obtain ⟨r, rfl, hb, hr⟩ := h2
        have hr0 : 0 ≤ r := by
          rcases hr with ⟨h, hn⟩ | ⟨h0, _⟩
          · obtain ⟨x, hx, hp⟩ := K4.out
            exact absurd hp (hn x hx)
          · exact h0
        have hrk : decide (r < 0) = false := decide_eq_false (by omega)
        clear hr
        have n_ := Aside0.mk (below_step HB.out hb)
        clear HB
        have HB := n_
        clear n_
        have n_ := Aside0.mk (blk_below HX.out hb)
        clear HX
        have HX := n_
        clear n_
        refine ⟨_, rfl, hK.out _ _ ⟨pw_cell_below hb hs.1, pw_cell_below hb hs.2.1, pw_cell_below hb hs.2.2.1, pw_cell_below hb hs.2.2.2.1, pw_cell_below hb hs.2.2.2.2.1, pw_cell_below hb hs.2.2.2.2.2.1, pw_cell_below hb hs.2.2.2.2.2.2.1, pw_cell_below hb hs.2.2.2.2.2.2.2.1, pw_cell_below hb hs.2.2.2.2.2.2.2.2.1, pw_cell_below hb hs.2.2.2.2.2.2.2.2.2.1, pw_cell_below hb hs.2.2.2.2.2.2.2.2.2.2.1, pw_cell_below hb hs.2.2.2.2.2.2.2.2.2.2.2.1, pw_cell_below hb hs.2.2.2.2.2.2.2.2.2.2.2.2.1, pw_cell_below hb hs.2.2.2.2.2.2.2.2.2.2.2.2.2.1, pw_cell_below hb hs.2.2.2.2.2.2.2.2.2.2.2.2.2.2⟩ (fun hs2 => ?_)⟩
        clear hK K hs hb
        have hs := hs2
        clear hs2
        refine qN ?_
        refine qP 21 38 ?_
        refine qP 22 39 ?_
        refine qP 23 40 ?_
        refine qP 24 41 ?_
        refine qT 25 42 hs ?_
        refine q1 26 43 (fun K hK => ?_)
        refine qC Tryz.func35 _ ?_
        refine (sIn1 _ _ _ _).mono ?_
        intro e w2 h2
        obtain ⟨rfl, hb⟩ := h2.yes K5.out
        have n_ := Aside0.mk (below_step HB.out hb)
        clear HB
        have HB := n_
        clear n_
        have n_ := Aside0.mk (blk_below HX.out hb)
        clear HX
        have HX := n_
        clear n_
        refine ⟨_, rfl, hK.out _ _ ⟨pw_cell_below hb hs.1, pw_cell_below hb hs.2.1, pw_cell_below hb hs.2.2.1, pw_cell_below hb hs.2.2.2.1, pw_cell_below hb hs.2.2.2.2.1, pw_cell_below hb hs.2.2.2.2.2.1, pw_cell_below hb hs.2.2.2.2.2.2.1, pw_cell_below hb hs.2.2.2.2.2.2.2.1, pw_cell_below hb hs.2.2.2.2.2.2.2.2.1, pw_cell_below hb hs.2.2.2.2.2.2.2.2.2.1, pw_cell_below hb hs.2.2.2.2.2.2.2.2.2.2.1, pw_cell_below hb hs.2.2.2.2.2.2.2.2.2.2.2.1, pw_cell_below hb hs.2.2.2.2.2.2.2.2.2.2.2.2.1, pw_cell_below hb hs.2.2.2.2.2.2.2.2.2.2.2.2.2.1, pw_cell_below hb hs.2.2.2.2.2.2.2.2.2.2.2.2.2.2⟩ (fun hs2 => ?_)⟩
        clear hK K hs hb
        have hs := hs2
        clear hs2
        refine qN ?_
        refine qP 27 44 ?_
        refine qP 28 45 ?_
        refine qP 29 46 ?_
        refine qP 30 47 ?_
        refine qT 31 48 hs ?_
        refine q1 32 49 (fun K hK => ?_)
        refine qC Tryz.func35 _ ?_
        refine (sIn1 _ _ _ _).mono ?_
        intro e w2 h2
        obtain ⟨rfl, hb⟩ := h2.yes K6.out
        have n_ := Aside0.mk (below_step HB.out hb)
        clear HB
        have HB := n_
        clear n_
        have n_ := Aside0.mk (blk_below HX.out hb)
        clear HX
        have HX := n_
        clear n_
        refine ⟨_, rfl, hK.out _ _ ⟨pw_cell_below hb hs.1, pw_cell_below hb hs.2.1, pw_cell_below hb hs.2.2.1, pw_cell_below hb hs.2.2.2.1, pw_cell_below hb hs.2.2.2.2.1, pw_cell_below hb hs.2.2.2.2.2.1, pw_cell_below hb hs.2.2.2.2.2.2.1, pw_cell_below hb hs.2.2.2.2.2.2.2.1, pw_cell_below hb hs.2.2.2.2.2.2.2.2.1, pw_cell_below hb hs.2.2.2.2.2.2.2.2.2.1, pw_cell_below hb hs.2.2.2.2.2.2.2.2.2.2.1, pw_cell_below hb hs.2.2.2.2.2.2.2.2.2.2.2.1, pw_cell_below hb hs.2.2.2.2.2.2.2.2.2.2.2.2.1, pw_cell_below hb hs.2.2.2.2.2.2.2.2.2.2.2.2.2.1, pw_cell_below hb hs.2.2.2.2.2.2.2.2.2.2.2.2.2.2⟩ (fun hs2 => ?_)⟩
        clear hK K hs hb
        have hs := hs2
        clear hs2
        refine qN ?_
        refine qP 33 50 ?_
        refine qP 34 51 ?_
        refine qP 35 52 ?_
        refine qP 36 53 ?_
        refine qP 37 54 ?_
        refine qP 38 55 ?_
        refine qP 39 56 ?_
        refine qP 40 57 ?_
        refine qP 41 58 ?_
        refine qP 42 59 ?_
        refine qP 43 60 ?_
        refine qP 45 62 ?_
        refine qT 44 61 hs ?_
        refine qT 46 63 hs ?_
        refine qP 47 64 ?_
        refine qP 48 65 ?_
        refine qP 49 66 ?_
        refine qD ?_
        clear hs
        go_wp2
        go_ret
        exact .inr ⟨rfl, fun h => absurd (h.2.2 i hi0 hlt k7) (by rw [k8]; decide), HB.out⟩
    · obtain rfl : i = us.length := by omega
      rcases dec_em ((us.length : Int) ≤ 6) with ⟨k1, b1⟩ | ⟨k1, b1⟩
      · go_wp2
        go_ret
        exact .inl ⟨rfl, ⟨by omega, all_of rfl HA.out, HS.out⟩, HB.out⟩
      · go_wp2
        go_ret
        exact .inr ⟨rfl, fun h => by have := h.1; omega, HB.out⟩
end
section
-- NEEDS laws.eqConfig
attribute [local go_sem] str_geq str_lss
def SepP (ss : List S76) (k i : Int) : Prop := (rd_T76 ss k).f0 < (rd_T76 ss i).f0 ∧ ¬ ClashP (rd_T76 ss i) (rd_T76 ss k)
theorem ups_lt {ss : List S76} (h : ∀ i : Int, 0 ≤ i → i < ss.length → SessUpP ss i) : ∀ (n : Nat) (k i : Int), 0 ≤ k → k < i → i < ss.length → (i - k).toNat = n → (rd_T76 ss k).f0 < (rd_T76 ss i).f0
  | 0, k, i, h0, h1, h2, e => by omega
  | n + 1, k, i, h0, h1, h2, e => by
    have q := h i (by omega) h2 (by omega)
    by_cases hk : k = i - 1
    · rw [hk]; exact q
    · exact Int.lt_trans (ups_lt h n k (i - 1) h0 (by omega) (by omega) (by omega)) q
theorem take_rd {ss : List S76} {k i : Int} (h0 : 0 ≤ k) (h1 : k < i) (h2 : i < ss.length) : rd_T76 ss k ∈ ss.take i.toNat := by
  rw [rd_T76, List.getD_eq_getElem?_getD, List.getElem?_eq_getElem (show k.toNat < ss.length by omega)]
  exact List.mem_iff_getElem.2 ⟨k.toNat, by rw [List.length_take]; omega, by rw [List.getElem_take]; rfl⟩
theorem sep_of {ss : List S76} {k i : Int} (h : ∀ i : Int, 0 ≤ i → i < ss.length → SessUpP ss i ∧ ApartP ss i) (h0 : 0 ≤ k) (h1 : k < i) (h2 : i < ss.length) : SepP ss k i :=
  ⟨ups_lt (fun j a b => (h j a b).1) _ k i h0 h1 h2 rfl, fun hc => (h i (by omega) h2).2 ⟨_, take_rd h0 h1 h2, hc⟩⟩
theorem apart_of {ss : List S76} {i : Int} (hi : 0 ≤ i) (h2 : i < ss.length) (h : ∀ k : Int, 0 ≤ k → k < i → SepP ss k i) : SessUpP ss i ∧ ApartP ss i := by
  refine ⟨fun h0 => (h (i - 1) (by omega) (by omega)).1, ?_⟩
  rintro ⟨x, hx, hc⟩
  obtain ⟨j, hj, rfl⟩ := List.mem_iff_getElem.1 hx
  rw [List.length_take] at hj
  refine (h (j : Int) (by omega) (by omega)).2 ?_
  have e : rd_T76 ss (j : Int) = (ss.take i.toNat)[j]'(by rw [List.length_take]; exact hj) := by
    rw [List.getElem_take, rd_T76, List.getD_eq_getElem?_getD, Int.toNat_natCast, List.getElem?_eq_getElem (show j < ss.length by omega)]; rfl
  rw [e]; exact hc
set_option maxHeartbeats 8000000 in
set_option maxRecDepth 100000 in
theorem sGuests1 (ip b gate : Int) (gm wm : ByteArray) (res : Int) (A6 : Option Addr) (c6 : Nat) (g : List S140) (A7 : Option Addr) (c7 : Nat) (l : List S145) (B0 B1 B2 B3 : Option Addr) (d0 d1 d2 d3 : Nat) (us : List S92) (ss : List S76) (fs : List S81) (rs : List S83) (nx : Int) (w : World) (hg : Kd.C k140 w A6 g.length g) (hl : Kd.C k145 w A7 l.length l) (h0 : Kd.C k92 w B0 us.length us) (h1 : Kd.C k76 w B1 ss.length ss) (h2 : Kd.C k81 w B2 fs.length fs) (h3 : Kd.C k83 w B3 rs.length rs) (zg : g.length ≤ 1152921504606846976) (zl : l.length ≤ 1152921504606846976) (zr : ∀ x ∈ l, x.f1.length ≤ 1152921504606846976 ∧ x.f0.size ≤ 1152921504606846976) (zm : gm.size ≤ 1152921504606846976) (zw : wm.size ≤ 1152921504606846976) (y0 : us.length ≤ 1152921504606846976) (y1 : ss.length ≤ 1152921504606846976) (y2 : fs.length ≤ 1152921504606846976) (y3 : rs.length ≤ 1152921504606846976) (zu : ∀ u ∈ us, u.f0.size ≤ 1152921504606846976 ∧ u.f1.size ≤ 1152921504606846976 ∧ u.f2.size ≤ 1152921504606846976) (zs : ∀ s ∈ ss, s.f2.size ≤ 1152921504606846976) (zf : ∀ f ∈ fs, f.f0.size ≤ 1152921504606846976) :
    Calls Tryz.prog 9 #[.agg #[.int .i64 ip, .int .i64 b, .int .i64 gate, .string gm, .string wm, .int .i64 res, .slice A6 g.length c6, .slice A7 l.length c7], .agg #[.slice B0 us.length d0, .slice B1 ss.length d1, .slice B2 fs.length d2, .slice B3 rs.length d3, .int .i64 nx]] w (IsB (GuestsP ip b gate gm wm res g l us ss fs rs nx) w) := by
  have hu := Tryz.underlying41
  have hu2 := Tryz.underlying48
  have hu3 := Tryz.underlying92
  have hu4 := Tryz.underlying76
  have hu5 := Tryz.underlying81
  have hu6 := Tryz.underlying83
  have H0 := Aside0.mk (And.intro hg (And.intro hl (And.intro h0 (And.intro h1 (And.intro h2 h3)))))
  have HZ := Aside0.mk (And.intro zr (And.intro zu (And.intro zs zf)))
  clear hg hl h0 h1 h2 h3 zr zu zs zf
  have HB := Aside0.mk (Below.refl w.heap.size w)
  have HP := Aside0.mk True.intro
  rcases dec_em (3 < (ss.length : Int)) with ⟨k2, b2⟩ | ⟨k2, b2⟩
  rotate_left
  rcases dec_em (20 < (fs.length : Int)) with ⟨k3, b3⟩ | ⟨k3, b3⟩
  rotate_left
  rcases dec_em (60 < (rs.length : Int)) with ⟨k4, b4⟩ | ⟨k4, b4⟩
  all_goals go_enter Tryz.func9, Tryz.ntmps9
  all_goals dsimp only [List.append]
  all_goals go_wp2_with (first
   | (go_at_call 33; refine (sConfig1 ip b gate gm wm res A6 c6 g A7 c7 l _ (Kd.C_below H0.out.1 (by repeat' (with_reducible first | exact HB.out | apply below_alloc | apply below_drew1 | refine below_set ?_ (by omega)))) (Kd.C_below H0.out.2.1 (by repeat' (with_reducible first | exact HB.out | apply below_alloc | apply below_drew1 | refine below_set ?_ (by omega)))) zg zl HZ.out.1 zm zw).mono ?_; rintro e w2 (⟨rfl, hr, hb⟩ | ⟨rfl, hr, hb⟩) <;> (have n_ := Aside0.mk (And.intro hr HP.out); clear HP hr; have HP := n_; clear n_; have n_ := Aside0.mk (below_step (w := w) (by repeat' (with_reducible first | exact HB.out | apply below_alloc | apply below_drew1 | refine below_set ?_ (by omega))) hb); clear HB; have HB := n_; clear n_; have n_ := Aside0.mk (blk_below (g := w.heap.size) (o := .cells #[.int .i64 ip, .int .i64 b, .int .i64 gate, .string gm, .string wm, .int .i64 res, .slice A6 g.length c6, .slice A7 l.length c7] 41 (0, 0)) (by repeat' (with_reducible first | exact HX.out | exact blk_new1 _ _ _ | exact blk_alloc (blk_new _ _) _ | refine blk_alloc ?_ _ | refine blk_drew ?_)) hb); (try clear HX); have HX := n_; clear n_; have n_ := Aside0.mk (blk_below (g := w.heap.size + 1) (o := .cells #[.slice B0 us.length d0, .slice B1 ss.length d1, .slice B2 fs.length d2, .slice B3 rs.length d3, .int .i64 nx] 48 (0, 0)) (by repeat' (with_reducible first | exact HG.out | exact blk_new1 _ _ _ | exact blk_alloc (blk_new _ _) _ | refine blk_alloc ?_ _ | refine blk_drew ?_)) hb); (try clear HG); have HG := n_; clear n_; obtain ⟨hc, hf⟩ := bcell hb; have hz : w.heap.size < w2.heap.size := blk_lt HX.out; have hz1 : w.heap.size + 1 < w2.heap.size := blk_lt HG.out; clear hb))
   | (go_at_call 34; refine (sUsers1 ip b gate gm wm res A6 c6 g A7 c7 l B0 d0 us _ (Kd.C_below H0.out.2.1 (by repeat' (with_reducible first | exact HB.out | apply below_alloc | apply below_drew1 | refine below_set ?_ (by omega)))) (Kd.C_below H0.out.2.2.1 (by repeat' (with_reducible first | exact HB.out | apply below_alloc | apply below_drew1 | refine below_set ?_ (by omega)))) zl y0 HZ.out.2.1).mono ?_; rintro e w2 (⟨rfl, hr, hb⟩ | ⟨rfl, hr, hb⟩) <;> (have n_ := Aside0.mk (And.intro hr HP.out); clear HP hr; have HP := n_; clear n_; have n_ := Aside0.mk (below_step (w := w) (by repeat' (with_reducible first | exact HB.out | apply below_alloc | apply below_drew1 | refine below_set ?_ (by omega))) hb); clear HB; have HB := n_; clear n_; have n_ := Aside0.mk (blk_below (g := w.heap.size) (o := .cells #[.int .i64 ip, .int .i64 b, .int .i64 gate, .string gm, .string wm, .int .i64 res, .slice A6 g.length c6, .slice A7 l.length c7] 41 (0, 0)) (by repeat' (with_reducible first | exact HX.out | exact blk_new1 _ _ _ | exact blk_alloc (blk_new _ _) _ | refine blk_alloc ?_ _ | refine blk_drew ?_)) hb); (try clear HX); have HX := n_; clear n_; have n_ := Aside0.mk (blk_below (g := w.heap.size + 1) (o := .cells #[.slice B0 us.length d0, .slice B1 ss.length d1, .slice B2 fs.length d2, .slice B3 rs.length d3, .int .i64 nx] 48 (0, 0)) (by repeat' (with_reducible first | exact HG.out | exact blk_new1 _ _ _ | exact blk_alloc (blk_new _ _) _ | refine blk_alloc ?_ _ | refine blk_drew ?_)) hb); (try clear HG); have HG := n_; clear n_; obtain ⟨hc, hf⟩ := bcell hb; have hz : w.heap.size < w2.heap.size := blk_lt HX.out; have hz1 : w.heap.size + 1 < w2.heap.size := blk_lt HG.out; clear hb))
   | (go_at_call 35; refine (sIn1 _ _ _ _).mono ?_; rintro e w2 (⟨rfl, hr, hb⟩ | ⟨rfl, hr, hb⟩) <;> (have n_ := Aside0.mk (And.intro hr HP.out); clear HP hr; have HP := n_; clear n_; have n_ := Aside0.mk (below_step (w := w) (by repeat' (with_reducible first | exact HB.out | apply below_alloc | apply below_drew1 | refine below_set ?_ (by omega))) hb); clear HB; have HB := n_; clear n_; have n_ := Aside0.mk (blk_below (g := w.heap.size) (o := .cells #[.int .i64 ip, .int .i64 b, .int .i64 gate, .string gm, .string wm, .int .i64 res, .slice A6 g.length c6, .slice A7 l.length c7] 41 (0, 0)) (by repeat' (with_reducible first | exact HX.out | exact blk_new1 _ _ _ | exact blk_alloc (blk_new _ _) _ | refine blk_alloc ?_ _ | refine blk_drew ?_)) hb); (try clear HX); have HX := n_; clear n_; have n_ := Aside0.mk (blk_below (g := w.heap.size + 1) (o := .cells #[.slice B0 us.length d0, .slice B1 ss.length d1, .slice B2 fs.length d2, .slice B3 rs.length d3, .int .i64 nx] 48 (0, 0)) (by repeat' (with_reducible first | exact HG.out | exact blk_new1 _ _ _ | exact blk_alloc (blk_new _ _) _ | refine blk_alloc ?_ _ | refine blk_drew ?_)) hb); (try clear HG); have HG := n_; clear n_; obtain ⟨hc, hf⟩ := bcell hb; have hz : w.heap.size < w2.heap.size := blk_lt HX.out; have hz1 : w.heap.size + 1 < w2.heap.size := blk_lt HG.out; clear hb)))
  all_goals try (go_ret; exact .inr ⟨rfl, by rintro ⟨p1, p2, p3, p4, p5, p6, _⟩; first | exact HP.out.1 p1 | exact HP.out.1 p2 | exact HP.out.1 p6 | omega, HB.out⟩; done)
  (try clear hc hf hz hz1)
  have HQ := HP
  clear HP
  obtain ⟨n0, n1⟩ := HQ.out.1
  obtain ⟨kb0, kb1⟩ := netbits HQ.out.2.2.1.1
  have hw1 : IntKind.i64.wrap (nx - 1) = nx - 1 := i64id (by omega) (by omega)
  have hw2 : IntKind.i64.wrap ((us.length : Int) - 1) = (us.length : Int) - 1 := i64id (by omega) (by omega)
  go_loopg [5] ss.length (fun gg v w' => ∃ i : Int, v = .int .i64 i ∧ 0 ≤ i ∧ i ≤ ss.length ∧ ss.length - i ≤ gg ∧ Aside0 (Below w.heap.size w w') ∧ Aside0 (w'.heap[w.heap.size]? = some (.cells #[.int .i64 ip, .int .i64 b, .int .i64 gate, .string gm, .string wm, .int .i64 res, .slice A6 g.length c6, .slice A7 l.length c7] 41 (0, 0))) ∧ Aside0 (w'.heap[w.heap.size + 1]? = some (.cells #[.slice B0 us.length d0, .slice B1 ss.length d1, .slice B2 fs.length d2, .slice B3 rs.length d3, .int .i64 nx] 48 (0, 0))) ∧ Aside0 (∀ j : Int, 0 ≤ j → j < i → SessionP ip b nx us.length (ss.getD j.toNat z76)) ∧ Aside0 (∀ j : Int, 0 ≤ j → j < i → SessUpP ss j ∧ ApartP ss j))
  case atStart => exact ⟨0, rfl, Int.le_refl _, by omega, by omega, HB, HX, HG, ⟨fun j h0 h1 => by omega⟩, ⟨fun j h0 h1 => by omega⟩⟩
  case round =>
    clear HB HX HG
    obtain ⟨i, rfl, hi0, hi, hgg, HB, HX, HG, HA, HS⟩ := hrel
    have cx1 := blk_cell HG.out
    have hz1 := blk_lt HG.out
    have cx0 := blk_cell HX.out
    have hz0 := blk_lt HX.out
    have HP := Aside0.mk True.intro
    obtain ⟨wo, rfl⟩ : ∃ wo : World, wo = wr := ⟨_, rfl⟩
    by_cases hlt : i < ss.length
    · as_aux_lemma =>
      obtain ⟨ad, eA, hrow⟩ := at_T76 (Kd.C_below H0.out.2.2.2.1 HB.out) i hi0 hlt
      subst eA
      go_wp2_with (first
        | (go_at_call 35; go_loud (refine (sIn1 _ _ _ _).mono ?_; rintro e w2 (⟨rfl, hr, hb⟩ | ⟨rfl, hr, hb⟩) <;> (have n_ := Aside0.mk (And.intro hr HP.out); clear HP hr; have HP := n_; clear n_; have n_ := Aside0.mk (below_step (w := w) (by repeat' (with_reducible first | exact HB.out | apply below_alloc | apply below_drew1 | refine below_set ?_ (by omega))) hb); clear HB; have HB := n_; clear n_; have n_ := Aside0.mk (blk_below (g := w.heap.size) (o := .cells #[.int .i64 ip, .int .i64 b, .int .i64 gate, .string gm, .string wm, .int .i64 res, .slice A6 g.length c6, .slice A7 l.length c7] 41 (0, 0)) (by repeat' (with_reducible first | exact HX.out | exact blk_new _ _ | refine blk_alloc ?_ _ | refine blk_drew ?_)) hb); (try clear HX); have HX := n_; clear n_; have n_ := Aside0.mk (blk_below (g := w.heap.size + 1) (o := .cells #[.slice B0 us.length d0, .slice (some ad) ss.length d1, .slice B2 fs.length d2, .slice B3 rs.length d3, .int .i64 nx] 48 (0, 0)) (by repeat' (with_reducible first | exact HG.out | exact blk_new _ _ | refine blk_alloc ?_ _ | refine blk_drew ?_)) hb); (try clear HG); have HG := n_; clear n_; have n_ := Aside0.mk (blk_below (g := wo.heap.size) (o := .cells #[.int .i64 (rd_T76 ss i).f0, .int .i64 (rd_T76 ss i).f1, .string (rd_T76 ss i).f2, .int .i64 (rd_T76 ss i).f3, .int .i64 (rd_T76 ss i).f4, .int .i64 (rd_T76 ss i).f5, .int .i64 (rd_T76 ss i).f6, .int .i64 (rd_T76 ss i).f7, .int .i64 (rd_T76 ss i).f8, .int .i64 (rd_T76 ss i).f9] 76 (0, 0)) (by repeat' (with_reducible first | exact HU.out | exact blk_new _ _ | refine blk_alloc ?_ _ | refine blk_drew ?_)) hb); (try clear HU); have HU := n_; clear n_; (try clear cx0 cx1 cx2 hz0 hz1 hz2); have cx0 := blk_cell HX.out; have cx1 := blk_cell HG.out; have cx2 := blk_cell HU.out; have hz0 := blk_lt HX.out; have hz1 := blk_lt HG.out; have hz2 := blk_lt HU.out; clear hb)))
        | (go_at_call 36; go_loud (refine (sMac1 _ _).mono ?_; rintro e w2 (⟨rfl, hr, hb⟩ | ⟨rfl, hr, hb⟩) <;> (have n_ := Aside0.mk (And.intro hr HP.out); clear HP hr; have HP := n_; clear n_; have n_ := Aside0.mk (below_step (w := w) (by repeat' (with_reducible first | exact HB.out | apply below_alloc | apply below_drew1 | refine below_set ?_ (by omega))) hb); clear HB; have HB := n_; clear n_; have n_ := Aside0.mk (blk_below (g := w.heap.size) (o := .cells #[.int .i64 ip, .int .i64 b, .int .i64 gate, .string gm, .string wm, .int .i64 res, .slice A6 g.length c6, .slice A7 l.length c7] 41 (0, 0)) (by repeat' (with_reducible first | exact HX.out | exact blk_new _ _ | refine blk_alloc ?_ _ | refine blk_drew ?_)) hb); (try clear HX); have HX := n_; clear n_; have n_ := Aside0.mk (blk_below (g := w.heap.size + 1) (o := .cells #[.slice B0 us.length d0, .slice (some ad) ss.length d1, .slice B2 fs.length d2, .slice B3 rs.length d3, .int .i64 nx] 48 (0, 0)) (by repeat' (with_reducible first | exact HG.out | exact blk_new _ _ | refine blk_alloc ?_ _ | refine blk_drew ?_)) hb); (try clear HG); have HG := n_; clear n_; have n_ := Aside0.mk (blk_below (g := wo.heap.size) (o := .cells #[.int .i64 (rd_T76 ss i).f0, .int .i64 (rd_T76 ss i).f1, .string (rd_T76 ss i).f2, .int .i64 (rd_T76 ss i).f3, .int .i64 (rd_T76 ss i).f4, .int .i64 (rd_T76 ss i).f5, .int .i64 (rd_T76 ss i).f6, .int .i64 (rd_T76 ss i).f7, .int .i64 (rd_T76 ss i).f8, .int .i64 (rd_T76 ss i).f9] 76 (0, 0)) (by repeat' (with_reducible first | exact HU.out | exact blk_new _ _ | refine blk_alloc ?_ _ | refine blk_drew ?_)) hb); (try clear HU); have HU := n_; clear n_; (try clear cx0 cx1 cx2 hz0 hz1 hz2); have cx0 := blk_cell HX.out; have cx1 := blk_cell HG.out; have cx2 := blk_cell HU.out; have hz0 := blk_lt HX.out; have hz1 := blk_lt HG.out; have hz2 := blk_lt HU.out; clear hb)))
        | (go_at_call 37; go_loud (refine (sHas1 _ _ _ _ kb0 kb1).mono ?_; rintro e w2 (⟨rfl, hr, hb⟩ | ⟨rfl, hr, hb⟩) <;> (have n_ := Aside0.mk (And.intro hr HP.out); clear HP hr; have HP := n_; clear n_; have n_ := Aside0.mk (below_step (w := w) (by repeat' (with_reducible first | exact HB.out | apply below_alloc | apply below_drew1 | refine below_set ?_ (by omega))) hb); clear HB; have HB := n_; clear n_; have n_ := Aside0.mk (blk_below (g := w.heap.size) (o := .cells #[.int .i64 ip, .int .i64 b, .int .i64 gate, .string gm, .string wm, .int .i64 res, .slice A6 g.length c6, .slice A7 l.length c7] 41 (0, 0)) (by repeat' (with_reducible first | exact HX.out | exact blk_new _ _ | refine blk_alloc ?_ _ | refine blk_drew ?_)) hb); (try clear HX); have HX := n_; clear n_; have n_ := Aside0.mk (blk_below (g := w.heap.size + 1) (o := .cells #[.slice B0 us.length d0, .slice (some ad) ss.length d1, .slice B2 fs.length d2, .slice B3 rs.length d3, .int .i64 nx] 48 (0, 0)) (by repeat' (with_reducible first | exact HG.out | exact blk_new _ _ | refine blk_alloc ?_ _ | refine blk_drew ?_)) hb); (try clear HG); have HG := n_; clear n_; have n_ := Aside0.mk (blk_below (g := wo.heap.size) (o := .cells #[.int .i64 (rd_T76 ss i).f0, .int .i64 (rd_T76 ss i).f1, .string (rd_T76 ss i).f2, .int .i64 (rd_T76 ss i).f3, .int .i64 (rd_T76 ss i).f4, .int .i64 (rd_T76 ss i).f5, .int .i64 (rd_T76 ss i).f6, .int .i64 (rd_T76 ss i).f7, .int .i64 (rd_T76 ss i).f8, .int .i64 (rd_T76 ss i).f9] 76 (0, 0)) (by repeat' (with_reducible first | exact HU.out | exact blk_new _ _ | refine blk_alloc ?_ _ | refine blk_drew ?_)) hb); (try clear HU); have HU := n_; clear n_; (try clear cx0 cx1 cx2 hz0 hz1 hz2); have cx0 := blk_cell HX.out; have cx1 := blk_cell HG.out; have cx2 := blk_cell HU.out; have hz0 := blk_lt HX.out; have hz1 := blk_lt HG.out; have hz2 := blk_lt HU.out; clear hb)))
        | (go_at_call 38; go_loud (refine (sIp1 _ _).mono ?_; rintro e w2 (⟨rfl, hr, hb⟩ | ⟨rfl, hr, hb⟩) <;> (have n_ := Aside0.mk (And.intro hr HP.out); clear HP hr; have HP := n_; clear n_; have n_ := Aside0.mk (below_step (w := w) (by repeat' (with_reducible first | exact HB.out | apply below_alloc | apply below_drew1 | refine below_set ?_ (by omega))) hb); clear HB; have HB := n_; clear n_; have n_ := Aside0.mk (blk_below (g := w.heap.size) (o := .cells #[.int .i64 ip, .int .i64 b, .int .i64 gate, .string gm, .string wm, .int .i64 res, .slice A6 g.length c6, .slice A7 l.length c7] 41 (0, 0)) (by repeat' (with_reducible first | exact HX.out | exact blk_new _ _ | refine blk_alloc ?_ _ | refine blk_drew ?_)) hb); (try clear HX); have HX := n_; clear n_; have n_ := Aside0.mk (blk_below (g := w.heap.size + 1) (o := .cells #[.slice B0 us.length d0, .slice (some ad) ss.length d1, .slice B2 fs.length d2, .slice B3 rs.length d3, .int .i64 nx] 48 (0, 0)) (by repeat' (with_reducible first | exact HG.out | exact blk_new _ _ | refine blk_alloc ?_ _ | refine blk_drew ?_)) hb); (try clear HG); have HG := n_; clear n_; have n_ := Aside0.mk (blk_below (g := wo.heap.size) (o := .cells #[.int .i64 (rd_T76 ss i).f0, .int .i64 (rd_T76 ss i).f1, .string (rd_T76 ss i).f2, .int .i64 (rd_T76 ss i).f3, .int .i64 (rd_T76 ss i).f4, .int .i64 (rd_T76 ss i).f5, .int .i64 (rd_T76 ss i).f6, .int .i64 (rd_T76 ss i).f7, .int .i64 (rd_T76 ss i).f8, .int .i64 (rd_T76 ss i).f9] 76 (0, 0)) (by repeat' (with_reducible first | exact HU.out | exact blk_new _ _ | refine blk_alloc ?_ _ | refine blk_drew ?_)) hb); (try clear HU); have HU := n_; clear n_; (try clear cx0 cx1 cx2 hz0 hz1 hz2); have cx0 := blk_cell HX.out; have cx1 := blk_cell HG.out; have cx2 := blk_cell HU.out; have hz0 := blk_lt HX.out; have hz1 := blk_lt HG.out; have hz2 := blk_lt HU.out; clear hb))))
      all_goals try (go_ret; exact .inr ⟨rfl, fun h => by (obtain ⟨q1, q2, q3, q4, q5, q6, q7, q8, q9, q10, q11⟩ := h.2.2.2.2.2.2.1 _ (rdmem (z := z76) hi0 hlt)); first | exact HP.out.1 q1 | exact HP.out.1 q2 | exact HP.out.1 q3 | exact HP.out.1 q4 | exact HP.out.1 q5 | exact HP.out.1 q6 | exact HP.out.1 q7 | exact HP.out.1 q8 | exact HP.out.1 q9 | exact HP.out.1 q10 | exact HP.out.1 q11, HB.out⟩; done)
      have K1 := Aside0.mk (show SessionP ip b nx us.length (rd_T76 ss i) from ⟨HP.out.2.2.2.2.2.2.2.2.2.2.1, HP.out.2.2.2.2.2.2.2.2.2.1, HP.out.2.2.2.2.2.2.2.2.1, HP.out.2.2.2.2.2.2.1, HP.out.2.2.2.2.2.2.2.1, HP.out.2.2.2.2.2.1, HP.out.2.2.2.2.1, HP.out.2.2.2.1, HP.out.2.2.1, HP.out.2.1, HP.out.1⟩)
      clear HP hrow cx0 cx1 cx2 hz0 hz1 hz2
      go_loopg [7] i.toNat (fun gg v w' => ∃ k : Int, v = .int .i64 k ∧ 0 ≤ k ∧ k ≤ i ∧ i - k ≤ gg ∧ Aside0 (Below w.heap.size w w') ∧ Aside0 (w'.heap[w.heap.size]? = some (.cells #[.int .i64 ip, .int .i64 b, .int .i64 gate, .string gm, .string wm, .int .i64 res, .slice A6 g.length c6, .slice A7 l.length c7] 41 (0, 0))) ∧ Aside0 (w'.heap[w.heap.size + 1]? = some (.cells #[.slice B0 us.length d0, .slice (some ad) ss.length d1, .slice B2 fs.length d2, .slice B3 rs.length d3, .int .i64 nx] 48 (0, 0))) ∧ Aside0 (w'.heap[wo.heap.size]? = some (.cells #[.int .i64 (rd_T76 ss i).f0, .int .i64 (rd_T76 ss i).f1, .string (rd_T76 ss i).f2, .int .i64 (rd_T76 ss i).f3, .int .i64 (rd_T76 ss i).f4, .int .i64 (rd_T76 ss i).f5, .int .i64 (rd_T76 ss i).f6, .int .i64 (rd_T76 ss i).f7, .int .i64 (rd_T76 ss i).f8, .int .i64 (rd_T76 ss i).f9] 76 (0, 0))) ∧ Aside0 (∀ j : Int, 0 ≤ j → j < k → SepP ss j i))
      case atStart => exact ⟨0, rfl, Int.le_refl _, by omega, by omega, HB, HX, HG, HU, ⟨fun j h0 h1 => by omega⟩⟩
      case round =>
        clear HB HX HG HU
        obtain ⟨k, rfl, hk0, hk, hkg, HB, HX, HG, HU, HT⟩ := hrel
        have cx1 := blk_cell HG.out
        have hz1 := blk_lt HG.out
        by_cases hkl : k < i
        · obtain ⟨ad2, eA2, hrow⟩ := at_T76 (Kd.C_below H0.out.2.2.2.1 HB.out) k hk0 (by omega)
          obtain rfl : ad = ad2 := Option.some.inj eA2
          have cx2 := blk_cell HU.out
          have hz2 := blk_lt HU.out
          have hk2 : k < (ss.length : Int) := by omega
          rcases dec_em ((rd_T76 ss k).f0 ≥ (rd_T76 ss i).f0) with ⟨k5, b5⟩ | ⟨k5, b5⟩
          rotate_left
          rcases beq_em (rd_T76 ss k).f1 (rd_T76 ss i).f1 with ⟨b6, k6⟩ | ⟨b6, k6⟩
          rotate_left
          rcases beq_emS (rd_T76 ss k).f2 (rd_T76 ss i).f2 with ⟨b7, k7⟩ | ⟨b7, k7⟩
          rotate_left
          rcases beq_em (rd_T76 ss k).f3 (rd_T76 ss i).f3 with ⟨b8, k8⟩ | ⟨b8, k8⟩
          rotate_left
          · go_wp2
            clear cx1 hz1 cx2 hz2 hrow
            go_roundg (i - (k + 1)).toNat
            case measure => omega
            case rel => exact ⟨k + 1, rfl, by omega, by omega, by omega, ⟨below_alloc HB.out _⟩, ⟨blk_alloc HX.out _⟩, ⟨blk_alloc HG.out _⟩, ⟨blk_alloc HU.out _⟩, ⟨fun j h0 h1 => by
              by_cases hj : j < k
              · exact HT.out j h0 hj
              · obtain rfl : j = k := by omega
                exact ⟨by omega, fun h => by rcases h with h | h | h; exact k6.out h; exact k7.out h; exact k8.out h⟩⟩⟩
          all_goals
            go_wp2
            go_ret
            refine .inr ⟨rfl, fun h => ?_, below_alloc HB.out _⟩
            have q := sep_of h.2.2.2.2.2.2.2.1 hk0 hkl hlt
            first
            | exact absurd q.1 (by omega)
            | exact q.2 (.inl k6.out)
            | exact q.2 (.inr (.inl k7.out))
            | exact q.2 (.inr (.inr k8.out))
        · obtain rfl : k = i := by omega
          have K2 := Aside0.mk (apart_of hi0 hlt HT.out)
          clear cx1 hz1 HT HU
          go_wp2
          go_roundg (ss.length - (k + 1)).toNat
          case measure => omega
          case rel => exact ⟨k + 1, rfl, by omega, by omega, by omega, HB, HX, HG, ⟨fun j h0 h1 => by
            by_cases hj : j < k
            · exact HA.out j h0 hj
            · obtain rfl : j = k := by omega
              exact K1.out⟩, ⟨fun j h0 h1 => by
            by_cases hj : j < k
            · exact HS.out j h0 hj
            · obtain rfl : j = k := by omega
              exact K2.out⟩⟩
    · as_aux_lemma =>
      obtain rfl : i = ss.length := by omega
      have HSS := Aside0.mk (And.intro (all_of rfl HA.out) HS.out)
      clear HA HS hi0 hi hgg hlt HP cx0 cx1 hz0 hz1
      have cx1 := blk_cell HG.out
      have hz1 := blk_lt HG.out
      go_wp2
      clear cx1 hz1
      go_loopg [9] fs.length (fun gg v w' => ∃ i : Int, v = .int .i64 i ∧ 0 ≤ i ∧ i ≤ fs.length ∧ fs.length - i ≤ gg ∧ Aside0 (Below w.heap.size w w') ∧ Aside0 (w'.heap[w.heap.size]? = some (.cells #[.int .i64 ip, .int .i64 b, .int .i64 gate, .string gm, .string wm, .int .i64 res, .slice A6 g.length c6, .slice A7 l.length c7] 41 (0, 0))) ∧ Aside0 (w'.heap[w.heap.size + 1]? = some (.cells #[.slice B0 us.length d0, .slice B1 ss.length d1, .slice B2 fs.length d2, .slice B3 rs.length d3, .int .i64 nx] 48 (0, 0))) ∧ Aside0 (∀ j : Int, 0 ≤ j → j < i → FailP (fs.getD j.toNat z81)) ∧ Aside0 (∀ j : Int, 0 ≤ j → j < i → FailUpP fs j))
      case atStart => exact ⟨0, rfl, Int.le_refl _, by omega, by omega, HB, HX, HG, ⟨fun j h0 h1 => by omega⟩, ⟨fun j h0 h1 => by omega⟩⟩
      case round =>
        clear HB HX HG
        obtain ⟨i, rfl, hi0, hi, hgg, HB, HX, HG, HA, HS⟩ := hrel
        have cx1 := blk_cell HG.out
        have hz1 := blk_lt HG.out
        by_cases hlt : i < fs.length
        · as_aux_lemma =>
          obtain ⟨ad, eA, hrow⟩ := at_T81 (Kd.C_below H0.out.2.2.2.2.1 HB.out) i hi0 hlt
          have HM := Aside0.mk (HZ.out.2.2.2 _ (rdmem (z := z81) hi0 hlt))
          subst eA
          go_wp2
          clear cx1 hz1
          generalize hW : wr.alloc (.cells #[.string (rd_T81 fs i).f0, .int .i64 (rd_T81 fs i).f1, .int .i64 (rd_T81 fs i).f2] 81 (0, 0)) = W0 at *
          have hB0 : Below wr.heap.size wr W0 := by rw [← hW]; exact below_alloc (Below.refl _ _) _
          have hub : W0.heap[wr.heap.size]? = some (.cells #[.string (rd_T81 fs i).f0, .int .i64 (rd_T81 fs i).f1, .int .i64 (rd_T81 fs i).f2] 81 (0, 0)) := by rw [← hW]; exact blk_new _ _
          have n_ := And.intro (Aside0.mk (below_step HB.out hB0)) (And.intro (Aside0.mk (blk_below HX.out hB0)) (Aside0.mk (blk_below HG.out hB0)))
          clear HB HX HG
          obtain ⟨HB, HX, HG⟩ := n_
          clear hB0 hW hrow
          rcases Classical.em ((rd_T81 fs i).f0.size = 6) with k1 | k1 <;> (have K1 := Aside0.mk k1; clear k1)
          rotate_left
          · refine qS (fun w' => w'.cell? ⟨wr.heap.size, 0, none⟩ = some (.string (rd_T81 fs i).f0) ∧ w'.cell? ⟨wr.heap.size, 1, none⟩ = some (.int .i64 (rd_T81 fs i).f1) ∧ w'.cell? ⟨wr.heap.size, 2, none⟩ = some (.int .i64 (rd_T81 fs i).f2) ∧ w'.cell? ⟨w.heap.size + 1, 2, none⟩ = some (.slice (some ad) fs.length d2)) 32 ⟨blk_cell hub 0, blk_cell hub 1, blk_cell hub 2, blk_cell HG.out 2⟩ (fun hs => ?_)
            have n_ := Aside0.mk (below_drew1 HB.out)
            clear HB
            have HB := n_
            clear n_
            have n_ := Aside0.mk (blk_drew HX.out)
            clear HX
            have HX := n_
            clear n_
            have n_ := Aside0.mk (blk_drew HG.out)
            clear HG
            have HG := n_
            clear n_
            refine qP 0 186 ?_
            refine qT 1 187 hs ?_
            refine q1 2 188 (fun K hK => ?_)
            refine qC Tryz.func36 _ ?_
            refine (sMac1 _ _).mono ?_
            intro e w2 h2
            obtain ⟨rfl, hb⟩ := h2.no K1.out
            have n_ := Aside0.mk (below_step HB.out hb)
            clear HB
            have HB := n_
            clear n_
            have n_ := Aside0.mk (blk_below HX.out hb)
            clear HX
            have HX := n_
            clear n_
            have n_ := Aside0.mk (blk_below HG.out hb)
            clear HG
            have HG := n_
            clear n_
            refine ⟨_, rfl, hK.out _ _ ⟨pw_cell_below hb hs.1, pw_cell_below hb hs.2.1, pw_cell_below hb hs.2.2.1, pw_cell_below hb hs.2.2.2⟩ (fun hs2 => ?_)⟩
            clear hK K hs hb
            have hs := hs2
            clear hs2
            refine qN ?_
            refine qP 3 189 ?_
            refine qP 4 190 ?_
            refine qU 5 191 ?_
            refine qU 6 192 ?_
            refine qU 7 193 ?_
            refine qU 8 194 ?_
            refine qP 9 195 ?_
            refine qP 10 196 ?_
            refine qU 11 197 ?_
            refine qU 12 198 ?_
            refine qU 13 199 ?_
            refine qU 14 200 ?_
            refine qP 15 201 ?_
            refine qP 16 202 ?_
            refine qU 17 203 ?_
            refine qU 18 204 ?_
            refine qU 19 205 ?_
            refine qU 20 206 ?_
            refine qU 21 207 ?_
            refine qU 22 208 ?_
            refine qU 23 209 ?_
            refine qU 24 210 ?_
            refine qU 25 211 ?_
            refine qU 26 212 ?_
            refine qU 27 213 ?_
            refine qU 28 214 ?_
            refine qU 29 215 ?_
            refine qU 30 216 ?_
            refine qP 31 217 ?_
            refine qD ?_
            clear hs
            go_wp2
            go_ret
            exact .inr ⟨rfl, fun h => K1.out (h.2.2.2.2.2.2.2.2.1 _ (rdmem (z := z81) hi0 hlt)).1, HB.out⟩
          rcases Classical.em (0 ≤ (rd_T81 fs i).f1 ∧ (rd_T81 fs i).f1 ≤ 2) with k1 | k1 <;> (have K2 := Aside0.mk k1; clear k1)
          rotate_left
          · refine qS (fun w' => w'.cell? ⟨wr.heap.size, 0, none⟩ = some (.string (rd_T81 fs i).f0) ∧ w'.cell? ⟨wr.heap.size, 1, none⟩ = some (.int .i64 (rd_T81 fs i).f1) ∧ w'.cell? ⟨wr.heap.size, 2, none⟩ = some (.int .i64 (rd_T81 fs i).f2) ∧ w'.cell? ⟨w.heap.size + 1, 2, none⟩ = some (.slice (some ad) fs.length d2)) 32 ⟨blk_cell hub 0, blk_cell hub 1, blk_cell hub 2, blk_cell HG.out 2⟩ (fun hs => ?_)
            have n_ := Aside0.mk (below_drew1 HB.out)
            clear HB
            have HB := n_
            clear n_
            have n_ := Aside0.mk (blk_drew HX.out)
            clear HX
            have HX := n_
            clear n_
            have n_ := Aside0.mk (blk_drew HG.out)
            clear HG
            have HG := n_
            clear n_
            refine qP 0 186 ?_
            refine qT 1 187 hs ?_
            refine q1 2 188 (fun K hK => ?_)
            refine qC Tryz.func36 _ ?_
            refine (sMac1 _ _).mono ?_
            intro e w2 h2
            obtain ⟨rfl, hb⟩ := h2.yes K1.out
            have n_ := Aside0.mk (below_step HB.out hb)
            clear HB
            have HB := n_
            clear n_
            have n_ := Aside0.mk (blk_below HX.out hb)
            clear HX
            have HX := n_
            clear n_
            have n_ := Aside0.mk (blk_below HG.out hb)
            clear HG
            have HG := n_
            clear n_
            refine ⟨_, rfl, hK.out _ _ ⟨pw_cell_below hb hs.1, pw_cell_below hb hs.2.1, pw_cell_below hb hs.2.2.1, pw_cell_below hb hs.2.2.2⟩ (fun hs2 => ?_)⟩
            clear hK K hs hb
            have hs := hs2
            clear hs2
            refine qN ?_
            refine qP 3 189 ?_
            refine qP 4 190 ?_
            refine qP 5 191 ?_
            refine qT 6 192 hs ?_
            refine q1 7 193 (fun K hK => ?_)
            refine qC Tryz.func35 _ ?_
            refine (sIn1 _ _ _ _).mono ?_
            intro e w2 h2
            obtain ⟨rfl, hb⟩ := h2.no K2.out
            have n_ := Aside0.mk (below_step HB.out hb)
            clear HB
            have HB := n_
            clear n_
            have n_ := Aside0.mk (blk_below HX.out hb)
            clear HX
            have HX := n_
            clear n_
            have n_ := Aside0.mk (blk_below HG.out hb)
            clear HG
            have HG := n_
            clear n_
            refine ⟨_, rfl, hK.out _ _ ⟨pw_cell_below hb hs.1, pw_cell_below hb hs.2.1, pw_cell_below hb hs.2.2.1, pw_cell_below hb hs.2.2.2⟩ (fun hs2 => ?_)⟩
            clear hK K hs hb
            have hs := hs2
            clear hs2
            refine qN ?_
            refine qP 8 194 ?_
            refine qP 9 195 ?_
            refine qP 10 196 ?_
            refine qU 11 197 ?_
            refine qU 12 198 ?_
            refine qU 13 199 ?_
            refine qU 14 200 ?_
            refine qP 15 201 ?_
            refine qP 16 202 ?_
            refine qU 17 203 ?_
            refine qU 18 204 ?_
            refine qU 19 205 ?_
            refine qU 20 206 ?_
            refine qU 21 207 ?_
            refine qU 22 208 ?_
            refine qU 23 209 ?_
            refine qU 24 210 ?_
            refine qU 25 211 ?_
            refine qU 26 212 ?_
            refine qU 27 213 ?_
            refine qU 28 214 ?_
            refine qU 29 215 ?_
            refine qU 30 216 ?_
            refine qP 31 217 ?_
            refine qD ?_
            clear hs
            go_wp2
            go_ret
            exact .inr ⟨rfl, fun h => K2.out (h.2.2.2.2.2.2.2.2.1 _ (rdmem (z := z81) hi0 hlt)).2.1, HB.out⟩
          rcases Classical.em (0 ≤ (rd_T81 fs i).f2 ∧ (rd_T81 fs i).f2 ≤ 100010) with k1 | k1 <;> (have K3 := Aside0.mk k1; clear k1)
          rotate_left
          · refine qS (fun w' => w'.cell? ⟨wr.heap.size, 0, none⟩ = some (.string (rd_T81 fs i).f0) ∧ w'.cell? ⟨wr.heap.size, 1, none⟩ = some (.int .i64 (rd_T81 fs i).f1) ∧ w'.cell? ⟨wr.heap.size, 2, none⟩ = some (.int .i64 (rd_T81 fs i).f2) ∧ w'.cell? ⟨w.heap.size + 1, 2, none⟩ = some (.slice (some ad) fs.length d2)) 32 ⟨blk_cell hub 0, blk_cell hub 1, blk_cell hub 2, blk_cell HG.out 2⟩ (fun hs => ?_)
            have n_ := Aside0.mk (below_drew1 HB.out)
            clear HB
            have HB := n_
            clear n_
            have n_ := Aside0.mk (blk_drew HX.out)
            clear HX
            have HX := n_
            clear n_
            have n_ := Aside0.mk (blk_drew HG.out)
            clear HG
            have HG := n_
            clear n_
            refine qP 0 186 ?_
            refine qT 1 187 hs ?_
            refine q1 2 188 (fun K hK => ?_)
            refine qC Tryz.func36 _ ?_
            refine (sMac1 _ _).mono ?_
            intro e w2 h2
            obtain ⟨rfl, hb⟩ := h2.yes K1.out
            have n_ := Aside0.mk (below_step HB.out hb)
            clear HB
            have HB := n_
            clear n_
            have n_ := Aside0.mk (blk_below HX.out hb)
            clear HX
            have HX := n_
            clear n_
            have n_ := Aside0.mk (blk_below HG.out hb)
            clear HG
            have HG := n_
            clear n_
            refine ⟨_, rfl, hK.out _ _ ⟨pw_cell_below hb hs.1, pw_cell_below hb hs.2.1, pw_cell_below hb hs.2.2.1, pw_cell_below hb hs.2.2.2⟩ (fun hs2 => ?_)⟩
            clear hK K hs hb
            have hs := hs2
            clear hs2
            refine qN ?_
            refine qP 3 189 ?_
            refine qP 4 190 ?_
            refine qP 5 191 ?_
            refine qT 6 192 hs ?_
            refine q1 7 193 (fun K hK => ?_)
            refine qC Tryz.func35 _ ?_
            refine (sIn1 _ _ _ _).mono ?_
            intro e w2 h2
            obtain ⟨rfl, hb⟩ := h2.yes K2.out
            have n_ := Aside0.mk (below_step HB.out hb)
            clear HB
            have HB := n_
            clear n_
            have n_ := Aside0.mk (blk_below HX.out hb)
            clear HX
            have HX := n_
            clear n_
            have n_ := Aside0.mk (blk_below HG.out hb)
            clear HG
            have HG := n_
            clear n_
            refine ⟨_, rfl, hK.out _ _ ⟨pw_cell_below hb hs.1, pw_cell_below hb hs.2.1, pw_cell_below hb hs.2.2.1, pw_cell_below hb hs.2.2.2⟩ (fun hs2 => ?_)⟩
            clear hK K hs hb
            have hs := hs2
            clear hs2
            refine qN ?_
            refine qP 8 194 ?_
            refine qP 9 195 ?_
            refine qP 10 196 ?_
            refine qP 11 197 ?_
            refine qT 12 198 hs ?_
            refine q1 13 199 (fun K hK => ?_)
            refine qC Tryz.func35 _ ?_
            refine (sIn1 _ _ _ _).mono ?_
            intro e w2 h2
            obtain ⟨rfl, hb⟩ := h2.no K3.out
            have n_ := Aside0.mk (below_step HB.out hb)
            clear HB
            have HB := n_
            clear n_
            have n_ := Aside0.mk (blk_below HX.out hb)
            clear HX
            have HX := n_
            clear n_
            have n_ := Aside0.mk (blk_below HG.out hb)
            clear HG
            have HG := n_
            clear n_
            refine ⟨_, rfl, hK.out _ _ ⟨pw_cell_below hb hs.1, pw_cell_below hb hs.2.1, pw_cell_below hb hs.2.2.1, pw_cell_below hb hs.2.2.2⟩ (fun hs2 => ?_)⟩
            clear hK K hs hb
            have hs := hs2
            clear hs2
            refine qN ?_
            refine qP 14 200 ?_
            refine qP 15 201 ?_
            refine qP 16 202 ?_
            refine qU 17 203 ?_
            refine qU 18 204 ?_
            refine qU 19 205 ?_
            refine qU 20 206 ?_
            refine qU 21 207 ?_
            refine qU 22 208 ?_
            refine qU 23 209 ?_
            refine qU 24 210 ?_
            refine qU 25 211 ?_
            refine qU 26 212 ?_
            refine qU 27 213 ?_
            refine qU 28 214 ?_
            refine qU 29 215 ?_
            refine qU 30 216 ?_
            refine qP 31 217 ?_
            refine qD ?_
            clear hs
            go_wp2
            go_ret
            exact .inr ⟨rfl, fun h => K3.out (h.2.2.2.2.2.2.2.2.1 _ (rdmem (z := z81) hi0 hlt)).2.2, HB.out⟩
          rcases dec_em (0 < i) with ⟨k7, b7⟩ | ⟨k7, b7⟩
          rotate_left
          · refine qS (fun w' => w'.cell? ⟨wr.heap.size, 0, none⟩ = some (.string (rd_T81 fs i).f0) ∧ w'.cell? ⟨wr.heap.size, 1, none⟩ = some (.int .i64 (rd_T81 fs i).f1) ∧ w'.cell? ⟨wr.heap.size, 2, none⟩ = some (.int .i64 (rd_T81 fs i).f2) ∧ w'.cell? ⟨w.heap.size + 1, 2, none⟩ = some (.slice (some ad) fs.length d2)) 32 ⟨blk_cell hub 0, blk_cell hub 1, blk_cell hub 2, blk_cell HG.out 2⟩ (fun hs => ?_)
            have n_ := Aside0.mk (below_drew1 HB.out)
            clear HB
            have HB := n_
            clear n_
            have n_ := Aside0.mk (blk_drew HX.out)
            clear HX
            have HX := n_
            clear n_
            have n_ := Aside0.mk (blk_drew HG.out)
            clear HG
            have HG := n_
            clear n_
            refine qP 0 186 ?_
            refine qT 1 187 hs ?_
            refine q1 2 188 (fun K hK => ?_)
            refine qC Tryz.func36 _ ?_
            refine (sMac1 _ _).mono ?_
            intro e w2 h2
            obtain ⟨rfl, hb⟩ := h2.yes K1.out
            have n_ := Aside0.mk (below_step HB.out hb)
            clear HB
            have HB := n_
            clear n_
            have n_ := Aside0.mk (blk_below HX.out hb)
            clear HX
            have HX := n_
            clear n_
            have n_ := Aside0.mk (blk_below HG.out hb)
            clear HG
            have HG := n_
            clear n_
            refine ⟨_, rfl, hK.out _ _ ⟨pw_cell_below hb hs.1, pw_cell_below hb hs.2.1, pw_cell_below hb hs.2.2.1, pw_cell_below hb hs.2.2.2⟩ (fun hs2 => ?_)⟩
            clear hK K hs hb
            have hs := hs2
            clear hs2
            refine qN ?_
            refine qP 3 189 ?_
            refine qP 4 190 ?_
            refine qP 5 191 ?_
            refine qT 6 192 hs ?_
            refine q1 7 193 (fun K hK => ?_)
            refine qC Tryz.func35 _ ?_
            refine (sIn1 _ _ _ _).mono ?_
            intro e w2 h2
            obtain ⟨rfl, hb⟩ := h2.yes K2.out
            have n_ := Aside0.mk (below_step HB.out hb)
            clear HB
            have HB := n_
            clear n_
            have n_ := Aside0.mk (blk_below HX.out hb)
            clear HX
            have HX := n_
            clear n_
            have n_ := Aside0.mk (blk_below HG.out hb)
            clear HG
            have HG := n_
            clear n_
            refine ⟨_, rfl, hK.out _ _ ⟨pw_cell_below hb hs.1, pw_cell_below hb hs.2.1, pw_cell_below hb hs.2.2.1, pw_cell_below hb hs.2.2.2⟩ (fun hs2 => ?_)⟩
            clear hK K hs hb
            have hs := hs2
            clear hs2
            refine qN ?_
            refine qP 8 194 ?_
            refine qP 9 195 ?_
            refine qP 10 196 ?_
            refine qP 11 197 ?_
            refine qT 12 198 hs ?_
            refine q1 13 199 (fun K hK => ?_)
            refine qC Tryz.func35 _ ?_
            refine (sIn1 _ _ _ _).mono ?_
            intro e w2 h2
            obtain ⟨rfl, hb⟩ := h2.yes K3.out
            have n_ := Aside0.mk (below_step HB.out hb)
            clear HB
            have HB := n_
            clear n_
            have n_ := Aside0.mk (blk_below HX.out hb)
            clear HX
            have HX := n_
            clear n_
            have n_ := Aside0.mk (blk_below HG.out hb)
            clear HG
            have HG := n_
            clear n_
            refine ⟨_, rfl, hK.out _ _ ⟨pw_cell_below hb hs.1, pw_cell_below hb hs.2.1, pw_cell_below hb hs.2.2.1, pw_cell_below hb hs.2.2.2⟩ (fun hs2 => ?_)⟩
            clear hK K hs hb
            have hs := hs2
            clear hs2
            refine qN ?_
            refine qP 14 200 ?_
            refine qP 15 201 ?_
            refine qP 16 202 ?_
            refine qP 17 203 ?_
            refine qP 18 204 ?_
            refine qP 19 205 ?_
            refine qU 20 206 ?_
            refine qU 21 207 ?_
            refine qU 22 208 ?_
            refine qU 23 209 ?_
            refine qU 24 210 ?_
            refine qU 25 211 ?_
            refine qU 26 212 ?_
            refine qU 27 213 ?_
            refine qU 28 214 ?_
            refine qU 29 215 ?_
            refine qP 30 216 ?_
            refine qP 31 217 ?_
            refine qD ?_
            clear hs
            go_wp2
            go_roundg (fs.length - (i + 1)).toNat
            case measure => omega
            case rel => exact ⟨i + 1, rfl, by omega, by omega, by omega, HB, HX, HG, ⟨fun j h0 h1 => by
              by_cases hj : j < i
              · exact HA.out j h0 hj
              · obtain rfl : j = i := by omega
                exact ⟨K1.out, K2.out, K3.out⟩⟩, ⟨fun j h0 h1 => by
              by_cases hj : j < i
              · exact HS.out j h0 hj
              · intro h2; omega⟩⟩
          obtain ⟨pd, eP, q0, _⟩ := at_T81 (Kd.C_below H0.out.2.2.2.2.1 HB.out) (i - 1) (by omega) (by omega)
          obtain rfl : ad = pd := Option.some.inj eP
          have hwr : IntKind.i64.wrap (i - 1) = i - 1 := i64id (by omega) (by omega)
          have h1m : 1 ≤ i := by omega
          have h2m : i - 1 < (fs.length : Int) := by omega
          rw [show (i - 1).toNat = i.toNat - 1 by omega] at q0
          clear eP
          rcases bool_em (Op.bytesLess (rd_T81 fs (i - 1)).f0.toList (rd_T81 fs i).f0.toList) with k8 | k8
          · have K8 := Aside0.mk k8
            refine qS (fun w' => w'.cell? ⟨wr.heap.size, 0, none⟩ = some (.string (rd_T81 fs i).f0) ∧ w'.cell? ⟨wr.heap.size, 1, none⟩ = some (.int .i64 (rd_T81 fs i).f1) ∧ w'.cell? ⟨wr.heap.size, 2, none⟩ = some (.int .i64 (rd_T81 fs i).f2) ∧ w'.cell? ⟨w.heap.size + 1, 2, none⟩ = some (.slice (some ad) fs.length d2) ∧ w'.cell? (ad.add ((i.toNat - 1) * 3)) = some (.string (rd_T81 fs (i - 1)).f0)) 32 ⟨blk_cell hub 0, blk_cell hub 1, blk_cell hub 2, blk_cell HG.out 2, q0⟩ (fun hs => ?_)
            have n_ := Aside0.mk (below_drew1 HB.out)
            clear HB
            have HB := n_
            clear n_
            have n_ := Aside0.mk (blk_drew HX.out)
            clear HX
            have HX := n_
            clear n_
            have n_ := Aside0.mk (blk_drew HG.out)
            clear HG
            have HG := n_
            clear n_
            refine qP 0 186 ?_
            refine qT 1 187 hs ?_
            refine q1 2 188 (fun K hK => ?_)
            refine qC Tryz.func36 _ ?_
            refine (sMac1 _ _).mono ?_
            intro e w2 h2
            obtain ⟨rfl, hb⟩ := h2.yes K1.out
            have n_ := Aside0.mk (below_step HB.out hb)
            clear HB
            have HB := n_
            clear n_
            have n_ := Aside0.mk (blk_below HX.out hb)
            clear HX
            have HX := n_
            clear n_
            have n_ := Aside0.mk (blk_below HG.out hb)
            clear HG
            have HG := n_
            clear n_
            refine ⟨_, rfl, hK.out _ _ ⟨pw_cell_below hb hs.1, pw_cell_below hb hs.2.1, pw_cell_below hb hs.2.2.1, pw_cell_below hb hs.2.2.2.1, pw_cell_below hb hs.2.2.2.2⟩ (fun hs2 => ?_)⟩
            clear hK K hs hb
            have hs := hs2
            clear hs2
            refine qN ?_
            refine qP 3 189 ?_
            refine qP 4 190 ?_
            refine qP 5 191 ?_
            refine qT 6 192 hs ?_
            refine q1 7 193 (fun K hK => ?_)
            refine qC Tryz.func35 _ ?_
            refine (sIn1 _ _ _ _).mono ?_
            intro e w2 h2
            obtain ⟨rfl, hb⟩ := h2.yes K2.out
            have n_ := Aside0.mk (below_step HB.out hb)
            clear HB
            have HB := n_
            clear n_
            have n_ := Aside0.mk (blk_below HX.out hb)
            clear HX
            have HX := n_
            clear n_
            have n_ := Aside0.mk (blk_below HG.out hb)
            clear HG
            have HG := n_
            clear n_
            refine ⟨_, rfl, hK.out _ _ ⟨pw_cell_below hb hs.1, pw_cell_below hb hs.2.1, pw_cell_below hb hs.2.2.1, pw_cell_below hb hs.2.2.2.1, pw_cell_below hb hs.2.2.2.2⟩ (fun hs2 => ?_)⟩
            clear hK K hs hb
            have hs := hs2
            clear hs2
            refine qN ?_
            refine qP 8 194 ?_
            refine qP 9 195 ?_
            refine qP 10 196 ?_
            refine qP 11 197 ?_
            refine qT 12 198 hs ?_
            refine q1 13 199 (fun K hK => ?_)
            refine qC Tryz.func35 _ ?_
            refine (sIn1 _ _ _ _).mono ?_
            intro e w2 h2
            obtain ⟨rfl, hb⟩ := h2.yes K3.out
            have n_ := Aside0.mk (below_step HB.out hb)
            clear HB
            have HB := n_
            clear n_
            have n_ := Aside0.mk (blk_below HX.out hb)
            clear HX
            have HX := n_
            clear n_
            have n_ := Aside0.mk (blk_below HG.out hb)
            clear HG
            have HG := n_
            clear n_
            refine ⟨_, rfl, hK.out _ _ ⟨pw_cell_below hb hs.1, pw_cell_below hb hs.2.1, pw_cell_below hb hs.2.2.1, pw_cell_below hb hs.2.2.2.1, pw_cell_below hb hs.2.2.2.2⟩ (fun hs2 => ?_)⟩
            clear hK K hs hb
            have hs := hs2
            clear hs2
            refine qN ?_
            refine qP 14 200 ?_
            refine qP 15 201 ?_
            refine qP 16 202 ?_
            refine qP 17 203 ?_
            refine qP 18 204 ?_
            refine qP 19 205 ?_
            refine qP 20 206 ?_
            refine qP 22 208 ?_
            refine qP 23 209 ?_
            refine qP 27 213 ?_
            refine qT 21 207 hs ?_
            refine qP 24 210 ?_
            refine qP 25 211 ?_
            refine qT 26 212 hs ?_
            refine qT 28 214 hs ?_
            refine qP 29 215 ?_
            refine qP 30 216 ?_
            refine qP 31 217 ?_
            refine qD ?_
            clear hs
            clear k8 q0 hwr h1m h2m
            go_wp2
            go_roundg (fs.length - (i + 1)).toNat
            case measure => omega
            case rel => exact ⟨i + 1, rfl, by omega, by omega, by omega, HB, HX, HG, ⟨fun j h0 h1 => by
              by_cases hj : j < i
              · exact HA.out j h0 hj
              · obtain rfl : j = i := by omega
                exact ⟨K1.out, K2.out, K3.out⟩⟩, ⟨fun j h0 h1 => by
              by_cases hj : j < i
              · exact HS.out j h0 hj
              · obtain rfl : j = i := by omega
                exact fun _ => K8.out⟩⟩
          · refine qS (fun w' => w'.cell? ⟨wr.heap.size, 0, none⟩ = some (.string (rd_T81 fs i).f0) ∧ w'.cell? ⟨wr.heap.size, 1, none⟩ = some (.int .i64 (rd_T81 fs i).f1) ∧ w'.cell? ⟨wr.heap.size, 2, none⟩ = some (.int .i64 (rd_T81 fs i).f2) ∧ w'.cell? ⟨w.heap.size + 1, 2, none⟩ = some (.slice (some ad) fs.length d2) ∧ w'.cell? (ad.add ((i.toNat - 1) * 3)) = some (.string (rd_T81 fs (i - 1)).f0)) 32 ⟨blk_cell hub 0, blk_cell hub 1, blk_cell hub 2, blk_cell HG.out 2, q0⟩ (fun hs => ?_)
            have n_ := Aside0.mk (below_drew1 HB.out)
            clear HB
            have HB := n_
            clear n_
            have n_ := Aside0.mk (blk_drew HX.out)
            clear HX
            have HX := n_
            clear n_
            have n_ := Aside0.mk (blk_drew HG.out)
            clear HG
            have HG := n_
            clear n_
            refine qP 0 186 ?_
            refine qT 1 187 hs ?_
            refine q1 2 188 (fun K hK => ?_)
            refine qC Tryz.func36 _ ?_
            refine (sMac1 _ _).mono ?_
            intro e w2 h2
            obtain ⟨rfl, hb⟩ := h2.yes K1.out
            have n_ := Aside0.mk (below_step HB.out hb)
            clear HB
            have HB := n_
            clear n_
            have n_ := Aside0.mk (blk_below HX.out hb)
            clear HX
            have HX := n_
            clear n_
            have n_ := Aside0.mk (blk_below HG.out hb)
            clear HG
            have HG := n_
            clear n_
            refine ⟨_, rfl, hK.out _ _ ⟨pw_cell_below hb hs.1, pw_cell_below hb hs.2.1, pw_cell_below hb hs.2.2.1, pw_cell_below hb hs.2.2.2.1, pw_cell_below hb hs.2.2.2.2⟩ (fun hs2 => ?_)⟩
            clear hK K hs hb
            have hs := hs2
            clear hs2
            refine qN ?_
            refine qP 3 189 ?_
            refine qP 4 190 ?_
            refine qP 5 191 ?_
            refine qT 6 192 hs ?_
            refine q1 7 193 (fun K hK => ?_)
            refine qC Tryz.func35 _ ?_
            refine (sIn1 _ _ _ _).mono ?_
            intro e w2 h2
            obtain ⟨rfl, hb⟩ := h2.yes K2.out
            have n_ := Aside0.mk (below_step HB.out hb)
            clear HB
            have HB := n_
            clear n_
            have n_ := Aside0.mk (blk_below HX.out hb)
            clear HX
            have HX := n_
            clear n_
            have n_ := Aside0.mk (blk_below HG.out hb)
            clear HG
            have HG := n_
            clear n_
            refine ⟨_, rfl, hK.out _ _ ⟨pw_cell_below hb hs.1, pw_cell_below hb hs.2.1, pw_cell_below hb hs.2.2.1, pw_cell_below hb hs.2.2.2.1, pw_cell_below hb hs.2.2.2.2⟩ (fun hs2 => ?_)⟩
            clear hK K hs hb
            have hs := hs2
            clear hs2
            refine qN ?_
            refine qP 8 194 ?_
            refine qP 9 195 ?_
            refine qP 10 196 ?_
            refine qP 11 197 ?_
            refine qT 12 198 hs ?_
            refine q1 13 199 (fun K hK => ?_)
            refine qC Tryz.func35 _ ?_
            refine (sIn1 _ _ _ _).mono ?_
            intro e w2 h2
            obtain ⟨rfl, hb⟩ := h2.yes K3.out
            have n_ := Aside0.mk (below_step HB.out hb)
            clear HB
            have HB := n_
            clear n_
            have n_ := Aside0.mk (blk_below HX.out hb)
            clear HX
            have HX := n_
            clear n_
            have n_ := Aside0.mk (blk_below HG.out hb)
            clear HG
            have HG := n_
            clear n_
            refine ⟨_, rfl, hK.out _ _ ⟨pw_cell_below hb hs.1, pw_cell_below hb hs.2.1, pw_cell_below hb hs.2.2.1, pw_cell_below hb hs.2.2.2.1, pw_cell_below hb hs.2.2.2.2⟩ (fun hs2 => ?_)⟩
            clear hK K hs hb
            have hs := hs2
            clear hs2
            refine qN ?_
            refine qP 14 200 ?_
            refine qP 15 201 ?_
            refine qP 16 202 ?_
            refine qP 17 203 ?_
            refine qP 18 204 ?_
            refine qP 19 205 ?_
            refine qP 20 206 ?_
            refine qP 22 208 ?_
            refine qP 23 209 ?_
            refine qP 27 213 ?_
            refine qT 21 207 hs ?_
            refine qP 24 210 ?_
            refine qP 25 211 ?_
            refine qT 26 212 hs ?_
            refine qT 28 214 hs ?_
            refine qP 29 215 ?_
            refine qP 30 216 ?_
            refine qP 31 217 ?_
            refine qD ?_
            clear hs
            go_wp2
            go_ret
            exact .inr ⟨rfl, fun h => absurd (h.2.2.2.2.2.2.2.2.2.1 i hi0 hlt k7) (by rw [k8]; decide), HB.out⟩
        · as_aux_lemma =>
          obtain rfl : i = fs.length := by omega
          have HF := Aside0.mk (And.intro (all_of rfl HA.out) HS.out)
          clear HA HS hi0 hi hgg hlt cx1 hz1
          have cx1 := blk_cell HG.out
          have hz1 := blk_lt HG.out
          go_wp2
          clear cx1 hz1
          go_loopg [11] rs.length (fun gg v w' => ∃ i : Int, v = .int .i64 i ∧ 0 ≤ i ∧ i ≤ rs.length ∧ rs.length - i ≤ gg ∧ Aside0 (Below w.heap.size w w') ∧ Aside0 (w'.heap[w.heap.size]? = some (.cells #[.int .i64 ip, .int .i64 b, .int .i64 gate, .string gm, .string wm, .int .i64 res, .slice A6 g.length c6, .slice A7 l.length c7] 41 (0, 0))) ∧ Aside0 (w'.heap[w.heap.size + 1]? = some (.cells #[.slice B0 us.length d0, .slice B1 ss.length d1, .slice B2 fs.length d2, .slice B3 rs.length d3, .int .i64 nx] 48 (0, 0))) ∧ Aside0 (∀ j : Int, 0 ≤ j → j < i → RecordP nx (rs.getD j.toNat z83)))
          case atStart => exact ⟨0, rfl, Int.le_refl _, by omega, by omega, HB, HX, HG, ⟨fun j h0 h1 => by omega⟩⟩
          case round =>
            clear HB HX HG
            obtain ⟨i, rfl, hi0, hi, hgg, HB, HX, HG, HA⟩ := hrel
            have cx1 := blk_cell HG.out
            have hz1 := blk_lt HG.out
            have cx0 := blk_cell HX.out
            have hz0 := blk_lt HX.out
            have HP := Aside0.mk True.intro
            obtain ⟨wo, rfl⟩ : ∃ wo : World, wo = wr := ⟨_, rfl⟩
            by_cases hlt : i < rs.length
            · as_aux_lemma =>
              obtain ⟨ad, eA, q0, q1, q2, q3, q4⟩ := at_T83 (Kd.C_below H0.out.2.2.2.2.2 HB.out) i hi0 hlt
              subst eA
              rcases bool_em (rd_T83 rs i).f4 with k4 | k4 <;> rcases dec_em (0 < (rd_T83 rs i).f2) with ⟨k5, b5⟩ | ⟨k5, b5⟩
              rotate_left 3
              rcases beq_em (rd_T83 rs i).f3 0 with ⟨b6, k6⟩ | ⟨b6, k6⟩
              all_goals (have K4 := Aside0.mk k4; rw [k4] at q4; clear k4; (try (have bn : ((rd_T83 rs i).f3 != 0) = true := by simp only [bne, b6, Bool.not_false])); (try (have bn : ((rd_T83 rs i).f3 != 0) = false := by simp only [bne, b6, Bool.not_true])))
              · go_wp2_with (first
                  | (go_at_call 35; go_loud (refine (sIn1 _ _ _ _).mono ?_; rintro e w2 (⟨rfl, hr, hb⟩ | ⟨rfl, hr, hb⟩) <;> (have n_ := Aside0.mk (And.intro hr HP.out); clear HP hr; have HP := n_; clear n_; have n_ := Aside0.mk (below_step (w := w) (by repeat' (with_reducible first | exact HB.out | apply below_alloc | apply below_drew1 | refine below_set ?_ (by omega))) hb); clear HB; have HB := n_; clear n_; have n_ := Aside0.mk (blk_below (g := w.heap.size) (o := .cells #[.int .i64 ip, .int .i64 b, .int .i64 gate, .string gm, .string wm, .int .i64 res, .slice A6 g.length c6, .slice A7 l.length c7] 41 (0, 0)) (by repeat' (with_reducible first | exact HX.out | exact blk_new _ _ | refine blk_alloc ?_ _ | refine blk_drew ?_)) hb); (try clear HX); have HX := n_; clear n_; have n_ := Aside0.mk (blk_below (g := w.heap.size + 1) (o := .cells #[.slice B0 us.length d0, .slice B1 ss.length d1, .slice B2 fs.length d2, .slice (some ad) rs.length d3, .int .i64 nx] 48 (0, 0)) (by repeat' (with_reducible first | exact HG.out | exact blk_new _ _ | refine blk_alloc ?_ _ | refine blk_drew ?_)) hb); (try clear HG); have HG := n_; clear n_; have n_ := Aside0.mk (blk_below (g := wo.heap.size) (o := .cells #[.int .i64 (rd_T83 rs i).f0, .int .i64 (rd_T83 rs i).f1, .int .i64 (rd_T83 rs i).f2, .int .i64 (rd_T83 rs i).f3, .bool false] 83 (0, 0)) (by repeat' (with_reducible first | exact HU.out | exact blk_new _ _ | refine blk_alloc ?_ _ | refine blk_drew ?_)) hb); (try clear HU); have HU := n_; clear n_; (try clear cx0 cx1 cx2 hz0 hz1 hz2); have cx0 := blk_cell HX.out; have cx1 := blk_cell HG.out; have cx2 := blk_cell HU.out; have hz0 := blk_lt HX.out; have hz1 := blk_lt HG.out; have hz2 := blk_lt HU.out; clear hb))))
                all_goals go_wp2
                all_goals first
                  | (go_ret; exact .inr ⟨rfl, fun h => by (obtain ⟨q1, q2, q3, q4, q5⟩ := (show RecordP nx (rd_T83 rs i) from h.2.2.2.2.2.2.2.2.2.2 _ (rdmem (z := z83) hi0 hlt))); first | exact HP.out.1 q1 | exact HP.out.1 q2 | exact HP.out.1 q3 | (have z := q4 K4.out; have := HP.out.1; omega) | (have z := q5 K4.out; have := HP.out.1; omega) | (have z := q5 K4.out; exact k6.out z.2), HB.out⟩; done)
                  | (go_roundg (rs.length - (i + 1)).toNat
                     case measure => omega
                     case rel => exact ⟨i + 1, rfl, by omega, by omega, by omega, HB, HX, HG, ⟨fun j h0 h1 => by
                       by_cases hj : j < i
                       · exact HA.out j h0 hj
                       · obtain rfl : j = i := by omega
                         exact (show RecordP nx (rd_T83 rs _) from ⟨HP.out.2.2.2.1, HP.out.2.2.1, HP.out.2.1, fun h => by first | (have := HP.out.1; omega) | exact absurd (K4.out.symm.trans h) (by decide), fun h => by first | exact absurd (K4.out.symm.trans h) (by decide) | exact ⟨by have := HP.out.1; omega, k6.out⟩⟩)⟩⟩)
              · go_wp2_with (first
                  | (go_at_call 35; go_loud (refine (sIn1 _ _ _ _).mono ?_; rintro e w2 (⟨rfl, hr, hb⟩ | ⟨rfl, hr, hb⟩) <;> (have n_ := Aside0.mk (And.intro hr HP.out); clear HP hr; have HP := n_; clear n_; have n_ := Aside0.mk (below_step (w := w) (by repeat' (with_reducible first | exact HB.out | apply below_alloc | apply below_drew1 | refine below_set ?_ (by omega))) hb); clear HB; have HB := n_; clear n_; have n_ := Aside0.mk (blk_below (g := w.heap.size) (o := .cells #[.int .i64 ip, .int .i64 b, .int .i64 gate, .string gm, .string wm, .int .i64 res, .slice A6 g.length c6, .slice A7 l.length c7] 41 (0, 0)) (by repeat' (with_reducible first | exact HX.out | exact blk_new _ _ | refine blk_alloc ?_ _ | refine blk_drew ?_)) hb); (try clear HX); have HX := n_; clear n_; have n_ := Aside0.mk (blk_below (g := w.heap.size + 1) (o := .cells #[.slice B0 us.length d0, .slice B1 ss.length d1, .slice B2 fs.length d2, .slice (some ad) rs.length d3, .int .i64 nx] 48 (0, 0)) (by repeat' (with_reducible first | exact HG.out | exact blk_new _ _ | refine blk_alloc ?_ _ | refine blk_drew ?_)) hb); (try clear HG); have HG := n_; clear n_; have n_ := Aside0.mk (blk_below (g := wo.heap.size) (o := .cells #[.int .i64 (rd_T83 rs i).f0, .int .i64 (rd_T83 rs i).f1, .int .i64 (rd_T83 rs i).f2, .int .i64 (rd_T83 rs i).f3, .bool false] 83 (0, 0)) (by repeat' (with_reducible first | exact HU.out | exact blk_new _ _ | refine blk_alloc ?_ _ | refine blk_drew ?_)) hb); (try clear HU); have HU := n_; clear n_; (try clear cx0 cx1 cx2 hz0 hz1 hz2); have cx0 := blk_cell HX.out; have cx1 := blk_cell HG.out; have cx2 := blk_cell HU.out; have hz0 := blk_lt HX.out; have hz1 := blk_lt HG.out; have hz2 := blk_lt HU.out; clear hb))))
                all_goals go_wp2
                all_goals first
                  | (go_ret; exact .inr ⟨rfl, fun h => by (obtain ⟨q1, q2, q3, q4, q5⟩ := (show RecordP nx (rd_T83 rs i) from h.2.2.2.2.2.2.2.2.2.2 _ (rdmem (z := z83) hi0 hlt))); first | exact HP.out.1 q1 | exact HP.out.1 q2 | exact HP.out.1 q3 | (have z := q4 K4.out; have := HP.out.1; omega) | (have z := q5 K4.out; have := HP.out.1; omega) | (have z := q5 K4.out; exact k6.out z.2), HB.out⟩; done)
                  | (go_roundg (rs.length - (i + 1)).toNat
                     case measure => omega
                     case rel => exact ⟨i + 1, rfl, by omega, by omega, by omega, HB, HX, HG, ⟨fun j h0 h1 => by
                       by_cases hj : j < i
                       · exact HA.out j h0 hj
                       · obtain rfl : j = i := by omega
                         exact (show RecordP nx (rd_T83 rs _) from ⟨HP.out.2.2.2.1, HP.out.2.2.1, HP.out.2.1, fun h => by first | (have := HP.out.1; omega) | exact absurd (K4.out.symm.trans h) (by decide), fun h => by first | exact absurd (K4.out.symm.trans h) (by decide) | exact ⟨by have := HP.out.1; omega, k6.out⟩⟩)⟩⟩)
              · go_wp2_with (first
                  | (go_at_call 35; go_loud (refine (sIn1 _ _ _ _).mono ?_; rintro e w2 (⟨rfl, hr, hb⟩ | ⟨rfl, hr, hb⟩) <;> (have n_ := Aside0.mk (And.intro hr HP.out); clear HP hr; have HP := n_; clear n_; have n_ := Aside0.mk (below_step (w := w) (by repeat' (with_reducible first | exact HB.out | apply below_alloc | apply below_drew1 | refine below_set ?_ (by omega))) hb); clear HB; have HB := n_; clear n_; have n_ := Aside0.mk (blk_below (g := w.heap.size) (o := .cells #[.int .i64 ip, .int .i64 b, .int .i64 gate, .string gm, .string wm, .int .i64 res, .slice A6 g.length c6, .slice A7 l.length c7] 41 (0, 0)) (by repeat' (with_reducible first | exact HX.out | exact blk_new _ _ | refine blk_alloc ?_ _ | refine blk_drew ?_)) hb); (try clear HX); have HX := n_; clear n_; have n_ := Aside0.mk (blk_below (g := w.heap.size + 1) (o := .cells #[.slice B0 us.length d0, .slice B1 ss.length d1, .slice B2 fs.length d2, .slice (some ad) rs.length d3, .int .i64 nx] 48 (0, 0)) (by repeat' (with_reducible first | exact HG.out | exact blk_new _ _ | refine blk_alloc ?_ _ | refine blk_drew ?_)) hb); (try clear HG); have HG := n_; clear n_; have n_ := Aside0.mk (blk_below (g := wo.heap.size) (o := .cells #[.int .i64 (rd_T83 rs i).f0, .int .i64 (rd_T83 rs i).f1, .int .i64 (rd_T83 rs i).f2, .int .i64 (rd_T83 rs i).f3, .bool true] 83 (0, 0)) (by repeat' (with_reducible first | exact HU.out | exact blk_new _ _ | refine blk_alloc ?_ _ | refine blk_drew ?_)) hb); (try clear HU); have HU := n_; clear n_; (try clear cx0 cx1 cx2 hz0 hz1 hz2); have cx0 := blk_cell HX.out; have cx1 := blk_cell HG.out; have cx2 := blk_cell HU.out; have hz0 := blk_lt HX.out; have hz1 := blk_lt HG.out; have hz2 := blk_lt HU.out; clear hb))))
                all_goals go_wp2
                all_goals first
                  | (go_ret; exact .inr ⟨rfl, fun h => by (obtain ⟨q1, q2, q3, q4, q5⟩ := (show RecordP nx (rd_T83 rs i) from h.2.2.2.2.2.2.2.2.2.2 _ (rdmem (z := z83) hi0 hlt))); first | exact HP.out.1 q1 | exact HP.out.1 q2 | exact HP.out.1 q3 | (have z := q4 K4.out; have := HP.out.1; omega) | (have z := q5 K4.out; have := HP.out.1; omega) | (have z := q5 K4.out; exact k6.out z.2), HB.out⟩; done)
                  | (go_roundg (rs.length - (i + 1)).toNat
                     case measure => omega
                     case rel => exact ⟨i + 1, rfl, by omega, by omega, by omega, HB, HX, HG, ⟨fun j h0 h1 => by
                       by_cases hj : j < i
                       · exact HA.out j h0 hj
                       · obtain rfl : j = i := by omega
                         exact (show RecordP nx (rd_T83 rs _) from ⟨HP.out.2.2.2.1, HP.out.2.2.1, HP.out.2.1, fun h => by first | (have := HP.out.1; omega) | exact absurd (K4.out.symm.trans h) (by decide), fun h => by first | exact absurd (K4.out.symm.trans h) (by decide) | exact ⟨by have := HP.out.1; omega, k6.out⟩⟩)⟩⟩)
              · go_wp2_with (first
                  | (go_at_call 35; go_loud (refine (sIn1 _ _ _ _).mono ?_; rintro e w2 (⟨rfl, hr, hb⟩ | ⟨rfl, hr, hb⟩) <;> (have n_ := Aside0.mk (And.intro hr HP.out); clear HP hr; have HP := n_; clear n_; have n_ := Aside0.mk (below_step (w := w) (by repeat' (with_reducible first | exact HB.out | apply below_alloc | apply below_drew1 | refine below_set ?_ (by omega))) hb); clear HB; have HB := n_; clear n_; have n_ := Aside0.mk (blk_below (g := w.heap.size) (o := .cells #[.int .i64 ip, .int .i64 b, .int .i64 gate, .string gm, .string wm, .int .i64 res, .slice A6 g.length c6, .slice A7 l.length c7] 41 (0, 0)) (by repeat' (with_reducible first | exact HX.out | exact blk_new _ _ | refine blk_alloc ?_ _ | refine blk_drew ?_)) hb); (try clear HX); have HX := n_; clear n_; have n_ := Aside0.mk (blk_below (g := w.heap.size + 1) (o := .cells #[.slice B0 us.length d0, .slice B1 ss.length d1, .slice B2 fs.length d2, .slice (some ad) rs.length d3, .int .i64 nx] 48 (0, 0)) (by repeat' (with_reducible first | exact HG.out | exact blk_new _ _ | refine blk_alloc ?_ _ | refine blk_drew ?_)) hb); (try clear HG); have HG := n_; clear n_; have n_ := Aside0.mk (blk_below (g := wo.heap.size) (o := .cells #[.int .i64 (rd_T83 rs i).f0, .int .i64 (rd_T83 rs i).f1, .int .i64 (rd_T83 rs i).f2, .int .i64 (rd_T83 rs i).f3, .bool true] 83 (0, 0)) (by repeat' (with_reducible first | exact HU.out | exact blk_new _ _ | refine blk_alloc ?_ _ | refine blk_drew ?_)) hb); (try clear HU); have HU := n_; clear n_; (try clear cx0 cx1 cx2 hz0 hz1 hz2); have cx0 := blk_cell HX.out; have cx1 := blk_cell HG.out; have cx2 := blk_cell HU.out; have hz0 := blk_lt HX.out; have hz1 := blk_lt HG.out; have hz2 := blk_lt HU.out; clear hb))))
                all_goals go_wp2
                all_goals first
                  | (go_ret; exact .inr ⟨rfl, fun h => by (obtain ⟨q1, q2, q3, q4, q5⟩ := (show RecordP nx (rd_T83 rs i) from h.2.2.2.2.2.2.2.2.2.2 _ (rdmem (z := z83) hi0 hlt))); first | exact HP.out.1 q1 | exact HP.out.1 q2 | exact HP.out.1 q3 | (have z := q4 K4.out; have := HP.out.1; omega) | (have z := q5 K4.out; have := HP.out.1; omega) | (have z := q5 K4.out; exact k6.out z.2), HB.out⟩; done)
                  | (go_roundg (rs.length - (i + 1)).toNat
                     case measure => omega
                     case rel => exact ⟨i + 1, rfl, by omega, by omega, by omega, HB, HX, HG, ⟨fun j h0 h1 => by
                       by_cases hj : j < i
                       · exact HA.out j h0 hj
                       · obtain rfl : j = i := by omega
                         exact (show RecordP nx (rd_T83 rs _) from ⟨HP.out.2.2.2.1, HP.out.2.2.1, HP.out.2.1, fun h => by first | (have := HP.out.1; omega) | exact absurd (K4.out.symm.trans h) (by decide), fun h => by first | exact absurd (K4.out.symm.trans h) (by decide) | exact ⟨by have := HP.out.1; omega, k6.out⟩⟩)⟩⟩)
              · go_wp2_with (first
                  | (go_at_call 35; go_loud (refine (sIn1 _ _ _ _).mono ?_; rintro e w2 (⟨rfl, hr, hb⟩ | ⟨rfl, hr, hb⟩) <;> (have n_ := Aside0.mk (And.intro hr HP.out); clear HP hr; have HP := n_; clear n_; have n_ := Aside0.mk (below_step (w := w) (by repeat' (with_reducible first | exact HB.out | apply below_alloc | apply below_drew1 | refine below_set ?_ (by omega))) hb); clear HB; have HB := n_; clear n_; have n_ := Aside0.mk (blk_below (g := w.heap.size) (o := .cells #[.int .i64 ip, .int .i64 b, .int .i64 gate, .string gm, .string wm, .int .i64 res, .slice A6 g.length c6, .slice A7 l.length c7] 41 (0, 0)) (by repeat' (with_reducible first | exact HX.out | exact blk_new _ _ | refine blk_alloc ?_ _ | refine blk_drew ?_)) hb); (try clear HX); have HX := n_; clear n_; have n_ := Aside0.mk (blk_below (g := w.heap.size + 1) (o := .cells #[.slice B0 us.length d0, .slice B1 ss.length d1, .slice B2 fs.length d2, .slice (some ad) rs.length d3, .int .i64 nx] 48 (0, 0)) (by repeat' (with_reducible first | exact HG.out | exact blk_new _ _ | refine blk_alloc ?_ _ | refine blk_drew ?_)) hb); (try clear HG); have HG := n_; clear n_; have n_ := Aside0.mk (blk_below (g := wo.heap.size) (o := .cells #[.int .i64 (rd_T83 rs i).f0, .int .i64 (rd_T83 rs i).f1, .int .i64 (rd_T83 rs i).f2, .int .i64 (rd_T83 rs i).f3, .bool false] 83 (0, 0)) (by repeat' (with_reducible first | exact HU.out | exact blk_new _ _ | refine blk_alloc ?_ _ | refine blk_drew ?_)) hb); (try clear HU); have HU := n_; clear n_; (try clear cx0 cx1 cx2 hz0 hz1 hz2); have cx0 := blk_cell HX.out; have cx1 := blk_cell HG.out; have cx2 := blk_cell HU.out; have hz0 := blk_lt HX.out; have hz1 := blk_lt HG.out; have hz2 := blk_lt HU.out; clear hb))))
                all_goals go_wp2
                all_goals first
                  | (go_ret; exact .inr ⟨rfl, fun h => by (obtain ⟨q1, q2, q3, q4, q5⟩ := (show RecordP nx (rd_T83 rs i) from h.2.2.2.2.2.2.2.2.2.2 _ (rdmem (z := z83) hi0 hlt))); first | exact HP.out.1 q1 | exact HP.out.1 q2 | exact HP.out.1 q3 | (have z := q4 K4.out; have := HP.out.1; omega) | (have z := q5 K4.out; have := HP.out.1; omega) | (have z := q5 K4.out; exact k6.out z.2), HB.out⟩; done)
                  | (go_roundg (rs.length - (i + 1)).toNat
                     case measure => omega
                     case rel => exact ⟨i + 1, rfl, by omega, by omega, by omega, HB, HX, HG, ⟨fun j h0 h1 => by
                       by_cases hj : j < i
                       · exact HA.out j h0 hj
                       · obtain rfl : j = i := by omega
                         exact (show RecordP nx (rd_T83 rs _) from ⟨HP.out.2.2.2.1, HP.out.2.2.1, HP.out.2.1, fun h => by first | (have := HP.out.1; omega) | exact absurd (K4.out.symm.trans h) (by decide), fun h => by first | exact absurd (K4.out.symm.trans h) (by decide) | exact ⟨by have := HP.out.1; omega, k6.out⟩⟩)⟩⟩)
            · obtain rfl : i = rs.length := by omega
              go_wp2
              go_ret
              exact .inl ⟨rfl, ⟨HQ.out.2.2.1, HQ.out.2.1, by omega, by omega, by omega, HQ.out.1, HSS.out.1, HSS.out.2, HF.out.1, HF.out.2, all_of rfl HA.out⟩, HB.out⟩
end
section
-- NEEDS laws.szConfig laws.szGuests
def SzP (P : Prop) (left : Int) (w : World) (e : Ending) (w' : World) : Prop := ∃ t : Int, e = .returned (.int .i64 t) ∧ t ≤ left ∧ (0 ≤ t → P) ∧ Below w.heap.size w w'
set_option maxHeartbeats 4000000 in
set_option maxRecDepth 100000 in
theorem szPlaceS1 (A0 : Option Addr) (c0 : Nat) (l : List S151) (left : Int) (w : World) (g0 : 0 ≤ left) (g1 : left ≤ 1048576) (z : l.length ≤ 140737488351232) :
    Calls Tryz.prog 27 #[.slice A0 l.length c0, .int .i64 left] w (SzP (l.length ≤ 1048576) left w) := by
  go_enter Tryz.func27, Tryz.ntmps27
  go_wp2
  all_goals (go_ret; exact ⟨_, rfl, by omega, fun _ => by omega, Below.refl _ _⟩)
set_option maxHeartbeats 4000000 in
set_option maxRecDepth 100000 in
theorem szRuleS1 (A0 : Option Addr) (c0 : Nat) (l : List S193) (left : Int) (w : World) (g0 : 0 ≤ left) (g1 : left ≤ 1048576) (z : l.length ≤ 140737488351232) :
    Calls Tryz.prog 132 #[.slice A0 l.length c0, .int .i64 left] w (SzP (l.length ≤ 1048576) left w) := by
  go_enter Tryz.func132, Tryz.ntmps132
  go_wp2
  all_goals (go_ret; exact ⟨_, rfl, by omega, fun _ => by omega, Below.refl _ _⟩)
set_option maxHeartbeats 4000000 in
set_option maxRecDepth 100000 in
theorem szRecordS1 (A0 : Option Addr) (c0 : Nat) (l : List S157) (left : Int) (w : World) (g0 : 0 ≤ left) (g1 : left ≤ 1048576) (z : l.length ≤ 140737488351232) :
    Calls Tryz.prog 32 #[.slice A0 l.length c0, .int .i64 left] w (SzP (l.length ≤ 1048576) left w) := by
  go_enter Tryz.func32, Tryz.ntmps32
  go_wp2
  all_goals (go_ret; exact ⟨_, rfl, by omega, fun _ => by omega, Below.refl _ _⟩)
set_option maxHeartbeats 4000000 in
set_option maxRecDepth 100000 in
theorem szRole1 (x0 : ByteArray) (A1 : Option Addr) (c1 : Nat) (x1 : List S193) (x2 : Int) (x3 : Int) (x4 : Int) (left : Int) (w : World) (g0 : 0 ≤ left) (g1 : left ≤ 1048576) (s0 : x0.size ≤ 140737488351232) (z1 : x1.length ≤ 140737488351232) :
    Calls Tryz.prog 85 #[.agg #[.string x0, .slice A1 x1.length c1, .int .i64 x2, .int .i64 x3, .int .i64 x4], .int .i64 left] w (SzP (x0.size ≤ 1048576 ∧ x1.length ≤ 1048576) left w) := by
  have hu := Tryz.underlying129
  go_enter Tryz.func85, Tryz.ntmps85
  go_wp2_with (go_at_call 132; refine (szRuleS1 A1 c1 x1 _ _ (by omega) (by omega) z1).mono ?_; rintro e w2 ⟨t, rfl, ht, hp, hb⟩; have HP := Aside0.mk hp; have HB := Aside0.mk (below_step (below_alloc (Below.refl _ _) _) hb); clear hp hb)
  · go_ret
    exact ⟨_, rfl, by omega, fun h => by omega, below_alloc (Below.refl _ _) _⟩
  all_goals (go_ret; exact ⟨_, rfl, by omega, fun h => ⟨by omega, HP.out (by omega)⟩, HB.out⟩)
set_option maxHeartbeats 4000000 in
set_option maxRecDepth 100000 in
theorem szRoleS1 (A0 : Option Addr) (c0 : Nat) (l : List S129) (left : Int) (w : World) (g0 : 0 ≤ left) (g1 : left ≤ 1048576) (z : l.length ≤ 140737488351232) (h0 : Kd.C k129 w A0 l.length l) (y : ∀ y ∈ l, y.f0.size ≤ 140737488351232 ∧ y.f1.length ≤ 140737488351232) :
    Calls Tryz.prog 28 #[.slice A0 l.length c0, .int .i64 left] w (SzP (l.length ≤ 1048576 ∧ ∀ y ∈ l, y.f0.size ≤ 1048576 ∧ y.f1.length ≤ 1048576) left w) := by
  have hu := Tryz.underlying129
  have H0 := Aside0.mk h0
  have HY := Aside0.mk y
  clear h0 y
  go_enter Tryz.func28, Tryz.ntmps28
  by_cases hl : left - l.length < 0
  · go_wp2
    go_ret
    exact ⟨_, rfl, by omega, fun h => by omega, Below.refl _ _⟩
  go_wp2
  go_loopg [1, 5] l.length (fun gg v1 v5 w' => ∃ (i t : Int), v1 = .int .i64 t ∧ v5 = .int .i64 i ∧ 0 ≤ i ∧ i ≤ l.length ∧ l.length - i ≤ gg ∧ 0 ≤ t ∧ t ≤ left ∧ Aside0 (Below w.heap.size w w') ∧ Aside0 (∀ j : Int, 0 ≤ j → j < i → (rd_T129 l j).f0.size ≤ 1048576 ∧ (rd_T129 l j).f1.length ≤ 1048576))
  case atStart => exact ⟨0, _, rfl, rfl, Int.le_refl _, by omega, by omega, by omega, by omega, ⟨Below.refl _ _⟩, ⟨fun j h0 h1 => by omega⟩⟩
  case round =>
    obtain ⟨i, t, rfl, rfl, hi0, hi, hgg, ht0, ht1, HB, HS⟩ := hrel
    by_cases hlt : i < l.length
    · have hm : rd_T129 l i ∈ l := by rw [rd_T129, List.getD_eq_getElem?_getD, List.getElem?_eq_getElem (show i.toNat < l.length by omega)]; exact List.getElem_mem _
      have hy := HY.out _ hm
      clear hm
      obtain ⟨ad, aA, aC, eA, a0, a1, a2, a3, a4, al, ak⟩ := at_T129 (Kd.C_below H0.out HB.out) i hi0 hlt
      clear al ak
      subst eA
      go_wp2_with (go_at_call 85; refine (szRole1 (rd_T129 l i).f0 aA aC (rd_T129 l i).f1 (rd_T129 l i).f2 (rd_T129 l i).f3 (rd_T129 l i).f4 t _ (by omega) (by omega) hy.1 hy.2).mono ?_; rintro e w2 ⟨t2, rfl, ht2, hp, hb⟩; have HP := Aside0.mk hp; have HB2 := Aside0.mk (below_step HB.out hb); clear hp hb)
      · go_ret
        exact ⟨_, rfl, by omega, fun h => by omega, HB2.out⟩
      · go_roundg (l.length - (i + 1)).toNat
        case measure => omega
        case rel => exact ⟨i + 1, t2, rfl, rfl, by omega, by omega, by omega, by omega, by omega, HB2, ⟨fun j h0 h1 => by
          by_cases hj : j < i
          · exact HS.out j h0 hj
          · obtain rfl : j = i := by omega
            exact HP.out (by omega)⟩⟩
    · obtain rfl : i = l.length := by omega
      go_wp2
      go_ret
      exact ⟨_, rfl, by omega, fun h => ⟨by omega, fun y hy => by
        obtain ⟨j, hj, rfl⟩ := List.mem_iff_getElem.1 hy
        have h_ := HS.out (j : Int) (by omega) (by omega)
        rwa [rd_T129, List.getD_eq_getElem?_getD, Int.toNat_natCast, List.getElem?_eq_getElem hj] at h_⟩, HB.out⟩
set_option maxHeartbeats 4000000 in
set_option maxRecDepth 100000 in
theorem szConfig1 (x0 : Int) (x1 : Int) (x2 : Int) (x3 : ByteArray) (x4 : ByteArray) (x5 : Int) (A6 : Option Addr) (c6 : Nat) (x6 : List S151) (A7 : Option Addr) (c7 : Nat) (x7 : List S129) (left : Int) (w : World) (g0 : 0 ≤ left) (g1 : left ≤ 1048576) (s3 : x3.size ≤ 140737488351232) (s4 : x4.size ≤ 140737488351232) (z6 : x6.length ≤ 140737488351232) (z7 : x7.length ≤ 140737488351232) (h7 : Kd.C k129 w A7 x7.length x7) (y7 : ∀ y ∈ x7, y.f0.size ≤ 140737488351232 ∧ y.f1.length ≤ 140737488351232) :
    Calls Tryz.prog 7 #[.agg #[.int .i64 x0, .int .i64 x1, .int .i64 x2, .string x3, .string x4, .int .i64 x5, .slice A6 x6.length c6, .slice A7 x7.length c7], .int .i64 left] w (SzP ((x6.length ≤ 1048576) ∧ (x7.length ≤ 1048576 ∧ ∀ y ∈ x7, y.f0.size ≤ 1048576 ∧ y.f1.length ≤ 1048576)) left w) := by
  have hu := Tryz.underlying27
  have HH7 := Aside0.mk (And.intro h7 y7)
  clear h7 y7
  have HB := Aside0.mk (Below.refl w.heap.size w)
  go_enter Tryz.func7, Tryz.ntmps7
  go_wp2_with (first
    | (go_at_call 27; refine (szPlaceS1 A6 c6 x6 _ _ (by omega) (by omega) z6).mono ?_; rintro e w2 ⟨t0, rfl, ht0, hp, hb⟩; have HP0 := Aside0.mk hp; have n_ := Aside0.mk (below_step (w := w) (below_alloc HB.out _) hb); clear HB; have HB := n_; clear n_ hp; obtain ⟨hc, hf⟩ := bcell hb; have hz0 : w.heap.size < w2.heap.size := (by have := hb.size; (try simp at this); omega); clear hb)
    | (go_at_call 28; refine (szRoleS1 A7 c7 x7 _ _ (by omega) (by omega) z7 (Kd.C_below HH7.out.1 HB.out) HH7.out.2).mono ?_; rintro e w2 ⟨t1, rfl, ht1, hp, hb⟩; have HP1 := Aside0.mk hp; have n_ := Aside0.mk (below_step (w := w) HB.out hb); clear HB; have HB := n_; clear n_ hp; obtain ⟨hc, hf⟩ := bcell hb; have hz0 : w.heap.size < w2.heap.size := (by have := hb.size; (try simp at this); omega); clear hb))
  all_goals go_ret
  all_goals first
    | exact ⟨_, rfl, by omega, fun h => ⟨HP0.out (by omega), HP1.out (by omega)⟩, HB.out⟩
    | exact ⟨_, rfl, by omega, fun h => by omega, HB.out⟩
    | exact ⟨_, rfl, by omega, fun h => by omega, below_alloc HB.out _⟩
set_option maxHeartbeats 4000000 in
set_option maxRecDepth 100000 in
theorem szUser1 (x0 : ByteArray) (x1 : ByteArray) (x2 : ByteArray) (x3 : ByteArray) (x4 : Int) (x5 : Int) (left : Int) (w : World) (g0 : 0 ≤ left) (g1 : left ≤ 1048576) (s0 : x0.size ≤ 140737488351232) (s1 : x1.size ≤ 140737488351232) (s2 : x2.size ≤ 140737488351232) (s3 : x3.size ≤ 140737488351232) :
    Calls Tryz.prog 86 #[.agg #[.string x0, .string x1, .string x2, .string x3, .int .i64 x4, .int .i64 x5], .int .i64 left] w (SzP (True) left w) := by
  have hu := Tryz.underlying131
  go_enter Tryz.func86, Tryz.ntmps86
  go_wp2
  all_goals (go_ret; exact ⟨_, rfl, by omega, fun _ => trivial, below_alloc (Below.refl _ _) _⟩)
set_option maxHeartbeats 4000000 in
set_option maxRecDepth 100000 in
theorem szUserS1 (A0 : Option Addr) (c0 : Nat) (l : List S131) (left : Int) (w : World) (g0 : 0 ≤ left) (g1 : left ≤ 1048576) (z : l.length ≤ 140737488351232) (h0 : Kd.C k131 w A0 l.length l) (y : ∀ y ∈ l, y.f0.size ≤ 140737488351232 ∧ y.f1.size ≤ 140737488351232 ∧ y.f2.size ≤ 140737488351232 ∧ y.f3.size ≤ 140737488351232) :
    Calls Tryz.prog 29 #[.slice A0 l.length c0, .int .i64 left] w (SzP (l.length ≤ 1048576) left w) := by
  have hu := Tryz.underlying131
  have H0 := Aside0.mk h0
  have HY := Aside0.mk y
  clear h0 y
  go_enter Tryz.func29, Tryz.ntmps29
  by_cases hl : left - l.length < 0
  · go_wp2
    go_ret
    exact ⟨_, rfl, by omega, fun h => by omega, Below.refl _ _⟩
  go_wp2
  go_loopg [1, 5] l.length (fun gg v1 v5 w' => ∃ (i t : Int), v1 = .int .i64 t ∧ v5 = .int .i64 i ∧ 0 ≤ i ∧ i ≤ l.length ∧ l.length - i ≤ gg ∧ 0 ≤ t ∧ t ≤ left ∧ Aside0 (Below w.heap.size w w'))
  case atStart => exact ⟨0, _, rfl, rfl, Int.le_refl _, by omega, by omega, by omega, by omega, ⟨Below.refl _ _⟩⟩
  case round =>
    obtain ⟨i, t, rfl, rfl, hi0, hi, hgg, ht0, ht1, HB⟩ := hrel
    by_cases hlt : i < l.length
    · have hm : rd_T131 l i ∈ l := by rw [rd_T131, List.getD_eq_getElem?_getD, List.getElem?_eq_getElem (show i.toNat < l.length by omega)]; exact List.getElem_mem _
      have hy := HY.out _ hm
      clear hm
      obtain ⟨ad, eA, hc⟩ := at_T131 (Kd.C_below H0.out HB.out) i hi0 hlt
      subst eA
      go_wp2_with (go_at_call 86; refine (szUser1 (rd_T131 l i).f0 (rd_T131 l i).f1 (rd_T131 l i).f2 (rd_T131 l i).f3 (rd_T131 l i).f4 (rd_T131 l i).f5 t _ (by omega) (by omega) hy.1 hy.2.1 hy.2.2.1 hy.2.2.2).mono ?_; rintro e w2 ⟨t2, rfl, ht2, hp, hb⟩; have HP := Aside0.mk hp; have HB2 := Aside0.mk (below_step HB.out hb); clear hp hb)
      · go_ret
        exact ⟨_, rfl, by omega, fun h => by omega, HB2.out⟩
      · go_roundg (l.length - (i + 1)).toNat
        case measure => omega
        case rel => exact ⟨i + 1, t2, rfl, rfl, by omega, by omega, by omega, by omega, by omega, HB2⟩
    · obtain rfl : i = l.length := by omega
      go_wp2
      go_ret
      exact ⟨_, rfl, by omega, fun h => by omega, HB.out⟩
set_option maxHeartbeats 4000000 in
set_option maxRecDepth 100000 in
theorem szSession1 (x0 : Int) (x1 : Int) (x2 : ByteArray) (x3 : Int) (x4 : Int) (x5 : Int) (x6 : Int) (x7 : Int) (x8 : Int) (x9 : Int) (left : Int) (w : World) (g0 : 0 ≤ left) (g1 : left ≤ 1048576) (s2 : x2.size ≤ 140737488351232) :
    Calls Tryz.prog 87 #[.agg #[.int .i64 x0, .int .i64 x1, .string x2, .int .i64 x3, .int .i64 x4, .int .i64 x5, .int .i64 x6, .int .i64 x7, .int .i64 x8, .int .i64 x9], .int .i64 left] w (SzP (True) left w) := by
  have hu := Tryz.underlying133
  go_enter Tryz.func87, Tryz.ntmps87
  go_wp2
  all_goals (go_ret; exact ⟨_, rfl, by omega, fun _ => trivial, below_alloc (Below.refl _ _) _⟩)
set_option maxHeartbeats 4000000 in
set_option maxRecDepth 100000 in
theorem szSessionS1 (A0 : Option Addr) (c0 : Nat) (l : List S133) (left : Int) (w : World) (g0 : 0 ≤ left) (g1 : left ≤ 1048576) (z : l.length ≤ 140737488351232) (h0 : Kd.C k133 w A0 l.length l) (y : ∀ y ∈ l, y.f2.size ≤ 140737488351232) :
    Calls Tryz.prog 30 #[.slice A0 l.length c0, .int .i64 left] w (SzP (l.length ≤ 1048576) left w) := by
  have hu := Tryz.underlying133
  have H0 := Aside0.mk h0
  have HY := Aside0.mk y
  clear h0 y
  go_enter Tryz.func30, Tryz.ntmps30
  by_cases hl : left - l.length < 0
  · go_wp2
    go_ret
    exact ⟨_, rfl, by omega, fun h => by omega, Below.refl _ _⟩
  go_wp2
  go_loopg [1, 5] l.length (fun gg v1 v5 w' => ∃ (i t : Int), v1 = .int .i64 t ∧ v5 = .int .i64 i ∧ 0 ≤ i ∧ i ≤ l.length ∧ l.length - i ≤ gg ∧ 0 ≤ t ∧ t ≤ left ∧ Aside0 (Below w.heap.size w w'))
  case atStart => exact ⟨0, _, rfl, rfl, Int.le_refl _, by omega, by omega, by omega, by omega, ⟨Below.refl _ _⟩⟩
  case round =>
    obtain ⟨i, t, rfl, rfl, hi0, hi, hgg, ht0, ht1, HB⟩ := hrel
    by_cases hlt : i < l.length
    · have hm : rd_T133 l i ∈ l := by rw [rd_T133, List.getD_eq_getElem?_getD, List.getElem?_eq_getElem (show i.toNat < l.length by omega)]; exact List.getElem_mem _
      have hy := HY.out _ hm
      clear hm
      obtain ⟨ad, eA, hc⟩ := at_T133 (Kd.C_below H0.out HB.out) i hi0 hlt
      subst eA
      go_wp2_with (go_at_call 87; refine (szSession1 (rd_T133 l i).f0 (rd_T133 l i).f1 (rd_T133 l i).f2 (rd_T133 l i).f3 (rd_T133 l i).f4 (rd_T133 l i).f5 (rd_T133 l i).f6 (rd_T133 l i).f7 (rd_T133 l i).f8 (rd_T133 l i).f9 t _ (by omega) (by omega) hy).mono ?_; rintro e w2 ⟨t2, rfl, ht2, hp, hb⟩; have HP := Aside0.mk hp; have HB2 := Aside0.mk (below_step HB.out hb); clear hp hb)
      · go_ret
        exact ⟨_, rfl, by omega, fun h => by omega, HB2.out⟩
      · go_roundg (l.length - (i + 1)).toNat
        case measure => omega
        case rel => exact ⟨i + 1, t2, rfl, rfl, by omega, by omega, by omega, by omega, by omega, HB2⟩
    · obtain rfl : i = l.length := by omega
      go_wp2
      go_ret
      exact ⟨_, rfl, by omega, fun h => by omega, HB.out⟩
set_option maxHeartbeats 4000000 in
set_option maxRecDepth 100000 in
theorem szFail1 (x0 : ByteArray) (x1 : Int) (x2 : Int) (left : Int) (w : World) (g0 : 0 ≤ left) (g1 : left ≤ 1048576) (s0 : x0.size ≤ 140737488351232) :
    Calls Tryz.prog 88 #[.agg #[.string x0, .int .i64 x1, .int .i64 x2], .int .i64 left] w (SzP (True) left w) := by
  have hu := Tryz.underlying135
  go_enter Tryz.func88, Tryz.ntmps88
  go_wp2
  all_goals (go_ret; exact ⟨_, rfl, by omega, fun _ => trivial, below_alloc (Below.refl _ _) _⟩)
set_option maxHeartbeats 4000000 in
set_option maxRecDepth 100000 in
theorem szFailS1 (A0 : Option Addr) (c0 : Nat) (l : List S135) (left : Int) (w : World) (g0 : 0 ≤ left) (g1 : left ≤ 1048576) (z : l.length ≤ 140737488351232) (h0 : Kd.C k135 w A0 l.length l) (y : ∀ y ∈ l, y.f0.size ≤ 140737488351232) :
    Calls Tryz.prog 31 #[.slice A0 l.length c0, .int .i64 left] w (SzP (l.length ≤ 1048576) left w) := by
  have hu := Tryz.underlying135
  have H0 := Aside0.mk h0
  have HY := Aside0.mk y
  clear h0 y
  go_enter Tryz.func31, Tryz.ntmps31
  by_cases hl : left - l.length < 0
  · go_wp2
    go_ret
    exact ⟨_, rfl, by omega, fun h => by omega, Below.refl _ _⟩
  go_wp2
  go_loopg [1, 5] l.length (fun gg v1 v5 w' => ∃ (i t : Int), v1 = .int .i64 t ∧ v5 = .int .i64 i ∧ 0 ≤ i ∧ i ≤ l.length ∧ l.length - i ≤ gg ∧ 0 ≤ t ∧ t ≤ left ∧ Aside0 (Below w.heap.size w w'))
  case atStart => exact ⟨0, _, rfl, rfl, Int.le_refl _, by omega, by omega, by omega, by omega, ⟨Below.refl _ _⟩⟩
  case round =>
    obtain ⟨i, t, rfl, rfl, hi0, hi, hgg, ht0, ht1, HB⟩ := hrel
    by_cases hlt : i < l.length
    · have hm : rd_T135 l i ∈ l := by rw [rd_T135, List.getD_eq_getElem?_getD, List.getElem?_eq_getElem (show i.toNat < l.length by omega)]; exact List.getElem_mem _
      have hy := HY.out _ hm
      clear hm
      obtain ⟨ad, eA, hc⟩ := at_T135 (Kd.C_below H0.out HB.out) i hi0 hlt
      subst eA
      go_wp2_with (go_at_call 88; refine (szFail1 (rd_T135 l i).f0 (rd_T135 l i).f1 (rd_T135 l i).f2 t _ (by omega) (by omega) hy).mono ?_; rintro e w2 ⟨t2, rfl, ht2, hp, hb⟩; have HP := Aside0.mk hp; have HB2 := Aside0.mk (below_step HB.out hb); clear hp hb)
      · go_ret
        exact ⟨_, rfl, by omega, fun h => by omega, HB2.out⟩
      · go_roundg (l.length - (i + 1)).toNat
        case measure => omega
        case rel => exact ⟨i + 1, t2, rfl, rfl, by omega, by omega, by omega, by omega, by omega, HB2⟩
    · obtain rfl : i = l.length := by omega
      go_wp2
      go_ret
      exact ⟨_, rfl, by omega, fun h => by omega, HB.out⟩
set_option maxHeartbeats 4000000 in
set_option maxRecDepth 100000 in
theorem szGuests1 (A0 : Option Addr) (c0 : Nat) (x0 : List S131) (A1 : Option Addr) (c1 : Nat) (x1 : List S133) (A2 : Option Addr) (c2 : Nat) (x2 : List S135) (A3 : Option Addr) (c3 : Nat) (x3 : List S157) (x4 : Int) (left : Int) (w : World) (g0 : 0 ≤ left) (g1 : left ≤ 1048576)  (z0 : x0.length ≤ 140737488351232) (h0 : Kd.C k131 w A0 x0.length x0) (y0 : ∀ y ∈ x0, y.f0.size ≤ 140737488351232 ∧ y.f1.size ≤ 140737488351232 ∧ y.f2.size ≤ 140737488351232 ∧ y.f3.size ≤ 140737488351232) (z1 : x1.length ≤ 140737488351232) (h1 : Kd.C k133 w A1 x1.length x1) (y1 : ∀ y ∈ x1, y.f2.size ≤ 140737488351232) (z2 : x2.length ≤ 140737488351232) (h2 : Kd.C k135 w A2 x2.length x2) (y2 : ∀ y ∈ x2, y.f0.size ≤ 140737488351232) (z3 : x3.length ≤ 140737488351232) :
    Calls Tryz.prog 8 #[.agg #[.slice A0 x0.length c0, .slice A1 x1.length c1, .slice A2 x2.length c2, .slice A3 x3.length c3, .int .i64 x4], .int .i64 left] w (SzP ((x0.length ≤ 1048576) ∧ (x1.length ≤ 1048576) ∧ (x2.length ≤ 1048576) ∧ (x3.length ≤ 1048576)) left w) := by
  have hu := Tryz.underlying33
  have HH0 := Aside0.mk (And.intro h0 y0)
  clear h0 y0
  have HH1 := Aside0.mk (And.intro h1 y1)
  clear h1 y1
  have HH2 := Aside0.mk (And.intro h2 y2)
  clear h2 y2
  have HB := Aside0.mk (Below.refl w.heap.size w)
  go_enter Tryz.func8, Tryz.ntmps8
  go_wp2_with (first
    | (go_at_call 29; refine (szUserS1 A0 c0 x0 _ _ (by omega) (by omega) z0 (Kd.C_below HH0.out.1 (below_alloc HB.out _)) HH0.out.2).mono ?_; rintro e w2 ⟨t0, rfl, ht0, hp, hb⟩; have HP0 := Aside0.mk hp; have n_ := Aside0.mk (below_step (w := w) (below_alloc HB.out _) hb); clear HB; have HB := n_; clear n_ hp; obtain ⟨hc, hf⟩ := bcell hb; have hz0 : w.heap.size < w2.heap.size := (by have := hb.size; (try simp at this); omega); clear hb)
    | (go_at_call 30; refine (szSessionS1 A1 c1 x1 _ _ (by omega) (by omega) z1 (Kd.C_below HH1.out.1 HB.out) HH1.out.2).mono ?_; rintro e w2 ⟨t1, rfl, ht1, hp, hb⟩; have HP1 := Aside0.mk hp; have n_ := Aside0.mk (below_step (w := w) HB.out hb); clear HB; have HB := n_; clear n_ hp; obtain ⟨hc, hf⟩ := bcell hb; have hz0 : w.heap.size < w2.heap.size := (by have := hb.size; (try simp at this); omega); clear hb)
    | (go_at_call 31; refine (szFailS1 A2 c2 x2 _ _ (by omega) (by omega) z2 (Kd.C_below HH2.out.1 HB.out) HH2.out.2).mono ?_; rintro e w2 ⟨t2, rfl, ht2, hp, hb⟩; have HP2 := Aside0.mk hp; have n_ := Aside0.mk (below_step (w := w) HB.out hb); clear HB; have HB := n_; clear n_ hp; obtain ⟨hc, hf⟩ := bcell hb; have hz0 : w.heap.size < w2.heap.size := (by have := hb.size; (try simp at this); omega); clear hb)
    | (go_at_call 32; refine (szRecordS1 A3 c3 x3 _ _ (by omega) (by omega) z3).mono ?_; rintro e w2 ⟨t3, rfl, ht3, hp, hb⟩; have HP3 := Aside0.mk hp; have n_ := Aside0.mk (below_step (w := w) HB.out hb); clear HB; have HB := n_; clear n_ hp; obtain ⟨hc, hf⟩ := bcell hb; have hz0 : w.heap.size < w2.heap.size := (by have := hb.size; (try simp at this); omega); clear hb))
  all_goals go_ret
  all_goals first
    | exact ⟨_, rfl, by omega, fun h => ⟨HP0.out (by omega), HP1.out (by omega), HP2.out (by omega), HP3.out (by omega)⟩, HB.out⟩
    | exact ⟨_, rfl, by omega, fun h => by omega, HB.out⟩
    | exact ⟨_, rfl, by omega, fun h => by omega, below_alloc HB.out _⟩
end
end Go.Proofs.YtkklokkldgkacaaGreat.X
