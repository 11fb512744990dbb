/- Texts that the row of FnExactEndMoved stands on: functions of the program and of the reference, each as a Lean function with the same answers, and the plain lemmas. Conditions: none beside those that each theorem names. -/
import Derived.Test.YtkklokkldgkacaaGreatCFnExactEndMoved7
namespace Go.Proofs.YtkklokkldgkacaaGreat.X
open Go.RowKit Go.Proofs.YtkklokkldgkacaaGreatW.PrintWords Go.Proofs.YtkklokkldgkacaaGreatW.PrintLast Go.Proofs.YtkklokkldgkacaaGreatW.PrintMore
attribute [local go_sem] max2_int min2_int max_two min_two max_three min_three max_four min_four   -- for this text's walks alone
set_option linter.unusedVariables false
set_option linter.unusedSimpArgs false
section
-- NEEDS laws.eqConfig
attribute [local go_sem] str_geq str_lss
set_option maxHeartbeats 8000000 in
set_option maxRecDepth 100000 in
theorem sUsers1 (ip b gate : Int) (gm wm : ByteArray) (res : Int) (A6 : Option Addr) (c6 : Nat) (g : List S140) (A7 : Option Addr) (c7 : Nat) (l : List S145) (A1 : Option Addr) (c1 : Nat) (us : List S92) (w : World) (hl : Kd.C k145 w A7 l.length l) (hus : Kd.C k92 w A1 us.length us) (zl : l.length ≤ 1152921504606846976) (zu : us.length ≤ 1152921504606846976) (zs : ∀ u ∈ us, u.f0.size ≤ 1152921504606846976 ∧ u.f1.size ≤ 1152921504606846976 ∧ u.f2.size ≤ 1152921504606846976) : Calls Tryz.prog 34 #[.agg #[.int .i64 ip, .int .i64 b, .int .i64 gate, .string gm, .string wm, .int .i64 res, .slice A6 g.length c6, .slice A7 l.length c7], .slice A1 us.length c1] w (IsB (UsersP l us) w) := by
  have hu := Tryz.underlying41
  have hu2 := Tryz.underlying92
  have H0 := Aside0.mk (And.intro hl hus)
  have HZ := Aside0.mk zs
  clear hl hus zs
  go_enter Tryz.func34, Tryz.ntmps34
  go_wp2
  go_loopg [5] us.length (fun gg v w' => ∃ i : Int, v = .int .i64 i ∧ 0 ≤ i ∧ i ≤ us.length ∧ us.length - i ≤ gg ∧ Aside0 (Below w.heap.size w w') ∧ Aside0 (w'.heap[w.heap.size]? = some (.cells #[.int .i64 ip, .int .i64 b, .int .i64 gate, .string gm, .string wm, .int .i64 res, .slice A6 g.length c6, .slice A7 l.length c7] 41 (0, 0))) ∧ Aside0 (∀ j : Int, 0 ≤ j → j < i → UserP l (us.getD j.toNat z92)) ∧ Aside0 (∀ j : Int, 0 ≤ j → j < i → UpP us j))
  case atStart => exact ⟨0, rfl, Int.le_refl _, by omega, by omega, ⟨below_alloc (Below.refl _ _) _⟩, ⟨blk_new _ _⟩, ⟨fun j h0 h1 => by omega⟩, ⟨fun j h0 h1 => by omega⟩⟩
  case round =>
    obtain ⟨i, rfl, hi0, hi, hgg, HB, HX, HA, HS⟩ := hrel
    by_cases hlt : i < us.length
    · obtain ⟨ad, eA, hrow⟩ := at_T92 (Kd.C_below H0.out.2 HB.out) i hi0 hlt
      have HM := Aside0.mk (HZ.out _ (rdmem (z := z92) hi0 hlt))
      have hn1 : (rd_T92 us i).f1.size ≤ 1152921504606846976 := HM.out.2.1
      have hn2 : (rd_T92 us i).f2.size ≤ 1152921504606846976 := HM.out.2.2
      have HE := Aside0.mk eA
      subst eA
      go_wp2
      generalize hW : wr.alloc (.cells #[.string (rd_T92 us i).f0, .string (rd_T92 us i).f1, .string (rd_T92 us i).f2, .string (rd_T92 us i).f3, .int .i64 (rd_T92 us i).f4, .int .i64 (rd_T92 us i).f5] 92 (0, 0)) = W0 at *
      have hB0 : Below wr.heap.size wr W0 := by rw [← hW]; exact below_alloc (Below.refl _ _) _
      have hub : W0.heap[wr.heap.size]? = some (.cells #[.string (rd_T92 us i).f0, .string (rd_T92 us i).f1, .string (rd_T92 us i).f2, .string (rd_T92 us i).f3, .int .i64 (rd_T92 us i).f4, .int .i64 (rd_T92 us i).f5] 92 (0, 0)) := by rw [← hW]; exact blk_new _ _
      have n_ := Aside0.mk (below_step HB.out hB0)
      clear HB
      have HB := n_
      clear n_
      have n_ := Aside0.mk (blk_below HX.out hB0)
      clear HX
      have HX := n_
      clear n_ hB0 hW hrow
      rcases Classical.em (NameP (rd_T92 us i).f0 ∧ (rd_T92 us i).f0.size ≤ 8) with k1 | k1 <;> (have K1 := Aside0.mk k1; clear k1)
      rotate_left
      · as_aux_lemma =>
        refine qS (fun w' => w'.cell? ⟨wr.heap.size, 0, none⟩ = some (.string (rd_T92 us i).f0) ∧ w'.cell? ⟨wr.heap.size, 1, none⟩ = some (.string (rd_T92 us i).f1) ∧ w'.cell? ⟨wr.heap.size, 2, none⟩ = some (.string (rd_T92 us i).f2) ∧ w'.cell? ⟨wr.heap.size, 3, none⟩ = some (.string (rd_T92 us i).f3) ∧ w'.cell? ⟨wr.heap.size, 4, none⟩ = some (.int .i64 (rd_T92 us i).f4) ∧ w'.cell? ⟨wr.heap.size, 5, none⟩ = some (.int .i64 (rd_T92 us i).f5) ∧ w'.cell? ⟨w.heap.size, 0, none⟩ = some (.int .i64 ip) ∧ w'.cell? ⟨w.heap.size, 1, none⟩ = some (.int .i64 b) ∧ w'.cell? ⟨w.heap.size, 2, none⟩ = some (.int .i64 gate) ∧ w'.cell? ⟨w.heap.size, 3, none⟩ = some (.string gm) ∧ w'.cell? ⟨w.heap.size, 4, none⟩ = some (.string wm) ∧ w'.cell? ⟨w.heap.size, 5, none⟩ = some (.int .i64 res) ∧ w'.cell? ⟨w.heap.size, 6, none⟩ = some (.slice A6 g.length c6) ∧ w'.cell? ⟨w.heap.size, 7, none⟩ = some (.slice A7 l.length c7)) 50 ⟨blk_cell hub 0, blk_cell hub 1, blk_cell hub 2, blk_cell hub 3, blk_cell hub 4, blk_cell hub 5, blk_cell HX.out 0, blk_cell HX.out 1, blk_cell HX.out 2, blk_cell HX.out 3, blk_cell HX.out 4, blk_cell HX.out 5, blk_cell HX.out 6, blk_cell HX.out 7⟩ (fun hs => ?_)
        have n_ := Aside0.mk (below_drew1 HB.out)
        clear HB
        have HB := n_
        clear n_
        have n_ := Aside0.mk (blk_drew HX.out)
        clear HX
        have HX := n_
        clear n_
        refine qP 0 17 ?_
        refine qT 1 18 hs ?_
        refine q1 2 19 (fun K hK => ?_)
        refine qC Tryz.func92 _ ?_
        refine (sName8 _ _ HM.out.1).mono ?_
        intro e w2 h2
        obtain ⟨rfl, hb⟩ := h2.no K1.out
        have n_ := Aside0.mk (below_step HB.out hb)
        clear HB
        have HB := n_
        clear n_
        have n_ := Aside0.mk (blk_below HX.out hb)
        clear HX
        have HX := n_
        clear n_
        refine ⟨_, rfl, hK.out _ _ ⟨pw_cell_below hb hs.1, pw_cell_below hb hs.2.1, pw_cell_below hb hs.2.2.1, pw_cell_below hb hs.2.2.2.1, pw_cell_below hb hs.2.2.2.2.1, pw_cell_below hb hs.2.2.2.2.2.1, pw_cell_below hb hs.2.2.2.2.2.2.1, pw_cell_below hb hs.2.2.2.2.2.2.2.1, pw_cell_below hb hs.2.2.2.2.2.2.2.2.1, pw_cell_below hb hs.2.2.2.2.2.2.2.2.2.1, pw_cell_below hb hs.2.2.2.2.2.2.2.2.2.2.1, pw_cell_below hb hs.2.2.2.2.2.2.2.2.2.2.2.1, pw_cell_below hb hs.2.2.2.2.2.2.2.2.2.2.2.2.1, pw_cell_below hb hs.2.2.2.2.2.2.2.2.2.2.2.2.2⟩ (fun hs2 => ?_)⟩
        clear hK K hs hb
        have hs := hs2
        clear hs2
        refine qN ?_
        refine qP 3 20 ?_
        refine qP 4 21 ?_
        refine qU 5 22 ?_
        refine qU 6 23 ?_
        refine qU 7 24 ?_
        refine qU 8 25 ?_
        refine qP 9 26 ?_
        refine qP 10 27 ?_
        refine qU 11 28 ?_
        refine qU 12 29 ?_
        refine qU 13 30 ?_
        refine qU 14 31 ?_
        refine qP 15 32 ?_
        refine qP 16 33 ?_
        refine qU 17 34 ?_
        refine qU 18 35 ?_
        refine qU 19 36 ?_
        refine qU 20 37 ?_
        refine qU 21 38 ?_
        refine qP 22 39 ?_
        refine qP 23 40 ?_
        refine qU 24 41 ?_
        refine qU 25 42 ?_
        refine qU 26 43 ?_
        refine qU 27 44 ?_
        refine qP 28 45 ?_
        refine qP 29 46 ?_
        refine qU 30 47 ?_
        refine qU 31 48 ?_
        refine qU 32 49 ?_
        refine qU 33 50 ?_
        refine qP 34 51 ?_
        refine qP 35 52 ?_
        refine qU 36 53 ?_
        refine qU 37 54 ?_
        refine qU 38 55 ?_
        refine qU 39 56 ?_
        refine qU 40 57 ?_
        refine qU 41 58 ?_
        refine qU 42 59 ?_
        refine qU 43 60 ?_
        refine qU 44 61 ?_
        refine qU 45 62 ?_
        refine qU 46 63 ?_
        refine qU 47 64 ?_
        refine qU 48 65 ?_
        refine qP 49 66 ?_
        refine qD ?_
        clear hs
        go_wp2
        go_ret
        exact .inr ⟨rfl, fun h => K1.out (h.2.1 _ (rdmem (z := z92) hi0 hlt)).1, HB.out⟩
      rcases dec_em (40 < ((rd_T92 us i).f1.size : Int)) with ⟨k2, b2⟩ | ⟨k2, b2⟩
      · as_aux_lemma =>
        refine qS (fun w' => w'.cell? ⟨wr.heap.size, 0, none⟩ = some (.string (rd_T92 us i).f0) ∧ w'.cell? ⟨wr.heap.size, 1, none⟩ = some (.string (rd_T92 us i).f1) ∧ w'.cell? ⟨wr.heap.size, 2, none⟩ = some (.string (rd_T92 us i).f2) ∧ w'.cell? ⟨wr.heap.size, 3, none⟩ = some (.string (rd_T92 us i).f3) ∧ w'.cell? ⟨wr.heap.size, 4, none⟩ = some (.int .i64 (rd_T92 us i).f4) ∧ w'.cell? ⟨wr.heap.size, 5, none⟩ = some (.int .i64 (rd_T92 us i).f5) ∧ w'.cell? ⟨w.heap.size, 0, none⟩ = some (.int .i64 ip) ∧ w'.cell? ⟨w.heap.size, 1, none⟩ = some (.int .i64 b) ∧ w'.cell? ⟨w.heap.size, 2, none⟩ = some (.int .i64 gate) ∧ w'.cell? ⟨w.heap.size, 3, none⟩ = some (.string gm) ∧ w'.cell? ⟨w.heap.size, 4, none⟩ = some (.string wm) ∧ w'.cell? ⟨w.heap.size, 5, none⟩ = some (.int .i64 res) ∧ w'.cell? ⟨w.heap.size, 6, none⟩ = some (.slice A6 g.length c6) ∧ w'.cell? ⟨w.heap.size, 7, none⟩ = some (.slice A7 l.length c7)) 50 ⟨blk_cell hub 0, blk_cell hub 1, blk_cell hub 2, blk_cell hub 3, blk_cell hub 4, blk_cell hub 5, blk_cell HX.out 0, blk_cell HX.out 1, blk_cell HX.out 2, blk_cell HX.out 3, blk_cell HX.out 4, blk_cell HX.out 5, blk_cell HX.out 6, blk_cell HX.out 7⟩ (fun hs => ?_)
        have n_ := Aside0.mk (below_drew1 HB.out)
        clear HB
        have HB := n_
        clear n_
        have n_ := Aside0.mk (blk_drew HX.out)
        clear HX
        have HX := n_
        clear n_
        refine qP 0 17 ?_
        refine qT 1 18 hs ?_
        refine q1 2 19 (fun K hK => ?_)
        refine qC Tryz.func92 _ ?_
        refine (sName8 _ _ HM.out.1).mono ?_
        intro e w2 h2
        obtain ⟨rfl, hb⟩ := h2.yes K1.out
        have n_ := Aside0.mk (below_step HB.out hb)
        clear HB
        have HB := n_
        clear n_
        have n_ := Aside0.mk (blk_below HX.out hb)
        clear HX
        have HX := n_
        clear n_
        refine ⟨_, rfl, hK.out _ _ ⟨pw_cell_below hb hs.1, pw_cell_below hb hs.2.1, pw_cell_below hb hs.2.2.1, pw_cell_below hb hs.2.2.2.1, pw_cell_below hb hs.2.2.2.2.1, pw_cell_below hb hs.2.2.2.2.2.1, pw_cell_below hb hs.2.2.2.2.2.2.1, pw_cell_below hb hs.2.2.2.2.2.2.2.1, pw_cell_below hb hs.2.2.2.2.2.2.2.2.1, pw_cell_below hb hs.2.2.2.2.2.2.2.2.2.1, pw_cell_below hb hs.2.2.2.2.2.2.2.2.2.2.1, pw_cell_below hb hs.2.2.2.2.2.2.2.2.2.2.2.1, pw_cell_below hb hs.2.2.2.2.2.2.2.2.2.2.2.2.1, pw_cell_below hb hs.2.2.2.2.2.2.2.2.2.2.2.2.2⟩ (fun hs2 => ?_)⟩
        clear hK K hs hb
        have hs := hs2
        clear hs2
        refine qN ?_
        refine qP 3 20 ?_
        refine qP 4 21 ?_
        refine qP 5 22 ?_
        refine qT 6 23 hs ?_
        refine qP 7 24 ?_
        refine qP 8 25 ?_
        refine qP 9 26 ?_
        refine qP 10 27 ?_
        refine qU 11 28 ?_
        refine qU 12 29 ?_
        refine qU 13 30 ?_
        refine qU 14 31 ?_
        refine qP 15 32 ?_
        refine qP 16 33 ?_
        refine qU 17 34 ?_
        refine qU 18 35 ?_
        refine qU 19 36 ?_
        refine qU 20 37 ?_
        refine qU 21 38 ?_
        refine qP 22 39 ?_
        refine qP 23 40 ?_
        refine qU 24 41 ?_
        refine qU 25 42 ?_
        refine qU 26 43 ?_
        refine qU 27 44 ?_
        refine qP 28 45 ?_
        refine qP 29 46 ?_
        refine qU 30 47 ?_
        refine qU 31 48 ?_
        refine qU 32 49 ?_
        refine qU 33 50 ?_
        refine qP 34 51 ?_
        refine qP 35 52 ?_
        refine qU 36 53 ?_
        refine qU 37 54 ?_
        refine qU 38 55 ?_
        refine qU 39 56 ?_
        refine qU 40 57 ?_
        refine qU 41 58 ?_
        refine qU 42 59 ?_
        refine qU 43 60 ?_
        refine qU 44 61 ?_
        refine qU 45 62 ?_
        refine qU 46 63 ?_
        refine qU 47 64 ?_
        refine qU 48 65 ?_
        refine qP 49 66 ?_
        refine qD ?_
        clear hs
        go_wp2
        go_ret
        exact .inr ⟨rfl, fun h => by have hq : (rd_T92 us i).f1.size ≤ 40 := (h.2.1 _ (rdmem (z := z92) hi0 hlt)).2.1; omega, HB.out⟩
      rcases beq_em ((rd_T92 us i).f2.size : Int) 32 with ⟨b3, k3⟩ | ⟨b3, k3⟩
      rotate_left
      · as_aux_lemma =>
        have bn : (((rd_T92 us i).f2.size : Int) != 32) = true := by simp only [bne, b3, Bool.not_false]
        refine qS (fun w' => w'.cell? ⟨wr.heap.size, 0, none⟩ = some (.string (rd_T92 us i).f0) ∧ w'.cell? ⟨wr.heap.size, 1, none⟩ = some (.string (rd_T92 us i).f1) ∧ w'.cell? ⟨wr.heap.size, 2, none⟩ = some (.string (rd_T92 us i).f2) ∧ w'.cell? ⟨wr.heap.size, 3, none⟩ = some (.string (rd_T92 us i).f3) ∧ w'.cell? ⟨wr.heap.size, 4, none⟩ = some (.int .i64 (rd_T92 us i).f4) ∧ w'.cell? ⟨wr.heap.size, 5, none⟩ = some (.int .i64 (rd_T92 us i).f5) ∧ w'.cell? ⟨w.heap.size, 0, none⟩ = some (.int .i64 ip) ∧ w'.cell? ⟨w.heap.size, 1, none⟩ = some (.int .i64 b) ∧ w'.cell? ⟨w.heap.size, 2, none⟩ = some (.int .i64 gate) ∧ w'.cell? ⟨w.heap.size, 3, none⟩ = some (.string gm) ∧ w'.cell? ⟨w.heap.size, 4, none⟩ = some (.string wm) ∧ w'.cell? ⟨w.heap.size, 5, none⟩ = some (.int .i64 res) ∧ w'.cell? ⟨w.heap.size, 6, none⟩ = some (.slice A6 g.length c6) ∧ w'.cell? ⟨w.heap.size, 7, none⟩ = some (.slice A7 l.length c7)) 50 ⟨blk_cell hub 0, blk_cell hub 1, blk_cell hub 2, blk_cell hub 3, blk_cell hub 4, blk_cell hub 5, blk_cell HX.out 0, blk_cell HX.out 1, blk_cell HX.out 2, blk_cell HX.out 3, blk_cell HX.out 4, blk_cell HX.out 5, blk_cell HX.out 6, blk_cell HX.out 7⟩ (fun hs => ?_)
        have n_ := Aside0.mk (below_drew1 HB.out)
        clear HB
        have HB := n_
        clear n_
        have n_ := Aside0.mk (blk_drew HX.out)
        clear HX
        have HX := n_
        clear n_
        refine qP 0 17 ?_
        refine qT 1 18 hs ?_
        refine q1 2 19 (fun K hK => ?_)
        refine qC Tryz.func92 _ ?_
        refine (sName8 _ _ HM.out.1).mono ?_
        intro e w2 h2
        obtain ⟨rfl, hb⟩ := h2.yes K1.out
        have n_ := Aside0.mk (below_step HB.out hb)
        clear HB
        have HB := n_
        clear n_
        have n_ := Aside0.mk (blk_below HX.out hb)
        clear HX
        have HX := n_
        clear n_
        refine ⟨_, rfl, hK.out _ _ ⟨pw_cell_below hb hs.1, pw_cell_below hb hs.2.1, pw_cell_below hb hs.2.2.1, pw_cell_below hb hs.2.2.2.1, pw_cell_below hb hs.2.2.2.2.1, pw_cell_below hb hs.2.2.2.2.2.1, pw_cell_below hb hs.2.2.2.2.2.2.1, pw_cell_below hb hs.2.2.2.2.2.2.2.1, pw_cell_below hb hs.2.2.2.2.2.2.2.2.1, pw_cell_below hb hs.2.2.2.2.2.2.2.2.2.1, pw_cell_below hb hs.2.2.2.2.2.2.2.2.2.2.1, pw_cell_below hb hs.2.2.2.2.2.2.2.2.2.2.2.1, pw_cell_below hb hs.2.2.2.2.2.2.2.2.2.2.2.2.1, pw_cell_below hb hs.2.2.2.2.2.2.2.2.2.2.2.2.2⟩ (fun hs2 => ?_)⟩
        clear hK K hs hb
        have hs := hs2
        clear hs2
        refine qN ?_
        refine qP 3 20 ?_
        refine qP 4 21 ?_
        refine qP 5 22 ?_
        refine qT 6 23 hs ?_
        refine qP 7 24 ?_
        refine qP 8 25 ?_
        refine qP 9 26 ?_
        refine qP 10 27 ?_
        refine qP 11 28 ?_
        refine qT 12 29 hs ?_
        refine qP 13 30 ?_
        refine qP 14 31 ?_
        refine qP 15 32 ?_
        refine qP 16 33 ?_
        refine qU 17 34 ?_
        refine qU 18 35 ?_
        refine qU 19 36 ?_
        refine qU 20 37 ?_
        refine qU 21 38 ?_
        refine qP 22 39 ?_
        refine qP 23 40 ?_
        refine qU 24 41 ?_
        refine qU 25 42 ?_
        refine qU 26 43 ?_
        refine qU 27 44 ?_
        refine qP 28 45 ?_
        refine qP 29 46 ?_
        refine qU 30 47 ?_
        refine qU 31 48 ?_
        refine qU 32 49 ?_
        refine qU 33 50 ?_
        refine qP 34 51 ?_
        refine qP 35 52 ?_
        refine qU 36 53 ?_
        refine qU 37 54 ?_
        refine qU 38 55 ?_
        refine qU 39 56 ?_
        refine qU 40 57 ?_
        refine qU 41 58 ?_
        refine qU 42 59 ?_
        refine qU 43 60 ?_
        refine qU 44 61 ?_
        refine qU 45 62 ?_
        refine qU 46 63 ?_
        refine qU 47 64 ?_
        refine qU 48 65 ?_
        refine qP 49 66 ?_
        refine qD ?_
        clear hs
        go_wp2
        go_ret
        exact .inr ⟨rfl, fun h => by have hq : (rd_T92 us i).f2.size = 32 := (h.2.1 _ (rdmem (z := z92) hi0 hlt)).2.2.1; have hk := k3.out; omega, HB.out⟩
      have K3 := Aside0.mk (show (rd_T92 us i).f2.size = 32 from by have := k3.out; omega)
      clear k3
      have bn : (((rd_T92 us i).f2.size : Int) != 32) = false := by simp only [bne, b3, Bool.not_true]
      rcases Classical.em (∃ r ∈ l, HasRole l (rd_T92 us i).f3 r) with k4 | k4 <;> (have K4 := Aside0.mk k4; clear k4)
      rotate_left
      · as_aux_lemma =>
        refine qS (fun w' => w'.cell? ⟨wr.heap.size, 0, none⟩ = some (.string (rd_T92 us i).f0) ∧ w'.cell? ⟨wr.heap.size, 1, none⟩ = some (.string (rd_T92 us i).f1) ∧ w'.cell? ⟨wr.heap.size, 2, none⟩ = some (.string (rd_T92 us i).f2) ∧ w'.cell? ⟨wr.heap.size, 3, none⟩ = some (.string (rd_T92 us i).f3) ∧ w'.cell? ⟨wr.heap.size, 4, none⟩ = some (.int .i64 (rd_T92 us i).f4) ∧ w'.cell? ⟨wr.heap.size, 5, none⟩ = some (.int .i64 (rd_T92 us i).f5) ∧ w'.cell? ⟨w.heap.size, 0, none⟩ = some (.int .i64 ip) ∧ w'.cell? ⟨w.heap.size, 1, none⟩ = some (.int .i64 b) ∧ w'.cell? ⟨w.heap.size, 2, none⟩ = some (.int .i64 gate) ∧ w'.cell? ⟨w.heap.size, 3, none⟩ = some (.string gm) ∧ w'.cell? ⟨w.heap.size, 4, none⟩ = some (.string wm) ∧ w'.cell? ⟨w.heap.size, 5, none⟩ = some (.int .i64 res) ∧ w'.cell? ⟨w.heap.size, 6, none⟩ = some (.slice A6 g.length c6) ∧ w'.cell? ⟨w.heap.size, 7, none⟩ = some (.slice A7 l.length c7)) 50 ⟨blk_cell hub 0, blk_cell hub 1, blk_cell hub 2, blk_cell hub 3, blk_cell hub 4, blk_cell hub 5, blk_cell HX.out 0, blk_cell HX.out 1, blk_cell HX.out 2, blk_cell HX.out 3, blk_cell HX.out 4, blk_cell HX.out 5, blk_cell HX.out 6, blk_cell HX.out 7⟩ (fun hs => ?_)
        have n_ := Aside0.mk (below_drew1 HB.out)
        clear HB
        have HB := n_
        clear n_
        have n_ := Aside0.mk (blk_drew HX.out)
        clear HX
        have HX := n_
        clear n_
        refine qP 0 17 ?_
        refine qT 1 18 hs ?_
        refine q1 2 19 (fun K hK => ?_)
        refine qC Tryz.func92 _ ?_
        refine (sName8 _ _ HM.out.1).mono ?_
        intro e w2 h2
        obtain ⟨rfl, hb⟩ := h2.yes K1.out
        have n_ := Aside0.mk (below_step HB.out hb)
        clear HB
        have HB := n_
        clear n_
        have n_ := Aside0.mk (blk_below HX.out hb)
        clear HX
        have HX := n_
        clear n_
        refine ⟨_, rfl, hK.out _ _ ⟨pw_cell_below hb hs.1, pw_cell_below hb hs.2.1, pw_cell_below hb hs.2.2.1, pw_cell_below hb hs.2.2.2.1, pw_cell_below hb hs.2.2.2.2.1, pw_cell_below hb hs.2.2.2.2.2.1, pw_cell_below hb hs.2.2.2.2.2.2.1, pw_cell_below hb hs.2.2.2.2.2.2.2.1, pw_cell_below hb hs.2.2.2.2.2.2.2.2.1, pw_cell_below hb hs.2.2.2.2.2.2.2.2.2.1, pw_cell_below hb hs.2.2.2.2.2.2.2.2.2.2.1, pw_cell_below hb hs.2.2.2.2.2.2.2.2.2.2.2.1, pw_cell_below hb hs.2.2.2.2.2.2.2.2.2.2.2.2.1, pw_cell_below hb hs.2.2.2.2.2.2.2.2.2.2.2.2.2⟩ (fun hs2 => ?_)⟩
        clear hK K hs hb
        have hs := hs2
        clear hs2
        refine qN ?_
        refine qP 3 20 ?_
        refine qP 4 21 ?_
        refine qP 5 22 ?_
        refine qT 6 23 hs ?_
        refine qP 7 24 ?_
        refine qP 8 25 ?_
        refine qP 9 26 ?_
        refine qP 10 27 ?_
        refine qP 11 28 ?_
        refine qT 12 29 hs ?_
        refine qP 13 30 ?_
        refine qP 14 31 ?_
        refine qP 15 32 ?_
        refine qP 16 33 ?_
        refine qP 18 35 ?_
        refine qT 17 34 hs ?_
        refine qT 19 36 hs ?_
        refine q1 20 37 (fun K hK => ?_)
        refine qC Tryz.func93 _ ?_
        refine (sRoleIx _ _ _ _ _ _ _ _ _ _ _ _ _ _ (Kd.C_below H0.out.1 HB.out) zl).mono ?_
        intro e w2 h2
        obtain ⟨r, rfl, hb, hr⟩ := h2
        obtain rfl : r = -1 := by
          rcases hr with ⟨h, _⟩ | ⟨h0, h1, hp, _⟩
          · exact h
          · exact absurd ⟨_, rdmem h0 h1, hp⟩ K4.out
        clear hr
        have n_ := Aside0.mk (below_step HB.out hb)
        clear HB
        have HB := n_
        clear n_
        have n_ := Aside0.mk (blk_below HX.out hb)
        clear HX
        have HX := n_
        clear n_
        refine ⟨_, rfl, hK.out _ _ ⟨pw_cell_below hb hs.1, pw_cell_below hb hs.2.1, pw_cell_below hb hs.2.2.1, pw_cell_below hb hs.2.2.2.1, pw_cell_below hb hs.2.2.2.2.1, pw_cell_below hb hs.2.2.2.2.2.1, pw_cell_below hb hs.2.2.2.2.2.2.1, pw_cell_below hb hs.2.2.2.2.2.2.2.1, pw_cell_below hb hs.2.2.2.2.2.2.2.2.1, pw_cell_below hb hs.2.2.2.2.2.2.2.2.2.1, pw_cell_below hb hs.2.2.2.2.2.2.2.2.2.2.1, pw_cell_below hb hs.2.2.2.2.2.2.2.2.2.2.2.1, pw_cell_below hb hs.2.2.2.2.2.2.2.2.2.2.2.2.1, pw_cell_below hb hs.2.2.2.2.2.2.2.2.2.2.2.2.2⟩ (fun hs2 => ?_)⟩
        clear hK K hs hb
        have hs := hs2
        clear hs2
        refine qN ?_
        refine qP 21 38 ?_
        refine qP 22 39 ?_
        refine qP 23 40 ?_
        refine qU 24 41 ?_
        refine qU 25 42 ?_
        refine qU 26 43 ?_
        refine qU 27 44 ?_
        refine qP 28 45 ?_
        refine qP 29 46 ?_
        refine qU 30 47 ?_
        refine qU 31 48 ?_
        refine qU 32 49 ?_
        refine qU 33 50 ?_
        refine qP 34 51 ?_
        refine qP 35 52 ?_
        refine qU 36 53 ?_
        refine qU 37 54 ?_
        refine qU 38 55 ?_
        refine qU 39 56 ?_
        refine qU 40 57 ?_
        refine qU 41 58 ?_
        refine qU 42 59 ?_
        refine qU 43 60 ?_
        refine qU 44 61 ?_
        refine qU 45 62 ?_
        refine qU 46 63 ?_
        refine qU 47 64 ?_
        refine qU 48 65 ?_
        refine qP 49 66 ?_
        refine qD ?_
        clear hs
        go_wp2
        go_ret
        exact .inr ⟨rfl, fun h => K4.out (h.2.1 _ (rdmem (z := z92) hi0 hlt)).2.2.2.1, HB.out⟩
      rcases Classical.em (0 ≤ (rd_T92 us i).f4 ∧ (rd_T92 us i).f4 ≤ 1000000) with k5 | k5 <;> (have K5 := Aside0.mk k5; clear k5)
      rotate_left
      · as_aux_lemma =>
        refine qS (fun w' => w'.cell? ⟨wr.heap.size, 0, none⟩ = some (.string (rd_T92 us i).f0) ∧ w'.cell? ⟨wr.heap.size, 1, none⟩ = some (.string (rd_T92 us i).f1) ∧ w'.cell? ⟨wr.heap.size, 2, none⟩ = some (.string (rd_T92 us i).f2) ∧ w'.cell? ⟨wr.heap.size, 3, none⟩ = some (.string (rd_T92 us i).f3) ∧ w'.cell? ⟨wr.heap.size, 4, none⟩ = some (.int .i64 (rd_T92 us i).f4) ∧ w'.cell? ⟨wr.heap.size, 5, none⟩ = some (.int .i64 (rd_T92 us i).f5) ∧ w'.cell? ⟨w.heap.size, 0, none⟩ = some (.int .i64 ip) ∧ w'.cell? ⟨w.heap.size, 1, none⟩ = some (.int .i64 b) ∧ w'.cell? ⟨w.heap.size, 2, none⟩ = some (.int .i64 gate) ∧ w'.cell? ⟨w.heap.size, 3, none⟩ = some (.string gm) ∧ w'.cell? ⟨w.heap.size, 4, none⟩ = some (.string wm) ∧ w'.cell? ⟨w.heap.size, 5, none⟩ = some (.int .i64 res) ∧ w'.cell? ⟨w.heap.size, 6, none⟩ = some (.slice A6 g.length c6) ∧ w'.cell? ⟨w.heap.size, 7, none⟩ = some (.slice A7 l.length c7)) 50 ⟨blk_cell hub 0, blk_cell hub 1, blk_cell hub 2, blk_cell hub 3, blk_cell hub 4, blk_cell hub 5, blk_cell HX.out 0, blk_cell HX.out 1, blk_cell HX.out 2, blk_cell HX.out 3, blk_cell HX.out 4, blk_cell HX.out 5, blk_cell HX.out 6, blk_cell HX.out 7⟩ (fun hs => ?_)
        have n_ := Aside0.mk (below_drew1 HB.out)
        clear HB
        have HB := n_
        clear n_
        have n_ := Aside0.mk (blk_drew HX.out)
        clear HX
        have HX := n_
        clear n_
        refine qP 0 17 ?_
        refine qT 1 18 hs ?_
        refine q1 2 19 (fun K hK => ?_)
        refine qC Tryz.func92 _ ?_
        refine (sName8 _ _ HM.out.1).mono ?_
        intro e w2 h2
        obtain ⟨rfl, hb⟩ := h2.yes K1.out
        have n_ := Aside0.mk (below_step HB.out hb)
        clear HB
        have HB := n_
        clear n_
        have n_ := Aside0.mk (blk_below HX.out hb)
        clear HX
        have HX := n_
        clear n_
        refine ⟨_, rfl, hK.out _ _ ⟨pw_cell_below hb hs.1, pw_cell_below hb hs.2.1, pw_cell_below hb hs.2.2.1, pw_cell_below hb hs.2.2.2.1, pw_cell_below hb hs.2.2.2.2.1, pw_cell_below hb hs.2.2.2.2.2.1, pw_cell_below hb hs.2.2.2.2.2.2.1, pw_cell_below hb hs.2.2.2.2.2.2.2.1, pw_cell_below hb hs.2.2.2.2.2.2.2.2.1, pw_cell_below hb hs.2.2.2.2.2.2.2.2.2.1, pw_cell_below hb hs.2.2.2.2.2.2.2.2.2.2.1, pw_cell_below hb hs.2.2.2.2.2.2.2.2.2.2.2.1, pw_cell_below hb hs.2.2.2.2.2.2.2.2.2.2.2.2.1, pw_cell_below hb hs.2.2.2.2.2.2.2.2.2.2.2.2.2⟩ (fun hs2 => ?_)⟩
        clear hK K hs hb
        have hs := hs2
        clear hs2
        refine qN ?_
        refine qP 3 20 ?_
        refine qP 4 21 ?_
        refine qP 5 22 ?_
        refine qT 6 23 hs ?_
        refine qP 7 24 ?_
        refine qP 8 25 ?_
        refine qP 9 26 ?_
        refine qP 10 27 ?_
        refine qP 11 28 ?_
        refine qT 12 29 hs ?_
        refine qP 13 30 ?_
        refine qP 14 31 ?_
        refine qP 15 32 ?_
        refine qP 16 33 ?_
        refine qP 18 35 ?_
        refine qT 17 34 hs ?_
        refine qT 19 36 hs ?_
        refine q1 20 37 (fun K hK => ?_)
        refine qC Tryz.func93 _ ?_
        refine (sRoleIx _ _ _ _ _ _ _ _ _ _ _ _ _ _ (Kd.C_below H0.out.1 HB.out) zl).mono ?_
        intro e w2 h2
        obtain ⟨r, rfl, hb, hr⟩ := h2
        have hr0 : 0 ≤ r := by
          rcases hr with ⟨h, hn⟩ | ⟨h0, _⟩
          · obtain ⟨x, hx, hp⟩ := K4.out
            exact absurd hp (hn x hx)
          · exact h0
        have hrk : decide (r < 0) = false := decide_eq_false (by omega)
        clear hr
        have n_ := Aside0.mk (below_step HB.out hb)
        clear HB
        have HB := n_
        clear n_
        have n_ := Aside0.mk (blk_below HX.out hb)
        clear HX
        have HX := n_
        clear n_
        refine ⟨_, rfl, hK.out _ _ ⟨pw_cell_below hb hs.1, pw_cell_below hb hs.2.1, pw_cell_below hb hs.2.2.1, pw_cell_below hb hs.2.2.2.1, pw_cell_below hb hs.2.2.2.2.1, pw_cell_below hb hs.2.2.2.2.2.1, pw_cell_below hb hs.2.2.2.2.2.2.1, pw_cell_below hb hs.2.2.2.2.2.2.2.1, pw_cell_below hb hs.2.2.2.2.2.2.2.2.1, pw_cell_below hb hs.2.2.2.2.2.2.2.2.2.1, pw_cell_below hb hs.2.2.2.2.2.2.2.2.2.2.1, pw_cell_below hb hs.2.2.2.2.2.2.2.2.2.2.2.1, pw_cell_below hb hs.2.2.2.2.2.2.2.2.2.2.2.2.1, pw_cell_below hb hs.2.2.2.2.2.2.2.2.2.2.2.2.2⟩ (fun hs2 => ?_)⟩
        clear hK K hs hb
        have hs := hs2
        clear hs2
        refine qN ?_
        refine qP 21 38 ?_
        refine qP 22 39 ?_
        refine qP 23 40 ?_
        refine qP 24 41 ?_
        refine qT 25 42 hs ?_
        refine q1 26 43 (fun K hK => ?_)
        refine qC Tryz.func35 _ ?_
        refine (sIn1 _ _ _ _).mono ?_
        intro e w2 h2
        obtain ⟨rfl, hb⟩ := h2.no K5.out
        have n_ := Aside0.mk (below_step HB.out hb)
        clear HB
        have HB := n_
        clear n_
        have n_ := Aside0.mk (blk_below HX.out hb)
        clear HX
        have HX := n_
        clear n_
        refine ⟨_, rfl, hK.out _ _ ⟨pw_cell_below hb hs.1, pw_cell_below hb hs.2.1, pw_cell_below hb hs.2.2.1, pw_cell_below hb hs.2.2.2.1, pw_cell_below hb hs.2.2.2.2.1, pw_cell_below hb hs.2.2.2.2.2.1, pw_cell_below hb hs.2.2.2.2.2.2.1, pw_cell_below hb hs.2.2.2.2.2.2.2.1, pw_cell_below hb hs.2.2.2.2.2.2.2.2.1, pw_cell_below hb hs.2.2.2.2.2.2.2.2.2.1, pw_cell_below hb hs.2.2.2.2.2.2.2.2.2.2.1, pw_cell_below hb hs.2.2.2.2.2.2.2.2.2.2.2.1, pw_cell_below hb hs.2.2.2.2.2.2.2.2.2.2.2.2.1, pw_cell_below hb hs.2.2.2.2.2.2.2.2.2.2.2.2.2⟩ (fun hs2 => ?_)⟩
        clear hK K hs hb
        have hs := hs2
        clear hs2
        refine qN ?_
        refine qP 27 44 ?_
        refine qP 28 45 ?_
        refine qP 29 46 ?_
        refine qU 30 47 ?_
        refine qU 31 48 ?_
        refine qU 32 49 ?_
        refine qU 33 50 ?_
        refine qP 34 51 ?_
        refine qP 35 52 ?_
        refine qU 36 53 ?_
        refine qU 37 54 ?_
        refine qU 38 55 ?_
        refine qU 39 56 ?_
        refine qU 40 57 ?_
        refine qU 41 58 ?_
        refine qU 42 59 ?_
        refine qU 43 60 ?_
        refine qU 44 61 ?_
        refine qU 45 62 ?_
        refine qU 46 63 ?_
        refine qU 47 64 ?_
        refine qU 48 65 ?_
        refine qP 49 66 ?_
        refine qD ?_
        clear hs
        go_wp2
        go_ret
        exact .inr ⟨rfl, fun h => K5.out (h.2.1 _ (rdmem (z := z92) hi0 hlt)).2.2.2.2.1, HB.out⟩
      rcases Classical.em (0 ≤ (rd_T92 us i).f5 ∧ (rd_T92 us i).f5 ≤ 1000) with k6 | k6 <;> (have K6 := Aside0.mk k6; clear k6)
      rotate_left
      · as_aux_lemma =>
        refine qS (fun w' => w'.cell? ⟨wr.heap.size, 0, none⟩ = some (.string (rd_T92 us i).f0) ∧ w'.cell? ⟨wr.heap.size, 1, none⟩ = some (.string (rd_T92 us i).f1) ∧ w'.cell? ⟨wr.heap.size, 2, none⟩ = some (.string (rd_T92 us i).f2) ∧ w'.cell? ⟨wr.heap.size, 3, none⟩ = some (.string (rd_T92 us i).f3) ∧ w'.cell? ⟨wr.heap.size, 4, none⟩ = some (.int .i64 (rd_T92 us i).f4) ∧ w'.cell? ⟨wr.heap.size, 5, none⟩ = some (.int .i64 (rd_T92 us i).f5) ∧ w'.cell? ⟨w.heap.size, 0, none⟩ = some (.int .i64 ip) ∧ w'.cell? ⟨w.heap.size, 1, none⟩ = some (.int .i64 b) ∧ w'.cell? ⟨w.heap.size, 2, none⟩ = some (.int .i64 gate) ∧ w'.cell? ⟨w.heap.size, 3, none⟩ = some (.string gm) ∧ w'.cell? ⟨w.heap.size, 4, none⟩ = some (.string wm) ∧ w'.cell? ⟨w.heap.size, 5, none⟩ = some (.int .i64 res) ∧ w'.cell? ⟨w.heap.size, 6, none⟩ = some (.slice A6 g.length c6) ∧ w'.cell? ⟨w.heap.size, 7, none⟩ = some (.slice A7 l.length c7)) 50 ⟨blk_cell hub 0, blk_cell hub 1, blk_cell hub 2, blk_cell hub 3, blk_cell hub 4, blk_cell hub 5, blk_cell HX.out 0, blk_cell HX.out 1, blk_cell HX.out 2, blk_cell HX.out 3, blk_cell HX.out 4, blk_cell HX.out 5, blk_cell HX.out 6, blk_cell HX.out 7⟩ (fun hs => ?_)
        have n_ := Aside0.mk (below_drew1 HB.out)
        clear HB
        have HB := n_
        clear n_
        have n_ := Aside0.mk (blk_drew HX.out)
        clear HX
        have HX := n_
        clear n_
        refine qP 0 17 ?_
        refine qT 1 18 hs ?_
        refine q1 2 19 (fun K hK => ?_)
        refine qC Tryz.func92 _ ?_
        refine (sName8 _ _ HM.out.1).mono ?_
        intro e w2 h2
        obtain ⟨rfl, hb⟩ := h2.yes K1.out
        have n_ := Aside0.mk (below_step HB.out hb)
        clear HB
        have HB := n_
        clear n_
        have n_ := Aside0.mk (blk_below HX.out hb)
        clear HX
        have HX := n_
        clear n_
        refine ⟨_, rfl, hK.out _ _ ⟨pw_cell_below hb hs.1, pw_cell_below hb hs.2.1, pw_cell_below hb hs.2.2.1, pw_cell_below hb hs.2.2.2.1, pw_cell_below hb hs.2.2.2.2.1, pw_cell_below hb hs.2.2.2.2.2.1, pw_cell_below hb hs.2.2.2.2.2.2.1, pw_cell_below hb hs.2.2.2.2.2.2.2.1, pw_cell_below hb hs.2.2.2.2.2.2.2.2.1, pw_cell_below hb hs.2.2.2.2.2.2.2.2.2.1, pw_cell_below hb hs.2.2.2.2.2.2.2.2.2.2.1, pw_cell_below hb hs.2.2.2.2.2.2.2.2.2.2.2.1, pw_cell_below hb hs.2.2.2.2.2.2.2.2.2.2.2.2.1, pw_cell_below hb hs.2.2.2.2.2.2.2.2.2.2.2.2.2⟩ (fun hs2 => ?_)⟩
        clear hK K hs hb
        have hs := hs2
        clear hs2
        refine qN ?_
        refine qP 3 20 ?_
        refine qP 4 21 ?_
        refine qP 5 22 ?_
        refine qT 6 23 hs ?_
        refine qP 7 24 ?_
        refine qP 8 25 ?_
        refine qP 9 26 ?_
        refine qP 10 27 ?_
        refine qP 11 28 ?_
        refine qT 12 29 hs ?_
        refine qP 13 30 ?_
        refine qP 14 31 ?_
        refine qP 15 32 ?_
        refine qP 16 33 ?_
        refine qP 18 35 ?_
        refine qT 17 34 hs ?_
        refine qT 19 36 hs ?_
        refine q1 20 37 (fun K hK => ?_)
        refine qC Tryz.func93 _ ?_
        refine (sRoleIx _ _ _ _ _ _ _ _ _ _ _ _ _ _ (Kd.C_below H0.out.1 HB.out) zl).mono ?_
        intro e w2 h2
        obtain ⟨r, rfl, hb, hr⟩ := h2
        have hr0 : 0 ≤ r := by
          rcases hr with ⟨h, hn⟩ | ⟨h0, _⟩
          · obtain ⟨x, hx, hp⟩ := K4.out
            exact absurd hp (hn x hx)
          · exact h0
        have hrk : decide (r < 0) = false := decide_eq_false (by omega)
        clear hr
        have n_ := Aside0.mk (below_step HB.out hb)
        clear HB
        have HB := n_
        clear n_
        have n_ := Aside0.mk (blk_below HX.out hb)
        clear HX
        have HX := n_
        clear n_
        refine ⟨_, rfl, hK.out _ _ ⟨pw_cell_below hb hs.1, pw_cell_below hb hs.2.1, pw_cell_below hb hs.2.2.1, pw_cell_below hb hs.2.2.2.1, pw_cell_below hb hs.2.2.2.2.1, pw_cell_below hb hs.2.2.2.2.2.1, pw_cell_below hb hs.2.2.2.2.2.2.1, pw_cell_below hb hs.2.2.2.2.2.2.2.1, pw_cell_below hb hs.2.2.2.2.2.2.2.2.1, pw_cell_below hb hs.2.2.2.2.2.2.2.2.2.1, pw_cell_below hb hs.2.2.2.2.2.2.2.2.2.2.1, pw_cell_below hb hs.2.2.2.2.2.2.2.2.2.2.2.1, pw_cell_below hb hs.2.2.2.2.2.2.2.2.2.2.2.2.1, pw_cell_below hb hs.2.2.2.2.2.2.2.2.2.2.2.2.2⟩ (fun hs2 => ?_)⟩
        clear hK K hs hb
        have hs := hs2
        clear hs2
        refine qN ?_
        refine qP 21 38 ?_
        refine qP 22 39 ?_
        refine qP 23 40 ?_
        refine qP 24 41 ?_
        refine qT 25 42 hs ?_
        refine q1 26 43 (fun K hK => ?_)
        refine qC Tryz.func35 _ ?_
        refine (sIn1 _ _ _ _).mono ?_
        intro e w2 h2
        obtain ⟨rfl, hb⟩ := h2.yes K5.out
        have n_ := Aside0.mk (below_step HB.out hb)
        clear HB
        have HB := n_
        clear n_
        have n_ := Aside0.mk (blk_below HX.out hb)
        clear HX
        have HX := n_
        clear n_
        refine ⟨_, rfl, hK.out _ _ ⟨pw_cell_below hb hs.1, pw_cell_below hb hs.2.1, pw_cell_below hb hs.2.2.1, pw_cell_below hb hs.2.2.2.1, pw_cell_below hb hs.2.2.2.2.1, pw_cell_below hb hs.2.2.2.2.2.1, pw_cell_below hb hs.2.2.2.2.2.2.1, pw_cell_below hb hs.2.2.2.2.2.2.2.1, pw_cell_below hb hs.2.2.2.2.2.2.2.2.1, pw_cell_below hb hs.2.2.2.2.2.2.2.2.2.1, pw_cell_below hb hs.2.2.2.2.2.2.2.2.2.2.1, pw_cell_below hb hs.2.2.2.2.2.2.2.2.2.2.2.1, pw_cell_below hb hs.2.2.2.2.2.2.2.2.2.2.2.2.1, pw_cell_below hb hs.2.2.2.2.2.2.2.2.2.2.2.2.2⟩ (fun hs2 => ?_)⟩
        clear hK K hs hb
        have hs := hs2
        clear hs2
        refine qN ?_
        refine qP 27 44 ?_
        refine qP 28 45 ?_
        refine qP 29 46 ?_
        refine qP 30 47 ?_
        refine qT 31 48 hs ?_
        refine q1 32 49 (fun K hK => ?_)
        refine qC Tryz.func35 _ ?_
        refine (sIn1 _ _ _ _).mono ?_
        intro e w2 h2
        obtain ⟨rfl, hb⟩ := h2.no K6.out
        have n_ := Aside0.mk (below_step HB.out hb)
        clear HB
        have HB := n_
        clear n_
        have n_ := Aside0.mk (blk_below HX.out hb)
        clear HX
        have HX := n_
        clear n_
        refine ⟨_, rfl, hK.out _ _ ⟨pw_cell_below hb hs.1, pw_cell_below hb hs.2.1, pw_cell_below hb hs.2.2.1, pw_cell_below hb hs.2.2.2.1, pw_cell_below hb hs.2.2.2.2.1, pw_cell_below hb hs.2.2.2.2.2.1, pw_cell_below hb hs.2.2.2.2.2.2.1, pw_cell_below hb hs.2.2.2.2.2.2.2.1, pw_cell_below hb hs.2.2.2.2.2.2.2.2.1, pw_cell_below hb hs.2.2.2.2.2.2.2.2.2.1, pw_cell_below hb hs.2.2.2.2.2.2.2.2.2.2.1, pw_cell_below hb hs.2.2.2.2.2.2.2.2.2.2.2.1, pw_cell_below hb hs.2.2.2.2.2.2.2.2.2.2.2.2.1, pw_cell_below hb hs.2.2.2.2.2.2.2.2.2.2.2.2.2⟩ (fun hs2 => ?_)⟩
        clear hK K hs hb
        have hs := hs2
        clear hs2
        refine qN ?_
        refine qP 33 50 ?_
        refine qP 34 51 ?_
        refine qP 35 52 ?_
        refine qU 36 53 ?_
        refine qU 37 54 ?_
        refine qU 38 55 ?_
        refine qU 39 56 ?_
        refine qU 40 57 ?_
        refine qU 41 58 ?_
        refine qU 42 59 ?_
        refine qU 43 60 ?_
        refine qU 44 61 ?_
        refine qU 45 62 ?_
        refine qU 46 63 ?_
        refine qU 47 64 ?_
        refine qU 48 65 ?_
        refine qP 49 66 ?_
        refine qD ?_
        clear hs
        go_wp2
        go_ret
        exact .inr ⟨rfl, fun h => K6.out (h.2.1 _ (rdmem (z := z92) hi0 hlt)).2.2.2.2.2, HB.out⟩
      rcases dec_em (0 < i) with ⟨k7, b7⟩ | ⟨k7, b7⟩
      rotate_left
      · as_aux_lemma =>
        refine qS (fun w' => w'.cell? ⟨wr.heap.size, 0, none⟩ = some (.string (rd_T92 us i).f0) ∧ w'.cell? ⟨wr.heap.size, 1, none⟩ = some (.string (rd_T92 us i).f1) ∧ w'.cell? ⟨wr.heap.size, 2, none⟩ = some (.string (rd_T92 us i).f2) ∧ w'.cell? ⟨wr.heap.size, 3, none⟩ = some (.string (rd_T92 us i).f3) ∧ w'.cell? ⟨wr.heap.size, 4, none⟩ = some (.int .i64 (rd_T92 us i).f4) ∧ w'.cell? ⟨wr.heap.size, 5, none⟩ = some (.int .i64 (rd_T92 us i).f5) ∧ w'.cell? ⟨w.heap.size, 0, none⟩ = some (.int .i64 ip) ∧ w'.cell? ⟨w.heap.size, 1, none⟩ = some (.int .i64 b) ∧ w'.cell? ⟨w.heap.size, 2, none⟩ = some (.int .i64 gate) ∧ w'.cell? ⟨w.heap.size, 3, none⟩ = some (.string gm) ∧ w'.cell? ⟨w.heap.size, 4, none⟩ = some (.string wm) ∧ w'.cell? ⟨w.heap.size, 5, none⟩ = some (.int .i64 res) ∧ w'.cell? ⟨w.heap.size, 6, none⟩ = some (.slice A6 g.length c6) ∧ w'.cell? ⟨w.heap.size, 7, none⟩ = some (.slice A7 l.length c7)) 50 ⟨blk_cell hub 0, blk_cell hub 1, blk_cell hub 2, blk_cell hub 3, blk_cell hub 4, blk_cell hub 5, blk_cell HX.out 0, blk_cell HX.out 1, blk_cell HX.out 2, blk_cell HX.out 3, blk_cell HX.out 4, blk_cell HX.out 5, blk_cell HX.out 6, blk_cell HX.out 7⟩ (fun hs => ?_)
        have n_ := Aside0.mk (below_drew1 HB.out)
        clear HB
        have HB := n_
        clear n_
        have n_ := Aside0.mk (blk_drew HX.out)
        clear HX
        have HX := n_
        clear n_
        refine qP 0 17 ?_
        refine qT 1 18 hs ?_
        refine q1 2 19 (fun K hK => ?_)
        refine qC Tryz.func92 _ ?_
        refine (sName8 _ _ HM.out.1).mono ?_
        intro e w2 h2
        obtain ⟨rfl, hb⟩ := h2.yes K1.out
        have n_ := Aside0.mk (below_step HB.out hb)
        clear HB
        have HB := n_
        clear n_
        have n_ := Aside0.mk (blk_below HX.out hb)
        clear HX
        have HX := n_
        clear n_
        refine ⟨_, rfl, hK.out _ _ ⟨pw_cell_below hb hs.1, pw_cell_below hb hs.2.1, pw_cell_below hb hs.2.2.1, pw_cell_below hb hs.2.2.2.1, pw_cell_below hb hs.2.2.2.2.1, pw_cell_below hb hs.2.2.2.2.2.1, pw_cell_below hb hs.2.2.2.2.2.2.1, pw_cell_below hb hs.2.2.2.2.2.2.2.1, pw_cell_below hb hs.2.2.2.2.2.2.2.2.1, pw_cell_below hb hs.2.2.2.2.2.2.2.2.2.1, pw_cell_below hb hs.2.2.2.2.2.2.2.2.2.2.1, pw_cell_below hb hs.2.2.2.2.2.2.2.2.2.2.2.1, pw_cell_below hb hs.2.2.2.2.2.2.2.2.2.2.2.2.1, pw_cell_below hb hs.2.2.2.2.2.2.2.2.2.2.2.2.2⟩ (fun hs2 => ?_)⟩
        clear hK K hs hb
        have hs := hs2
        clear hs2
        refine qN ?_
        refine qP 3 20 ?_
        refine qP 4 21 ?_
        refine qP 5 22 ?_
        refine qT 6 23 hs ?_
        refine qP 7 24 ?_
        refine qP 8 25 ?_
        refine qP 9 26 ?_
        refine qP 10 27 ?_
        refine qP 11 28 ?_
        refine qT 12 29 hs ?_
        refine qP 13 30 ?_
        refine qP 14 31 ?_
        refine qP 15 32 ?_
        refine qP 16 33 ?_
        refine qP 18 35 ?_
        refine qT 17 34 hs ?_
        refine qT 19 36 hs ?_
        refine q1 20 37 (fun K hK => ?_)
        refine qC Tryz.func93 _ ?_
        refine (sRoleIx _ _ _ _ _ _ _ _ _ _ _ _ _ _ (Kd.C_below H0.out.1 HB.out) zl).mono ?_
        intro e w2 h2
        obtain ⟨r, rfl, hb, hr⟩ := h2
        have hr0 : 0 ≤ r := by
          rcases hr with ⟨h, hn⟩ | ⟨h0, _⟩
          · obtain ⟨x, hx, hp⟩ := K4.out
            exact absurd hp (hn x hx)
          · exact h0
        have hrk : decide (r < 0) = false := decide_eq_false (by omega)
        clear hr
        have n_ := Aside0.mk (below_step HB.out hb)
        clear HB
        have HB := n_
        clear n_
        have n_ := Aside0.mk (blk_below HX.out hb)
        clear HX
        have HX := n_
        clear n_
        refine ⟨_, rfl, hK.out _ _ ⟨pw_cell_below hb hs.1, pw_cell_below hb hs.2.1, pw_cell_below hb hs.2.2.1, pw_cell_below hb hs.2.2.2.1, pw_cell_below hb hs.2.2.2.2.1, pw_cell_below hb hs.2.2.2.2.2.1, pw_cell_below hb hs.2.2.2.2.2.2.1, pw_cell_below hb hs.2.2.2.2.2.2.2.1, pw_cell_below hb hs.2.2.2.2.2.2.2.2.1, pw_cell_below hb hs.2.2.2.2.2.2.2.2.2.1, pw_cell_below hb hs.2.2.2.2.2.2.2.2.2.2.1, pw_cell_below hb hs.2.2.2.2.2.2.2.2.2.2.2.1, pw_cell_below hb hs.2.2.2.2.2.2.2.2.2.2.2.2.1, pw_cell_below hb hs.2.2.2.2.2.2.2.2.2.2.2.2.2⟩ (fun hs2 => ?_)⟩
        clear hK K hs hb
        have hs := hs2
        clear hs2
        refine qN ?_
        refine qP 21 38 ?_
        refine qP 22 39 ?_
        refine qP 23 40 ?_
        refine qP 24 41 ?_
        refine qT 25 42 hs ?_
        refine q1 26 43 (fun K hK => ?_)
        refine qC Tryz.func35 _ ?_
        refine (sIn1 _ _ _ _).mono ?_
        intro e w2 h2
        obtain ⟨rfl, hb⟩ := h2.yes K5.out
        have n_ := Aside0.mk (below_step HB.out hb)
        clear HB
        have HB := n_
        clear n_
        have n_ := Aside0.mk (blk_below HX.out hb)
        clear HX
        have HX := n_
        clear n_
        refine ⟨_, rfl, hK.out _ _ ⟨pw_cell_below hb hs.1, pw_cell_below hb hs.2.1, pw_cell_below hb hs.2.2.1, pw_cell_below hb hs.2.2.2.1, pw_cell_below hb hs.2.2.2.2.1, pw_cell_below hb hs.2.2.2.2.2.1, pw_cell_below hb hs.2.2.2.2.2.2.1, pw_cell_below hb hs.2.2.2.2.2.2.2.1, pw_cell_below hb hs.2.2.2.2.2.2.2.2.1, pw_cell_below hb hs.2.2.2.2.2.2.2.2.2.1, pw_cell_below hb hs.2.2.2.2.2.2.2.2.2.2.1, pw_cell_below hb hs.2.2.2.2.2.2.2.2.2.2.2.1, pw_cell_below hb hs.2.2.2.2.2.2.2.2.2.2.2.2.1, pw_cell_below hb hs.2.2.2.2.2.2.2.2.2.2.2.2.2⟩ (fun hs2 => ?_)⟩
        clear hK K hs hb
        have hs := hs2
        clear hs2
        refine qN ?_
        refine qP 27 44 ?_
        refine qP 28 45 ?_
        refine qP 29 46 ?_
        refine qP 30 47 ?_
        refine qT 31 48 hs ?_
        refine q1 32 49 (fun K hK => ?_)
        refine qC Tryz.func35 _ ?_
        refine (sIn1 _ _ _ _).mono ?_
        intro e w2 h2
        obtain ⟨rfl, hb⟩ := h2.yes K6.out
        have n_ := Aside0.mk (below_step HB.out hb)
        clear HB
        have HB := n_
        clear n_
        have n_ := Aside0.mk (blk_below HX.out hb)
        clear HX
        have HX := n_
        clear n_
        refine ⟨_, rfl, hK.out _ _ ⟨pw_cell_below hb hs.1, pw_cell_below hb hs.2.1, pw_cell_below hb hs.2.2.1, pw_cell_below hb hs.2.2.2.1, pw_cell_below hb hs.2.2.2.2.1, pw_cell_below hb hs.2.2.2.2.2.1, pw_cell_below hb hs.2.2.2.2.2.2.1, pw_cell_below hb hs.2.2.2.2.2.2.2.1, pw_cell_below hb hs.2.2.2.2.2.2.2.2.1, pw_cell_below hb hs.2.2.2.2.2.2.2.2.2.1, pw_cell_below hb hs.2.2.2.2.2.2.2.2.2.2.1, pw_cell_below hb hs.2.2.2.2.2.2.2.2.2.2.2.1, pw_cell_below hb hs.2.2.2.2.2.2.2.2.2.2.2.2.1, pw_cell_below hb hs.2.2.2.2.2.2.2.2.2.2.2.2.2⟩ (fun hs2 => ?_)⟩
        clear hK K hs hb
        have hs := hs2
        clear hs2
        refine qN ?_
        refine qP 33 50 ?_
        refine qP 34 51 ?_
        refine qP 35 52 ?_
        refine qP 36 53 ?_
        refine qP 37 54 ?_
        refine qP 38 55 ?_
        refine qU 39 56 ?_
        refine qU 40 57 ?_
        refine qU 41 58 ?_
        refine qU 42 59 ?_
        refine qU 43 60 ?_
        refine qU 44 61 ?_
        refine qU 45 62 ?_
        refine qU 46 63 ?_
        refine qU 47 64 ?_
        refine qP 48 65 ?_
        refine qP 49 66 ?_
        refine qD ?_
        clear hs
        go_wp2
        go_roundg (us.length - (i + 1)).toNat
        case measure => omega
        case rel => exact ⟨i + 1, rfl, by omega, by omega, by omega, HB, HX, ⟨fun j h0 h1 => by
          by_cases hj : j < i
          · exact HA.out j h0 hj
          · obtain rfl : j = i := by omega
            exact ⟨K1.out, (by show (rd_T92 us _).f1.size ≤ 40; omega), K3.out, K4.out, K5.out, K6.out⟩⟩, ⟨fun j h0 h1 => by
          by_cases hj : j < i
          · exact HS.out j h0 hj
          · intro h2; omega⟩⟩
      obtain ⟨pd, eP, q0, _⟩ := at_T92 (Kd.C_below H0.out.2 HB.out) (i - 1) (by omega) (by omega)
      obtain rfl : ad = pd := Option.some.inj eP
      have hwr : IntKind.i64.wrap (i - 1) = i - 1 := i64id (by omega) (by omega)
      have h1m : 1 ≤ i := by omega
      have h2m : i - 1 < (us.length : Int) := by omega
      rw [show (i - 1).toNat = i.toNat - 1 by omega] at q0
      clear eP HE
      rcases bool_em (Op.bytesLess (rd_T92 us (i - 1)).f0.toList (rd_T92 us i).f0.toList) with k8 | k8
      · as_aux_lemma =>
        have K8 := Aside0.mk k8
        refine qS (fun w' => w'.cell? ⟨wr.heap.size, 0, none⟩ = some (.string (rd_T92 us i).f0) ∧ w'.cell? ⟨wr.heap.size, 1, none⟩ = some (.string (rd_T92 us i).f1) ∧ w'.cell? ⟨wr.heap.size, 2, none⟩ = some (.string (rd_T92 us i).f2) ∧ w'.cell? ⟨wr.heap.size, 3, none⟩ = some (.string (rd_T92 us i).f3) ∧ w'.cell? ⟨wr.heap.size, 4, none⟩ = some (.int .i64 (rd_T92 us i).f4) ∧ w'.cell? ⟨wr.heap.size, 5, none⟩ = some (.int .i64 (rd_T92 us i).f5) ∧ w'.cell? ⟨w.heap.size, 0, none⟩ = some (.int .i64 ip) ∧ w'.cell? ⟨w.heap.size, 1, none⟩ = some (.int .i64 b) ∧ w'.cell? ⟨w.heap.size, 2, none⟩ = some (.int .i64 gate) ∧ w'.cell? ⟨w.heap.size, 3, none⟩ = some (.string gm) ∧ w'.cell? ⟨w.heap.size, 4, none⟩ = some (.string wm) ∧ w'.cell? ⟨w.heap.size, 5, none⟩ = some (.int .i64 res) ∧ w'.cell? ⟨w.heap.size, 6, none⟩ = some (.slice A6 g.length c6) ∧ w'.cell? ⟨w.heap.size, 7, none⟩ = some (.slice A7 l.length c7) ∧ w'.cell? (ad.add ((i.toNat - 1) * 6)) = some (.string (rd_T92 us (i - 1)).f0)) 50 ⟨blk_cell hub 0, blk_cell hub 1, blk_cell hub 2, blk_cell hub 3, blk_cell hub 4, blk_cell hub 5, blk_cell HX.out 0, blk_cell HX.out 1, blk_cell HX.out 2, blk_cell HX.out 3, blk_cell HX.out 4, blk_cell HX.out 5, blk_cell HX.out 6, blk_cell HX.out 7, q0⟩ (fun hs => ?_)
        have n_ := Aside0.mk (below_drew1 HB.out)
        clear HB
        have HB := n_
        clear n_
        have n_ := Aside0.mk (blk_drew HX.out)
        clear HX
        have HX := n_
        clear n_
        refine qP 0 17 ?_
        refine qT 1 18 hs ?_
        refine q1 2 19 (fun K hK => ?_)
        refine qC Tryz.func92 _ ?_
        refine (sName8 _ _ HM.out.1).mono ?_
        intro e w2 h2
        obtain ⟨rfl, hb⟩ := h2.yes K1.out
        have n_ := Aside0.mk (below_step HB.out hb)
        clear HB
        have HB := n_
        clear n_
        have n_ := Aside0.mk (blk_below HX.out hb)
        clear HX
        have HX := n_
        clear n_
        refine ⟨_, rfl, hK.out _ _ ⟨pw_cell_below hb hs.1, pw_cell_below hb hs.2.1, pw_cell_below hb hs.2.2.1, pw_cell_below hb hs.2.2.2.1, pw_cell_below hb hs.2.2.2.2.1, pw_cell_below hb hs.2.2.2.2.2.1, pw_cell_below hb hs.2.2.2.2.2.2.1, pw_cell_below hb hs.2.2.2.2.2.2.2.1, pw_cell_below hb hs.2.2.2.2.2.2.2.2.1, pw_cell_below hb hs.2.2.2.2.2.2.2.2.2.1, pw_cell_below hb hs.2.2.2.2.2.2.2.2.2.2.1, pw_cell_below hb hs.2.2.2.2.2.2.2.2.2.2.2.1, pw_cell_below hb hs.2.2.2.2.2.2.2.2.2.2.2.2.1, pw_cell_below hb hs.2.2.2.2.2.2.2.2.2.2.2.2.2.1, pw_cell_below hb hs.2.2.2.2.2.2.2.2.2.2.2.2.2.2⟩ (fun hs2 => ?_)⟩
        clear hK K hs hb
        have hs := hs2
        clear hs2
        refine qN ?_
        refine qP 3 20 ?_
        refine qP 4 21 ?_
        refine qP 5 22 ?_
        refine qT 6 23 hs ?_
        refine qP 7 24 ?_
        refine qP 8 25 ?_
        refine qP 9 26 ?_
        refine qP 10 27 ?_
        refine qP 11 28 ?_
        refine qT 12 29 hs ?_
        refine qP 13 30 ?_
        refine qP 14 31 ?_
        refine qP 15 32 ?_
        refine qP 16 33 ?_
        refine qP 18 35 ?_
        refine qT 17 34 hs ?_
        refine qT 19 36 hs ?_
        refine q1 20 37 (fun K hK => ?_)
        refine qC Tryz.func93 _ ?_
        refine (sRoleIx _ _ _ _ _ _ _ _ _ _ _ _ _ _ (Kd.C_below H0.out.1 HB.out) zl).mono ?_
        intro e w2 h2
        obtain ⟨r, rfl, hb, hr⟩ := h2
        have hr0 : 0 ≤ r := by
          rcases hr with ⟨h, hn⟩ | ⟨h0, _⟩
          · obtain ⟨x, hx, hp⟩ := K4.out
            exact absurd hp (hn x hx)
          · exact h0
        have hrk : decide (r < 0) = false := decide_eq_false (by omega)
        clear hr
        have n_ := Aside0.mk (below_step HB.out hb)
        clear HB
        have HB := n_
        clear n_
        have n_ := Aside0.mk (blk_below HX.out hb)
        clear HX
        have HX := n_
        clear n_
        refine ⟨_, rfl, hK.out _ _ ⟨pw_cell_below hb hs.1, pw_cell_below hb hs.2.1, pw_cell_below hb hs.2.2.1, pw_cell_below hb hs.2.2.2.1, pw_cell_below hb hs.2.2.2.2.1, pw_cell_below hb hs.2.2.2.2.2.1, pw_cell_below hb hs.2.2.2.2.2.2.1, pw_cell_below hb hs.2.2.2.2.2.2.2.1, pw_cell_below hb hs.2.2.2.2.2.2.2.2.1, pw_cell_below hb hs.2.2.2.2.2.2.2.2.2.1, pw_cell_below hb hs.2.2.2.2.2.2.2.2.2.2.1, pw_cell_below hb hs.2.2.2.2.2.2.2.2.2.2.2.1, pw_cell_below hb hs.2.2.2.2.2.2.2.2.2.2.2.2.1, pw_cell_below hb hs.2.2.2.2.2.2.2.2.2.2.2.2.2.1, pw_cell_below hb hs.2.2.2.2.2.2.2.2.2.2.2.2.2.2⟩ (fun hs2 => ?_)⟩
        clear hK K hs hb
        have hs := hs2
        clear hs2
        refine qN ?_
        refine qP 21 38 ?_
        refine qP 22 39 ?_
        refine qP 23 40 ?_
        refine qP 24 41 ?_
        refine qT 25 42 hs ?_
        refine q1 26 43 (fun K hK => ?_)
        refine qC Tryz.func35 _ ?_
        refine (sIn1 _ _ _ _).mono ?_
        intro e w2 h2
        obtain ⟨rfl, hb⟩ := h2.yes K5.out
        have n_ := Aside0.mk (below_step HB.out hb)
        clear HB
        have HB := n_
        clear n_
        have n_ := Aside0.mk (blk_below HX.out hb)
        clear HX
        have HX := n_
        clear n_
        refine ⟨_, rfl, hK.out _ _ ⟨pw_cell_below hb hs.1, pw_cell_below hb hs.2.1, pw_cell_below hb hs.2.2.1, pw_cell_below hb hs.2.2.2.1, pw_cell_below hb hs.2.2.2.2.1, pw_cell_below hb hs.2.2.2.2.2.1, pw_cell_below hb hs.2.2.2.2.2.2.1, pw_cell_below hb hs.2.2.2.2.2.2.2.1, pw_cell_below hb hs.2.2.2.2.2.2.2.2.1, pw_cell_below hb hs.2.2.2.2.2.2.2.2.2.1, pw_cell_below hb hs.2.2.2.2.2.2.2.2.2.2.1, pw_cell_below hb hs.2.2.2.2.2.2.2.2.2.2.2.1, pw_cell_below hb hs.2.2.2.2.2.2.2.2.2.2.2.2.1, pw_cell_below hb hs.2.2.2.2.2.2.2.2.2.2.2.2.2.1, pw_cell_below hb hs.2.2.2.2.2.2.2.2.2.2.2.2.2.2⟩ (fun hs2 => ?_)⟩
        clear hK K hs hb
        have hs := hs2
        clear hs2
        refine qN ?_
        refine qP 27 44 ?_
        refine qP 28 45 ?_
        refine qP 29 46 ?_
        refine qP 30 47 ?_
        refine qT 31 48 hs ?_
        refine q1 32 49 (fun K hK => ?_)
        refine qC Tryz.func35 _ ?_
        refine (sIn1 _ _ _ _).mono ?_
        intro e w2 h2
        obtain ⟨rfl, hb⟩ := h2.yes K6.out
        have n_ := Aside0.mk (below_step HB.out hb)
        clear HB
        have HB := n_
        clear n_
        have n_ := Aside0.mk (blk_below HX.out hb)
        clear HX
        have HX := n_
        clear n_
        refine ⟨_, rfl, hK.out _ _ ⟨pw_cell_below hb hs.1, pw_cell_below hb hs.2.1, pw_cell_below hb hs.2.2.1, pw_cell_below hb hs.2.2.2.1, pw_cell_below hb hs.2.2.2.2.1, pw_cell_below hb hs.2.2.2.2.2.1, pw_cell_below hb hs.2.2.2.2.2.2.1, pw_cell_below hb hs.2.2.2.2.2.2.2.1, pw_cell_below hb hs.2.2.2.2.2.2.2.2.1, pw_cell_below hb hs.2.2.2.2.2.2.2.2.2.1, pw_cell_below hb hs.2.2.2.2.2.2.2.2.2.2.1, pw_cell_below hb hs.2.2.2.2.2.2.2.2.2.2.2.1, pw_cell_below hb hs.2.2.2.2.2.2.2.2.2.2.2.2.1, pw_cell_below hb hs.2.2.2.2.2.2.2.2.2.2.2.2.2.1, pw_cell_below hb hs.2.2.2.2.2.2.2.2.2.2.2.2.2.2⟩ (fun hs2 => ?_)⟩
        clear hK K hs hb
        have hs := hs2
        clear hs2
        refine qN ?_
        refine qP 33 50 ?_
        refine qP 34 51 ?_
        refine qP 35 52 ?_
        refine qP 36 53 ?_
        refine qP 37 54 ?_
        refine qP 38 55 ?_
        refine qP 39 56 ?_
        refine qP 40 57 ?_
        refine qP 41 58 ?_
        refine qP 42 59 ?_
        refine qP 43 60 ?_
        refine qP 45 62 ?_
        refine qT 44 61 hs ?_
        refine qT 46 63 hs ?_
        refine qP 47 64 ?_
        refine qP 48 65 ?_
        refine qP 49 66 ?_
        refine qD ?_
        clear hs
        clear k8 q0 hwr h1m h2m
        go_wp2
        go_roundg (us.length - (i + 1)).toNat
        case measure => omega
        case rel => exact ⟨i + 1, rfl, by omega, by omega, by omega, HB, HX, ⟨fun j h0 h1 => by
          by_cases hj : j < i
          · exact HA.out j h0 hj
          · obtain rfl : j = i := by omega
            exact ⟨K1.out, (by show (rd_T92 us _).f1.size ≤ 40; omega), K3.out, K4.out, K5.out, K6.out⟩⟩, ⟨fun j h0 h1 => by
          by_cases hj : j < i
          · exact HS.out j h0 hj
          · obtain rfl : j = i := by omega
            exact fun _ => K8.out⟩⟩
      · as_aux_lemma =>
        refine qS (fun w' => w'.cell? ⟨wr.heap.size, 0, none⟩ = some (.string (rd_T92 us i).f0) ∧ w'.cell? ⟨wr.heap.size, 1, none⟩ = some (.string (rd_T92 us i).f1) ∧ w'.cell? ⟨wr.heap.size, 2, none⟩ = some (.string (rd_T92 us i).f2) ∧ w'.cell? ⟨wr.heap.size, 3, none⟩ = some (.string (rd_T92 us i).f3) ∧ w'.cell? ⟨wr.heap.size, 4, none⟩ = some (.int .i64 (rd_T92 us i).f4) ∧ w'.cell? ⟨wr.heap.size, 5, none⟩ = some (.int .i64 (rd_T92 us i).f5) ∧ w'.cell? ⟨w.heap.size, 0, none⟩ = some (.int .i64 ip) ∧ w'.cell? ⟨w.heap.size, 1, none⟩ = some (.int .i64 b) ∧ w'.cell? ⟨w.heap.size, 2, none⟩ = some (.int .i64 gate) ∧ w'.cell? ⟨w.heap.size, 3, none⟩ = some (.string gm) ∧ w'.cell? ⟨w.heap.size, 4, none⟩ = some (.string wm) ∧ w'.cell? ⟨w.heap.size, 5, none⟩ = some (.int .i64 res) ∧ w'.cell? ⟨w.heap.size, 6, none⟩ = some (.slice A6 g.length c6) ∧ w'.cell? ⟨w.heap.size, 7, none⟩ = some (.slice A7 l.length c7) ∧ w'.cell? (ad.add ((i.toNat - 1) * 6)) = some (.string (rd_T92 us (i - 1)).f0)) 50 ⟨blk_cell hub 0, blk_cell hub 1, blk_cell hub 2, blk_cell hub 3, blk_cell hub 4, blk_cell hub 5, blk_cell HX.out 0, blk_cell HX.out 1, blk_cell HX.out 2, blk_cell HX.out 3, blk_cell HX.out 4, blk_cell HX.out 5, blk_cell HX.out 6, blk_cell HX.out 7, q0⟩ (fun hs => ?_)
        have n_ := Aside0.mk (below_drew1 HB.out)
        clear HB
        have HB := n_
        clear n_
        have n_ := Aside0.mk (blk_drew HX.out)
        clear HX
        have HX := n_
        clear n_
        refine qP 0 17 ?_
        refine qT 1 18 hs ?_
        refine q1 2 19 (fun K hK => ?_)
        refine qC Tryz.func92 _ ?_
        refine (sName8 _ _ HM.out.1).mono ?_
        intro e w2 h2
        obtain ⟨rfl, hb⟩ := h2.yes K1.out
        have n_ := Aside0.mk (below_step HB.out hb)
        clear HB
        have HB := n_
        clear n_
        have n_ := Aside0.mk (blk_below HX.out hb)
        clear HX
        have HX := n_
        clear n_
        refine ⟨_, rfl, hK.out _ _ ⟨pw_cell_below hb hs.1, pw_cell_below hb hs.2.1, pw_cell_below hb hs.2.2.1, pw_cell_below hb hs.2.2.2.1, pw_cell_below hb hs.2.2.2.2.1, pw_cell_below hb hs.2.2.2.2.2.1, pw_cell_below hb hs.2.2.2.2.2.2.1, pw_cell_below hb hs.2.2.2.2.2.2.2.1, pw_cell_below hb hs.2.2.2.2.2.2.2.2.1, pw_cell_below hb hs.2.2.2.2.2.2.2.2.2.1, pw_cell_below hb hs.2.2.2.2.2.2.2.2.2.2.1, pw_cell_below hb hs.2.2.2.2.2.2.2.2.2.2.2.1, pw_cell_below hb hs.2.2.2.2.2.2.2.2.2.2.2.2.1, pw_cell_below hb hs.2.2.2.2.2.2.2.2.2.2.2.2.2.1, pw_cell_below hb hs.2.2.2.2.2.2.2.2.2.2.2.2.2.2⟩ (fun hs2 => ?_)⟩
        clear hK K hs hb
        have hs := hs2
        clear hs2
        refine qN ?_
        refine qP 3 20 ?_
        refine qP 4 21 ?_
        refine qP 5 22 ?_
        refine qT 6 23 hs ?_
        refine qP 7 24 ?_
        refine qP 8 25 ?_
        refine qP 9 26 ?_
        refine qP 10 27 ?_
        refine qP 11 28 ?_
        refine qT 12 29 hs ?_
        refine qP 13 30 ?_
        refine qP 14 31 ?_
        refine qP 15 32 ?_
        refine qP 16 33 ?_
        refine qP 18 35 ?_
        refine qT 17 34 hs ?_
        refine qT 19 36 hs ?_
        refine q1 20 37 (fun K hK => ?_)
        refine qC Tryz.func93 _ ?_
        refine (sRoleIx _ _ _ _ _ _ _ _ _ _ _ _ _ _ (Kd.C_below H0.out.1 HB.out) zl).mono ?_
        intro e w2 h2
        obtain ⟨r, rfl, hb, hr⟩ := h2
        have hr0 : 0 ≤ r := by
          rcases hr with ⟨h, hn⟩ | ⟨h0, _⟩
          · obtain ⟨x, hx, hp⟩ := K4.out
            exact absurd hp (hn x hx)
          · exact h0
        have hrk : decide (r < 0) = false := decide_eq_false (by omega)
        clear hr
        have n_ := Aside0.mk (below_step HB.out hb)
        clear HB
        have HB := n_
        clear n_
        have n_ := Aside0.mk (blk_below HX.out hb)
        clear HX
        have HX := n_
        clear n_
        refine ⟨_, rfl, hK.out _ _ ⟨pw_cell_below hb hs.1, pw_cell_below hb hs.2.1, pw_cell_below hb hs.2.2.1, pw_cell_below hb hs.2.2.2.1, pw_cell_below hb hs.2.2.2.2.1, pw_cell_below hb hs.2.2.2.2.2.1, pw_cell_below hb hs.2.2.2.2.2.2.1, pw_cell_below hb hs.2.2.2.2.2.2.2.1, pw_cell_below hb hs.2.2.2.2.2.2.2.2.1, pw_cell_below hb hs.2.2.2.2.2.2.2.2.2.1, pw_cell_below hb hs.2.2.2.2.2.2.2.2.2.2.1, pw_cell_below hb hs.2.2.2.2.2.2.2.2.2.2.2.1, pw_cell_below hb hs.2.2.2.2.2.2.2.2.2.2.2.2.1, pw_cell_below hb hs.2.2.2.2.2.2.2.2.2.2.2.2.2.1, pw_cell_below hb hs.2.2.2.2.2.2.2.2.2.2.2.2.2.2⟩ (fun hs2 => ?_)⟩
        clear hK K hs hb
        have hs := hs2
        clear hs2
        refine qN ?_
        refine qP 21 38 ?_
        refine qP 22 39 ?_
        refine qP 23 40 ?_
        refine qP 24 41 ?_
        refine qT 25 42 hs ?_
        refine q1 26 43 (fun K hK => ?_)
        refine qC Tryz.func35 _ ?_
        refine (sIn1 _ _ _ _).mono ?_
        intro e w2 h2
        obtain ⟨rfl, hb⟩ := h2.yes K5.out
        have n_ := Aside0.mk (below_step HB.out hb)
        clear HB
        have HB := n_
        clear n_
        have n_ := Aside0.mk (blk_below HX.out hb)
        clear HX
        have HX := n_
        clear n_
        refine ⟨_, rfl, hK.out _ _ ⟨pw_cell_below hb hs.1, pw_cell_below hb hs.2.1, pw_cell_below hb hs.2.2.1, pw_cell_below hb hs.2.2.2.1, pw_cell_below hb hs.2.2.2.2.1, pw_cell_below hb hs.2.2.2.2.2.1, pw_cell_below hb hs.2.2.2.2.2.2.1, pw_cell_below hb hs.2.2.2.2.2.2.2.1, pw_cell_below hb hs.2.2.2.2.2.2.2.2.1, pw_cell_below hb hs.2.2.2.2.2.2.2.2.2.1, pw_cell_below hb hs.2.2.2.2.2.2.2.2.2.2.1, pw_cell_below hb hs.2.2.2.2.2.2.2.2.2.2.2.1, pw_cell_below hb hs.2.2.2.2.2.2.2.2.2.2.2.2.1, pw_cell_below hb hs.2.2.2.2.2.2.2.2.2.2.2.2.2.1, pw_cell_below hb hs.2.2.2.2.2.2.2.2.2.2.2.2.2.2⟩ (fun hs2 => ?_)⟩
        clear hK K hs hb
        have hs := hs2
        clear hs2
        refine qN ?_
        refine qP 27 44 ?_
        refine qP 28 45 ?_
        refine qP 29 46 ?_
        refine qP 30 47 ?_
        refine qT 31 48 hs ?_
        refine q1 32 49 (fun K hK => ?_)
        refine qC Tryz.func35 _ ?_
        refine (sIn1 _ _ _ _).mono ?_
        intro e w2 h2
        obtain ⟨rfl, hb⟩ := h2.yes K6.out
        have n_ := Aside0.mk (below_step HB.out hb)
        clear HB
        have HB := n_
        clear n_
        have n_ := Aside0.mk (blk_below HX.out hb)
        clear HX
        have HX := n_
        clear n_
        refine ⟨_, rfl, hK.out _ _ ⟨pw_cell_below hb hs.1, pw_cell_below hb hs.2.1, pw_cell_below hb hs.2.2.1, pw_cell_below hb hs.2.2.2.1, pw_cell_below hb hs.2.2.2.2.1, pw_cell_below hb hs.2.2.2.2.2.1, pw_cell_below hb hs.2.2.2.2.2.2.1, pw_cell_below hb hs.2.2.2.2.2.2.2.1, pw_cell_below hb hs.2.2.2.2.2.2.2.2.1, pw_cell_below hb hs.2.2.2.2.2.2.2.2.2.1, pw_cell_below hb hs.2.2.2.2.2.2.2.2.2.2.1, pw_cell_below hb hs.2.2.2.2.2.2.2.2.2.2.2.1, pw_cell_below hb hs.2.2.2.2.2.2.2.2.2.2.2.2.1, pw_cell_below hb hs.2.2.2.2.2.2.2.2.2.2.2.2.2.1, pw_cell_below hb hs.2.2.2.2.2.2.2.2.2.2.2.2.2.2⟩ (fun hs2 => ?_)⟩
        clear hK K hs hb
        have hs := hs2
        clear hs2
        refine qN ?_
        refine qP 33 50 ?_
        refine qP 34 51 ?_
        refine qP 35 52 ?_
        refine qP 36 53 ?_
        refine qP 37 54 ?_
        refine qP 38 55 ?_
        refine qP 39 56 ?_
        refine qP 40 57 ?_
        refine qP 41 58 ?_
        refine qP 42 59 ?_
        refine qP 43 60 ?_
        refine qP 45 62 ?_
        refine qT 44 61 hs ?_
        refine qT 46 63 hs ?_
        refine qP 47 64 ?_
        refine qP 48 65 ?_
        refine qP 49 66 ?_
        refine qD ?_
        clear hs
        go_wp2
        go_ret
        exact .inr ⟨rfl, fun h => absurd (h.2.2 i hi0 hlt k7) (by rw [k8]; decide), HB.out⟩
    · obtain rfl : i = us.length := by omega
      rcases dec_em ((us.length : Int) ≤ 6) with ⟨k1, b1⟩ | ⟨k1, b1⟩
      · go_wp2
        go_ret
        exact .inl ⟨rfl, ⟨by omega, all_of rfl HA.out, HS.out⟩, HB.out⟩
      · go_wp2
        go_ret
        exact .inr ⟨rfl, fun h => by have := h.1; omega, HB.out⟩
end
end Go.Proofs.YtkklokkldgkacaaGreat.X
