/- Texts that the row of FnExactEndMoved stands on: functions of the program and of the reference, each as a Lean function with the same answers, and the plain lemmas. Conditions: none beside those that each theorem names. -/
import Derived.Test.YtkklokkldgkacaaGreatCFnExactEndMoved6
namespace Go.Proofs.YtkklokkldgkacaaGreat.X
open Go.RowKit Go.Proofs.YtkklokkldgkacaaGreatW.PrintWords Go.Proofs.YtkklokkldgkacaaGreatW.PrintLast Go.Proofs.YtkklokkldgkacaaGreatW.PrintMore
attribute [local go_sem] max2_int min2_int max_two min_two max_three min_three max_four min_four   -- for this text's walks alone
set_option linter.unusedVariables false
set_option linter.unusedSimpArgs false
section
-- NEEDS laws.eqConfig
attribute [local go_sem] str_geq str_lss
theorem C_take {α : Type} {d : Kd α} {w : World} {A : Option Addr} {xs : List α} (h : Kd.C d w A xs.length xs) (n : Nat) (hn : n ≤ xs.length) : Kd.C d w A (xs.take n).length (xs.take n) := by
  have e : (xs.take n).length = n := by rw [List.length_take]; omega
  refine ⟨rfl, by rw [e]; have := h.2.1; omega, fun hp => ?_⟩
  obtain ⟨ad, ea, hc⟩ := h.2.2 (by omega)
  refine ⟨ad, ea, fun j p hj => hc j p ?_⟩
  rw [List.getElem?_take] at hj
  split at hj
  · exact hj
  · cases hj
theorem containsTake (g : FuncId) (lb : Array Value) (eg : ∀ args w, (callFunc g args).run Tryz.prog w = .ok (.enter g args) w) (P : S76 → Prop) (A0 : Option Addr) (c0 : Nat) (l : List S76) (n : Nat) (w : World) (en : l.length = n) (zl : n ≤ 1152921504606846976)
    (hp : ∀ (W : World) (x : S76), x ∈ l → Below w.heap.size w W → Calls Tryz.prog g (#[.agg #[.int .i64 x.f0, .int .i64 x.f1, .string x.f2, .int .i64 x.f3, .int .i64 x.f4, .int .i64 x.f5, .int .i64 x.f6, .int .i64 x.f7, .int .i64 x.f8, .int .i64 x.f9]] ++ lb) W (IsB (P x) W)) (hr0 : Kd.C k76 w A0 l.length l) :
    Calls Tryz.prog 49 #[.slice A0 n c0, .func (.func g) #[] lb] w (IsB (∃ x ∈ l, P x) w) := by
  subst en
  exact containsSession g lb eg P A0 c0 l w zl hp hr0
set_option maxHeartbeats 8000000 in
set_option maxRecDepth 100000 in
theorem iGuests1 (ip b gate : Int) (gm wm : ByteArray) (res : Int) (A6 : Option Addr) (c6 : Nat) (g : List S140) (A7 : Option Addr) (c7 : Nat) (l : List S145) (B0 B1 B2 B3 : Option Addr) (d0 d1 d2 d3 : Nat) (us : List S92) (ss : List S76) (fs : List S81) (rs : List S83) (nx : Int) (w : World) (hg : Kd.C k140 w A6 g.length g) (hl : Kd.C k145 w A7 l.length l) (h0 : Kd.C k92 w B0 us.length us) (h1 : Kd.C k76 w B1 ss.length ss) (h2 : Kd.C k81 w B2 fs.length fs) (h3 : Kd.C k83 w B3 rs.length rs) (zg : g.length ≤ 1152921504606846976) (zl : l.length ≤ 1152921504606846976) (zr : ∀ x ∈ l, x.f1.length ≤ 1152921504606846976 ∧ x.f0.size ≤ 1152921504606846976) (zm : gm.size ≤ 1152921504606846976) (zw : wm.size ≤ 1152921504606846976) (y0 : us.length ≤ 1152921504606846976) (y1 : ss.length ≤ 1152921504606846976) (y2 : fs.length ≤ 1152921504606846976) (y3 : rs.length ≤ 1152921504606846976) (e1 : ss.length ≤ d1) (zu : ∀ u ∈ us, u.f0.size ≤ 1152921504606846976 ∧ u.f1.size ≤ 1152921504606846976 ∧ u.f2.size ≤ 1152921504606846976) (zs : ∀ s ∈ ss, s.f2.size ≤ 1152921504606846976) (zf : ∀ f ∈ fs, f.f0.size ≤ 1152921504606846976) :
    Calls Tryz.prog 12 #[.agg #[.int .i64 ip, .int .i64 b, .int .i64 gate, .string gm, .string wm, .int .i64 res, .slice A6 g.length c6, .slice A7 l.length c7], .agg #[.slice B0 us.length d0, .slice B1 ss.length d1, .slice B2 fs.length d2, .slice B3 rs.length d3, .int .i64 nx]] w (IsB (GuestsP ip b gate gm wm res g l us ss fs rs nx) w) := by
  have hu := Tryz.underlying41
  have hu2 := Tryz.underlying48
  have hu3 := Tryz.underlying92
  have H0 := Aside0.mk (And.intro hg (And.intro hl (And.intro h0 (And.intro h1 (And.intro h2 h3)))))
  have HZ := Aside0.mk (And.intro zr (And.intro zu (And.intro zs zf)))
  clear hg hl h0 h1 h2 h3 zr zu zs zf
  have HB := Aside0.mk (Below.refl w.heap.size w)
  have HP := Aside0.mk True.intro
  rcases dec_em (6 < (us.length : Int)) with ⟨k1, b1⟩ | ⟨k1, b1⟩
  rotate_left
  rcases dec_em (3 < (ss.length : Int)) with ⟨k2, b2⟩ | ⟨k2, b2⟩
  rotate_left
  rcases dec_em (20 < (fs.length : Int)) with ⟨k3, b3⟩ | ⟨k3, b3⟩
  rotate_left
  rcases dec_em (60 < (rs.length : Int)) with ⟨k4, b4⟩ | ⟨k4, b4⟩
  all_goals go_enter Tryz.func12, Tryz.ntmps12
  all_goals go_wp2_with (first
   | (go_at_call 46; refine (iConfig1 ip b gate gm wm res A6 c6 g A7 c7 l _ (Kd.C_below H0.out.1 (by repeat' (with_reducible first | exact HB.out | apply below_alloc | apply below_drew1 | refine below_set ?_ (by omega)))) (Kd.C_below H0.out.2.1 (by repeat' (with_reducible first | exact HB.out | apply below_alloc | apply below_drew1 | refine below_set ?_ (by omega)))) zg zl HZ.out.1 zm zw).mono ?_; rintro e w2 (⟨rfl, hr, hb⟩ | ⟨rfl, hr, hb⟩) <;> (have n_ := Aside0.mk (And.intro hr HP.out); clear HP hr; have HP := n_; clear n_; have n_ := Aside0.mk (below_step (w := w) (by repeat' (with_reducible first | exact HB.out | apply below_alloc | apply below_drew1 | refine below_set ?_ (by omega))) hb); clear HB; have HB := n_; clear n_; have n_ := Aside0.mk (blk_below (g := w.heap.size) (o := .cells #[.int .i64 ip, .int .i64 b, .int .i64 gate, .string gm, .string wm, .int .i64 res, .slice A6 g.length c6, .slice A7 l.length c7] 41 (0, 0)) (by repeat' (with_reducible first | exact HX.out | exact blk_new1 _ _ _ | exact blk_alloc (blk_new _ _) _ | refine blk_alloc ?_ _ | refine blk_drew ?_)) hb); (try clear HX); have HX := n_; clear n_; have n_ := Aside0.mk (blk_below (g := w.heap.size + 1) (o := .cells #[.slice B0 us.length d0, .slice B1 ss.length d1, .slice B2 fs.length d2, .slice B3 rs.length d3, .int .i64 nx] 48 (0, 0)) (by repeat' (with_reducible first | exact HG.out | exact blk_new1 _ _ _ | exact blk_alloc (blk_new _ _) _ | refine blk_alloc ?_ _ | refine blk_drew ?_)) hb); (try clear HG); have HG := n_; clear n_; obtain ⟨hc, hf⟩ := bcell hb; have hz : w.heap.size < w2.heap.size := blk_lt HX.out; have hz1 : w.heap.size + 1 < w2.heap.size := blk_lt HG.out; clear hb))
   | (go_at_call 47; refine (iIn1 _ _ _ _).mono ?_; rintro e w2 (⟨rfl, hr, hb⟩ | ⟨rfl, hr, hb⟩) <;> (have n_ := Aside0.mk (And.intro hr HP.out); clear HP hr; have HP := n_; clear n_; have n_ := Aside0.mk (below_step (w := w) (by repeat' (with_reducible first | exact HB.out | apply below_alloc | apply below_drew1 | refine below_set ?_ (by omega))) hb); clear HB; have HB := n_; clear n_; have n_ := Aside0.mk (blk_below (g := w.heap.size) (o := .cells #[.int .i64 ip, .int .i64 b, .int .i64 gate, .string gm, .string wm, .int .i64 res, .slice A6 g.length c6, .slice A7 l.length c7] 41 (0, 0)) (by repeat' (with_reducible first | exact HX.out | exact blk_new1 _ _ _ | exact blk_alloc (blk_new _ _) _ | refine blk_alloc ?_ _ | refine blk_drew ?_)) hb); (try clear HX); have HX := n_; clear n_; have n_ := Aside0.mk (blk_below (g := w.heap.size + 1) (o := .cells #[.slice B0 us.length d0, .slice B1 ss.length d1, .slice B2 fs.length d2, .slice B3 rs.length d3, .int .i64 nx] 48 (0, 0)) (by repeat' (with_reducible first | exact HG.out | exact blk_new1 _ _ _ | exact blk_alloc (blk_new _ _) _ | refine blk_alloc ?_ _ | refine blk_drew ?_)) hb); (try clear HG); have HG := n_; clear n_; obtain ⟨hc, hf⟩ := bcell hb; have hz : w.heap.size < w2.heap.size := blk_lt HX.out; have hz1 : w.heap.size + 1 < w2.heap.size := blk_lt HG.out; clear hb)))
  all_goals try (go_ret; exact .inr ⟨rfl, by rintro ⟨p1, p2, p3, p4, p5, p6, _⟩; have p2 := p2.1; first | exact HP.out.1 p1 | exact HP.out.1 p6 | omega, HB.out⟩; done)
  (try clear hc hf hz hz1)
  have HQ := HP
  clear HP
  go_loopg [48] us.length (fun gg v w' => ∃ i : Int, v = .int .i64 i ∧ 0 ≤ i ∧ i ≤ us.length ∧ us.length - i ≤ gg ∧ Aside0 (Below w.heap.size w w') ∧ Aside0 (w'.heap[w.heap.size]? = some (.cells #[.int .i64 ip, .int .i64 b, .int .i64 gate, .string gm, .string wm, .int .i64 res, .slice A6 g.length c6, .slice A7 l.length c7] 41 (0, 0))) ∧ Aside0 (w'.heap[w.heap.size + 1]? = some (.cells #[.slice B0 us.length d0, .slice B1 ss.length d1, .slice B2 fs.length d2, .slice B3 rs.length d3, .int .i64 nx] 48 (0, 0))) ∧ Aside0 (∀ j : Int, 0 ≤ j → j < i → UserP l (us.getD j.toNat z92)) ∧ Aside0 (∀ j : Int, 0 ≤ j → j < i → UpP us j))
  case atStart => exact ⟨0, rfl, Int.le_refl _, by omega, by omega, HB, HX, HG, ⟨fun j h0 h1 => by omega⟩, ⟨fun j h0 h1 => by omega⟩⟩
  case round =>
    clear HB HX HG
    obtain ⟨i, rfl, hi0, hi, hgg, HB, HX, HG, HA, HS⟩ := hrel
    by_cases hlt : i < us.length
    · obtain ⟨ad, eA, hrow⟩ := at_T92 (Kd.C_below H0.out.2.2.1 HB.out) i hi0 hlt
      have HM := Aside0.mk (HZ.out.2.1 _ (rdmem (z := z92) hi0 hlt))
      subst eA
      go_wp2
      generalize hW : wr.alloc (.cells #[.string (rd_T92 us i).f0, .string (rd_T92 us i).f1, .string (rd_T92 us i).f2, .string (rd_T92 us i).f3, .int .i64 (rd_T92 us i).f4, .int .i64 (rd_T92 us i).f5] 92 (0, 0)) = W0 at *
      have hB0 : Below wr.heap.size wr W0 := by rw [← hW]; exact below_alloc (Below.refl _ _) _
      have hub : W0.heap[wr.heap.size]? = some (.cells #[.string (rd_T92 us i).f0, .string (rd_T92 us i).f1, .string (rd_T92 us i).f2, .string (rd_T92 us i).f3, .int .i64 (rd_T92 us i).f4, .int .i64 (rd_T92 us i).f5] 92 (0, 0)) := by rw [← hW]; exact blk_new _ _
      have n_ := And.intro (Aside0.mk (below_step HB.out hB0)) (And.intro (Aside0.mk (blk_below HX.out hB0)) (Aside0.mk (blk_below HG.out hB0)))
      clear HB HX HG
      obtain ⟨HB, HX, HG⟩ := n_
      clear hB0 hW hrow
      rcases Classical.em (UserP l (rd_T92 us i)) with k1 | k1 <;> (have K1 := Aside0.mk k1; clear k1)
      rotate_left
      · as_aux_lemma =>
        refine qS (fun w' => w'.cell? ⟨wr.heap.size, 0, none⟩ = some (.string (rd_T92 us i).f0) ∧ w'.cell? ⟨wr.heap.size, 1, none⟩ = some (.string (rd_T92 us i).f1) ∧ w'.cell? ⟨wr.heap.size, 2, none⟩ = some (.string (rd_T92 us i).f2) ∧ w'.cell? ⟨wr.heap.size, 3, none⟩ = some (.string (rd_T92 us i).f3) ∧ w'.cell? ⟨wr.heap.size, 4, none⟩ = some (.int .i64 (rd_T92 us i).f4) ∧ w'.cell? ⟨wr.heap.size, 5, none⟩ = some (.int .i64 (rd_T92 us i).f5) ∧ w'.cell? ⟨w.heap.size + 1, 0, none⟩ = some (.slice (some ad) us.length d0)) 19 ⟨blk_cell hub 0, blk_cell hub 1, blk_cell hub 2, blk_cell hub 3, blk_cell hub 4, blk_cell hub 5, blk_cell HG.out 0⟩ (fun hs => ?_)
        have n_ := Aside0.mk (below_drew1 HB.out)
        clear HB
        have HB := n_
        clear n_
        have n_ := Aside0.mk (blk_drew HX.out)
        clear HX
        have HX := n_
        clear n_
        have n_ := Aside0.mk (blk_drew HG.out)
        clear HG
        have HG := n_
        clear n_
        refine qT 0 53 hs ?_
        refine q1 1 54 (fun K hK => ?_)
        refine qC Tryz.func48 _ ?_
        refine (iUser1 ip b gate gm wm res A6 c6 g A7 c7 l w.heap.size (rd_T92 us i) _ HX.out (Kd.C_below H0.out.2.1 HB.out) zl HM.out.1 HM.out.2.1 HM.out.2.2).mono ?_
        intro e w2 h2
        obtain ⟨rfl, hb⟩ := h2.no K1.out
        have n_ := Aside0.mk (below_step HB.out hb)
        clear HB
        have HB := n_
        clear n_
        have n_ := Aside0.mk (blk_below HX.out hb)
        clear HX
        have HX := n_
        clear n_
        have n_ := Aside0.mk (blk_below HG.out hb)
        clear HG
        have HG := n_
        clear n_
        refine ⟨_, rfl, hK.out _ _ ⟨pw_cell_below hb hs.1, pw_cell_below hb hs.2.1, pw_cell_below hb hs.2.2.1, pw_cell_below hb hs.2.2.2.1, pw_cell_below hb hs.2.2.2.2.1, pw_cell_below hb hs.2.2.2.2.2.1, pw_cell_below hb hs.2.2.2.2.2.2⟩ (fun hs2 => ?_)⟩
        clear hK K hs hb
        have hs := hs2
        clear hs2
        refine qN ?_
        refine qP 2 55 ?_
        refine qP 3 56 ?_
        refine qU 4 57 ?_
        refine qU 5 58 ?_
        refine qU 6 59 ?_
        refine qU 7 60 ?_
        refine qU 8 61 ?_
        refine qU 9 62 ?_
        refine qU 10 63 ?_
        refine qU 11 64 ?_
        refine qU 12 65 ?_
        refine qU 13 66 ?_
        refine qU 14 67 ?_
        refine qU 15 68 ?_
        refine qU 16 69 ?_
        refine qU 17 70 ?_
        refine qP 18 71 ?_
        refine qD ?_
        clear hs
        go_wp2
        go_ret
        exact .inr ⟨rfl, fun h => K1.out (h.2.1.2.1 _ (rdmem (z := z92) hi0 hlt)), HB.out⟩
      rcases dec_em (0 < i) with ⟨k7, b7⟩ | ⟨k7, b7⟩
      rotate_left
      · as_aux_lemma =>
        refine qS (fun w' => w'.cell? ⟨wr.heap.size, 0, none⟩ = some (.string (rd_T92 us i).f0) ∧ w'.cell? ⟨wr.heap.size, 1, none⟩ = some (.string (rd_T92 us i).f1) ∧ w'.cell? ⟨wr.heap.size, 2, none⟩ = some (.string (rd_T92 us i).f2) ∧ w'.cell? ⟨wr.heap.size, 3, none⟩ = some (.string (rd_T92 us i).f3) ∧ w'.cell? ⟨wr.heap.size, 4, none⟩ = some (.int .i64 (rd_T92 us i).f4) ∧ w'.cell? ⟨wr.heap.size, 5, none⟩ = some (.int .i64 (rd_T92 us i).f5) ∧ w'.cell? ⟨w.heap.size + 1, 0, none⟩ = some (.slice (some ad) us.length d0)) 19 ⟨blk_cell hub 0, blk_cell hub 1, blk_cell hub 2, blk_cell hub 3, blk_cell hub 4, blk_cell hub 5, blk_cell HG.out 0⟩ (fun hs => ?_)
        have n_ := Aside0.mk (below_drew1 HB.out)
        clear HB
        have HB := n_
        clear n_
        have n_ := Aside0.mk (blk_drew HX.out)
        clear HX
        have HX := n_
        clear n_
        have n_ := Aside0.mk (blk_drew HG.out)
        clear HG
        have HG := n_
        clear n_
        refine qT 0 53 hs ?_
        refine q1 1 54 (fun K hK => ?_)
        refine qC Tryz.func48 _ ?_
        refine (iUser1 ip b gate gm wm res A6 c6 g A7 c7 l w.heap.size (rd_T92 us i) _ HX.out (Kd.C_below H0.out.2.1 HB.out) zl HM.out.1 HM.out.2.1 HM.out.2.2).mono ?_
        intro e w2 h2
        obtain ⟨rfl, hb⟩ := h2.yes K1.out
        have n_ := Aside0.mk (below_step HB.out hb)
        clear HB
        have HB := n_
        clear n_
        have n_ := Aside0.mk (blk_below HX.out hb)
        clear HX
        have HX := n_
        clear n_
        have n_ := Aside0.mk (blk_below HG.out hb)
        clear HG
        have HG := n_
        clear n_
        refine ⟨_, rfl, hK.out _ _ ⟨pw_cell_below hb hs.1, pw_cell_below hb hs.2.1, pw_cell_below hb hs.2.2.1, pw_cell_below hb hs.2.2.2.1, pw_cell_below hb hs.2.2.2.2.1, pw_cell_below hb hs.2.2.2.2.2.1, pw_cell_below hb hs.2.2.2.2.2.2⟩ (fun hs2 => ?_)⟩
        clear hK K hs hb
        have hs := hs2
        clear hs2
        refine qN ?_
        refine qP 2 55 ?_
        refine qP 3 56 ?_
        refine qP 4 57 ?_
        refine qP 5 58 ?_
        refine qP 6 59 ?_
        refine qU 7 60 ?_
        refine qU 8 61 ?_
        refine qU 9 62 ?_
        refine qU 10 63 ?_
        refine qU 11 64 ?_
        refine qU 12 65 ?_
        refine qU 13 66 ?_
        refine qU 14 67 ?_
        refine qU 15 68 ?_
        refine qU 16 69 ?_
        refine qP 17 70 ?_
        refine qP 18 71 ?_
        refine qD ?_
        clear hs
        go_wp2
        go_roundg (us.length - (i + 1)).toNat
        case measure => omega
        case rel => exact ⟨i + 1, rfl, by omega, by omega, by omega, HB, HX, HG, ⟨fun j h0 h1 => by
          by_cases hj : j < i
          · exact HA.out j h0 hj
          · obtain rfl : j = i := by omega
            exact K1.out⟩, ⟨fun j h0 h1 => by
          by_cases hj : j < i
          · exact HS.out j h0 hj
          · intro h2; omega⟩⟩
      obtain ⟨pd, eP, q0, _⟩ := at_T92 (Kd.C_below H0.out.2.2.1 HB.out) (i - 1) (by omega) (by omega)
      obtain rfl : ad = pd := Option.some.inj eP
      have hwr : IntKind.i64.wrap (i - 1) = i - 1 := i64id (by omega) (by omega)
      have h1m : 1 ≤ i := by omega
      have h2m : i - 1 < (us.length : Int) := by omega
      rw [show (i - 1).toNat = i.toNat - 1 by omega] at q0
      clear eP
      rcases bool_em (Op.bytesLess (rd_T92 us (i - 1)).f0.toList (rd_T92 us i).f0.toList) with k8 | k8
      · as_aux_lemma =>
        have K8 := Aside0.mk k8
        refine qS (fun w' => w'.cell? ⟨wr.heap.size, 0, none⟩ = some (.string (rd_T92 us i).f0) ∧ w'.cell? ⟨wr.heap.size, 1, none⟩ = some (.string (rd_T92 us i).f1) ∧ w'.cell? ⟨wr.heap.size, 2, none⟩ = some (.string (rd_T92 us i).f2) ∧ w'.cell? ⟨wr.heap.size, 3, none⟩ = some (.string (rd_T92 us i).f3) ∧ w'.cell? ⟨wr.heap.size, 4, none⟩ = some (.int .i64 (rd_T92 us i).f4) ∧ w'.cell? ⟨wr.heap.size, 5, none⟩ = some (.int .i64 (rd_T92 us i).f5) ∧ w'.cell? ⟨w.heap.size + 1, 0, none⟩ = some (.slice (some ad) us.length d0) ∧ w'.cell? (ad.add ((i.toNat - 1) * 6)) = some (.string (rd_T92 us (i - 1)).f0)) 19 ⟨blk_cell hub 0, blk_cell hub 1, blk_cell hub 2, blk_cell hub 3, blk_cell hub 4, blk_cell hub 5, blk_cell HG.out 0, q0⟩ (fun hs => ?_)
        have n_ := Aside0.mk (below_drew1 HB.out)
        clear HB
        have HB := n_
        clear n_
        have n_ := Aside0.mk (blk_drew HX.out)
        clear HX
        have HX := n_
        clear n_
        have n_ := Aside0.mk (blk_drew HG.out)
        clear HG
        have HG := n_
        clear n_
        refine qT 0 53 hs ?_
        refine q1 1 54 (fun K hK => ?_)
        refine qC Tryz.func48 _ ?_
        refine (iUser1 ip b gate gm wm res A6 c6 g A7 c7 l w.heap.size (rd_T92 us i) _ HX.out (Kd.C_below H0.out.2.1 HB.out) zl HM.out.1 HM.out.2.1 HM.out.2.2).mono ?_
        intro e w2 h2
        obtain ⟨rfl, hb⟩ := h2.yes K1.out
        have n_ := Aside0.mk (below_step HB.out hb)
        clear HB
        have HB := n_
        clear n_
        have n_ := Aside0.mk (blk_below HX.out hb)
        clear HX
        have HX := n_
        clear n_
        have n_ := Aside0.mk (blk_below HG.out hb)
        clear HG
        have HG := n_
        clear n_
        refine ⟨_, rfl, hK.out _ _ ⟨pw_cell_below hb hs.1, pw_cell_below hb hs.2.1, pw_cell_below hb hs.2.2.1, pw_cell_below hb hs.2.2.2.1, pw_cell_below hb hs.2.2.2.2.1, pw_cell_below hb hs.2.2.2.2.2.1, pw_cell_below hb hs.2.2.2.2.2.2.1, pw_cell_below hb hs.2.2.2.2.2.2.2⟩ (fun hs2 => ?_)⟩
        clear hK K hs hb
        have hs := hs2
        clear hs2
        refine qN ?_
        refine qP 2 55 ?_
        refine qP 3 56 ?_
        refine qP 4 57 ?_
        refine qP 5 58 ?_
        refine qP 6 59 ?_
        refine qP 7 60 ?_
        refine qP 9 62 ?_
        refine qP 10 63 ?_
        refine qP 14 67 ?_
        refine qT 8 61 hs ?_
        refine qP 11 64 ?_
        refine qP 12 65 ?_
        refine qT 13 66 hs ?_
        refine qT 15 68 hs ?_
        refine qP 16 69 ?_
        refine qP 17 70 ?_
        refine qP 18 71 ?_
        refine qD ?_
        clear hs
        clear k8 q0 hwr h1m h2m
        go_wp2
        go_roundg (us.length - (i + 1)).toNat
        case measure => omega
        case rel => exact ⟨i + 1, rfl, by omega, by omega, by omega, HB, HX, HG, ⟨fun j h0 h1 => by
          by_cases hj : j < i
          · exact HA.out j h0 hj
          · obtain rfl : j = i := by omega
            exact K1.out⟩, ⟨fun j h0 h1 => by
          by_cases hj : j < i
          · exact HS.out j h0 hj
          · obtain rfl : j = i := by omega
            exact fun _ => K8.out⟩⟩
      · refine qS (fun w' => w'.cell? ⟨wr.heap.size, 0, none⟩ = some (.string (rd_T92 us i).f0) ∧ w'.cell? ⟨wr.heap.size, 1, none⟩ = some (.string (rd_T92 us i).f1) ∧ w'.cell? ⟨wr.heap.size, 2, none⟩ = some (.string (rd_T92 us i).f2) ∧ w'.cell? ⟨wr.heap.size, 3, none⟩ = some (.string (rd_T92 us i).f3) ∧ w'.cell? ⟨wr.heap.size, 4, none⟩ = some (.int .i64 (rd_T92 us i).f4) ∧ w'.cell? ⟨wr.heap.size, 5, none⟩ = some (.int .i64 (rd_T92 us i).f5) ∧ w'.cell? ⟨w.heap.size + 1, 0, none⟩ = some (.slice (some ad) us.length d0) ∧ w'.cell? (ad.add ((i.toNat - 1) * 6)) = some (.string (rd_T92 us (i - 1)).f0)) 19 ⟨blk_cell hub 0, blk_cell hub 1, blk_cell hub 2, blk_cell hub 3, blk_cell hub 4, blk_cell hub 5, blk_cell HG.out 0, q0⟩ (fun hs => ?_)
        have n_ := Aside0.mk (below_drew1 HB.out)
        clear HB
        have HB := n_
        clear n_
        have n_ := Aside0.mk (blk_drew HX.out)
        clear HX
        have HX := n_
        clear n_
        have n_ := Aside0.mk (blk_drew HG.out)
        clear HG
        have HG := n_
        clear n_
        refine qT 0 53 hs ?_
        refine q1 1 54 (fun K hK => ?_)
        refine qC Tryz.func48 _ ?_
        refine (iUser1 ip b gate gm wm res A6 c6 g A7 c7 l w.heap.size (rd_T92 us i) _ HX.out (Kd.C_below H0.out.2.1 HB.out) zl HM.out.1 HM.out.2.1 HM.out.2.2).mono ?_
        intro e w2 h2
        obtain ⟨rfl, hb⟩ := h2.yes K1.out
        have n_ := Aside0.mk (below_step HB.out hb)
        clear HB
        have HB := n_
        clear n_
        have n_ := Aside0.mk (blk_below HX.out hb)
        clear HX
        have HX := n_
        clear n_
        have n_ := Aside0.mk (blk_below HG.out hb)
        clear HG
        have HG := n_
        clear n_
        refine ⟨_, rfl, hK.out _ _ ⟨pw_cell_below hb hs.1, pw_cell_below hb hs.2.1, pw_cell_below hb hs.2.2.1, pw_cell_below hb hs.2.2.2.1, pw_cell_below hb hs.2.2.2.2.1, pw_cell_below hb hs.2.2.2.2.2.1, pw_cell_below hb hs.2.2.2.2.2.2.1, pw_cell_below hb hs.2.2.2.2.2.2.2⟩ (fun hs2 => ?_)⟩
        clear hK K hs hb
        have hs := hs2
        clear hs2
        refine qN ?_
        refine qP 2 55 ?_
        refine qP 3 56 ?_
        refine qP 4 57 ?_
        refine qP 5 58 ?_
        refine qP 6 59 ?_
        refine qP 7 60 ?_
        refine qP 9 62 ?_
        refine qP 10 63 ?_
        refine qP 14 67 ?_
        refine qT 8 61 hs ?_
        refine qP 11 64 ?_
        refine qP 12 65 ?_
        refine qT 13 66 hs ?_
        refine qT 15 68 hs ?_
        refine qP 16 69 ?_
        refine qP 17 70 ?_
        refine qP 18 71 ?_
        refine qD ?_
        clear hs
        go_wp2
        go_ret
        exact .inr ⟨rfl, fun h => absurd (h.2.1.2.2 i hi0 hlt k7) (by rw [k8]; decide), HB.out⟩
    · obtain rfl : i = us.length := by omega
      have HU := Aside0.mk (show UsersP l us from ⟨by omega, all_of rfl HA.out, HS.out⟩)
      clear HA HS hi0 hi hgg hlt
      have hx := blk_cell HG.out
      have hzr := blk_lt HG.out
      go_wp2
      clear hx hzr
      go_loopg [76] ss.length (fun gg v w' => ∃ i : Int, v = .int .i64 i ∧ 0 ≤ i ∧ i ≤ ss.length ∧ ss.length - i ≤ gg ∧ Aside0 (Below w.heap.size w w') ∧ Aside0 (w'.heap[w.heap.size]? = some (.cells #[.int .i64 ip, .int .i64 b, .int .i64 gate, .string gm, .string wm, .int .i64 res, .slice A6 g.length c6, .slice A7 l.length c7] 41 (0, 0))) ∧ Aside0 (w'.heap[w.heap.size + 1]? = some (.cells #[.slice B0 us.length d0, .slice B1 ss.length d1, .slice B2 fs.length d2, .slice B3 rs.length d3, .int .i64 nx] 48 (0, 0))) ∧ Aside0 (∀ j : Int, 0 ≤ j → j < i → SessionP ip b nx us.length (ss.getD j.toNat z76)) ∧ Aside0 (∀ j : Int, 0 ≤ j → j < i → SessUpP ss j ∧ ApartP ss j))
      case atStart => exact ⟨0, rfl, Int.le_refl _, by omega, by omega, HB, HX, HG, ⟨fun j h0 h1 => by omega⟩, ⟨fun j h0 h1 => by omega⟩⟩
      case round =>
        clear HB HX HG
        obtain ⟨i, rfl, hi0, hi, hgg, HB, HX, HG, HA, HS⟩ := hrel
        by_cases hlt : i < ss.length
        · obtain ⟨ad, eA, hrow⟩ := at_T76 (Kd.C_below H0.out.2.2.2.1 HB.out) i hi0 hlt
          have HM := Aside0.mk (HZ.out.2.2.1 _ (rdmem (z := z76) hi0 hlt))
          subst eA
          have hx := blk_cell HG.out
          have hzr := blk_lt HG.out
          have HP := Aside0.mk True.intro
          have el : (ss.take i.toNat).length = i.toNat := by rw [List.length_take]; omega
          go_wp2_with (first
            | (go_at_call 49; go_loud (refine (containsTake 50 #[.pointer (some ⟨wr.heap.size, 0, none⟩)] (enters_ Tryz.func50 (by kernel_rfl) rfl) (ClashP (rd_T76 ss i)) (some ad) d1 (ss.take i.toNat) i.toNat _ el (by omega) (fun W x hx hb => iClash1 (rd_T76 ss i) x wr.heap.size W (blk_below (blk_new _ _) hb)) (C_take (Kd.C_below H0.out.2.2.2.1 (by repeat' (with_reducible first | exact HB.out | apply below_alloc | apply below_drew1 | refine below_set ?_ (by omega)))) _ (by omega))).mono ?_; rintro e w2 (⟨rfl, hr, hb⟩ | ⟨rfl, hr, hb⟩) <;> (have n_ := Aside0.mk (And.intro hr HP.out); clear HP hr; have HP := n_; clear n_; have n_ := Aside0.mk (below_step (w := w) (by repeat' (with_reducible first | exact HB.out | apply below_alloc | apply below_drew1 | refine below_set ?_ (by omega))) hb); clear HB; have HB := n_; clear n_; have n_ := Aside0.mk (blk_below (g := w.heap.size) (o := .cells #[.int .i64 ip, .int .i64 b, .int .i64 gate, .string gm, .string wm, .int .i64 res, .slice A6 g.length c6, .slice A7 l.length c7] 41 (0, 0)) (by repeat' (with_reducible first | exact HX.out | exact blk_new1 _ _ _ | exact blk_alloc (blk_new _ _) _ | refine blk_alloc ?_ _ | refine blk_drew ?_)) hb); (try clear HX); have HX := n_; clear n_; have n_ := Aside0.mk (blk_below (g := w.heap.size + 1) (o := .cells #[.slice B0 us.length d0, .slice (some ad) ss.length d1, .slice B2 fs.length d2, .slice B3 rs.length d3, .int .i64 nx] 48 (0, 0)) (by repeat' (with_reducible first | exact HG.out | exact blk_new1 _ _ _ | exact blk_alloc (blk_new _ _) _ | refine blk_alloc ?_ _ | refine blk_drew ?_)) hb); (try clear HG); have HG := n_; clear n_; obtain ⟨hc, hf⟩ := bcell hb; have hz : w.heap.size < w2.heap.size := blk_lt HX.out; have hz1 : w.heap.size + 1 < w2.heap.size := blk_lt HG.out; have HU := Aside0.mk (blk_below (blk_new wr (.cells #[.int .i64 (rd_T76 ss i).f0, .int .i64 (rd_T76 ss i).f1, .string (rd_T76 ss i).f2, .int .i64 (rd_T76 ss i).f3, .int .i64 (rd_T76 ss i).f4, .int .i64 (rd_T76 ss i).f5, .int .i64 (rd_T76 ss i).f6, .int .i64 (rd_T76 ss i).f7, .int .i64 (rd_T76 ss i).f8, .int .i64 (rd_T76 ss i).f9] 76 (0, 0))) hb); clear hb))))
          all_goals (try clear hx hzr el)
          all_goals clear hc hf hz hz1
          all_goals (obtain ⟨n0, n1⟩ := HQ.out.1; obtain ⟨kb0, kb1⟩ := netbits HQ.out.2.1.1)
          · -- a clash
            rcases Classical.em (SessionP ip b nx us.length (rd_T76 ss i)) with k1 | k1 <;> (have K1 := Aside0.mk k1; clear k1)
            · as_aux_lemma =>
              refine qS (fun w' => w'.cell? ⟨wr.heap.size, 0, none⟩ = some (.int .i64 (rd_T76 ss i).f0) ∧ w'.cell? ⟨wr.heap.size, 1, none⟩ = some (.int .i64 (rd_T76 ss i).f1) ∧ w'.cell? ⟨wr.heap.size, 2, none⟩ = some (.string (rd_T76 ss i).f2) ∧ w'.cell? ⟨wr.heap.size, 3, none⟩ = some (.int .i64 (rd_T76 ss i).f3) ∧ w'.cell? ⟨wr.heap.size, 4, none⟩ = some (.int .i64 (rd_T76 ss i).f4) ∧ w'.cell? ⟨wr.heap.size, 5, none⟩ = some (.int .i64 (rd_T76 ss i).f5) ∧ w'.cell? ⟨wr.heap.size, 6, none⟩ = some (.int .i64 (rd_T76 ss i).f6) ∧ w'.cell? ⟨wr.heap.size, 7, none⟩ = some (.int .i64 (rd_T76 ss i).f7) ∧ w'.cell? ⟨wr.heap.size, 8, none⟩ = some (.int .i64 (rd_T76 ss i).f8) ∧ w'.cell? ⟨wr.heap.size, 9, none⟩ = some (.int .i64 (rd_T76 ss i).f9) ∧ w'.cell? ⟨w.heap.size + 1, 1, none⟩ = some (.slice (some ad) ss.length d1)) 22 ⟨blk_cell HU.out 0, blk_cell HU.out 1, blk_cell HU.out 2, blk_cell HU.out 3, blk_cell HU.out 4, blk_cell HU.out 5, blk_cell HU.out 6, blk_cell HU.out 7, blk_cell HU.out 8, blk_cell HU.out 9, blk_cell HG.out 1⟩ (fun hs => ?_)
              have n_ := Aside0.mk (below_drew1 HB.out)
              clear HB
              have HB := n_
              clear n_
              have n_ := Aside0.mk (blk_drew HX.out)
              clear HX
              have HX := n_
              clear n_
              have n_ := Aside0.mk (blk_drew HG.out)
              clear HG
              have HG := n_
              clear n_
              have n_ := Aside0.mk (blk_drew HU.out)
              clear HU
              have HU := n_
              clear n_
              refine qT 0 87 hs ?_
              refine q1 1 88 (fun K hK => ?_)
              refine qC Tryz.func51 _ ?_
              refine (iSession1 ip b gate gm wm res A6 c6 g A7 c7 l B0 (some ad) B2 B3 d0 d1 d2 d3 us ss fs rs nx w.heap.size (w.heap.size + 1) (rd_T76 ss i) _ HX.out HG.out n0 n1 y0 kb0 kb1 HM.out).mono ?_
              intro e w2 h2
              obtain ⟨rfl, hb⟩ := h2.yes K1.out
              have n_ := Aside0.mk (below_step HB.out hb)
              clear HB
              have HB := n_
              clear n_
              have n_ := Aside0.mk (blk_below HX.out hb)
              clear HX
              have HX := n_
              clear n_
              have n_ := Aside0.mk (blk_below HG.out hb)
              clear HG
              have HG := n_
              clear n_
              have n_ := Aside0.mk (blk_below HU.out hb)
              clear HU
              have HU := n_
              clear n_
              refine ⟨_, rfl, hK.out _ _ ⟨pw_cell_below hb hs.1, pw_cell_below hb hs.2.1, pw_cell_below hb hs.2.2.1, pw_cell_below hb hs.2.2.2.1, pw_cell_below hb hs.2.2.2.2.1, pw_cell_below hb hs.2.2.2.2.2.1, pw_cell_below hb hs.2.2.2.2.2.2.1, pw_cell_below hb hs.2.2.2.2.2.2.2.1, pw_cell_below hb hs.2.2.2.2.2.2.2.2.1, pw_cell_below hb hs.2.2.2.2.2.2.2.2.2.1, pw_cell_below hb hs.2.2.2.2.2.2.2.2.2.2⟩ (fun hs2 => ?_)⟩
              clear hK K hs hb
              have hs := hs2
              clear hs2
              refine qN ?_
              refine qP 2 89 ?_
              refine qP 3 90 ?_
              refine qP 4 91 ?_
              refine qP 5 92 ?_
              refine qP 6 93 ?_
              refine qU 7 94 ?_
              refine qU 8 95 ?_
              refine qU 9 96 ?_
              refine qU 10 97 ?_
              refine qU 11 98 ?_
              refine qU 12 99 ?_
              refine qU 13 100 ?_
              refine qU 14 101 ?_
              refine qU 15 102 ?_
              refine qU 16 103 ?_
              refine qU 17 104 ?_
              refine qU 18 105 ?_
              refine qU 19 106 ?_
              refine qU 20 107 ?_
              refine qP 21 108 ?_
              refine qD ?_
              clear hs
              go_wp2
              go_ret
              exact .inr ⟨rfl, fun h => (h.2.2.2.2.2.2.2.1 i hi0 hlt).2 HP.out.1, HB.out⟩
            · refine qS (fun w' => w'.cell? ⟨wr.heap.size, 0, none⟩ = some (.int .i64 (rd_T76 ss i).f0) ∧ w'.cell? ⟨wr.heap.size, 1, none⟩ = some (.int .i64 (rd_T76 ss i).f1) ∧ w'.cell? ⟨wr.heap.size, 2, none⟩ = some (.string (rd_T76 ss i).f2) ∧ w'.cell? ⟨wr.heap.size, 3, none⟩ = some (.int .i64 (rd_T76 ss i).f3) ∧ w'.cell? ⟨wr.heap.size, 4, none⟩ = some (.int .i64 (rd_T76 ss i).f4) ∧ w'.cell? ⟨wr.heap.size, 5, none⟩ = some (.int .i64 (rd_T76 ss i).f5) ∧ w'.cell? ⟨wr.heap.size, 6, none⟩ = some (.int .i64 (rd_T76 ss i).f6) ∧ w'.cell? ⟨wr.heap.size, 7, none⟩ = some (.int .i64 (rd_T76 ss i).f7) ∧ w'.cell? ⟨wr.heap.size, 8, none⟩ = some (.int .i64 (rd_T76 ss i).f8) ∧ w'.cell? ⟨wr.heap.size, 9, none⟩ = some (.int .i64 (rd_T76 ss i).f9) ∧ w'.cell? ⟨w.heap.size + 1, 1, none⟩ = some (.slice (some ad) ss.length d1)) 22 ⟨blk_cell HU.out 0, blk_cell HU.out 1, blk_cell HU.out 2, blk_cell HU.out 3, blk_cell HU.out 4, blk_cell HU.out 5, blk_cell HU.out 6, blk_cell HU.out 7, blk_cell HU.out 8, blk_cell HU.out 9, blk_cell HG.out 1⟩ (fun hs => ?_)
              have n_ := Aside0.mk (below_drew1 HB.out)
              clear HB
              have HB := n_
              clear n_
              have n_ := Aside0.mk (blk_drew HX.out)
              clear HX
              have HX := n_
              clear n_
              have n_ := Aside0.mk (blk_drew HG.out)
              clear HG
              have HG := n_
              clear n_
              have n_ := Aside0.mk (blk_drew HU.out)
              clear HU
              have HU := n_
              clear n_
              refine qT 0 87 hs ?_
              refine q1 1 88 (fun K hK => ?_)
              refine qC Tryz.func51 _ ?_
              refine (iSession1 ip b gate gm wm res A6 c6 g A7 c7 l B0 (some ad) B2 B3 d0 d1 d2 d3 us ss fs rs nx w.heap.size (w.heap.size + 1) (rd_T76 ss i) _ HX.out HG.out n0 n1 y0 kb0 kb1 HM.out).mono ?_
              intro e w2 h2
              obtain ⟨rfl, hb⟩ := h2.no K1.out
              have n_ := Aside0.mk (below_step HB.out hb)
              clear HB
              have HB := n_
              clear n_
              have n_ := Aside0.mk (blk_below HX.out hb)
              clear HX
              have HX := n_
              clear n_
              have n_ := Aside0.mk (blk_below HG.out hb)
              clear HG
              have HG := n_
              clear n_
              have n_ := Aside0.mk (blk_below HU.out hb)
              clear HU
              have HU := n_
              clear n_
              refine ⟨_, rfl, hK.out _ _ ⟨pw_cell_below hb hs.1, pw_cell_below hb hs.2.1, pw_cell_below hb hs.2.2.1, pw_cell_below hb hs.2.2.2.1, pw_cell_below hb hs.2.2.2.2.1, pw_cell_below hb hs.2.2.2.2.2.1, pw_cell_below hb hs.2.2.2.2.2.2.1, pw_cell_below hb hs.2.2.2.2.2.2.2.1, pw_cell_below hb hs.2.2.2.2.2.2.2.2.1, pw_cell_below hb hs.2.2.2.2.2.2.2.2.2.1, pw_cell_below hb hs.2.2.2.2.2.2.2.2.2.2⟩ (fun hs2 => ?_)⟩
              clear hK K hs hb
              have hs := hs2
              clear hs2
              refine qN ?_
              refine qP 2 89 ?_
              refine qP 3 90 ?_
              refine qU 4 91 ?_
              refine qP 5 92 ?_
              refine qP 6 93 ?_
              refine qU 7 94 ?_
              refine qU 8 95 ?_
              refine qU 9 96 ?_
              refine qU 10 97 ?_
              refine qU 11 98 ?_
              refine qU 12 99 ?_
              refine qU 13 100 ?_
              refine qU 14 101 ?_
              refine qU 15 102 ?_
              refine qU 16 103 ?_
              refine qU 17 104 ?_
              refine qU 18 105 ?_
              refine qU 19 106 ?_
              refine qU 20 107 ?_
              refine qP 21 108 ?_
              refine qD ?_
              clear hs
              go_wp2
              go_ret
              exact .inr ⟨rfl, fun h => K1.out (h.2.2.2.2.2.2.1 _ (rdmem (z := z76) hi0 hlt)), HB.out⟩
          · rcases Classical.em (SessionP ip b nx us.length (rd_T76 ss i)) with k1 | k1 <;> (have K1 := Aside0.mk k1; clear k1)
            rotate_left
            · as_aux_lemma =>
              refine qS (fun w' => w'.cell? ⟨wr.heap.size, 0, none⟩ = some (.int .i64 (rd_T76 ss i).f0) ∧ w'.cell? ⟨wr.heap.size, 1, none⟩ = some (.int .i64 (rd_T76 ss i).f1) ∧ w'.cell? ⟨wr.heap.size, 2, none⟩ = some (.string (rd_T76 ss i).f2) ∧ w'.cell? ⟨wr.heap.size, 3, none⟩ = some (.int .i64 (rd_T76 ss i).f3) ∧ w'.cell? ⟨wr.heap.size, 4, none⟩ = some (.int .i64 (rd_T76 ss i).f4) ∧ w'.cell? ⟨wr.heap.size, 5, none⟩ = some (.int .i64 (rd_T76 ss i).f5) ∧ w'.cell? ⟨wr.heap.size, 6, none⟩ = some (.int .i64 (rd_T76 ss i).f6) ∧ w'.cell? ⟨wr.heap.size, 7, none⟩ = some (.int .i64 (rd_T76 ss i).f7) ∧ w'.cell? ⟨wr.heap.size, 8, none⟩ = some (.int .i64 (rd_T76 ss i).f8) ∧ w'.cell? ⟨wr.heap.size, 9, none⟩ = some (.int .i64 (rd_T76 ss i).f9) ∧ w'.cell? ⟨w.heap.size + 1, 1, none⟩ = some (.slice (some ad) ss.length d1)) 22 ⟨blk_cell HU.out 0, blk_cell HU.out 1, blk_cell HU.out 2, blk_cell HU.out 3, blk_cell HU.out 4, blk_cell HU.out 5, blk_cell HU.out 6, blk_cell HU.out 7, blk_cell HU.out 8, blk_cell HU.out 9, blk_cell HG.out 1⟩ (fun hs => ?_)
              have n_ := Aside0.mk (below_drew1 HB.out)
              clear HB
              have HB := n_
              clear n_
              have n_ := Aside0.mk (blk_drew HX.out)
              clear HX
              have HX := n_
              clear n_
              have n_ := Aside0.mk (blk_drew HG.out)
              clear HG
              have HG := n_
              clear n_
              have n_ := Aside0.mk (blk_drew HU.out)
              clear HU
              have HU := n_
              clear n_
              refine qT 0 87 hs ?_
              refine q1 1 88 (fun K hK => ?_)
              refine qC Tryz.func51 _ ?_
              refine (iSession1 ip b gate gm wm res A6 c6 g A7 c7 l B0 (some ad) B2 B3 d0 d1 d2 d3 us ss fs rs nx w.heap.size (w.heap.size + 1) (rd_T76 ss i) _ HX.out HG.out n0 n1 y0 kb0 kb1 HM.out).mono ?_
              intro e w2 h2
              obtain ⟨rfl, hb⟩ := h2.no K1.out
              have n_ := Aside0.mk (below_step HB.out hb)
              clear HB
              have HB := n_
              clear n_
              have n_ := Aside0.mk (blk_below HX.out hb)
              clear HX
              have HX := n_
              clear n_
              have n_ := Aside0.mk (blk_below HG.out hb)
              clear HG
              have HG := n_
              clear n_
              have n_ := Aside0.mk (blk_below HU.out hb)
              clear HU
              have HU := n_
              clear n_
              refine ⟨_, rfl, hK.out _ _ ⟨pw_cell_below hb hs.1, pw_cell_below hb hs.2.1, pw_cell_below hb hs.2.2.1, pw_cell_below hb hs.2.2.2.1, pw_cell_below hb hs.2.2.2.2.1, pw_cell_below hb hs.2.2.2.2.2.1, pw_cell_below hb hs.2.2.2.2.2.2.1, pw_cell_below hb hs.2.2.2.2.2.2.2.1, pw_cell_below hb hs.2.2.2.2.2.2.2.2.1, pw_cell_below hb hs.2.2.2.2.2.2.2.2.2.1, pw_cell_below hb hs.2.2.2.2.2.2.2.2.2.2⟩ (fun hs2 => ?_)⟩
              clear hK K hs hb
              have hs := hs2
              clear hs2
              refine qN ?_
              refine qP 2 89 ?_
              refine qP 3 90 ?_
              refine qU 4 91 ?_
              refine qP 5 92 ?_
              refine qP 6 93 ?_
              refine qU 7 94 ?_
              refine qU 8 95 ?_
              refine qU 9 96 ?_
              refine qU 10 97 ?_
              refine qU 11 98 ?_
              refine qU 12 99 ?_
              refine qU 13 100 ?_
              refine qU 14 101 ?_
              refine qU 15 102 ?_
              refine qU 16 103 ?_
              refine qU 17 104 ?_
              refine qU 18 105 ?_
              refine qU 19 106 ?_
              refine qU 20 107 ?_
              refine qP 21 108 ?_
              refine qD ?_
              clear hs
              go_wp2
              go_ret
              exact .inr ⟨rfl, fun h => K1.out (h.2.2.2.2.2.2.1 _ (rdmem (z := z76) hi0 hlt)), HB.out⟩
            rcases dec_em (0 < i) with ⟨k7, b7⟩ | ⟨k7, b7⟩
            rotate_left
            · as_aux_lemma =>
              refine qS (fun w' => w'.cell? ⟨wr.heap.size, 0, none⟩ = some (.int .i64 (rd_T76 ss i).f0) ∧ w'.cell? ⟨wr.heap.size, 1, none⟩ = some (.int .i64 (rd_T76 ss i).f1) ∧ w'.cell? ⟨wr.heap.size, 2, none⟩ = some (.string (rd_T76 ss i).f2) ∧ w'.cell? ⟨wr.heap.size, 3, none⟩ = some (.int .i64 (rd_T76 ss i).f3) ∧ w'.cell? ⟨wr.heap.size, 4, none⟩ = some (.int .i64 (rd_T76 ss i).f4) ∧ w'.cell? ⟨wr.heap.size, 5, none⟩ = some (.int .i64 (rd_T76 ss i).f5) ∧ w'.cell? ⟨wr.heap.size, 6, none⟩ = some (.int .i64 (rd_T76 ss i).f6) ∧ w'.cell? ⟨wr.heap.size, 7, none⟩ = some (.int .i64 (rd_T76 ss i).f7) ∧ w'.cell? ⟨wr.heap.size, 8, none⟩ = some (.int .i64 (rd_T76 ss i).f8) ∧ w'.cell? ⟨wr.heap.size, 9, none⟩ = some (.int .i64 (rd_T76 ss i).f9) ∧ w'.cell? ⟨w.heap.size + 1, 1, none⟩ = some (.slice (some ad) ss.length d1)) 22 ⟨blk_cell HU.out 0, blk_cell HU.out 1, blk_cell HU.out 2, blk_cell HU.out 3, blk_cell HU.out 4, blk_cell HU.out 5, blk_cell HU.out 6, blk_cell HU.out 7, blk_cell HU.out 8, blk_cell HU.out 9, blk_cell HG.out 1⟩ (fun hs => ?_)
              have n_ := Aside0.mk (below_drew1 HB.out)
              clear HB
              have HB := n_
              clear n_
              have n_ := Aside0.mk (blk_drew HX.out)
              clear HX
              have HX := n_
              clear n_
              have n_ := Aside0.mk (blk_drew HG.out)
              clear HG
              have HG := n_
              clear n_
              have n_ := Aside0.mk (blk_drew HU.out)
              clear HU
              have HU := n_
              clear n_
              refine qT 0 87 hs ?_
              refine q1 1 88 (fun K hK => ?_)
              refine qC Tryz.func51 _ ?_
              refine (iSession1 ip b gate gm wm res A6 c6 g A7 c7 l B0 (some ad) B2 B3 d0 d1 d2 d3 us ss fs rs nx w.heap.size (w.heap.size + 1) (rd_T76 ss i) _ HX.out HG.out n0 n1 y0 kb0 kb1 HM.out).mono ?_
              intro e w2 h2
              obtain ⟨rfl, hb⟩ := h2.yes K1.out
              have n_ := Aside0.mk (below_step HB.out hb)
              clear HB
              have HB := n_
              clear n_
              have n_ := Aside0.mk (blk_below HX.out hb)
              clear HX
              have HX := n_
              clear n_
              have n_ := Aside0.mk (blk_below HG.out hb)
              clear HG
              have HG := n_
              clear n_
              have n_ := Aside0.mk (blk_below HU.out hb)
              clear HU
              have HU := n_
              clear n_
              refine ⟨_, rfl, hK.out _ _ ⟨pw_cell_below hb hs.1, pw_cell_below hb hs.2.1, pw_cell_below hb hs.2.2.1, pw_cell_below hb hs.2.2.2.1, pw_cell_below hb hs.2.2.2.2.1, pw_cell_below hb hs.2.2.2.2.2.1, pw_cell_below hb hs.2.2.2.2.2.2.1, pw_cell_below hb hs.2.2.2.2.2.2.2.1, pw_cell_below hb hs.2.2.2.2.2.2.2.2.1, pw_cell_below hb hs.2.2.2.2.2.2.2.2.2.1, pw_cell_below hb hs.2.2.2.2.2.2.2.2.2.2⟩ (fun hs2 => ?_)⟩
              clear hK K hs hb
              have hs := hs2
              clear hs2
              refine qN ?_
              refine qP 2 89 ?_
              refine qP 3 90 ?_
              refine qP 4 91 ?_
              refine qP 5 92 ?_
              refine qP 6 93 ?_
              refine qP 7 94 ?_
              refine qP 8 95 ?_
              refine qP 9 96 ?_
              refine qU 10 97 ?_
              refine qU 11 98 ?_
              refine qU 12 99 ?_
              refine qU 13 100 ?_
              refine qU 14 101 ?_
              refine qU 15 102 ?_
              refine qU 16 103 ?_
              refine qU 17 104 ?_
              refine qU 18 105 ?_
              refine qU 19 106 ?_
              refine qP 20 107 ?_
              refine qP 21 108 ?_
              refine qD ?_
              clear hs
              go_wp2
              go_roundg (ss.length - (i + 1)).toNat
              case measure => omega
              case rel => exact ⟨i + 1, rfl, by omega, by omega, by omega, HB, HX, HG, ⟨fun j h0 h1 => by
                by_cases hj : j < i
                · exact HA.out j h0 hj
                · obtain rfl : j = i := by omega
                  exact K1.out⟩, ⟨fun j h0 h1 => by
                by_cases hj : j < i
                · exact HS.out j h0 hj
                · obtain rfl : j = i := by omega
                  exact ⟨fun h => absurd h (by omega), HP.out.1⟩⟩⟩
            obtain ⟨pd, eP, q0, _⟩ := at_T76 (Kd.C_below H0.out.2.2.2.1 HB.out) (i - 1) (by omega) (by omega)
            obtain rfl : ad = pd := Option.some.inj eP
            have hwr : IntKind.i64.wrap (i - 1) = i - 1 := i64id (by omega) (by omega)
            have h1m : 1 ≤ i := by omega
            have h2m : i - 1 < (ss.length : Int) := by omega
            rw [show (i - 1).toNat = i.toNat - 1 by omega] at q0
            clear eP
            rcases dec_em ((rd_T76 ss (i - 1)).f0 ≥ (rd_T76 ss i).f0) with ⟨k8, b8⟩ | ⟨k8, b8⟩
            · as_aux_lemma =>
              refine qS (fun w' => w'.cell? ⟨wr.heap.size, 0, none⟩ = some (.int .i64 (rd_T76 ss i).f0) ∧ w'.cell? ⟨wr.heap.size, 1, none⟩ = some (.int .i64 (rd_T76 ss i).f1) ∧ w'.cell? ⟨wr.heap.size, 2, none⟩ = some (.string (rd_T76 ss i).f2) ∧ w'.cell? ⟨wr.heap.size, 3, none⟩ = some (.int .i64 (rd_T76 ss i).f3) ∧ w'.cell? ⟨wr.heap.size, 4, none⟩ = some (.int .i64 (rd_T76 ss i).f4) ∧ w'.cell? ⟨wr.heap.size, 5, none⟩ = some (.int .i64 (rd_T76 ss i).f5) ∧ w'.cell? ⟨wr.heap.size, 6, none⟩ = some (.int .i64 (rd_T76 ss i).f6) ∧ w'.cell? ⟨wr.heap.size, 7, none⟩ = some (.int .i64 (rd_T76 ss i).f7) ∧ w'.cell? ⟨wr.heap.size, 8, none⟩ = some (.int .i64 (rd_T76 ss i).f8) ∧ w'.cell? ⟨wr.heap.size, 9, none⟩ = some (.int .i64 (rd_T76 ss i).f9) ∧ w'.cell? ⟨w.heap.size + 1, 1, none⟩ = some (.slice (some ad) ss.length d1) ∧ w'.cell? (ad.add ((i.toNat - 1) * 10)) = some (.int .i64 (rd_T76 ss (i - 1)).f0)) 22 ⟨blk_cell HU.out 0, blk_cell HU.out 1, blk_cell HU.out 2, blk_cell HU.out 3, blk_cell HU.out 4, blk_cell HU.out 5, blk_cell HU.out 6, blk_cell HU.out 7, blk_cell HU.out 8, blk_cell HU.out 9, blk_cell HG.out 1, q0⟩ (fun hs => ?_)
              have n_ := Aside0.mk (below_drew1 HB.out)
              clear HB
              have HB := n_
              clear n_
              have n_ := Aside0.mk (blk_drew HX.out)
              clear HX
              have HX := n_
              clear n_
              have n_ := Aside0.mk (blk_drew HG.out)
              clear HG
              have HG := n_
              clear n_
              have n_ := Aside0.mk (blk_drew HU.out)
              clear HU
              have HU := n_
              clear n_
              refine qT 0 87 hs ?_
              refine q1 1 88 (fun K hK => ?_)
              refine qC Tryz.func51 _ ?_
              refine (iSession1 ip b gate gm wm res A6 c6 g A7 c7 l B0 (some ad) B2 B3 d0 d1 d2 d3 us ss fs rs nx w.heap.size (w.heap.size + 1) (rd_T76 ss i) _ HX.out HG.out n0 n1 y0 kb0 kb1 HM.out).mono ?_
              intro e w2 h2
              obtain ⟨rfl, hb⟩ := h2.yes K1.out
              have n_ := Aside0.mk (below_step HB.out hb)
              clear HB
              have HB := n_
              clear n_
              have n_ := Aside0.mk (blk_below HX.out hb)
              clear HX
              have HX := n_
              clear n_
              have n_ := Aside0.mk (blk_below HG.out hb)
              clear HG
              have HG := n_
              clear n_
              have n_ := Aside0.mk (blk_below HU.out hb)
              clear HU
              have HU := n_
              clear n_
              refine ⟨_, rfl, hK.out _ _ ⟨pw_cell_below hb hs.1, pw_cell_below hb hs.2.1, pw_cell_below hb hs.2.2.1, pw_cell_below hb hs.2.2.2.1, pw_cell_below hb hs.2.2.2.2.1, pw_cell_below hb hs.2.2.2.2.2.1, pw_cell_below hb hs.2.2.2.2.2.2.1, pw_cell_below hb hs.2.2.2.2.2.2.2.1, pw_cell_below hb hs.2.2.2.2.2.2.2.2.1, pw_cell_below hb hs.2.2.2.2.2.2.2.2.2.1, pw_cell_below hb hs.2.2.2.2.2.2.2.2.2.2.1, pw_cell_below hb hs.2.2.2.2.2.2.2.2.2.2.2⟩ (fun hs2 => ?_)⟩
              clear hK K hs hb
              have hs := hs2
              clear hs2
              refine qN ?_
              refine qP 2 89 ?_
              refine qP 3 90 ?_
              refine qP 4 91 ?_
              refine qP 5 92 ?_
              refine qP 6 93 ?_
              refine qP 7 94 ?_
              refine qP 8 95 ?_
              refine qP 9 96 ?_
              refine qP 10 97 ?_
              refine qP 12 99 ?_
              refine qP 13 100 ?_
              refine qP 17 104 ?_
              refine qT 11 98 hs ?_
              refine qP 14 101 ?_
              refine qP 15 102 ?_
              refine qT 16 103 hs ?_
              refine qT 18 105 hs ?_
              refine qP 19 106 ?_
              refine qP 20 107 ?_
              refine qP 21 108 ?_
              refine qD ?_
              clear hs
              go_wp2
              go_ret
              exact .inr ⟨rfl, fun h => absurd ((h.2.2.2.2.2.2.2.1 i hi0 hlt).1 k7) (by omega), HB.out⟩
            · refine qS (fun w' => w'.cell? ⟨wr.heap.size, 0, none⟩ = some (.int .i64 (rd_T76 ss i).f0) ∧ w'.cell? ⟨wr.heap.size, 1, none⟩ = some (.int .i64 (rd_T76 ss i).f1) ∧ w'.cell? ⟨wr.heap.size, 2, none⟩ = some (.string (rd_T76 ss i).f2) ∧ w'.cell? ⟨wr.heap.size, 3, none⟩ = some (.int .i64 (rd_T76 ss i).f3) ∧ w'.cell? ⟨wr.heap.size, 4, none⟩ = some (.int .i64 (rd_T76 ss i).f4) ∧ w'.cell? ⟨wr.heap.size, 5, none⟩ = some (.int .i64 (rd_T76 ss i).f5) ∧ w'.cell? ⟨wr.heap.size, 6, none⟩ = some (.int .i64 (rd_T76 ss i).f6) ∧ w'.cell? ⟨wr.heap.size, 7, none⟩ = some (.int .i64 (rd_T76 ss i).f7) ∧ w'.cell? ⟨wr.heap.size, 8, none⟩ = some (.int .i64 (rd_T76 ss i).f8) ∧ w'.cell? ⟨wr.heap.size, 9, none⟩ = some (.int .i64 (rd_T76 ss i).f9) ∧ w'.cell? ⟨w.heap.size + 1, 1, none⟩ = some (.slice (some ad) ss.length d1) ∧ w'.cell? (ad.add ((i.toNat - 1) * 10)) = some (.int .i64 (rd_T76 ss (i - 1)).f0)) 22 ⟨blk_cell HU.out 0, blk_cell HU.out 1, blk_cell HU.out 2, blk_cell HU.out 3, blk_cell HU.out 4, blk_cell HU.out 5, blk_cell HU.out 6, blk_cell HU.out 7, blk_cell HU.out 8, blk_cell HU.out 9, blk_cell HG.out 1, q0⟩ (fun hs => ?_)
              have n_ := Aside0.mk (below_drew1 HB.out)
              clear HB
              have HB := n_
              clear n_
              have n_ := Aside0.mk (blk_drew HX.out)
              clear HX
              have HX := n_
              clear n_
              have n_ := Aside0.mk (blk_drew HG.out)
              clear HG
              have HG := n_
              clear n_
              have n_ := Aside0.mk (blk_drew HU.out)
              clear HU
              have HU := n_
              clear n_
              refine qT 0 87 hs ?_
              refine q1 1 88 (fun K hK => ?_)
              refine qC Tryz.func51 _ ?_
              refine (iSession1 ip b gate gm wm res A6 c6 g A7 c7 l B0 (some ad) B2 B3 d0 d1 d2 d3 us ss fs rs nx w.heap.size (w.heap.size + 1) (rd_T76 ss i) _ HX.out HG.out n0 n1 y0 kb0 kb1 HM.out).mono ?_
              intro e w2 h2
              obtain ⟨rfl, hb⟩ := h2.yes K1.out
              have n_ := Aside0.mk (below_step HB.out hb)
              clear HB
              have HB := n_
              clear n_
              have n_ := Aside0.mk (blk_below HX.out hb)
              clear HX
              have HX := n_
              clear n_
              have n_ := Aside0.mk (blk_below HG.out hb)
              clear HG
              have HG := n_
              clear n_
              have n_ := Aside0.mk (blk_below HU.out hb)
              clear HU
              have HU := n_
              clear n_
              refine ⟨_, rfl, hK.out _ _ ⟨pw_cell_below hb hs.1, pw_cell_below hb hs.2.1, pw_cell_below hb hs.2.2.1, pw_cell_below hb hs.2.2.2.1, pw_cell_below hb hs.2.2.2.2.1, pw_cell_below hb hs.2.2.2.2.2.1, pw_cell_below hb hs.2.2.2.2.2.2.1, pw_cell_below hb hs.2.2.2.2.2.2.2.1, pw_cell_below hb hs.2.2.2.2.2.2.2.2.1, pw_cell_below hb hs.2.2.2.2.2.2.2.2.2.1, pw_cell_below hb hs.2.2.2.2.2.2.2.2.2.2.1, pw_cell_below hb hs.2.2.2.2.2.2.2.2.2.2.2⟩ (fun hs2 => ?_)⟩
              clear hK K hs hb
              have hs := hs2
              clear hs2
              refine qN ?_
              refine qP 2 89 ?_
              refine qP 3 90 ?_
              refine qP 4 91 ?_
              refine qP 5 92 ?_
              refine qP 6 93 ?_
              refine qP 7 94 ?_
              refine qP 8 95 ?_
              refine qP 9 96 ?_
              refine qP 10 97 ?_
              refine qP 12 99 ?_
              refine qP 13 100 ?_
              refine qP 17 104 ?_
              refine qT 11 98 hs ?_
              refine qP 14 101 ?_
              refine qP 15 102 ?_
              refine qT 16 103 hs ?_
              refine qT 18 105 hs ?_
              refine qP 19 106 ?_
              refine qP 20 107 ?_
              refine qP 21 108 ?_
              refine qD ?_
              clear hs
              clear q0 hwr h1m h2m
              go_wp2
              go_roundg (ss.length - (i + 1)).toNat
              case measure => omega
              case rel => exact ⟨i + 1, rfl, by omega, by omega, by omega, HB, HX, HG, ⟨fun j h0 h1 => by
                by_cases hj : j < i
                · exact HA.out j h0 hj
                · obtain rfl : j = i := by omega
                  exact K1.out⟩, ⟨fun j h0 h1 => by
                by_cases hj : j < i
                · exact HS.out j h0 hj
                · obtain rfl : j = i := by omega
                  exact ⟨fun _ => by omega, HP.out.1⟩⟩⟩
        · obtain rfl : i = ss.length := by omega
          have HSS := Aside0.mk (And.intro (all_of rfl HA.out) HS.out)
          clear HA HS hi0 hi hgg hlt
          have hx := blk_cell HG.out
          have hzr := blk_lt HG.out
          go_wp2
          clear hx hzr
          go_loopg [113] fs.length (fun gg v w' => ∃ i : Int, v = .int .i64 i ∧ 0 ≤ i ∧ i ≤ fs.length ∧ fs.length - i ≤ gg ∧ Aside0 (Below w.heap.size w w') ∧ Aside0 (w'.heap[w.heap.size]? = some (.cells #[.int .i64 ip, .int .i64 b, .int .i64 gate, .string gm, .string wm, .int .i64 res, .slice A6 g.length c6, .slice A7 l.length c7] 41 (0, 0))) ∧ Aside0 (w'.heap[w.heap.size + 1]? = some (.cells #[.slice B0 us.length d0, .slice B1 ss.length d1, .slice B2 fs.length d2, .slice B3 rs.length d3, .int .i64 nx] 48 (0, 0))) ∧ Aside0 (∀ j : Int, 0 ≤ j → j < i → FailP (fs.getD j.toNat z81)) ∧ Aside0 (∀ j : Int, 0 ≤ j → j < i → FailUpP fs j))
          case atStart => exact ⟨0, rfl, Int.le_refl _, by omega, by omega, HB, HX, HG, ⟨fun j h0 h1 => by omega⟩, ⟨fun j h0 h1 => by omega⟩⟩
          case round =>
            clear HB HX HG
            obtain ⟨i, rfl, hi0, hi, hgg, HB, HX, HG, HA, HS⟩ := hrel
            by_cases hlt : i < fs.length
            · obtain ⟨ad, eA, hrow⟩ := at_T81 (Kd.C_below H0.out.2.2.2.2.1 HB.out) i hi0 hlt
              have HM := Aside0.mk (HZ.out.2.2.2 _ (rdmem (z := z81) hi0 hlt))
              subst eA
              go_wp2
              generalize hW : wr.alloc (.cells #[.string (rd_T81 fs i).f0, .int .i64 (rd_T81 fs i).f1, .int .i64 (rd_T81 fs i).f2] 81 (0, 0)) = W0 at *
              have hB0 : Below wr.heap.size wr W0 := by rw [← hW]; exact below_alloc (Below.refl _ _) _
              have hub : W0.heap[wr.heap.size]? = some (.cells #[.string (rd_T81 fs i).f0, .int .i64 (rd_T81 fs i).f1, .int .i64 (rd_T81 fs i).f2] 81 (0, 0)) := by rw [← hW]; exact blk_new _ _
              have n_ := And.intro (Aside0.mk (below_step HB.out hB0)) (And.intro (Aside0.mk (blk_below HX.out hB0)) (Aside0.mk (blk_below HG.out hB0)))
              clear HB HX HG
              obtain ⟨HB, HX, HG⟩ := n_
              clear hB0 hW hrow
              rcases Classical.em (FailP (rd_T81 fs i)) with k1 | k1 <;> (have K1 := Aside0.mk k1; clear k1)
              rotate_left
              · as_aux_lemma =>
                refine qS (fun w' => w'.cell? ⟨wr.heap.size, 0, none⟩ = some (.string (rd_T81 fs i).f0) ∧ w'.cell? ⟨wr.heap.size, 1, none⟩ = some (.int .i64 (rd_T81 fs i).f1) ∧ w'.cell? ⟨wr.heap.size, 2, none⟩ = some (.int .i64 (rd_T81 fs i).f2) ∧ w'.cell? ⟨w.heap.size + 1, 2, none⟩ = some (.slice (some ad) fs.length d2)) 19 ⟨blk_cell hub 0, blk_cell hub 1, blk_cell hub 2, blk_cell HG.out 2⟩ (fun hs => ?_)
                have n_ := Aside0.mk (below_drew1 HB.out)
                clear HB
                have HB := n_
                clear n_
                have n_ := Aside0.mk (blk_drew HX.out)
                clear HX
                have HX := n_
                clear n_
                have n_ := Aside0.mk (blk_drew HG.out)
                clear HG
                have HG := n_
                clear n_
                refine qT 0 118 hs ?_
                refine q1 1 119 (fun K hK => ?_)
                refine qC Tryz.func52 _ ?_
                refine (iFail1 (rd_T81 fs i) _ HM.out).mono ?_
                intro e w2 h2
                obtain ⟨rfl, hb⟩ := h2.no K1.out
                have n_ := Aside0.mk (below_step HB.out hb)
                clear HB
                have HB := n_
                clear n_
                have n_ := Aside0.mk (blk_below HX.out hb)
                clear HX
                have HX := n_
                clear n_
                have n_ := Aside0.mk (blk_below HG.out hb)
                clear HG
                have HG := n_
                clear n_
                refine ⟨_, rfl, hK.out _ _ ⟨pw_cell_below hb hs.1, pw_cell_below hb hs.2.1, pw_cell_below hb hs.2.2.1, pw_cell_below hb hs.2.2.2⟩ (fun hs2 => ?_)⟩
                clear hK K hs hb
                have hs := hs2
                clear hs2
                refine qN ?_
                refine qP 2 120 ?_
                refine qP 3 121 ?_
                refine qU 4 122 ?_
                refine qU 5 123 ?_
                refine qU 6 124 ?_
                refine qU 7 125 ?_
                refine qU 8 126 ?_
                refine qU 9 127 ?_
                refine qU 10 128 ?_
                refine qU 11 129 ?_
                refine qU 12 130 ?_
                refine qU 13 131 ?_
                refine qU 14 132 ?_
                refine qU 15 133 ?_
                refine qU 16 134 ?_
                refine qU 17 135 ?_
                refine qP 18 136 ?_
                refine qD ?_
                clear hs
                go_wp2
                go_ret
                exact .inr ⟨rfl, fun h => K1.out (h.2.2.2.2.2.2.2.2.1 _ (rdmem (z := z81) hi0 hlt)), HB.out⟩
              rcases dec_em (0 < i) with ⟨k7, b7⟩ | ⟨k7, b7⟩
              rotate_left
              · as_aux_lemma =>
                refine qS (fun w' => w'.cell? ⟨wr.heap.size, 0, none⟩ = some (.string (rd_T81 fs i).f0) ∧ w'.cell? ⟨wr.heap.size, 1, none⟩ = some (.int .i64 (rd_T81 fs i).f1) ∧ w'.cell? ⟨wr.heap.size, 2, none⟩ = some (.int .i64 (rd_T81 fs i).f2) ∧ w'.cell? ⟨w.heap.size + 1, 2, none⟩ = some (.slice (some ad) fs.length d2)) 19 ⟨blk_cell hub 0, blk_cell hub 1, blk_cell hub 2, blk_cell HG.out 2⟩ (fun hs => ?_)
                have n_ := Aside0.mk (below_drew1 HB.out)
                clear HB
                have HB := n_
                clear n_
                have n_ := Aside0.mk (blk_drew HX.out)
                clear HX
                have HX := n_
                clear n_
                have n_ := Aside0.mk (blk_drew HG.out)
                clear HG
                have HG := n_
                clear n_
                refine qT 0 118 hs ?_
                refine q1 1 119 (fun K hK => ?_)
                refine qC Tryz.func52 _ ?_
                refine (iFail1 (rd_T81 fs i) _ HM.out).mono ?_
                intro e w2 h2
                obtain ⟨rfl, hb⟩ := h2.yes K1.out
                have n_ := Aside0.mk (below_step HB.out hb)
                clear HB
                have HB := n_
                clear n_
                have n_ := Aside0.mk (blk_below HX.out hb)
                clear HX
                have HX := n_
                clear n_
                have n_ := Aside0.mk (blk_below HG.out hb)
                clear HG
                have HG := n_
                clear n_
                refine ⟨_, rfl, hK.out _ _ ⟨pw_cell_below hb hs.1, pw_cell_below hb hs.2.1, pw_cell_below hb hs.2.2.1, pw_cell_below hb hs.2.2.2⟩ (fun hs2 => ?_)⟩
                clear hK K hs hb
                have hs := hs2
                clear hs2
                refine qN ?_
                refine qP 2 120 ?_
                refine qP 3 121 ?_
                refine qP 4 122 ?_
                refine qP 5 123 ?_
                refine qP 6 124 ?_
                refine qU 7 125 ?_
                refine qU 8 126 ?_
                refine qU 9 127 ?_
                refine qU 10 128 ?_
                refine qU 11 129 ?_
                refine qU 12 130 ?_
                refine qU 13 131 ?_
                refine qU 14 132 ?_
                refine qU 15 133 ?_
                refine qU 16 134 ?_
                refine qP 17 135 ?_
                refine qP 18 136 ?_
                refine qD ?_
                clear hs
                go_wp2
                go_roundg (fs.length - (i + 1)).toNat
                case measure => omega
                case rel => exact ⟨i + 1, rfl, by omega, by omega, by omega, HB, HX, HG, ⟨fun j h0 h1 => by
                  by_cases hj : j < i
                  · exact HA.out j h0 hj
                  · obtain rfl : j = i := by omega
                    exact K1.out⟩, ⟨fun j h0 h1 => by
                  by_cases hj : j < i
                  · exact HS.out j h0 hj
                  · intro h2; omega⟩⟩
              obtain ⟨pd, eP, q0, _⟩ := at_T81 (Kd.C_below H0.out.2.2.2.2.1 HB.out) (i - 1) (by omega) (by omega)
              obtain rfl : ad = pd := Option.some.inj eP
              have hwr : IntKind.i64.wrap (i - 1) = i - 1 := i64id (by omega) (by omega)
              have h1m : 1 ≤ i := by omega
              have h2m : i - 1 < (fs.length : Int) := by omega
              rw [show (i - 1).toNat = i.toNat - 1 by omega] at q0
              clear eP
              rcases bool_em (Op.bytesLess (rd_T81 fs (i - 1)).f0.toList (rd_T81 fs i).f0.toList) with k8 | k8
              · as_aux_lemma =>
                have K8 := Aside0.mk k8
                refine qS (fun w' => w'.cell? ⟨wr.heap.size, 0, none⟩ = some (.string (rd_T81 fs i).f0) ∧ w'.cell? ⟨wr.heap.size, 1, none⟩ = some (.int .i64 (rd_T81 fs i).f1) ∧ w'.cell? ⟨wr.heap.size, 2, none⟩ = some (.int .i64 (rd_T81 fs i).f2) ∧ w'.cell? ⟨w.heap.size + 1, 2, none⟩ = some (.slice (some ad) fs.length d2) ∧ w'.cell? (ad.add ((i.toNat - 1) * 3)) = some (.string (rd_T81 fs (i - 1)).f0)) 19 ⟨blk_cell hub 0, blk_cell hub 1, blk_cell hub 2, blk_cell HG.out 2, q0⟩ (fun hs => ?_)
                have n_ := Aside0.mk (below_drew1 HB.out)
                clear HB
                have HB := n_
                clear n_
                have n_ := Aside0.mk (blk_drew HX.out)
                clear HX
                have HX := n_
                clear n_
                have n_ := Aside0.mk (blk_drew HG.out)
                clear HG
                have HG := n_
                clear n_
                refine qT 0 118 hs ?_
                refine q1 1 119 (fun K hK => ?_)
                refine qC Tryz.func52 _ ?_
                refine (iFail1 (rd_T81 fs i) _ HM.out).mono ?_
                intro e w2 h2
                obtain ⟨rfl, hb⟩ := h2.yes K1.out
                have n_ := Aside0.mk (below_step HB.out hb)
                clear HB
                have HB := n_
                clear n_
                have n_ := Aside0.mk (blk_below HX.out hb)
                clear HX
                have HX := n_
                clear n_
                have n_ := Aside0.mk (blk_below HG.out hb)
                clear HG
                have HG := n_
                clear n_
                refine ⟨_, rfl, hK.out _ _ ⟨pw_cell_below hb hs.1, pw_cell_below hb hs.2.1, pw_cell_below hb hs.2.2.1, pw_cell_below hb hs.2.2.2.1, pw_cell_below hb hs.2.2.2.2⟩ (fun hs2 => ?_)⟩
                clear hK K hs hb
                have hs := hs2
                clear hs2
                refine qN ?_
                refine qP 2 120 ?_
                refine qP 3 121 ?_
                refine qP 4 122 ?_
                refine qP 5 123 ?_
                refine qP 6 124 ?_
                refine qP 7 125 ?_
                refine qP 9 127 ?_
                refine qP 10 128 ?_
                refine qP 14 132 ?_
                refine qT 8 126 hs ?_
                refine qP 11 129 ?_
                refine qP 12 130 ?_
                refine qT 13 131 hs ?_
                refine qT 15 133 hs ?_
                refine qP 16 134 ?_
                refine qP 17 135 ?_
                refine qP 18 136 ?_
                refine qD ?_
                clear hs
                clear k8 q0 hwr h1m h2m
                go_wp2
                go_roundg (fs.length - (i + 1)).toNat
                case measure => omega
                case rel => exact ⟨i + 1, rfl, by omega, by omega, by omega, HB, HX, HG, ⟨fun j h0 h1 => by
                  by_cases hj : j < i
                  · exact HA.out j h0 hj
                  · obtain rfl : j = i := by omega
                    exact K1.out⟩, ⟨fun j h0 h1 => by
                  by_cases hj : j < i
                  · exact HS.out j h0 hj
                  · obtain rfl : j = i := by omega
                    exact fun _ => K8.out⟩⟩
              · refine qS (fun w' => w'.cell? ⟨wr.heap.size, 0, none⟩ = some (.string (rd_T81 fs i).f0) ∧ w'.cell? ⟨wr.heap.size, 1, none⟩ = some (.int .i64 (rd_T81 fs i).f1) ∧ w'.cell? ⟨wr.heap.size, 2, none⟩ = some (.int .i64 (rd_T81 fs i).f2) ∧ w'.cell? ⟨w.heap.size + 1, 2, none⟩ = some (.slice (some ad) fs.length d2) ∧ w'.cell? (ad.add ((i.toNat - 1) * 3)) = some (.string (rd_T81 fs (i - 1)).f0)) 19 ⟨blk_cell hub 0, blk_cell hub 1, blk_cell hub 2, blk_cell HG.out 2, q0⟩ (fun hs => ?_)
                have n_ := Aside0.mk (below_drew1 HB.out)
                clear HB
                have HB := n_
                clear n_
                have n_ := Aside0.mk (blk_drew HX.out)
                clear HX
                have HX := n_
                clear n_
                have n_ := Aside0.mk (blk_drew HG.out)
                clear HG
                have HG := n_
                clear n_
                refine qT 0 118 hs ?_
                refine q1 1 119 (fun K hK => ?_)
                refine qC Tryz.func52 _ ?_
                refine (iFail1 (rd_T81 fs i) _ HM.out).mono ?_
                intro e w2 h2
                obtain ⟨rfl, hb⟩ := h2.yes K1.out
                have n_ := Aside0.mk (below_step HB.out hb)
                clear HB
                have HB := n_
                clear n_
                have n_ := Aside0.mk (blk_below HX.out hb)
                clear HX
                have HX := n_
                clear n_
                have n_ := Aside0.mk (blk_below HG.out hb)
                clear HG
                have HG := n_
                clear n_
                refine ⟨_, rfl, hK.out _ _ ⟨pw_cell_below hb hs.1, pw_cell_below hb hs.2.1, pw_cell_below hb hs.2.2.1, pw_cell_below hb hs.2.2.2.1, pw_cell_below hb hs.2.2.2.2⟩ (fun hs2 => ?_)⟩
                clear hK K hs hb
                have hs := hs2
                clear hs2
                refine qN ?_
                refine qP 2 120 ?_
                refine qP 3 121 ?_
                refine qP 4 122 ?_
                refine qP 5 123 ?_
                refine qP 6 124 ?_
                refine qP 7 125 ?_
                refine qP 9 127 ?_
                refine qP 10 128 ?_
                refine qP 14 132 ?_
                refine qT 8 126 hs ?_
                refine qP 11 129 ?_
                refine qP 12 130 ?_
                refine qT 13 131 hs ?_
                refine qT 15 133 hs ?_
                refine qP 16 134 ?_
                refine qP 17 135 ?_
                refine qP 18 136 ?_
                refine qD ?_
                clear hs
                go_wp2
                go_ret
                exact .inr ⟨rfl, fun h => absurd (h.2.2.2.2.2.2.2.2.2.1 i hi0 hlt k7) (by rw [k8]; decide), HB.out⟩
            · obtain rfl : i = fs.length := by omega
              have HF := Aside0.mk (And.intro (all_of rfl HA.out) HS.out)
              clear HA HS hi0 hi hgg hlt
              have hx := blk_cell HG.out
              have hzr := blk_lt HG.out
              have HP := Aside0.mk True.intro
              obtain ⟨n0, n1⟩ := HQ.out.1
              go_wp2_with (first
                | (go_at_call 53; go_loud (refine (containsRecord 54 #[.pointer (some ⟨w.heap.size + 1, 0, none⟩)] (enters_ Tryz.func54 (by kernel_rfl) rfl) (fun x => ¬ RecordP nx x) B3 d3 rs _ y3 (fun W x hx hb => iRecordN B0 B1 B2 B3 d0 d1 d2 d3 us ss fs rs nx (w.heap.size + 1) x W (blk_below HG.out hb) n0 n1) (Kd.C_below H0.out.2.2.2.2.2 (by repeat' (with_reducible first | exact HB.out | apply below_alloc | apply below_drew1 | refine below_set ?_ (by omega))))).mono ?_; rintro e w2 (⟨rfl, hr, hb⟩ | ⟨rfl, hr, hb⟩) <;> (have n_ := Aside0.mk (And.intro hr HP.out); clear HP hr; have HP := n_; clear n_; have n_ := Aside0.mk (below_step (w := w) (by repeat' (with_reducible first | exact HB.out | apply below_alloc | apply below_drew1 | refine below_set ?_ (by omega))) hb); clear HB; have HB := n_; clear n_; have n_ := Aside0.mk (blk_below (g := w.heap.size) (o := .cells #[.int .i64 ip, .int .i64 b, .int .i64 gate, .string gm, .string wm, .int .i64 res, .slice A6 g.length c6, .slice A7 l.length c7] 41 (0, 0)) (by repeat' (with_reducible first | exact HX.out | exact blk_new1 _ _ _ | exact blk_alloc (blk_new _ _) _ | refine blk_alloc ?_ _ | refine blk_drew ?_)) hb); (try clear HX); have HX := n_; clear n_; have n_ := Aside0.mk (blk_below (g := w.heap.size + 1) (o := .cells #[.slice B0 us.length d0, .slice B1 ss.length d1, .slice B2 fs.length d2, .slice B3 rs.length d3, .int .i64 nx] 48 (0, 0)) (by repeat' (with_reducible first | exact HG.out | exact blk_new1 _ _ _ | exact blk_alloc (blk_new _ _) _ | refine blk_alloc ?_ _ | refine blk_drew ?_)) hb); (try clear HG); have HG := n_; clear n_; obtain ⟨hc, hf⟩ := bcell hb; have hz : w.heap.size < w2.heap.size := blk_lt HX.out; have hz1 : w.heap.size + 1 < w2.heap.size := blk_lt HG.out; clear hb))))
              · go_ret
                exact .inr ⟨rfl, fun h => by
                  obtain ⟨x, hx, hn⟩ := HP.out.1
                  exact hn (h.2.2.2.2.2.2.2.2.2.2 x hx), HB.out⟩
              · go_ret
                exact .inl ⟨rfl, ⟨HQ.out.2.1, HU.out, by omega, by omega, by omega, HQ.out.1, HSS.out.1, HSS.out.2, HF.out.1, HF.out.2, fun x hx => Classical.byContradiction fun h => HP.out.1 ⟨x, hx, h⟩⟩, HB.out⟩
end
end Go.Proofs.YtkklokkldgkacaaGreat.X
