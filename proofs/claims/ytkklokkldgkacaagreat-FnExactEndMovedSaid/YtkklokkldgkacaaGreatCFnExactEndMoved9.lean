/- Texts that the row of FnExactEndMoved stands on: functions of the program and of the reference, each as a Lean function with the same answers, and the plain lemmas. Conditions: none beside those that each theorem names. -/
import Derived.Test.YtkklokkldgkacaaGreatCFnExactEndMoved8
namespace Go.Proofs.YtkklokkldgkacaaGreat.X
open Go.RowKit Go.Proofs.YtkklokkldgkacaaGreatW.PrintWords Go.Proofs.YtkklokkldgkacaaGreatW.PrintLast Go.Proofs.YtkklokkldgkacaaGreatW.PrintMore
attribute [local go_sem] max2_int min2_int max_two min_two max_three min_three max_four min_four   -- for this text's walks alone
set_option linter.unusedVariables false
set_option linter.unusedSimpArgs false
section
-- NEEDS laws.eqConfig
attribute [local go_sem] str_geq str_lss
def SepP (ss : List S76) (k i : Int) : Prop := (rd_T76 ss k).f0 < (rd_T76 ss i).f0 ∧ ¬ ClashP (rd_T76 ss i) (rd_T76 ss k)
theorem ups_lt {ss : List S76} (h : ∀ i : Int, 0 ≤ i → i < ss.length → SessUpP ss i) : ∀ (n : Nat) (k i : Int), 0 ≤ k → k < i → i < ss.length → (i - k).toNat = n → (rd_T76 ss k).f0 < (rd_T76 ss i).f0
  | 0, k, i, h0, h1, h2, e => by omega
  | n + 1, k, i, h0, h1, h2, e => by
    have q := h i (by omega) h2 (by omega)
    by_cases hk : k = i - 1
    · rw [hk]; exact q
    · exact Int.lt_trans (ups_lt h n k (i - 1) h0 (by omega) (by omega) (by omega)) q
theorem take_rd {ss : List S76} {k i : Int} (h0 : 0 ≤ k) (h1 : k < i) (h2 : i < ss.length) : rd_T76 ss k ∈ ss.take i.toNat := by
  rw [rd_T76, List.getD_eq_getElem?_getD, List.getElem?_eq_getElem (show k.toNat < ss.length by omega)]
  exact List.mem_iff_getElem.2 ⟨k.toNat, by rw [List.length_take]; omega, by rw [List.getElem_take]; rfl⟩
theorem sep_of {ss : List S76} {k i : Int} (h : ∀ i : Int, 0 ≤ i → i < ss.length → SessUpP ss i ∧ ApartP ss i) (h0 : 0 ≤ k) (h1 : k < i) (h2 : i < ss.length) : SepP ss k i :=
  ⟨ups_lt (fun j a b => (h j a b).1) _ k i h0 h1 h2 rfl, fun hc => (h i (by omega) h2).2 ⟨_, take_rd h0 h1 h2, hc⟩⟩
theorem apart_of {ss : List S76} {i : Int} (hi : 0 ≤ i) (h2 : i < ss.length) (h : ∀ k : Int, 0 ≤ k → k < i → SepP ss k i) : SessUpP ss i ∧ ApartP ss i := by
  refine ⟨fun h0 => (h (i - 1) (by omega) (by omega)).1, ?_⟩
  rintro ⟨x, hx, hc⟩
  obtain ⟨j, hj, rfl⟩ := List.mem_iff_getElem.1 hx
  rw [List.length_take] at hj
  refine (h (j : Int) (by omega) (by omega)).2 ?_
  have e : rd_T76 ss (j : Int) = (ss.take i.toNat)[j]'(by rw [List.length_take]; exact hj) := by
    rw [List.getElem_take, rd_T76, List.getD_eq_getElem?_getD, Int.toNat_natCast, List.getElem?_eq_getElem (show j < ss.length by omega)]; rfl
  rw [e]; exact hc
set_option maxHeartbeats 8000000 in
set_option maxRecDepth 100000 in
theorem sGuests1 (ip b gate : Int) (gm wm : ByteArray) (res : Int) (A6 : Option Addr) (c6 : Nat) (g : List S140) (A7 : Option Addr) (c7 : Nat) (l : List S145) (B0 B1 B2 B3 : Option Addr) (d0 d1 d2 d3 : Nat) (us : List S92) (ss : List S76) (fs : List S81) (rs : List S83) (nx : Int) (w : World) (hg : Kd.C k140 w A6 g.length g) (hl : Kd.C k145 w A7 l.length l) (h0 : Kd.C k92 w B0 us.length us) (h1 : Kd.C k76 w B1 ss.length ss) (h2 : Kd.C k81 w B2 fs.length fs) (h3 : Kd.C k83 w B3 rs.length rs) (zg : g.length ≤ 1152921504606846976) (zl : l.length ≤ 1152921504606846976) (zr : ∀ x ∈ l, x.f1.length ≤ 1152921504606846976 ∧ x.f0.size ≤ 1152921504606846976) (zm : gm.size ≤ 1152921504606846976) (zw : wm.size ≤ 1152921504606846976) (y0 : us.length ≤ 1152921504606846976) (y1 : ss.length ≤ 1152921504606846976) (y2 : fs.length ≤ 1152921504606846976) (y3 : rs.length ≤ 1152921504606846976) (zu : ∀ u ∈ us, u.f0.size ≤ 1152921504606846976 ∧ u.f1.size ≤ 1152921504606846976 ∧ u.f2.size ≤ 1152921504606846976) (zs : ∀ s ∈ ss, s.f2.size ≤ 1152921504606846976) (zf : ∀ f ∈ fs, f.f0.size ≤ 1152921504606846976) :
    Calls Tryz.prog 9 #[.agg #[.int .i64 ip, .int .i64 b, .int .i64 gate, .string gm, .string wm, .int .i64 res, .slice A6 g.length c6, .slice A7 l.length c7], .agg #[.slice B0 us.length d0, .slice B1 ss.length d1, .slice B2 fs.length d2, .slice B3 rs.length d3, .int .i64 nx]] w (IsB (GuestsP ip b gate gm wm res g l us ss fs rs nx) w) := by
  have hu := Tryz.underlying41
  have hu2 := Tryz.underlying48
  have hu3 := Tryz.underlying92
  have hu4 := Tryz.underlying76
  have hu5 := Tryz.underlying81
  have hu6 := Tryz.underlying83
  have H0 := Aside0.mk (And.intro hg (And.intro hl (And.intro h0 (And.intro h1 (And.intro h2 h3)))))
  have HZ := Aside0.mk (And.intro zr (And.intro zu (And.intro zs zf)))
  clear hg hl h0 h1 h2 h3 zr zu zs zf
  have HB := Aside0.mk (Below.refl w.heap.size w)
  have HP := Aside0.mk True.intro
  rcases dec_em (3 < (ss.length : Int)) with ⟨k2, b2⟩ | ⟨k2, b2⟩
  rotate_left
  rcases dec_em (20 < (fs.length : Int)) with ⟨k3, b3⟩ | ⟨k3, b3⟩
  rotate_left
  rcases dec_em (60 < (rs.length : Int)) with ⟨k4, b4⟩ | ⟨k4, b4⟩
  all_goals go_enter Tryz.func9, Tryz.ntmps9
  all_goals dsimp only [List.append]
  all_goals go_wp2_with (first
   | (go_at_call 33; refine (sConfig1 ip b gate gm wm res A6 c6 g A7 c7 l _ (Kd.C_below H0.out.1 (by repeat' (with_reducible first | exact HB.out | apply below_alloc | apply below_drew1 | refine below_set ?_ (by omega)))) (Kd.C_below H0.out.2.1 (by repeat' (with_reducible first | exact HB.out | apply below_alloc | apply below_drew1 | refine below_set ?_ (by omega)))) zg zl HZ.out.1 zm zw).mono ?_; rintro e w2 (⟨rfl, hr, hb⟩ | ⟨rfl, hr, hb⟩) <;> (have n_ := Aside0.mk (And.intro hr HP.out); clear HP hr; have HP := n_; clear n_; have n_ := Aside0.mk (below_step (w := w) (by repeat' (with_reducible first | exact HB.out | apply below_alloc | apply below_drew1 | refine below_set ?_ (by omega))) hb); clear HB; have HB := n_; clear n_; have n_ := Aside0.mk (blk_below (g := w.heap.size) (o := .cells #[.int .i64 ip, .int .i64 b, .int .i64 gate, .string gm, .string wm, .int .i64 res, .slice A6 g.length c6, .slice A7 l.length c7] 41 (0, 0)) (by repeat' (with_reducible first | exact HX.out | exact blk_new1 _ _ _ | exact blk_alloc (blk_new _ _) _ | refine blk_alloc ?_ _ | refine blk_drew ?_)) hb); (try clear HX); have HX := n_; clear n_; have n_ := Aside0.mk (blk_below (g := w.heap.size + 1) (o := .cells #[.slice B0 us.length d0, .slice B1 ss.length d1, .slice B2 fs.length d2, .slice B3 rs.length d3, .int .i64 nx] 48 (0, 0)) (by repeat' (with_reducible first | exact HG.out | exact blk_new1 _ _ _ | exact blk_alloc (blk_new _ _) _ | refine blk_alloc ?_ _ | refine blk_drew ?_)) hb); (try clear HG); have HG := n_; clear n_; obtain ⟨hc, hf⟩ := bcell hb; have hz : w.heap.size < w2.heap.size := blk_lt HX.out; have hz1 : w.heap.size + 1 < w2.heap.size := blk_lt HG.out; clear hb))
   | (go_at_call 34; refine (sUsers1 ip b gate gm wm res A6 c6 g A7 c7 l B0 d0 us _ (Kd.C_below H0.out.2.1 (by repeat' (with_reducible first | exact HB.out | apply below_alloc | apply below_drew1 | refine below_set ?_ (by omega)))) (Kd.C_below H0.out.2.2.1 (by repeat' (with_reducible first | exact HB.out | apply below_alloc | apply below_drew1 | refine below_set ?_ (by omega)))) zl y0 HZ.out.2.1).mono ?_; rintro e w2 (⟨rfl, hr, hb⟩ | ⟨rfl, hr, hb⟩) <;> (have n_ := Aside0.mk (And.intro hr HP.out); clear HP hr; have HP := n_; clear n_; have n_ := Aside0.mk (below_step (w := w) (by repeat' (with_reducible first | exact HB.out | apply below_alloc | apply below_drew1 | refine below_set ?_ (by omega))) hb); clear HB; have HB := n_; clear n_; have n_ := Aside0.mk (blk_below (g := w.heap.size) (o := .cells #[.int .i64 ip, .int .i64 b, .int .i64 gate, .string gm, .string wm, .int .i64 res, .slice A6 g.length c6, .slice A7 l.length c7] 41 (0, 0)) (by repeat' (with_reducible first | exact HX.out | exact blk_new1 _ _ _ | exact blk_alloc (blk_new _ _) _ | refine blk_alloc ?_ _ | refine blk_drew ?_)) hb); (try clear HX); have HX := n_; clear n_; have n_ := Aside0.mk (blk_below (g := w.heap.size + 1) (o := .cells #[.slice B0 us.length d0, .slice B1 ss.length d1, .slice B2 fs.length d2, .slice B3 rs.length d3, .int .i64 nx] 48 (0, 0)) (by repeat' (with_reducible first | exact HG.out | exact blk_new1 _ _ _ | exact blk_alloc (blk_new _ _) _ | refine blk_alloc ?_ _ | refine blk_drew ?_)) hb); (try clear HG); have HG := n_; clear n_; obtain ⟨hc, hf⟩ := bcell hb; have hz : w.heap.size < w2.heap.size := blk_lt HX.out; have hz1 : w.heap.size + 1 < w2.heap.size := blk_lt HG.out; clear hb))
   | (go_at_call 35; refine (sIn1 _ _ _ _).mono ?_; rintro e w2 (⟨rfl, hr, hb⟩ | ⟨rfl, hr, hb⟩) <;> (have n_ := Aside0.mk (And.intro hr HP.out); clear HP hr; have HP := n_; clear n_; have n_ := Aside0.mk (below_step (w := w) (by repeat' (with_reducible first | exact HB.out | apply below_alloc | apply below_drew1 | refine below_set ?_ (by omega))) hb); clear HB; have HB := n_; clear n_; have n_ := Aside0.mk (blk_below (g := w.heap.size) (o := .cells #[.int .i64 ip, .int .i64 b, .int .i64 gate, .string gm, .string wm, .int .i64 res, .slice A6 g.length c6, .slice A7 l.length c7] 41 (0, 0)) (by repeat' (with_reducible first | exact HX.out | exact blk_new1 _ _ _ | exact blk_alloc (blk_new _ _) _ | refine blk_alloc ?_ _ | refine blk_drew ?_)) hb); (try clear HX); have HX := n_; clear n_; have n_ := Aside0.mk (blk_below (g := w.heap.size + 1) (o := .cells #[.slice B0 us.length d0, .slice B1 ss.length d1, .slice B2 fs.length d2, .slice B3 rs.length d3, .int .i64 nx] 48 (0, 0)) (by repeat' (with_reducible first | exact HG.out | exact blk_new1 _ _ _ | exact blk_alloc (blk_new _ _) _ | refine blk_alloc ?_ _ | refine blk_drew ?_)) hb); (try clear HG); have HG := n_; clear n_; obtain ⟨hc, hf⟩ := bcell hb; have hz : w.heap.size < w2.heap.size := blk_lt HX.out; have hz1 : w.heap.size + 1 < w2.heap.size := blk_lt HG.out; clear hb)))
  all_goals try (go_ret; exact .inr ⟨rfl, by rintro ⟨p1, p2, p3, p4, p5, p6, _⟩; first | exact HP.out.1 p1 | exact HP.out.1 p2 | exact HP.out.1 p6 | omega, HB.out⟩; done)
  (try clear hc hf hz hz1)
  have HQ := HP
  clear HP
  obtain ⟨n0, n1⟩ := HQ.out.1
  obtain ⟨kb0, kb1⟩ := netbits HQ.out.2.2.1.1
  have hw1 : IntKind.i64.wrap (nx - 1) = nx - 1 := i64id (by omega) (by omega)
  have hw2 : IntKind.i64.wrap ((us.length : Int) - 1) = (us.length : Int) - 1 := i64id (by omega) (by omega)
  go_loopg [5] ss.length (fun gg v w' => ∃ i : Int, v = .int .i64 i ∧ 0 ≤ i ∧ i ≤ ss.length ∧ ss.length - i ≤ gg ∧ Aside0 (Below w.heap.size w w') ∧ Aside0 (w'.heap[w.heap.size]? = some (.cells #[.int .i64 ip, .int .i64 b, .int .i64 gate, .string gm, .string wm, .int .i64 res, .slice A6 g.length c6, .slice A7 l.length c7] 41 (0, 0))) ∧ Aside0 (w'.heap[w.heap.size + 1]? = some (.cells #[.slice B0 us.length d0, .slice B1 ss.length d1, .slice B2 fs.length d2, .slice B3 rs.length d3, .int .i64 nx] 48 (0, 0))) ∧ Aside0 (∀ j : Int, 0 ≤ j → j < i → SessionP ip b nx us.length (ss.getD j.toNat z76)) ∧ Aside0 (∀ j : Int, 0 ≤ j → j < i → SessUpP ss j ∧ ApartP ss j))
  case atStart => exact ⟨0, rfl, Int.le_refl _, by omega, by omega, HB, HX, HG, ⟨fun j h0 h1 => by omega⟩, ⟨fun j h0 h1 => by omega⟩⟩
  case round =>
    clear HB HX HG
    obtain ⟨i, rfl, hi0, hi, hgg, HB, HX, HG, HA, HS⟩ := hrel
    have cx1 := blk_cell HG.out
    have hz1 := blk_lt HG.out
    have cx0 := blk_cell HX.out
    have hz0 := blk_lt HX.out
    have HP := Aside0.mk True.intro
    obtain ⟨wo, rfl⟩ : ∃ wo : World, wo = wr := ⟨_, rfl⟩
    by_cases hlt : i < ss.length
    · as_aux_lemma =>
      obtain ⟨ad, eA, hrow⟩ := at_T76 (Kd.C_below H0.out.2.2.2.1 HB.out) i hi0 hlt
      subst eA
      go_wp2_with (first
        | (go_at_call 35; go_loud (refine (sIn1 _ _ _ _).mono ?_; rintro e w2 (⟨rfl, hr, hb⟩ | ⟨rfl, hr, hb⟩) <;> (have n_ := Aside0.mk (And.intro hr HP.out); clear HP hr; have HP := n_; clear n_; have n_ := Aside0.mk (below_step (w := w) (by repeat' (with_reducible first | exact HB.out | apply below_alloc | apply below_drew1 | refine below_set ?_ (by omega))) hb); clear HB; have HB := n_; clear n_; have n_ := Aside0.mk (blk_below (g := w.heap.size) (o := .cells #[.int .i64 ip, .int .i64 b, .int .i64 gate, .string gm, .string wm, .int .i64 res, .slice A6 g.length c6, .slice A7 l.length c7] 41 (0, 0)) (by repeat' (with_reducible first | exact HX.out | exact blk_new _ _ | refine blk_alloc ?_ _ | refine blk_drew ?_)) hb); (try clear HX); have HX := n_; clear n_; have n_ := Aside0.mk (blk_below (g := w.heap.size + 1) (o := .cells #[.slice B0 us.length d0, .slice (some ad) ss.length d1, .slice B2 fs.length d2, .slice B3 rs.length d3, .int .i64 nx] 48 (0, 0)) (by repeat' (with_reducible first | exact HG.out | exact blk_new _ _ | refine blk_alloc ?_ _ | refine blk_drew ?_)) hb); (try clear HG); have HG := n_; clear n_; have n_ := Aside0.mk (blk_below (g := wo.heap.size) (o := .cells #[.int .i64 (rd_T76 ss i).f0, .int .i64 (rd_T76 ss i).f1, .string (rd_T76 ss i).f2, .int .i64 (rd_T76 ss i).f3, .int .i64 (rd_T76 ss i).f4, .int .i64 (rd_T76 ss i).f5, .int .i64 (rd_T76 ss i).f6, .int .i64 (rd_T76 ss i).f7, .int .i64 (rd_T76 ss i).f8, .int .i64 (rd_T76 ss i).f9] 76 (0, 0)) (by repeat' (with_reducible first | exact HU.out | exact blk_new _ _ | refine blk_alloc ?_ _ | refine blk_drew ?_)) hb); (try clear HU); have HU := n_; clear n_; (try clear cx0 cx1 cx2 hz0 hz1 hz2); have cx0 := blk_cell HX.out; have cx1 := blk_cell HG.out; have cx2 := blk_cell HU.out; have hz0 := blk_lt HX.out; have hz1 := blk_lt HG.out; have hz2 := blk_lt HU.out; clear hb)))
        | (go_at_call 36; go_loud (refine (sMac1 _ _).mono ?_; rintro e w2 (⟨rfl, hr, hb⟩ | ⟨rfl, hr, hb⟩) <;> (have n_ := Aside0.mk (And.intro hr HP.out); clear HP hr; have HP := n_; clear n_; have n_ := Aside0.mk (below_step (w := w) (by repeat' (with_reducible first | exact HB.out | apply below_alloc | apply below_drew1 | refine below_set ?_ (by omega))) hb); clear HB; have HB := n_; clear n_; have n_ := Aside0.mk (blk_below (g := w.heap.size) (o := .cells #[.int .i64 ip, .int .i64 b, .int .i64 gate, .string gm, .string wm, .int .i64 res, .slice A6 g.length c6, .slice A7 l.length c7] 41 (0, 0)) (by repeat' (with_reducible first | exact HX.out | exact blk_new _ _ | refine blk_alloc ?_ _ | refine blk_drew ?_)) hb); (try clear HX); have HX := n_; clear n_; have n_ := Aside0.mk (blk_below (g := w.heap.size + 1) (o := .cells #[.slice B0 us.length d0, .slice (some ad) ss.length d1, .slice B2 fs.length d2, .slice B3 rs.length d3, .int .i64 nx] 48 (0, 0)) (by repeat' (with_reducible first | exact HG.out | exact blk_new _ _ | refine blk_alloc ?_ _ | refine blk_drew ?_)) hb); (try clear HG); have HG := n_; clear n_; have n_ := Aside0.mk (blk_below (g := wo.heap.size) (o := .cells #[.int .i64 (rd_T76 ss i).f0, .int .i64 (rd_T76 ss i).f1, .string (rd_T76 ss i).f2, .int .i64 (rd_T76 ss i).f3, .int .i64 (rd_T76 ss i).f4, .int .i64 (rd_T76 ss i).f5, .int .i64 (rd_T76 ss i).f6, .int .i64 (rd_T76 ss i).f7, .int .i64 (rd_T76 ss i).f8, .int .i64 (rd_T76 ss i).f9] 76 (0, 0)) (by repeat' (with_reducible first | exact HU.out | exact blk_new _ _ | refine blk_alloc ?_ _ | refine blk_drew ?_)) hb); (try clear HU); have HU := n_; clear n_; (try clear cx0 cx1 cx2 hz0 hz1 hz2); have cx0 := blk_cell HX.out; have cx1 := blk_cell HG.out; have cx2 := blk_cell HU.out; have hz0 := blk_lt HX.out; have hz1 := blk_lt HG.out; have hz2 := blk_lt HU.out; clear hb)))
        | (go_at_call 37; go_loud (refine (sHas1 _ _ _ _ kb0 kb1).mono ?_; rintro e w2 (⟨rfl, hr, hb⟩ | ⟨rfl, hr, hb⟩) <;> (have n_ := Aside0.mk (And.intro hr HP.out); clear HP hr; have HP := n_; clear n_; have n_ := Aside0.mk (below_step (w := w) (by repeat' (with_reducible first | exact HB.out | apply below_alloc | apply below_drew1 | refine below_set ?_ (by omega))) hb); clear HB; have HB := n_; clear n_; have n_ := Aside0.mk (blk_below (g := w.heap.size) (o := .cells #[.int .i64 ip, .int .i64 b, .int .i64 gate, .string gm, .string wm, .int .i64 res, .slice A6 g.length c6, .slice A7 l.length c7] 41 (0, 0)) (by repeat' (with_reducible first | exact HX.out | exact blk_new _ _ | refine blk_alloc ?_ _ | refine blk_drew ?_)) hb); (try clear HX); have HX := n_; clear n_; have n_ := Aside0.mk (blk_below (g := w.heap.size + 1) (o := .cells #[.slice B0 us.length d0, .slice (some ad) ss.length d1, .slice B2 fs.length d2, .slice B3 rs.length d3, .int .i64 nx] 48 (0, 0)) (by repeat' (with_reducible first | exact HG.out | exact blk_new _ _ | refine blk_alloc ?_ _ | refine blk_drew ?_)) hb); (try clear HG); have HG := n_; clear n_; have n_ := Aside0.mk (blk_below (g := wo.heap.size) (o := .cells #[.int .i64 (rd_T76 ss i).f0, .int .i64 (rd_T76 ss i).f1, .string (rd_T76 ss i).f2, .int .i64 (rd_T76 ss i).f3, .int .i64 (rd_T76 ss i).f4, .int .i64 (rd_T76 ss i).f5, .int .i64 (rd_T76 ss i).f6, .int .i64 (rd_T76 ss i).f7, .int .i64 (rd_T76 ss i).f8, .int .i64 (rd_T76 ss i).f9] 76 (0, 0)) (by repeat' (with_reducible first | exact HU.out | exact blk_new _ _ | refine blk_alloc ?_ _ | refine blk_drew ?_)) hb); (try clear HU); have HU := n_; clear n_; (try clear cx0 cx1 cx2 hz0 hz1 hz2); have cx0 := blk_cell HX.out; have cx1 := blk_cell HG.out; have cx2 := blk_cell HU.out; have hz0 := blk_lt HX.out; have hz1 := blk_lt HG.out; have hz2 := blk_lt HU.out; clear hb)))
        | (go_at_call 38; go_loud (refine (sIp1 _ _).mono ?_; rintro e w2 (⟨rfl, hr, hb⟩ | ⟨rfl, hr, hb⟩) <;> (have n_ := Aside0.mk (And.intro hr HP.out); clear HP hr; have HP := n_; clear n_; have n_ := Aside0.mk (below_step (w := w) (by repeat' (with_reducible first | exact HB.out | apply below_alloc | apply below_drew1 | refine below_set ?_ (by omega))) hb); clear HB; have HB := n_; clear n_; have n_ := Aside0.mk (blk_below (g := w.heap.size) (o := .cells #[.int .i64 ip, .int .i64 b, .int .i64 gate, .string gm, .string wm, .int .i64 res, .slice A6 g.length c6, .slice A7 l.length c7] 41 (0, 0)) (by repeat' (with_reducible first | exact HX.out | exact blk_new _ _ | refine blk_alloc ?_ _ | refine blk_drew ?_)) hb); (try clear HX); have HX := n_; clear n_; have n_ := Aside0.mk (blk_below (g := w.heap.size + 1) (o := .cells #[.slice B0 us.length d0, .slice (some ad) ss.length d1, .slice B2 fs.length d2, .slice B3 rs.length d3, .int .i64 nx] 48 (0, 0)) (by repeat' (with_reducible first | exact HG.out | exact blk_new _ _ | refine blk_alloc ?_ _ | refine blk_drew ?_)) hb); (try clear HG); have HG := n_; clear n_; have n_ := Aside0.mk (blk_below (g := wo.heap.size) (o := .cells #[.int .i64 (rd_T76 ss i).f0, .int .i64 (rd_T76 ss i).f1, .string (rd_T76 ss i).f2, .int .i64 (rd_T76 ss i).f3, .int .i64 (rd_T76 ss i).f4, .int .i64 (rd_T76 ss i).f5, .int .i64 (rd_T76 ss i).f6, .int .i64 (rd_T76 ss i).f7, .int .i64 (rd_T76 ss i).f8, .int .i64 (rd_T76 ss i).f9] 76 (0, 0)) (by repeat' (with_reducible first | exact HU.out | exact blk_new _ _ | refine blk_alloc ?_ _ | refine blk_drew ?_)) hb); (try clear HU); have HU := n_; clear n_; (try clear cx0 cx1 cx2 hz0 hz1 hz2); have cx0 := blk_cell HX.out; have cx1 := blk_cell HG.out; have cx2 := blk_cell HU.out; have hz0 := blk_lt HX.out; have hz1 := blk_lt HG.out; have hz2 := blk_lt HU.out; clear hb))))
      all_goals try (go_ret; exact .inr ⟨rfl, fun h => by (obtain ⟨q1, q2, q3, q4, q5, q6, q7, q8, q9, q10, q11⟩ := h.2.2.2.2.2.2.1 _ (rdmem (z := z76) hi0 hlt)); first | exact HP.out.1 q1 | exact HP.out.1 q2 | exact HP.out.1 q3 | exact HP.out.1 q4 | exact HP.out.1 q5 | exact HP.out.1 q6 | exact HP.out.1 q7 | exact HP.out.1 q8 | exact HP.out.1 q9 | exact HP.out.1 q10 | exact HP.out.1 q11, HB.out⟩; done)
      have K1 := Aside0.mk (show SessionP ip b nx us.length (rd_T76 ss i) from ⟨HP.out.2.2.2.2.2.2.2.2.2.2.1, HP.out.2.2.2.2.2.2.2.2.2.1, HP.out.2.2.2.2.2.2.2.2.1, HP.out.2.2.2.2.2.2.1, HP.out.2.2.2.2.2.2.2.1, HP.out.2.2.2.2.2.1, HP.out.2.2.2.2.1, HP.out.2.2.2.1, HP.out.2.2.1, HP.out.2.1, HP.out.1⟩)
      clear HP hrow cx0 cx1 cx2 hz0 hz1 hz2
      go_loopg [7] i.toNat (fun gg v w' => ∃ k : Int, v = .int .i64 k ∧ 0 ≤ k ∧ k ≤ i ∧ i - k ≤ gg ∧ Aside0 (Below w.heap.size w w') ∧ Aside0 (w'.heap[w.heap.size]? = some (.cells #[.int .i64 ip, .int .i64 b, .int .i64 gate, .string gm, .string wm, .int .i64 res, .slice A6 g.length c6, .slice A7 l.length c7] 41 (0, 0))) ∧ Aside0 (w'.heap[w.heap.size + 1]? = some (.cells #[.slice B0 us.length d0, .slice (some ad) ss.length d1, .slice B2 fs.length d2, .slice B3 rs.length d3, .int .i64 nx] 48 (0, 0))) ∧ Aside0 (w'.heap[wo.heap.size]? = some (.cells #[.int .i64 (rd_T76 ss i).f0, .int .i64 (rd_T76 ss i).f1, .string (rd_T76 ss i).f2, .int .i64 (rd_T76 ss i).f3, .int .i64 (rd_T76 ss i).f4, .int .i64 (rd_T76 ss i).f5, .int .i64 (rd_T76 ss i).f6, .int .i64 (rd_T76 ss i).f7, .int .i64 (rd_T76 ss i).f8, .int .i64 (rd_T76 ss i).f9] 76 (0, 0))) ∧ Aside0 (∀ j : Int, 0 ≤ j → j < k → SepP ss j i))
      case atStart => exact ⟨0, rfl, Int.le_refl _, by omega, by omega, HB, HX, HG, HU, ⟨fun j h0 h1 => by omega⟩⟩
      case round =>
        clear HB HX HG HU
        obtain ⟨k, rfl, hk0, hk, hkg, HB, HX, HG, HU, HT⟩ := hrel
        have cx1 := blk_cell HG.out
        have hz1 := blk_lt HG.out
        by_cases hkl : k < i
        · obtain ⟨ad2, eA2, hrow⟩ := at_T76 (Kd.C_below H0.out.2.2.2.1 HB.out) k hk0 (by omega)
          obtain rfl : ad = ad2 := Option.some.inj eA2
          have cx2 := blk_cell HU.out
          have hz2 := blk_lt HU.out
          have hk2 : k < (ss.length : Int) := by omega
          rcases dec_em ((rd_T76 ss k).f0 ≥ (rd_T76 ss i).f0) with ⟨k5, b5⟩ | ⟨k5, b5⟩
          rotate_left
          rcases beq_em (rd_T76 ss k).f1 (rd_T76 ss i).f1 with ⟨b6, k6⟩ | ⟨b6, k6⟩
          rotate_left
          rcases beq_emS (rd_T76 ss k).f2 (rd_T76 ss i).f2 with ⟨b7, k7⟩ | ⟨b7, k7⟩
          rotate_left
          rcases beq_em (rd_T76 ss k).f3 (rd_T76 ss i).f3 with ⟨b8, k8⟩ | ⟨b8, k8⟩
          rotate_left
          · go_wp2
            clear cx1 hz1 cx2 hz2 hrow
            go_roundg (i - (k + 1)).toNat
            case measure => omega
            case rel => exact ⟨k + 1, rfl, by omega, by omega, by omega, ⟨below_alloc HB.out _⟩, ⟨blk_alloc HX.out _⟩, ⟨blk_alloc HG.out _⟩, ⟨blk_alloc HU.out _⟩, ⟨fun j h0 h1 => by
              by_cases hj : j < k
              · exact HT.out j h0 hj
              · obtain rfl : j = k := by omega
                exact ⟨by omega, fun h => by rcases h with h | h | h; exact k6.out h; exact k7.out h; exact k8.out h⟩⟩⟩
          all_goals
            go_wp2
            go_ret
            refine .inr ⟨rfl, fun h => ?_, below_alloc HB.out _⟩
            have q := sep_of h.2.2.2.2.2.2.2.1 hk0 hkl hlt
            first
            | exact absurd q.1 (by omega)
            | exact q.2 (.inl k6.out)
            | exact q.2 (.inr (.inl k7.out))
            | exact q.2 (.inr (.inr k8.out))
        · obtain rfl : k = i := by omega
          have K2 := Aside0.mk (apart_of hi0 hlt HT.out)
          clear cx1 hz1 HT HU
          go_wp2
          go_roundg (ss.length - (k + 1)).toNat
          case measure => omega
          case rel => exact ⟨k + 1, rfl, by omega, by omega, by omega, HB, HX, HG, ⟨fun j h0 h1 => by
            by_cases hj : j < k
            · exact HA.out j h0 hj
            · obtain rfl : j = k := by omega
              exact K1.out⟩, ⟨fun j h0 h1 => by
            by_cases hj : j < k
            · exact HS.out j h0 hj
            · obtain rfl : j = k := by omega
              exact K2.out⟩⟩
    · as_aux_lemma =>
      obtain rfl : i = ss.length := by omega
      have HSS := Aside0.mk (And.intro (all_of rfl HA.out) HS.out)
      clear HA HS hi0 hi hgg hlt HP cx0 cx1 hz0 hz1
      have cx1 := blk_cell HG.out
      have hz1 := blk_lt HG.out
      go_wp2
      clear cx1 hz1
      go_loopg [9] fs.length (fun gg v w' => ∃ i : Int, v = .int .i64 i ∧ 0 ≤ i ∧ i ≤ fs.length ∧ fs.length - i ≤ gg ∧ Aside0 (Below w.heap.size w w') ∧ Aside0 (w'.heap[w.heap.size]? = some (.cells #[.int .i64 ip, .int .i64 b, .int .i64 gate, .string gm, .string wm, .int .i64 res, .slice A6 g.length c6, .slice A7 l.length c7] 41 (0, 0))) ∧ Aside0 (w'.heap[w.heap.size + 1]? = some (.cells #[.slice B0 us.length d0, .slice B1 ss.length d1, .slice B2 fs.length d2, .slice B3 rs.length d3, .int .i64 nx] 48 (0, 0))) ∧ Aside0 (∀ j : Int, 0 ≤ j → j < i → FailP (fs.getD j.toNat z81)) ∧ Aside0 (∀ j : Int, 0 ≤ j → j < i → FailUpP fs j))
      case atStart => exact ⟨0, rfl, Int.le_refl _, by omega, by omega, HB, HX, HG, ⟨fun j h0 h1 => by omega⟩, ⟨fun j h0 h1 => by omega⟩⟩
      case round =>
        clear HB HX HG
        obtain ⟨i, rfl, hi0, hi, hgg, HB, HX, HG, HA, HS⟩ := hrel
        have cx1 := blk_cell HG.out
        have hz1 := blk_lt HG.out
        by_cases hlt : i < fs.length
        · as_aux_lemma =>
          obtain ⟨ad, eA, hrow⟩ := at_T81 (Kd.C_below H0.out.2.2.2.2.1 HB.out) i hi0 hlt
          have HM := Aside0.mk (HZ.out.2.2.2 _ (rdmem (z := z81) hi0 hlt))
          subst eA
          go_wp2
          clear cx1 hz1
          generalize hW : wr.alloc (.cells #[.string (rd_T81 fs i).f0, .int .i64 (rd_T81 fs i).f1, .int .i64 (rd_T81 fs i).f2] 81 (0, 0)) = W0 at *
          have hB0 : Below wr.heap.size wr W0 := by rw [← hW]; exact below_alloc (Below.refl _ _) _
          have hub : W0.heap[wr.heap.size]? = some (.cells #[.string (rd_T81 fs i).f0, .int .i64 (rd_T81 fs i).f1, .int .i64 (rd_T81 fs i).f2] 81 (0, 0)) := by rw [← hW]; exact blk_new _ _
          have n_ := And.intro (Aside0.mk (below_step HB.out hB0)) (And.intro (Aside0.mk (blk_below HX.out hB0)) (Aside0.mk (blk_below HG.out hB0)))
          clear HB HX HG
          obtain ⟨HB, HX, HG⟩ := n_
          clear hB0 hW hrow
          rcases Classical.em ((rd_T81 fs i).f0.size = 6) with k1 | k1 <;> (have K1 := Aside0.mk k1; clear k1)
          rotate_left
          · as_aux_lemma =>
            refine qS (fun w' => w'.cell? ⟨wr.heap.size, 0, none⟩ = some (.string (rd_T81 fs i).f0) ∧ w'.cell? ⟨wr.heap.size, 1, none⟩ = some (.int .i64 (rd_T81 fs i).f1) ∧ w'.cell? ⟨wr.heap.size, 2, none⟩ = some (.int .i64 (rd_T81 fs i).f2) ∧ w'.cell? ⟨w.heap.size + 1, 2, none⟩ = some (.slice (some ad) fs.length d2)) 32 ⟨blk_cell hub 0, blk_cell hub 1, blk_cell hub 2, blk_cell HG.out 2⟩ (fun hs => ?_)
            have n_ := Aside0.mk (below_drew1 HB.out)
            clear HB
            have HB := n_
            clear n_
            have n_ := Aside0.mk (blk_drew HX.out)
            clear HX
            have HX := n_
            clear n_
            have n_ := Aside0.mk (blk_drew HG.out)
            clear HG
            have HG := n_
            clear n_
            refine qP 0 186 ?_
            refine qT 1 187 hs ?_
            refine q1 2 188 (fun K hK => ?_)
            refine qC Tryz.func36 _ ?_
            refine (sMac1 _ _).mono ?_
            intro e w2 h2
            obtain ⟨rfl, hb⟩ := h2.no K1.out
            have n_ := Aside0.mk (below_step HB.out hb)
            clear HB
            have HB := n_
            clear n_
            have n_ := Aside0.mk (blk_below HX.out hb)
            clear HX
            have HX := n_
            clear n_
            have n_ := Aside0.mk (blk_below HG.out hb)
            clear HG
            have HG := n_
            clear n_
            refine ⟨_, rfl, hK.out _ _ ⟨pw_cell_below hb hs.1, pw_cell_below hb hs.2.1, pw_cell_below hb hs.2.2.1, pw_cell_below hb hs.2.2.2⟩ (fun hs2 => ?_)⟩
            clear hK K hs hb
            have hs := hs2
            clear hs2
            refine qN ?_
            refine qP 3 189 ?_
            refine qP 4 190 ?_
            refine qU 5 191 ?_
            refine qU 6 192 ?_
            refine qU 7 193 ?_
            refine qU 8 194 ?_
            refine qP 9 195 ?_
            refine qP 10 196 ?_
            refine qU 11 197 ?_
            refine qU 12 198 ?_
            refine qU 13 199 ?_
            refine qU 14 200 ?_
            refine qP 15 201 ?_
            refine qP 16 202 ?_
            refine qU 17 203 ?_
            refine qU 18 204 ?_
            refine qU 19 205 ?_
            refine qU 20 206 ?_
            refine qU 21 207 ?_
            refine qU 22 208 ?_
            refine qU 23 209 ?_
            refine qU 24 210 ?_
            refine qU 25 211 ?_
            refine qU 26 212 ?_
            refine qU 27 213 ?_
            refine qU 28 214 ?_
            refine qU 29 215 ?_
            refine qU 30 216 ?_
            refine qP 31 217 ?_
            refine qD ?_
            clear hs
            go_wp2
            go_ret
            exact .inr ⟨rfl, fun h => K1.out (h.2.2.2.2.2.2.2.2.1 _ (rdmem (z := z81) hi0 hlt)).1, HB.out⟩
          rcases Classical.em (0 ≤ (rd_T81 fs i).f1 ∧ (rd_T81 fs i).f1 ≤ 2) with k1 | k1 <;> (have K2 := Aside0.mk k1; clear k1)
          rotate_left
          · as_aux_lemma =>
            refine qS (fun w' => w'.cell? ⟨wr.heap.size, 0, none⟩ = some (.string (rd_T81 fs i).f0) ∧ w'.cell? ⟨wr.heap.size, 1, none⟩ = some (.int .i64 (rd_T81 fs i).f1) ∧ w'.cell? ⟨wr.heap.size, 2, none⟩ = some (.int .i64 (rd_T81 fs i).f2) ∧ w'.cell? ⟨w.heap.size + 1, 2, none⟩ = some (.slice (some ad) fs.length d2)) 32 ⟨blk_cell hub 0, blk_cell hub 1, blk_cell hub 2, blk_cell HG.out 2⟩ (fun hs => ?_)
            have n_ := Aside0.mk (below_drew1 HB.out)
            clear HB
            have HB := n_
            clear n_
            have n_ := Aside0.mk (blk_drew HX.out)
            clear HX
            have HX := n_
            clear n_
            have n_ := Aside0.mk (blk_drew HG.out)
            clear HG
            have HG := n_
            clear n_
            refine qP 0 186 ?_
            refine qT 1 187 hs ?_
            refine q1 2 188 (fun K hK => ?_)
            refine qC Tryz.func36 _ ?_
            refine (sMac1 _ _).mono ?_
            intro e w2 h2
            obtain ⟨rfl, hb⟩ := h2.yes K1.out
            have n_ := Aside0.mk (below_step HB.out hb)
            clear HB
            have HB := n_
            clear n_
            have n_ := Aside0.mk (blk_below HX.out hb)
            clear HX
            have HX := n_
            clear n_
            have n_ := Aside0.mk (blk_below HG.out hb)
            clear HG
            have HG := n_
            clear n_
            refine ⟨_, rfl, hK.out _ _ ⟨pw_cell_below hb hs.1, pw_cell_below hb hs.2.1, pw_cell_below hb hs.2.2.1, pw_cell_below hb hs.2.2.2⟩ (fun hs2 => ?_)⟩
            clear hK K hs hb
            have hs := hs2
            clear hs2
            refine qN ?_
            refine qP 3 189 ?_
            refine qP 4 190 ?_
            refine qP 5 191 ?_
            refine qT 6 192 hs ?_
            refine q1 7 193 (fun K hK => ?_)
            refine qC Tryz.func35 _ ?_
            refine (sIn1 _ _ _ _).mono ?_
            intro e w2 h2
            obtain ⟨rfl, hb⟩ := h2.no K2.out
            have n_ := Aside0.mk (below_step HB.out hb)
            clear HB
            have HB := n_
            clear n_
            have n_ := Aside0.mk (blk_below HX.out hb)
            clear HX
            have HX := n_
            clear n_
            have n_ := Aside0.mk (blk_below HG.out hb)
            clear HG
            have HG := n_
            clear n_
            refine ⟨_, rfl, hK.out _ _ ⟨pw_cell_below hb hs.1, pw_cell_below hb hs.2.1, pw_cell_below hb hs.2.2.1, pw_cell_below hb hs.2.2.2⟩ (fun hs2 => ?_)⟩
            clear hK K hs hb
            have hs := hs2
            clear hs2
            refine qN ?_
            refine qP 8 194 ?_
            refine qP 9 195 ?_
            refine qP 10 196 ?_
            refine qU 11 197 ?_
            refine qU 12 198 ?_
            refine qU 13 199 ?_
            refine qU 14 200 ?_
            refine qP 15 201 ?_
            refine qP 16 202 ?_
            refine qU 17 203 ?_
            refine qU 18 204 ?_
            refine qU 19 205 ?_
            refine qU 20 206 ?_
            refine qU 21 207 ?_
            refine qU 22 208 ?_
            refine qU 23 209 ?_
            refine qU 24 210 ?_
            refine qU 25 211 ?_
            refine qU 26 212 ?_
            refine qU 27 213 ?_
            refine qU 28 214 ?_
            refine qU 29 215 ?_
            refine qU 30 216 ?_
            refine qP 31 217 ?_
            refine qD ?_
            clear hs
            go_wp2
            go_ret
            exact .inr ⟨rfl, fun h => K2.out (h.2.2.2.2.2.2.2.2.1 _ (rdmem (z := z81) hi0 hlt)).2.1, HB.out⟩
          rcases Classical.em (0 ≤ (rd_T81 fs i).f2 ∧ (rd_T81 fs i).f2 ≤ 100010) with k1 | k1 <;> (have K3 := Aside0.mk k1; clear k1)
          rotate_left
          · as_aux_lemma =>
            refine qS (fun w' => w'.cell? ⟨wr.heap.size, 0, none⟩ = some (.string (rd_T81 fs i).f0) ∧ w'.cell? ⟨wr.heap.size, 1, none⟩ = some (.int .i64 (rd_T81 fs i).f1) ∧ w'.cell? ⟨wr.heap.size, 2, none⟩ = some (.int .i64 (rd_T81 fs i).f2) ∧ w'.cell? ⟨w.heap.size + 1, 2, none⟩ = some (.slice (some ad) fs.length d2)) 32 ⟨blk_cell hub 0, blk_cell hub 1, blk_cell hub 2, blk_cell HG.out 2⟩ (fun hs => ?_)
            have n_ := Aside0.mk (below_drew1 HB.out)
            clear HB
            have HB := n_
            clear n_
            have n_ := Aside0.mk (blk_drew HX.out)
            clear HX
            have HX := n_
            clear n_
            have n_ := Aside0.mk (blk_drew HG.out)
            clear HG
            have HG := n_
            clear n_
            refine qP 0 186 ?_
            refine qT 1 187 hs ?_
            refine q1 2 188 (fun K hK => ?_)
            refine qC Tryz.func36 _ ?_
            refine (sMac1 _ _).mono ?_
            intro e w2 h2
            obtain ⟨rfl, hb⟩ := h2.yes K1.out
            have n_ := Aside0.mk (below_step HB.out hb)
            clear HB
            have HB := n_
            clear n_
            have n_ := Aside0.mk (blk_below HX.out hb)
            clear HX
            have HX := n_
            clear n_
            have n_ := Aside0.mk (blk_below HG.out hb)
            clear HG
            have HG := n_
            clear n_
            refine ⟨_, rfl, hK.out _ _ ⟨pw_cell_below hb hs.1, pw_cell_below hb hs.2.1, pw_cell_below hb hs.2.2.1, pw_cell_below hb hs.2.2.2⟩ (fun hs2 => ?_)⟩
            clear hK K hs hb
            have hs := hs2
            clear hs2
            refine qN ?_
            refine qP 3 189 ?_
            refine qP 4 190 ?_
            refine qP 5 191 ?_
            refine qT 6 192 hs ?_
            refine q1 7 193 (fun K hK => ?_)
            refine qC Tryz.func35 _ ?_
            refine (sIn1 _ _ _ _).mono ?_
            intro e w2 h2
            obtain ⟨rfl, hb⟩ := h2.yes K2.out
            have n_ := Aside0.mk (below_step HB.out hb)
            clear HB
            have HB := n_
            clear n_
            have n_ := Aside0.mk (blk_below HX.out hb)
            clear HX
            have HX := n_
            clear n_
            have n_ := Aside0.mk (blk_below HG.out hb)
            clear HG
            have HG := n_
            clear n_
            refine ⟨_, rfl, hK.out _ _ ⟨pw_cell_below hb hs.1, pw_cell_below hb hs.2.1, pw_cell_below hb hs.2.2.1, pw_cell_below hb hs.2.2.2⟩ (fun hs2 => ?_)⟩
            clear hK K hs hb
            have hs := hs2
            clear hs2
            refine qN ?_
            refine qP 8 194 ?_
            refine qP 9 195 ?_
            refine qP 10 196 ?_
            refine qP 11 197 ?_
            refine qT 12 198 hs ?_
            refine q1 13 199 (fun K hK => ?_)
            refine qC Tryz.func35 _ ?_
            refine (sIn1 _ _ _ _).mono ?_
            intro e w2 h2
            obtain ⟨rfl, hb⟩ := h2.no K3.out
            have n_ := Aside0.mk (below_step HB.out hb)
            clear HB
            have HB := n_
            clear n_
            have n_ := Aside0.mk (blk_below HX.out hb)
            clear HX
            have HX := n_
            clear n_
            have n_ := Aside0.mk (blk_below HG.out hb)
            clear HG
            have HG := n_
            clear n_
            refine ⟨_, rfl, hK.out _ _ ⟨pw_cell_below hb hs.1, pw_cell_below hb hs.2.1, pw_cell_below hb hs.2.2.1, pw_cell_below hb hs.2.2.2⟩ (fun hs2 => ?_)⟩
            clear hK K hs hb
            have hs := hs2
            clear hs2
            refine qN ?_
            refine qP 14 200 ?_
            refine qP 15 201 ?_
            refine qP 16 202 ?_
            refine qU 17 203 ?_
            refine qU 18 204 ?_
            refine qU 19 205 ?_
            refine qU 20 206 ?_
            refine qU 21 207 ?_
            refine qU 22 208 ?_
            refine qU 23 209 ?_
            refine qU 24 210 ?_
            refine qU 25 211 ?_
            refine qU 26 212 ?_
            refine qU 27 213 ?_
            refine qU 28 214 ?_
            refine qU 29 215 ?_
            refine qU 30 216 ?_
            refine qP 31 217 ?_
            refine qD ?_
            clear hs
            go_wp2
            go_ret
            exact .inr ⟨rfl, fun h => K3.out (h.2.2.2.2.2.2.2.2.1 _ (rdmem (z := z81) hi0 hlt)).2.2, HB.out⟩
          rcases dec_em (0 < i) with ⟨k7, b7⟩ | ⟨k7, b7⟩
          rotate_left
          · as_aux_lemma =>
            refine qS (fun w' => w'.cell? ⟨wr.heap.size, 0, none⟩ = some (.string (rd_T81 fs i).f0) ∧ w'.cell? ⟨wr.heap.size, 1, none⟩ = some (.int .i64 (rd_T81 fs i).f1) ∧ w'.cell? ⟨wr.heap.size, 2, none⟩ = some (.int .i64 (rd_T81 fs i).f2) ∧ w'.cell? ⟨w.heap.size + 1, 2, none⟩ = some (.slice (some ad) fs.length d2)) 32 ⟨blk_cell hub 0, blk_cell hub 1, blk_cell hub 2, blk_cell HG.out 2⟩ (fun hs => ?_)
            have n_ := Aside0.mk (below_drew1 HB.out)
            clear HB
            have HB := n_
            clear n_
            have n_ := Aside0.mk (blk_drew HX.out)
            clear HX
            have HX := n_
            clear n_
            have n_ := Aside0.mk (blk_drew HG.out)
            clear HG
            have HG := n_
            clear n_
            refine qP 0 186 ?_
            refine qT 1 187 hs ?_
            refine q1 2 188 (fun K hK => ?_)
            refine qC Tryz.func36 _ ?_
            refine (sMac1 _ _).mono ?_
            intro e w2 h2
            obtain ⟨rfl, hb⟩ := h2.yes K1.out
            have n_ := Aside0.mk (below_step HB.out hb)
            clear HB
            have HB := n_
            clear n_
            have n_ := Aside0.mk (blk_below HX.out hb)
            clear HX
            have HX := n_
            clear n_
            have n_ := Aside0.mk (blk_below HG.out hb)
            clear HG
            have HG := n_
            clear n_
            refine ⟨_, rfl, hK.out _ _ ⟨pw_cell_below hb hs.1, pw_cell_below hb hs.2.1, pw_cell_below hb hs.2.2.1, pw_cell_below hb hs.2.2.2⟩ (fun hs2 => ?_)⟩
            clear hK K hs hb
            have hs := hs2
            clear hs2
            refine qN ?_
            refine qP 3 189 ?_
            refine qP 4 190 ?_
            refine qP 5 191 ?_
            refine qT 6 192 hs ?_
            refine q1 7 193 (fun K hK => ?_)
            refine qC Tryz.func35 _ ?_
            refine (sIn1 _ _ _ _).mono ?_
            intro e w2 h2
            obtain ⟨rfl, hb⟩ := h2.yes K2.out
            have n_ := Aside0.mk (below_step HB.out hb)
            clear HB
            have HB := n_
            clear n_
            have n_ := Aside0.mk (blk_below HX.out hb)
            clear HX
            have HX := n_
            clear n_
            have n_ := Aside0.mk (blk_below HG.out hb)
            clear HG
            have HG := n_
            clear n_
            refine ⟨_, rfl, hK.out _ _ ⟨pw_cell_below hb hs.1, pw_cell_below hb hs.2.1, pw_cell_below hb hs.2.2.1, pw_cell_below hb hs.2.2.2⟩ (fun hs2 => ?_)⟩
            clear hK K hs hb
            have hs := hs2
            clear hs2
            refine qN ?_
            refine qP 8 194 ?_
            refine qP 9 195 ?_
            refine qP 10 196 ?_
            refine qP 11 197 ?_
            refine qT 12 198 hs ?_
            refine q1 13 199 (fun K hK => ?_)
            refine qC Tryz.func35 _ ?_
            refine (sIn1 _ _ _ _).mono ?_
            intro e w2 h2
            obtain ⟨rfl, hb⟩ := h2.yes K3.out
            have n_ := Aside0.mk (below_step HB.out hb)
            clear HB
            have HB := n_
            clear n_
            have n_ := Aside0.mk (blk_below HX.out hb)
            clear HX
            have HX := n_
            clear n_
            have n_ := Aside0.mk (blk_below HG.out hb)
            clear HG
            have HG := n_
            clear n_
            refine ⟨_, rfl, hK.out _ _ ⟨pw_cell_below hb hs.1, pw_cell_below hb hs.2.1, pw_cell_below hb hs.2.2.1, pw_cell_below hb hs.2.2.2⟩ (fun hs2 => ?_)⟩
            clear hK K hs hb
            have hs := hs2
            clear hs2
            refine qN ?_
            refine qP 14 200 ?_
            refine qP 15 201 ?_
            refine qP 16 202 ?_
            refine qP 17 203 ?_
            refine qP 18 204 ?_
            refine qP 19 205 ?_
            refine qU 20 206 ?_
            refine qU 21 207 ?_
            refine qU 22 208 ?_
            refine qU 23 209 ?_
            refine qU 24 210 ?_
            refine qU 25 211 ?_
            refine qU 26 212 ?_
            refine qU 27 213 ?_
            refine qU 28 214 ?_
            refine qU 29 215 ?_
            refine qP 30 216 ?_
            refine qP 31 217 ?_
            refine qD ?_
            clear hs
            go_wp2
            go_roundg (fs.length - (i + 1)).toNat
            case measure => omega
            case rel => exact ⟨i + 1, rfl, by omega, by omega, by omega, HB, HX, HG, ⟨fun j h0 h1 => by
              by_cases hj : j < i
              · exact HA.out j h0 hj
              · obtain rfl : j = i := by omega
                exact ⟨K1.out, K2.out, K3.out⟩⟩, ⟨fun j h0 h1 => by
              by_cases hj : j < i
              · exact HS.out j h0 hj
              · intro h2; omega⟩⟩
          obtain ⟨pd, eP, q0, _⟩ := at_T81 (Kd.C_below H0.out.2.2.2.2.1 HB.out) (i - 1) (by omega) (by omega)
          obtain rfl : ad = pd := Option.some.inj eP
          have hwr : IntKind.i64.wrap (i - 1) = i - 1 := i64id (by omega) (by omega)
          have h1m : 1 ≤ i := by omega
          have h2m : i - 1 < (fs.length : Int) := by omega
          rw [show (i - 1).toNat = i.toNat - 1 by omega] at q0
          clear eP
          rcases bool_em (Op.bytesLess (rd_T81 fs (i - 1)).f0.toList (rd_T81 fs i).f0.toList) with k8 | k8
          · as_aux_lemma =>
            have K8 := Aside0.mk k8
            refine qS (fun w' => w'.cell? ⟨wr.heap.size, 0, none⟩ = some (.string (rd_T81 fs i).f0) ∧ w'.cell? ⟨wr.heap.size, 1, none⟩ = some (.int .i64 (rd_T81 fs i).f1) ∧ w'.cell? ⟨wr.heap.size, 2, none⟩ = some (.int .i64 (rd_T81 fs i).f2) ∧ w'.cell? ⟨w.heap.size + 1, 2, none⟩ = some (.slice (some ad) fs.length d2) ∧ w'.cell? (ad.add ((i.toNat - 1) * 3)) = some (.string (rd_T81 fs (i - 1)).f0)) 32 ⟨blk_cell hub 0, blk_cell hub 1, blk_cell hub 2, blk_cell HG.out 2, q0⟩ (fun hs => ?_)
            have n_ := Aside0.mk (below_drew1 HB.out)
            clear HB
            have HB := n_
            clear n_
            have n_ := Aside0.mk (blk_drew HX.out)
            clear HX
            have HX := n_
            clear n_
            have n_ := Aside0.mk (blk_drew HG.out)
            clear HG
            have HG := n_
            clear n_
            refine qP 0 186 ?_
            refine qT 1 187 hs ?_
            refine q1 2 188 (fun K hK => ?_)
            refine qC Tryz.func36 _ ?_
            refine (sMac1 _ _).mono ?_
            intro e w2 h2
            obtain ⟨rfl, hb⟩ := h2.yes K1.out
            have n_ := Aside0.mk (below_step HB.out hb)
            clear HB
            have HB := n_
            clear n_
            have n_ := Aside0.mk (blk_below HX.out hb)
            clear HX
            have HX := n_
            clear n_
            have n_ := Aside0.mk (blk_below HG.out hb)
            clear HG
            have HG := n_
            clear n_
            refine ⟨_, rfl, hK.out _ _ ⟨pw_cell_below hb hs.1, pw_cell_below hb hs.2.1, pw_cell_below hb hs.2.2.1, pw_cell_below hb hs.2.2.2.1, pw_cell_below hb hs.2.2.2.2⟩ (fun hs2 => ?_)⟩
            clear hK K hs hb
            have hs := hs2
            clear hs2
            refine qN ?_
            refine qP 3 189 ?_
            refine qP 4 190 ?_
            refine qP 5 191 ?_
            refine qT 6 192 hs ?_
            refine q1 7 193 (fun K hK => ?_)
            refine qC Tryz.func35 _ ?_
            refine (sIn1 _ _ _ _).mono ?_
            intro e w2 h2
            obtain ⟨rfl, hb⟩ := h2.yes K2.out
            have n_ := Aside0.mk (below_step HB.out hb)
            clear HB
            have HB := n_
            clear n_
            have n_ := Aside0.mk (blk_below HX.out hb)
            clear HX
            have HX := n_
            clear n_
            have n_ := Aside0.mk (blk_below HG.out hb)
            clear HG
            have HG := n_
            clear n_
            refine ⟨_, rfl, hK.out _ _ ⟨pw_cell_below hb hs.1, pw_cell_below hb hs.2.1, pw_cell_below hb hs.2.2.1, pw_cell_below hb hs.2.2.2.1, pw_cell_below hb hs.2.2.2.2⟩ (fun hs2 => ?_)⟩
            clear hK K hs hb
            have hs := hs2
            clear hs2
            refine qN ?_
            refine qP 8 194 ?_
            refine qP 9 195 ?_
            refine qP 10 196 ?_
            refine qP 11 197 ?_
            refine qT 12 198 hs ?_
            refine q1 13 199 (fun K hK => ?_)
            refine qC Tryz.func35 _ ?_
            refine (sIn1 _ _ _ _).mono ?_
            intro e w2 h2
            obtain ⟨rfl, hb⟩ := h2.yes K3.out
            have n_ := Aside0.mk (below_step HB.out hb)
            clear HB
            have HB := n_
            clear n_
            have n_ := Aside0.mk (blk_below HX.out hb)
            clear HX
            have HX := n_
            clear n_
            have n_ := Aside0.mk (blk_below HG.out hb)
            clear HG
            have HG := n_
            clear n_
            refine ⟨_, rfl, hK.out _ _ ⟨pw_cell_below hb hs.1, pw_cell_below hb hs.2.1, pw_cell_below hb hs.2.2.1, pw_cell_below hb hs.2.2.2.1, pw_cell_below hb hs.2.2.2.2⟩ (fun hs2 => ?_)⟩
            clear hK K hs hb
            have hs := hs2
            clear hs2
            refine qN ?_
            refine qP 14 200 ?_
            refine qP 15 201 ?_
            refine qP 16 202 ?_
            refine qP 17 203 ?_
            refine qP 18 204 ?_
            refine qP 19 205 ?_
            refine qP 20 206 ?_
            refine qP 22 208 ?_
            refine qP 23 209 ?_
            refine qP 27 213 ?_
            refine qT 21 207 hs ?_
            refine qP 24 210 ?_
            refine qP 25 211 ?_
            refine qT 26 212 hs ?_
            refine qT 28 214 hs ?_
            refine qP 29 215 ?_
            refine qP 30 216 ?_
            refine qP 31 217 ?_
            refine qD ?_
            clear hs
            clear k8 q0 hwr h1m h2m
            go_wp2
            go_roundg (fs.length - (i + 1)).toNat
            case measure => omega
            case rel => exact ⟨i + 1, rfl, by omega, by omega, by omega, HB, HX, HG, ⟨fun j h0 h1 => by
              by_cases hj : j < i
              · exact HA.out j h0 hj
              · obtain rfl : j = i := by omega
                exact ⟨K1.out, K2.out, K3.out⟩⟩, ⟨fun j h0 h1 => by
              by_cases hj : j < i
              · exact HS.out j h0 hj
              · obtain rfl : j = i := by omega
                exact fun _ => K8.out⟩⟩
          · refine qS (fun w' => w'.cell? ⟨wr.heap.size, 0, none⟩ = some (.string (rd_T81 fs i).f0) ∧ w'.cell? ⟨wr.heap.size, 1, none⟩ = some (.int .i64 (rd_T81 fs i).f1) ∧ w'.cell? ⟨wr.heap.size, 2, none⟩ = some (.int .i64 (rd_T81 fs i).f2) ∧ w'.cell? ⟨w.heap.size + 1, 2, none⟩ = some (.slice (some ad) fs.length d2) ∧ w'.cell? (ad.add ((i.toNat - 1) * 3)) = some (.string (rd_T81 fs (i - 1)).f0)) 32 ⟨blk_cell hub 0, blk_cell hub 1, blk_cell hub 2, blk_cell HG.out 2, q0⟩ (fun hs => ?_)
            have n_ := Aside0.mk (below_drew1 HB.out)
            clear HB
            have HB := n_
            clear n_
            have n_ := Aside0.mk (blk_drew HX.out)
            clear HX
            have HX := n_
            clear n_
            have n_ := Aside0.mk (blk_drew HG.out)
            clear HG
            have HG := n_
            clear n_
            refine qP 0 186 ?_
            refine qT 1 187 hs ?_
            refine q1 2 188 (fun K hK => ?_)
            refine qC Tryz.func36 _ ?_
            refine (sMac1 _ _).mono ?_
            intro e w2 h2
            obtain ⟨rfl, hb⟩ := h2.yes K1.out
            have n_ := Aside0.mk (below_step HB.out hb)
            clear HB
            have HB := n_
            clear n_
            have n_ := Aside0.mk (blk_below HX.out hb)
            clear HX
            have HX := n_
            clear n_
            have n_ := Aside0.mk (blk_below HG.out hb)
            clear HG
            have HG := n_
            clear n_
            refine ⟨_, rfl, hK.out _ _ ⟨pw_cell_below hb hs.1, pw_cell_below hb hs.2.1, pw_cell_below hb hs.2.2.1, pw_cell_below hb hs.2.2.2.1, pw_cell_below hb hs.2.2.2.2⟩ (fun hs2 => ?_)⟩
            clear hK K hs hb
            have hs := hs2
            clear hs2
            refine qN ?_
            refine qP 3 189 ?_
            refine qP 4 190 ?_
            refine qP 5 191 ?_
            refine qT 6 192 hs ?_
            refine q1 7 193 (fun K hK => ?_)
            refine qC Tryz.func35 _ ?_
            refine (sIn1 _ _ _ _).mono ?_
            intro e w2 h2
            obtain ⟨rfl, hb⟩ := h2.yes K2.out
            have n_ := Aside0.mk (below_step HB.out hb)
            clear HB
            have HB := n_
            clear n_
            have n_ := Aside0.mk (blk_below HX.out hb)
            clear HX
            have HX := n_
            clear n_
            have n_ := Aside0.mk (blk_below HG.out hb)
            clear HG
            have HG := n_
            clear n_
            refine ⟨_, rfl, hK.out _ _ ⟨pw_cell_below hb hs.1, pw_cell_below hb hs.2.1, pw_cell_below hb hs.2.2.1, pw_cell_below hb hs.2.2.2.1, pw_cell_below hb hs.2.2.2.2⟩ (fun hs2 => ?_)⟩
            clear hK K hs hb
            have hs := hs2
            clear hs2
            refine qN ?_
            refine qP 8 194 ?_
            refine qP 9 195 ?_
            refine qP 10 196 ?_
            refine qP 11 197 ?_
            refine qT 12 198 hs ?_
            refine q1 13 199 (fun K hK => ?_)
            refine qC Tryz.func35 _ ?_
            refine (sIn1 _ _ _ _).mono ?_
            intro e w2 h2
            obtain ⟨rfl, hb⟩ := h2.yes K3.out
            have n_ := Aside0.mk (below_step HB.out hb)
            clear HB
            have HB := n_
            clear n_
            have n_ := Aside0.mk (blk_below HX.out hb)
            clear HX
            have HX := n_
            clear n_
            have n_ := Aside0.mk (blk_below HG.out hb)
            clear HG
            have HG := n_
            clear n_
            refine ⟨_, rfl, hK.out _ _ ⟨pw_cell_below hb hs.1, pw_cell_below hb hs.2.1, pw_cell_below hb hs.2.2.1, pw_cell_below hb hs.2.2.2.1, pw_cell_below hb hs.2.2.2.2⟩ (fun hs2 => ?_)⟩
            clear hK K hs hb
            have hs := hs2
            clear hs2
            refine qN ?_
            refine qP 14 200 ?_
            refine qP 15 201 ?_
            refine qP 16 202 ?_
            refine qP 17 203 ?_
            refine qP 18 204 ?_
            refine qP 19 205 ?_
            refine qP 20 206 ?_
            refine qP 22 208 ?_
            refine qP 23 209 ?_
            refine qP 27 213 ?_
            refine qT 21 207 hs ?_
            refine qP 24 210 ?_
            refine qP 25 211 ?_
            refine qT 26 212 hs ?_
            refine qT 28 214 hs ?_
            refine qP 29 215 ?_
            refine qP 30 216 ?_
            refine qP 31 217 ?_
            refine qD ?_
            clear hs
            go_wp2
            go_ret
            exact .inr ⟨rfl, fun h => absurd (h.2.2.2.2.2.2.2.2.2.1 i hi0 hlt k7) (by rw [k8]; decide), HB.out⟩
        · as_aux_lemma =>
          obtain rfl : i = fs.length := by omega
          have HF := Aside0.mk (And.intro (all_of rfl HA.out) HS.out)
          clear HA HS hi0 hi hgg hlt cx1 hz1
          have cx1 := blk_cell HG.out
          have hz1 := blk_lt HG.out
          go_wp2
          clear cx1 hz1
          go_loopg [11] rs.length (fun gg v w' => ∃ i : Int, v = .int .i64 i ∧ 0 ≤ i ∧ i ≤ rs.length ∧ rs.length - i ≤ gg ∧ Aside0 (Below w.heap.size w w') ∧ Aside0 (w'.heap[w.heap.size]? = some (.cells #[.int .i64 ip, .int .i64 b, .int .i64 gate, .string gm, .string wm, .int .i64 res, .slice A6 g.length c6, .slice A7 l.length c7] 41 (0, 0))) ∧ Aside0 (w'.heap[w.heap.size + 1]? = some (.cells #[.slice B0 us.length d0, .slice B1 ss.length d1, .slice B2 fs.length d2, .slice B3 rs.length d3, .int .i64 nx] 48 (0, 0))) ∧ Aside0 (∀ j : Int, 0 ≤ j → j < i → RecordP nx (rs.getD j.toNat z83)))
          case atStart => exact ⟨0, rfl, Int.le_refl _, by omega, by omega, HB, HX, HG, ⟨fun j h0 h1 => by omega⟩⟩
          case round =>
            clear HB HX HG
            obtain ⟨i, rfl, hi0, hi, hgg, HB, HX, HG, HA⟩ := hrel
            have cx1 := blk_cell HG.out
            have hz1 := blk_lt HG.out
            have cx0 := blk_cell HX.out
            have hz0 := blk_lt HX.out
            have HP := Aside0.mk True.intro
            obtain ⟨wo, rfl⟩ : ∃ wo : World, wo = wr := ⟨_, rfl⟩
            by_cases hlt : i < rs.length
            · as_aux_lemma =>
              obtain ⟨ad, eA, q0, q1, q2, q3, q4⟩ := at_T83 (Kd.C_below H0.out.2.2.2.2.2 HB.out) i hi0 hlt
              subst eA
              rcases bool_em (rd_T83 rs i).f4 with k4 | k4 <;> rcases dec_em (0 < (rd_T83 rs i).f2) with ⟨k5, b5⟩ | ⟨k5, b5⟩
              rotate_left 3
              rcases beq_em (rd_T83 rs i).f3 0 with ⟨b6, k6⟩ | ⟨b6, k6⟩
              all_goals (have K4 := Aside0.mk k4; rw [k4] at q4; clear k4; (try (have bn : ((rd_T83 rs i).f3 != 0) = true := by simp only [bne, b6, Bool.not_false])); (try (have bn : ((rd_T83 rs i).f3 != 0) = false := by simp only [bne, b6, Bool.not_true])))
              · as_aux_lemma =>
                go_wp2_with (first
                  | (go_at_call 35; go_loud (refine (sIn1 _ _ _ _).mono ?_; rintro e w2 (⟨rfl, hr, hb⟩ | ⟨rfl, hr, hb⟩) <;> (have n_ := Aside0.mk (And.intro hr HP.out); clear HP hr; have HP := n_; clear n_; have n_ := Aside0.mk (below_step (w := w) (by repeat' (with_reducible first | exact HB.out | apply below_alloc | apply below_drew1 | refine below_set ?_ (by omega))) hb); clear HB; have HB := n_; clear n_; have n_ := Aside0.mk (blk_below (g := w.heap.size) (o := .cells #[.int .i64 ip, .int .i64 b, .int .i64 gate, .string gm, .string wm, .int .i64 res, .slice A6 g.length c6, .slice A7 l.length c7] 41 (0, 0)) (by repeat' (with_reducible first | exact HX.out | exact blk_new _ _ | refine blk_alloc ?_ _ | refine blk_drew ?_)) hb); (try clear HX); have HX := n_; clear n_; have n_ := Aside0.mk (blk_below (g := w.heap.size + 1) (o := .cells #[.slice B0 us.length d0, .slice B1 ss.length d1, .slice B2 fs.length d2, .slice (some ad) rs.length d3, .int .i64 nx] 48 (0, 0)) (by repeat' (with_reducible first | exact HG.out | exact blk_new _ _ | refine blk_alloc ?_ _ | refine blk_drew ?_)) hb); (try clear HG); have HG := n_; clear n_; have n_ := Aside0.mk (blk_below (g := wo.heap.size) (o := .cells #[.int .i64 (rd_T83 rs i).f0, .int .i64 (rd_T83 rs i).f1, .int .i64 (rd_T83 rs i).f2, .int .i64 (rd_T83 rs i).f3, .bool false] 83 (0, 0)) (by repeat' (with_reducible first | exact HU.out | exact blk_new _ _ | refine blk_alloc ?_ _ | refine blk_drew ?_)) hb); (try clear HU); have HU := n_; clear n_; (try clear cx0 cx1 cx2 hz0 hz1 hz2); have cx0 := blk_cell HX.out; have cx1 := blk_cell HG.out; have cx2 := blk_cell HU.out; have hz0 := blk_lt HX.out; have hz1 := blk_lt HG.out; have hz2 := blk_lt HU.out; clear hb))))
                all_goals go_wp2
                all_goals first
                  | (go_ret; exact .inr ⟨rfl, fun h => by (obtain ⟨q1, q2, q3, q4, q5⟩ := (show RecordP nx (rd_T83 rs i) from h.2.2.2.2.2.2.2.2.2.2 _ (rdmem (z := z83) hi0 hlt))); first | exact HP.out.1 q1 | exact HP.out.1 q2 | exact HP.out.1 q3 | (have z := q4 K4.out; have := HP.out.1; omega) | (have z := q5 K4.out; have := HP.out.1; omega) | (have z := q5 K4.out; exact k6.out z.2), HB.out⟩; done)
                  | (go_roundg (rs.length - (i + 1)).toNat
                     case measure => omega
                     case rel => exact ⟨i + 1, rfl, by omega, by omega, by omega, HB, HX, HG, ⟨fun j h0 h1 => by
                       by_cases hj : j < i
                       · exact HA.out j h0 hj
                       · obtain rfl : j = i := by omega
                         exact (show RecordP nx (rd_T83 rs _) from ⟨HP.out.2.2.2.1, HP.out.2.2.1, HP.out.2.1, fun h => by first | (have := HP.out.1; omega) | exact absurd (K4.out.symm.trans h) (by decide), fun h => by first | exact absurd (K4.out.symm.trans h) (by decide) | exact ⟨by have := HP.out.1; omega, k6.out⟩⟩)⟩⟩)
              · as_aux_lemma =>
                go_wp2_with (first
                  | (go_at_call 35; go_loud (refine (sIn1 _ _ _ _).mono ?_; rintro e w2 (⟨rfl, hr, hb⟩ | ⟨rfl, hr, hb⟩) <;> (have n_ := Aside0.mk (And.intro hr HP.out); clear HP hr; have HP := n_; clear n_; have n_ := Aside0.mk (below_step (w := w) (by repeat' (with_reducible first | exact HB.out | apply below_alloc | apply below_drew1 | refine below_set ?_ (by omega))) hb); clear HB; have HB := n_; clear n_; have n_ := Aside0.mk (blk_below (g := w.heap.size) (o := .cells #[.int .i64 ip, .int .i64 b, .int .i64 gate, .string gm, .string wm, .int .i64 res, .slice A6 g.length c6, .slice A7 l.length c7] 41 (0, 0)) (by repeat' (with_reducible first | exact HX.out | exact blk_new _ _ | refine blk_alloc ?_ _ | refine blk_drew ?_)) hb); (try clear HX); have HX := n_; clear n_; have n_ := Aside0.mk (blk_below (g := w.heap.size + 1) (o := .cells #[.slice B0 us.length d0, .slice B1 ss.length d1, .slice B2 fs.length d2, .slice (some ad) rs.length d3, .int .i64 nx] 48 (0, 0)) (by repeat' (with_reducible first | exact HG.out | exact blk_new _ _ | refine blk_alloc ?_ _ | refine blk_drew ?_)) hb); (try clear HG); have HG := n_; clear n_; have n_ := Aside0.mk (blk_below (g := wo.heap.size) (o := .cells #[.int .i64 (rd_T83 rs i).f0, .int .i64 (rd_T83 rs i).f1, .int .i64 (rd_T83 rs i).f2, .int .i64 (rd_T83 rs i).f3, .bool false] 83 (0, 0)) (by repeat' (with_reducible first | exact HU.out | exact blk_new _ _ | refine blk_alloc ?_ _ | refine blk_drew ?_)) hb); (try clear HU); have HU := n_; clear n_; (try clear cx0 cx1 cx2 hz0 hz1 hz2); have cx0 := blk_cell HX.out; have cx1 := blk_cell HG.out; have cx2 := blk_cell HU.out; have hz0 := blk_lt HX.out; have hz1 := blk_lt HG.out; have hz2 := blk_lt HU.out; clear hb))))
                all_goals go_wp2
                all_goals first
                  | (go_ret; exact .inr ⟨rfl, fun h => by (obtain ⟨q1, q2, q3, q4, q5⟩ := (show RecordP nx (rd_T83 rs i) from h.2.2.2.2.2.2.2.2.2.2 _ (rdmem (z := z83) hi0 hlt))); first | exact HP.out.1 q1 | exact HP.out.1 q2 | exact HP.out.1 q3 | (have z := q4 K4.out; have := HP.out.1; omega) | (have z := q5 K4.out; have := HP.out.1; omega) | (have z := q5 K4.out; exact k6.out z.2), HB.out⟩; done)
                  | (go_roundg (rs.length - (i + 1)).toNat
                     case measure => omega
                     case rel => exact ⟨i + 1, rfl, by omega, by omega, by omega, HB, HX, HG, ⟨fun j h0 h1 => by
                       by_cases hj : j < i
                       · exact HA.out j h0 hj
                       · obtain rfl : j = i := by omega
                         exact (show RecordP nx (rd_T83 rs _) from ⟨HP.out.2.2.2.1, HP.out.2.2.1, HP.out.2.1, fun h => by first | (have := HP.out.1; omega) | exact absurd (K4.out.symm.trans h) (by decide), fun h => by first | exact absurd (K4.out.symm.trans h) (by decide) | exact ⟨by have := HP.out.1; omega, k6.out⟩⟩)⟩⟩)
              · as_aux_lemma =>
                go_wp2_with (first
                  | (go_at_call 35; go_loud (refine (sIn1 _ _ _ _).mono ?_; rintro e w2 (⟨rfl, hr, hb⟩ | ⟨rfl, hr, hb⟩) <;> (have n_ := Aside0.mk (And.intro hr HP.out); clear HP hr; have HP := n_; clear n_; have n_ := Aside0.mk (below_step (w := w) (by repeat' (with_reducible first | exact HB.out | apply below_alloc | apply below_drew1 | refine below_set ?_ (by omega))) hb); clear HB; have HB := n_; clear n_; have n_ := Aside0.mk (blk_below (g := w.heap.size) (o := .cells #[.int .i64 ip, .int .i64 b, .int .i64 gate, .string gm, .string wm, .int .i64 res, .slice A6 g.length c6, .slice A7 l.length c7] 41 (0, 0)) (by repeat' (with_reducible first | exact HX.out | exact blk_new _ _ | refine blk_alloc ?_ _ | refine blk_drew ?_)) hb); (try clear HX); have HX := n_; clear n_; have n_ := Aside0.mk (blk_below (g := w.heap.size + 1) (o := .cells #[.slice B0 us.length d0, .slice B1 ss.length d1, .slice B2 fs.length d2, .slice (some ad) rs.length d3, .int .i64 nx] 48 (0, 0)) (by repeat' (with_reducible first | exact HG.out | exact blk_new _ _ | refine blk_alloc ?_ _ | refine blk_drew ?_)) hb); (try clear HG); have HG := n_; clear n_; have n_ := Aside0.mk (blk_below (g := wo.heap.size) (o := .cells #[.int .i64 (rd_T83 rs i).f0, .int .i64 (rd_T83 rs i).f1, .int .i64 (rd_T83 rs i).f2, .int .i64 (rd_T83 rs i).f3, .bool true] 83 (0, 0)) (by repeat' (with_reducible first | exact HU.out | exact blk_new _ _ | refine blk_alloc ?_ _ | refine blk_drew ?_)) hb); (try clear HU); have HU := n_; clear n_; (try clear cx0 cx1 cx2 hz0 hz1 hz2); have cx0 := blk_cell HX.out; have cx1 := blk_cell HG.out; have cx2 := blk_cell HU.out; have hz0 := blk_lt HX.out; have hz1 := blk_lt HG.out; have hz2 := blk_lt HU.out; clear hb))))
                all_goals go_wp2
                all_goals first
                  | (go_ret; exact .inr ⟨rfl, fun h => by (obtain ⟨q1, q2, q3, q4, q5⟩ := (show RecordP nx (rd_T83 rs i) from h.2.2.2.2.2.2.2.2.2.2 _ (rdmem (z := z83) hi0 hlt))); first | exact HP.out.1 q1 | exact HP.out.1 q2 | exact HP.out.1 q3 | (have z := q4 K4.out; have := HP.out.1; omega) | (have z := q5 K4.out; have := HP.out.1; omega) | (have z := q5 K4.out; exact k6.out z.2), HB.out⟩; done)
                  | (go_roundg (rs.length - (i + 1)).toNat
                     case measure => omega
                     case rel => exact ⟨i + 1, rfl, by omega, by omega, by omega, HB, HX, HG, ⟨fun j h0 h1 => by
                       by_cases hj : j < i
                       · exact HA.out j h0 hj
                       · obtain rfl : j = i := by omega
                         exact (show RecordP nx (rd_T83 rs _) from ⟨HP.out.2.2.2.1, HP.out.2.2.1, HP.out.2.1, fun h => by first | (have := HP.out.1; omega) | exact absurd (K4.out.symm.trans h) (by decide), fun h => by first | exact absurd (K4.out.symm.trans h) (by decide) | exact ⟨by have := HP.out.1; omega, k6.out⟩⟩)⟩⟩)
              · as_aux_lemma =>
                go_wp2_with (first
                  | (go_at_call 35; go_loud (refine (sIn1 _ _ _ _).mono ?_; rintro e w2 (⟨rfl, hr, hb⟩ | ⟨rfl, hr, hb⟩) <;> (have n_ := Aside0.mk (And.intro hr HP.out); clear HP hr; have HP := n_; clear n_; have n_ := Aside0.mk (below_step (w := w) (by repeat' (with_reducible first | exact HB.out | apply below_alloc | apply below_drew1 | refine below_set ?_ (by omega))) hb); clear HB; have HB := n_; clear n_; have n_ := Aside0.mk (blk_below (g := w.heap.size) (o := .cells #[.int .i64 ip, .int .i64 b, .int .i64 gate, .string gm, .string wm, .int .i64 res, .slice A6 g.length c6, .slice A7 l.length c7] 41 (0, 0)) (by repeat' (with_reducible first | exact HX.out | exact blk_new _ _ | refine blk_alloc ?_ _ | refine blk_drew ?_)) hb); (try clear HX); have HX := n_; clear n_; have n_ := Aside0.mk (blk_below (g := w.heap.size + 1) (o := .cells #[.slice B0 us.length d0, .slice B1 ss.length d1, .slice B2 fs.length d2, .slice (some ad) rs.length d3, .int .i64 nx] 48 (0, 0)) (by repeat' (with_reducible first | exact HG.out | exact blk_new _ _ | refine blk_alloc ?_ _ | refine blk_drew ?_)) hb); (try clear HG); have HG := n_; clear n_; have n_ := Aside0.mk (blk_below (g := wo.heap.size) (o := .cells #[.int .i64 (rd_T83 rs i).f0, .int .i64 (rd_T83 rs i).f1, .int .i64 (rd_T83 rs i).f2, .int .i64 (rd_T83 rs i).f3, .bool true] 83 (0, 0)) (by repeat' (with_reducible first | exact HU.out | exact blk_new _ _ | refine blk_alloc ?_ _ | refine blk_drew ?_)) hb); (try clear HU); have HU := n_; clear n_; (try clear cx0 cx1 cx2 hz0 hz1 hz2); have cx0 := blk_cell HX.out; have cx1 := blk_cell HG.out; have cx2 := blk_cell HU.out; have hz0 := blk_lt HX.out; have hz1 := blk_lt HG.out; have hz2 := blk_lt HU.out; clear hb))))
                all_goals go_wp2
                all_goals first
                  | (go_ret; exact .inr ⟨rfl, fun h => by (obtain ⟨q1, q2, q3, q4, q5⟩ := (show RecordP nx (rd_T83 rs i) from h.2.2.2.2.2.2.2.2.2.2 _ (rdmem (z := z83) hi0 hlt))); first | exact HP.out.1 q1 | exact HP.out.1 q2 | exact HP.out.1 q3 | (have z := q4 K4.out; have := HP.out.1; omega) | (have z := q5 K4.out; have := HP.out.1; omega) | (have z := q5 K4.out; exact k6.out z.2), HB.out⟩; done)
                  | (go_roundg (rs.length - (i + 1)).toNat
                     case measure => omega
                     case rel => exact ⟨i + 1, rfl, by omega, by omega, by omega, HB, HX, HG, ⟨fun j h0 h1 => by
                       by_cases hj : j < i
                       · exact HA.out j h0 hj
                       · obtain rfl : j = i := by omega
                         exact (show RecordP nx (rd_T83 rs _) from ⟨HP.out.2.2.2.1, HP.out.2.2.1, HP.out.2.1, fun h => by first | (have := HP.out.1; omega) | exact absurd (K4.out.symm.trans h) (by decide), fun h => by first | exact absurd (K4.out.symm.trans h) (by decide) | exact ⟨by have := HP.out.1; omega, k6.out⟩⟩)⟩⟩)
              · as_aux_lemma =>
                go_wp2_with (first
                  | (go_at_call 35; go_loud (refine (sIn1 _ _ _ _).mono ?_; rintro e w2 (⟨rfl, hr, hb⟩ | ⟨rfl, hr, hb⟩) <;> (have n_ := Aside0.mk (And.intro hr HP.out); clear HP hr; have HP := n_; clear n_; have n_ := Aside0.mk (below_step (w := w) (by repeat' (with_reducible first | exact HB.out | apply below_alloc | apply below_drew1 | refine below_set ?_ (by omega))) hb); clear HB; have HB := n_; clear n_; have n_ := Aside0.mk (blk_below (g := w.heap.size) (o := .cells #[.int .i64 ip, .int .i64 b, .int .i64 gate, .string gm, .string wm, .int .i64 res, .slice A6 g.length c6, .slice A7 l.length c7] 41 (0, 0)) (by repeat' (with_reducible first | exact HX.out | exact blk_new _ _ | refine blk_alloc ?_ _ | refine blk_drew ?_)) hb); (try clear HX); have HX := n_; clear n_; have n_ := Aside0.mk (blk_below (g := w.heap.size + 1) (o := .cells #[.slice B0 us.length d0, .slice B1 ss.length d1, .slice B2 fs.length d2, .slice (some ad) rs.length d3, .int .i64 nx] 48 (0, 0)) (by repeat' (with_reducible first | exact HG.out | exact blk_new _ _ | refine blk_alloc ?_ _ | refine blk_drew ?_)) hb); (try clear HG); have HG := n_; clear n_; have n_ := Aside0.mk (blk_below (g := wo.heap.size) (o := .cells #[.int .i64 (rd_T83 rs i).f0, .int .i64 (rd_T83 rs i).f1, .int .i64 (rd_T83 rs i).f2, .int .i64 (rd_T83 rs i).f3, .bool false] 83 (0, 0)) (by repeat' (with_reducible first | exact HU.out | exact blk_new _ _ | refine blk_alloc ?_ _ | refine blk_drew ?_)) hb); (try clear HU); have HU := n_; clear n_; (try clear cx0 cx1 cx2 hz0 hz1 hz2); have cx0 := blk_cell HX.out; have cx1 := blk_cell HG.out; have cx2 := blk_cell HU.out; have hz0 := blk_lt HX.out; have hz1 := blk_lt HG.out; have hz2 := blk_lt HU.out; clear hb))))
                all_goals go_wp2
                all_goals first
                  | (go_ret; exact .inr ⟨rfl, fun h => by (obtain ⟨q1, q2, q3, q4, q5⟩ := (show RecordP nx (rd_T83 rs i) from h.2.2.2.2.2.2.2.2.2.2 _ (rdmem (z := z83) hi0 hlt))); first | exact HP.out.1 q1 | exact HP.out.1 q2 | exact HP.out.1 q3 | (have z := q4 K4.out; have := HP.out.1; omega) | (have z := q5 K4.out; have := HP.out.1; omega) | (have z := q5 K4.out; exact k6.out z.2), HB.out⟩; done)
                  | (go_roundg (rs.length - (i + 1)).toNat
                     case measure => omega
                     case rel => exact ⟨i + 1, rfl, by omega, by omega, by omega, HB, HX, HG, ⟨fun j h0 h1 => by
                       by_cases hj : j < i
                       · exact HA.out j h0 hj
                       · obtain rfl : j = i := by omega
                         exact (show RecordP nx (rd_T83 rs _) from ⟨HP.out.2.2.2.1, HP.out.2.2.1, HP.out.2.1, fun h => by first | (have := HP.out.1; omega) | exact absurd (K4.out.symm.trans h) (by decide), fun h => by first | exact absurd (K4.out.symm.trans h) (by decide) | exact ⟨by have := HP.out.1; omega, k6.out⟩⟩)⟩⟩)
            · obtain rfl : i = rs.length := by omega
              go_wp2
              go_ret
              exact .inl ⟨rfl, ⟨HQ.out.2.2.1, HQ.out.2.1, by omega, by omega, by omega, HQ.out.1, HSS.out.1, HSS.out.2, HF.out.1, HF.out.2, all_of rfl HA.out⟩, HB.out⟩
end
section
-- NEEDS laws.szConfig laws.szGuests
def SzP (P : Prop) (left : Int) (w : World) (e : Ending) (w' : World) : Prop := ∃ t : Int, e = .returned (.int .i64 t) ∧ t ≤ left ∧ (0 ≤ t → P) ∧ Below w.heap.size w w'
set_option maxHeartbeats 4000000 in
set_option maxRecDepth 100000 in
theorem szPlaceS1 (A0 : Option Addr) (c0 : Nat) (l : List S151) (left : Int) (w : World) (g0 : 0 ≤ left) (g1 : left ≤ 1048576) (z : l.length ≤ 140737488351232) :
    Calls Tryz.prog 27 #[.slice A0 l.length c0, .int .i64 left] w (SzP (l.length ≤ 1048576) left w) := by
  go_enter Tryz.func27, Tryz.ntmps27
  go_wp2
  all_goals (go_ret; exact ⟨_, rfl, by omega, fun _ => by omega, Below.refl _ _⟩)
set_option maxHeartbeats 4000000 in
set_option maxRecDepth 100000 in
theorem szRuleS1 (A0 : Option Addr) (c0 : Nat) (l : List S193) (left : Int) (w : World) (g0 : 0 ≤ left) (g1 : left ≤ 1048576) (z : l.length ≤ 140737488351232) :
    Calls Tryz.prog 132 #[.slice A0 l.length c0, .int .i64 left] w (SzP (l.length ≤ 1048576) left w) := by
  go_enter Tryz.func132, Tryz.ntmps132
  go_wp2
  all_goals (go_ret; exact ⟨_, rfl, by omega, fun _ => by omega, Below.refl _ _⟩)
set_option maxHeartbeats 4000000 in
set_option maxRecDepth 100000 in
theorem szRecordS1 (A0 : Option Addr) (c0 : Nat) (l : List S157) (left : Int) (w : World) (g0 : 0 ≤ left) (g1 : left ≤ 1048576) (z : l.length ≤ 140737488351232) :
    Calls Tryz.prog 32 #[.slice A0 l.length c0, .int .i64 left] w (SzP (l.length ≤ 1048576) left w) := by
  go_enter Tryz.func32, Tryz.ntmps32
  go_wp2
  all_goals (go_ret; exact ⟨_, rfl, by omega, fun _ => by omega, Below.refl _ _⟩)
set_option maxHeartbeats 4000000 in
set_option maxRecDepth 100000 in
theorem szRole1 (x0 : ByteArray) (A1 : Option Addr) (c1 : Nat) (x1 : List S193) (x2 : Int) (x3 : Int) (x4 : Int) (left : Int) (w : World) (g0 : 0 ≤ left) (g1 : left ≤ 1048576) (s0 : x0.size ≤ 140737488351232) (z1 : x1.length ≤ 140737488351232) :
    Calls Tryz.prog 85 #[.agg #[.string x0, .slice A1 x1.length c1, .int .i64 x2, .int .i64 x3, .int .i64 x4], .int .i64 left] w (SzP (x0.size ≤ 1048576 ∧ x1.length ≤ 1048576) left w) := by
  have hu := Tryz.underlying129
  go_enter Tryz.func85, Tryz.ntmps85
  go_wp2_with (go_at_call 132; refine (szRuleS1 A1 c1 x1 _ _ (by omega) (by omega) z1).mono ?_; rintro e w2 ⟨t, rfl, ht, hp, hb⟩; have HP := Aside0.mk hp; have HB := Aside0.mk (below_step (below_alloc (Below.refl _ _) _) hb); clear hp hb)
  · go_ret
    exact ⟨_, rfl, by omega, fun h => by omega, below_alloc (Below.refl _ _) _⟩
  all_goals (go_ret; exact ⟨_, rfl, by omega, fun h => ⟨by omega, HP.out (by omega)⟩, HB.out⟩)
set_option maxHeartbeats 4000000 in
set_option maxRecDepth 100000 in
theorem szRoleS1 (A0 : Option Addr) (c0 : Nat) (l : List S129) (left : Int) (w : World) (g0 : 0 ≤ left) (g1 : left ≤ 1048576) (z : l.length ≤ 140737488351232) (h0 : Kd.C k129 w A0 l.length l) (y : ∀ y ∈ l, y.f0.size ≤ 140737488351232 ∧ y.f1.length ≤ 140737488351232) :
    Calls Tryz.prog 28 #[.slice A0 l.length c0, .int .i64 left] w (SzP (l.length ≤ 1048576 ∧ ∀ y ∈ l, y.f0.size ≤ 1048576 ∧ y.f1.length ≤ 1048576) left w) := by
  have hu := Tryz.underlying129
  have H0 := Aside0.mk h0
  have HY := Aside0.mk y
  clear h0 y
  go_enter Tryz.func28, Tryz.ntmps28
  by_cases hl : left - l.length < 0
  · go_wp2
    go_ret
    exact ⟨_, rfl, by omega, fun h => by omega, Below.refl _ _⟩
  go_wp2
  go_loopg [1, 5] l.length (fun gg v1 v5 w' => ∃ (i t : Int), v1 = .int .i64 t ∧ v5 = .int .i64 i ∧ 0 ≤ i ∧ i ≤ l.length ∧ l.length - i ≤ gg ∧ 0 ≤ t ∧ t ≤ left ∧ Aside0 (Below w.heap.size w w') ∧ Aside0 (∀ j : Int, 0 ≤ j → j < i → (rd_T129 l j).f0.size ≤ 1048576 ∧ (rd_T129 l j).f1.length ≤ 1048576))
  case atStart => exact ⟨0, _, rfl, rfl, Int.le_refl _, by omega, by omega, by omega, by omega, ⟨Below.refl _ _⟩, ⟨fun j h0 h1 => by omega⟩⟩
  case round =>
    obtain ⟨i, t, rfl, rfl, hi0, hi, hgg, ht0, ht1, HB, HS⟩ := hrel
    by_cases hlt : i < l.length
    · have hm : rd_T129 l i ∈ l := by rw [rd_T129, List.getD_eq_getElem?_getD, List.getElem?_eq_getElem (show i.toNat < l.length by omega)]; exact List.getElem_mem _
      have hy := HY.out _ hm
      clear hm
      obtain ⟨ad, aA, aC, eA, a0, a1, a2, a3, a4, al, ak⟩ := at_T129 (Kd.C_below H0.out HB.out) i hi0 hlt
      clear al ak
      subst eA
      go_wp2_with (go_at_call 85; refine (szRole1 (rd_T129 l i).f0 aA aC (rd_T129 l i).f1 (rd_T129 l i).f2 (rd_T129 l i).f3 (rd_T129 l i).f4 t _ (by omega) (by omega) hy.1 hy.2).mono ?_; rintro e w2 ⟨t2, rfl, ht2, hp, hb⟩; have HP := Aside0.mk hp; have HB2 := Aside0.mk (below_step HB.out hb); clear hp hb)
      · go_ret
        exact ⟨_, rfl, by omega, fun h => by omega, HB2.out⟩
      · go_roundg (l.length - (i + 1)).toNat
        case measure => omega
        case rel => exact ⟨i + 1, t2, rfl, rfl, by omega, by omega, by omega, by omega, by omega, HB2, ⟨fun j h0 h1 => by
          by_cases hj : j < i
          · exact HS.out j h0 hj
          · obtain rfl : j = i := by omega
            exact HP.out (by omega)⟩⟩
    · obtain rfl : i = l.length := by omega
      go_wp2
      go_ret
      exact ⟨_, rfl, by omega, fun h => ⟨by omega, fun y hy => by
        obtain ⟨j, hj, rfl⟩ := List.mem_iff_getElem.1 hy
        have h_ := HS.out (j : Int) (by omega) (by omega)
        rwa [rd_T129, List.getD_eq_getElem?_getD, Int.toNat_natCast, List.getElem?_eq_getElem hj] at h_⟩, HB.out⟩
set_option maxHeartbeats 4000000 in
set_option maxRecDepth 100000 in
theorem szConfig1 (x0 : Int) (x1 : Int) (x2 : Int) (x3 : ByteArray) (x4 : ByteArray) (x5 : Int) (A6 : Option Addr) (c6 : Nat) (x6 : List S151) (A7 : Option Addr) (c7 : Nat) (x7 : List S129) (left : Int) (w : World) (g0 : 0 ≤ left) (g1 : left ≤ 1048576) (s3 : x3.size ≤ 140737488351232) (s4 : x4.size ≤ 140737488351232) (z6 : x6.length ≤ 140737488351232) (z7 : x7.length ≤ 140737488351232) (h7 : Kd.C k129 w A7 x7.length x7) (y7 : ∀ y ∈ x7, y.f0.size ≤ 140737488351232 ∧ y.f1.length ≤ 140737488351232) :
    Calls Tryz.prog 7 #[.agg #[.int .i64 x0, .int .i64 x1, .int .i64 x2, .string x3, .string x4, .int .i64 x5, .slice A6 x6.length c6, .slice A7 x7.length c7], .int .i64 left] w (SzP ((x6.length ≤ 1048576) ∧ (x7.length ≤ 1048576 ∧ ∀ y ∈ x7, y.f0.size ≤ 1048576 ∧ y.f1.length ≤ 1048576)) left w) := by
  have hu := Tryz.underlying27
  have HH7 := Aside0.mk (And.intro h7 y7)
  clear h7 y7
  have HB := Aside0.mk (Below.refl w.heap.size w)
  go_enter Tryz.func7, Tryz.ntmps7
  go_wp2_with (first
    | (go_at_call 27; refine (szPlaceS1 A6 c6 x6 _ _ (by omega) (by omega) z6).mono ?_; rintro e w2 ⟨t0, rfl, ht0, hp, hb⟩; have HP0 := Aside0.mk hp; have n_ := Aside0.mk (below_step (w := w) (below_alloc HB.out _) hb); clear HB; have HB := n_; clear n_ hp; obtain ⟨hc, hf⟩ := bcell hb; have hz0 : w.heap.size < w2.heap.size := (by have := hb.size; (try simp at this); omega); clear hb)
    | (go_at_call 28; refine (szRoleS1 A7 c7 x7 _ _ (by omega) (by omega) z7 (Kd.C_below HH7.out.1 HB.out) HH7.out.2).mono ?_; rintro e w2 ⟨t1, rfl, ht1, hp, hb⟩; have HP1 := Aside0.mk hp; have n_ := Aside0.mk (below_step (w := w) HB.out hb); clear HB; have HB := n_; clear n_ hp; obtain ⟨hc, hf⟩ := bcell hb; have hz0 : w.heap.size < w2.heap.size := (by have := hb.size; (try simp at this); omega); clear hb))
  all_goals go_ret
  all_goals first
    | exact ⟨_, rfl, by omega, fun h => ⟨HP0.out (by omega), HP1.out (by omega)⟩, HB.out⟩
    | exact ⟨_, rfl, by omega, fun h => by omega, HB.out⟩
    | exact ⟨_, rfl, by omega, fun h => by omega, below_alloc HB.out _⟩
set_option maxHeartbeats 4000000 in
set_option maxRecDepth 100000 in
theorem szUser1 (x0 : ByteArray) (x1 : ByteArray) (x2 : ByteArray) (x3 : ByteArray) (x4 : Int) (x5 : Int) (left : Int) (w : World) (g0 : 0 ≤ left) (g1 : left ≤ 1048576) (s0 : x0.size ≤ 140737488351232) (s1 : x1.size ≤ 140737488351232) (s2 : x2.size ≤ 140737488351232) (s3 : x3.size ≤ 140737488351232) :
    Calls Tryz.prog 86 #[.agg #[.string x0, .string x1, .string x2, .string x3, .int .i64 x4, .int .i64 x5], .int .i64 left] w (SzP (True) left w) := by
  have hu := Tryz.underlying131
  go_enter Tryz.func86, Tryz.ntmps86
  go_wp2
  all_goals (go_ret; exact ⟨_, rfl, by omega, fun _ => trivial, below_alloc (Below.refl _ _) _⟩)
set_option maxHeartbeats 4000000 in
set_option maxRecDepth 100000 in
theorem szUserS1 (A0 : Option Addr) (c0 : Nat) (l : List S131) (left : Int) (w : World) (g0 : 0 ≤ left) (g1 : left ≤ 1048576) (z : l.length ≤ 140737488351232) (h0 : Kd.C k131 w A0 l.length l) (y : ∀ y ∈ l, y.f0.size ≤ 140737488351232 ∧ y.f1.size ≤ 140737488351232 ∧ y.f2.size ≤ 140737488351232 ∧ y.f3.size ≤ 140737488351232) :
    Calls Tryz.prog 29 #[.slice A0 l.length c0, .int .i64 left] w (SzP (l.length ≤ 1048576) left w) := by
  have hu := Tryz.underlying131
  have H0 := Aside0.mk h0
  have HY := Aside0.mk y
  clear h0 y
  go_enter Tryz.func29, Tryz.ntmps29
  by_cases hl : left - l.length < 0
  · go_wp2
    go_ret
    exact ⟨_, rfl, by omega, fun h => by omega, Below.refl _ _⟩
  go_wp2
  go_loopg [1, 5] l.length (fun gg v1 v5 w' => ∃ (i t : Int), v1 = .int .i64 t ∧ v5 = .int .i64 i ∧ 0 ≤ i ∧ i ≤ l.length ∧ l.length - i ≤ gg ∧ 0 ≤ t ∧ t ≤ left ∧ Aside0 (Below w.heap.size w w'))
  case atStart => exact ⟨0, _, rfl, rfl, Int.le_refl _, by omega, by omega, by omega, by omega, ⟨Below.refl _ _⟩⟩
  case round =>
    obtain ⟨i, t, rfl, rfl, hi0, hi, hgg, ht0, ht1, HB⟩ := hrel
    by_cases hlt : i < l.length
    · have hm : rd_T131 l i ∈ l := by rw [rd_T131, List.getD_eq_getElem?_getD, List.getElem?_eq_getElem (show i.toNat < l.length by omega)]; exact List.getElem_mem _
      have hy := HY.out _ hm
      clear hm
      obtain ⟨ad, eA, hc⟩ := at_T131 (Kd.C_below H0.out HB.out) i hi0 hlt
      subst eA
      go_wp2_with (go_at_call 86; refine (szUser1 (rd_T131 l i).f0 (rd_T131 l i).f1 (rd_T131 l i).f2 (rd_T131 l i).f3 (rd_T131 l i).f4 (rd_T131 l i).f5 t _ (by omega) (by omega) hy.1 hy.2.1 hy.2.2.1 hy.2.2.2).mono ?_; rintro e w2 ⟨t2, rfl, ht2, hp, hb⟩; have HP := Aside0.mk hp; have HB2 := Aside0.mk (below_step HB.out hb); clear hp hb)
      · go_ret
        exact ⟨_, rfl, by omega, fun h => by omega, HB2.out⟩
      · go_roundg (l.length - (i + 1)).toNat
        case measure => omega
        case rel => exact ⟨i + 1, t2, rfl, rfl, by omega, by omega, by omega, by omega, by omega, HB2⟩
    · obtain rfl : i = l.length := by omega
      go_wp2
      go_ret
      exact ⟨_, rfl, by omega, fun h => by omega, HB.out⟩
set_option maxHeartbeats 4000000 in
set_option maxRecDepth 100000 in
theorem szSession1 (x0 : Int) (x1 : Int) (x2 : ByteArray) (x3 : Int) (x4 : Int) (x5 : Int) (x6 : Int) (x7 : Int) (x8 : Int) (x9 : Int) (left : Int) (w : World) (g0 : 0 ≤ left) (g1 : left ≤ 1048576) (s2 : x2.size ≤ 140737488351232) :
    Calls Tryz.prog 87 #[.agg #[.int .i64 x0, .int .i64 x1, .string x2, .int .i64 x3, .int .i64 x4, .int .i64 x5, .int .i64 x6, .int .i64 x7, .int .i64 x8, .int .i64 x9], .int .i64 left] w (SzP (True) left w) := by
  have hu := Tryz.underlying133
  go_enter Tryz.func87, Tryz.ntmps87
  go_wp2
  all_goals (go_ret; exact ⟨_, rfl, by omega, fun _ => trivial, below_alloc (Below.refl _ _) _⟩)
set_option maxHeartbeats 4000000 in
set_option maxRecDepth 100000 in
theorem szSessionS1 (A0 : Option Addr) (c0 : Nat) (l : List S133) (left : Int) (w : World) (g0 : 0 ≤ left) (g1 : left ≤ 1048576) (z : l.length ≤ 140737488351232) (h0 : Kd.C k133 w A0 l.length l) (y : ∀ y ∈ l, y.f2.size ≤ 140737488351232) :
    Calls Tryz.prog 30 #[.slice A0 l.length c0, .int .i64 left] w (SzP (l.length ≤ 1048576) left w) := by
  have hu := Tryz.underlying133
  have H0 := Aside0.mk h0
  have HY := Aside0.mk y
  clear h0 y
  go_enter Tryz.func30, Tryz.ntmps30
  by_cases hl : left - l.length < 0
  · go_wp2
    go_ret
    exact ⟨_, rfl, by omega, fun h => by omega, Below.refl _ _⟩
  go_wp2
  go_loopg [1, 5] l.length (fun gg v1 v5 w' => ∃ (i t : Int), v1 = .int .i64 t ∧ v5 = .int .i64 i ∧ 0 ≤ i ∧ i ≤ l.length ∧ l.length - i ≤ gg ∧ 0 ≤ t ∧ t ≤ left ∧ Aside0 (Below w.heap.size w w'))
  case atStart => exact ⟨0, _, rfl, rfl, Int.le_refl _, by omega, by omega, by omega, by omega, ⟨Below.refl _ _⟩⟩
  case round =>
    obtain ⟨i, t, rfl, rfl, hi0, hi, hgg, ht0, ht1, HB⟩ := hrel
    by_cases hlt : i < l.length
    · have hm : rd_T133 l i ∈ l := by rw [rd_T133, List.getD_eq_getElem?_getD, List.getElem?_eq_getElem (show i.toNat < l.length by omega)]; exact List.getElem_mem _
      have hy := HY.out _ hm
      clear hm
      obtain ⟨ad, eA, hc⟩ := at_T133 (Kd.C_below H0.out HB.out) i hi0 hlt
      subst eA
      go_wp2_with (go_at_call 87; refine (szSession1 (rd_T133 l i).f0 (rd_T133 l i).f1 (rd_T133 l i).f2 (rd_T133 l i).f3 (rd_T133 l i).f4 (rd_T133 l i).f5 (rd_T133 l i).f6 (rd_T133 l i).f7 (rd_T133 l i).f8 (rd_T133 l i).f9 t _ (by omega) (by omega) hy).mono ?_; rintro e w2 ⟨t2, rfl, ht2, hp, hb⟩; have HP := Aside0.mk hp; have HB2 := Aside0.mk (below_step HB.out hb); clear hp hb)
      · go_ret
        exact ⟨_, rfl, by omega, fun h => by omega, HB2.out⟩
      · go_roundg (l.length - (i + 1)).toNat
        case measure => omega
        case rel => exact ⟨i + 1, t2, rfl, rfl, by omega, by omega, by omega, by omega, by omega, HB2⟩
    · obtain rfl : i = l.length := by omega
      go_wp2
      go_ret
      exact ⟨_, rfl, by omega, fun h => by omega, HB.out⟩
set_option maxHeartbeats 4000000 in
set_option maxRecDepth 100000 in
theorem szFail1 (x0 : ByteArray) (x1 : Int) (x2 : Int) (left : Int) (w : World) (g0 : 0 ≤ left) (g1 : left ≤ 1048576) (s0 : x0.size ≤ 140737488351232) :
    Calls Tryz.prog 88 #[.agg #[.string x0, .int .i64 x1, .int .i64 x2], .int .i64 left] w (SzP (True) left w) := by
  have hu := Tryz.underlying135
  go_enter Tryz.func88, Tryz.ntmps88
  go_wp2
  all_goals (go_ret; exact ⟨_, rfl, by omega, fun _ => trivial, below_alloc (Below.refl _ _) _⟩)
set_option maxHeartbeats 4000000 in
set_option maxRecDepth 100000 in
theorem szFailS1 (A0 : Option Addr) (c0 : Nat) (l : List S135) (left : Int) (w : World) (g0 : 0 ≤ left) (g1 : left ≤ 1048576) (z : l.length ≤ 140737488351232) (h0 : Kd.C k135 w A0 l.length l) (y : ∀ y ∈ l, y.f0.size ≤ 140737488351232) :
    Calls Tryz.prog 31 #[.slice A0 l.length c0, .int .i64 left] w (SzP (l.length ≤ 1048576) left w) := by
  have hu := Tryz.underlying135
  have H0 := Aside0.mk h0
  have HY := Aside0.mk y
  clear h0 y
  go_enter Tryz.func31, Tryz.ntmps31
  by_cases hl : left - l.length < 0
  · go_wp2
    go_ret
    exact ⟨_, rfl, by omega, fun h => by omega, Below.refl _ _⟩
  go_wp2
  go_loopg [1, 5] l.length (fun gg v1 v5 w' => ∃ (i t : Int), v1 = .int .i64 t ∧ v5 = .int .i64 i ∧ 0 ≤ i ∧ i ≤ l.length ∧ l.length - i ≤ gg ∧ 0 ≤ t ∧ t ≤ left ∧ Aside0 (Below w.heap.size w w'))
  case atStart => exact ⟨0, _, rfl, rfl, Int.le_refl _, by omega, by omega, by omega, by omega, ⟨Below.refl _ _⟩⟩
  case round =>
    obtain ⟨i, t, rfl, rfl, hi0, hi, hgg, ht0, ht1, HB⟩ := hrel
    by_cases hlt : i < l.length
    · have hm : rd_T135 l i ∈ l := by rw [rd_T135, List.getD_eq_getElem?_getD, List.getElem?_eq_getElem (show i.toNat < l.length by omega)]; exact List.getElem_mem _
      have hy := HY.out _ hm
      clear hm
      obtain ⟨ad, eA, hc⟩ := at_T135 (Kd.C_below H0.out HB.out) i hi0 hlt
      subst eA
      go_wp2_with (go_at_call 88; refine (szFail1 (rd_T135 l i).f0 (rd_T135 l i).f1 (rd_T135 l i).f2 t _ (by omega) (by omega) hy).mono ?_; rintro e w2 ⟨t2, rfl, ht2, hp, hb⟩; have HP := Aside0.mk hp; have HB2 := Aside0.mk (below_step HB.out hb); clear hp hb)
      · go_ret
        exact ⟨_, rfl, by omega, fun h => by omega, HB2.out⟩
      · go_roundg (l.length - (i + 1)).toNat
        case measure => omega
        case rel => exact ⟨i + 1, t2, rfl, rfl, by omega, by omega, by omega, by omega, by omega, HB2⟩
    · obtain rfl : i = l.length := by omega
      go_wp2
      go_ret
      exact ⟨_, rfl, by omega, fun h => by omega, HB.out⟩
set_option maxHeartbeats 4000000 in
set_option maxRecDepth 100000 in
theorem szGuests1 (A0 : Option Addr) (c0 : Nat) (x0 : List S131) (A1 : Option Addr) (c1 : Nat) (x1 : List S133) (A2 : Option Addr) (c2 : Nat) (x2 : List S135) (A3 : Option Addr) (c3 : Nat) (x3 : List S157) (x4 : Int) (left : Int) (w : World) (g0 : 0 ≤ left) (g1 : left ≤ 1048576)  (z0 : x0.length ≤ 140737488351232) (h0 : Kd.C k131 w A0 x0.length x0) (y0 : ∀ y ∈ x0, y.f0.size ≤ 140737488351232 ∧ y.f1.size ≤ 140737488351232 ∧ y.f2.size ≤ 140737488351232 ∧ y.f3.size ≤ 140737488351232) (z1 : x1.length ≤ 140737488351232) (h1 : Kd.C k133 w A1 x1.length x1) (y1 : ∀ y ∈ x1, y.f2.size ≤ 140737488351232) (z2 : x2.length ≤ 140737488351232) (h2 : Kd.C k135 w A2 x2.length x2) (y2 : ∀ y ∈ x2, y.f0.size ≤ 140737488351232) (z3 : x3.length ≤ 140737488351232) :
    Calls Tryz.prog 8 #[.agg #[.slice A0 x0.length c0, .slice A1 x1.length c1, .slice A2 x2.length c2, .slice A3 x3.length c3, .int .i64 x4], .int .i64 left] w (SzP ((x0.length ≤ 1048576) ∧ (x1.length ≤ 1048576) ∧ (x2.length ≤ 1048576) ∧ (x3.length ≤ 1048576)) left w) := by
  have hu := Tryz.underlying33
  have HH0 := Aside0.mk (And.intro h0 y0)
  clear h0 y0
  have HH1 := Aside0.mk (And.intro h1 y1)
  clear h1 y1
  have HH2 := Aside0.mk (And.intro h2 y2)
  clear h2 y2
  have HB := Aside0.mk (Below.refl w.heap.size w)
  go_enter Tryz.func8, Tryz.ntmps8
  go_wp2_with (first
    | (go_at_call 29; refine (szUserS1 A0 c0 x0 _ _ (by omega) (by omega) z0 (Kd.C_below HH0.out.1 (below_alloc HB.out _)) HH0.out.2).mono ?_; rintro e w2 ⟨t0, rfl, ht0, hp, hb⟩; have HP0 := Aside0.mk hp; have n_ := Aside0.mk (below_step (w := w) (below_alloc HB.out _) hb); clear HB; have HB := n_; clear n_ hp; obtain ⟨hc, hf⟩ := bcell hb; have hz0 : w.heap.size < w2.heap.size := (by have := hb.size; (try simp at this); omega); clear hb)
    | (go_at_call 30; refine (szSessionS1 A1 c1 x1 _ _ (by omega) (by omega) z1 (Kd.C_below HH1.out.1 HB.out) HH1.out.2).mono ?_; rintro e w2 ⟨t1, rfl, ht1, hp, hb⟩; have HP1 := Aside0.mk hp; have n_ := Aside0.mk (below_step (w := w) HB.out hb); clear HB; have HB := n_; clear n_ hp; obtain ⟨hc, hf⟩ := bcell hb; have hz0 : w.heap.size < w2.heap.size := (by have := hb.size; (try simp at this); omega); clear hb)
    | (go_at_call 31; refine (szFailS1 A2 c2 x2 _ _ (by omega) (by omega) z2 (Kd.C_below HH2.out.1 HB.out) HH2.out.2).mono ?_; rintro e w2 ⟨t2, rfl, ht2, hp, hb⟩; have HP2 := Aside0.mk hp; have n_ := Aside0.mk (below_step (w := w) HB.out hb); clear HB; have HB := n_; clear n_ hp; obtain ⟨hc, hf⟩ := bcell hb; have hz0 : w.heap.size < w2.heap.size := (by have := hb.size; (try simp at this); omega); clear hb)
    | (go_at_call 32; refine (szRecordS1 A3 c3 x3 _ _ (by omega) (by omega) z3).mono ?_; rintro e w2 ⟨t3, rfl, ht3, hp, hb⟩; have HP3 := Aside0.mk hp; have n_ := Aside0.mk (below_step (w := w) HB.out hb); clear HB; have HB := n_; clear n_ hp; obtain ⟨hc, hf⟩ := bcell hb; have hz0 : w.heap.size < w2.heap.size := (by have := hb.size; (try simp at this); omega); clear hb))
  all_goals go_ret
  all_goals first
    | exact ⟨_, rfl, by omega, fun h => ⟨HP0.out (by omega), HP1.out (by omega), HP2.out (by omega), HP3.out (by omega)⟩, HB.out⟩
    | exact ⟨_, rfl, by omega, fun h => by omega, HB.out⟩
    | exact ⟨_, rfl, by omega, fun h => by omega, below_alloc HB.out _⟩
end
end Go.Proofs.YtkklokkldgkacaaGreat.X
