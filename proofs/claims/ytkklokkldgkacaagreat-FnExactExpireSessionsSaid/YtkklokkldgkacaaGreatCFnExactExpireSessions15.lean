/- Texts that the row of FnExactExpireSessions stands on: functions of the program and of the reference, each as a Lean function with the same answers, and the plain lemmas. Conditions: none beside those that each theorem names. -/
import Derived.Test.YtkklokkldgkacaaGreatCFnExactExpireSessions14
namespace Go.Proofs.YtkklokkldgkacaaGreat.X
open Go.RowKit Go.Proofs.YtkklokkldgkacaaGreatW.PrintWords Go.Proofs.YtkklokkldgkacaaGreatW.PrintLast Go.Proofs.YtkklokkldgkacaaGreatW.PrintMore
attribute [local go_sem] max2_int min2_int max_two min_two max_three min_three max_four min_four   -- for this text's walks alone
set_option linter.unusedVariables false
set_option linter.unusedSimpArgs false
section
-- NEEDS laws.eqConfig spec.l08Own impl.cloneGuests (*impl.Guests).expire$1 (*impl.Guests).moved$1
theorem endF_len {cz : S76 → Int} {now : Int} : ∀ {t kp : List S76} {rs : List S83} {ids : List Int} {S : List S76} {R : List S83} {J : List Int}, endF cz now kp t rs ids = (S, R, J) → rs.length ≤ 1048576 → S.length ≤ kp.length + t.length ∧ R.length ≤ 1048576 ∧ J.length ≤ ids.length + t.length
  | [], kp, rs, ids, S, R, J, h, hr => by
    rw [endF] at h
    injection h with h1 h2
    injection h2 with h2 h3
    subst h1 h2 h3
    exact ⟨by simp, hr, by simp⟩
  | s :: t, kp, rs, ids, S, R, J, h, hr => by
    rw [endF] at h
    split at h
    · have q := endF_len h hr
      simp only [List.length_append, List.length_cons, List.length_nil] at q ⊢
      omega
    · have q := endF_len h (rec_len _ _ _ _ hr)
      simp only [List.length_append, List.length_cons, List.length_nil] at q ⊢
      omega
/-- What ExpireSessions and EndMoved answer. -/
def AllOut (P : Prop) (q : GV) (cz : S76 → Int) (now : Int) (r : GV) (ids : List Int) (code : Int) : Prop :=
  (AskP P now code ∧ code ≠ 0 ∧ r = GV.none ∧ ids = []) ∨ (AskP P now 0 ∧ (∃ S R J, endF cz now [] q.ss q.rs [] = (S, R, J) ∧ r = ⟨q.us, S, q.fs, R, q.nx⟩ ∧ ids = J) ∧ code = 0)
theorem AllOut.same {P : Prop} {q r r2 : GV} {cz : S76 → Int} {now c c2 : Int} {i i2 : List Int} (h : AllOut P q cz now r i c) (k : AllOut P q cz now r2 i2 c2) : r = r2 ∧ i = i2 ∧ c = c2 := by
  rcases h with ⟨a1, a2, rfl, rfl⟩ | ⟨a1, ⟨S, R, J, a2, rfl, rfl⟩, rfl⟩ <;> rcases k with ⟨b1, b2, rfl, rfl⟩ | ⟨b1, ⟨S2, R2, J2, b2, rfl, rfl⟩, rfl⟩
  · exact ⟨rfl, rfl, a1.same b1⟩
  · exact absurd (a1.same b1) a2
  · exact absurd (b1.same a1) b2
  · rw [a2] at b2
    injection b2 with e1 e2
    injection e2 with e2 e3
    subst e1 e2 e3
    exact ⟨rfl, rfl, rfl⟩
def MovOut (P : Prop) (q : GV) (mac : ByteArray) (ip now : Int) (r : GV) (ids : List Int) (code : Int) : Prop :=
  (65536 < (mac.size : Int) ∧ r = GV.none ∧ ids = [] ∧ code = 2) ∨ (¬ 65536 < (mac.size : Int) ∧ AllOut P q (czM mac ip) now r ids code)
theorem MovOut.same {P : Prop} {q r r2 : GV} {mac : ByteArray} {ip now c c2 : Int} {i i2 : List Int} (h : MovOut P q mac ip now r i c) (k : MovOut P q mac ip now r2 i2 c2) : r = r2 ∧ i = i2 ∧ c = c2 := by
  rcases h with ⟨a1, rfl, rfl, rfl⟩ | ⟨a1, a2⟩ <;> rcases k with ⟨b1, rfl, rfl, rfl⟩ | ⟨b1, b2⟩
  · exact ⟨rfl, rfl, rfl⟩
  · exact absurd a1 b1
  · exact absurd b1 a1
  · exact a2.same b2
theorem apart_all {ip b gate : Int} {gm wm : ByteArray} {res : Int} {g : List S140} {l : List S145} {us : List S92} {ss : List S76} {fs : List S81} {rs : List S83} {nx : Int} (h : GuestsP ip b gate gm wm res g l us ss fs rs nx) : Apart ss := by
  have hu := h.2.2.2.2.2.2.2.1
  have step : ∀ (n : Nat) (i j : Nat) (hj : j < ss.length) (hij : i + n + 1 = j), (rd_T76 ss (i : Int)).f0 < (rd_T76 ss (j : Int)).f0 := by
    intro n
    induction n with
    | zero =>
      intro i j hj hij
      have q := (hu j (by omega) (by omega)).1 (by omega)
      rwa [show ((j : Int) - 1) = (i : Int) by omega] at q
    | succ n ih =>
      intro i j hj hij
      have q := (hu j (by omega) (by omega)).1 (by omega)
      have q2 := ih i (j - 1) (by omega) (by omega)
      rw [show ((j : Int) - 1) = ((j - 1 : Nat) : Int) by omega] at q
      omega
  unfold Apart
  rw [List.pairwise_iff_getElem]
  intro i j hi hj hij
  have q := step (j - i - 1) i j hj (by omega)
  rw [rd_T76, rd_T76, Int.toNat_natCast, Int.toNat_natCast, List.getD_eq_getElem?_getD, List.getD_eq_getElem?_getD, List.getElem?_eq_getElem hi, List.getElem?_eq_getElem hj] at q
  simp only [Option.getD_some] at q
  omega
theorem AskP.yes {P : Prop} {now : Int} (h : AskP P now 0) : P := by
  rcases h with ⟨_, h, _⟩ | ⟨h, _⟩ | ⟨h, _⟩
  · exact h
  · exact absurd h (by decide)
  · exact absurd h (by decide)
theorem R_othS {α : Type} {d : Kd α} {e : Nat} {w W : World} {base gg : Nat} {v : Value} {xs : List α} (h : d.R e w base (fun _ => True) v xs) (hk : OthS gg w W) (hg : TypeAt w gg 48) (ht : ∀ q, q ∈ e :: d.E → q ≠ 76 ∧ q ≠ 83 ∧ q ≠ 48) : d.R e W base (fun _ => True) v xs := by
  refine Kd.R_mono (Kd.R_move (Kd.R_bound h) (fun k hk1 => ?_)) (fun _ _ => trivial)
  obtain ⟨_, _, h3, q, hq, c, hc⟩ := hk1
  obtain ⟨t1, t2, t3⟩ := ht q hq
  exact hk.2 k h3 (fun he => t3 (TypeAt.ne ⟨c, hc⟩ (he ▸ hg))) (fun hy => t1 (TypeAt.ne ⟨c, hc⟩ hy)) (fun hy => t2 (TypeAt.ne ⟨c, hc⟩ hy))
theorem R_lo {α : Type} {d : Kd α} {e : Nat} {w : World} {base b2 : Nat} {ok : Nat → Prop} {v : Value} {xs : List α} (h : d.R e w base ok v xs) (hb : b2 ≤ base) : d.R e w b2 (fun _ => True) v xs := Kd.R_lower (Kd.R_mono h (fun _ _ => trivial)) hb
theorem sz_set (w : World) (a : Addr) (v : Value) : (w.setCell a v).heap.size = w.heap.size := by simp [World.setCell]
theorem R_emp {α : Type} {d : Kd α} {e base n : Nat} {W : World} (hn : n = W.heap.size) (hb : base ≤ n) : d.R e (W.alloc (.cells #[] e (0, 0))) base (fun _ => True) (.slice (some ⟨n, 0, none⟩) 0 0) [] := by
  subst hn
  exact ⟨fun _ _ => trivial, [], by simpa using World.ownsRow_lit (base := base) (e := e) (size := d.sz) W (#[] : Array Value) 0 hb (by simp) (by simp), Reps.none _ _⟩
set_option maxHeartbeats 8000000 in
set_option maxRecDepth 100000 in
theorem sExpS1 (ip b gate : Int) (gm wm : ByteArray) (res : Int) (A6 : Option Addr) (c6 : Nat) (g : List S140) (A7 : Option Addr) (c7 : Nat) (l : List S145) (B0 B1 B2 B3 : Option Addr) (d0 d1 d2 d3 : Nat) (us : List S92) (ss : List S76) (fs : List S81) (rs : List S83) (nx : Int) (now : Int) (w : World) (hg : Kd.C k140 w A6 g.length g) (hl : Kd.C k145 w A7 l.length l) (h0 : Kd.C k92 w B0 us.length us) (h1 : Kd.R k76 76 w 0 (fun _ => True) (.slice B1 ss.length d1) ss) (h2 : Kd.C k81 w B2 fs.length fs) (h3 : Kd.R k83 83 w 0 (fun _ => True) (.slice B3 rs.length d3) rs) (zg : g.length ≤ 1048576) (zl : l.length ≤ 1048576) (zr : ∀ x ∈ l, x.f1.length ≤ 1152921504606846976 ∧ x.f0.size ≤ 1152921504606846976) (zm : gm.size ≤ 1152921504606846976) (zw : wm.size ≤ 1152921504606846976) (y0 : us.length ≤ 1048576) (y1 : ss.length ≤ 1048576) (y2 : fs.length ≤ 1048576) (y3 : rs.length ≤ 1048576) (m0 : us.length ≤ d0) (m1 : ss.length ≤ d1) (m2 : fs.length ≤ d2) (m3 : rs.length ≤ d3) (zu : ∀ u ∈ us, u.f0.size ≤ 1152921504606846976 ∧ u.f1.size ≤ 1152921504606846976 ∧ u.f2.size ≤ 1152921504606846976) (zs : ∀ s ∈ ss, s.f2.size ≤ 1152921504606846976) (zf : ∀ f ∈ fs, f.f0.size ≤ 1152921504606846976) :
    Calls Tryz.prog 20 #[.agg #[.int .i64 ip, .int .i64 b, .int .i64 gate, .string gm, .string wm, .int .i64 res, .slice A6 g.length c6, .slice A7 l.length c7], .agg #[.slice B0 us.length d0, .slice B1 ss.length d1, .slice B2 fs.length d2, .slice B3 rs.length d3, .int .i64 nx], .int .i64 now] w fun e w' => ∃ (q : GV) (ids : List Int) (code : Int) (v0 v1 v2 v3 vi : Value), e = .returned (.tuple #[.agg #[v0, v1, v2, v3, .int .i64 q.nx], vi, .int .i64 code]) ∧ AllOut (GuestsP ip b gate gm wm res g l us ss fs rs nx) ⟨us, ss, fs, rs, nx⟩ (czE now) now q ids code ∧ Kd.R k92 92 w' w.heap.size (fun _ => True) v0 q.us ∧ Kd.R k76 76 w' w.heap.size (fun _ => True) v1 q.ss ∧ Kd.R k81 81 w' w.heap.size (fun _ => True) v2 q.fs ∧ Kd.R k83 83 w' w.heap.size (fun _ => True) v3 q.rs ∧ Kd.R (Kd.int .i64) 3 w' w.heap.size (fun _ => True) vi ids ∧ Below w.heap.size w w' := by
  have hu2 := Tryz.underlying41
  have hu := Tryz.underlying48
  have H0 := Aside0.mk (And.intro hg (And.intro hl (And.intro h0 (And.intro (R_toC h1).2 (And.intro h2 (R_toC h3).2)))))
  have H1 := Aside0.mk h1
  have H3 := Aside0.mk h3
  have HZ := Aside0.mk (And.intro zr (And.intro zu (And.intro zs zf)))
  clear hg hl h0 h1 h2 h3 zr zu zs zf
  have HB := Aside0.mk (Below.refl w.heap.size w)
  go_enter Tryz.func20, Tryz.ntmps20
  go_wp2_with (first
    | (go_at_call 63; go_loud (refine (sAsk1 ip b gate gm wm res A6 c6 g A7 c7 l B0 B1 B2 B3 d0 d1 d2 d3 us ss fs rs nx now _ (Kd.C_below H0.out.1 (by repeat' (with_reducible first | exact HB.out | apply below_alloc | apply below_drew1 | refine below_set ?_ (by omega)))) (Kd.C_below H0.out.2.1 (by repeat' (with_reducible first | exact HB.out | apply below_alloc | apply below_drew1 | refine below_set ?_ (by omega)))) (Kd.C_below H0.out.2.2.1 (by repeat' (with_reducible first | exact HB.out | apply below_alloc | apply below_drew1 | refine below_set ?_ (by omega)))) (Kd.C_below H0.out.2.2.2.1 (by repeat' (with_reducible first | exact HB.out | apply below_alloc | apply below_drew1 | refine below_set ?_ (by omega)))) (Kd.C_below H0.out.2.2.2.2.1 (by repeat' (with_reducible first | exact HB.out | apply below_alloc | apply below_drew1 | refine below_set ?_ (by omega)))) (Kd.C_below H0.out.2.2.2.2.2 (by repeat' (with_reducible first | exact HB.out | apply below_alloc | apply below_drew1 | refine below_set ?_ (by omega)))) (by omega) (by omega) HZ.out.1 zm zw (by omega) (by omega) (by omega) (by omega) HZ.out.2.1 HZ.out.2.2.1 HZ.out.2.2.2).mono ?_; rintro e w2 ⟨c, rfl, hA, hb⟩; have HA := Aside0.mk hA; rcases hA with ⟨rfl, a1, a2⟩ | ⟨rfl, a1⟩ | ⟨rfl, a1, a2⟩ <;> ((try clear a2); clear a1; have n_ := Aside0.mk (below_step (w := w) (by repeat' (with_reducible first | exact HB.out | apply below_alloc | apply below_drew1 | refine below_set ?_ (by omega))) hb); clear HB; have HB := n_; clear n_; have n_ := Aside0.mk (blk_below (g := w.heap.size) (o := .cells #[.int .i64 ip, .int .i64 b, .int .i64 gate, .string gm, .string wm, .int .i64 res, .slice A6 g.length c6, .slice A7 l.length c7] 41 (0, 0)) (by repeat' (with_reducible first | exact HX.out | exact blk_alloc (blk_alloc (blk_new _ _) _) _ | exact blk_alloc (blk_new1 _ _ _) _ | exact blk_new2 _ _ _ _ | refine blk_alloc ?_ _)) hb); (try clear HX); have HX := n_; clear n_; have n_ := Aside0.mk (blk_below (g := (w.heap.size + 1)) (o := .cells #[.slice B0 us.length d0, .slice B1 ss.length d1, .slice B2 fs.length d2, .slice B3 rs.length d3, .int .i64 nx] 48 (0, 0)) (by repeat' (with_reducible first | exact HG.out | exact blk_alloc (blk_alloc (blk_new _ _) _) _ | exact blk_alloc (blk_new1 _ _ _) _ | exact blk_new2 _ _ _ _ | refine blk_alloc ?_ _)) hb); (try clear HG); have HG := n_; clear n_; have n_ := Aside0.mk (blk_below (g := (w.heap.size + 2)) (o := .cells #[.slice none 0 0, .slice none 0 0, .slice none 0 0, .slice none 0 0, .int .i64 0] 48 (0, 0)) (by repeat' (with_reducible first | exact HR.out | exact blk_alloc (blk_alloc (blk_new _ _) _) _ | exact blk_alloc (blk_new1 _ _ _) _ | exact blk_new2 _ _ _ _ | refine blk_alloc ?_ _)) hb); (try clear HR); have HR := n_; clear n_; (try clear cxHX hzHX); (try clear cxHG hzHG); (try clear cxHR hzHR frHR); have cxHX := blk_cell HX.out; have hzHX := blk_lt HX.out; have cxHG := blk_cell HG.out; have hzHG := blk_lt HG.out; have cxHR := blk_cell HR.out; have hzHR := blk_lt HR.out; have frHR := blk_frozen HR.out; clear hb)))
    | (go_at_call 81; go_loud (obtain ⟨S, R, J, hS⟩ : ∃ S R J, endF (czE now) now [] ss rs [] = (S, R, J) := ⟨_, _, _, rfl⟩; have hq := sExp1 B0 B1 B2 B3 us.length fs.length d0 d1 d2 d3 ss rs nx now _ (Kd.R_below H1.out (by repeat' (with_reducible first | exact HB.out | apply below_alloc | apply below_drew1 | refine below_set ?_ (by omega)))) (Kd.R_below H3.out (by repeat' (with_reducible first | exact HB.out | apply below_alloc | apply below_drew1 | refine below_set ?_ (by omega)))) y1 y3; rw [hS] at hq; refine hq.mono ?_; rintro e w5 ⟨X1, x1, X3, x3, vi, rfl, q1, q3, qi, hb⟩; have hln := endF_len hS y3; simp only [List.length_nil, Nat.zero_add] at hln; obtain ⟨hl1, hl3, hli⟩ := hln; have HS := Aside0.mk hS; clear hS; have K1 := Aside0.mk q1; have K3 := Aside0.mk q3; (obtain ⟨Ai, ci, ei⟩ := Kd.R_slice qi); subst ei; have KI := Aside0.mk (R_lo qi (b2 := w.heap.size) (by omega)); clear q1 q3 qi hq; have n_ := Aside0.mk (below_step (w := w) (by repeat' (with_reducible first | exact HB.out | apply below_alloc | apply below_drew1 | refine below_set ?_ (by omega))) hb); clear HB; have HB := n_; clear n_; have n_ := Aside0.mk (blk_below (g := w.heap.size) (o := .cells #[.int .i64 ip, .int .i64 b, .int .i64 gate, .string gm, .string wm, .int .i64 res, .slice A6 g.length c6, .slice A7 l.length c7] 41 (0, 0)) (by repeat' (with_reducible first | exact HX.out | exact blk_alloc (blk_alloc (blk_new _ _) _) _ | exact blk_alloc (blk_new1 _ _ _) _ | exact blk_new2 _ _ _ _ | refine blk_alloc ?_ _)) hb); (try clear HX); have HX := n_; clear n_; have n_ := Aside0.mk (blk_below (g := (w.heap.size + 1)) (o := .cells #[.slice B0 us.length d0, .slice B1 ss.length d1, .slice B2 fs.length d2, .slice B3 rs.length d3, .int .i64 nx] 48 (0, 0)) (by repeat' (with_reducible first | exact HG.out | exact blk_alloc (blk_alloc (blk_new _ _) _) _ | exact blk_alloc (blk_new1 _ _ _) _ | exact blk_new2 _ _ _ _ | refine blk_alloc ?_ _)) hb); (try clear HG); have HG := n_; clear n_; have n_ := Aside0.mk (blk_below (g := (w.heap.size + 2)) (o := .cells #[.slice none 0 0, .slice none 0 0, .slice none 0 0, .slice none 0 0, .int .i64 0] 48 (0, 0)) (by repeat' (with_reducible first | exact HR.out | exact blk_alloc (blk_alloc (blk_new _ _) _) _ | exact blk_alloc (blk_new1 _ _ _) _ | exact blk_new2 _ _ _ _ | refine blk_alloc ?_ _)) hb); (try clear HR); have HR := n_; clear n_; (try clear cxHX hzHX); (try clear cxHG hzHG); (try clear cxHR hzHR frHR); have cxHX := blk_cell HX.out; have hzHX := blk_lt HX.out; have cxHG := blk_cell HG.out; have hzHG := blk_lt HG.out; have cxHR := blk_cell HR.out; have hzHR := blk_lt HR.out; have frHR := blk_frozen HR.out; clear hb))
    | (go_at_call 65; go_loud (refine (spec_l08Own.calls B0 d0 us X1 x1 S B2 d2 fs X3 x3 R nx us S fs R nx _ (Kd.C_below H0.out.2.2.1 (by repeat' (with_reducible first | exact HB.out | apply below_alloc | apply below_drew1 | refine below_set ?_ (by omega)))) m0 (R_toC (Kd.R_below K1.out (below_alloc (Below.refl _ _) _))).2 (R_toC K1.out).1 (Kd.C_below H0.out.2.2.2.2.1 (by repeat' (with_reducible first | exact HB.out | apply below_alloc | apply below_drew1 | refine below_set ?_ (by omega)))) m2 (R_toC (Kd.R_below K3.out (below_alloc (Below.refl _ _) _))).2 (R_toC K3.out).1 (own_f us S fs R nx (by omega) (by omega) (by omega) (by omega))).mono ?_; rintro e w6 ⟨v0, v1, v2, v3, rfl, o0, o1, o2, o3, hb⟩; (obtain ⟨O0, p0, e0⟩ := Kd.R_slice o0); subst e0; (obtain ⟨O1, p1, e1⟩ := Kd.R_slice o1); subst e1; (obtain ⟨O2, p2, e2⟩ := Kd.R_slice o2); subst e2; (obtain ⟨O3, p3, e3⟩ := Kd.R_slice o3); subst e3; have hszo := HB.out.size; have n_ := Aside0.mk (Kd.R_below (Kd.R_below KI.out (below_alloc (Below.refl _ _) _)) hb); clear KI; have KI := n_; clear n_; have hwl := Nat.le_trans hszo (below_alloc (Below.refl w5.heap.size w5) (.cells #[.slice B0 us.length d0, .slice X1 S.length x1, .slice B2 fs.length d2, .slice X3 R.length x3, .int .i64 nx] 48 (0, 0))).size; have O_0 := Aside0.mk (R_lo o0 hwl); have O_1 := Aside0.mk (R_lo o1 hwl); have O_2 := Aside0.mk (R_lo o2 hwl); have O_3 := Aside0.mk (R_lo o3 hwl); clear o0 o1 o2 o3 hwl; have n_ := Aside0.mk (below_step (w := w) (by repeat' (with_reducible first | exact HB.out | apply below_alloc | apply below_drew1 | refine below_set ?_ (by omega))) hb); clear HB; have HB := n_; clear n_; have n_ := Aside0.mk (blk_below (g := w.heap.size) (o := .cells #[.int .i64 ip, .int .i64 b, .int .i64 gate, .string gm, .string wm, .int .i64 res, .slice A6 g.length c6, .slice A7 l.length c7] 41 (0, 0)) (by repeat' (with_reducible first | exact HX.out | exact blk_alloc (blk_alloc (blk_new _ _) _) _ | exact blk_alloc (blk_new1 _ _ _) _ | exact blk_new2 _ _ _ _ | refine blk_alloc ?_ _)) hb); (try clear HX); have HX := n_; clear n_; have n_ := Aside0.mk (blk_below (g := (w.heap.size + 1)) (o := .cells #[.slice B0 us.length d0, .slice B1 ss.length d1, .slice B2 fs.length d2, .slice B3 rs.length d3, .int .i64 nx] 48 (0, 0)) (by repeat' (with_reducible first | exact HG.out | exact blk_alloc (blk_alloc (blk_new _ _) _) _ | exact blk_alloc (blk_new1 _ _ _) _ | exact blk_new2 _ _ _ _ | refine blk_alloc ?_ _)) hb); (try clear HG); have HG := n_; clear n_; have n_ := Aside0.mk (blk_below (g := (w.heap.size + 2)) (o := .cells #[.slice none 0 0, .slice none 0 0, .slice none 0 0, .slice none 0 0, .int .i64 0] 48 (0, 0)) (by repeat' (with_reducible first | exact HR.out | exact blk_alloc (blk_alloc (blk_new _ _) _) _ | exact blk_alloc (blk_new1 _ _ _) _ | exact blk_new2 _ _ _ _ | refine blk_alloc ?_ _)) hb); (try clear HR); have HR := n_; clear n_; (try clear cxHX hzHX); (try clear cxHG hzHG); (try clear cxHR hzHR frHR); have cxHX := blk_cell HX.out; have hzHX := blk_lt HX.out; have cxHG := blk_cell HG.out; have hzHG := blk_lt HG.out; have cxHR := blk_cell HR.out; have hzHR := blk_lt HR.out; have frHR := blk_frozen HR.out; clear hb)))
  · refine bodyPost_ret (results_ctt rfl _ _ (w.heap.size + 2) 48 #[.slice O0 us.length p0, .slice O1 S.length p1, .slice O2 fs.length p2, .slice O3 R.length p3, .int .i64 nx] (0, 0) _ rfl (res5 HR.out) hu rfl (by kernel_rfl)) rfl ⟨⟨us, S, fs, R, nx⟩, J, 0, _, _, _, _, _, rfl, .inr ⟨HA.out, ⟨S, R, J, HS.out, rfl, rfl⟩, rfl⟩, ?_, ?_, ?_, ?_, ?_, (by repeat' (with_reducible first | exact HB.out | refine below_set ?_ (by omega)))⟩
    · exact Kd.R_set5 O_0.out HR.out (by decide)
    · exact Kd.R_set5 O_1.out HR.out (by decide)
    · exact Kd.R_set5 O_2.out HR.out (by decide)
    · exact Kd.R_set5 O_3.out HR.out (by decide)
    · exact Kd.R_set5 KI.out HR.out (by decide)
  · exact bodyPost_ret (results_ctt rfl _ _ (w.heap.size + 2) 48 #[.slice none 0 0, .slice none 0 0, .slice none 0 0, .slice none 0 0, .int .i64 0] (0, 0) _ rfl (blk_alloc (res5 HR.out) _) hu rfl (by kernel_rfl)) rfl ⟨GV.none, [], 1, _, _, _, _, _, rfl, .inl ⟨HA.out, by decide, rfl, rfl⟩, Kd.R_nil _ _ _ _ _, Kd.R_nil _ _ _ _ _, Kd.R_nil _ _ _ _ _, Kd.R_nil _ _ _ _ _, R_emp (by rw [sz_set, sz_set, sz_set, sz_set, sz_set]) HB.out.size, (by repeat' (with_reducible first | exact HB.out | apply below_alloc | refine below_set ?_ (by omega)))⟩
  · exact bodyPost_ret (results_ctt rfl _ _ (w.heap.size + 2) 48 #[.slice none 0 0, .slice none 0 0, .slice none 0 0, .slice none 0 0, .int .i64 0] (0, 0) _ rfl (blk_alloc (res5 HR.out) _) hu rfl (by kernel_rfl)) rfl ⟨GV.none, [], 4, _, _, _, _, _, rfl, .inl ⟨HA.out, by decide, rfl, rfl⟩, Kd.R_nil _ _ _ _ _, Kd.R_nil _ _ _ _ _, Kd.R_nil _ _ _ _ _, Kd.R_nil _ _ _ _ _, R_emp (by rw [sz_set, sz_set, sz_set, sz_set, sz_set]) HB.out.size, (by repeat' (with_reducible first | exact HB.out | apply below_alloc | refine below_set ?_ (by omega)))⟩
set_option maxHeartbeats 8000000 in
set_option maxRecDepth 100000 in
theorem iExpS1 (ip b gate : Int) (gm wm : ByteArray) (res : Int) (A6 : Option Addr) (c6 : Nat) (g : List S140) (A7 : Option Addr) (c7 : Nat) (l : List S145) (B0 B1 B2 B3 : Option Addr) (d0 d1 d2 d3 : Nat) (us : List S92) (ss : List S76) (fs : List S81) (rs : List S83) (nx : Int) (now : Int) (w : World) (hg : Kd.C k140 w A6 g.length g) (hl : Kd.C k145 w A7 l.length l) (h0 : Kd.C k92 w B0 us.length us) (h1 : Kd.R k76 76 w 0 (fun _ => True) (.slice B1 ss.length d1) ss) (h2 : Kd.C k81 w B2 fs.length fs) (h3 : Kd.R k83 83 w 0 (fun _ => True) (.slice B3 rs.length d3) rs) (zg : g.length ≤ 1048576) (zl : l.length ≤ 1048576) (zr : ∀ x ∈ l, x.f1.length ≤ 1152921504606846976 ∧ x.f0.size ≤ 1152921504606846976) (zm : gm.size ≤ 1152921504606846976) (zw : wm.size ≤ 1152921504606846976) (y0 : us.length ≤ 1048576) (y1 : ss.length ≤ 1048576) (y2 : fs.length ≤ 1048576) (y3 : rs.length ≤ 1048576) (m0 : us.length ≤ d0) (m1 : ss.length ≤ d1) (m2 : fs.length ≤ d2) (m3 : rs.length ≤ d3) (zu : ∀ u ∈ us, u.f0.size ≤ 1152921504606846976 ∧ u.f1.size ≤ 1152921504606846976 ∧ u.f2.size ≤ 1152921504606846976) (zs : ∀ s ∈ ss, s.f2.size ≤ 1152921504606846976) (zf : ∀ f ∈ fs, f.f0.size ≤ 1152921504606846976) :
    Calls Tryz.prog 21 #[.agg #[.int .i64 ip, .int .i64 b, .int .i64 gate, .string gm, .string wm, .int .i64 res, .slice A6 g.length c6, .slice A7 l.length c7], .agg #[.slice B0 us.length d0, .slice B1 ss.length d1, .slice B2 fs.length d2, .slice B3 rs.length d3, .int .i64 nx], .int .i64 now] w fun e w' => ∃ (q : GV) (ids : List Int) (code : Int) (v0 v1 v2 v3 vi : Value), e = .returned (.tuple #[.agg #[v0, v1, v2, v3, .int .i64 q.nx], vi, .int .i64 code]) ∧ AllOut (GuestsP ip b gate gm wm res g l us ss fs rs nx) ⟨us, ss, fs, rs, nx⟩ (czE now) now q ids code ∧ Kd.R k92 92 w' w.heap.size (fun _ => True) v0 q.us ∧ Kd.R k76 76 w' w.heap.size (fun _ => True) v1 q.ss ∧ Kd.R k81 81 w' w.heap.size (fun _ => True) v2 q.fs ∧ Kd.R k83 83 w' w.heap.size (fun _ => True) v3 q.rs ∧ Kd.R (Kd.int .i64) 3 w' w.heap.size (fun _ => True) vi ids ∧ Below w.heap.size w w' := by
  have hu2 := Tryz.underlying41
  have hu := Tryz.underlying48
  have H0 := Aside0.mk (And.intro hg (And.intro hl (And.intro h0 (And.intro (R_toC h1).2 (And.intro h2 (R_toC h3).2)))))
  have H1 := Aside0.mk h1
  have H3 := Aside0.mk h3
  have HZ := Aside0.mk (And.intro zr (And.intro zu (And.intro zs zf)))
  clear hg hl h0 h1 h2 h3 zr zu zs zf
  have HB := Aside0.mk (Below.refl w.heap.size w)
  go_enter Tryz.func21, Tryz.ntmps21
  go_wp2_with (first
    | (go_at_call 67; go_loud (refine (iAsk1 ip b gate gm wm res A6 c6 g A7 c7 l B0 B1 B2 B3 d0 d1 d2 d3 us ss fs rs nx now _ (Kd.C_below H0.out.1 (by repeat' (with_reducible first | exact HB.out | apply below_alloc | apply below_drew1 | refine below_set ?_ (by omega)))) (Kd.C_below H0.out.2.1 (by repeat' (with_reducible first | exact HB.out | apply below_alloc | apply below_drew1 | refine below_set ?_ (by omega)))) (Kd.C_below H0.out.2.2.1 (by repeat' (with_reducible first | exact HB.out | apply below_alloc | apply below_drew1 | refine below_set ?_ (by omega)))) (Kd.C_below H0.out.2.2.2.1 (by repeat' (with_reducible first | exact HB.out | apply below_alloc | apply below_drew1 | refine below_set ?_ (by omega)))) (Kd.C_below H0.out.2.2.2.2.1 (by repeat' (with_reducible first | exact HB.out | apply below_alloc | apply below_drew1 | refine below_set ?_ (by omega)))) (Kd.C_below H0.out.2.2.2.2.2 (by repeat' (with_reducible first | exact HB.out | apply below_alloc | apply below_drew1 | refine below_set ?_ (by omega)))) (by omega) (by omega) HZ.out.1 zm zw (by omega) (by omega) (by omega) (by omega) m1 HZ.out.2.1 HZ.out.2.2.1 HZ.out.2.2.2).mono ?_; rintro e w2 ⟨c, rfl, hA, hb⟩; have HA := Aside0.mk hA; rcases hA with ⟨rfl, a1, a2⟩ | ⟨rfl, a1⟩ | ⟨rfl, a1, a2⟩ <;> ((try clear a2); clear a1; have n_ := Aside0.mk (below_step (w := w) (by repeat' (with_reducible first | exact HB.out | apply below_alloc | apply below_drew1 | refine below_set ?_ (by omega))) hb); clear HB; have HB := n_; clear n_; have n_ := Aside0.mk (blk_below (g := w.heap.size) (o := .cells #[.int .i64 ip, .int .i64 b, .int .i64 gate, .string gm, .string wm, .int .i64 res, .slice A6 g.length c6, .slice A7 l.length c7] 41 (0, 0)) (by repeat' (with_reducible first | exact HX.out | exact blk_alloc (blk_alloc (blk_new _ _) _) _ | exact blk_alloc (blk_new1 _ _ _) _ | exact blk_new2 _ _ _ _ | refine blk_alloc ?_ _)) hb); (try clear HX); have HX := n_; clear n_; have n_ := Aside0.mk (blk_below (g := (w.heap.size + 1)) (o := .cells #[.slice B0 us.length d0, .slice B1 ss.length d1, .slice B2 fs.length d2, .slice B3 rs.length d3, .int .i64 nx] 48 (0, 0)) (by repeat' (with_reducible first | exact HG.out | exact blk_alloc (blk_alloc (blk_new _ _) _) _ | exact blk_alloc (blk_new1 _ _ _) _ | exact blk_new2 _ _ _ _ | refine blk_alloc ?_ _)) hb); (try clear HG); have HG := n_; clear n_; have n_ := Aside0.mk (blk_below (g := (w.heap.size + 2)) (o := .cells #[.slice none 0 0, .slice none 0 0, .slice none 0 0, .slice none 0 0, .int .i64 0] 48 (0, 0)) (by repeat' (with_reducible first | exact HR.out | exact blk_alloc (blk_alloc (blk_new _ _) _) _ | exact blk_alloc (blk_new1 _ _ _) _ | exact blk_new2 _ _ _ _ | refine blk_alloc ?_ _)) hb); (try clear HR); have HR := n_; clear n_; (try clear cxHX hzHX); (try clear cxHG hzHG); (try clear cxHR hzHR frHR); have cxHX := blk_cell HX.out; have hzHX := blk_lt HX.out; have cxHG := blk_cell HG.out; have hzHG := blk_lt HG.out; have cxHR := blk_cell HR.out; have hzHR := blk_lt HR.out; have frHR := blk_frozen HR.out; clear hb)))
    | (go_at_call 68; go_loud (refine (impl_cloneGuests.calls B0 d0 us B1 d1 ss B2 d2 fs B3 d3 rs nx us ss fs rs nx _ (Kd.C_below H0.out.2.2.1 (by repeat' (with_reducible first | exact HB.out | apply below_alloc | apply below_drew1 | refine below_set ?_ (by omega)))) m0 (Kd.C_below H0.out.2.2.2.1 (by repeat' (with_reducible first | exact HB.out | apply below_alloc | apply below_drew1 | refine below_set ?_ (by omega)))) m1 (Kd.C_below H0.out.2.2.2.2.1 (by repeat' (with_reducible first | exact HB.out | apply below_alloc | apply below_drew1 | refine below_set ?_ (by omega)))) m2 (Kd.C_below H0.out.2.2.2.2.2 (by repeat' (with_reducible first | exact HB.out | apply below_alloc | apply below_drew1 | refine below_set ?_ (by omega)))) m3 (clone_f us ss fs rs nx (by omega) (by omega) (by omega) (by omega))).mono ?_; rintro e wC ⟨v0, v1, v2, v3, rfl, o0, o1, o2, o3, hb⟩; have hs3 := Aside0.mk hzHR; (obtain ⟨O0, p0, e0⟩ := Kd.R_slice o0); subst e0; (obtain ⟨O1, p1, e1⟩ := Kd.R_slice o1); subst e1; (obtain ⟨O2, p2, e2⟩ := Kd.R_slice o2); subst e2; (obtain ⟨O3, p3, e3⟩ := Kd.R_slice o3); subst e3; have O_0 := Aside0.mk (Kd.R_lower o0 hs3.out); have O_1 := Aside0.mk (Kd.R_lower o1 hs3.out); have O_2 := Aside0.mk (Kd.R_lower o2 hs3.out); have O_3 := Aside0.mk (Kd.R_lower o3 hs3.out); clear o0 o1 o2 o3; have hsC := Aside0.mk (Nat.le_trans hs3.out hb.size); have n_ := Aside0.mk (below_step (w := w) (by repeat' (with_reducible first | exact HB.out | apply below_alloc | apply below_drew1 | refine below_set ?_ (by omega))) hb); clear HB; have HB := n_; clear n_; have n_ := Aside0.mk (blk_below (g := w.heap.size) (o := .cells #[.int .i64 ip, .int .i64 b, .int .i64 gate, .string gm, .string wm, .int .i64 res, .slice A6 g.length c6, .slice A7 l.length c7] 41 (0, 0)) (by repeat' (with_reducible first | exact HX.out | exact blk_alloc (blk_alloc (blk_new _ _) _) _ | exact blk_alloc (blk_new1 _ _ _) _ | exact blk_new2 _ _ _ _ | refine blk_alloc ?_ _)) hb); (try clear HX); have HX := n_; clear n_; have n_ := Aside0.mk (blk_below (g := (w.heap.size + 1)) (o := .cells #[.slice B0 us.length d0, .slice B1 ss.length d1, .slice B2 fs.length d2, .slice B3 rs.length d3, .int .i64 nx] 48 (0, 0)) (by repeat' (with_reducible first | exact HG.out | exact blk_alloc (blk_alloc (blk_new _ _) _) _ | exact blk_alloc (blk_new1 _ _ _) _ | exact blk_new2 _ _ _ _ | refine blk_alloc ?_ _)) hb); (try clear HG); have HG := n_; clear n_; have n_ := Aside0.mk (blk_below (g := (w.heap.size + 2)) (o := .cells #[.slice none 0 0, .slice none 0 0, .slice none 0 0, .slice none 0 0, .int .i64 0] 48 (0, 0)) (by repeat' (with_reducible first | exact HR.out | exact blk_alloc (blk_alloc (blk_new _ _) _) _ | exact blk_alloc (blk_new1 _ _ _) _ | exact blk_new2 _ _ _ _ | refine blk_alloc ?_ _)) hb); (try clear HR); have HR := n_; clear n_; (try clear cxHX hzHX); (try clear cxHG hzHG); (try clear cxHR hzHR frHR); have cxHX := blk_cell HX.out; have hzHX := blk_lt HX.out; have cxHG := blk_cell HG.out; have hzHG := blk_lt HG.out; have cxHR := blk_cell HR.out; have hzHR := blk_lt HR.out; have frHR := blk_frozen HR.out; clear hb))
    | (go_at_call 82; go_loud (obtain ⟨S, R, J, hS⟩ : ∃ S R J, endF (czE now) now [] ss rs [] = (S, R, J) := ⟨_, _, _, rfl⟩; have HQ0 := blk_new wC (.cells #[.slice O0 us.length p0, .slice O1 ss.length p1, .slice O2 fs.length p2, .slice O3 rs.length p3, .int .i64 nx] 48 (0, 0)); have hq := iExp1 wC.heap.size O0 O1 O2 O3 us.length fs.length p0 p1 p2 p3 ss rs nx now (w.heap.size + 3) (wC.alloc (.cells #[.slice O0 us.length p0, .slice O1 ss.length p1, .slice O2 fs.length p2, .slice O3 rs.length p3, .int .i64 nx] 48 (0, 0))) HQ0 (Kd.R_alloc O_1.out _) (Kd.R_alloc O_3.out _) hsC.out y1 y3 (apart_all HA.out.yes); rw [hS] at hq; refine hq.mono ?_; rintro e w5 ⟨x1, X3, x3, vi, rfl, qx, q1, q3, qi, hbb, hok⟩; have hln := endF_len hS y3; simp only [List.length_nil, Nat.zero_add] at hln; obtain ⟨hl1, hl3, hli⟩ := hln; have HS := Aside0.mk hS; clear hS; have O2_0 := Aside0.mk (R_othS (Kd.R_alloc O_0.out _) hok ⟨_, HQ0⟩ (by decide)); have O2_2 := Aside0.mk (R_othS (Kd.R_alloc O_2.out _) hok ⟨_, HQ0⟩ (by decide)); clear O_0 O_1 O_2 O_3; have O_0 := O2_0; have O_2 := O2_2; have O_1 := Aside0.mk q1; have O_3 := Aside0.mk q3; clear O2_0 O2_2 q1 q3; (obtain ⟨Ai, ci, ei⟩ := Kd.R_slice qi); subst ei; have KI := Aside0.mk (R_lo qi (b2 := w.heap.size) (by omega)); have HR2 := Aside0.mk ((hbb.block (w.heap.size + 2) (by omega)).trans (blk_alloc HR.out _)); clear HR; have HR := HR2; clear HR2; have n_ := Aside0.mk (below_base (below_alloc HB.out _) hbb (by omega)); clear HB; have HB := n_; clear n_; have HQ := Aside0.mk qx; clear qx qi hbb hok hq HQ0 HX HG; (try clear cxHX hzHX); (try clear cxHG hzHG); (try clear cxHR hzHR frHR); have cxHR := blk_cell HR.out; have hzHR := blk_lt HR.out; have frHR := blk_frozen HR.out; have cxHQ := blk_cell HQ.out; have hzHQ := blk_lt HQ.out)))
  · refine bodyPost_ret (results_ctt rfl _ _ (w.heap.size + 2) 48 #[.slice O0 us.length p0, .slice O1 S.length x1, .slice O2 fs.length p2, .slice X3 R.length x3, .int .i64 nx] (0, 0) _ rfl (res5 HR.out) hu rfl (by kernel_rfl)) rfl ⟨⟨us, S, fs, R, nx⟩, J, 0, _, _, _, _, _, rfl, .inr ⟨HA.out, ⟨S, R, J, HS.out, rfl, rfl⟩, rfl⟩, ?_, ?_, ?_, ?_, ?_, (by repeat' (with_reducible first | exact HB.out | refine below_set ?_ (by omega)))⟩
    · exact Kd.R_set5 (R_lo O_0.out (by omega)) HR.out (by decide)
    · exact Kd.R_set5 (R_lo O_1.out (by omega)) HR.out (by decide)
    · exact Kd.R_set5 (R_lo O_2.out (by omega)) HR.out (by decide)
    · exact Kd.R_set5 (R_lo O_3.out (by omega)) HR.out (by decide)
    · exact Kd.R_set5 KI.out HR.out (by decide)
  · exact bodyPost_ret (results_ctt rfl _ _ (w.heap.size + 2) 48 #[.slice none 0 0, .slice none 0 0, .slice none 0 0, .slice none 0 0, .int .i64 0] (0, 0) _ rfl (res5 HR.out) hu rfl (by kernel_rfl)) rfl ⟨GV.none, [], 1, _, _, _, _, _, rfl, .inl ⟨HA.out, by decide, rfl, rfl⟩, Kd.R_nil _ _ _ _ _, Kd.R_nil _ _ _ _ _, Kd.R_nil _ _ _ _ _, Kd.R_nil _ _ _ _ _, Kd.R_nil _ _ _ _ _, (by repeat' (with_reducible first | exact HB.out | refine below_set ?_ (by omega)))⟩
  · exact bodyPost_ret (results_ctt rfl _ _ (w.heap.size + 2) 48 #[.slice none 0 0, .slice none 0 0, .slice none 0 0, .slice none 0 0, .int .i64 0] (0, 0) _ rfl (res5 HR.out) hu rfl (by kernel_rfl)) rfl ⟨GV.none, [], 4, _, _, _, _, _, rfl, .inl ⟨HA.out, by decide, rfl, rfl⟩, Kd.R_nil _ _ _ _ _, Kd.R_nil _ _ _ _ _, Kd.R_nil _ _ _ _ _, Kd.R_nil _ _ _ _ _, Kd.R_nil _ _ _ _ _, (by repeat' (with_reducible first | exact HB.out | refine below_set ?_ (by omega)))⟩
end
section
/-! ### laws_eqIntS: function 22 -/
def laws_eqIntS.l0 : Nat → List Int → List Int → Int → Option (Bool)
  | 0, _, _, _ => none
  | k + 1, x0, x1, x5 => if x5 < (x0.length : Int) then (if 0 ≤ x5 then (if x5 < (x1.length : Int) then (if (rd x0 x5) = (rd x1 x5) then (laws_eqIntS.l0 k x0 x1 (wrap64 (x5 + 1))) else (some false)) else (none)) else (none)) else (some true)
def laws_eqIntS.f (k : Nat) (l0 : List Int) (l1 : List Int) : Option (Bool) := if (l0.length : Int) = (l1.length : Int) then (laws_eqIntS.l0 k l0 l1 0) else (some false)
theorem laws_eqIntS.mono_l : ∀ k, (∀ y0 y1 y2, LeO (laws_eqIntS.l0 k y0 y1 y2) (laws_eqIntS.l0 (k + 1) y0 y1 y2))
  | 0 => fun _ _ _ r h => by simp [laws_eqIntS.l0] at h
  | k + 1 => by
    have ih0 := laws_eqIntS.mono_l k
    · intro y0 y1 y2
      unfold laws_eqIntS.l0
      repeat' first
      | (with_reducible exact ih0 _ _ _)
      | (with_reducible exact LeO.refl _)
      | (with_reducible exact LeO.none _)
      | (with_reducible refine LeO.ite ?_ ?_)
      | (with_reducible refine LeO.bind ?_ (fun _ => ?_))
      | exact ih0 _ _ _
      | exact LeO.none _
      | refine LeO.ite ?_ ?_
      | refine LeO.bind ?_ (fun _ => ?_)
theorem laws_eqIntS.mono : ∀ a0 a1 k, LeO (laws_eqIntS.f k a0 a1) (laws_eqIntS.f (k + 1) a0 a1) := by
  intro a0 a1 k
  have ih0 := laws_eqIntS.mono_l k
  unfold laws_eqIntS.f
  repeat' first
      | (with_reducible exact ih0 _ _ _)
      | (with_reducible exact LeO.refl _)
      | (with_reducible exact LeO.none _)
      | (with_reducible refine LeO.ite ?_ ?_)
      | (with_reducible refine LeO.bind ?_ (fun _ => ?_))
      | exact ih0 _ _ _
      | exact LeO.none _
      | refine LeO.ite ?_ ?_
      | refine LeO.bind ?_ (fun _ => ?_)
set_option maxHeartbeats 8000000 in
set_option maxRecDepth 100000 in
theorem laws_eqIntS.calls (k : Nat) (A0 : Option Addr) (c0 : Nat) (l0 : List Int) (A1 : Option Addr) (c1 : Nat) (l1 : List Int) (r : Bool) (w : World) (hr0 : Kd.C (Kd.int .i64) w A0 l0.length l0) (hc0 : l0.length ≤ c0) (hr1 : Kd.C (Kd.int .i64) w A1 l1.length l1) (hc1 : l1.length ≤ c1) (h : laws_eqIntS.f k l0 l1 = some r) :
    Calls Tryz.prog 22 #[.slice A0 l0.length c0, .slice A1 l1.length c1] w fun e w' => e = .returned (.bool r) ∧ Drawn0 w w' := by
  have HR0 := Aside0.mk hr0
  have HC0 := Aside0.mk hc0
  clear hr0 hc0
  have HR1 := Aside0.mk hr1
  have HC1 := Aside0.mk hc1
  clear hr1 hc1
  have H : (if (l0.length : Int) = (l1.length : Int) then (laws_eqIntS.l0 k l0 l1 0) else (some false)) = some r := h
  clear h
  by_cases c3 : (l0.length : Int) = (l1.length : Int)
  · rw [if_pos c3] at H
    have c3b0 : ((l0.length : Int) == (l1.length : Int)) = true := beq_iff_eq.mpr c3
    have c3b1 : ((l0.length : Int) != (l1.length : Int)) = false := bne_eq_false_iff_eq.mpr c3
    have c3b2 : (l0.length == l1.length) = true := by first | simpa using c3 | (simp at c3 ⊢; omega)
    clear c3
    have H' := Aside0.mk H
    clear H
    go_enter Tryz.func22, Tryz.ntmps22
    go_wp2
    repeat (go_quiet (fail); try go_wp2)
    go_loopg [5] k (fun kq v5 w' => ∃ (x5_1 : Int), v5 = .int .i64 x5_1 ∧ Aside0 (laws_eqIntS.l0 kq l0 l1 x5_1 = some r) ∧ Aside0 (kq ≤ k) ∧ Drawn0 w w')
    case atStart => exact ⟨(0), (by first | rfl | (simp; done) | (simp [*]; done) | (simp [ne_nil_b]; done) | (simp [ne_nil_b, *]; done)), H', ⟨Nat.le_refl _⟩, by repeat (first | exact Drawn0.refl _ | apply Drawn0.step)⟩
    case round =>
      clear H'
      try clear c1
      try clear c2
      try clear p2
      try clear c3
      try clear c3b0
      try clear c3b1
      try clear c3b2
      obtain ⟨x5_1, rfl, HA, HK1, ⟨m1, rfl⟩⟩ := hrel
      cases gk with
      | zero => exact absurd HA.out (by simp [laws_eqIntS.l0])
      | succ k1 =>
        have H := HA.out
        clear HA
        simp only [laws_eqIntS.l0] at H
        by_cases c4 : x5_1 < (l0.length : Int)
        · rw [if_pos c4] at H
          have c4b0 : decide (x5_1 < (l0.length : Int)) = true := decide_eq_true c4
          clear c4
          by_cases c5 : 0 ≤ x5_1
          · rw [if_pos c5] at H
            have c5b0 : decide (0 ≤ x5_1) = true := decide_eq_true c5
            clear c5
            by_cases c6 : x5_1 < (l1.length : Int)
            · rw [if_pos c6] at H
              have c6b0 : decide (x5_1 < (l1.length : Int)) = true := decide_eq_true c6
              clear c6
              by_cases c7 : (rd l0 x5_1) = (rd l1 x5_1)
              · rw [if_pos c7] at H
                have c7b0 : ((rd l0 x5_1) == (rd l1 x5_1)) = true := beq_iff_eq.mpr c7
                have c7b1 : ((rd l0 x5_1) != (rd l1 x5_1)) = false := bne_eq_false_iff_eq.mpr c7
                clear c7
                have H' := Aside0.mk H
                clear H
                have p792 : 0 ≤ (x5_1 : Int) := of_decide_eq_true (by first | (with_reducible assumption) | assumption)
                have q792 : x5_1 < (l0.length : Int) := of_decide_eq_true (by first | (with_reducible assumption) | assumption)
                obtain ⟨ad792, e792, hx792_0⟩ := Kd.at_int HR0.out x5_1 p792 q792
                cases e792
                replace p792 := eq_true p792
                replace q792 := eq_true q792
                have p793 : 0 ≤ (x5_1 : Int) := of_decide_eq_true (by first | (with_reducible assumption) | assumption)
                have q793 : x5_1 < (l1.length : Int) := of_decide_eq_true (by first | (with_reducible assumption) | assumption)
                obtain ⟨ad793, e793, hx793_0⟩ := Kd.at_int HR1.out x5_1 p793 q793
                cases e793
                replace p793 := eq_true p793
                replace q793 := eq_true q793
                go_wp2
                repeat (go_quiet (fail); try go_wp2)
                go_roundg k1
                case measure => have := HK1.out; omega
                case rel => exact ⟨(wrap64 (x5_1 + 1)), (by first | rfl | (simp; done) | (simp [*]; done) | (simp [ne_nil_b]; done) | (simp [ne_nil_b, *]; done)), H', ⟨by have := HK1.out; omega⟩, by repeat (first | exact Drawn0.refl _ | apply Drawn0.step)⟩
              · rw [if_neg c7] at H
                have c7b0 : ((rd l0 x5_1) == (rd l1 x5_1)) = false := beq_eq_false_iff_ne.mpr c7
                have c7b1 : ((rd l0 x5_1) != (rd l1 x5_1)) = true := bne_iff_ne.mpr c7
                obtain rfl := Option.some.inj H
                have p792 : 0 ≤ (x5_1 : Int) := of_decide_eq_true (by first | (with_reducible assumption) | assumption)
                have q792 : x5_1 < (l0.length : Int) := of_decide_eq_true (by first | (with_reducible assumption) | assumption)
                obtain ⟨ad792, e792, hx792_0⟩ := Kd.at_int HR0.out x5_1 p792 q792
                cases e792
                replace p792 := eq_true p792
                replace q792 := eq_true q792
                have p793 : 0 ≤ (x5_1 : Int) := of_decide_eq_true (by first | (with_reducible assumption) | assumption)
                have q793 : x5_1 < (l1.length : Int) := of_decide_eq_true (by first | (with_reducible assumption) | assumption)
                obtain ⟨ad793, e793, hx793_0⟩ := Kd.at_int HR1.out x5_1 p793 q793
                cases e793
                replace p793 := eq_true p793
                replace q793 := eq_true q793
                go_wp2
                repeat (go_quiet (fail); try go_wp2)
                go_ret
                exact ⟨by first | rfl | (simp; done) | (simp [*]; done) | (simp [ne_nil_b]; done) | (simp [ne_nil_b, *]; done), by repeat (first | exact Drawn0.refl _ | apply Drawn0.step)⟩
            · rw [if_neg c6] at H
              exact absurd H (by simp)
          · rw [if_neg c5] at H
            exact absurd H (by simp)
        · rw [if_neg c4] at H
          have c4b0 : decide (x5_1 < (l0.length : Int)) = false := decide_eq_false c4
          clear c4
          obtain rfl := Option.some.inj H
          go_wp2
          repeat (go_quiet (fail); try go_wp2)
          go_ret
          exact ⟨by first | rfl | (simp; done) | (simp [*]; done) | (simp [ne_nil_b]; done) | (simp [ne_nil_b, *]; done), by repeat (first | exact Drawn0.refl _ | apply Drawn0.step)⟩
  · rw [if_neg c3] at H
    have c3b0 : ((l0.length : Int) == (l1.length : Int)) = false := beq_eq_false_iff_ne.mpr c3
    have c3b1 : ((l0.length : Int) != (l1.length : Int)) = true := bne_iff_ne.mpr c3
    have c3b2 : (l0.length == l1.length) = false := by first | simpa using c3 | (simp at c3 ⊢; omega)
    obtain rfl := Option.some.inj H
    go_enter Tryz.func22, Tryz.ntmps22
    go_wp2
    repeat (go_quiet (fail); try go_wp2)
    go_ret
    exact ⟨by first | rfl | (simp; done) | (simp [*]; done) | (simp [ne_nil_b]; done) | (simp [ne_nil_b, *]; done), by repeat (first | exact Drawn0.refl _ | apply Drawn0.step)⟩
end
section
-- NEEDS laws.eqConfig laws.eqIntS laws.markText
def mvInt (k : Int) (p : Nat) : Value := .int .i64 (k + p)
set_option maxHeartbeats 8000000 in
set_option maxRecDepth 100000 in
theorem markInt1 {S : Nat → Prop} (g s n c : Nat) (k : Int) (w : World) (HX : Filled w g 3 s (mvInt k) 0) (hg : S g) (hn : n ≤ s) (hz : n ≤ 1152921504606846) (k0 : 0 ≤ k) (k1 : k ≤ 1152921504606846) :
    Calls Tryz.prog 23 #[.slice (some ⟨g, 0, none⟩) n c, .int .i64 k] w fun e w' => e = .returned (.int .i64 (k + n)) ∧ Filled w' g 3 s (mvInt k) n ∧ ButS S w w' := by
  have HX := Aside0.mk HX
  have HG := Aside0.mk hg
  have HT := Aside0.mk (ButS.refl S w)
  clear hg
  go_enter Tryz.func23, Tryz.ntmps23
  go_wp2
  go_loopg [1, 5] n (fun gg v1 v5 w' => ∃ i : Int, v1 = .int .i64 (k + i) ∧ v5 = .int .i64 i ∧ 0 ≤ i ∧ i ≤ n ∧ n - i ≤ gg ∧ Aside0 (Filled w' g 3 s (mvInt k) i.toNat) ∧ Aside0 (ButS S w w'))
  case atStart => exact ⟨0, by rw [Int.add_zero], rfl, by omega, by omega, by omega, HX, HT⟩
  case round =>
    clear HX HT
    obtain ⟨i, rfl, rfl, hi0, hi, hgg, HX, HT⟩ := hrel
    by_cases hlt : i < n
    · have hm : i.toNat + 1 ≤ s := by omega
      have hxx := Aside0.mk (show mvInt k i.toNat = .int .i64 (k + i) by unfold mvInt; rw [Int.toNat_of_nonneg hi0])
      go_wp2_with (first
        | ((with_reducible refine gate_store rfl ?_); go_loud (refine raw_fill (p := i.toNat) rfl rfl _ _ _ rfl HX.out HG.out rfl (by first | rfl | (simp; done) | (simp; omega) | omega) (by rw [hxx.out]; rfl) (by rw [hxx.out]; rfl) (by rw [hxx.out]; rfl) (by kernel_rfl) (by omega) ?_; intro w3 hf hb; clear HX; have HX := Aside0.mk hf; have n_ := Aside0.mk (HT.out.trans hb); clear HT; have HT := n_; clear n_ hf hb)))
      go_roundg (n - (i + 1)).toNat
      case measure => omega
      case rel => exact ⟨i + 1, by congr 1; omega, rfl, by omega, by omega, by omega, ⟨by rw [show (i + 1).toNat = i.toNat + 1 by omega]; exact HX.out⟩, HT⟩
    · obtain rfl : i = n := by omega
      go_wp2
      go_ret
      exact ⟨rfl, by rw [Int.toNat_natCast] at HX; exact HX.out, HT.out⟩
set_option maxHeartbeats 8000000 in
set_option maxRecDepth 100000 in
theorem heldInt1 (g s n c : Nat) (k : Int) (w : World) (HX : Filled w g 3 s (mvInt k) n) (hn : n ≤ s) (hz : n ≤ 1152921504606846) (k0 : 0 ≤ k) (k1 : k ≤ 1152921504606846) :
    Calls Tryz.prog 24 #[.slice (some ⟨g, 0, none⟩) n c, .int .i64 k] w fun e w' => e = .returned (.int .i64 (k + n)) ∧ Below w.heap.size w w' := by
  have HX := Aside0.mk HX
  have HB := Aside0.mk (Below.refl w.heap.size w)
  go_enter Tryz.func24, Tryz.ntmps24
  go_wp2
  go_loopg [1, 5] n (fun gg v1 v5 w' => ∃ i : Int, v1 = .int .i64 (k + i) ∧ v5 = .int .i64 i ∧ 0 ≤ i ∧ i ≤ n ∧ n - i ≤ gg ∧ Aside0 (Below w.heap.size w w'))
  case atStart => exact ⟨0, by rw [Int.add_zero], rfl, by omega, by omega, by omega, HB⟩
  case round =>
    clear HB
    obtain ⟨i, rfl, rfl, hi0, hi, hgg, HB⟩ := hrel
    by_cases hlt : i < n
    · have hxx := Aside0.mk (show mvInt k i.toNat = .int .i64 (k + i) by unfold mvInt; rw [Int.toNat_of_nonneg hi0])
      have r0 := ((HX.out.below HB.out).cell i.toNat (by omega)).trans (congrArg some hxx.out)
      go_wp2
      clear r0
      go_roundg (n - (i + 1)).toNat
      case measure => omega
      case rel => exact ⟨i + 1, by congr 1; omega, rfl, by omega, by omega, by omega, HB⟩
    · obtain rfl : i = n := by omega
      go_wp2
      go_ret
      exact ⟨rfl, HB.out⟩
set_option maxHeartbeats 8000000 in
set_option maxRecDepth 100000 in
theorem markInt0 (A : Option Addr) (c : Nat) (k : Int) (w : World) :
    Calls Tryz.prog 23 #[.slice A 0 c, .int .i64 k] w fun e w' => e = .returned (.int .i64 k) ∧ Below w.heap.size w w' := by
  have HB := Aside0.mk (Below.refl w.heap.size w)
  go_enter Tryz.func23, Tryz.ntmps23
  go_wp2
  go_loopg [1, 5] 0 (fun gg v1 v5 w' => v1 = .int .i64 k ∧ v5 = .int .i64 0 ∧ Aside0 (Below w.heap.size w w'))
  case atStart => exact ⟨rfl, rfl, HB⟩
  case round =>
    clear HB
    obtain ⟨rfl, rfl, HB⟩ := hrel
    go_wp2
    go_ret
    exact ⟨rfl, HB.out⟩
set_option maxHeartbeats 8000000 in
set_option maxRecDepth 100000 in
theorem heldInt0 (A : Option Addr) (c : Nat) (k : Int) (w : World) :
    Calls Tryz.prog 24 #[.slice A 0 c, .int .i64 k] w fun e w' => e = .returned (.int .i64 k) ∧ Below w.heap.size w w' := by
  have HB := Aside0.mk (Below.refl w.heap.size w)
  go_enter Tryz.func24, Tryz.ntmps24
  go_wp2
  go_loopg [1, 5] 0 (fun gg v1 v5 w' => v1 = .int .i64 k ∧ v5 = .int .i64 0 ∧ Aside0 (Below w.heap.size w w'))
  case atStart => exact ⟨rfl, rfl, HB⟩
  case round =>
    clear HB
    obtain ⟨rfl, rfl, HB⟩ := hrel
    go_wp2
    go_ret
    exact ⟨rfl, HB.out⟩
theorem markIntR {S : Nat → Prop} (A : Option Addr) (n c : Nat) (k : Int) (w : World) (h : RowA w S A n 3 1) (hz : n ≤ 1152921504606846) (k0 : 0 ≤ k) (k1 : k ≤ 1152921504606846) :
    Calls Tryz.prog 23 #[.slice A n c, .int .i64 k] w fun e w' => e = .returned (.int .i64 (k + n)) ∧ RowF w' A n 3 1 (mvInt k) ∧ ButS S w w' := by
  rcases h with rfl | ⟨g, cur, rfl, hg, hc, hn⟩
  · refine (markInt0 A c k w).mono ?_
    rintro e w' ⟨rfl, hb⟩
    exact ⟨by simp, .inl rfl, ButS.of hb⟩
  · refine (markInt1 g cur.size n c k w (Filled.start hc _) hg (by omega) hz k0 k1).mono ?_
    rintro e w' ⟨rfl, hf, hb⟩
    exact ⟨rfl, .inr ⟨g, _, rfl, hn, by rw [Nat.mul_one]; exact hf⟩, hb⟩
theorem heldIntR (A : Option Addr) (n c : Nat) (k : Int) (w : World) (h : RowF w A n 3 1 (mvInt k)) (hz : n ≤ 1152921504606846) (k0 : 0 ≤ k) (k1 : k ≤ 1152921504606846) :
    Calls Tryz.prog 24 #[.slice A n c, .int .i64 k] w fun e w' => e = .returned (.int .i64 (k + n)) ∧ Below w.heap.size w w' := by
  rcases h with rfl | ⟨g, s, rfl, hn, hf⟩
  · refine (heldInt0 A c k w).mono ?_
    rintro e w' ⟨rfl, hb⟩
    exact ⟨by simp, hb⟩
  · rw [Nat.mul_one] at hf hn
    exact heldInt1 g s n c k w hf hn hz k0 k1
theorem eqInt_l0 (l : List Int) (hl : l.length ≤ 1048577) : ∀ (n : Nat) (i : Int), 0 ≤ i → (l.length : Int) - i ≤ n → laws_eqIntS.l0 (n + 1) l l i = some true := by
  intro n
  induction n with
  | zero =>
    intro i h0 h1
    rw [laws_eqIntS.l0]
    rw [if_neg (by omega)]
  | succ n ih =>
    intro i h0 h1
    rw [laws_eqIntS.l0]
    split
    · rename_i hlt
      rw [if_pos rfl, show wrap64 (i + 1) = i + 1 from by rw [wrap64]; omega]
      exact ih (i + 1) (by omega) (by omega)
    · rfl
theorem eqIntR (l : List Int) (A0 A1 : Option Addr) (c0 c1 : Nat) (w : World) (h0 : Kd.C (Kd.int .i64) w A0 l.length l) (m0 : l.length ≤ c0) (h1 : Kd.C (Kd.int .i64) w A1 l.length l) (m1 : l.length ≤ c1) (hl : l.length ≤ 1048577) :
    Calls Tryz.prog 22 #[.slice A0 l.length c0, .slice A1 l.length c1] w fun e w' => e = .returned (.bool true) ∧ Below w.heap.size w w' := by
  refine (laws_eqIntS.calls (l.length + 1) A0 c0 l A1 c1 l true w h0 m0 h1 m1 (by rw [laws_eqIntS.f, if_pos rfl]; exact eqInt_l0 l hl l.length 0 (Int.le_refl _) (by omega))).mono ?_
  rintro e w2 ⟨rfl, hd⟩
  exact ⟨rfl, hd.below⟩
end
section
-- NEEDS laws.eqConfig laws.szConfig laws.toConfig laws.eqIntS laws.markText
theorem AllOut.len {P : Prop} {q r : GV} {cz : S76 → Int} {now c : Int} {ids : List Int} (h : AllOut P q cz now r ids c) (hq : q.Len) : r.Len ∧ ids.length ≤ 1048576 := by
  rcases h with ⟨_, _, rfl, rfl⟩ | ⟨_, ⟨S, R, J, h, rfl, rfl⟩, _⟩
  · exact ⟨⟨Nat.zero_le _, Nat.zero_le _, Nat.zero_le _, Nat.zero_le _⟩, Nat.zero_le _⟩
  · have q2 := endF_len h hq.2.2.2
    simp only [List.length_nil, Nat.zero_add] at q2
    exact ⟨⟨hq.1, Nat.le_trans q2.1 hq.2.1, hq.2.2.1, q2.2.1⟩, Nat.le_trans q2.2.2 hq.2.1⟩
theorem MovOut.len {P : Prop} {q r : GV} {mac : ByteArray} {ip now c : Int} {ids : List Int} (h : MovOut P q mac ip now r ids c) (hq : q.Len) : r.Len ∧ ids.length ≤ 1048576 := by
  rcases h with ⟨_, rfl, rfl, _⟩ | ⟨_, h⟩
  · exact ⟨⟨Nat.zero_le _, Nat.zero_le _, Nat.zero_le _, Nat.zero_le _⟩, Nat.zero_le _⟩
  · exact h.len hq
structure JVI where
  v1 : Value
  v2 : Value
  g : Nat
  q : GV
  c : Int
  O0 : Option Addr
  O1 : Option Addr
  O2 : Option Addr
  O3 : Option Addr
  p0 : Nat
  p1 : Nat
  p2 : Nat
  p3 : Nat
  h : Nat
  ids : List Int
  J : Option Addr
  ci : Nat
def MarkedI (w : World) (A : Option Addr) (n : Nat) (m m2 : Int) : Prop := RowF w A n 3 1 (mvInt m) ∧ m2 = m + n
theorem MarkedI.I {w W : World} {A : Option Addr} {n : Nat} {m m2 : Int} (h : MarkedI w A n m m2) (hb : Below w.heap.size w W) : MarkedI W A n m m2 := ⟨h.1.below hb, h.2⟩
theorem MarkedG.but {w W : World} {B0 B1 B2 B3 : Option Addr} {n0 n1 n2 n3 : Nat} {m : Int} {S : Nat → Prop} (h : MarkedG w B0 B1 B2 B3 n0 n1 n2 n3 m) (hb : ButS S w W) (hs : ∀ b, S b → TypeAt w b 3) : MarkedG W B0 B1 B2 B3 n0 n1 n2 n3 m :=
  ⟨h.1.but hb (fun b h1 h2 => absurd ((hs b h1).ne h2) (by decide)), h.2.1.but hb (fun b h1 h2 => absurd ((hs b h1).ne h2) (by decide)), h.2.2.1.but hb (fun b h1 h2 => absurd ((hs b h1).ne h2) (by decide)), h.2.2.2.1.but hb (fun b h1 h2 => absurd ((hs b h1).ne h2) (by decide)), h.2.2.2.2⟩
theorem markIM (n : Nat) (A : Option Addr) (c : Nat) (m : Int) (w : World) {lo hi : Nat} (h : RowA w (Ivl lo hi) A n 3 1) (hz : n ≤ 1048576) (k0 : 0 ≤ m) (k1 : m ≤ 70368744177664) :
    Calls Tryz.prog 23 #[.slice A n c, .int .i64 m] w fun e w' => ∃ m2 : Int, e = .returned (.int .i64 m2) ∧ MarkedI w' A n m m2 ∧ decide (m2 < 0) = false ∧ ButS (fun b => Ivl lo hi b ∧ TypeAt w b 3) w w' := by
  refine (markIntR A n c m w h.typed (by omega) k0 (by omega)).mono ?_
  rintro e w2 ⟨rfl, hf, hb⟩
  exact ⟨_, rfl, ⟨hf, rfl⟩, by rw [decide_eq_false_iff_not]; omega, hb⟩
theorem heldIM (n : Nat) (A : Option Addr) (c : Nat) (m m2 : Int) (w : World) (h : MarkedI w A n m m2) (hz : n ≤ 1048576) (k0 : 0 ≤ m) (k1 : m ≤ 70368744177664) :
    Calls Tryz.prog 24 #[.slice A n c, .int .i64 m] w fun e w' => e = .returned (.int .i64 m2) ∧ Below w.heap.size w w' := by
  obtain ⟨hf, rfl⟩ := h
  exact heldIntR A n c m w hf (by omega) k0 (by omega)
end
end Go.Proofs.YtkklokkldgkacaaGreat.X
