/- Texts that the row of FnExactEndMoved stands on: functions of the program and of the reference, each as a Lean function with the same answers, and the plain lemmas. Conditions: none beside those that each theorem names. -/
import Derived.Test.YtkklokkldgkacaaGreatCFnExactEndMoved16
namespace Go.Proofs.YtkklokkldgkacaaGreat.X
open Go.RowKit Go.Proofs.YtkklokkldgkacaaGreatW.PrintWords Go.Proofs.YtkklokkldgkacaaGreatW.PrintLast Go.Proofs.YtkklokkldgkacaaGreatW.PrintMore
attribute [local go_sem] max2_int min2_int max_two min_two max_three min_three max_four min_four   -- for this text's walks alone
set_option linter.unusedVariables false
set_option linter.unusedSimpArgs false
section
-- NEEDS laws.eqConfig laws.szConfig laws.toConfig laws.eqIntS laws.markText
theorem sMovSM (ip b gate : Int) (gm wm : ByteArray) (res : Int) (g : List S140) (l : List S145) (A6 A7 : Option Addr) (c6 c7 n6 n7 : Nat) (us : List S92) (ss : List S76) (fs : List S81) (rs : List S83) (nx : Int) (B0 B1 B2 B3 : Option Addr) (d0 d1 d2 d3 n0 n1 n2 n3 : Nat) (mac : ByteArray) (ip2 now : Int) (w : World) {a b1 a2 b2 : Nat} (hc : RR2 w a b1 (.slice A6 n6 c6) (.slice A7 n7 c7) g l) (h4 : RR4 w a2 b2 (.slice B0 n0 d0) (.slice B1 n1 d1) (.slice B2 n2 d2) (.slice B3 n3 d3) ⟨us, ss, fs, rs, nx⟩) (z_ : SzL gm wm g l us ss fs rs) :
    Calls Tryz.prog 25 #[.agg #[.int .i64 ip, .int .i64 b, .int .i64 gate, .string gm, .string wm, .int .i64 res, .slice A6 n6 c6, .slice A7 n7 c7], .agg #[.slice B0 n0 d0, .slice B1 n1 d1, .slice B2 n2 d2, .slice B3 n3 d3, .int .i64 nx], .string mac, .int .i64 ip2, .int .i64 now] w fun e w' => ∃ (q : GV) (ids : List Int) (code : Int) (O0 : Option Addr) (p0 : Nat) (O1 : Option Addr) (p1 : Nat) (O2 : Option Addr) (p2 : Nat) (O3 : Option Addr) (p3 : Nat) (J : Option Addr) (ci : Nat), e = .returned (.tuple #[.agg #[.slice O0 q.us.length p0, .slice O1 q.ss.length p1, .slice O2 q.fs.length p2, .slice O3 q.rs.length p3, .int .i64 q.nx], .slice J ids.length ci, .int .i64 code]) ∧ MovOut (GuestsP ip b gate gm wm res g l us ss fs rs nx) ⟨us, ss, fs, rs, nx⟩ mac ip2 now q ids code ∧ q.Len ∧ RR4 w' w.heap.size w'.heap.size (.slice O0 q.us.length p0) (.slice O1 q.ss.length p1) (.slice O2 q.fs.length p2) (.slice O3 q.rs.length p3) q ∧ (Kd.R (Kd.int .i64) 3 w' w.heap.size (fun k => k < w'.heap.size) (.slice J ids.length ci) ids ∧ ids.length ≤ 1048576) ∧ Below w.heap.size w w' := by
  obtain rfl : n6 = g.length := (Kd.R_reads' hc.1).1
  obtain rfl : n7 = l.length := (Kd.R_reads' hc.2).1
  obtain rfl : n0 = us.length := (Kd.R_reads' h4.1).1
  obtain rfl : n1 = ss.length := (Kd.R_reads' h4.2.1).1
  obtain rfl : n2 = fs.length := (Kd.R_reads' h4.2.2.1).1
  obtain rfl : n3 = rs.length := (Kd.R_reads' h4.2.2.2).1
  refine (sMovS1 ip b gate gm wm res A6 c6 g A7 c7 l B0 B1 B2 B3 d0 d1 d2 d3 us ss fs rs nx mac ip2 now w (R_toC hc.1).2 (R_toC hc.2).2 (R_toC h4.1).2 (R_lo h4.2.1 (Nat.zero_le _)) (R_toC h4.2.2.1).2 (R_lo h4.2.2.2 (Nat.zero_le _)) z_.1 z_.2.1 (fun x hx => ⟨Nat.le_trans (z_.2.2.1 x hx).1 (by decide), (z_.2.2.1 x hx).2⟩) z_.2.2.2.1 z_.2.2.2.2.1 z_.2.2.2.2.2.1 z_.2.2.2.2.2.2.1 z_.2.2.2.2.2.2.2.1 z_.2.2.2.2.2.2.2.2.1 (R_toC h4.1).1 (R_toC h4.2.1).1 (R_toC h4.2.2.1).1 (R_toC h4.2.2.2).1 z_.2.2.2.2.2.2.2.2.2.1 z_.2.2.2.2.2.2.2.2.2.2.1 z_.2.2.2.2.2.2.2.2.2.2.2).mono ?_
  rintro e w2 ⟨q, ids, code, v0, v1, v2, v3, vi, rfl, ho, o0, o1, o2, o3, oi, hb⟩
  obtain ⟨O0, p0, e0⟩ := Kd.R_slice o0
  subst e0
  obtain ⟨O1, p1, e1⟩ := Kd.R_slice o1
  subst e1
  obtain ⟨O2, p2, e2⟩ := Kd.R_slice o2
  subst e2
  obtain ⟨O3, p3, e3⟩ := Kd.R_slice o3
  subst e3
  obtain ⟨J, ci, ei⟩ := Kd.R_slice oi
  subst ei
  have hl := ho.len ⟨z_.2.2.2.2.2.1, z_.2.2.2.2.2.2.1, z_.2.2.2.2.2.2.2.1, z_.2.2.2.2.2.2.2.2.1⟩
  exact ⟨q, ids, code, O0, p0, O1, p1, O2, p2, O3, p3, J, ci, rfl, ho, hl.1, ⟨R_in o0 (Nat.le_refl _) (Nat.le_refl _), R_in o1 (Nat.le_refl _) (Nat.le_refl _), R_in o2 (Nat.le_refl _) (Nat.le_refl _), R_in o3 (Nat.le_refl _) (Nat.le_refl _)⟩, ⟨R_in oi (Nat.le_refl _) (Nat.le_refl _), hl.2⟩, hb⟩
theorem iMovSM (ip b gate : Int) (gm wm : ByteArray) (res : Int) (g : List S140) (l : List S145) (A6 A7 : Option Addr) (c6 c7 n6 n7 : Nat) (us : List S92) (ss : List S76) (fs : List S81) (rs : List S83) (nx : Int) (B0 B1 B2 B3 : Option Addr) (d0 d1 d2 d3 n0 n1 n2 n3 : Nat) (mac : ByteArray) (ip2 now : Int) (w : World) {a b1 a2 b2 : Nat} (hc : RR2 w a b1 (.slice A6 n6 c6) (.slice A7 n7 c7) g l) (h4 : RR4 w a2 b2 (.slice B0 n0 d0) (.slice B1 n1 d1) (.slice B2 n2 d2) (.slice B3 n3 d3) ⟨us, ss, fs, rs, nx⟩) (z_ : SzL gm wm g l us ss fs rs) :
    Calls Tryz.prog 26 #[.agg #[.int .i64 ip, .int .i64 b, .int .i64 gate, .string gm, .string wm, .int .i64 res, .slice A6 n6 c6, .slice A7 n7 c7], .agg #[.slice B0 n0 d0, .slice B1 n1 d1, .slice B2 n2 d2, .slice B3 n3 d3, .int .i64 nx], .string mac, .int .i64 ip2, .int .i64 now] w fun e w' => ∃ (q : GV) (ids : List Int) (code : Int) (O0 : Option Addr) (p0 : Nat) (O1 : Option Addr) (p1 : Nat) (O2 : Option Addr) (p2 : Nat) (O3 : Option Addr) (p3 : Nat) (J : Option Addr) (ci : Nat), e = .returned (.tuple #[.agg #[.slice O0 q.us.length p0, .slice O1 q.ss.length p1, .slice O2 q.fs.length p2, .slice O3 q.rs.length p3, .int .i64 q.nx], .slice J ids.length ci, .int .i64 code]) ∧ MovOut (GuestsP ip b gate gm wm res g l us ss fs rs nx) ⟨us, ss, fs, rs, nx⟩ mac ip2 now q ids code ∧ q.Len ∧ RR4 w' w.heap.size w'.heap.size (.slice O0 q.us.length p0) (.slice O1 q.ss.length p1) (.slice O2 q.fs.length p2) (.slice O3 q.rs.length p3) q ∧ (Kd.R (Kd.int .i64) 3 w' w.heap.size (fun k => k < w'.heap.size) (.slice J ids.length ci) ids ∧ ids.length ≤ 1048576) ∧ Below w.heap.size w w' := by
  obtain rfl : n6 = g.length := (Kd.R_reads' hc.1).1
  obtain rfl : n7 = l.length := (Kd.R_reads' hc.2).1
  obtain rfl : n0 = us.length := (Kd.R_reads' h4.1).1
  obtain rfl : n1 = ss.length := (Kd.R_reads' h4.2.1).1
  obtain rfl : n2 = fs.length := (Kd.R_reads' h4.2.2.1).1
  obtain rfl : n3 = rs.length := (Kd.R_reads' h4.2.2.2).1
  refine (iMovS1 ip b gate gm wm res A6 c6 g A7 c7 l B0 B1 B2 B3 d0 d1 d2 d3 us ss fs rs nx mac ip2 now w (R_toC hc.1).2 (R_toC hc.2).2 (R_toC h4.1).2 (R_lo h4.2.1 (Nat.zero_le _)) (R_toC h4.2.2.1).2 (R_lo h4.2.2.2 (Nat.zero_le _)) z_.1 z_.2.1 (fun x hx => ⟨Nat.le_trans (z_.2.2.1 x hx).1 (by decide), (z_.2.2.1 x hx).2⟩) z_.2.2.2.1 z_.2.2.2.2.1 z_.2.2.2.2.2.1 z_.2.2.2.2.2.2.1 z_.2.2.2.2.2.2.2.1 z_.2.2.2.2.2.2.2.2.1 (R_toC h4.1).1 (R_toC h4.2.1).1 (R_toC h4.2.2.1).1 (R_toC h4.2.2.2).1 z_.2.2.2.2.2.2.2.2.2.1 z_.2.2.2.2.2.2.2.2.2.2.1 z_.2.2.2.2.2.2.2.2.2.2.2).mono ?_
  rintro e w2 ⟨q, ids, code, v0, v1, v2, v3, vi, rfl, ho, o0, o1, o2, o3, oi, hb⟩
  obtain ⟨O0, p0, e0⟩ := Kd.R_slice o0
  subst e0
  obtain ⟨O1, p1, e1⟩ := Kd.R_slice o1
  subst e1
  obtain ⟨O2, p2, e2⟩ := Kd.R_slice o2
  subst e2
  obtain ⟨O3, p3, e3⟩ := Kd.R_slice o3
  subst e3
  obtain ⟨J, ci, ei⟩ := Kd.R_slice oi
  subst ei
  have hl := ho.len ⟨z_.2.2.2.2.2.1, z_.2.2.2.2.2.2.1, z_.2.2.2.2.2.2.2.1, z_.2.2.2.2.2.2.2.2.1⟩
  exact ⟨q, ids, code, O0, p0, O1, p1, O2, p2, O3, p3, J, ci, rfl, ho, hl.1, ⟨R_in o0 (Nat.le_refl _) (Nat.le_refl _), R_in o1 (Nat.le_refl _) (Nat.le_refl _), R_in o2 (Nat.le_refl _) (Nat.le_refl _), R_in o3 (Nat.le_refl _) (Nat.le_refl _)⟩, ⟨R_in oi (Nat.le_refl _) (Nat.le_refl _), hl.2⟩, hb⟩
def TLMw : Bool × List (List Nat × List Nat) := (true, [([], []), ([0], [0]), ([], []), ([2, 1], [2]), ([], []), ([], []), ([], []), ([1, 3, 4, 5, 6, 3], [1, 3, 4, 5, 6]), ([7], [7]), ([8], [8]), ([8], [8]), ([8], [8]), ([], []), ([12, 9, 7, 0, 1, 2, 3, 4, 5, 6, 7, 8, 9, 12], [9, 12]), ([10, 13, 0, 1, 2, 3, 4, 5, 6, 7, 8, 9, 10, 12, 13], [10]), ([11, 14, 0, 1, 2, 3, 4, 5, 6, 7, 8, 9, 10, 11, 12, 13, 14], [11])])
theorem TLMw_tab : rtab .any (opsOf Tryz.f6 10) = TLMw := by kernel_rfl
def TLMh : Bool × List (List Nat × List Nat) := (true, [([], []), ([0], [0]), ([], []), ([2, 1], [2]), ([], []), ([], []), ([], []), ([1, 3, 4, 5, 6, 3], [1, 3, 4, 5, 6]), ([7], [7]), ([8], [8]), ([8], [8]), ([8], [8]), ([], []), ([12, 9, 7, 0, 1, 2, 3, 4, 5, 6, 7, 8, 9, 12], [9, 12]), ([10, 13, 0, 1, 2, 3, 4, 5, 6, 7, 8, 9, 10, 12, 13], [10]), ([11, 14, 0, 1, 2, 3, 4, 5, 6, 7, 8, 9, 10, 11, 12, 13, 14], [11])])
theorem TLMh_tab : rtab .any (opsOf Tryz.f6 37) = TLMh := by kernel_rfl
set_option maxHeartbeats 8000000 in
set_option maxRecDepth 100000 in
theorem lawM1 (ip b gate : Int) (gm wm : ByteArray) (res : Int) (A6 : Option Addr) (c6 : Nat) (g : List S151) (A7 : Option Addr) (c7 : Nat) (l : List S129) (B0 B1 B2 B3 : Option Addr) (d0 d1 d2 d3 : Nat) (us : List S131) (ss : List S133) (fs : List S135) (rs : List S157) (nx : Int) (mac : ByteArray) (ip2 now : Int) (w : World) (hg : Kd.C k151 w A6 g.length g) (hl : Kd.C k129 w A7 l.length l) (h0 : Kd.C k131 w B0 us.length us) (h1 : Kd.C k133 w B1 ss.length ss) (h2 : Kd.C k135 w B2 fs.length fs) (h3 : Kd.C k157 w B3 rs.length rs) (hz : LawG gm wm g l us ss fs rs) :
    Calls Tryz.prog 6 #[.agg #[.int .i64 ip, .int .i64 b, .int .i64 gate, .string gm, .string wm, .int .i64 res, .slice A6 g.length c6, .slice A7 l.length c7], .agg #[.slice B0 us.length d0, .slice B1 ss.length d1, .slice B2 fs.length d2, .slice B3 rs.length d3, .int .i64 nx], .string mac, .int .i64 ip2, .int .i64 now] w fun e w' => e = .returned (.bool true) ∧ Below w.heap.size w w' := by
  have hu := Tryz.underlying27
  have hu2 := Tryz.underlying33
  have hu3 := Tryz.underlying41
  have hu4 := Tryz.underlying48
  have H0 := Aside0.mk (And.intro hg (And.intro hl (And.intro h0 (And.intro h1 (And.intro h2 h3)))))
  have HZ := Aside0.mk hz
  clear hg hl h0 h1 h2 h3 hz
  have HB := Aside0.mk (Below.refl w.heap.size w)
  go_enter Tryz.func6, Tryz.ntmps6
  go_wp2_with (first
    | (go_at_call 7; go_loud (refine (szConfig1 ip b gate gm wm res A6 c6 g A7 c7 l _ _ (by omega) (by omega) HZ.out.1 HZ.out.2.1 HZ.out.2.2.1 HZ.out.2.2.2.1 (Kd.C_below H0.out.2.1 (by repeat' (with_reducible first | exact HB.out | apply below_alloc | apply below_drew1 | refine below_set ?_ (by omega)))) HZ.out.2.2.2.2.1).mono ?_; rintro e w2 ⟨t1, rfl, ht1, hp, hb⟩; have n_ := Aside0.mk (below_step (w := w) (by repeat' (with_reducible first | exact HB.out | apply below_alloc | apply below_drew1 | refine below_set ?_ (by omega))) hb); clear HB; have HB := n_; clear n_; have n_ := Aside0.mk (blk_below (g := w.heap.size) (o := .cells #[.int .i64 ip, .int .i64 b, .int .i64 gate, .string gm, .string wm, .int .i64 res, .slice A6 g.length c6, .slice A7 l.length c7] 27 (0, 0)) (by repeat' (with_reducible first | exact HX.out | exact blk_new _ _ | exact blk_new1 _ _ _ | exact blk_alloc (blk_new _ _) _ | refine blk_alloc ?_ _ | refine blk_drew ?_)) hb); (try clear HX); have HX := n_; clear n_; have n_ := Aside0.mk (blk_below (g := (w.heap.size + 1)) (o := .cells #[.slice B0 us.length d0, .slice B1 ss.length d1, .slice B2 fs.length d2, .slice B3 rs.length d3, .int .i64 nx] 33 (0, 0)) (by repeat' (with_reducible first | exact HG.out | exact blk_new _ _ | exact blk_new1 _ _ _ | exact blk_alloc (blk_new _ _) _ | refine blk_alloc ?_ _ | refine blk_drew ?_)) hb); (try clear HG); have HG := n_; clear n_; (try clear cxHX hzHX); (try clear cxHG hzHG); have cxHX := blk_cell HX.out; have hzHX := blk_lt HX.out; have cxHG := blk_cell HG.out; have hzHG := blk_lt HG.out; have HP1 := Aside0.mk hp; clear hp; clear hb))
    | (go_at_call 8; go_loud (refine (szGuests1 B0 d0 us B1 d1 ss B2 d2 fs B3 d3 rs nx _ _ (by omega) (by omega) HZ.out.2.2.2.2.2.1 (Kd.C_below H0.out.2.2.1 (by repeat' (with_reducible first | exact HB.out | apply below_alloc | apply below_drew1 | refine below_set ?_ (by omega)))) HZ.out.2.2.2.2.2.2.1 HZ.out.2.2.2.2.2.2.2.1 (Kd.C_below H0.out.2.2.2.1 (by repeat' (with_reducible first | exact HB.out | apply below_alloc | apply below_drew1 | refine below_set ?_ (by omega)))) HZ.out.2.2.2.2.2.2.2.2.1 HZ.out.2.2.2.2.2.2.2.2.2.1 (Kd.C_below H0.out.2.2.2.2.1 (by repeat' (with_reducible first | exact HB.out | apply below_alloc | apply below_drew1 | refine below_set ?_ (by omega)))) HZ.out.2.2.2.2.2.2.2.2.2.2.1 HZ.out.2.2.2.2.2.2.2.2.2.2.2).mono ?_; rintro e w2 ⟨t2, rfl, ht2, hp, hb⟩; have n_ := Aside0.mk (below_step (w := w) (by repeat' (with_reducible first | exact HB.out | apply below_alloc | apply below_drew1 | refine below_set ?_ (by omega))) hb); clear HB; have HB := n_; clear n_; have n_ := Aside0.mk (blk_below (g := w.heap.size) (o := .cells #[.int .i64 ip, .int .i64 b, .int .i64 gate, .string gm, .string wm, .int .i64 res, .slice A6 g.length c6, .slice A7 l.length c7] 27 (0, 0)) (by repeat' (with_reducible first | exact HX.out | exact blk_new _ _ | exact blk_new1 _ _ _ | exact blk_alloc (blk_new _ _) _ | refine blk_alloc ?_ _ | refine blk_drew ?_)) hb); (try clear HX); have HX := n_; clear n_; have n_ := Aside0.mk (blk_below (g := (w.heap.size + 1)) (o := .cells #[.slice B0 us.length d0, .slice B1 ss.length d1, .slice B2 fs.length d2, .slice B3 rs.length d3, .int .i64 nx] 33 (0, 0)) (by repeat' (with_reducible first | exact HG.out | exact blk_new _ _ | exact blk_new1 _ _ _ | exact blk_alloc (blk_new _ _) _ | refine blk_alloc ?_ _ | refine blk_drew ?_)) hb); (try clear HG); have HG := n_; clear n_; (try clear cxHX hzHX); (try clear cxHG hzHG); have cxHX := blk_cell HX.out; have hzHX := blk_lt HX.out; have cxHG := blk_cell HG.out; have hzHG := blk_lt HG.out; have HP2 := Aside0.mk hp; clear hp; clear hb)))
  all_goals try (go_ret; exact ⟨rfl, by repeat' (with_reducible first | exact HB.out | apply below_alloc)⟩; done)
  have HS := Aside0.mk (And.intro (HP1.out (by omega)) (HP2.out (by omega)))
  clear HP1 HP2
  (try clear cxHX hzHX); (try clear cxHG hzHG)
  have HZC := Aside0.mk (show SzL gm wm (g.map cvPlace) (l.map cvRole) (us.map cvUser) (ss.map cvSession) (fs.map cvFail) (rs.map cvRecord) from ⟨by rw [List.length_map]; exact HS.out.1.1, by rw [List.length_map]; exact HS.out.1.2.1, zmap fun x hx => ⟨by have := (HS.out.1.2.2 x hx).2; simp only [cvRole, List.length_map]; omega, by have := (HS.out.1.2.2 x hx).1; simp only [cvRole]; omega⟩, Nat.le_trans HZ.out.1 (by decide), Nat.le_trans HZ.out.2.1 (by decide), by rw [List.length_map]; have := HS.out.2.1; omega, by rw [List.length_map]; have := HS.out.2.2.1; omega, by rw [List.length_map]; have := HS.out.2.2.2.1; omega, by rw [List.length_map]; have := HS.out.2.2.2.2; omega, zmap fun x hx => by have q := HZ.out.2.2.2.2.2.2.1 x hx; simp only [cvUser]; omega, zmap fun x hx => by have q := HZ.out.2.2.2.2.2.2.2.2.1 x hx; simp only [cvSession]; omega, zmap fun x hx => by have q := HZ.out.2.2.2.2.2.2.2.2.2.2.1 x hx; simp only [cvFail]; omega⟩)
  have HQC := Aside0.mk (show ((⟨us.map cvUser, ss.map cvSession, fs.map cvFail, rs.map cvRecord, nx⟩ : GV)).Len from ⟨HZC.out.2.2.2.2.2.1, HZC.out.2.2.2.2.2.2.1, HZC.out.2.2.2.2.2.2.2.1, HZC.out.2.2.2.2.2.2.2.2.1⟩)
  have z0 := blk_lt HG.out
  refine qSd (fun w' => w'.cell? ⟨w.heap.size, 0, none⟩ = some (.int .i64 ip) ∧ w'.cell? ⟨w.heap.size, 1, none⟩ = some (.int .i64 b) ∧ w'.cell? ⟨w.heap.size, 2, none⟩ = some (.int .i64 gate) ∧ w'.cell? ⟨w.heap.size, 3, none⟩ = some (.string gm) ∧ w'.cell? ⟨w.heap.size, 4, none⟩ = some (.string wm) ∧ w'.cell? ⟨w.heap.size, 5, none⟩ = some (.int .i64 res) ∧ w'.cell? ⟨w.heap.size, 6, none⟩ = some (.slice A6 g.length c6) ∧ w'.cell? ⟨w.heap.size, 7, none⟩ = some (.slice A7 l.length c7) ∧ w'.cell? ⟨w.heap.size + 1, 0, none⟩ = some (.slice B0 us.length d0) ∧ w'.cell? ⟨w.heap.size + 1, 1, none⟩ = some (.slice B1 ss.length d1) ∧ w'.cell? ⟨w.heap.size + 1, 2, none⟩ = some (.slice B2 fs.length d2) ∧ w'.cell? ⟨w.heap.size + 1, 3, none⟩ = some (.slice B3 rs.length d3) ∧ w'.cell? ⟨w.heap.size + 1, 4, none⟩ = some (.int .i64 nx)) 16 [13] ⟨blk_cell HX.out 0, blk_cell HX.out 1, blk_cell HX.out 2, blk_cell HX.out 3, blk_cell HX.out 4, blk_cell HX.out 5, blk_cell HX.out 6, blk_cell HX.out 7, blk_cell HG.out 0, blk_cell HG.out 1, blk_cell HG.out 2, blk_cell HG.out 3, blk_cell HG.out 4⟩ (fun hs => ?_)
  have hbd := below_drew1 (Below.refl w2.heap.size w2)
  generalize (World.drew w2) = Wd at hs hbd ⊢
  have HT := Aside0.mk hbd
  clear hbd
  refine qP 4 44 ?_
  refine qP 5 45 ?_
  refine qP 6 46 ?_
  refine qT 0 40 hs ?_
  refine qT 2 42 hs ?_
  refine join_ (σ := JVI) 3 #[true, true, true, true, true, true, true, true, true, true, true, true, true, false, false, false] (fun s_ => [(41, s_.v1), (43, s_.v2), (47, .tuple #[.agg #[.slice s_.O0 s_.q.us.length s_.p0, .slice s_.O1 s_.q.ss.length s_.p1, .slice s_.O2 s_.q.fs.length s_.p2, .slice s_.O3 s_.q.rs.length s_.p3, .int .i64 s_.q.nx], .slice s_.J s_.ids.length s_.ci, .int .i64 s_.c]), (39, .tuple #[.agg #[.slice s_.O0 s_.q.us.length s_.p0, .slice s_.O1 s_.q.ss.length s_.p1, .slice s_.O2 s_.q.fs.length s_.p2, .slice s_.O3 s_.q.rs.length s_.p3, .int .i64 s_.q.nx], .slice s_.J s_.ids.length s_.ci, .int .i64 s_.c]), (48, .agg #[.slice s_.O0 s_.q.us.length s_.p0, .slice s_.O1 s_.q.ss.length s_.p1, .slice s_.O2 s_.q.fs.length s_.p2, .slice s_.O3 s_.q.rs.length s_.p3, .int .i64 s_.q.nx]), (49, .slice s_.J s_.ids.length s_.ci), (50, .int .i64 s_.c), (12, .pointer (some ⟨s_.g, 0, none⟩))]) (fun s_ w' => Below w2.heap.size w2 w' ∧ w'.heap[s_.g]? = some (.cells #[.slice none 0 0, .slice none 0 0, .slice none 0 0, .slice none 0 0, .int .i64 0] 48 (0, 0)) ∧ w2.heap.size ≤ s_.g ∧ s_.h ≤ w'.heap.size ∧ MovOut (GuestsP ip b gate gm wm res (g.map cvPlace) (l.map cvRole) (us.map cvUser) (ss.map cvSession) (fs.map cvFail) (rs.map cvRecord) nx) (⟨us.map cvUser, ss.map cvSession, fs.map cvFail, rs.map cvRecord, nx⟩ : GV) mac ip2 now s_.q s_.ids s_.c ∧ s_.q.Len ∧ RR4 w' w2.heap.size s_.h (.slice s_.O0 s_.q.us.length s_.p0) (.slice s_.O1 s_.q.ss.length s_.p1) (.slice s_.O2 s_.q.fs.length s_.p2) (.slice s_.O3 s_.q.rs.length s_.p3) s_.q ∧ Kd.R (Kd.int .i64) 3 w' w2.heap.size (fun k => k < s_.h) (.slice s_.J s_.ids.length s_.ci) s_.ids ∧ s_.ids.length ≤ 1048576) ?_ ?_
  rotate_left
  · intro hJ
    refine qTwo 1 12 41 12 (fun K hK => ?_) (fun K hK => ?_)
    · refine qC Tryz.func10 _ ?_
      refine (toConfigN ip b gate gm wm res A6 c6 g A7 c7 l _ 0 (by exact Nat.zero_le _) (Kd.C_below H0.out.1 (below_step HB.out HT.out)) HS.out.1.1 (Kd.C_below H0.out.2.1 (below_step HB.out HT.out)) HS.out.1.2.1 (fun r hr => (HS.out.1.2.2 r hr).2)).mono ?_
      rintro e u1 ⟨P6, p6, P7, p7, rfl, hr, hb⟩
      have HC2 := Aside0.mk hr
      clear hr
      have hsz_u1 := hb.size
      have n_ := Aside0.mk (Below_I HT.out (ivl0 hb) (by omega))
      clear HT
      have HT := n_
      clear n_
      refine ⟨_, rfl, hK.out _ _ ⟨pw_cell_below hb hs.1, pw_cell_below hb hs.2.1, pw_cell_below hb hs.2.2.1, pw_cell_below hb hs.2.2.2.1, pw_cell_below hb hs.2.2.2.2.1, pw_cell_below hb hs.2.2.2.2.2.1, pw_cell_below hb hs.2.2.2.2.2.2.1, pw_cell_below hb hs.2.2.2.2.2.2.2.1, pw_cell_below hb hs.2.2.2.2.2.2.2.2.1, pw_cell_below hb hs.2.2.2.2.2.2.2.2.2.1, pw_cell_below hb hs.2.2.2.2.2.2.2.2.2.2.1, pw_cell_below hb hs.2.2.2.2.2.2.2.2.2.2.2.1, pw_cell_below hb hs.2.2.2.2.2.2.2.2.2.2.2.2⟩ (fun hs2 => ?_)⟩
      clear hK K hs hb
      have hs := hs2
      clear hs2
      refine qN ?_
      refine qTwo 3 12 43 12 (fun K hK => ?_) (fun K hK => ?_)
      · refine qC Tryz.func11 _ ?_
        refine (toGuestsN B0 B1 B2 B3 d0 d1 d2 d3 us ss fs rs nx _ 0 (by exact Nat.zero_le _) (Kd.C_below H0.out.2.2.1 (below_step HB.out HT.out)) HS.out.2.1 (Kd.C_below H0.out.2.2.2.1 (below_step HB.out HT.out)) HS.out.2.2.1 (Kd.C_below H0.out.2.2.2.2.1 (below_step HB.out HT.out)) HS.out.2.2.2.1 (Kd.C_below H0.out.2.2.2.2.2 (below_step HB.out HT.out)) HS.out.2.2.2.2).mono ?_
        rintro e u2 ⟨P0, p0, P1, p1, P2, p2, P3, p3, rfl, hr, hb⟩
        have HC4 := Aside0.mk hr
        clear hr
        have hsz_u2 := hb.size
        have n_ := Aside0.mk (RR2.I HC2.out (ivl0 hb) (by omega))
        clear HC2
        have HC2 := n_
        clear n_
        have n_ := Aside0.mk (Below_I HT.out (ivl0 hb) (by omega))
        clear HT
        have HT := n_
        clear n_
        refine ⟨_, rfl, hK.out _ _ ⟨pw_cell_below hb hs.1, pw_cell_below hb hs.2.1, pw_cell_below hb hs.2.2.1, pw_cell_below hb hs.2.2.2.1, pw_cell_below hb hs.2.2.2.2.1, pw_cell_below hb hs.2.2.2.2.2.1, pw_cell_below hb hs.2.2.2.2.2.2.1, pw_cell_below hb hs.2.2.2.2.2.2.2.1, pw_cell_below hb hs.2.2.2.2.2.2.2.2.1, pw_cell_below hb hs.2.2.2.2.2.2.2.2.2.1, pw_cell_below hb hs.2.2.2.2.2.2.2.2.2.2.1, pw_cell_below hb hs.2.2.2.2.2.2.2.2.2.2.2.1, pw_cell_below hb hs.2.2.2.2.2.2.2.2.2.2.2.2⟩ (fun hs2 => ?_)⟩
        clear hK K hs hb
        have hs := hs2
        clear hs2
        refine qN ?_
        refine qTwo 7 12 47 12 (fun K hK => ?_) (fun K hK => ?_)
        · refine qC Tryz.func25 _ ?_
          refine (sMovSM ip b gate gm wm res (g.map cvPlace) (l.map cvRole) P6 P7 p6 p7 _ _ (us.map cvUser) (ss.map cvSession) (fs.map cvFail) (rs.map cvRecord) nx P0 P1 P2 P3 p0 p1 p2 p3 _ _ _ _ mac ip2 now _ HC2.out HC4.out HZC.out).mono ?_
          rintro e u3 ⟨q, ids, code, O0, y0, O1, y1, O2, y2, O3, y3, J, cj, rfl, ho, hql, hr, hj, hb⟩
          have HT0 := HT.out.size
          have HR := Aside0.mk (RR4.low hr HT0)
          have HO := Aside0.mk ho
          have HQL := Aside0.mk hql
          clear ho hql
          have HJ := Aside0.mk (Kd.R_lower hj.1 HT0)
          have hjl := hj.2
          clear hj
          clear hr
          clear HC2 HC4
          have hsz_u3 := hb.size
          have n_ := Aside0.mk (Below_I HT.out (ivl0 hb) (by omega))
          clear HT
          have HT := n_
          clear n_
          refine ⟨_, rfl, hK.out _ _ ⟨pw_cell_below hb hs.1, pw_cell_below hb hs.2.1, pw_cell_below hb hs.2.2.1, pw_cell_below hb hs.2.2.2.1, pw_cell_below hb hs.2.2.2.2.1, pw_cell_below hb hs.2.2.2.2.2.1, pw_cell_below hb hs.2.2.2.2.2.2.1, pw_cell_below hb hs.2.2.2.2.2.2.2.1, pw_cell_below hb hs.2.2.2.2.2.2.2.2.1, pw_cell_below hb hs.2.2.2.2.2.2.2.2.2.1, pw_cell_below hb hs.2.2.2.2.2.2.2.2.2.2.1, pw_cell_below hb hs.2.2.2.2.2.2.2.2.2.2.2.1, pw_cell_below hb hs.2.2.2.2.2.2.2.2.2.2.2.2⟩ (fun hs2 => ?_)⟩
          clear hK K hs hb
          have hs := hs2
          clear hs2
          refine qN ?_
          refine qP 8 39 ?_
          refine qP 9 48 ?_
          refine qP 10 49 ?_
          refine qP 11 50 ?_
          refine q1 12 12 (fun K hK => ?_)
          refine qAl (o := .cells #[.slice none 0 0, .slice none 0 0, .slice none 0 0, .slice none 0 0, .int .i64 0] 48 (0, 0)) (by first | (go_simp; done) | (go_simp; rfl)) (fun u4 hn hb => ?_)
          have HT0 := HT.out.size
          obtain ⟨gB, egB⟩ : ∃ x, x = u3.heap.size := ⟨_, rfl⟩
          rw [← egB] at hn ⊢
          have n_ := Aside0.mk (RR4.I HR.out (ivl0 hb) (by omega))
          clear HR
          have HR := n_
          clear n_
          have n_ := Aside0.mk (R_I HJ.out (ivl0 hb) (by omega))
          clear HJ
          have HJ := n_
          clear n_
          have n_ := Aside0.mk (Below_I HT.out (ivl0 hb) (by omega))
          clear HT
          have HT := n_
          clear n_
          have HZB := Aside0.mk hn
          have hgB : w2.heap.size ≤ gB := by have := HT0; omega
          clear hn egB
          have hsz_u4 := hb.size
          refine hK.out _ _ ⟨pw_cell_below hb hs.1, pw_cell_below hb hs.2.1, pw_cell_below hb hs.2.2.1, pw_cell_below hb hs.2.2.2.1, pw_cell_below hb hs.2.2.2.2.1, pw_cell_below hb hs.2.2.2.2.2.1, pw_cell_below hb hs.2.2.2.2.2.2.1, pw_cell_below hb hs.2.2.2.2.2.2.2.1, pw_cell_below hb hs.2.2.2.2.2.2.2.2.1, pw_cell_below hb hs.2.2.2.2.2.2.2.2.2.1, pw_cell_below hb hs.2.2.2.2.2.2.2.2.2.2.1, pw_cell_below hb hs.2.2.2.2.2.2.2.2.2.2.2.1, pw_cell_below hb hs.2.2.2.2.2.2.2.2.2.2.2.2⟩ (fun hs2 => ?_)
          clear hK K hs hb
          have hs := hs2
          clear hs2
          refine qN ?_
          exact qJ (hJ ⟨.agg #[.int .i64 ip, .int .i64 b, .int .i64 gate, .string gm, .string wm, .int .i64 res, .slice P6 g.length p6, .slice P7 l.length p7], .agg #[.slice P0 us.length p0, .slice P1 ss.length p1, .slice P2 fs.length p2, .slice P3 rs.length p3, .int .i64 nx], gB, q, code, O0, O1, O2, O3, y0, y1, y2, y3, u3.heap.size, ids, J, cj⟩ _ ⟨HT.out, HZB.out, hgB, by dsimp only; omega, HO.out, HQL.out, HR.out, HJ.out, hjl⟩)
        · refine qAl (o := .cells #[.slice none 0 0, .slice none 0 0, .slice none 0 0, .slice none 0 0, .int .i64 0] 48 (0, 0)) (by first | (go_simp; done) | (go_simp; rfl)) (fun u5 hn hb => ?_)
          have HT0 := HT.out.size
          obtain ⟨gB, egB⟩ : ∃ x, x = u2.heap.size := ⟨_, rfl⟩
          rw [← egB] at hn ⊢
          have n_ := Aside0.mk (RR2.I HC2.out (ivl0 hb) (by omega))
          clear HC2
          have HC2 := n_
          clear n_
          have n_ := Aside0.mk (RR4.I HC4.out (ivl0 hb) (by omega))
          clear HC4
          have HC4 := n_
          clear n_
          have n_ := Aside0.mk (Below_I HT.out (ivl0 hb) (by omega))
          clear HT
          have HT := n_
          clear n_
          have HZB := Aside0.mk hn
          have hgB : w2.heap.size ≤ gB := by have := HT0; omega
          clear hn egB
          have hsz_u5 := hb.size
          refine hK.out _ _ ⟨pw_cell_below hb hs.1, pw_cell_below hb hs.2.1, pw_cell_below hb hs.2.2.1, pw_cell_below hb hs.2.2.2.1, pw_cell_below hb hs.2.2.2.2.1, pw_cell_below hb hs.2.2.2.2.2.1, pw_cell_below hb hs.2.2.2.2.2.2.1, pw_cell_below hb hs.2.2.2.2.2.2.2.1, pw_cell_below hb hs.2.2.2.2.2.2.2.2.1, pw_cell_below hb hs.2.2.2.2.2.2.2.2.2.1, pw_cell_below hb hs.2.2.2.2.2.2.2.2.2.2.1, pw_cell_below hb hs.2.2.2.2.2.2.2.2.2.2.2.1, pw_cell_below hb hs.2.2.2.2.2.2.2.2.2.2.2.2⟩ (fun hs2 => ?_)
          clear hK K hs hb
          have hs := hs2
          clear hs2
          refine qN ?_
          refine q1 7 47 (fun K hK => ?_)
          refine qC Tryz.func25 _ ?_
          refine (sMovSM ip b gate gm wm res (g.map cvPlace) (l.map cvRole) P6 P7 p6 p7 _ _ (us.map cvUser) (ss.map cvSession) (fs.map cvFail) (rs.map cvRecord) nx P0 P1 P2 P3 p0 p1 p2 p3 _ _ _ _ mac ip2 now _ HC2.out HC4.out HZC.out).mono ?_
          rintro e u6 ⟨q, ids, code, O0, y0, O1, y1, O2, y2, O3, y3, J, cj, rfl, ho, hql, hr, hj, hb⟩
          have HT0 := HT.out.size
          have HR := Aside0.mk (RR4.low hr HT0)
          have HO := Aside0.mk ho
          have HQL := Aside0.mk hql
          clear ho hql
          have HJ := Aside0.mk (Kd.R_lower hj.1 HT0)
          have hjl := hj.2
          clear hj
          clear hr
          clear HC2 HC4
          have hsz_u6 := hb.size
          have n_ := Aside0.mk (blk_I HZB.out (ivl0 hb) (by omega))
          clear HZB
          have HZB := n_
          clear n_
          have n_ := Aside0.mk (Below_I HT.out (ivl0 hb) (by omega))
          clear HT
          have HT := n_
          clear n_
          refine ⟨_, rfl, hK.out _ _ ⟨pw_cell_below hb hs.1, pw_cell_below hb hs.2.1, pw_cell_below hb hs.2.2.1, pw_cell_below hb hs.2.2.2.1, pw_cell_below hb hs.2.2.2.2.1, pw_cell_below hb hs.2.2.2.2.2.1, pw_cell_below hb hs.2.2.2.2.2.2.1, pw_cell_below hb hs.2.2.2.2.2.2.2.1, pw_cell_below hb hs.2.2.2.2.2.2.2.2.1, pw_cell_below hb hs.2.2.2.2.2.2.2.2.2.1, pw_cell_below hb hs.2.2.2.2.2.2.2.2.2.2.1, pw_cell_below hb hs.2.2.2.2.2.2.2.2.2.2.2.1, pw_cell_below hb hs.2.2.2.2.2.2.2.2.2.2.2.2⟩ (fun hs2 => ?_)⟩
          clear hK K hs hb
          have hs := hs2
          clear hs2
          refine qN ?_
          refine qP 8 39 ?_
          refine qP 9 48 ?_
          refine qP 10 49 ?_
          refine qP 11 50 ?_
          exact qJ (hJ ⟨.agg #[.int .i64 ip, .int .i64 b, .int .i64 gate, .string gm, .string wm, .int .i64 res, .slice P6 g.length p6, .slice P7 l.length p7], .agg #[.slice P0 us.length p0, .slice P1 ss.length p1, .slice P2 fs.length p2, .slice P3 rs.length p3, .int .i64 nx], gB, q, code, O0, O1, O2, O3, y0, y1, y2, y3, u6.heap.size, ids, J, cj⟩ _ ⟨HT.out, HZB.out, hgB, by dsimp only; omega, HO.out, HQL.out, HR.out, HJ.out, hjl⟩)
      · refine qAl (o := .cells #[.slice none 0 0, .slice none 0 0, .slice none 0 0, .slice none 0 0, .int .i64 0] 48 (0, 0)) (by first | (go_simp; done) | (go_simp; rfl)) (fun u7 hn hb => ?_)
        have HT0 := HT.out.size
        obtain ⟨gB, egB⟩ : ∃ x, x = u1.heap.size := ⟨_, rfl⟩
        rw [← egB] at hn ⊢
        have n_ := Aside0.mk (RR2.I HC2.out (ivl0 hb) (by omega))
        clear HC2
        have HC2 := n_
        clear n_
        have n_ := Aside0.mk (Below_I HT.out (ivl0 hb) (by omega))
        clear HT
        have HT := n_
        clear n_
        have HZB := Aside0.mk hn
        have hgB : w2.heap.size ≤ gB := by have := HT0; omega
        clear hn egB
        have hsz_u7 := hb.size
        refine hK.out _ _ ⟨pw_cell_below hb hs.1, pw_cell_below hb hs.2.1, pw_cell_below hb hs.2.2.1, pw_cell_below hb hs.2.2.2.1, pw_cell_below hb hs.2.2.2.2.1, pw_cell_below hb hs.2.2.2.2.2.1, pw_cell_below hb hs.2.2.2.2.2.2.1, pw_cell_below hb hs.2.2.2.2.2.2.2.1, pw_cell_below hb hs.2.2.2.2.2.2.2.2.1, pw_cell_below hb hs.2.2.2.2.2.2.2.2.2.1, pw_cell_below hb hs.2.2.2.2.2.2.2.2.2.2.1, pw_cell_below hb hs.2.2.2.2.2.2.2.2.2.2.2.1, pw_cell_below hb hs.2.2.2.2.2.2.2.2.2.2.2.2⟩ (fun hs2 => ?_)
        clear hK K hs hb
        have hs := hs2
        clear hs2
        refine qN ?_
        refine q1 3 43 (fun K hK => ?_)
        refine qC Tryz.func11 _ ?_
        refine (toGuestsN B0 B1 B2 B3 d0 d1 d2 d3 us ss fs rs nx _ 0 (by exact Nat.zero_le _) (Kd.C_below H0.out.2.2.1 (below_step HB.out HT.out)) HS.out.2.1 (Kd.C_below H0.out.2.2.2.1 (below_step HB.out HT.out)) HS.out.2.2.1 (Kd.C_below H0.out.2.2.2.2.1 (below_step HB.out HT.out)) HS.out.2.2.2.1 (Kd.C_below H0.out.2.2.2.2.2 (below_step HB.out HT.out)) HS.out.2.2.2.2).mono ?_
        rintro e u8 ⟨P0, p0, P1, p1, P2, p2, P3, p3, rfl, hr, hb⟩
        have HC4 := Aside0.mk hr
        clear hr
        have hsz_u8 := hb.size
        have n_ := Aside0.mk (RR2.I HC2.out (ivl0 hb) (by omega))
        clear HC2
        have HC2 := n_
        clear n_
        have n_ := Aside0.mk (blk_I HZB.out (ivl0 hb) (by omega))
        clear HZB
        have HZB := n_
        clear n_
        have n_ := Aside0.mk (Below_I HT.out (ivl0 hb) (by omega))
        clear HT
        have HT := n_
        clear n_
        refine ⟨_, rfl, hK.out _ _ ⟨pw_cell_below hb hs.1, pw_cell_below hb hs.2.1, pw_cell_below hb hs.2.2.1, pw_cell_below hb hs.2.2.2.1, pw_cell_below hb hs.2.2.2.2.1, pw_cell_below hb hs.2.2.2.2.2.1, pw_cell_below hb hs.2.2.2.2.2.2.1, pw_cell_below hb hs.2.2.2.2.2.2.2.1, pw_cell_below hb hs.2.2.2.2.2.2.2.2.1, pw_cell_below hb hs.2.2.2.2.2.2.2.2.2.1, pw_cell_below hb hs.2.2.2.2.2.2.2.2.2.2.1, pw_cell_below hb hs.2.2.2.2.2.2.2.2.2.2.2.1, pw_cell_below hb hs.2.2.2.2.2.2.2.2.2.2.2.2⟩ (fun hs2 => ?_)⟩
        clear hK K hs hb
        have hs := hs2
        clear hs2
        refine qN ?_
        refine q1 7 47 (fun K hK => ?_)
        refine qC Tryz.func25 _ ?_
        refine (sMovSM ip b gate gm wm res (g.map cvPlace) (l.map cvRole) P6 P7 p6 p7 _ _ (us.map cvUser) (ss.map cvSession) (fs.map cvFail) (rs.map cvRecord) nx P0 P1 P2 P3 p0 p1 p2 p3 _ _ _ _ mac ip2 now _ HC2.out HC4.out HZC.out).mono ?_
        rintro e u9 ⟨q, ids, code, O0, y0, O1, y1, O2, y2, O3, y3, J, cj, rfl, ho, hql, hr, hj, hb⟩
        have HT0 := HT.out.size
        have HR := Aside0.mk (RR4.low hr HT0)
        have HO := Aside0.mk ho
        have HQL := Aside0.mk hql
        clear ho hql
        have HJ := Aside0.mk (Kd.R_lower hj.1 HT0)
        have hjl := hj.2
        clear hj
        clear hr
        clear HC2 HC4
        have hsz_u9 := hb.size
        have n_ := Aside0.mk (blk_I HZB.out (ivl0 hb) (by omega))
        clear HZB
        have HZB := n_
        clear n_
        have n_ := Aside0.mk (Below_I HT.out (ivl0 hb) (by omega))
        clear HT
        have HT := n_
        clear n_
        refine ⟨_, rfl, hK.out _ _ ⟨pw_cell_below hb hs.1, pw_cell_below hb hs.2.1, pw_cell_below hb hs.2.2.1, pw_cell_below hb hs.2.2.2.1, pw_cell_below hb hs.2.2.2.2.1, pw_cell_below hb hs.2.2.2.2.2.1, pw_cell_below hb hs.2.2.2.2.2.2.1, pw_cell_below hb hs.2.2.2.2.2.2.2.1, pw_cell_below hb hs.2.2.2.2.2.2.2.2.1, pw_cell_below hb hs.2.2.2.2.2.2.2.2.2.1, pw_cell_below hb hs.2.2.2.2.2.2.2.2.2.2.1, pw_cell_below hb hs.2.2.2.2.2.2.2.2.2.2.2.1, pw_cell_below hb hs.2.2.2.2.2.2.2.2.2.2.2.2⟩ (fun hs2 => ?_)⟩
        clear hK K hs hb
        have hs := hs2
        clear hs2
        refine qN ?_
        refine qP 8 39 ?_
        refine qP 9 48 ?_
        refine qP 10 49 ?_
        refine qP 11 50 ?_
        exact qJ (hJ ⟨.agg #[.int .i64 ip, .int .i64 b, .int .i64 gate, .string gm, .string wm, .int .i64 res, .slice P6 g.length p6, .slice P7 l.length p7], .agg #[.slice P0 us.length p0, .slice P1 ss.length p1, .slice P2 fs.length p2, .slice P3 rs.length p3, .int .i64 nx], gB, q, code, O0, O1, O2, O3, y0, y1, y2, y3, u9.heap.size, ids, J, cj⟩ _ ⟨HT.out, HZB.out, hgB, by dsimp only; omega, HO.out, HQL.out, HR.out, HJ.out, hjl⟩)
    · refine qAl (o := .cells #[.slice none 0 0, .slice none 0 0, .slice none 0 0, .slice none 0 0, .int .i64 0] 48 (0, 0)) (by first | (go_simp; done) | (go_simp; rfl)) (fun u10 hn hb => ?_)
      have HT0 := HT.out.size
      obtain ⟨gB, egB⟩ : ∃ x, x = Wd.heap.size := ⟨_, rfl⟩
      rw [← egB] at hn ⊢
      have n_ := Aside0.mk (Below_I HT.out (ivl0 hb) (by omega))
      clear HT
      have HT := n_
      clear n_
      have HZB := Aside0.mk hn
      have hgB : w2.heap.size ≤ gB := by have := HT0; omega
      clear hn egB
      have hsz_u10 := hb.size
      refine hK.out _ _ ⟨pw_cell_below hb hs.1, pw_cell_below hb hs.2.1, pw_cell_below hb hs.2.2.1, pw_cell_below hb hs.2.2.2.1, pw_cell_below hb hs.2.2.2.2.1, pw_cell_below hb hs.2.2.2.2.2.1, pw_cell_below hb hs.2.2.2.2.2.2.1, pw_cell_below hb hs.2.2.2.2.2.2.2.1, pw_cell_below hb hs.2.2.2.2.2.2.2.2.1, pw_cell_below hb hs.2.2.2.2.2.2.2.2.2.1, pw_cell_below hb hs.2.2.2.2.2.2.2.2.2.2.1, pw_cell_below hb hs.2.2.2.2.2.2.2.2.2.2.2.1, pw_cell_below hb hs.2.2.2.2.2.2.2.2.2.2.2.2⟩ (fun hs2 => ?_)
      clear hK K hs hb
      have hs := hs2
      clear hs2
      refine qN ?_
      refine q1 1 41 (fun K hK => ?_)
      refine qC Tryz.func10 _ ?_
      refine (toConfigN ip b gate gm wm res A6 c6 g A7 c7 l _ 0 (by exact Nat.zero_le _) (Kd.C_below H0.out.1 (below_step HB.out HT.out)) HS.out.1.1 (Kd.C_below H0.out.2.1 (below_step HB.out HT.out)) HS.out.1.2.1 (fun r hr => (HS.out.1.2.2 r hr).2)).mono ?_
      rintro e u11 ⟨P6, p6, P7, p7, rfl, hr, hb⟩
      have HC2 := Aside0.mk hr
      clear hr
      have hsz_u11 := hb.size
      have n_ := Aside0.mk (blk_I HZB.out (ivl0 hb) (by omega))
      clear HZB
      have HZB := n_
      clear n_
      have n_ := Aside0.mk (Below_I HT.out (ivl0 hb) (by omega))
      clear HT
      have HT := n_
      clear n_
      refine ⟨_, rfl, hK.out _ _ ⟨pw_cell_below hb hs.1, pw_cell_below hb hs.2.1, pw_cell_below hb hs.2.2.1, pw_cell_below hb hs.2.2.2.1, pw_cell_below hb hs.2.2.2.2.1, pw_cell_below hb hs.2.2.2.2.2.1, pw_cell_below hb hs.2.2.2.2.2.2.1, pw_cell_below hb hs.2.2.2.2.2.2.2.1, pw_cell_below hb hs.2.2.2.2.2.2.2.2.1, pw_cell_below hb hs.2.2.2.2.2.2.2.2.2.1, pw_cell_below hb hs.2.2.2.2.2.2.2.2.2.2.1, pw_cell_below hb hs.2.2.2.2.2.2.2.2.2.2.2.1, pw_cell_below hb hs.2.2.2.2.2.2.2.2.2.2.2.2⟩ (fun hs2 => ?_)⟩
      clear hK K hs hb
      have hs := hs2
      clear hs2
      refine qN ?_
      refine q1 3 43 (fun K hK => ?_)
      refine qC Tryz.func11 _ ?_
      refine (toGuestsN B0 B1 B2 B3 d0 d1 d2 d3 us ss fs rs nx _ 0 (by exact Nat.zero_le _) (Kd.C_below H0.out.2.2.1 (below_step HB.out HT.out)) HS.out.2.1 (Kd.C_below H0.out.2.2.2.1 (below_step HB.out HT.out)) HS.out.2.2.1 (Kd.C_below H0.out.2.2.2.2.1 (below_step HB.out HT.out)) HS.out.2.2.2.1 (Kd.C_below H0.out.2.2.2.2.2 (below_step HB.out HT.out)) HS.out.2.2.2.2).mono ?_
      rintro e u12 ⟨P0, p0, P1, p1, P2, p2, P3, p3, rfl, hr, hb⟩
      have HC4 := Aside0.mk hr
      clear hr
      have hsz_u12 := hb.size
      have n_ := Aside0.mk (blk_I HZB.out (ivl0 hb) (by omega))
      clear HZB
      have HZB := n_
      clear n_
      have n_ := Aside0.mk (RR2.I HC2.out (ivl0 hb) (by omega))
      clear HC2
      have HC2 := n_
      clear n_
      have n_ := Aside0.mk (Below_I HT.out (ivl0 hb) (by omega))
      clear HT
      have HT := n_
      clear n_
      refine ⟨_, rfl, hK.out _ _ ⟨pw_cell_below hb hs.1, pw_cell_below hb hs.2.1, pw_cell_below hb hs.2.2.1, pw_cell_below hb hs.2.2.2.1, pw_cell_below hb hs.2.2.2.2.1, pw_cell_below hb hs.2.2.2.2.2.1, pw_cell_below hb hs.2.2.2.2.2.2.1, pw_cell_below hb hs.2.2.2.2.2.2.2.1, pw_cell_below hb hs.2.2.2.2.2.2.2.2.1, pw_cell_below hb hs.2.2.2.2.2.2.2.2.2.1, pw_cell_below hb hs.2.2.2.2.2.2.2.2.2.2.1, pw_cell_below hb hs.2.2.2.2.2.2.2.2.2.2.2.1, pw_cell_below hb hs.2.2.2.2.2.2.2.2.2.2.2.2⟩ (fun hs2 => ?_)⟩
      clear hK K hs hb
      have hs := hs2
      clear hs2
      refine qN ?_
      refine q1 7 47 (fun K hK => ?_)
      refine qC Tryz.func25 _ ?_
      refine (sMovSM ip b gate gm wm res (g.map cvPlace) (l.map cvRole) P6 P7 p6 p7 _ _ (us.map cvUser) (ss.map cvSession) (fs.map cvFail) (rs.map cvRecord) nx P0 P1 P2 P3 p0 p1 p2 p3 _ _ _ _ mac ip2 now _ HC2.out HC4.out HZC.out).mono ?_
      rintro e u13 ⟨q, ids, code, O0, y0, O1, y1, O2, y2, O3, y3, J, cj, rfl, ho, hql, hr, hj, hb⟩
      have HT0 := HT.out.size
      have HR := Aside0.mk (RR4.low hr HT0)
      have HO := Aside0.mk ho
      have HQL := Aside0.mk hql
      clear ho hql
      have HJ := Aside0.mk (Kd.R_lower hj.1 HT0)
      have hjl := hj.2
      clear hj
      clear hr
      clear HC2 HC4
      have hsz_u13 := hb.size
      have n_ := Aside0.mk (blk_I HZB.out (ivl0 hb) (by omega))
      clear HZB
      have HZB := n_
      clear n_
      have n_ := Aside0.mk (Below_I HT.out (ivl0 hb) (by omega))
      clear HT
      have HT := n_
      clear n_
      refine ⟨_, rfl, hK.out _ _ ⟨pw_cell_below hb hs.1, pw_cell_below hb hs.2.1, pw_cell_below hb hs.2.2.1, pw_cell_below hb hs.2.2.2.1, pw_cell_below hb hs.2.2.2.2.1, pw_cell_below hb hs.2.2.2.2.2.1, pw_cell_below hb hs.2.2.2.2.2.2.1, pw_cell_below hb hs.2.2.2.2.2.2.2.1, pw_cell_below hb hs.2.2.2.2.2.2.2.2.1, pw_cell_below hb hs.2.2.2.2.2.2.2.2.2.1, pw_cell_below hb hs.2.2.2.2.2.2.2.2.2.2.1, pw_cell_below hb hs.2.2.2.2.2.2.2.2.2.2.2.1, pw_cell_below hb hs.2.2.2.2.2.2.2.2.2.2.2.2⟩ (fun hs2 => ?_)⟩
      clear hK K hs hb
      have hs := hs2
      clear hs2
      refine qN ?_
      refine qP 8 39 ?_
      refine qP 9 48 ?_
      refine qP 10 49 ?_
      refine qP 11 50 ?_
      exact qJ (hJ ⟨.agg #[.int .i64 ip, .int .i64 b, .int .i64 gate, .string gm, .string wm, .int .i64 res, .slice P6 g.length p6, .slice P7 l.length p7], .agg #[.slice P0 us.length p0, .slice P1 ss.length p1, .slice P2 fs.length p2, .slice P3 rs.length p3, .int .i64 nx], gB, q, code, O0, O1, O2, O3, y0, y1, y2, y3, u13.heap.size, ids, J, cj⟩ _ ⟨HT.out, HZB.out, hgB, by dsimp only; omega, HO.out, HQL.out, HR.out, HJ.out, hjl⟩)
  rintro ⟨v1_, v2_, gw, qw, cw, Ow0, Ow1, Ow2, Ow3, pw0, pw1, pw2, pw3, bw, idsw, Jw_, cjw⟩ Ww0 ⟨hT, hz, hgg, hhh, ho, hql, hr, hj, hjl⟩
  dsimp only at hz hgg hhh ho hql hr hj hjl
  refine qNA ?_
  refine qBox (new := #[.slice Ow0 qw.us.length pw0, .slice Ow1 qw.ss.length pw1, .slice Ow2 qw.fs.length pw2, .slice Ow3 qw.rs.length pw3, .int .i64 qw.nx]) 13 hz rfl rfl rfl rfl rfl (by kernel_rfl) (by intro q hq; simp only [List.mem_cons, List.not_mem_nil, or_false] at hq; rcases hq with rfl | rfl | rfl | rfl | rfl <;> rfl) (fun Ww hbx hbs => ?_) (one_of TLMw_tab (by kernel_rfl)) rfl rfl (by decide) (by rfl)
  refine qP 14 13 ?_ (hc := any_of TLMw_tab (by kernel_rfl))
  refine qP 15 14 ?_ (hc := any_of TLMw_tab (by kernel_rfl))
  refine qD ?_ (hr := done_of TLMw_tab (by kernel_rfl))
  have hT2 := Below_I hT hbs (by omega)
  have n_ := Aside0.mk (Below_I HB.out (ivl0 hT2) (by omega))
  clear HB
  have HB := n_
  clear n_
  have n_ := Aside0.mk (blk_I HX.out (ivl0 hT2) (by omega))
  clear HX
  have HX := n_
  clear n_
  have n_ := Aside0.mk (blk_I HG.out (ivl0 hT2) (by omega))
  clear HG
  have HG := n_
  clear n_
  have Hw := Aside0.mk hbx
  have Rw := Aside0.mk (RR4.box hr hz hbs)
  have Ow := Aside0.mk ho
  have Qw := Aside0.mk hql
  have hszw := hT2.size
  have hsz2w := hbs.size
  have Jw := Aside0.mk (R_box hj hz hbs (by decide))
  have hjlw := hjl
  clear hj hjl
  clear hT hz ho hql hr hbx hbs hT2 hs
  (try clear cxHX hzHX)
  (try clear cxHG hzHG)
  (try clear cxHw hzHw)
  have cxHX := blk_cell HX.out
  have hzHX := blk_lt HX.out
  have cxHG := blk_cell HG.out
  have hzHG := blk_lt HG.out
  have cxHw := blk_cell Hw.out
  have hzHw := blk_lt Hw.out
  have zw := blk_lt Hw.out
  go_wp2_with (first
    | (go_at_call 10; go_loud (refine (toConfigN ip b gate gm wm res A6 c6 g A7 c7 l _ Ww.heap.size (by exact Nat.le_refl _) (Kd.C_below H0.out.1 HB.out) HS.out.1.1 (Kd.C_below H0.out.2.1 HB.out) HS.out.1.2.1 (fun r hr => (HS.out.1.2.2 r hr).2)).mono ?_; rintro e wA ⟨X6, x6, X7, x7, rfl, hr, hb⟩; have RA := Aside0.mk hr; have zA := hb.size; have n_ := Aside0.mk (Below_I HB.out (ivl0 hb) (by omega)); clear HB; have HB := n_; clear n_; have n_ := Aside0.mk (blk_I HX.out (ivl0 hb) (by omega)); clear HX; have HX := n_; clear n_; have n_ := Aside0.mk (blk_I HG.out (ivl0 hb) (by omega)); clear HG; have HG := n_; clear n_; have n_ := Aside0.mk (blk_I Hw.out (ivl0 hb) (by omega)); clear Hw; have Hw := n_; clear n_; have n_ := Aside0.mk (RR4.I Rw.out (ivl0 hb) (by omega)); clear Rw; have Rw := n_; clear n_; have n_ := Aside0.mk (R_I Jw.out (ivl0 hb) (by omega)); clear Jw; have Jw := n_; clear n_; (try clear cxHX hzHX); (try clear cxHG hzHG); (try clear cxHw hzHw); have cxHX := blk_cell HX.out; have hzHX := blk_lt HX.out; have cxHG := blk_cell HG.out; have hzHG := blk_lt HG.out; have cxHw := blk_cell Hw.out; have hzHw := blk_lt Hw.out; clear hr hb))
    | (go_at_call 11; go_loud (refine (toGuestsN B0 B1 B2 B3 d0 d1 d2 d3 us ss fs rs nx _ (wA.heap.size + 1) (by exact Nat.le_of_eq (alloc_sz _ _).symm) (Kd.C_below H0.out.2.2.1 (below_alloc HB.out _)) HS.out.2.1 (Kd.C_below H0.out.2.2.2.1 (below_alloc HB.out _)) HS.out.2.2.1 (Kd.C_below H0.out.2.2.2.2.1 (below_alloc HB.out _)) HS.out.2.2.2.1 (Kd.C_below H0.out.2.2.2.2.2 (below_alloc HB.out _)) HS.out.2.2.2.2).mono ?_; rintro e wE ⟨X0, x0, X1, x1, X2, x2, X3, x3, rfl, hr, hb⟩; have hbb := below_step (below_alloc (Below.refl _ _) _) hb; have RE := Aside0.mk hr; have HA := Aside0.mk (blk_below (blk_new wA (.cells #[.int .i64 ip, .int .i64 b, .int .i64 gate, .string gm, .string wm, .int .i64 res, .slice X6 g.length x6, .slice X7 l.length x7] 41 (0, 0))) hb); have n_ := Aside0.mk (Below_I HB.out (ivl0 hbb) (by omega)); clear HB; have HB := n_; clear n_; have n_ := Aside0.mk (blk_I HX.out (ivl0 hbb) (by omega)); clear HX; have HX := n_; clear n_; have n_ := Aside0.mk (blk_I HG.out (ivl0 hbb) (by omega)); clear HG; have HG := n_; clear n_; have n_ := Aside0.mk (blk_I Hw.out (ivl0 hbb) (by omega)); clear Hw; have Hw := n_; clear n_; have n_ := Aside0.mk (RR4.I Rw.out (ivl0 hbb) (by omega)); clear Rw; have Rw := n_; clear n_; have n_ := Aside0.mk (R_I Jw.out (ivl0 hbb) (by omega)); clear Jw; have Jw := n_; clear n_; have n_ := Aside0.mk (RR2.I RA.out (ivl0 hbb) (by omega)); clear RA; have RA := n_; clear n_; (try clear cxHX hzHX); (try clear cxHG hzHG); (try clear cxHw hzHw); (try clear cxHA hzHA); have cxHX := blk_cell HX.out; have hzHX := blk_lt HX.out; have cxHG := blk_cell HG.out; have hzHG := blk_lt HG.out; have cxHw := blk_cell Hw.out; have hzHw := blk_lt Hw.out; have cxHA := blk_cell HA.out; have hzHA := blk_lt HA.out; have zE := hzHA; clear hr hb hbb))
    | (go_at_call 26; go_loud (refine (iMovSM ip b gate gm wm res (g.map cvPlace) (l.map cvRole) X6 X7 x6 x7 _ _ (us.map cvUser) (ss.map cvSession) (fs.map cvFail) (rs.map cvRecord) nx X0 X1 X2 X3 x0 x1 x2 x3 _ _ _ _ mac ip2 now _ (RR2.I RA.out (ivl0 (below_alloc (Below.refl _ _) _)) (by omega)) (RR4.I RE.out (ivl0 (below_alloc (Below.refl _ _) _)) (by omega)) HZC.out).mono ?_; rintro e wI ⟨qi, idsi, ci, Oi0, pi0, Oi1, pi1, Oi2, pi2, Oi3, pi3, Ji_, cji, rfl, ho, hql, hr, hj, hb⟩; have hsame := Ow.out.same ho; obtain ⟨e1, e2, e3⟩ := hsame; subst e1; subst e2; subst e3; clear ho hql; have hbb := below_step (below_alloc (Below.refl _ _) _) hb; have Ji := Aside0.mk (Kd.R_lower hj.1 (Nat.le_of_eq (alloc_sz _ _).symm)); clear hj; have RI := Aside0.mk (RR4.low hr (Nat.le_of_eq (alloc_sz _ _).symm)); have HE := Aside0.mk (blk_below (blk_new wE (.cells #[.slice X0 us.length x0, .slice X1 ss.length x1, .slice X2 fs.length x2, .slice X3 rs.length x3, .int .i64 nx] 48 (0, 0))) hb); have n_ := Aside0.mk (Below_I HB.out (ivl0 hbb) (by omega)); clear HB; have HB := n_; clear n_; have n_ := Aside0.mk (blk_I HX.out (ivl0 hbb) (by omega)); clear HX; have HX := n_; clear n_; have n_ := Aside0.mk (blk_I HG.out (ivl0 hbb) (by omega)); clear HG; have HG := n_; clear n_; have n_ := Aside0.mk (blk_I Hw.out (ivl0 hbb) (by omega)); clear Hw; have Hw := n_; clear n_; have n_ := Aside0.mk (RR4.I Rw.out (ivl0 hbb) (by omega)); clear Rw; have Rw := n_; clear n_; have n_ := Aside0.mk (R_I Jw.out (ivl0 hbb) (by omega)); clear Jw; have Jw := n_; clear n_; have n_ := Aside0.mk (RR2.I RA.out (ivl0 hbb) (by omega)); clear RA; have RA := n_; clear n_; have n_ := Aside0.mk (RR4.I RE.out (ivl0 hbb) (by omega)); clear RE; have RE := n_; clear n_; have n_ := Aside0.mk (blk_I HA.out (ivl0 hbb) (by omega)); clear HA; have HA := n_; clear n_; (try clear cxHX hzHX); (try clear cxHG hzHG); (try clear cxHw hzHw); (try clear cxHA hzHA); (try clear cxHE hzHE); have cxHX := blk_cell HX.out; have hzHX := blk_lt HX.out; have cxHG := blk_cell HG.out; have hzHG := blk_lt HG.out; have cxHw := blk_cell Hw.out; have hzHw := blk_lt Hw.out; have cxHA := blk_cell HA.out; have hzHA := blk_lt HA.out; have cxHE := blk_cell HE.out; have hzHE := blk_lt HE.out; have zI := hzHE; clear hr hb hbb))
    | (go_at_call 14; go_loud (refine (eqGuestsR qw Oi0 Oi1 Oi2 Oi3 Ow0 Ow1 Ow2 Ow3 pi0 pi1 pi2 pi3 pw0 pw1 pw2 pw3 _ (RR4.I RI.out (ivl0 (below_alloc (Below.refl _ _) _)) (by omega)) (RR4.I Rw.out (ivl0 (below_alloc (Below.refl _ _) _)) (by omega)) Qw.out).mono ?_; rintro e wQ ⟨rfl, hb⟩; have hbb := below_step (below_alloc (Below.refl _ _) _) hb; have HI := Aside0.mk (blk_below (blk_new wI (.cells #[.slice Oi0 qw.us.length pi0, .slice Oi1 qw.ss.length pi1, .slice Oi2 qw.fs.length pi2, .slice Oi3 qw.rs.length pi3, .int .i64 qw.nx] 48 (0, 0))) hb); have n_ := Aside0.mk (Below_I HB.out (ivl0 hbb) (by omega)); clear HB; have HB := n_; clear n_; have n_ := Aside0.mk (blk_I HX.out (ivl0 hbb) (by omega)); clear HX; have HX := n_; clear n_; have n_ := Aside0.mk (blk_I HG.out (ivl0 hbb) (by omega)); clear HG; have HG := n_; clear n_; have n_ := Aside0.mk (blk_I Hw.out (ivl0 hbb) (by omega)); clear Hw; have Hw := n_; clear n_; have n_ := Aside0.mk (RR4.I Rw.out (ivl0 hbb) (by omega)); clear Rw; have Rw := n_; clear n_; have n_ := Aside0.mk (R_I Jw.out (ivl0 hbb) (by omega)); clear Jw; have Jw := n_; clear n_; have n_ := Aside0.mk (RR2.I RA.out (ivl0 hbb) (by omega)); clear RA; have RA := n_; clear n_; have n_ := Aside0.mk (RR4.I RE.out (ivl0 hbb) (by omega)); clear RE; have RE := n_; clear n_; have n_ := Aside0.mk (blk_I HA.out (ivl0 hbb) (by omega)); clear HA; have HA := n_; clear n_; have n_ := Aside0.mk (RR4.I RI.out (ivl0 hbb) (by omega)); clear RI; have RI := n_; clear n_; have n_ := Aside0.mk (blk_I HE.out (ivl0 hbb) (by omega)); clear HE; have HE := n_; clear n_; have n_ := Aside0.mk (R_I Ji.out (ivl0 hbb) (by omega)); clear Ji; have Ji := n_; clear n_; (try clear cxHX hzHX); (try clear cxHG hzHG); (try clear cxHw hzHw); (try clear cxHA hzHA); (try clear cxHE hzHE); (try clear cxHI hzHI); have cxHX := blk_cell HX.out; have hzHX := blk_lt HX.out; have cxHG := blk_cell HG.out; have hzHG := blk_lt HG.out; have cxHw := blk_cell Hw.out; have hzHw := blk_lt Hw.out; have cxHA := blk_cell HA.out; have hzHA := blk_lt HA.out; have cxHE := blk_cell HE.out; have hzHE := blk_lt HE.out; have cxHI := blk_cell HI.out; have hzHI := blk_lt HI.out; have zQ := hzHI; clear hb hbb))
    | (go_at_call 22; go_loud (refine (eqIntR idsw Ji_ Jw_ cji cjw _ (R_toC Ji.out).2 (R_toC Ji.out).1 (R_toC Jw.out).2 (R_toC Jw.out).1 (by omega)).mono ?_; rintro e wQ2 ⟨rfl, hb⟩; have zwQ2 := hb.size; have n_ := Aside0.mk (Below_I HB.out (ivl0 hb) (by omega)); clear HB; have HB := n_; clear n_; have n_ := Aside0.mk (blk_I HX.out (ivl0 hb) (by omega)); clear HX; have HX := n_; clear n_; have n_ := Aside0.mk (blk_I HG.out (ivl0 hb) (by omega)); clear HG; have HG := n_; clear n_; have n_ := Aside0.mk (blk_I Hw.out (ivl0 hb) (by omega)); clear Hw; have Hw := n_; clear n_; have n_ := Aside0.mk (RR4.I Rw.out (ivl0 hb) (by omega)); clear Rw; have Rw := n_; clear n_; have n_ := Aside0.mk (R_I Jw.out (ivl0 hb) (by omega)); clear Jw; have Jw := n_; clear n_; have n_ := Aside0.mk (RR2.I RA.out (ivl0 hb) (by omega)); clear RA; have RA := n_; clear n_; have n_ := Aside0.mk (RR4.I RE.out (ivl0 hb) (by omega)); clear RE; have RE := n_; clear n_; have n_ := Aside0.mk (blk_I HA.out (ivl0 hb) (by omega)); clear HA; have HA := n_; clear n_; have n_ := Aside0.mk (RR4.I RI.out (ivl0 hb) (by omega)); clear RI; have RI := n_; clear n_; have n_ := Aside0.mk (blk_I HE.out (ivl0 hb) (by omega)); clear HE; have HE := n_; clear n_; have n_ := Aside0.mk (R_I Ji.out (ivl0 hb) (by omega)); clear Ji; have Ji := n_; clear n_; have n_ := Aside0.mk (blk_I HI.out (ivl0 hb) (by omega)); clear HI; have HI := n_; clear n_; (try clear cxHX hzHX); (try clear cxHG hzHG); (try clear cxHw hzHw); (try clear cxHA hzHA); (try clear cxHE hzHE); (try clear cxHI hzHI); have cxHX := blk_cell HX.out; have hzHX := blk_lt HX.out; have cxHG := blk_cell HG.out; have hzHG := blk_lt HG.out; have cxHw := blk_cell Hw.out; have hzHw := blk_lt Hw.out; have cxHA := blk_cell HA.out; have hzHA := blk_lt HA.out; have cxHE := blk_cell HE.out; have hzHE := blk_lt HE.out; have cxHI := blk_cell HI.out; have hzHI := blk_lt HI.out; clear hb)))
  (try clear cxHX cxHG cxHw cxHA cxHE cxHI)
  refine qS (fun w' => w'.cell? ⟨w.heap.size, 0, none⟩ = some (.int .i64 ip) ∧ w'.cell? ⟨w.heap.size, 1, none⟩ = some (.int .i64 b) ∧ w'.cell? ⟨w.heap.size, 2, none⟩ = some (.int .i64 gate) ∧ w'.cell? ⟨w.heap.size, 3, none⟩ = some (.string gm) ∧ w'.cell? ⟨w.heap.size, 4, none⟩ = some (.string wm) ∧ w'.cell? ⟨w.heap.size, 5, none⟩ = some (.int .i64 res) ∧ w'.cell? ⟨w.heap.size, 6, none⟩ = some (.slice A6 g.length c6) ∧ w'.cell? ⟨w.heap.size, 7, none⟩ = some (.slice A7 l.length c7) ∧ w'.cell? ⟨wA.heap.size, 0, none⟩ = some (.int .i64 ip) ∧ w'.cell? ⟨wA.heap.size, 1, none⟩ = some (.int .i64 b) ∧ w'.cell? ⟨wA.heap.size, 2, none⟩ = some (.int .i64 gate) ∧ w'.cell? ⟨wA.heap.size, 3, none⟩ = some (.string gm) ∧ w'.cell? ⟨wA.heap.size, 4, none⟩ = some (.string wm) ∧ w'.cell? ⟨wA.heap.size, 5, none⟩ = some (.int .i64 res) ∧ w'.cell? ⟨wA.heap.size, 6, none⟩ = some (.slice X6 g.length x6) ∧ w'.cell? ⟨wA.heap.size, 7, none⟩ = some (.slice X7 l.length x7)) 5 ⟨blk_cell HX.out 0, blk_cell HX.out 1, blk_cell HX.out 2, blk_cell HX.out 3, blk_cell HX.out 4, blk_cell HX.out 5, blk_cell HX.out 6, blk_cell HX.out 7, blk_cell HA.out 0, blk_cell HA.out 1, blk_cell HA.out 2, blk_cell HA.out 3, blk_cell HA.out 4, blk_cell HA.out 5, blk_cell HA.out 6, blk_cell HA.out 7⟩ (fun hs => ?_)
  have hbd := below_drew1 (Below.refl wQ2.heap.size wQ2)
  generalize World.drew wQ2 = Wd at hs hbd ⊢
  have HT := Aside0.mk hbd
  clear hbd
  refine qT 0 80 hs ?_
  refine qT 1 81 hs ?_
  refine q1 2 82 (fun K hK => ?_)
  refine qC Tryz.func10 _ ?_
  refine (toConfigN ip b gate gm wm res A6 c6 g A7 c7 l _ 0 (by exact Nat.zero_le _) (Kd.C_below H0.out.1 (below_step HB.out HT.out)) HS.out.1.1 (Kd.C_below H0.out.2.1 (below_step HB.out HT.out)) HS.out.1.2.1 (fun r hr => (HS.out.1.2.2 r hr).2)).mono ?_
  rintro e u1 ⟨P6, p6, P7, p7, rfl, hr, hb⟩
  have HC := Aside0.mk hr
  clear hr
  have n_ := Aside0.mk (Below_I HT.out (ivl0 hb) (by omega))
  clear HT
  have HT := n_
  clear n_
  refine ⟨_, rfl, hK.out _ _ ⟨pw_cell_below hb hs.1, pw_cell_below hb hs.2.1, pw_cell_below hb hs.2.2.1, pw_cell_below hb hs.2.2.2.1, pw_cell_below hb hs.2.2.2.2.1, pw_cell_below hb hs.2.2.2.2.2.1, pw_cell_below hb hs.2.2.2.2.2.2.1, pw_cell_below hb hs.2.2.2.2.2.2.2.1, pw_cell_below hb hs.2.2.2.2.2.2.2.2.1, pw_cell_below hb hs.2.2.2.2.2.2.2.2.2.1, pw_cell_below hb hs.2.2.2.2.2.2.2.2.2.2.1, pw_cell_below hb hs.2.2.2.2.2.2.2.2.2.2.2.1, pw_cell_below hb hs.2.2.2.2.2.2.2.2.2.2.2.2.1, pw_cell_below hb hs.2.2.2.2.2.2.2.2.2.2.2.2.2.1, pw_cell_below hb hs.2.2.2.2.2.2.2.2.2.2.2.2.2.2.1, pw_cell_below hb hs.2.2.2.2.2.2.2.2.2.2.2.2.2.2.2⟩ (fun hs2 => ?_)⟩
  clear hK K hs hb
  have hs := hs2
  clear hs2
  refine qN ?_
  refine q1 3 83 (fun K hK => ?_)
  refine qC Tryz.func13 _ ?_
  refine (eqConfigM ip b gate gm wm res (g.map cvPlace) (l.map cvRole) _ _ X6 P6 X7 P7 x6 p6 x7 p7 _ (RR2.I RA.out (ivl0 HT.out) (by omega)) HC.out HZC.out.1 HZC.out.2.1 (fun r hr => (HZC.out.2.2.1 r hr).1)).mono ?_
  rintro e u2 ⟨rfl, hb⟩
  clear HC
  have n_ := Aside0.mk (Below_I HT.out (ivl0 hb) (by omega))
  clear HT
  have HT := n_
  clear n_
  refine ⟨_, rfl, hK.out _ _ ⟨pw_cell_below hb hs.1, pw_cell_below hb hs.2.1, pw_cell_below hb hs.2.2.1, pw_cell_below hb hs.2.2.2.1, pw_cell_below hb hs.2.2.2.2.1, pw_cell_below hb hs.2.2.2.2.2.1, pw_cell_below hb hs.2.2.2.2.2.2.1, pw_cell_below hb hs.2.2.2.2.2.2.2.1, pw_cell_below hb hs.2.2.2.2.2.2.2.2.1, pw_cell_below hb hs.2.2.2.2.2.2.2.2.2.1, pw_cell_below hb hs.2.2.2.2.2.2.2.2.2.2.1, pw_cell_below hb hs.2.2.2.2.2.2.2.2.2.2.2.1, pw_cell_below hb hs.2.2.2.2.2.2.2.2.2.2.2.2.1, pw_cell_below hb hs.2.2.2.2.2.2.2.2.2.2.2.2.2.1, pw_cell_below hb hs.2.2.2.2.2.2.2.2.2.2.2.2.2.2.1, pw_cell_below hb hs.2.2.2.2.2.2.2.2.2.2.2.2.2.2.2⟩ (fun hs2 => ?_)⟩
  clear hK K hs hb
  have hs := hs2
  clear hs2
  refine qN ?_
  refine qP 4 84 ?_
  refine qD ?_
  clear hs
  have hszu := HT.out.size
  have n_ := Aside0.mk (Below_I HB.out (ivl0 HT.out) (by omega))
  clear HB
  have HB := n_
  clear n_
  have n_ := Aside0.mk (blk_I HX.out (ivl0 HT.out) (by omega))
  clear HX
  have HX := n_
  clear n_
  have n_ := Aside0.mk (blk_I HG.out (ivl0 HT.out) (by omega))
  clear HG
  have HG := n_
  clear n_
  have n_ := Aside0.mk (blk_I Hw.out (ivl0 HT.out) (by omega))
  clear Hw
  have Hw := n_
  clear n_
  have n_ := Aside0.mk (RR4.I Rw.out (ivl0 HT.out) (by omega))
  clear Rw
  have Rw := n_
  clear n_
  have n_ := Aside0.mk (R_I Jw.out (ivl0 HT.out) (by omega))
  clear Jw
  have Jw := n_
  clear n_
  have n_ := Aside0.mk (RR2.I RA.out (ivl0 HT.out) (by omega))
  clear RA
  have RA := n_
  clear n_
  have n_ := Aside0.mk (RR4.I RE.out (ivl0 HT.out) (by omega))
  clear RE
  have RE := n_
  clear n_
  have n_ := Aside0.mk (blk_I HA.out (ivl0 HT.out) (by omega))
  clear HA
  have HA := n_
  clear n_
  have n_ := Aside0.mk (RR4.I RI.out (ivl0 HT.out) (by omega))
  clear RI
  have RI := n_
  clear n_
  have n_ := Aside0.mk (blk_I HE.out (ivl0 HT.out) (by omega))
  clear HE
  have HE := n_
  clear n_
  have n_ := Aside0.mk (R_I Ji.out (ivl0 HT.out) (by omega))
  clear Ji
  have Ji := n_
  clear n_
  have n_ := Aside0.mk (blk_I HI.out (ivl0 HT.out) (by omega))
  clear HI
  have HI := n_
  clear n_
  clear HT
  go_wp2
  refine qS (fun w' => w'.cell? ⟨w.heap.size + 1, 0, none⟩ = some (.slice B0 us.length d0) ∧ w'.cell? ⟨w.heap.size + 1, 1, none⟩ = some (.slice B1 ss.length d1) ∧ w'.cell? ⟨w.heap.size + 1, 2, none⟩ = some (.slice B2 fs.length d2) ∧ w'.cell? ⟨w.heap.size + 1, 3, none⟩ = some (.slice B3 rs.length d3) ∧ w'.cell? ⟨w.heap.size + 1, 4, none⟩ = some (.int .i64 nx) ∧ w'.cell? ⟨wE.heap.size, 0, none⟩ = some (.slice X0 us.length x0) ∧ w'.cell? ⟨wE.heap.size, 1, none⟩ = some (.slice X1 ss.length x1) ∧ w'.cell? ⟨wE.heap.size, 2, none⟩ = some (.slice X2 fs.length x2) ∧ w'.cell? ⟨wE.heap.size, 3, none⟩ = some (.slice X3 rs.length x3) ∧ w'.cell? ⟨wE.heap.size, 4, none⟩ = some (.int .i64 nx)) 5 ⟨blk_cell HG.out 0, blk_cell HG.out 1, blk_cell HG.out 2, blk_cell HG.out 3, blk_cell HG.out 4, blk_cell HE.out 0, blk_cell HE.out 1, blk_cell HE.out 2, blk_cell HE.out 3, blk_cell HE.out 4⟩ (fun hs => ?_)
  have hbd := below_drew1 (Below.refl u2.heap.size u2)
  generalize World.drew u2 = Wd at hs hbd ⊢
  have HT := Aside0.mk hbd
  clear hbd
  refine qT 0 85 hs ?_
  refine qT 1 86 hs ?_
  refine q1 2 87 (fun K hK => ?_)
  refine qC Tryz.func11 _ ?_
  refine (toGuestsN B0 B1 B2 B3 d0 d1 d2 d3 us ss fs rs nx _ 0 (by exact Nat.zero_le _) (Kd.C_below H0.out.2.2.1 (below_step HB.out HT.out)) HS.out.2.1 (Kd.C_below H0.out.2.2.2.1 (below_step HB.out HT.out)) HS.out.2.2.1 (Kd.C_below H0.out.2.2.2.2.1 (below_step HB.out HT.out)) HS.out.2.2.2.1 (Kd.C_below H0.out.2.2.2.2.2 (below_step HB.out HT.out)) HS.out.2.2.2.2).mono ?_
  rintro e u3 ⟨P0, p0, P1, p1, P2, p2, P3, p3, rfl, hr, hb⟩
  have HC := Aside0.mk hr
  clear hr
  have n_ := Aside0.mk (Below_I HT.out (ivl0 hb) (by omega))
  clear HT
  have HT := n_
  clear n_
  refine ⟨_, rfl, hK.out _ _ ⟨pw_cell_below hb hs.1, pw_cell_below hb hs.2.1, pw_cell_below hb hs.2.2.1, pw_cell_below hb hs.2.2.2.1, pw_cell_below hb hs.2.2.2.2.1, pw_cell_below hb hs.2.2.2.2.2.1, pw_cell_below hb hs.2.2.2.2.2.2.1, pw_cell_below hb hs.2.2.2.2.2.2.2.1, pw_cell_below hb hs.2.2.2.2.2.2.2.2.1, pw_cell_below hb hs.2.2.2.2.2.2.2.2.2⟩ (fun hs2 => ?_)⟩
  clear hK K hs hb
  have hs := hs2
  clear hs2
  refine qN ?_
  refine q1 3 88 (fun K hK => ?_)
  refine qC Tryz.func14 _ ?_
  refine (eqGuestsM (us.map cvUser) (ss.map cvSession) (fs.map cvFail) (rs.map cvRecord) nx _ _ _ _ X0 X1 X2 X3 P0 P1 P2 P3 x0 x1 x2 x3 p0 p1 p2 p3 _ (RR4.I RE.out (ivl0 HT.out) (by omega)) HC.out HQC.out).mono ?_
  rintro e u4 ⟨rfl, hb⟩
  clear HC
  have n_ := Aside0.mk (Below_I HT.out (ivl0 hb) (by omega))
  clear HT
  have HT := n_
  clear n_
  refine ⟨_, rfl, hK.out _ _ ⟨pw_cell_below hb hs.1, pw_cell_below hb hs.2.1, pw_cell_below hb hs.2.2.1, pw_cell_below hb hs.2.2.2.1, pw_cell_below hb hs.2.2.2.2.1, pw_cell_below hb hs.2.2.2.2.2.1, pw_cell_below hb hs.2.2.2.2.2.2.1, pw_cell_below hb hs.2.2.2.2.2.2.2.1, pw_cell_below hb hs.2.2.2.2.2.2.2.2.1, pw_cell_below hb hs.2.2.2.2.2.2.2.2.2⟩ (fun hs2 => ?_)⟩
  clear hK K hs hb
  have hs := hs2
  clear hs2
  refine qN ?_
  refine qP 4 89 ?_
  refine qD ?_
  clear hs
  have hszv := HT.out.size
  have n_ := Aside0.mk (Below_I HB.out (ivl0 HT.out) (by omega))
  clear HB
  have HB := n_
  clear n_
  have n_ := Aside0.mk (blk_I HX.out (ivl0 HT.out) (by omega))
  clear HX
  have HX := n_
  clear n_
  have n_ := Aside0.mk (blk_I HG.out (ivl0 HT.out) (by omega))
  clear HG
  have HG := n_
  clear n_
  have n_ := Aside0.mk (blk_I Hw.out (ivl0 HT.out) (by omega))
  clear Hw
  have Hw := n_
  clear n_
  have n_ := Aside0.mk (RR4.I Rw.out (ivl0 HT.out) (by omega))
  clear Rw
  have Rw := n_
  clear n_
  have n_ := Aside0.mk (R_I Jw.out (ivl0 HT.out) (by omega))
  clear Jw
  have Jw := n_
  clear n_
  have n_ := Aside0.mk (RR2.I RA.out (ivl0 HT.out) (by omega))
  clear RA
  have RA := n_
  clear n_
  have n_ := Aside0.mk (RR4.I RE.out (ivl0 HT.out) (by omega))
  clear RE
  have RE := n_
  clear n_
  have n_ := Aside0.mk (blk_I HA.out (ivl0 HT.out) (by omega))
  clear HA
  have HA := n_
  clear n_
  have n_ := Aside0.mk (RR4.I RI.out (ivl0 HT.out) (by omega))
  clear RI
  have RI := n_
  clear n_
  have n_ := Aside0.mk (blk_I HE.out (ivl0 HT.out) (by omega))
  clear HE
  have HE := n_
  clear n_
  have n_ := Aside0.mk (R_I Ji.out (ivl0 HT.out) (by omega))
  clear Ji
  have Ji := n_
  clear n_
  have n_ := Aside0.mk (blk_I HI.out (ivl0 HT.out) (by omega))
  clear HI
  have HI := n_
  clear n_
  clear HT
  (try clear cxHA hzHA)
  (try clear cxHX hzHX)
  (try clear cxHG hzHG)
  (try clear cxHw hzHw)
  (try clear cxHE hzHE)
  (try clear cxHI hzHI)
  have cxHA := blk_cell HA.out
  have hzHA := blk_lt HA.out
  have cxHX := blk_cell HX.out
  have hzHX := blk_lt HX.out
  have cxHG := blk_cell HG.out
  have hzHG := blk_lt HG.out
  have cxHw := blk_cell Hw.out
  have hzHw := blk_lt Hw.out
  have cxHE := blk_cell HE.out
  have hzHE := blk_lt HE.out
  have cxHI := blk_cell HI.out
  have hzHI := blk_lt HI.out
  go_wp2_with (first
    | (go_at_call 17; go_loud (refine (markCR ip b gate gm wm res (g.map cvPlace) (l.map cvRole) _ _ X6 X7 x6 x7 1 _ RA.out (by omega) HZC.out.1 HZC.out.2.1 (fun r hr => (HZC.out.2.2.1 r hr).1) (by decide) (by decide)).mono ?_; rintro e wM ⟨k2, rfl, hk0, hk1, hbs⟩; have zM := hbs.size; have n_ := Aside0.mk (Below_I HB.out hbs (by omega)); clear HB; have HB := n_; clear n_; have n_ := Aside0.mk (blk_I HX.out hbs (by omega)); clear HX; have HX := n_; clear n_; have n_ := Aside0.mk (blk_I HG.out hbs (by omega)); clear HG; have HG := n_; clear n_; have n_ := Aside0.mk (blk_I Hw.out hbs (by omega)); clear Hw; have Hw := n_; clear n_; have n_ := Aside0.mk (RR4.I Rw.out hbs (by omega)); clear Rw; have Rw := n_; clear n_; have n_ := Aside0.mk (R_I Jw.out hbs (by omega)); clear Jw; have Jw := n_; clear n_; have n_ := Aside0.mk (RR4.I RE.out hbs (by omega)); clear RE; have RE := n_; clear n_; have n_ := Aside0.mk (RR4.I RI.out hbs (by omega)); clear RI; have RI := n_; clear n_; have n_ := Aside0.mk (blk_I HE.out hbs (by omega)); clear HE; have HE := n_; clear n_; have n_ := Aside0.mk (R_I Ji.out hbs (by omega)); clear Ji; have Ji := n_; clear n_; have n_ := Aside0.mk (blk_I HI.out hbs (by omega)); clear HI; have HI := n_; clear n_; clear RA HA; (try clear cxHA hzHA); (try clear cxHX hzHX); (try clear cxHG hzHG); (try clear cxHw hzHw); (try clear cxHE hzHE); (try clear cxHI hzHI); have cxHX := blk_cell HX.out; have hzHX := blk_lt HX.out; have cxHG := blk_cell HG.out; have hzHG := blk_lt HG.out; have cxHw := blk_cell Hw.out; have hzHw := blk_lt Hw.out; have cxHE := blk_cell HE.out; have hzHE := blk_lt HE.out; have cxHI := blk_cell HI.out; have hzHI := blk_lt HI.out; clear hbs))
    | (go_at_call 18; go_loud (refine (markGR (⟨us.map cvUser, ss.map cvSession, fs.map cvFail, rs.map cvRecord, nx⟩ : GV) _ _ _ _ X0 X1 X2 X3 x0 x1 x2 x3 nx k2 _ RE.out (by omega) HQC.out hk0 hk1).mono ?_; rintro e wN ⟨k3, rfl, hk3, hbs⟩; have zN := hbs.size; have n_ := Aside0.mk (Below_I HB.out hbs (by omega)); clear HB; have HB := n_; clear n_; have n_ := Aside0.mk (blk_I HX.out hbs (by omega)); clear HX; have HX := n_; clear n_; have n_ := Aside0.mk (blk_I HG.out hbs (by omega)); clear HG; have HG := n_; clear n_; have n_ := Aside0.mk (blk_I Hw.out hbs (by omega)); clear Hw; have Hw := n_; clear n_; have n_ := Aside0.mk (RR4.I Rw.out hbs (by omega)); clear Rw; have Rw := n_; clear n_; have n_ := Aside0.mk (R_I Jw.out hbs (by omega)); clear Jw; have Jw := n_; clear n_; have n_ := Aside0.mk (RR4.I RI.out hbs (by omega)); clear RI; have RI := n_; clear n_; have n_ := Aside0.mk (R_I Ji.out hbs (by omega)); clear Ji; have Ji := n_; clear n_; have n_ := Aside0.mk (blk_I HI.out hbs (by omega)); clear HI; have HI := n_; clear n_; clear RE HE; (try clear cxHE hzHE); (try clear cxHX hzHX); (try clear cxHG hzHG); (try clear cxHw hzHw); (try clear cxHI hzHI); have cxHX := blk_cell HX.out; have hzHX := blk_lt HX.out; have cxHG := blk_cell HG.out; have hzHG := blk_lt HG.out; have cxHw := blk_cell Hw.out; have hzHw := blk_lt Hw.out; have cxHI := blk_cell HI.out; have hzHI := blk_lt HI.out; clear hbs))
    | (go_at_call 14; go_loud (refine (eqGuestsR qw Oi0 Oi1 Oi2 Oi3 Ow0 Ow1 Ow2 Ow3 pi0 pi1 pi2 pi3 pw0 pw1 pw2 pw3 _ RI.out Rw.out Qw.out).mono ?_; rintro e wO ⟨rfl, hb⟩; have zO := hb.size; have n_ := Aside0.mk (Below_I HB.out (ivl0 hb) (by omega)); clear HB; have HB := n_; clear n_; have n_ := Aside0.mk (blk_I HX.out (ivl0 hb) (by omega)); clear HX; have HX := n_; clear n_; have n_ := Aside0.mk (blk_I HG.out (ivl0 hb) (by omega)); clear HG; have HG := n_; clear n_; have n_ := Aside0.mk (blk_I Hw.out (ivl0 hb) (by omega)); clear Hw; have Hw := n_; clear n_; have n_ := Aside0.mk (RR4.I Rw.out (ivl0 hb) (by omega)); clear Rw; have Rw := n_; clear n_; have n_ := Aside0.mk (R_I Jw.out (ivl0 hb) (by omega)); clear Jw; have Jw := n_; clear n_; have n_ := Aside0.mk (RR4.I RI.out (ivl0 hb) (by omega)); clear RI; have RI := n_; clear n_; have n_ := Aside0.mk (R_I Ji.out (ivl0 hb) (by omega)); clear Ji; have Ji := n_; clear n_; have n_ := Aside0.mk (blk_I HI.out (ivl0 hb) (by omega)); clear HI; have HI := n_; clear n_; (try clear cxHX hzHX); (try clear cxHG hzHG); (try clear cxHw hzHw); (try clear cxHI hzHI); have cxHX := blk_cell HX.out; have hzHX := blk_lt HX.out; have cxHG := blk_cell HG.out; have hzHG := blk_lt HG.out; have cxHw := blk_cell Hw.out; have hzHw := blk_lt Hw.out; have cxHI := blk_cell HI.out; have hzHI := blk_lt HI.out; clear hb))
    | (go_at_call 22; go_loud (refine (eqIntR idsw Ji_ Jw_ cji cjw _ (R_toC Ji.out).2 (R_toC Ji.out).1 (R_toC Jw.out).2 (R_toC Jw.out).1 (by omega)).mono ?_; rintro e wO2 ⟨rfl, hb⟩; have zwO2 := hb.size; have n_ := Aside0.mk (Below_I HB.out (ivl0 hb) (by omega)); clear HB; have HB := n_; clear n_; have n_ := Aside0.mk (blk_I HX.out (ivl0 hb) (by omega)); clear HX; have HX := n_; clear n_; have n_ := Aside0.mk (blk_I HG.out (ivl0 hb) (by omega)); clear HG; have HG := n_; clear n_; have n_ := Aside0.mk (blk_I Hw.out (ivl0 hb) (by omega)); clear Hw; have Hw := n_; clear n_; have n_ := Aside0.mk (RR4.I Rw.out (ivl0 hb) (by omega)); clear Rw; have Rw := n_; clear n_; have n_ := Aside0.mk (R_I Jw.out (ivl0 hb) (by omega)); clear Jw; have Jw := n_; clear n_; have n_ := Aside0.mk (RR4.I RI.out (ivl0 hb) (by omega)); clear RI; have RI := n_; clear n_; have n_ := Aside0.mk (R_I Ji.out (ivl0 hb) (by omega)); clear Ji; have Ji := n_; clear n_; have n_ := Aside0.mk (blk_I HI.out (ivl0 hb) (by omega)); clear HI; have HI := n_; clear n_; (try clear cxHX hzHX); (try clear cxHG hzHG); (try clear cxHw hzHw); (try clear cxHI hzHI); have cxHX := blk_cell HX.out; have hzHX := blk_lt HX.out; have cxHG := blk_cell HG.out; have hzHG := blk_lt HG.out; have cxHw := blk_cell Hw.out; have hzHw := blk_lt Hw.out; have cxHI := blk_cell HI.out; have hzHI := blk_lt HI.out; clear hb))
    | (go_at_call 18; go_loud (refine (markGM qw _ _ _ _ Oi0 Oi1 Oi2 Oi3 pi0 pi1 pi2 pi3 qw.nx _ RI.out (by omega) Qw.out).mono ?_; rintro e wP ⟨m, rfl, hmg, hm0, hm1, hbs⟩; have zP := hbs.size; have MG := Aside0.mk hmg; have RJ := Aside0.mk (((R_rowA Ji.out).mono (fun b hb => (⟨hb.1, hb.2.2⟩ : Ivl (wE.heap.size + 1) wI.heap.size b))).but hbs); clear Ji; have n_ := Aside0.mk (Below_I HB.out hbs (by omega)); clear HB; have HB := n_; clear n_; have n_ := Aside0.mk (blk_I HX.out hbs (by omega)); clear HX; have HX := n_; clear n_; have n_ := Aside0.mk (blk_I HG.out hbs (by omega)); clear HG; have HG := n_; clear n_; have n_ := Aside0.mk (blk_I Hw.out hbs (by omega)); clear Hw; have Hw := n_; clear n_; have n_ := Aside0.mk (RR4.I Rw.out hbs (by omega)); clear Rw; have Rw := n_; clear n_; have n_ := Aside0.mk (R_I Jw.out hbs (by omega)); clear Jw; have Jw := n_; clear n_; have n_ := Aside0.mk (blk_I HI.out hbs (by omega)); clear HI; have HI := n_; clear n_; clear RI hmg; (try clear cxHX hzHX); (try clear cxHG hzHG); (try clear cxHw hzHw); (try clear cxHI hzHI); have cxHX := blk_cell HX.out; have hzHX := blk_lt HX.out; have cxHG := blk_cell HG.out; have hzHG := blk_lt HG.out; have cxHw := blk_cell Hw.out; have hzHw := blk_lt Hw.out; have cxHI := blk_cell HI.out; have hzHI := blk_lt HI.out; clear hbs))
    | (go_at_call 23; go_loud (refine (markIM idsw.length Ji_ cji m _ RJ.out hjlw hm1.1 hm1.2).mono ?_; rintro e wV ⟨m2, rfl, hmi, hm3, hbs⟩; have zV := hbs.size; have hbs2 := hbs.mono (fun b h => h.1); have MI := Aside0.mk hmi; have n_ := Aside0.mk (MarkedG.but MG.out hbs (fun b h => h.2)); clear MG; have MG := n_; clear n_; have n_ := Aside0.mk (Below_I HB.out hbs2 (by omega)); clear HB; have HB := n_; clear n_; have n_ := Aside0.mk (blk_I HX.out hbs2 (by omega)); clear HX; have HX := n_; clear n_; have n_ := Aside0.mk (blk_I HG.out hbs2 (by omega)); clear HG; have HG := n_; clear n_; have n_ := Aside0.mk (blk_I Hw.out hbs2 (by omega)); clear Hw; have Hw := n_; clear n_; have n_ := Aside0.mk (RR4.I Rw.out hbs2 (by omega)); clear Rw; have Rw := n_; clear n_; have n_ := Aside0.mk (R_I Jw.out hbs2 (by omega)); clear Jw; have Jw := n_; clear n_; have n_ := Aside0.mk (blk_I HI.out hbs2 (by omega)); clear HI; have HI := n_; clear n_; clear RJ hmi; (try clear cxHX hzHX); (try clear cxHG hzHG); (try clear cxHw hzHw); (try clear cxHI hzHI); have cxHX := blk_cell HX.out; have hzHX := blk_lt HX.out; have cxHG := blk_cell HG.out; have hzHG := blk_lt HG.out; have cxHw := blk_cell Hw.out; have hzHw := blk_lt Hw.out; have cxHI := blk_cell HI.out; have hzHI := blk_lt HI.out; clear hbs hbs2))
    | (go_at_call 19; go_loud (refine (heldGM _ _ _ _ Oi0 Oi1 Oi2 Oi3 pi0 pi1 pi2 pi3 qw.nx m _ MG.out Qw.out.1 Qw.out.2.1 Qw.out.2.2.1 Qw.out.2.2.2).mono ?_; rintro e wT0 ⟨rfl, hb⟩; have zT0 := hb.size; have n_ := Aside0.mk (Below_I HB.out (ivl0 hb) (by omega)); clear HB; have HB := n_; clear n_; have n_ := Aside0.mk (blk_I HX.out (ivl0 hb) (by omega)); clear HX; have HX := n_; clear n_; have n_ := Aside0.mk (blk_I HG.out (ivl0 hb) (by omega)); clear HG; have HG := n_; clear n_; have n_ := Aside0.mk (blk_I Hw.out (ivl0 hb) (by omega)); clear Hw; have Hw := n_; clear n_; have n_ := Aside0.mk (RR4.I Rw.out (ivl0 hb) (by omega)); clear Rw; have Rw := n_; clear n_; have n_ := Aside0.mk (R_I Jw.out (ivl0 hb) (by omega)); clear Jw; have Jw := n_; clear n_; have n_ := Aside0.mk (blk_I HI.out (ivl0 hb) (by omega)); clear HI; have HI := n_; clear n_; have n_ := Aside0.mk (MarkedG.I MG.out hb); clear MG; have MG := n_; clear n_; have n_ := Aside0.mk (MarkedI.I MI.out hb); clear MI; have MI := n_; clear n_; (try clear cxHX hzHX); (try clear cxHG hzHG); (try clear cxHw hzHw); (try clear cxHI hzHI); have cxHX := blk_cell HX.out; have hzHX := blk_lt HX.out; have cxHG := blk_cell HG.out; have hzHG := blk_lt HG.out; have cxHw := blk_cell Hw.out; have hzHw := blk_lt Hw.out; have cxHI := blk_cell HI.out; have hzHI := blk_lt HI.out; clear hb))
    | (go_at_call 24; go_loud (refine (heldIM idsw.length Ji_ cji m m2 _ MI.out hjlw hm1.1 hm1.2).mono ?_; rintro e wT ⟨rfl, hb⟩; have zT := hb.size; have n_ := Aside0.mk (Below_I HB.out (ivl0 hb) (by omega)); clear HB; have HB := n_; clear n_; have n_ := Aside0.mk (blk_I HX.out (ivl0 hb) (by omega)); clear HX; have HX := n_; clear n_; have n_ := Aside0.mk (blk_I HG.out (ivl0 hb) (by omega)); clear HG; have HG := n_; clear n_; have n_ := Aside0.mk (blk_I Hw.out (ivl0 hb) (by omega)); clear Hw; have Hw := n_; clear n_; have n_ := Aside0.mk (RR4.I Rw.out (ivl0 hb) (by omega)); clear Rw; have Rw := n_; clear n_; have n_ := Aside0.mk (R_I Jw.out (ivl0 hb) (by omega)); clear Jw; have Jw := n_; clear n_; have n_ := Aside0.mk (blk_I HI.out (ivl0 hb) (by omega)); clear HI; have HI := n_; clear n_; have n_ := Aside0.mk (MarkedG.I MG.out hb); clear MG; have MG := n_; clear n_; have n_ := Aside0.mk (MarkedI.I MI.out hb); clear MI; have MI := n_; clear n_; (try clear cxHX hzHX); (try clear cxHG hzHG); (try clear cxHw hzHw); (try clear cxHI hzHI); have cxHX := blk_cell HX.out; have hzHX := blk_lt HX.out; have cxHG := blk_cell HG.out; have hzHG := blk_lt HG.out; have cxHw := blk_cell Hw.out; have hzHw := blk_lt Hw.out; have cxHI := blk_cell HI.out; have hzHI := blk_lt HI.out; clear hb)))
  (try clear cxHX cxHG cxHw cxHI)
  refine qSd (fun w' => w'.cell? ⟨w.heap.size, 0, none⟩ = some (.int .i64 ip) ∧ w'.cell? ⟨w.heap.size, 1, none⟩ = some (.int .i64 b) ∧ w'.cell? ⟨w.heap.size, 2, none⟩ = some (.int .i64 gate) ∧ w'.cell? ⟨w.heap.size, 3, none⟩ = some (.string gm) ∧ w'.cell? ⟨w.heap.size, 4, none⟩ = some (.string wm) ∧ w'.cell? ⟨w.heap.size, 5, none⟩ = some (.int .i64 res) ∧ w'.cell? ⟨w.heap.size, 6, none⟩ = some (.slice A6 g.length c6) ∧ w'.cell? ⟨w.heap.size, 7, none⟩ = some (.slice A7 l.length c7) ∧ w'.cell? ⟨w.heap.size + 1, 0, none⟩ = some (.slice B0 us.length d0) ∧ w'.cell? ⟨w.heap.size + 1, 1, none⟩ = some (.slice B1 ss.length d1) ∧ w'.cell? ⟨w.heap.size + 1, 2, none⟩ = some (.slice B2 fs.length d2) ∧ w'.cell? ⟨w.heap.size + 1, 3, none⟩ = some (.slice B3 rs.length d3) ∧ w'.cell? ⟨w.heap.size + 1, 4, none⟩ = some (.int .i64 nx)) 16 [13] ⟨blk_cell HX.out 0, blk_cell HX.out 1, blk_cell HX.out 2, blk_cell HX.out 3, blk_cell HX.out 4, blk_cell HX.out 5, blk_cell HX.out 6, blk_cell HX.out 7, blk_cell HG.out 0, blk_cell HG.out 1, blk_cell HG.out 2, blk_cell HG.out 3, blk_cell HG.out 4⟩ (fun hs => ?_)
  have hbd := below_drew1 (Below.refl wT.heap.size wT)
  generalize (World.drew wT) = Wd at hs hbd ⊢
  have HT := Aside0.mk hbd
  clear hbd
  refine qP 4 139 ?_
  refine qP 5 140 ?_
  refine qP 6 141 ?_
  refine qT 0 135 hs ?_
  refine qT 2 137 hs ?_
  refine join_ (σ := JVI) 3 #[true, true, true, true, true, true, true, true, true, true, true, true, true, false, false, false] (fun s_ => [(136, s_.v1), (138, s_.v2), (142, .tuple #[.agg #[.slice s_.O0 s_.q.us.length s_.p0, .slice s_.O1 s_.q.ss.length s_.p1, .slice s_.O2 s_.q.fs.length s_.p2, .slice s_.O3 s_.q.rs.length s_.p3, .int .i64 s_.q.nx], .slice s_.J s_.ids.length s_.ci, .int .i64 s_.c]), (134, .tuple #[.agg #[.slice s_.O0 s_.q.us.length s_.p0, .slice s_.O1 s_.q.ss.length s_.p1, .slice s_.O2 s_.q.fs.length s_.p2, .slice s_.O3 s_.q.rs.length s_.p3, .int .i64 s_.q.nx], .slice s_.J s_.ids.length s_.ci, .int .i64 s_.c]), (143, .agg #[.slice s_.O0 s_.q.us.length s_.p0, .slice s_.O1 s_.q.ss.length s_.p1, .slice s_.O2 s_.q.fs.length s_.p2, .slice s_.O3 s_.q.rs.length s_.p3, .int .i64 s_.q.nx]), (144, .slice s_.J s_.ids.length s_.ci), (145, .int .i64 s_.c), (23, .pointer (some ⟨s_.g, 0, none⟩))]) (fun s_ w' => Below wT.heap.size wT w' ∧ w'.heap[s_.g]? = some (.cells #[.slice none 0 0, .slice none 0 0, .slice none 0 0, .slice none 0 0, .int .i64 0] 48 (0, 0)) ∧ wT.heap.size ≤ s_.g ∧ s_.h ≤ w'.heap.size ∧ MovOut (GuestsP ip b gate gm wm res (g.map cvPlace) (l.map cvRole) (us.map cvUser) (ss.map cvSession) (fs.map cvFail) (rs.map cvRecord) nx) (⟨us.map cvUser, ss.map cvSession, fs.map cvFail, rs.map cvRecord, nx⟩ : GV) mac ip2 now s_.q s_.ids s_.c ∧ s_.q.Len ∧ RR4 w' wT.heap.size s_.h (.slice s_.O0 s_.q.us.length s_.p0) (.slice s_.O1 s_.q.ss.length s_.p1) (.slice s_.O2 s_.q.fs.length s_.p2) (.slice s_.O3 s_.q.rs.length s_.p3) s_.q ∧ Kd.R (Kd.int .i64) 3 w' wT.heap.size (fun k => k < s_.h) (.slice s_.J s_.ids.length s_.ci) s_.ids ∧ s_.ids.length ≤ 1048576) ?_ ?_
  rotate_left
  · intro hJ
    refine qTwo 1 12 136 23 (fun K hK => ?_) (fun K hK => ?_)
    · refine qC Tryz.func10 _ ?_
      refine (toConfigN ip b gate gm wm res A6 c6 g A7 c7 l _ 0 (by exact Nat.zero_le _) (Kd.C_below H0.out.1 (below_step HB.out HT.out)) HS.out.1.1 (Kd.C_below H0.out.2.1 (below_step HB.out HT.out)) HS.out.1.2.1 (fun r hr => (HS.out.1.2.2 r hr).2)).mono ?_
      rintro e u1 ⟨P6, p6, P7, p7, rfl, hr, hb⟩
      have HC2 := Aside0.mk hr
      clear hr
      have hsz_u1 := hb.size
      have n_ := Aside0.mk (Below_I HT.out (ivl0 hb) (by omega))
      clear HT
      have HT := n_
      clear n_
      refine ⟨_, rfl, hK.out _ _ ⟨pw_cell_below hb hs.1, pw_cell_below hb hs.2.1, pw_cell_below hb hs.2.2.1, pw_cell_below hb hs.2.2.2.1, pw_cell_below hb hs.2.2.2.2.1, pw_cell_below hb hs.2.2.2.2.2.1, pw_cell_below hb hs.2.2.2.2.2.2.1, pw_cell_below hb hs.2.2.2.2.2.2.2.1, pw_cell_below hb hs.2.2.2.2.2.2.2.2.1, pw_cell_below hb hs.2.2.2.2.2.2.2.2.2.1, pw_cell_below hb hs.2.2.2.2.2.2.2.2.2.2.1, pw_cell_below hb hs.2.2.2.2.2.2.2.2.2.2.2.1, pw_cell_below hb hs.2.2.2.2.2.2.2.2.2.2.2.2⟩ (fun hs2 => ?_)⟩
      clear hK K hs hb
      have hs := hs2
      clear hs2
      refine qN ?_
      refine qTwo 3 12 138 23 (fun K hK => ?_) (fun K hK => ?_)
      · refine qC Tryz.func11 _ ?_
        refine (toGuestsN B0 B1 B2 B3 d0 d1 d2 d3 us ss fs rs nx _ 0 (by exact Nat.zero_le _) (Kd.C_below H0.out.2.2.1 (below_step HB.out HT.out)) HS.out.2.1 (Kd.C_below H0.out.2.2.2.1 (below_step HB.out HT.out)) HS.out.2.2.1 (Kd.C_below H0.out.2.2.2.2.1 (below_step HB.out HT.out)) HS.out.2.2.2.1 (Kd.C_below H0.out.2.2.2.2.2 (below_step HB.out HT.out)) HS.out.2.2.2.2).mono ?_
        rintro e u2 ⟨P0, p0, P1, p1, P2, p2, P3, p3, rfl, hr, hb⟩
        have HC4 := Aside0.mk hr
        clear hr
        have hsz_u2 := hb.size
        have n_ := Aside0.mk (RR2.I HC2.out (ivl0 hb) (by omega))
        clear HC2
        have HC2 := n_
        clear n_
        have n_ := Aside0.mk (Below_I HT.out (ivl0 hb) (by omega))
        clear HT
        have HT := n_
        clear n_
        refine ⟨_, rfl, hK.out _ _ ⟨pw_cell_below hb hs.1, pw_cell_below hb hs.2.1, pw_cell_below hb hs.2.2.1, pw_cell_below hb hs.2.2.2.1, pw_cell_below hb hs.2.2.2.2.1, pw_cell_below hb hs.2.2.2.2.2.1, pw_cell_below hb hs.2.2.2.2.2.2.1, pw_cell_below hb hs.2.2.2.2.2.2.2.1, pw_cell_below hb hs.2.2.2.2.2.2.2.2.1, pw_cell_below hb hs.2.2.2.2.2.2.2.2.2.1, pw_cell_below hb hs.2.2.2.2.2.2.2.2.2.2.1, pw_cell_below hb hs.2.2.2.2.2.2.2.2.2.2.2.1, pw_cell_below hb hs.2.2.2.2.2.2.2.2.2.2.2.2⟩ (fun hs2 => ?_)⟩
        clear hK K hs hb
        have hs := hs2
        clear hs2
        refine qN ?_
        refine qTwo 7 12 142 23 (fun K hK => ?_) (fun K hK => ?_)
        · refine qC Tryz.func26 _ ?_
          refine (iMovSM ip b gate gm wm res (g.map cvPlace) (l.map cvRole) P6 P7 p6 p7 _ _ (us.map cvUser) (ss.map cvSession) (fs.map cvFail) (rs.map cvRecord) nx P0 P1 P2 P3 p0 p1 p2 p3 _ _ _ _ mac ip2 now _ HC2.out HC4.out HZC.out).mono ?_
          rintro e u3 ⟨q, ids, code, O0, y0, O1, y1, O2, y2, O3, y3, J, cj, rfl, ho, hql, hr, hj, hb⟩
          have HT0 := HT.out.size
          have HR := Aside0.mk (RR4.low hr HT0)
          have HO := Aside0.mk ho
          have HQL := Aside0.mk hql
          clear ho hql
          have HJ := Aside0.mk (Kd.R_lower hj.1 HT0)
          have hjl := hj.2
          clear hj
          clear hr
          clear HC2 HC4
          have hsz_u3 := hb.size
          have n_ := Aside0.mk (Below_I HT.out (ivl0 hb) (by omega))
          clear HT
          have HT := n_
          clear n_
          refine ⟨_, rfl, hK.out _ _ ⟨pw_cell_below hb hs.1, pw_cell_below hb hs.2.1, pw_cell_below hb hs.2.2.1, pw_cell_below hb hs.2.2.2.1, pw_cell_below hb hs.2.2.2.2.1, pw_cell_below hb hs.2.2.2.2.2.1, pw_cell_below hb hs.2.2.2.2.2.2.1, pw_cell_below hb hs.2.2.2.2.2.2.2.1, pw_cell_below hb hs.2.2.2.2.2.2.2.2.1, pw_cell_below hb hs.2.2.2.2.2.2.2.2.2.1, pw_cell_below hb hs.2.2.2.2.2.2.2.2.2.2.1, pw_cell_below hb hs.2.2.2.2.2.2.2.2.2.2.2.1, pw_cell_below hb hs.2.2.2.2.2.2.2.2.2.2.2.2⟩ (fun hs2 => ?_)⟩
          clear hK K hs hb
          have hs := hs2
          clear hs2
          refine qN ?_
          refine qP 8 134 ?_
          refine qP 9 143 ?_
          refine qP 10 144 ?_
          refine qP 11 145 ?_
          refine q1 12 23 (fun K hK => ?_)
          refine qAl (o := .cells #[.slice none 0 0, .slice none 0 0, .slice none 0 0, .slice none 0 0, .int .i64 0] 48 (0, 0)) (by first | (go_simp; done) | (go_simp; rfl)) (fun u4 hn hb => ?_)
          have HT0 := HT.out.size
          obtain ⟨gB, egB⟩ : ∃ x, x = u3.heap.size := ⟨_, rfl⟩
          rw [← egB] at hn ⊢
          have n_ := Aside0.mk (RR4.I HR.out (ivl0 hb) (by omega))
          clear HR
          have HR := n_
          clear n_
          have n_ := Aside0.mk (R_I HJ.out (ivl0 hb) (by omega))
          clear HJ
          have HJ := n_
          clear n_
          have n_ := Aside0.mk (Below_I HT.out (ivl0 hb) (by omega))
          clear HT
          have HT := n_
          clear n_
          have HZB := Aside0.mk hn
          have hgB : wT.heap.size ≤ gB := by have := HT0; omega
          clear hn egB
          have hsz_u4 := hb.size
          refine hK.out _ _ ⟨pw_cell_below hb hs.1, pw_cell_below hb hs.2.1, pw_cell_below hb hs.2.2.1, pw_cell_below hb hs.2.2.2.1, pw_cell_below hb hs.2.2.2.2.1, pw_cell_below hb hs.2.2.2.2.2.1, pw_cell_below hb hs.2.2.2.2.2.2.1, pw_cell_below hb hs.2.2.2.2.2.2.2.1, pw_cell_below hb hs.2.2.2.2.2.2.2.2.1, pw_cell_below hb hs.2.2.2.2.2.2.2.2.2.1, pw_cell_below hb hs.2.2.2.2.2.2.2.2.2.2.1, pw_cell_below hb hs.2.2.2.2.2.2.2.2.2.2.2.1, pw_cell_below hb hs.2.2.2.2.2.2.2.2.2.2.2.2⟩ (fun hs2 => ?_)
          clear hK K hs hb
          have hs := hs2
          clear hs2
          refine qN ?_
          exact qJ (hJ ⟨.agg #[.int .i64 ip, .int .i64 b, .int .i64 gate, .string gm, .string wm, .int .i64 res, .slice P6 g.length p6, .slice P7 l.length p7], .agg #[.slice P0 us.length p0, .slice P1 ss.length p1, .slice P2 fs.length p2, .slice P3 rs.length p3, .int .i64 nx], gB, q, code, O0, O1, O2, O3, y0, y1, y2, y3, u3.heap.size, ids, J, cj⟩ _ ⟨HT.out, HZB.out, hgB, by dsimp only; omega, HO.out, HQL.out, HR.out, HJ.out, hjl⟩)
        · refine qAl (o := .cells #[.slice none 0 0, .slice none 0 0, .slice none 0 0, .slice none 0 0, .int .i64 0] 48 (0, 0)) (by first | (go_simp; done) | (go_simp; rfl)) (fun u5 hn hb => ?_)
          have HT0 := HT.out.size
          obtain ⟨gB, egB⟩ : ∃ x, x = u2.heap.size := ⟨_, rfl⟩
          rw [← egB] at hn ⊢
          have n_ := Aside0.mk (RR2.I HC2.out (ivl0 hb) (by omega))
          clear HC2
          have HC2 := n_
          clear n_
          have n_ := Aside0.mk (RR4.I HC4.out (ivl0 hb) (by omega))
          clear HC4
          have HC4 := n_
          clear n_
          have n_ := Aside0.mk (Below_I HT.out (ivl0 hb) (by omega))
          clear HT
          have HT := n_
          clear n_
          have HZB := Aside0.mk hn
          have hgB : wT.heap.size ≤ gB := by have := HT0; omega
          clear hn egB
          have hsz_u5 := hb.size
          refine hK.out _ _ ⟨pw_cell_below hb hs.1, pw_cell_below hb hs.2.1, pw_cell_below hb hs.2.2.1, pw_cell_below hb hs.2.2.2.1, pw_cell_below hb hs.2.2.2.2.1, pw_cell_below hb hs.2.2.2.2.2.1, pw_cell_below hb hs.2.2.2.2.2.2.1, pw_cell_below hb hs.2.2.2.2.2.2.2.1, pw_cell_below hb hs.2.2.2.2.2.2.2.2.1, pw_cell_below hb hs.2.2.2.2.2.2.2.2.2.1, pw_cell_below hb hs.2.2.2.2.2.2.2.2.2.2.1, pw_cell_below hb hs.2.2.2.2.2.2.2.2.2.2.2.1, pw_cell_below hb hs.2.2.2.2.2.2.2.2.2.2.2.2⟩ (fun hs2 => ?_)
          clear hK K hs hb
          have hs := hs2
          clear hs2
          refine qN ?_
          refine q1 7 142 (fun K hK => ?_)
          refine qC Tryz.func26 _ ?_
          refine (iMovSM ip b gate gm wm res (g.map cvPlace) (l.map cvRole) P6 P7 p6 p7 _ _ (us.map cvUser) (ss.map cvSession) (fs.map cvFail) (rs.map cvRecord) nx P0 P1 P2 P3 p0 p1 p2 p3 _ _ _ _ mac ip2 now _ HC2.out HC4.out HZC.out).mono ?_
          rintro e u6 ⟨q, ids, code, O0, y0, O1, y1, O2, y2, O3, y3, J, cj, rfl, ho, hql, hr, hj, hb⟩
          have HT0 := HT.out.size
          have HR := Aside0.mk (RR4.low hr HT0)
          have HO := Aside0.mk ho
          have HQL := Aside0.mk hql
          clear ho hql
          have HJ := Aside0.mk (Kd.R_lower hj.1 HT0)
          have hjl := hj.2
          clear hj
          clear hr
          clear HC2 HC4
          have hsz_u6 := hb.size
          have n_ := Aside0.mk (blk_I HZB.out (ivl0 hb) (by omega))
          clear HZB
          have HZB := n_
          clear n_
          have n_ := Aside0.mk (Below_I HT.out (ivl0 hb) (by omega))
          clear HT
          have HT := n_
          clear n_
          refine ⟨_, rfl, hK.out _ _ ⟨pw_cell_below hb hs.1, pw_cell_below hb hs.2.1, pw_cell_below hb hs.2.2.1, pw_cell_below hb hs.2.2.2.1, pw_cell_below hb hs.2.2.2.2.1, pw_cell_below hb hs.2.2.2.2.2.1, pw_cell_below hb hs.2.2.2.2.2.2.1, pw_cell_below hb hs.2.2.2.2.2.2.2.1, pw_cell_below hb hs.2.2.2.2.2.2.2.2.1, pw_cell_below hb hs.2.2.2.2.2.2.2.2.2.1, pw_cell_below hb hs.2.2.2.2.2.2.2.2.2.2.1, pw_cell_below hb hs.2.2.2.2.2.2.2.2.2.2.2.1, pw_cell_below hb hs.2.2.2.2.2.2.2.2.2.2.2.2⟩ (fun hs2 => ?_)⟩
          clear hK K hs hb
          have hs := hs2
          clear hs2
          refine qN ?_
          refine qP 8 134 ?_
          refine qP 9 143 ?_
          refine qP 10 144 ?_
          refine qP 11 145 ?_
          exact qJ (hJ ⟨.agg #[.int .i64 ip, .int .i64 b, .int .i64 gate, .string gm, .string wm, .int .i64 res, .slice P6 g.length p6, .slice P7 l.length p7], .agg #[.slice P0 us.length p0, .slice P1 ss.length p1, .slice P2 fs.length p2, .slice P3 rs.length p3, .int .i64 nx], gB, q, code, O0, O1, O2, O3, y0, y1, y2, y3, u6.heap.size, ids, J, cj⟩ _ ⟨HT.out, HZB.out, hgB, by dsimp only; omega, HO.out, HQL.out, HR.out, HJ.out, hjl⟩)
      · refine qAl (o := .cells #[.slice none 0 0, .slice none 0 0, .slice none 0 0, .slice none 0 0, .int .i64 0] 48 (0, 0)) (by first | (go_simp; done) | (go_simp; rfl)) (fun u7 hn hb => ?_)
        have HT0 := HT.out.size
        obtain ⟨gB, egB⟩ : ∃ x, x = u1.heap.size := ⟨_, rfl⟩
        rw [← egB] at hn ⊢
        have n_ := Aside0.mk (RR2.I HC2.out (ivl0 hb) (by omega))
        clear HC2
        have HC2 := n_
        clear n_
        have n_ := Aside0.mk (Below_I HT.out (ivl0 hb) (by omega))
        clear HT
        have HT := n_
        clear n_
        have HZB := Aside0.mk hn
        have hgB : wT.heap.size ≤ gB := by have := HT0; omega
        clear hn egB
        have hsz_u7 := hb.size
        refine hK.out _ _ ⟨pw_cell_below hb hs.1, pw_cell_below hb hs.2.1, pw_cell_below hb hs.2.2.1, pw_cell_below hb hs.2.2.2.1, pw_cell_below hb hs.2.2.2.2.1, pw_cell_below hb hs.2.2.2.2.2.1, pw_cell_below hb hs.2.2.2.2.2.2.1, pw_cell_below hb hs.2.2.2.2.2.2.2.1, pw_cell_below hb hs.2.2.2.2.2.2.2.2.1, pw_cell_below hb hs.2.2.2.2.2.2.2.2.2.1, pw_cell_below hb hs.2.2.2.2.2.2.2.2.2.2.1, pw_cell_below hb hs.2.2.2.2.2.2.2.2.2.2.2.1, pw_cell_below hb hs.2.2.2.2.2.2.2.2.2.2.2.2⟩ (fun hs2 => ?_)
        clear hK K hs hb
        have hs := hs2
        clear hs2
        refine qN ?_
        refine q1 3 138 (fun K hK => ?_)
        refine qC Tryz.func11 _ ?_
        refine (toGuestsN B0 B1 B2 B3 d0 d1 d2 d3 us ss fs rs nx _ 0 (by exact Nat.zero_le _) (Kd.C_below H0.out.2.2.1 (below_step HB.out HT.out)) HS.out.2.1 (Kd.C_below H0.out.2.2.2.1 (below_step HB.out HT.out)) HS.out.2.2.1 (Kd.C_below H0.out.2.2.2.2.1 (below_step HB.out HT.out)) HS.out.2.2.2.1 (Kd.C_below H0.out.2.2.2.2.2 (below_step HB.out HT.out)) HS.out.2.2.2.2).mono ?_
        rintro e u8 ⟨P0, p0, P1, p1, P2, p2, P3, p3, rfl, hr, hb⟩
        have HC4 := Aside0.mk hr
        clear hr
        have hsz_u8 := hb.size
        have n_ := Aside0.mk (RR2.I HC2.out (ivl0 hb) (by omega))
        clear HC2
        have HC2 := n_
        clear n_
        have n_ := Aside0.mk (blk_I HZB.out (ivl0 hb) (by omega))
        clear HZB
        have HZB := n_
        clear n_
        have n_ := Aside0.mk (Below_I HT.out (ivl0 hb) (by omega))
        clear HT
        have HT := n_
        clear n_
        refine ⟨_, rfl, hK.out _ _ ⟨pw_cell_below hb hs.1, pw_cell_below hb hs.2.1, pw_cell_below hb hs.2.2.1, pw_cell_below hb hs.2.2.2.1, pw_cell_below hb hs.2.2.2.2.1, pw_cell_below hb hs.2.2.2.2.2.1, pw_cell_below hb hs.2.2.2.2.2.2.1, pw_cell_below hb hs.2.2.2.2.2.2.2.1, pw_cell_below hb hs.2.2.2.2.2.2.2.2.1, pw_cell_below hb hs.2.2.2.2.2.2.2.2.2.1, pw_cell_below hb hs.2.2.2.2.2.2.2.2.2.2.1, pw_cell_below hb hs.2.2.2.2.2.2.2.2.2.2.2.1, pw_cell_below hb hs.2.2.2.2.2.2.2.2.2.2.2.2⟩ (fun hs2 => ?_)⟩
        clear hK K hs hb
        have hs := hs2
        clear hs2
        refine qN ?_
        refine q1 7 142 (fun K hK => ?_)
        refine qC Tryz.func26 _ ?_
        refine (iMovSM ip b gate gm wm res (g.map cvPlace) (l.map cvRole) P6 P7 p6 p7 _ _ (us.map cvUser) (ss.map cvSession) (fs.map cvFail) (rs.map cvRecord) nx P0 P1 P2 P3 p0 p1 p2 p3 _ _ _ _ mac ip2 now _ HC2.out HC4.out HZC.out).mono ?_
        rintro e u9 ⟨q, ids, code, O0, y0, O1, y1, O2, y2, O3, y3, J, cj, rfl, ho, hql, hr, hj, hb⟩
        have HT0 := HT.out.size
        have HR := Aside0.mk (RR4.low hr HT0)
        have HO := Aside0.mk ho
        have HQL := Aside0.mk hql
        clear ho hql
        have HJ := Aside0.mk (Kd.R_lower hj.1 HT0)
        have hjl := hj.2
        clear hj
        clear hr
        clear HC2 HC4
        have hsz_u9 := hb.size
        have n_ := Aside0.mk (blk_I HZB.out (ivl0 hb) (by omega))
        clear HZB
        have HZB := n_
        clear n_
        have n_ := Aside0.mk (Below_I HT.out (ivl0 hb) (by omega))
        clear HT
        have HT := n_
        clear n_
        refine ⟨_, rfl, hK.out _ _ ⟨pw_cell_below hb hs.1, pw_cell_below hb hs.2.1, pw_cell_below hb hs.2.2.1, pw_cell_below hb hs.2.2.2.1, pw_cell_below hb hs.2.2.2.2.1, pw_cell_below hb hs.2.2.2.2.2.1, pw_cell_below hb hs.2.2.2.2.2.2.1, pw_cell_below hb hs.2.2.2.2.2.2.2.1, pw_cell_below hb hs.2.2.2.2.2.2.2.2.1, pw_cell_below hb hs.2.2.2.2.2.2.2.2.2.1, pw_cell_below hb hs.2.2.2.2.2.2.2.2.2.2.1, pw_cell_below hb hs.2.2.2.2.2.2.2.2.2.2.2.1, pw_cell_below hb hs.2.2.2.2.2.2.2.2.2.2.2.2⟩ (fun hs2 => ?_)⟩
        clear hK K hs hb
        have hs := hs2
        clear hs2
        refine qN ?_
        refine qP 8 134 ?_
        refine qP 9 143 ?_
        refine qP 10 144 ?_
        refine qP 11 145 ?_
        exact qJ (hJ ⟨.agg #[.int .i64 ip, .int .i64 b, .int .i64 gate, .string gm, .string wm, .int .i64 res, .slice P6 g.length p6, .slice P7 l.length p7], .agg #[.slice P0 us.length p0, .slice P1 ss.length p1, .slice P2 fs.length p2, .slice P3 rs.length p3, .int .i64 nx], gB, q, code, O0, O1, O2, O3, y0, y1, y2, y3, u9.heap.size, ids, J, cj⟩ _ ⟨HT.out, HZB.out, hgB, by dsimp only; omega, HO.out, HQL.out, HR.out, HJ.out, hjl⟩)
    · refine qAl (o := .cells #[.slice none 0 0, .slice none 0 0, .slice none 0 0, .slice none 0 0, .int .i64 0] 48 (0, 0)) (by first | (go_simp; done) | (go_simp; rfl)) (fun u10 hn hb => ?_)
      have HT0 := HT.out.size
      obtain ⟨gB, egB⟩ : ∃ x, x = Wd.heap.size := ⟨_, rfl⟩
      rw [← egB] at hn ⊢
      have n_ := Aside0.mk (Below_I HT.out (ivl0 hb) (by omega))
      clear HT
      have HT := n_
      clear n_
      have HZB := Aside0.mk hn
      have hgB : wT.heap.size ≤ gB := by have := HT0; omega
      clear hn egB
      have hsz_u10 := hb.size
      refine hK.out _ _ ⟨pw_cell_below hb hs.1, pw_cell_below hb hs.2.1, pw_cell_below hb hs.2.2.1, pw_cell_below hb hs.2.2.2.1, pw_cell_below hb hs.2.2.2.2.1, pw_cell_below hb hs.2.2.2.2.2.1, pw_cell_below hb hs.2.2.2.2.2.2.1, pw_cell_below hb hs.2.2.2.2.2.2.2.1, pw_cell_below hb hs.2.2.2.2.2.2.2.2.1, pw_cell_below hb hs.2.2.2.2.2.2.2.2.2.1, pw_cell_below hb hs.2.2.2.2.2.2.2.2.2.2.1, pw_cell_below hb hs.2.2.2.2.2.2.2.2.2.2.2.1, pw_cell_below hb hs.2.2.2.2.2.2.2.2.2.2.2.2⟩ (fun hs2 => ?_)
      clear hK K hs hb
      have hs := hs2
      clear hs2
      refine qN ?_
      refine q1 1 136 (fun K hK => ?_)
      refine qC Tryz.func10 _ ?_
      refine (toConfigN ip b gate gm wm res A6 c6 g A7 c7 l _ 0 (by exact Nat.zero_le _) (Kd.C_below H0.out.1 (below_step HB.out HT.out)) HS.out.1.1 (Kd.C_below H0.out.2.1 (below_step HB.out HT.out)) HS.out.1.2.1 (fun r hr => (HS.out.1.2.2 r hr).2)).mono ?_
      rintro e u11 ⟨P6, p6, P7, p7, rfl, hr, hb⟩
      have HC2 := Aside0.mk hr
      clear hr
      have hsz_u11 := hb.size
      have n_ := Aside0.mk (blk_I HZB.out (ivl0 hb) (by omega))
      clear HZB
      have HZB := n_
      clear n_
      have n_ := Aside0.mk (Below_I HT.out (ivl0 hb) (by omega))
      clear HT
      have HT := n_
      clear n_
      refine ⟨_, rfl, hK.out _ _ ⟨pw_cell_below hb hs.1, pw_cell_below hb hs.2.1, pw_cell_below hb hs.2.2.1, pw_cell_below hb hs.2.2.2.1, pw_cell_below hb hs.2.2.2.2.1, pw_cell_below hb hs.2.2.2.2.2.1, pw_cell_below hb hs.2.2.2.2.2.2.1, pw_cell_below hb hs.2.2.2.2.2.2.2.1, pw_cell_below hb hs.2.2.2.2.2.2.2.2.1, pw_cell_below hb hs.2.2.2.2.2.2.2.2.2.1, pw_cell_below hb hs.2.2.2.2.2.2.2.2.2.2.1, pw_cell_below hb hs.2.2.2.2.2.2.2.2.2.2.2.1, pw_cell_below hb hs.2.2.2.2.2.2.2.2.2.2.2.2⟩ (fun hs2 => ?_)⟩
      clear hK K hs hb
      have hs := hs2
      clear hs2
      refine qN ?_
      refine q1 3 138 (fun K hK => ?_)
      refine qC Tryz.func11 _ ?_
      refine (toGuestsN B0 B1 B2 B3 d0 d1 d2 d3 us ss fs rs nx _ 0 (by exact Nat.zero_le _) (Kd.C_below H0.out.2.2.1 (below_step HB.out HT.out)) HS.out.2.1 (Kd.C_below H0.out.2.2.2.1 (below_step HB.out HT.out)) HS.out.2.2.1 (Kd.C_below H0.out.2.2.2.2.1 (below_step HB.out HT.out)) HS.out.2.2.2.1 (Kd.C_below H0.out.2.2.2.2.2 (below_step HB.out HT.out)) HS.out.2.2.2.2).mono ?_
      rintro e u12 ⟨P0, p0, P1, p1, P2, p2, P3, p3, rfl, hr, hb⟩
      have HC4 := Aside0.mk hr
      clear hr
      have hsz_u12 := hb.size
      have n_ := Aside0.mk (blk_I HZB.out (ivl0 hb) (by omega))
      clear HZB
      have HZB := n_
      clear n_
      have n_ := Aside0.mk (RR2.I HC2.out (ivl0 hb) (by omega))
      clear HC2
      have HC2 := n_
      clear n_
      have n_ := Aside0.mk (Below_I HT.out (ivl0 hb) (by omega))
      clear HT
      have HT := n_
      clear n_
      refine ⟨_, rfl, hK.out _ _ ⟨pw_cell_below hb hs.1, pw_cell_below hb hs.2.1, pw_cell_below hb hs.2.2.1, pw_cell_below hb hs.2.2.2.1, pw_cell_below hb hs.2.2.2.2.1, pw_cell_below hb hs.2.2.2.2.2.1, pw_cell_below hb hs.2.2.2.2.2.2.1, pw_cell_below hb hs.2.2.2.2.2.2.2.1, pw_cell_below hb hs.2.2.2.2.2.2.2.2.1, pw_cell_below hb hs.2.2.2.2.2.2.2.2.2.1, pw_cell_below hb hs.2.2.2.2.2.2.2.2.2.2.1, pw_cell_below hb hs.2.2.2.2.2.2.2.2.2.2.2.1, pw_cell_below hb hs.2.2.2.2.2.2.2.2.2.2.2.2⟩ (fun hs2 => ?_)⟩
      clear hK K hs hb
      have hs := hs2
      clear hs2
      refine qN ?_
      refine q1 7 142 (fun K hK => ?_)
      refine qC Tryz.func26 _ ?_
      refine (iMovSM ip b gate gm wm res (g.map cvPlace) (l.map cvRole) P6 P7 p6 p7 _ _ (us.map cvUser) (ss.map cvSession) (fs.map cvFail) (rs.map cvRecord) nx P0 P1 P2 P3 p0 p1 p2 p3 _ _ _ _ mac ip2 now _ HC2.out HC4.out HZC.out).mono ?_
      rintro e u13 ⟨q, ids, code, O0, y0, O1, y1, O2, y2, O3, y3, J, cj, rfl, ho, hql, hr, hj, hb⟩
      have HT0 := HT.out.size
      have HR := Aside0.mk (RR4.low hr HT0)
      have HO := Aside0.mk ho
      have HQL := Aside0.mk hql
      clear ho hql
      have HJ := Aside0.mk (Kd.R_lower hj.1 HT0)
      have hjl := hj.2
      clear hj
      clear hr
      clear HC2 HC4
      have hsz_u13 := hb.size
      have n_ := Aside0.mk (blk_I HZB.out (ivl0 hb) (by omega))
      clear HZB
      have HZB := n_
      clear n_
      have n_ := Aside0.mk (Below_I HT.out (ivl0 hb) (by omega))
      clear HT
      have HT := n_
      clear n_
      refine ⟨_, rfl, hK.out _ _ ⟨pw_cell_below hb hs.1, pw_cell_below hb hs.2.1, pw_cell_below hb hs.2.2.1, pw_cell_below hb hs.2.2.2.1, pw_cell_below hb hs.2.2.2.2.1, pw_cell_below hb hs.2.2.2.2.2.1, pw_cell_below hb hs.2.2.2.2.2.2.1, pw_cell_below hb hs.2.2.2.2.2.2.2.1, pw_cell_below hb hs.2.2.2.2.2.2.2.2.1, pw_cell_below hb hs.2.2.2.2.2.2.2.2.2.1, pw_cell_below hb hs.2.2.2.2.2.2.2.2.2.2.1, pw_cell_below hb hs.2.2.2.2.2.2.2.2.2.2.2.1, pw_cell_below hb hs.2.2.2.2.2.2.2.2.2.2.2.2⟩ (fun hs2 => ?_)⟩
      clear hK K hs hb
      have hs := hs2
      clear hs2
      refine qN ?_
      refine qP 8 134 ?_
      refine qP 9 143 ?_
      refine qP 10 144 ?_
      refine qP 11 145 ?_
      exact qJ (hJ ⟨.agg #[.int .i64 ip, .int .i64 b, .int .i64 gate, .string gm, .string wm, .int .i64 res, .slice P6 g.length p6, .slice P7 l.length p7], .agg #[.slice P0 us.length p0, .slice P1 ss.length p1, .slice P2 fs.length p2, .slice P3 rs.length p3, .int .i64 nx], gB, q, code, O0, O1, O2, O3, y0, y1, y2, y3, u13.heap.size, ids, J, cj⟩ _ ⟨HT.out, HZB.out, hgB, by dsimp only; omega, HO.out, HQL.out, HR.out, HJ.out, hjl⟩)
  rintro ⟨v1_, v2_, gh, qh, ch, Oh0, Oh1, Oh2, Oh3, ph0, ph1, ph2, ph3, bh, idsh, Jh_, cjh⟩ Wh0 ⟨hT, hz, hgg, hhh, ho, hql, hr, hj, hjl⟩
  dsimp only at hz hgg hhh ho hql hr hj hjl
  refine qNA ?_
  refine qBox (new := #[.slice Oh0 qh.us.length ph0, .slice Oh1 qh.ss.length ph1, .slice Oh2 qh.fs.length ph2, .slice Oh3 qh.rs.length ph3, .int .i64 qh.nx]) 13 hz rfl rfl rfl rfl rfl (by kernel_rfl) (by intro q hq; simp only [List.mem_cons, List.not_mem_nil, or_false] at hq; rcases hq with rfl | rfl | rfl | rfl | rfl <;> rfl) (fun Wh hbx hbs => ?_) (one_of TLMh_tab (by kernel_rfl)) rfl rfl (by decide) (by rfl)
  refine qP 14 24 ?_ (hc := any_of TLMh_tab (by kernel_rfl))
  refine qP 15 25 ?_ (hc := any_of TLMh_tab (by kernel_rfl))
  refine qD ?_ (hr := done_of TLMh_tab (by kernel_rfl))
  have hT2 := Below_I hT hbs (by omega)
  have n_ := Aside0.mk (Below_I HB.out (ivl0 hT2) (by omega))
  clear HB
  have HB := n_
  clear n_
  have n_ := Aside0.mk (blk_I HX.out (ivl0 hT2) (by omega))
  clear HX
  have HX := n_
  clear n_
  have n_ := Aside0.mk (blk_I HG.out (ivl0 hT2) (by omega))
  clear HG
  have HG := n_
  clear n_
  have n_ := Aside0.mk (blk_I Hw.out (ivl0 hT2) (by omega))
  clear Hw
  have Hw := n_
  clear n_
  have n_ := Aside0.mk (RR4.I Rw.out (ivl0 hT2) (by omega))
  clear Rw
  have Rw := n_
  clear n_
  have n_ := Aside0.mk (R_I Jw.out (ivl0 hT2) (by omega))
  clear Jw
  have Jw := n_
  clear n_
  have n_ := Aside0.mk (blk_I HI.out (ivl0 hT2) (by omega))
  clear HI
  have HI := n_
  clear n_
  have n_ := Aside0.mk (MarkedG.I MG.out hT2)
  clear MG
  have MG := n_
  clear n_
  have n_ := Aside0.mk (MarkedI.I MI.out hT2)
  clear MI
  have MI := n_
  clear n_
  have Hh := Aside0.mk hbx
  have Rh := Aside0.mk (RR4.box hr hz hbs)
  have Oh := Aside0.mk ho
  have Qh := Aside0.mk hql
  have hszh := hT2.size
  have hsz2h := hbs.size
  have Jh := Aside0.mk (R_box hj hz hbs (by decide))
  have hjlh := hjl
  clear hj hjl
  clear hT hz ho hql hr hbx hbs hT2 hs
  obtain ⟨e1, e2, e3⟩ := Ow.out.same Oh.out
  subst e1
  subst e2
  subst e3
  (try clear cxHX hzHX)
  (try clear cxHG hzHG)
  (try clear cxHw hzHw)
  (try clear cxHI hzHI)
  (try clear cxHh hzHh)
  have cxHX := blk_cell HX.out
  have hzHX := blk_lt HX.out
  have cxHG := blk_cell HG.out
  have hzHG := blk_lt HG.out
  have cxHw := blk_cell Hw.out
  have hzHw := blk_lt Hw.out
  have cxHI := blk_cell HI.out
  have hzHI := blk_lt HI.out
  have cxHh := blk_cell Hh.out
  have hzHh := blk_lt Hh.out
  go_wp2_with (first
    | (go_at_call 14; go_loud (refine (eqGuestsR qw Oh0 Oh1 Oh2 Oh3 Ow0 Ow1 Ow2 Ow3 ph0 ph1 ph2 ph3 pw0 pw1 pw2 pw3 _ Rh.out Rw.out Qw.out).mono ?_; rintro e wJ ⟨rfl, hb⟩; have n_ := Aside0.mk (Below_I HB.out (ivl0 hb) (by omega)); clear HB; have HB := n_; clear n_; have n_ := Aside0.mk (blk_I HX.out (ivl0 hb) (by omega)); clear HX; have HX := n_; clear n_; have n_ := Aside0.mk (blk_I HG.out (ivl0 hb) (by omega)); clear HG; have HG := n_; clear n_; have n_ := Aside0.mk (blk_I Hw.out (ivl0 hb) (by omega)); clear Hw; have Hw := n_; clear n_; have n_ := Aside0.mk (RR4.I Rw.out (ivl0 hb) (by omega)); clear Rw; have Rw := n_; clear n_; have n_ := Aside0.mk (R_I Jw.out (ivl0 hb) (by omega)); clear Jw; have Jw := n_; clear n_; have n_ := Aside0.mk (blk_I HI.out (ivl0 hb) (by omega)); clear HI; have HI := n_; clear n_; have n_ := Aside0.mk (MarkedG.I MG.out hb); clear MG; have MG := n_; clear n_; have n_ := Aside0.mk (MarkedI.I MI.out hb); clear MI; have MI := n_; clear n_; have n_ := Aside0.mk (blk_I Hh.out (ivl0 hb) (by omega)); clear Hh; have Hh := n_; clear n_; have n_ := Aside0.mk (RR4.I Rh.out (ivl0 hb) (by omega)); clear Rh; have Rh := n_; clear n_; have n_ := Aside0.mk (R_I Jh.out (ivl0 hb) (by omega)); clear Jh; have Jh := n_; clear n_; (try clear cxHX hzHX); (try clear cxHG hzHG); (try clear cxHw hzHw); (try clear cxHI hzHI); (try clear cxHh hzHh); have cxHX := blk_cell HX.out; have hzHX := blk_lt HX.out; have cxHG := blk_cell HG.out; have hzHG := blk_lt HG.out; have cxHw := blk_cell Hw.out; have hzHw := blk_lt Hw.out; have cxHI := blk_cell HI.out; have hzHI := blk_lt HI.out; have cxHh := blk_cell Hh.out; have hzHh := blk_lt Hh.out; clear hb))
    | (go_at_call 22; go_loud (refine (eqIntR idsw Jh_ Jw_ cjh cjw _ (R_toC Jh.out).2 (R_toC Jh.out).1 (R_toC Jw.out).2 (R_toC Jw.out).1 (by omega)).mono ?_; rintro e wJ2 ⟨rfl, hb⟩; have zwJ2 := hb.size; have n_ := Aside0.mk (Below_I HB.out (ivl0 hb) (by omega)); clear HB; have HB := n_; clear n_; have n_ := Aside0.mk (blk_I HX.out (ivl0 hb) (by omega)); clear HX; have HX := n_; clear n_; have n_ := Aside0.mk (blk_I HG.out (ivl0 hb) (by omega)); clear HG; have HG := n_; clear n_; have n_ := Aside0.mk (blk_I Hw.out (ivl0 hb) (by omega)); clear Hw; have Hw := n_; clear n_; have n_ := Aside0.mk (RR4.I Rw.out (ivl0 hb) (by omega)); clear Rw; have Rw := n_; clear n_; have n_ := Aside0.mk (R_I Jw.out (ivl0 hb) (by omega)); clear Jw; have Jw := n_; clear n_; have n_ := Aside0.mk (blk_I HI.out (ivl0 hb) (by omega)); clear HI; have HI := n_; clear n_; have n_ := Aside0.mk (MarkedG.I MG.out hb); clear MG; have MG := n_; clear n_; have n_ := Aside0.mk (MarkedI.I MI.out hb); clear MI; have MI := n_; clear n_; have n_ := Aside0.mk (blk_I Hh.out (ivl0 hb) (by omega)); clear Hh; have Hh := n_; clear n_; have n_ := Aside0.mk (RR4.I Rh.out (ivl0 hb) (by omega)); clear Rh; have Rh := n_; clear n_; have n_ := Aside0.mk (R_I Jh.out (ivl0 hb) (by omega)); clear Jh; have Jh := n_; clear n_; (try clear cxHX hzHX); (try clear cxHG hzHG); (try clear cxHw hzHw); (try clear cxHI hzHI); (try clear cxHh hzHh); have cxHX := blk_cell HX.out; have hzHX := blk_lt HX.out; have cxHG := blk_cell HG.out; have hzHG := blk_lt HG.out; have cxHw := blk_cell Hw.out; have hzHw := blk_lt Hw.out; have cxHI := blk_cell HI.out; have hzHI := blk_lt HI.out; have cxHh := blk_cell Hh.out; have hzHh := blk_lt Hh.out; clear hb))
    | (go_at_call 19; go_loud (refine (heldGM _ _ _ _ Oi0 Oi1 Oi2 Oi3 pi0 pi1 pi2 pi3 qw.nx m _ MG.out Qw.out.1 Qw.out.2.1 Qw.out.2.2.1 Qw.out.2.2.2).mono ?_; rintro e wK0 ⟨rfl, hb⟩; have n_ := Aside0.mk (Below_I HB.out (ivl0 hb) (by omega)); clear HB; have HB := n_; clear n_; have n_ := Aside0.mk (blk_I HX.out (ivl0 hb) (by omega)); clear HX; have HX := n_; clear n_; have n_ := Aside0.mk (blk_I HG.out (ivl0 hb) (by omega)); clear HG; have HG := n_; clear n_; have n_ := Aside0.mk (blk_I Hw.out (ivl0 hb) (by omega)); clear Hw; have Hw := n_; clear n_; have n_ := Aside0.mk (RR4.I Rw.out (ivl0 hb) (by omega)); clear Rw; have Rw := n_; clear n_; have n_ := Aside0.mk (R_I Jw.out (ivl0 hb) (by omega)); clear Jw; have Jw := n_; clear n_; have n_ := Aside0.mk (blk_I HI.out (ivl0 hb) (by omega)); clear HI; have HI := n_; clear n_; have n_ := Aside0.mk (MarkedG.I MG.out hb); clear MG; have MG := n_; clear n_; have n_ := Aside0.mk (MarkedI.I MI.out hb); clear MI; have MI := n_; clear n_; have n_ := Aside0.mk (blk_I Hh.out (ivl0 hb) (by omega)); clear Hh; have Hh := n_; clear n_; have n_ := Aside0.mk (RR4.I Rh.out (ivl0 hb) (by omega)); clear Rh; have Rh := n_; clear n_; have n_ := Aside0.mk (R_I Jh.out (ivl0 hb) (by omega)); clear Jh; have Jh := n_; clear n_; (try clear cxHX hzHX); (try clear cxHG hzHG); (try clear cxHw hzHw); (try clear cxHI hzHI); (try clear cxHh hzHh); have cxHX := blk_cell HX.out; have hzHX := blk_lt HX.out; have cxHG := blk_cell HG.out; have hzHG := blk_lt HG.out; have cxHw := blk_cell Hw.out; have hzHw := blk_lt Hw.out; have cxHI := blk_cell HI.out; have hzHI := blk_lt HI.out; have cxHh := blk_cell Hh.out; have hzHh := blk_lt Hh.out; clear hb))
    | (go_at_call 24; go_loud (refine (heldIM idsw.length Ji_ cji m m2 _ MI.out hjlw hm1.1 hm1.2).mono ?_; rintro e wK ⟨rfl, hb⟩; have n_ := Aside0.mk (Below_I HB.out (ivl0 hb) (by omega)); clear HB; have HB := n_; clear n_ hb)))
  go_ret
  exact ⟨rfl, HB.out⟩
end
end Go.Proofs.YtkklokkldgkacaaGreat.X
