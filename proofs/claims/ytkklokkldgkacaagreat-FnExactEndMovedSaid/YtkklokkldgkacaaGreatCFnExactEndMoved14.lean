/- Texts that the row of FnExactEndMoved stands on: functions of the program and of the reference, each as a Lean function with the same answers, and the plain lemmas. Conditions: none beside those that each theorem names. -/
import Derived.Test.YtkklokkldgkacaaGreatCFnExactEndMoved13
namespace Go.Proofs.YtkklokkldgkacaaGreat.X
open Go.RowKit Go.Proofs.YtkklokkldgkacaaGreatW.PrintWords Go.Proofs.YtkklokkldgkacaaGreatW.PrintLast Go.Proofs.YtkklokkldgkacaaGreatW.PrintMore
attribute [local go_sem] max2_int min2_int max_two min_two max_three min_three max_four min_four   -- for this text's walks alone
set_option linter.unusedVariables false
set_option linter.unusedSimpArgs false
section
-- NEEDS laws.eqConfig
section
variable {P : Program} {ops : Array Oper} {Q : Exit → Act → World → Prop} {md : Region.Mode} {S : World → Prop} {ds : List Nat}
theorem qTwo (i j n m : Nat) {oi oj : Oper} {fuel : Nat} {l : Array Bool} {a : Act} {w : World}
    (h1 : ∀ K : Act → World → Prop, Shut (∀ a' w', S w' → (S w' → wpAnyLast P md ops Q S ds fuel (l.setIfInBounds i true) a' w') → K a' w') → if Region.wanted oi (yielded ops a.tmps) = true then Oper.wp P oi a w K Q else K (a.put (some n) undef) w)
    (h2 : ∀ K : Act → World → Prop, Shut (∀ a' w', S w' → (S w' → wpAnyLast P md ops Q S ds fuel (l.setIfInBounds j true) a' w') → K a' w') → if Region.wanted oj (yielded ops a.tmps) = true then Oper.wp P oj a w K Q else K (a.put (some m) undef) w)
    (hc : (Region.ready md ops l == [i, j] && l.setIfInBounds i true == l.setIfInBounds i true && l.setIfInBounds j true == l.setIfInBounds j true) = true := by kernel_rfl) (hi : ops[i]? = some oi := by rfl) (hj : ops[j]? = some oj := by rfl) (hN : oi.dst = some n := by rfl) (hM : oj.dst = some m := by rfl) (hdi : i ∉ ds := by decide) (hdj : j ∉ ds := by decide) : wpAnyLast P md ops Q S ds (fuel + 1) l a w := two_ _ _ hi hj hN hM hc hdi hdj h1 h2
theorem qSkip (i : Nat) {oi : Oper} {fuel : Nat} {l : Array Bool} {a : Act} {w w1 : World}
    (hrun : (execOp a.eval oi).run P w = .ok .skip w1) (h : wpAnyLast P md ops Q S ds fuel (l.setIfInBounds i true) a w1)
    (hc : readyB md ops l (l.setIfInBounds i true) i = true := by kernel_rfl) (hi : ops[i]? = some oi := by rfl) (hN : oi.dst = none := by rfl) (hd : i ∈ ds := by decide) (hw : Region.wanted oi (yielded ops a.tmps) = true := by rfl) : wpAnyLast P md ops Q S ds (fuel + 1) l a w :=
  last_ _ hi hN hc hd (fun _ hK => skip_ hw hN hrun (hK.out _ _ h))
theorem qSd {id : Nat} {a : Act} {w : World} (S : World → Prop) (n : Nat) (ds : List Nat) (hS : S w.drew) (h : S w.drew → wpAnyLast P .any ops Q S ds n (Array.replicate n false) a w.drew) (hm : P.follows .mixedOrders = true := by kernel_rfl) (hn : ops.size = n := by rfl) : (Code.region id ops true).wp P Q a w := start_ _ hm hn rfl hS h
end
theorem lit_at {P : Program} {ops : Array Oper} {Q : Exit → Act → World → Prop} {o : Oper} {a : Act} {Kc : Act → World → Prop} {α : Type} (d : Kd α) {w0 W : World} (base e : Nat) (hw : Region.wanted o (yielded ops a.tmps) = true) {N : Tmp} (hd : o.dst = some N) {xs : List α} {inner : List Value}
    (hrun : (execOp a.eval o).run P W = .ok (.value (.slice (some ⟨W.heap.size, 0, none⟩) xs.length xs.length)) (W.alloc (.cells inner.toArray e)))
    (hrep : Reps (d.M W base (fun _ => False)) d.sz xs inner) (HB : Below base w0 W) (hbase : base ≤ W.heap.size) (hm : xs.length ≤ 9223372036854775807)
    (h : ∀ v1 w1 (N1 : Nat), d.R e w1 base (fun k => N1 ≤ k) v1 xs → Below base w0 w1 → W.grownBy w1 none ∧ N1 = W.heap.size → Kc (a.put o.dst v1) w1) : if Region.wanted o (yielded ops a.tmps) = true then Oper.wp P o a W Kc Q else Kc (a.put o.dst undef) W :=
  Kd.R_lit_step d base e hw hd hrun hrep (ok := fun k => W.heap.size ≤ k) (fun _ h => h.elim) (Nat.le_refl _) HB hbase hm (fun v1 w1 h1 h2 h3 _ => h v1 w1 W.heap.size h1 h2 ⟨h3, rfl⟩)
theorem R_lit_old {α : Type} {d : Kd α} {e : Nat} {w w1 : World} {base N1 : Nat} {ok : Nat → Prop} {v : Value} {xs : List α} (h : d.R e w base ok v xs) (hg : w.grownBy w1 none ∧ N1 = w.heap.size) : d.R e w1 base (fun k => k < N1) v xs := by
  rw [hg.2]
  exact Kd.R_mono (Kd.R_grown (Kd.R_bound h) hg.1 (fun k _ he => by cases he)) (fun k hk => hk.2.2.1)
theorem R_far1 {α : Type} {d : Kd α} {e : Nat} {w : World} {base g : Nat} {v : Value} {xs : List α} (h : d.R e w base (fun _ => True) v xs) (hg : g < base) (p : Nat) (u : Value) : d.R e (w.setCell ⟨g, p, none⟩ u) base (fun _ => True) v xs :=
  R_out h (fun k hk => Below.heap_setCell w ⟨g, p, none⟩ u k (by dsimp only; omega))
theorem R_app_old {α β : Type} {d : Kd α} {d' : Kd β} {e e' : Nat} {w w1 : World} {base base' : Nat} {ok ok' : Nat → Prop} {v v' : Value} {xs : List α} {ys : List β} (h : d.R e w base ok v xs) (h' : d'.R e' w base' ok' v' ys) (hg : w.grownBy w1 v'.ownBlock) (hne : ∀ k, ok k → ok' k → False) : d.R e w1 base ok v xs :=
  Kd.R_grown h hg (fun k hk he => hne k hk (h'.1 k he.symm))
theorem R_app_lo {α β : Type} {d : Kd α} {d' : Kd β} {e e' N : Nat} {w w1 : World} {base base' : Nat} {v v' : Value} {xs : List α} {ys : List β} (h : d.R e w base (fun k => k < N) v xs) (h' : d'.R e' w base' (fun k => N ≤ k) v' ys) (hg : w.grownBy w1 v'.ownBlock) : d.R e w1 base (fun k => k < N) v xs :=
  R_app_old h h' hg (fun _ h1 h2 => Nat.lt_irrefl _ (Nat.lt_of_lt_of_le h1 h2))
theorem R_app_hi {α β : Type} {d : Kd α} {d' : Kd β} {e e' N : Nat} {w w1 : World} {base base' : Nat} {v v' : Value} {xs : List α} {ys : List β} (h : d.R e w base (fun k => N ≤ k) v xs) (h' : d'.R e' w base' (fun k => k < N) v' ys) (hg : w.grownBy w1 v'.ownBlock) : d.R e w1 base (fun k => N ≤ k) v xs :=
  R_app_old h h' hg (fun _ h1 h2 => Nat.lt_irrefl _ (Nat.lt_of_lt_of_le h2 h1))
theorem C_takeN {α : Type} {d : Kd α} {w : World} {A : Option Addr} {xs : List α} (h : d.C w A xs.length xs) (m : Nat) (hm : m ≤ xs.length) : d.C w A m (xs.take m) := by
  have q := Kd.C_take (m := m) h hm
  rwa [show (xs.take m).length = m from by rw [List.length_take]; omega] at q
theorem C_dropN {α : Type} {d : Kd α} {w : World} {A : Option Addr} {xs : List α} {c : Nat} (h : d.C w A xs.length xs) (m : Nat) (hm : m ≤ xs.length) (hc : xs.length ≤ c) : d.C w (if c = m then A else A.map (·.add (m * d.sz))) (xs.length - m) (xs.drop m) := by
  have q := Kd.C_drop (m := m) h hm hc
  rwa [show (xs.drop m).length = xs.length - m from List.length_drop] at q
def endRec (s : S76) (now cause : Int) : S83 := ⟨s.f0, now, cause, s.f6, true⟩
def endRS (rs : List S83) (s : S76) (now cause : Int) : List S83 := if rs.length < 60 then rs ++ [endRec s now cause] else rs
def TE2 : Bool × List (List Nat × List Nat) := (true, [([], []), ([], []), ([1], [1]), ([], []), ([2, 3], [2, 3]), ([0, 4], [0, 4]), ([], []), ([6], [6]), ([], []), ([8], [8]), ([7, 9], [7, 9]), ([5, 10, 5], [5, 10]), ([0, 1, 2, 3, 4, 5, 6, 7, 8, 9, 10, 11], []), ([12, 11, 11, 0, 1, 2, 3, 4, 5, 6, 7, 8, 9, 10, 11], [11, 12])])
theorem TE2_tab : rtab .any (opsOf Tryz.f66 2) = TE2 := by kernel_rfl
def TE4 : Bool × List (List Nat × List Nat) := (true, [([], []), ([], []), ([1], [1]), ([0, 2], [0, 2]), ([], []), ([4], [4]), ([], []), ([], []), ([], []), ([8], [8]), ([5, 6, 7, 9], [5, 6, 7, 9]), ([10], [10]), ([3, 11, 3], [3, 11]), ([0, 1, 2, 3, 4, 5, 6, 7, 8, 9, 10, 11, 12], []), ([13, 12, 12, 0, 1, 2, 3, 4, 5, 6, 7, 8, 9, 10, 11, 12], [12, 13])])
theorem TE4_tab : rtab .any (opsOf Tryz.f66 4) = TE4 := by kernel_rfl
theorem blk_new2 (w : World) (a b o : Obj) : (((w.alloc a).alloc b).alloc o).heap[w.heap.size + 2]? = some o := by
  have h := blk_new ((w.alloc a).alloc b) o
  rw [show ((w.alloc a).alloc b).heap.size = w.heap.size + 2 from by rw [show ((w.alloc a).alloc b).heap.size = (w.alloc a).heap.size + 1 from Array.size_push .., show (w.alloc a).heap.size = w.heap.size + 1 from Array.size_push ..]] at h
  exact h
theorem reps_rec (w : World) (base : Nat) (ok : Nat → Prop) (x : S83) : Reps (k83.M w base ok) k83.sz [x] [.int .i64 x.f0, .int .i64 x.f1, .int .i64 x.f2, .int .i64 x.f3, .bool x.f4] := by
  refine ⟨rfl, fun i y hy => ?_⟩
  match i with
  | 0 => cases hy; exact k83_mkM _ _ _ _
  | i + 1 => cases hy
set_option maxHeartbeats 8000000 in
set_option maxRecDepth 100000 in
theorem sEnd2 (B0 B1 B2 B3 : Option Addr) (n0 n2 d0 d1 d2 d3 : Nat) (ss : List S76) (rs : List S83) (nx k now cause : Int) (w : World) (h1 : Kd.C k76 w B1 ss.length ss) (m1 : ss.length ≤ d1) (h3 : Kd.C k83 w B3 rs.length rs) (m3 : rs.length ≤ d3) (k0 : 0 ≤ k) (k1 : k < ss.length) (z1 : ss.length ≤ 1048576) (z3 : rs.length ≤ 1048576) :
    Calls Tryz.prog 66 #[.agg #[.slice B0 n0 d0, .slice B1 ss.length d1, .slice B2 n2 d2, .slice B3 rs.length d3, .int .i64 nx], .int .i64 k, .int .i64 now, .int .i64 cause] w fun e w' => ∃ X1 x1 X3 x3, e = .returned (.agg #[.slice B0 n0 d0, .slice X1 (ss.eraseIdx k.toNat).length x1, .slice B2 n2 d2, .slice X3 (endRS rs (rd_T76 ss k) now cause).length x3, .int .i64 nx]) ∧ Kd.R k76 76 w' w.heap.size (fun _ => True) (.slice X1 (ss.eraseIdx k.toNat).length x1) (ss.eraseIdx k.toNat) ∧ ((X3 = B3 ∧ x3 = d3 ∧ endRS rs (rd_T76 ss k) now cause = rs) ∨ Kd.R k83 83 w' w.heap.size (fun _ => True) (.slice X3 (endRS rs (rd_T76 ss k) now cause).length x3) (endRS rs (rd_T76 ss k) now cause)) ∧ Below w.heap.size w w' := by
  have hu := Tryz.underlying48
  have hu2 := Tryz.underlying76
  have hu3 := Tryz.underlying83
  have H1 := Aside0.mk h1
  have H3 := Aside0.mk h3
  clear h1 h3
  have HB := Aside0.mk (Below.refl w.heap.size w)
  obtain ⟨ad, eA, _⟩ := at_T76 H1.out k k0 k1
  subst eA
  obtain ⟨ad2, e2, hrow⟩ := at_T76 (Kd.C_alloc (Kd.C_alloc H1.out (.cells #[.slice B0 n0 d0, .slice (some ad) ss.length d1, .slice B2 n2 d2, .slice B3 rs.length d3, .int .i64 nx] 48 (0, 0))) (.cells #[.slice none 0 0, .slice none 0 0, .slice none 0 0, .slice none 0 0, .int .i64 0] 48 (0, 0))) k k0 k1
  obtain rfl := Option.some.inj e2
  clear e2
  go_enter Tryz.func66, Tryz.ntmps66
  go_wp2
  generalize hW : ((w.alloc (.cells #[.slice B0 n0 d0, .slice (some ad) ss.length d1, .slice B2 n2 d2, .slice B3 rs.length d3, .int .i64 nx] 48 (0, 0))).alloc (.cells #[.slice none 0 0, .slice none 0 0, .slice none 0 0, .slice none 0 0, .int .i64 0] 48 (0, 0))).alloc (.cells #[.int .i64 (rd_T76 ss k).f0, .int .i64 (rd_T76 ss k).f1, .string (rd_T76 ss k).f2, .int .i64 (rd_T76 ss k).f3, .int .i64 (rd_T76 ss k).f4, .int .i64 (rd_T76 ss k).f5, .int .i64 (rd_T76 ss k).f6, .int .i64 (rd_T76 ss k).f7, .int .i64 (rd_T76 ss k).f8, .int .i64 (rd_T76 ss k).f9] 76 (0, 0)) = W0 at *
  have HX := Aside0.mk (show W0.heap[w.heap.size]? = some (.cells #[.slice B0 n0 d0, .slice (some ad) ss.length d1, .slice B2 n2 d2, .slice B3 rs.length d3, .int .i64 nx] 48 (0, 0)) by rw [← hW]; exact blk_alloc (blk_alloc (blk_new _ _) _) _)
  have HR := Aside0.mk (show W0.heap[w.heap.size + 1]? = some (.cells #[.slice none 0 0, .slice none 0 0, .slice none 0 0, .slice none 0 0, .int .i64 0] 48 (0, 0)) by rw [← hW]; exact blk_alloc (blk_new1 _ _ _) _)
  have HU := Aside0.mk (show W0.heap[w.heap.size + 1 + 1]? = some (.cells #[.int .i64 (rd_T76 ss k).f0, .int .i64 (rd_T76 ss k).f1, .string (rd_T76 ss k).f2, .int .i64 (rd_T76 ss k).f3, .int .i64 (rd_T76 ss k).f4, .int .i64 (rd_T76 ss k).f5, .int .i64 (rd_T76 ss k).f6, .int .i64 (rd_T76 ss k).f7, .int .i64 (rd_T76 ss k).f8, .int .i64 (rd_T76 ss k).f9] 76 (0, 0)) by rw [← hW]; exact blk_new2 _ _ _ _)
  have HBn := Aside0.mk (show Below w.heap.size w W0 by rw [← hW]; exact below_alloc (below_alloc (below_alloc HB.out _) _) _)
  clear HB
  have HB := HBn
  clear HBn hW hrow
  have HC := Aside0.mk (Kd.C_below H1.out HB.out)
  have hk2 : k.toNat ≤ ss.length := by omega
  have hkd : k ≤ (d1 : Int) := by omega
  obtain ⟨j, hj⟩ : ∃ j : Int, j = k + 1 := ⟨_, rfl⟩
  have hwj : IntKind.i64.wrap (k + 1) = j := by rw [hj]; exact i64id (by omega) (by omega)
  have hj0 : 0 ≤ j := by omega
  have hj1 : j ≤ (ss.length : Int) := by omega
  obtain ⟨i0, hi0, _, hsz, _⟩ := info_parts info76
  have hcut := cut_to (P := Tryz.prog) 44 76 .i64 Tryz.underlying44 hi0 (some ad) ss.length d1 k k0 (by omega) m1
  have hcut2 := cut_from (P := Tryz.prog) 44 76 .i64 Tryz.underlying44 hi0 10 hsz (some ad) ss.length d1 j hj0 hj1
  obtain ⟨A31, hA31⟩ : ∃ A1, A1 = (if d1 = j.toNat then (some ad) else ((some ad) : Option Addr).map (·.add (j.toNat * 10))) := ⟨_, rfl⟩
  rw [← hA31] at hcut2
  have HT1 := Aside0.mk (C_takeN HC.out k.toNat hk2)
  have HT2 := Aside0.mk (show Kd.C k76 W0 A31 (ss.length - j.toNat) (ss.drop j.toNat) by rw [hA31]; exact C_dropN HC.out j.toNat (by omega) m1)
  have eE : ([] ++ ss.take k.toNat) ++ ss.drop j.toNat = ss.eraseIdx k.toNat := by rw [List.nil_append, List.eraseIdx_eq_take_drop_succ, show j.toNat = k.toNat + 1 by omega]
  have HQ := Aside0.mk (And.intro eE (show j.toNat = k.toNat + 1 by omega))
  clear eE HC hA31 hj
  refine qSd (fun w' => w'.cell? ⟨w.heap.size, 1, none⟩ = some (.slice (some ad) ss.length d1)) 14 [13] (blk_cell HX.out 1) (fun hs => ?_)
  have n_ := Aside0.mk (below_drew1 HB.out)
  clear HB
  have HB := n_
  clear n_
  have n_ := Aside0.mk (blk_drew HX.out)
  clear HX
  have HX := n_
  clear n_
  have n_ := Aside0.mk (blk_drew HR.out)
  clear HR
  have HR := n_
  clear n_
  have n_ := Aside0.mk (blk_drew HU.out)
  clear HU
  have HU := n_
  clear n_
  have n_ := Aside0.mk (Kd.C_drew HT1.out)
  clear HT1
  have HT1 := n_
  clear n_
  have n_ := Aside0.mk (Kd.C_drew HT2.out)
  clear HT2
  have HT2 := n_
  clear n_
  generalize (World.drew _) = Wd at hs HB HX HR HU HT1 HT2 ⊢
  have HS0 := Aside0.mk hs
  have HBr := Aside0.mk (Below.refl Wd.heap.size Wd)
  refine qP 1 16 ?_
  refine qP 3 18 ?_
  refine qP 6 21 ?_
  refine qP 8 23 ?_
  refine qP 9 24 ?_
  refine qT 2 17 hs ?_
  refine qP 4 19 ?_
  refine qT 7 22 hs ?_
  refine qP 10 25 ?_
  refine q1 0 15 (fun K hK => ?_)
  refine lit_at k76 (w0 := Wd) Wd.heap.size 76 (by rfl) (N := 15) (by rfl) (xs := ([] : List S76)) (inner := []) ?hr ?hp HBr.out HBr.out.size (by simp) ?_
  case hr => first | (go_simp; done) | (go_simp; rfl)
  case hp => exact Reps.none _ _
  intro v0 w0 N0 ho hb hg
  obtain ⟨A0, c0, e0⟩ := Kd.R_slice ho
  subst e0
  have HO0 := Aside0.mk ho
  clear HBr
  have HBr := Aside0.mk hb
  refine hK.out _ _ (pw_cell_below HBr.out HS0.out) (fun hs2 => ?_)
  clear hK K hs ho hb hg
  have hs := hs2
  clear hs2
  refine qN ?_
  refine q1 5 20 (fun K hK => ?_)
  refine Kd.R_append_rows_step k76 (w0 := Wd) Wd.heap.size (by rfl) (.tmp 15) (.tmp 19) 44 76 (.agg #[(.int .i64 0), (.int .i64 0), (.string ⟨#[]⟩), (.int .i64 0), (.int .i64 0), (.int .i64 0), (.int .i64 0), (.int .i64 0), (.int .i64 0), (.int .i64 0)]) 88 rfl Tryz.underlying44 info76 rfl (by decide) (by omega) _ ([] : List S76) (ss.take k.toNat) _ _ _ (fun _ => True) (fun _ => False) rfl rfl (Kd.R_mono HO0.out (fun _ _ => trivial)) (Kd.C_below HT1.out HBr.out) (fun _ _ h => h) (fun _ h => h.elim) (fun _ _ => trivial) HBr.out HBr.out.size ?aL ?_
  case aL => simp only [List.length_append, List.length_take, List.length_drop, List.length_nil, List.length_cons, List.length_singleton]; omega
  intro v5 w5 ho hb hg hat
  clear HO0
  obtain ⟨A5, c5, e5⟩ := Kd.R_slice ho
  subst e5
  have HO5 := Aside0.mk ho
  clear HBr
  have HBr := Aside0.mk hb
  refine hK.out _ _ (pw_cell_below HBr.out HS0.out) (fun hs2 => ?_)
  clear hK K hs ho hb hg hat
  have hs := hs2
  clear hs2
  refine qN ?_
  refine q1 11 26 (fun K hK => ?_)
  refine Kd.R_append_rows_step k76 (w0 := Wd) Wd.heap.size (by rfl) (.tmp 20) (.tmp 25) 44 76 (.agg #[(.int .i64 0), (.int .i64 0), (.string ⟨#[]⟩), (.int .i64 0), (.int .i64 0), (.int .i64 0), (.int .i64 0), (.int .i64 0), (.int .i64 0), (.int .i64 0)]) 88 rfl Tryz.underlying44 info76 rfl (by decide) (by omega) _ ([] ++ ss.take k.toNat) (ss.drop j.toNat) _ _ _ (fun _ => True) (fun _ => False) rfl rfl (Kd.R_mono HO5.out (fun _ _ => trivial)) (Kd.C_below HT2.out HBr.out) (fun _ _ h => h) (fun _ h => h.elim) (fun _ _ => trivial) HBr.out HBr.out.size ?aL ?_
  case aL => simp only [List.length_append, List.length_take, List.length_drop, List.length_nil, List.length_cons, List.length_singleton]; omega
  intro v11 w11 ho hb hg hat
  rw [HQ.out.1] at ho
  clear HO5
  obtain ⟨A11, c11, e11⟩ := Kd.R_slice ho
  subst e11
  have HO11 := Aside0.mk ho
  clear HBr
  have HBr := Aside0.mk hb
  refine hK.out _ _ (pw_cell_below HBr.out HS0.out) (fun hs2 => ?_)
  clear hK K hs ho hb hg hat
  have hs := hs2
  clear hs2
  refine qN ?_
  refine qP 12 27 ?_
  have hfz := blk_frozen (blk_below HX.out HBr.out) 1
  refine qSkip (w1 := ?_) 13 ?_ ?_ (hc := one_of TE2_tab (by kernel_rfl))
  rotate_left
  · go_simp
    rfl
  clear hs hfz hcut hcut2 hi0 hsz
  refine qD ?_
  have hbs := blk_lt HU.out
  have HB2 := Aside0.mk (show Below w.heap.size w (World.setCell _ ⟨w.heap.size, 1, none⟩ (.slice A11 (ss.eraseIdx k.toNat).length c11)) from below_set (below_step HB.out HBr.out) (by omega))
  have HX2 := Aside0.mk (blk_put (blk_below HX.out HBr.out) 1 (.slice A11 (ss.eraseIdx k.toNat).length c11) (cs' := #[.slice B0 n0 d0, .slice A11 (ss.eraseIdx k.toNat).length c11, .slice B2 n2 d2, .slice B3 rs.length d3, .int .i64 nx]) rfl)
  have HR2 := Aside0.mk (blk_far (blk_below HR.out HBr.out) (p := ⟨w.heap.size, 1, none⟩) (by dsimp only; omega) (.slice A11 (ss.eraseIdx k.toNat).length c11))
  have HU2 := Aside0.mk (blk_far (blk_below HU.out HBr.out) (p := ⟨w.heap.size, 1, none⟩) (by dsimp only; omega) (.slice A11 (ss.eraseIdx k.toNat).length c11))
  have HS2 := Aside0.mk (Kd.R_lower (R_far1 HO11.out (g := w.heap.size) (by omega) 1 (.slice A11 (ss.eraseIdx k.toNat).length c11)) (show w.heap.size + 3 ≤ Wd.heap.size by omega))
  clear HB HX HR HU HBr HO11 HS0 HT1 HT2 hbs
  generalize (World.setCell _ ⟨w.heap.size, 1, none⟩ _) = W2 at HB2 HX2 HR2 HU2 HS2 ⊢
  rcases dec_em ((rs.length : Int) < 60) with ⟨k6, b6⟩ | ⟨k6, b6⟩
  rotate_left
  · have eR : endRS rs (rd_T76 ss k) now cause = rs := by rw [endRS, if_neg (by omega)]
    have ER_ := Aside0.mk eR
    clear eR
    have cx := blk_cell HX2.out
    have fx := blk_frozen HX2.out
    have cr := blk_cell HR2.out
    have fr := blk_frozen HR2.out
    have hzr := blk_lt HR2.out
    go_wp2
    refine bodyPost_ret (v := .agg #[.slice B0 n0 d0, .slice A11 (ss.eraseIdx k.toNat).length c11, .slice B2 n2 d2, .slice B3 rs.length d3, .int .i64 nx]) ?_ rfl ⟨A11, c11, B3, d3, by first | (rw [ER_.out]; done) | (rw [ER_.out]; simp; done), ?_, ?_, ?_⟩
    · refine results_cell_row rfl _ _ (w.heap.size + 1) 48 #[.slice B0 n0 d0, .slice A11 (ss.eraseIdx k.toNat).length c11, .slice B2 n2 d2, .slice B3 rs.length d3, .int .i64 nx] (0, 0) _ rfl ?_ hu rfl (by kernel_rfl)
      exact res5 HR2.out
    · exact Kd.R_lower (R_out HS2.out (fun k hk => by
        repeat (with_reducible refine (Below.heap_setCell _ _ _ _ (by dsimp only; omega)).trans ?_)
        rfl)) (by omega)
    · rw [ER_.out]
      exact .inl ⟨rfl, rfl, rfl⟩
    · repeat' (with_reducible first | exact HB2.out | refine below_set ?_ (by omega))
  · have eR : endRS rs (rd_T76 ss k) now cause = rs ++ [endRec (rd_T76 ss k) now cause] := by rw [endRS, if_pos (by omega)]
    have ER_ := Aside0.mk eR
    clear eR
    have HC3 := Aside0.mk (Kd.C_below H3.out HB2.out)
    have cx := blk_cell HX2.out
    have hzx := blk_lt HX2.out
    go_wp2
    clear cx hzx
    refine qSd (fun w' => w'.cell? ⟨w.heap.size, 3, none⟩ = some (.slice B3 rs.length d3) ∧ w'.cell? ⟨w.heap.size + 1 + 1, 0, none⟩ = some (.int .i64 (rd_T76 ss k).f0) ∧ w'.cell? ⟨w.heap.size + 1 + 1, 6, none⟩ = some (.int .i64 (rd_T76 ss k).f6)) 15 [14] ⟨blk_cell HX2.out 3, blk_cell HU2.out 0, blk_cell HU2.out 6⟩ (fun hs => ?_)
    have n_ := Aside0.mk (below_drew1 HB2.out)
    clear HB2
    have HB2 := n_
    clear n_
    have n_ := Aside0.mk (blk_drew HX2.out)
    clear HX2
    have HX2 := n_
    clear n_
    have n_ := Aside0.mk (blk_drew HR2.out)
    clear HR2
    have HR2 := n_
    clear n_
    have n_ := Aside0.mk (blk_drew HU2.out)
    clear HU2
    have HU2 := n_
    clear n_
    have n_ := Aside0.mk (Kd.R_drew HS2.out)
    clear HS2
    have HS2 := n_
    clear n_
    have n_ := Aside0.mk (Kd.C_drew HC3.out)
    clear HC3
    have HC3 := n_
    clear n_
    generalize (World.drew _) = Wd at hs HB2 HX2 HR2 HU2 HS2 HC3 ⊢
    have HS0 := Aside0.mk hs
    have HBr := Aside0.mk (Below.refl Wd.heap.size Wd)
    refine qP 1 33 ?_
    refine qP 4 36 ?_
    refine qP 6 38 ?_
    refine qP 7 39 ?_
    refine qP 8 40 ?_
    refine qT 2 34 hs ?_
    refine qT 5 37 hs ?_
    refine qT 9 41 hs ?_
    refine qP 10 42 ?_
    refine qTwo 0 11 32 43 (fun K hK => ?_) (fun K hK => ?_)
    · refine lit_at k83 (w0 := Wd) Wd.heap.size 83 (by rfl) (N := 32) (by rfl) (xs := ([] : List S83)) (inner := []) ?hr ?hp HBr.out HBr.out.size (by simp) ?_
      case hr => first | (go_simp; done) | (go_simp; rfl)
      case hp => exact Reps.none _ _
      intro v0 w0 N0 ho hb hg
      obtain ⟨RA0, Rc0, e0⟩ := Kd.R_slice ho
      subst e0
      have HO0 := Aside0.mk ho
      clear HBr
      have HBr := Aside0.mk hb
      refine hK.out _ _ ⟨pw_cell_below HBr.out HS0.out.1, pw_cell_below HBr.out HS0.out.2.1, pw_cell_below HBr.out HS0.out.2.2⟩ (fun hs2 => ?_)
      clear hK K hs ho hb hg
      have hs := hs2
      clear hs2
      refine qN ?_
      refine qTwo 3 11 35 43 (fun K hK => ?_) (fun K hK => ?_)
      · refine Kd.R_append_rows_step k83 (w0 := Wd) Wd.heap.size (by rfl) (.tmp 32) (.tmp 34) 46 83 (.agg #[(.int .i64 0), (.int .i64 0), (.int .i64 0), (.int .i64 0), (.bool false)]) 40 rfl Tryz.underlying46 info83 rfl (by decide) (by omega) _ ([] : List S83) rs _ _ _ (fun _ => True) (fun _ => False) rfl rfl (Kd.R_mono HO0.out (fun _ _ => trivial)) (Kd.C_below HC3.out HBr.out) (fun _ _ h => h) (fun _ h => h.elim) (fun _ _ => trivial) HBr.out HBr.out.size ?aL ?_
        case aL => simp only [List.length_append, List.length_take, List.length_drop, List.length_nil, List.length_cons, List.length_singleton]; omega
        intro v3 w3 ho hb hg hat
        clear HO0
        obtain ⟨RA3, Rc3, e3⟩ := Kd.R_slice ho
        subst e3
        have HO3 := Aside0.mk ho
        clear HBr
        have HBr := Aside0.mk hb
        refine hK.out _ _ ⟨pw_cell_below HBr.out HS0.out.1, pw_cell_below HBr.out HS0.out.2.1, pw_cell_below HBr.out HS0.out.2.2⟩ (fun hs2 => ?_)
        clear hK K hs ho hb hg hat
        have hs := hs2
        clear hs2
        refine qN ?_
        refine q1 11 43 (fun K hK => ?_)
        refine lit_at k83 (w0 := Wd) Wd.heap.size 83 (by rfl) (N := 43) (by rfl) (xs := [endRec (rd_T76 ss k) now cause]) (inner := [.int .i64 (rd_T76 ss k).f0, .int .i64 now, .int .i64 cause, .int .i64 (rd_T76 ss k).f6, .bool true]) ?hr ?hp HBr.out HBr.out.size (by simp) ?_
        case hr => first | (go_simp; done) | (go_simp; rfl)
        case hp => exact reps_rec _ _ _ _
        intro v11 w11 N11 ho hb hg
        have n_ := Aside0.mk (R_lit_old HO3.out hg)
        clear HO3
        have HO3 := n_
        clear n_
        obtain ⟨RA11, Rc11, e11⟩ := Kd.R_slice ho
        subst e11
        have HO11 := Aside0.mk ho
        clear HBr
        have HBr := Aside0.mk hb
        refine hK.out _ _ ⟨pw_cell_below HBr.out HS0.out.1, pw_cell_below HBr.out HS0.out.2.1, pw_cell_below HBr.out HS0.out.2.2⟩ (fun hs2 => ?_)
        clear hK K hs ho hb hg
        have hs := hs2
        clear hs2
        refine qN ?_
        refine q1 12 44 (fun K hK => ?_)
        refine Kd.R_append_rows_step k83 (w0 := Wd) Wd.heap.size (by rfl) (.tmp 35) (.tmp 43) 46 83 (.agg #[(.int .i64 0), (.int .i64 0), (.int .i64 0), (.int .i64 0), (.bool false)]) 40 rfl Tryz.underlying46 info83 rfl (by decide) (by omega) _ ([] ++ rs) [endRec (rd_T76 ss k) now cause] _ _ _ (fun _ => True) (fun _ => False) rfl rfl (Kd.R_mono HO3.out (fun _ _ => trivial)) (R_toC HO11.out).2 (fun _ _ h => h) (fun _ h => h.elim) (fun _ _ => trivial) HBr.out HBr.out.size ?aL ?_
        case aL => simp only [List.length_append, List.length_take, List.length_drop, List.length_nil, List.length_cons, List.length_singleton]; omega
        intro v12 w12 ho hb hg hat
        rw [List.nil_append] at ho
        clear HO3
        clear HO11
        obtain ⟨RA12, Rc12, e12⟩ := Kd.R_slice ho
        subst e12
        have HO12 := Aside0.mk ho
        clear HBr
        have HBr := Aside0.mk hb
        refine hK.out _ _ ⟨pw_cell_below HBr.out HS0.out.1, pw_cell_below HBr.out HS0.out.2.1, pw_cell_below HBr.out HS0.out.2.2⟩ (fun hs2 => ?_)
        clear hK K hs ho hb hg hat
        have hs := hs2
        clear hs2
        refine qN ?_
        refine qP 13 45 ?_
        have hfz := blk_frozen (blk_below HX2.out HBr.out) 3
        refine qSkip (w1 := ?_) 14 ?_ ?_ (hc := one_of TE4_tab (by kernel_rfl))
        rotate_left
        · go_simp
          rfl
        clear hs hfz
        refine qD ?_
        have hbs := blk_lt HU2.out
        have HB5 := Aside0.mk (show Below w.heap.size w (World.setCell _ ⟨w.heap.size, 3, none⟩ (.slice RA12 (rs.length + 1) Rc12)) from below_set (below_step HB2.out HBr.out) (by omega))
        have HX5 := Aside0.mk (blk_put (blk_below HX2.out HBr.out) 3 (.slice RA12 (rs.length + 1) Rc12) (cs' := #[.slice B0 n0 d0, .slice A11 (ss.eraseIdx k.toNat).length c11, .slice B2 n2 d2, .slice RA12 (rs.length + 1) Rc12, .int .i64 nx]) rfl)
        have HR5 := Aside0.mk (blk_far (blk_below HR2.out HBr.out) (p := ⟨w.heap.size, 3, none⟩) (by dsimp only; omega) (.slice RA12 (rs.length + 1) Rc12))
        have HS5 := Aside0.mk (R_far1 (Kd.R_below HS2.out HBr.out) (g := w.heap.size) (by omega) 3 (.slice RA12 (rs.length + 1) Rc12))
        have HO5 := Aside0.mk (Kd.R_lower (R_far1 HO12.out (g := w.heap.size) (by omega) 3 (.slice RA12 (rs.length + 1) Rc12)) (show w.heap.size + 3 ≤ Wd.heap.size by omega))
        clear HB2 HX2 HR2 HU2 HS2 HBr HO12 HS0 HC3 hbs
        generalize (World.setCell _ ⟨w.heap.size, 3, none⟩ _) = W5 at HB5 HX5 HR5 HS5 HO5 ⊢
        have cx := blk_cell HX5.out
        have fx := blk_frozen HX5.out
        have cr := blk_cell HR5.out
        have fr := blk_frozen HR5.out
        have hzr := blk_lt HR5.out
        go_wp2
        refine bodyPost_ret (v := .agg #[.slice B0 n0 d0, .slice A11 (ss.eraseIdx k.toNat).length c11, .slice B2 n2 d2, .slice RA12 (rs.length + 1) Rc12, .int .i64 nx]) ?_ rfl ⟨A11, c11, RA12, Rc12, by first | (rw [ER_.out]; done) | (rw [ER_.out]; simp; done), ?_, ?_, ?_⟩
        · refine results_cell_row rfl _ _ (w.heap.size + 1) 48 #[.slice B0 n0 d0, .slice A11 (ss.eraseIdx k.toNat).length c11, .slice B2 n2 d2, .slice RA12 (rs.length + 1) Rc12, .int .i64 nx] (0, 0) _ rfl ?_ hu rfl (by kernel_rfl)
          exact res5 HR5.out
        · exact Kd.R_lower (R_out HS5.out (fun k hk => by
            repeat (with_reducible refine (Below.heap_setCell _ _ _ _ (by dsimp only; omega)).trans ?_)
            rfl)) (by omega)
        · rw [ER_.out]
          exact .inr (Kd.R_lower (R_out HO5.out (fun k hk => by
            repeat (with_reducible refine (Below.heap_setCell _ _ _ _ (by dsimp only; omega)).trans ?_)
            rfl)) (by omega))
        · repeat' (with_reducible first | exact HB5.out | refine below_set ?_ (by omega))
      · refine lit_at k83 (w0 := Wd) Wd.heap.size 83 (by rfl) (N := 43) (by rfl) (xs := [endRec (rd_T76 ss k) now cause]) (inner := [.int .i64 (rd_T76 ss k).f0, .int .i64 now, .int .i64 cause, .int .i64 (rd_T76 ss k).f6, .bool true]) ?hr ?hp HBr.out HBr.out.size (by simp) ?_
        case hr => first | (go_simp; done) | (go_simp; rfl)
        case hp => exact reps_rec _ _ _ _
        intro v11 w11 N11 ho hb hg
        have n_ := Aside0.mk (R_lit_old HO0.out hg)
        clear HO0
        have HO0 := n_
        clear n_
        obtain ⟨RA11, Rc11, e11⟩ := Kd.R_slice ho
        subst e11
        have HO11 := Aside0.mk ho
        clear HBr
        have HBr := Aside0.mk hb
        refine hK.out _ _ ⟨pw_cell_below HBr.out HS0.out.1, pw_cell_below HBr.out HS0.out.2.1, pw_cell_below HBr.out HS0.out.2.2⟩ (fun hs2 => ?_)
        clear hK K hs ho hb hg
        have hs := hs2
        clear hs2
        refine qN ?_
        refine q1 3 35 (fun K hK => ?_)
        refine Kd.R_append_rows_step k83 (w0 := Wd) Wd.heap.size (by rfl) (.tmp 32) (.tmp 34) 46 83 (.agg #[(.int .i64 0), (.int .i64 0), (.int .i64 0), (.int .i64 0), (.bool false)]) 40 rfl Tryz.underlying46 info83 rfl (by decide) (by omega) _ ([] : List S83) rs _ _ _ (fun _ => True) (fun _ => False) rfl rfl (Kd.R_mono HO0.out (fun _ _ => trivial)) (Kd.C_below HC3.out HBr.out) (fun _ _ h => h) (fun _ h => h.elim) (fun _ _ => trivial) HBr.out HBr.out.size ?aL ?_
        case aL => simp only [List.length_append, List.length_take, List.length_drop, List.length_nil, List.length_cons, List.length_singleton]; omega
        intro v3 w3 ho hb hg hat
        have n_ := Aside0.mk (R_app_hi HO11.out HO0.out hg)
        clear HO11
        have HO11 := n_
        clear n_
        clear HO0
        obtain ⟨RA3, Rc3, e3⟩ := Kd.R_slice ho
        subst e3
        have HO3 := Aside0.mk ho
        clear HBr
        have HBr := Aside0.mk hb
        refine hK.out _ _ ⟨pw_cell_below HBr.out HS0.out.1, pw_cell_below HBr.out HS0.out.2.1, pw_cell_below HBr.out HS0.out.2.2⟩ (fun hs2 => ?_)
        clear hK K hs ho hb hg hat
        have hs := hs2
        clear hs2
        refine qN ?_
        refine q1 12 44 (fun K hK => ?_)
        refine Kd.R_append_rows_step k83 (w0 := Wd) Wd.heap.size (by rfl) (.tmp 35) (.tmp 43) 46 83 (.agg #[(.int .i64 0), (.int .i64 0), (.int .i64 0), (.int .i64 0), (.bool false)]) 40 rfl Tryz.underlying46 info83 rfl (by decide) (by omega) _ ([] ++ rs) [endRec (rd_T76 ss k) now cause] _ _ _ (fun _ => True) (fun _ => False) rfl rfl (Kd.R_mono HO3.out (fun _ _ => trivial)) (R_toC HO11.out).2 (fun _ _ h => h) (fun _ h => h.elim) (fun _ _ => trivial) HBr.out HBr.out.size ?aL ?_
        case aL => simp only [List.length_append, List.length_take, List.length_drop, List.length_nil, List.length_cons, List.length_singleton]; omega
        intro v12 w12 ho hb hg hat
        rw [List.nil_append] at ho
        clear HO3
        clear HO11
        obtain ⟨RA12, Rc12, e12⟩ := Kd.R_slice ho
        subst e12
        have HO12 := Aside0.mk ho
        clear HBr
        have HBr := Aside0.mk hb
        refine hK.out _ _ ⟨pw_cell_below HBr.out HS0.out.1, pw_cell_below HBr.out HS0.out.2.1, pw_cell_below HBr.out HS0.out.2.2⟩ (fun hs2 => ?_)
        clear hK K hs ho hb hg hat
        have hs := hs2
        clear hs2
        refine qN ?_
        refine qP 13 45 ?_
        have hfz := blk_frozen (blk_below HX2.out HBr.out) 3
        refine qSkip (w1 := ?_) 14 ?_ ?_ (hc := one_of TE4_tab (by kernel_rfl))
        rotate_left
        · go_simp
          rfl
        clear hs hfz
        refine qD ?_
        have hbs := blk_lt HU2.out
        have HB5 := Aside0.mk (show Below w.heap.size w (World.setCell _ ⟨w.heap.size, 3, none⟩ (.slice RA12 (rs.length + 1) Rc12)) from below_set (below_step HB2.out HBr.out) (by omega))
        have HX5 := Aside0.mk (blk_put (blk_below HX2.out HBr.out) 3 (.slice RA12 (rs.length + 1) Rc12) (cs' := #[.slice B0 n0 d0, .slice A11 (ss.eraseIdx k.toNat).length c11, .slice B2 n2 d2, .slice RA12 (rs.length + 1) Rc12, .int .i64 nx]) rfl)
        have HR5 := Aside0.mk (blk_far (blk_below HR2.out HBr.out) (p := ⟨w.heap.size, 3, none⟩) (by dsimp only; omega) (.slice RA12 (rs.length + 1) Rc12))
        have HS5 := Aside0.mk (R_far1 (Kd.R_below HS2.out HBr.out) (g := w.heap.size) (by omega) 3 (.slice RA12 (rs.length + 1) Rc12))
        have HO5 := Aside0.mk (Kd.R_lower (R_far1 HO12.out (g := w.heap.size) (by omega) 3 (.slice RA12 (rs.length + 1) Rc12)) (show w.heap.size + 3 ≤ Wd.heap.size by omega))
        clear HB2 HX2 HR2 HU2 HS2 HBr HO12 HS0 HC3 hbs
        generalize (World.setCell _ ⟨w.heap.size, 3, none⟩ _) = W5 at HB5 HX5 HR5 HS5 HO5 ⊢
        have cx := blk_cell HX5.out
        have fx := blk_frozen HX5.out
        have cr := blk_cell HR5.out
        have fr := blk_frozen HR5.out
        have hzr := blk_lt HR5.out
        go_wp2
        refine bodyPost_ret (v := .agg #[.slice B0 n0 d0, .slice A11 (ss.eraseIdx k.toNat).length c11, .slice B2 n2 d2, .slice RA12 (rs.length + 1) Rc12, .int .i64 nx]) ?_ rfl ⟨A11, c11, RA12, Rc12, by first | (rw [ER_.out]; done) | (rw [ER_.out]; simp; done), ?_, ?_, ?_⟩
        · refine results_cell_row rfl _ _ (w.heap.size + 1) 48 #[.slice B0 n0 d0, .slice A11 (ss.eraseIdx k.toNat).length c11, .slice B2 n2 d2, .slice RA12 (rs.length + 1) Rc12, .int .i64 nx] (0, 0) _ rfl ?_ hu rfl (by kernel_rfl)
          exact res5 HR5.out
        · exact Kd.R_lower (R_out HS5.out (fun k hk => by
            repeat (with_reducible refine (Below.heap_setCell _ _ _ _ (by dsimp only; omega)).trans ?_)
            rfl)) (by omega)
        · rw [ER_.out]
          exact .inr (Kd.R_lower (R_out HO5.out (fun k hk => by
            repeat (with_reducible refine (Below.heap_setCell _ _ _ _ (by dsimp only; omega)).trans ?_)
            rfl)) (by omega))
        · repeat' (with_reducible first | exact HB5.out | refine below_set ?_ (by omega))
    · refine lit_at k83 (w0 := Wd) Wd.heap.size 83 (by rfl) (N := 43) (by rfl) (xs := [endRec (rd_T76 ss k) now cause]) (inner := [.int .i64 (rd_T76 ss k).f0, .int .i64 now, .int .i64 cause, .int .i64 (rd_T76 ss k).f6, .bool true]) ?hr ?hp HBr.out HBr.out.size (by simp) ?_
      case hr => first | (go_simp; done) | (go_simp; rfl)
      case hp => exact reps_rec _ _ _ _
      intro v11 w11 N11 ho hb hg
      obtain ⟨RA11, Rc11, e11⟩ := Kd.R_slice ho
      subst e11
      have HO11 := Aside0.mk ho
      clear HBr
      have HBr := Aside0.mk hb
      refine hK.out _ _ ⟨pw_cell_below HBr.out HS0.out.1, pw_cell_below HBr.out HS0.out.2.1, pw_cell_below HBr.out HS0.out.2.2⟩ (fun hs2 => ?_)
      clear hK K hs ho hb hg
      have hs := hs2
      clear hs2
      refine qN ?_
      refine q1 0 32 (fun K hK => ?_)
      refine lit_at k83 (w0 := Wd) Wd.heap.size 83 (by rfl) (N := 32) (by rfl) (xs := ([] : List S83)) (inner := []) ?hr ?hp HBr.out HBr.out.size (by simp) ?_
      case hr => first | (go_simp; done) | (go_simp; rfl)
      case hp => exact Reps.none _ _
      intro v0 w0 N0 ho hb hg
      have n_ := Aside0.mk (R_lit_old HO11.out hg)
      clear HO11
      have HO11 := n_
      clear n_
      obtain ⟨RA0, Rc0, e0⟩ := Kd.R_slice ho
      subst e0
      have HO0 := Aside0.mk ho
      clear HBr
      have HBr := Aside0.mk hb
      refine hK.out _ _ ⟨pw_cell_below HBr.out HS0.out.1, pw_cell_below HBr.out HS0.out.2.1, pw_cell_below HBr.out HS0.out.2.2⟩ (fun hs2 => ?_)
      clear hK K hs ho hb hg
      have hs := hs2
      clear hs2
      refine qN ?_
      refine q1 3 35 (fun K hK => ?_)
      refine Kd.R_append_rows_step k83 (w0 := Wd) Wd.heap.size (by rfl) (.tmp 32) (.tmp 34) 46 83 (.agg #[(.int .i64 0), (.int .i64 0), (.int .i64 0), (.int .i64 0), (.bool false)]) 40 rfl Tryz.underlying46 info83 rfl (by decide) (by omega) _ ([] : List S83) rs _ _ _ (fun _ => True) (fun _ => False) rfl rfl (Kd.R_mono HO0.out (fun _ _ => trivial)) (Kd.C_below HC3.out HBr.out) (fun _ _ h => h) (fun _ h => h.elim) (fun _ _ => trivial) HBr.out HBr.out.size ?aL ?_
      case aL => simp only [List.length_append, List.length_take, List.length_drop, List.length_nil, List.length_cons, List.length_singleton]; omega
      intro v3 w3 ho hb hg hat
      have n_ := Aside0.mk (R_app_lo HO11.out HO0.out hg)
      clear HO11
      have HO11 := n_
      clear n_
      clear HO0
      obtain ⟨RA3, Rc3, e3⟩ := Kd.R_slice ho
      subst e3
      have HO3 := Aside0.mk ho
      clear HBr
      have HBr := Aside0.mk hb
      refine hK.out _ _ ⟨pw_cell_below HBr.out HS0.out.1, pw_cell_below HBr.out HS0.out.2.1, pw_cell_below HBr.out HS0.out.2.2⟩ (fun hs2 => ?_)
      clear hK K hs ho hb hg hat
      have hs := hs2
      clear hs2
      refine qN ?_
      refine q1 12 44 (fun K hK => ?_)
      refine Kd.R_append_rows_step k83 (w0 := Wd) Wd.heap.size (by rfl) (.tmp 35) (.tmp 43) 46 83 (.agg #[(.int .i64 0), (.int .i64 0), (.int .i64 0), (.int .i64 0), (.bool false)]) 40 rfl Tryz.underlying46 info83 rfl (by decide) (by omega) _ ([] ++ rs) [endRec (rd_T76 ss k) now cause] _ _ _ (fun _ => True) (fun _ => False) rfl rfl (Kd.R_mono HO3.out (fun _ _ => trivial)) (R_toC HO11.out).2 (fun _ _ h => h) (fun _ h => h.elim) (fun _ _ => trivial) HBr.out HBr.out.size ?aL ?_
      case aL => simp only [List.length_append, List.length_take, List.length_drop, List.length_nil, List.length_cons, List.length_singleton]; omega
      intro v12 w12 ho hb hg hat
      rw [List.nil_append] at ho
      clear HO3
      clear HO11
      obtain ⟨RA12, Rc12, e12⟩ := Kd.R_slice ho
      subst e12
      have HO12 := Aside0.mk ho
      clear HBr
      have HBr := Aside0.mk hb
      refine hK.out _ _ ⟨pw_cell_below HBr.out HS0.out.1, pw_cell_below HBr.out HS0.out.2.1, pw_cell_below HBr.out HS0.out.2.2⟩ (fun hs2 => ?_)
      clear hK K hs ho hb hg hat
      have hs := hs2
      clear hs2
      refine qN ?_
      refine qP 13 45 ?_
      have hfz := blk_frozen (blk_below HX2.out HBr.out) 3
      refine qSkip (w1 := ?_) 14 ?_ ?_ (hc := one_of TE4_tab (by kernel_rfl))
      rotate_left
      · go_simp
        rfl
      clear hs hfz
      refine qD ?_
      have hbs := blk_lt HU2.out
      have HB5 := Aside0.mk (show Below w.heap.size w (World.setCell _ ⟨w.heap.size, 3, none⟩ (.slice RA12 (rs.length + 1) Rc12)) from below_set (below_step HB2.out HBr.out) (by omega))
      have HX5 := Aside0.mk (blk_put (blk_below HX2.out HBr.out) 3 (.slice RA12 (rs.length + 1) Rc12) (cs' := #[.slice B0 n0 d0, .slice A11 (ss.eraseIdx k.toNat).length c11, .slice B2 n2 d2, .slice RA12 (rs.length + 1) Rc12, .int .i64 nx]) rfl)
      have HR5 := Aside0.mk (blk_far (blk_below HR2.out HBr.out) (p := ⟨w.heap.size, 3, none⟩) (by dsimp only; omega) (.slice RA12 (rs.length + 1) Rc12))
      have HS5 := Aside0.mk (R_far1 (Kd.R_below HS2.out HBr.out) (g := w.heap.size) (by omega) 3 (.slice RA12 (rs.length + 1) Rc12))
      have HO5 := Aside0.mk (Kd.R_lower (R_far1 HO12.out (g := w.heap.size) (by omega) 3 (.slice RA12 (rs.length + 1) Rc12)) (show w.heap.size + 3 ≤ Wd.heap.size by omega))
      clear HB2 HX2 HR2 HU2 HS2 HBr HO12 HS0 HC3 hbs
      generalize (World.setCell _ ⟨w.heap.size, 3, none⟩ _) = W5 at HB5 HX5 HR5 HS5 HO5 ⊢
      have cx := blk_cell HX5.out
      have fx := blk_frozen HX5.out
      have cr := blk_cell HR5.out
      have fr := blk_frozen HR5.out
      have hzr := blk_lt HR5.out
      go_wp2
      refine bodyPost_ret (v := .agg #[.slice B0 n0 d0, .slice A11 (ss.eraseIdx k.toNat).length c11, .slice B2 n2 d2, .slice RA12 (rs.length + 1) Rc12, .int .i64 nx]) ?_ rfl ⟨A11, c11, RA12, Rc12, by first | (rw [ER_.out]; done) | (rw [ER_.out]; simp; done), ?_, ?_, ?_⟩
      · refine results_cell_row rfl _ _ (w.heap.size + 1) 48 #[.slice B0 n0 d0, .slice A11 (ss.eraseIdx k.toNat).length c11, .slice B2 n2 d2, .slice RA12 (rs.length + 1) Rc12, .int .i64 nx] (0, 0) _ rfl ?_ hu rfl (by kernel_rfl)
        exact res5 HR5.out
      · exact Kd.R_lower (R_out HS5.out (fun k hk => by
          repeat (with_reducible refine (Below.heap_setCell _ _ _ _ (by dsimp only; omega)).trans ?_)
          rfl)) (by omega)
      · rw [ER_.out]
        exact .inr (Kd.R_lower (R_out HO5.out (fun k hk => by
          repeat (with_reducible refine (Below.heap_setCell _ _ _ _ (by dsimp only; omega)).trans ?_)
          rfl)) (by omega))
      · repeat' (with_reducible first | exact HB5.out | refine below_set ?_ (by omega))
end
section
-- NEEDS laws.eqConfig
/-- All blocks but gg's, blk's (the sessions' row) and those of the type of records are as they were. -/
def OthK (gg blk : Nat) (w W : World) : Prop := w.heap.size ≤ W.heap.size ∧ ∀ b : Nat, b < w.heap.size → b ≠ gg → b ≠ blk → ¬ TypeAt w b 83 → W.heap[b]? = w.heap[b]?
theorem OthK.refl (gg blk : Nat) (w : World) : OthK gg blk w w := ⟨Nat.le_refl _, fun _ _ _ _ _ => rfl⟩
theorem OthK.below {gg blk : Nat} {w W V : World} (h : OthK gg blk w W) (hb : Below W.heap.size W V) : OthK gg blk w V := ⟨Nat.le_trans h.1 hb.size, fun b h1 h2 h3 h4 => (hb.block b (Nat.lt_of_lt_of_le h1 h.1)).trans (h.2 b h1 h2 h3 h4)⟩
theorem OthK.set {gg blk : Nat} {w W : World} (h : OthK gg blk w W) (p : Nat) (u : Value) : OthK gg blk w (W.setCell ⟨gg, p, none⟩ u) := ⟨by simpa [World.setCell] using h.1, fun b h1 h2 h3 h4 => (Below.heap_setCell W ⟨gg, p, none⟩ u b h2).trans (h.2 b h1 h2 h3 h4)⟩
theorem OthK.grown {gg blk : Nat} {w W V : World} {row : Option Nat} (h : OthK gg blk w W) (hg : W.grownBy V row) (hr : ∀ b, row = some b → TypeAt W b 83) : OthK gg blk w V := ⟨Nat.le_trans h.1 hg.size, fun b h1 h2 h3 h4 => by
  have e := h.2 b h1 h2 h3 h4
  refine (hg.block b (Nat.lt_of_lt_of_le h1 h.1) (fun he => ?_)).trans e
  obtain ⟨c, hc⟩ := hr b he.symm
  exact h4 ⟨c, e ▸ hc⟩⟩
theorem R_typeAt {α : Type} {d : Kd α} {e : Nat} {w : World} {base : Nat} {ok : Nat → Prop} {v : Value} {xs : List α} (h : d.R e w base ok v xs) (b : Nat) (hb : v.ownBlock = some b) : TypeAt w b e := by
  obtain ⟨inner, ho⟩ := Kd.R_own h
  exact own_typed ho b hb
theorem OthK.kb {gg blk : Nat} {w W V : World} (h : OthK gg blk w W) (hk : KB W V blk) : OthK gg blk w V := ⟨Nat.le_trans h.1 hk.keep.1, fun b h1 h2 h3 h4 =>
  (hk.keep.2 b (Nat.lt_of_lt_of_le h1 h.1) h3 (by simp)).trans (h.2 b h1 h2 h3 h4)⟩
theorem delK (blk cap : Nat) (l : List S76) (k : Int) (k0 : 0 ≤ k) (k1 : k < l.length) (w : World) (hr : RowS w blk cap l) (hln : l.length ≤ cap) (hcm : cap ≤ 9223372036854775807) :
    Calls Tryz.prog 126 #[.slice (some ⟨blk, 0, none⟩) l.length cap, .int .i64 k, .int .i64 (k + 1)] w fun e w' => e = .returned (.slice (some ⟨blk, 0, none⟩) (l.eraseIdx k.toNat).length cap) ∧ KB w w' blk ∧ RowS w' blk cap (l.eraseIdx k.toNat) := by
  obtain ⟨i, rfl⟩ : ∃ i : Nat, k = i := ⟨k.toNat, by omega⟩
  refine (delAtS blk cap l i (i + 1) rfl w (by omega) hr hln hcm).mono ?_
  rintro e w' ⟨rfl, hk, hr2⟩
  rw [Int.toNat_natCast, show (l.eraseIdx i).length = l.length - 1 by rw [List.length_eraseIdx, if_pos (by omega)]]
  exact ⟨rfl, hk, hr2⟩
theorem RowS.grown {W V : World} {blk cap : Nat} {D : List S76} {row : Option Nat} (h : RowS W blk cap D) (hg : W.grownBy V row) (hr : some blk ≠ row) : RowS V blk cap D := by
  obtain ⟨cur, h1, h2, h3⟩ := h.ex
  exact ⟨cur, blk_grown h1 hg hr, h2, h3⟩
theorem RowS.grown2 {W V : World} {blk cap : Nat} {D : List S76} {row : Option Nat} (h : RowS W blk cap D) (hg : W.grownBy V row) (hr : ∀ {cs : Array Value}, W.heap[blk]? = some (.cells cs 76 (0, 0)) → some blk ≠ row) : RowS V blk cap D := by
  obtain ⟨cur, h1, h2, h3⟩ := h.ex
  exact ⟨cur, blk_grown h1 hg (hr h1), h2, h3⟩
theorem RowS.far {W : World} {blk cap gg : Nat} {D : List S76} {cs : Array Value} (h : RowS W blk cap D) (hx : W.heap[gg]? = some (.cells cs 48 (0, 0))) (p : Nat) (u : Value) : RowS (W.setCell ⟨gg, p, none⟩ u) blk cap D := by
  obtain ⟨cur, h1, h2, h3⟩ := h.ex
  exact ⟨cur, blk_far h1 (fun he => absurd (TypeAt.ne ⟨_, h1⟩ ⟨_, (show gg = blk from he.symm) ▸ hx⟩) (by decide)) u, h2, h3⟩
def TI2 : Bool × List (List Nat × List Nat) := (true, [([], []), ([], []), ([1], [1]), ([2], [2]), ([3], [3]), ([], []), ([5], [5]), ([], []), ([], []), ([], []), ([9], [9]), ([6, 7, 8, 10], [6, 7, 8, 10]), ([11], [11]), ([4, 12], [4, 12]), ([0, 0, 1, 2, 3, 4, 5, 6, 7, 8, 9, 10, 11, 12, 13], [0]), ([14, 0, 1, 2, 3, 4, 5, 6, 7, 8, 9, 10, 11, 12, 13], [14]), ([15, 13, 13, 0, 1, 2, 3, 4, 5, 6, 7, 8, 9, 10, 11, 12, 13], [13, 15])])
theorem TI2_tab : rtab .any (opsOf Tryz.f70 2) = TI2 := by kernel_rfl
set_option maxHeartbeats 8000000 in
set_option maxRecDepth 100000 in
theorem iEnd1 (gg : Nat) (B0 B1 B2 B3 : Option Addr) (n0 n2 d0 d1 d2 d3 : Nat) (ss : List S76) (rs : List S83) (nx k now cause : Int) (base : Nat) (w : World) (hx : w.heap[gg]? = some (.cells #[.slice B0 n0 d0, .slice B1 ss.length d1, .slice B2 n2 d2, .slice B3 rs.length d3, .int .i64 nx] 48 (0, 0))) (h1 : Kd.R k76 76 w base (fun _ => True) (.slice B1 ss.length d1) ss) (h3 : Kd.R k83 83 w base (fun _ => True) (.slice B3 rs.length d3) rs) (hgb : base ≤ gg) (k0 : 0 ≤ k) (k1 : k < ss.length) (z1 : ss.length ≤ 1048576) (z3 : rs.length ≤ 1048576) :
    Calls Tryz.prog 70 #[.pointer (some ⟨gg, 0, none⟩), .int .i64 k, .int .i64 now, .int .i64 cause] w fun e w' => ∃ X1 x1 X3 x3 blk, e = .returned (.tuple #[]) ∧ (B1 = some ⟨blk, 0, none⟩ ∧ X1 = some ⟨blk, 0, none⟩) ∧ w'.heap[gg]? = some (.cells #[.slice B0 n0 d0, .slice X1 (ss.eraseIdx k.toNat).length x1, .slice B2 n2 d2, .slice X3 (endRS rs (rd_T76 ss k) now cause).length x3, .int .i64 nx] 48 (0, 0)) ∧ Kd.R k76 76 w' base (fun _ => True) (.slice X1 (ss.eraseIdx k.toNat).length x1) (ss.eraseIdx k.toNat) ∧ Kd.R k83 83 w' base (fun _ => True) (.slice X3 (endRS rs (rd_T76 ss k) now cause).length x3) (endRS rs (rd_T76 ss k) now cause) ∧ Below base w w' ∧ OthK gg blk w w' := by
  have hu := Tryz.underlying48
  have hu2 := Tryz.underlying76
  have hu3 := Tryz.underlying83
  obtain ⟨blk, cap, hv, hbb, hrow, hlc, hcm, _⟩ := RowS.of_R h1 (by omega)
  injection hv with e1 _ e3
  subst e1 e3
  have hgl := blk_lt hx
  obtain ⟨c, _, hM, hcc, _⟩ := Kd.R_elem h1 z76 k k0 (by omega)
  obtain rfl := k76_open (k76.K_of_M hM)
  have r0 : w.cell? ⟨blk, k.toNat * 10, none⟩ = some (.int .i64 (rd_T76 ss k).f0) := hcc 0 _ rfl
  have r1 : w.cell? ⟨blk, k.toNat * 10 + 1, none⟩ = some (.int .i64 (rd_T76 ss k).f1) := hcc 1 _ rfl
  have r2 : w.cell? ⟨blk, k.toNat * 10 + 2, none⟩ = some (.string (rd_T76 ss k).f2) := hcc 2 _ rfl
  have r3 : w.cell? ⟨blk, k.toNat * 10 + 3, none⟩ = some (.int .i64 (rd_T76 ss k).f3) := hcc 3 _ rfl
  have r4 : w.cell? ⟨blk, k.toNat * 10 + 4, none⟩ = some (.int .i64 (rd_T76 ss k).f4) := hcc 4 _ rfl
  have r5 : w.cell? ⟨blk, k.toNat * 10 + 5, none⟩ = some (.int .i64 (rd_T76 ss k).f5) := hcc 5 _ rfl
  have r6 : w.cell? ⟨blk, k.toNat * 10 + 6, none⟩ = some (.int .i64 (rd_T76 ss k).f6) := hcc 6 _ rfl
  have r7 : w.cell? ⟨blk, k.toNat * 10 + 7, none⟩ = some (.int .i64 (rd_T76 ss k).f7) := hcc 7 _ rfl
  have r8 : w.cell? ⟨blk, k.toNat * 10 + 8, none⟩ = some (.int .i64 (rd_T76 ss k).f8) := hcc 8 _ rfl
  have r9 : w.cell? ⟨blk, k.toNat * 10 + 9, none⟩ = some (.int .i64 (rd_T76 ss k).f9) := hcc 9 _ rfl
  clear hM hcc
  have HX := Aside0.mk (blk_alloc hx (.cells #[.int .i64 (rd_T76 ss k).f0, .int .i64 (rd_T76 ss k).f1, .string (rd_T76 ss k).f2, .int .i64 (rd_T76 ss k).f3, .int .i64 (rd_T76 ss k).f4, .int .i64 (rd_T76 ss k).f5, .int .i64 (rd_T76 ss k).f6, .int .i64 (rd_T76 ss k).f7, .int .i64 (rd_T76 ss k).f8, .int .i64 (rd_T76 ss k).f9] 76 (0, 0)))
  have HO1 := Aside0.mk (Kd.R_alloc (o := .cells #[.int .i64 (rd_T76 ss k).f0, .int .i64 (rd_T76 ss k).f1, .string (rd_T76 ss k).f2, .int .i64 (rd_T76 ss k).f3, .int .i64 (rd_T76 ss k).f4, .int .i64 (rd_T76 ss k).f5, .int .i64 (rd_T76 ss k).f6, .int .i64 (rd_T76 ss k).f7, .int .i64 (rd_T76 ss k).f8, .int .i64 (rd_T76 ss k).f9] 76 (0, 0)) h1)
  have HO3 := Aside0.mk (Kd.R_alloc (o := .cells #[.int .i64 (rd_T76 ss k).f0, .int .i64 (rd_T76 ss k).f1, .string (rd_T76 ss k).f2, .int .i64 (rd_T76 ss k).f3, .int .i64 (rd_T76 ss k).f4, .int .i64 (rd_T76 ss k).f5, .int .i64 (rd_T76 ss k).f6, .int .i64 (rd_T76 ss k).f7, .int .i64 (rd_T76 ss k).f8, .int .i64 (rd_T76 ss k).f9] 76 (0, 0)) h3)
  have hbl : base ≤ w.heap.size := by omega
  have HB := Aside0.mk (Below.alloc (Below.refl base w) hbl (.cells #[.int .i64 (rd_T76 ss k).f0, .int .i64 (rd_T76 ss k).f1, .string (rd_T76 ss k).f2, .int .i64 (rd_T76 ss k).f3, .int .i64 (rd_T76 ss k).f4, .int .i64 (rd_T76 ss k).f5, .int .i64 (rd_T76 ss k).f6, .int .i64 (rd_T76 ss k).f7, .int .i64 (rd_T76 ss k).f8, .int .i64 (rd_T76 ss k).f9] 76 (0, 0)))
  have HK := Aside0.mk (OthK.below (OthK.refl gg blk w) (below_alloc (Below.refl w.heap.size w) (.cells #[.int .i64 (rd_T76 ss k).f0, .int .i64 (rd_T76 ss k).f1, .string (rd_T76 ss k).f2, .int .i64 (rd_T76 ss k).f3, .int .i64 (rd_T76 ss k).f4, .int .i64 (rd_T76 ss k).f5, .int .i64 (rd_T76 ss k).f6, .int .i64 (rd_T76 ss k).f7, .int .i64 (rd_T76 ss k).f8, .int .i64 (rd_T76 ss k).f9] 76 (0, 0))))
  have HU := Aside0.mk (blk_new w (.cells #[.int .i64 (rd_T76 ss k).f0, .int .i64 (rd_T76 ss k).f1, .string (rd_T76 ss k).f2, .int .i64 (rd_T76 ss k).f3, .int .i64 (rd_T76 ss k).f4, .int .i64 (rd_T76 ss k).f5, .int .i64 (rd_T76 ss k).f6, .int .i64 (rd_T76 ss k).f7, .int .i64 (rd_T76 ss k).f8, .int .i64 (rd_T76 ss k).f9] 76 (0, 0)))
  have hcx := blk_cell hx
  have HRW := Aside0.mk (hrow.below (below_alloc (Below.refl w.heap.size w) (.cells #[.int .i64 (rd_T76 ss k).f0, .int .i64 (rd_T76 ss k).f1, .string (rd_T76 ss k).f2, .int .i64 (rd_T76 ss k).f3, .int .i64 (rd_T76 ss k).f4, .int .i64 (rd_T76 ss k).f5, .int .i64 (rd_T76 ss k).f6, .int .i64 (rd_T76 ss k).f7, .int .i64 (rd_T76 ss k).f8, .int .i64 (rd_T76 ss k).f9] 76 (0, 0))))
  clear hrow
  clear h1 h3 hx
  rcases dec_em ((rs.length : Int) < 60) with ⟨k6, b6⟩ | ⟨k6, b6⟩
  all_goals go_enter Tryz.func70, Tryz.ntmps70
  · go_wp2
    refine qSd (fun w' => w'.cell? ⟨gg, 3, none⟩ = some (.slice B3 rs.length d3) ∧ w'.cell? ⟨w.heap.size, 0, none⟩ = some (.int .i64 (rd_T76 ss k).f0) ∧ w'.cell? ⟨w.heap.size, 6, none⟩ = some (.int .i64 (rd_T76 ss k).f6)) 17 [16] ⟨blk_cell HX.out 3, blk_cell HU.out 0, blk_cell HU.out 6⟩ (fun hs => ?_)
    have n_ := Aside0.mk (blk_drew HX.out)
    clear HX
    have HX := n_
    clear n_
    have n_ := Aside0.mk (blk_drew HU.out)
    clear HU
    have HU := n_
    clear n_
    have n_ := Aside0.mk (Kd.R_drew HO1.out)
    clear HO1
    have HO1 := n_
    clear n_
    have n_ := Aside0.mk (Kd.R_drew HO3.out)
    clear HO3
    have HO3 := n_
    clear n_
    have n_ := Aside0.mk (below_drew1 HB.out)
    clear HB
    have HB := n_
    clear n_
    have n_ := Aside0.mk (HK.out.below (below_drew (Below.refl _ _)))
    clear HK
    have HK := n_
    clear n_
    have n_ := Aside0.mk (HRW.out.below (below_drew (Below.refl _ _)))
    clear HRW
    have HRW := n_
    clear n_
    generalize (World.drew _) = Wd at hs HX HU HO1 HO3 HB HK HRW ⊢
    refine qP 0 22 ?_
    refine qP 1 23 ?_
    refine qP 5 27 ?_
    refine qP 7 29 ?_
    refine qP 8 30 ?_
    refine qP 9 31 ?_
    refine qP 2 24 ?_
    refine qP 3 25 ?_
    refine qT 4 26 hs ?_
    refine qT 6 28 hs ?_
    refine qT 10 32 hs ?_
    refine qP 11 33 ?_
    refine q1 12 34 (fun K hK => ?_)
    refine lit_at k83 (w0 := w) base 83 (by rfl) (N := 34) (by rfl) (xs := [endRec (rd_T76 ss k) now cause]) (inner := [.int .i64 (rd_T76 ss k).f0, .int .i64 now, .int .i64 cause, .int .i64 (rd_T76 ss k).f6, .bool true]) ?hr ?hp HB.out (Nat.le_trans hbl HB.out.size) (by simp) ?_
    case hr => first | (go_simp; done) | (go_simp; rfl)
    case hp => exact reps_rec _ _ _ _
    intro v12 w12 N12 ho hb hg
    have n_ := Aside0.mk (RowS.grown HRW.out hg.1 (by simp))
    clear HRW
    have HRW := n_
    clear n_
    have n_ := Aside0.mk (blk_grown HX.out hg.1 (by simp))
    clear HX
    have HX := n_
    clear n_
    have n_ := Aside0.mk (blk_grown HU.out hg.1 (by simp))
    clear HU
    have HU := n_
    clear n_
    have n_ := Aside0.mk (Kd.R_grown HO1.out hg.1 (fun k_ _ he => by cases he))
    clear HO1
    have HO1 := n_
    clear n_
    have n_ := Aside0.mk (R_lit_old HO3.out hg)
    clear HO3
    have HO3 := n_
    clear n_
    have n_ := Aside0.mk (HK.out.grown hg.1 (fun b_ he => by cases he))
    clear HK
    have HK := n_
    clear n_
    have n_ := Aside0.mk (hb)
    clear HB
    have HB := n_
    clear n_
    obtain ⟨A12, c12, e12⟩ := Kd.R_slice ho
    subst e12
    have HO12 := Aside0.mk ho
    refine hK.out _ _ ⟨blk_cell HX.out 3, blk_cell HU.out 0, blk_cell HU.out 6⟩ (fun hs2 => ?_)
    clear hK K hs ho hb hg
    have hs := hs2
    clear hs2
    refine qN ?_
    refine q1 13 35 (fun K hK => ?_)
    refine Kd.R_append_rows_step k83 (w0 := w) base (by rfl) (.tmp 26) (.tmp 34) 46 83 (.agg #[(.int .i64 0), (.int .i64 0), (.int .i64 0), (.int .i64 0), (.bool false)]) 40 rfl Tryz.underlying46 info83 rfl (by decide) (by omega) _ rs [endRec (rd_T76 ss k) now cause] _ _ _ (fun _ => True) (fun _ => False) rfl rfl (Kd.R_mono HO3.out (fun _ _ => trivial)) (R_toC HO12.out).2 (fun _ _ h => h) (fun _ h => h.elim) (fun _ _ => trivial) HB.out (Nat.le_trans hbl HB.out.size) ?aL ?_
    case aL => simp only [List.length_singleton]; omega
    intro v13 w13 ho hb hg hat
    have n_ := Aside0.mk (RowS.grown2 HRW.out hg (fun h => Kd.R_ne HO3.out h (by decide)))
    clear HRW
    have HRW := n_
    clear n_
    have n_ := Aside0.mk (HK.out.grown hg (fun b_ he => R_typeAt HO3.out b_ he))
    clear HK
    have HK := n_
    clear n_
    have n_ := Aside0.mk (Kd.R_over' HO1.out (Kd.R_typed HO3.out) (by decide) hg)
    clear HO1
    have HO1 := n_
    clear n_
    have n_ := Aside0.mk (blk_grown HU.out hg (Kd.R_ne HO3.out HU.out (by decide)))
    clear HU
    have HU := n_
    clear n_
    have n_ := Aside0.mk (blk_grown HX.out hg (Kd.R_ne HO3.out HX.out (by decide)))
    clear HX
    have HX := n_
    clear n_
    have n_ := Aside0.mk (hb)
    clear HB
    have HB := n_
    clear n_
    clear HO3 HO12
    obtain ⟨A13, c13, e13⟩ := Kd.R_slice ho
    subst e13
    have HO3 := Aside0.mk ho
    refine hK.out _ _ ⟨blk_cell HX.out 3, blk_cell HU.out 0, blk_cell HU.out 6⟩ (fun hs2 => ?_)
    clear hK K hs ho hb hg hat
    have hs := hs2
    clear hs2
    refine qN ?_
    refine qP 14 36 ?_
    refine qP 15 37 ?_
    have hfz := blk_frozen HX.out 3
    refine qSkip (w1 := ?_) 16 ?_ ?_ (hc := one_of TI2_tab (by kernel_rfl))
    rotate_left
    · go_simp
      rfl
    clear hs hfz
    refine qD ?_
    have n_ := Aside0.mk ((show RowS (World.setCell _ ⟨gg, 3, none⟩ (.slice A13 (rs.length + 1) c13)) blk d1 ss from RowS.far HRW.out HX.out 3 _))
    clear HRW
    have HRW := n_
    clear n_
    have n_ := Aside0.mk (HK.out.set 3 (.slice A13 (rs.length + 1) c13))
    clear HK
    have HK := n_
    clear n_
    have n_ := Aside0.mk (Kd.R_mono (Kd.R_set HO1.out HX.out (by decide) 3 (.slice A13 (rs.length + 1) c13)) (fun _ _ => trivial))
    clear HO1
    have HO1 := n_
    clear n_
    have n_ := Aside0.mk (Kd.R_mono (Kd.R_set HO3.out HX.out (by decide) 3 (.slice A13 (rs.length + 1) c13)) (fun _ _ => trivial))
    clear HO3
    have HO3 := n_
    clear n_
    have n_ := Aside0.mk (Below.setCell HB.out (p := ⟨gg, 3, none⟩) hgb (.slice A13 (rs.length + 1) c13))
    clear HB
    have HB := n_
    clear n_
    have n_ := Aside0.mk (blk_put HX.out 3 (.slice A13 (rs.length + 1) c13) (cs' := #[.slice B0 n0 d0, .slice (some ⟨blk, 0, none⟩) ss.length d1, .slice B2 n2 d2, .slice A13 (rs.length + 1) c13, .int .i64 nx]) rfl)
    clear HX
    have HX := n_
    clear n_
    clear HU
    generalize (World.setCell _ ⟨gg, 3, none⟩ _) = W5 at HRW HK HO1 HO3 HB HX ⊢
    clear hcx r0 r1 r2 r3 r4 r5 r6 r7 r8 r9
    have hcx := blk_cell HX.out
    go_wp2_with (first | (go_at_call 126; go_loud (refine (delK blk _ ss k k0 k1 _ HRW.out hlc hcm).mono ?_; rintro e w2 ⟨rfl, hk, hr⟩; (obtain ⟨cur, hblk, _, _⟩ := HRW.out.ex); have HR2 := Aside0.mk hr; have HO3b := Aside0.mk (Kd.R_keep (Kd.R_types HO3.out hblk (by decide)) hk.keep (fun _ h => h.2)); have HX2 := Aside0.mk ((hk.keep.2 gg (blk_lt HX.out) (fun he => absurd (TypeAt.ne ⟨_, he ▸ HX.out⟩ ⟨_, hblk⟩) (by decide)) (by simp)).trans HX.out); have HB2 := Aside0.mk (HB.out.trans ⟨hk.bel.os, hk.bel.tape, hk.bel.output, hk.bel.size, fun b hb => hk.bel.block b (by omega)⟩); have HK2 := Aside0.mk (HK.out.kb hk); clear hr hk hblk; have cx2 := blk_cell HX2.out; have fx2 := blk_frozen HX2.out)))
    (try simp only [Exit.inBlock, Exit.then])
    refine bodyPost_end (results_none rfl _ _ _) rfl ?_
    have eR : endRS rs (rd_T76 ss k) now cause = rs ++ [endRec (rd_T76 ss k) now cause] := by rw [endRS, if_pos (by omega)]
    rw [eR]
    have hle : (ss.eraseIdx k.toNat).length ≤ d1 := by rw [List.length_eraseIdx]; split <;> omega
    refine ⟨some ⟨blk, 0, none⟩, d1, A13, c13, blk, rfl, ⟨rfl, rfl⟩, blk_put HX2.out 1 _ (by first | rfl | simp), Kd.R_set (HR2.out.toR hbb hle hcm trivial) HX2.out (by decide) 1 _, Kd.R_mono (Kd.R_set HO3b.out HX2.out (by decide) 1 _) (fun _ _ => trivial), HB2.out.setCell hgb _, HK2.out.set 1 _⟩
  · go_wp2_with (first | (go_at_call 126; go_loud (refine (delK blk _ ss k k0 k1 _ HRW.out hlc hcm).mono ?_; rintro e w2 ⟨rfl, hk, hr⟩; (obtain ⟨cur, hblk, _, _⟩ := HRW.out.ex); have HR2 := Aside0.mk hr; have HO3b := Aside0.mk (Kd.R_keep (Kd.R_types HO3.out hblk (by decide)) hk.keep (fun _ h => h.2)); have HX2 := Aside0.mk ((hk.keep.2 gg (blk_lt HX.out) (fun he => absurd (TypeAt.ne ⟨_, he ▸ HX.out⟩ ⟨_, hblk⟩) (by decide)) (by simp)).trans HX.out); have HB2 := Aside0.mk (HB.out.trans ⟨hk.bel.os, hk.bel.tape, hk.bel.output, hk.bel.size, fun b hb => hk.bel.block b (by omega)⟩); have HK2 := Aside0.mk (HK.out.kb hk); clear hr hk hblk; have cx2 := blk_cell HX2.out; have fx2 := blk_frozen HX2.out)))
    (try simp only [Exit.inBlock, Exit.then])
    refine bodyPost_end (results_none rfl _ _ _) rfl ?_
    have eR : endRS rs (rd_T76 ss k) now cause = rs := by rw [endRS, if_neg (by omega)]
    rw [eR]
    have hle : (ss.eraseIdx k.toNat).length ≤ d1 := by rw [List.length_eraseIdx]; split <;> omega
    refine ⟨some ⟨blk, 0, none⟩, d1, B3, d3, blk, rfl, ⟨rfl, rfl⟩, blk_put HX2.out 1 _ (by first | rfl | simp), Kd.R_set (HR2.out.toR hbb hle hcm trivial) HX2.out (by decide) 1 _, Kd.R_mono (Kd.R_set HO3b.out HX2.out (by decide) 1 _) (fun _ _ => trivial), HB2.out.setCell hgb _, HK2.out.set 1 _⟩
end
section
-- NEEDS laws.eqConfig
def AskP (P : Prop) (now c : Int) : Prop := (c = 0 ∧ P ∧ (0 ≤ now ∧ now ≤ 100000)) ∨ (c = 1 ∧ ¬ P) ∨ (c = 4 ∧ P ∧ ¬ (0 ≤ now ∧ now ≤ 100000))
theorem AskP.same {P : Prop} {now c d : Int} (h : AskP P now c) (k : AskP P now d) : c = d := by
  rcases h with ⟨rfl, h1, h2⟩ | ⟨rfl, h1⟩ | ⟨rfl, h1, h2⟩ <;> rcases k with ⟨rfl, k1, k2⟩ | ⟨rfl, k1⟩ | ⟨rfl, k1, k2⟩ <;> first | rfl | exact absurd h1 k1 | exact absurd k1 h1 | exact absurd h2 k2 | exact absurd k2 h2
set_option maxHeartbeats 8000000 in
set_option maxRecDepth 100000 in
theorem sAsk1 (ip b gate : Int) (gm wm : ByteArray) (res : Int) (A6 : Option Addr) (c6 : Nat) (g : List S140) (A7 : Option Addr) (c7 : Nat) (l : List S145) (B0 B1 B2 B3 : Option Addr) (d0 d1 d2 d3 : Nat) (us : List S92) (ss : List S76) (fs : List S81) (rs : List S83) (nx : Int) (now : Int) (w : World) (hg : Kd.C k140 w A6 g.length g) (hl : Kd.C k145 w A7 l.length l) (h0 : Kd.C k92 w B0 us.length us) (h1 : Kd.C k76 w B1 ss.length ss) (h2 : Kd.C k81 w B2 fs.length fs) (h3 : Kd.C k83 w B3 rs.length rs) (zg : g.length ≤ 1152921504606846976) (zl : l.length ≤ 1152921504606846976) (zr : ∀ x ∈ l, x.f1.length ≤ 1152921504606846976 ∧ x.f0.size ≤ 1152921504606846976) (zm : gm.size ≤ 1152921504606846976) (zw : wm.size ≤ 1152921504606846976) (y0 : us.length ≤ 1152921504606846976) (y1 : ss.length ≤ 1152921504606846976) (y2 : fs.length ≤ 1152921504606846976) (y3 : rs.length ≤ 1152921504606846976) (zu : ∀ u ∈ us, u.f0.size ≤ 1152921504606846976 ∧ u.f1.size ≤ 1152921504606846976 ∧ u.f2.size ≤ 1152921504606846976) (zs : ∀ s ∈ ss, s.f2.size ≤ 1152921504606846976) (zf : ∀ f ∈ fs, f.f0.size ≤ 1152921504606846976) :
    Calls Tryz.prog 63 #[.agg #[.int .i64 ip, .int .i64 b, .int .i64 gate, .string gm, .string wm, .int .i64 res, .slice A6 g.length c6, .slice A7 l.length c7], .agg #[.slice B0 us.length d0, .slice B1 ss.length d1, .slice B2 fs.length d2, .slice B3 rs.length d3, .int .i64 nx], .int .i64 now] w fun e w' => ∃ c : Int, e = .returned (.int .i64 c) ∧ AskP (GuestsP ip b gate gm wm res g l us ss fs rs nx) now c ∧ Below w.heap.size w w' := by
  have hu := Tryz.underlying41
  have hu2 := Tryz.underlying48
  have H0 := Aside0.mk (And.intro hg (And.intro hl (And.intro h0 (And.intro h1 (And.intro h2 h3)))))
  have HZ := Aside0.mk (And.intro zr (And.intro zu (And.intro zs zf)))
  clear hg hl h0 h1 h2 h3 zr zu zs zf
  have HB := Aside0.mk (Below.refl w.heap.size w)
  have HP := Aside0.mk True.intro
  go_enter Tryz.func63, Tryz.ntmps63
  go_wp2_with (first
    | (go_at_call 9; refine (sGuests1 ip b gate gm wm res A6 c6 g A7 c7 l B0 B1 B2 B3 d0 d1 d2 d3 us ss fs rs nx _ (Kd.C_below H0.out.1 (by repeat' (with_reducible first | exact HB.out | apply below_alloc | apply below_drew1 | refine below_set ?_ (by omega)))) (Kd.C_below H0.out.2.1 (by repeat' (with_reducible first | exact HB.out | apply below_alloc | apply below_drew1 | refine below_set ?_ (by omega)))) (Kd.C_below H0.out.2.2.1 (by repeat' (with_reducible first | exact HB.out | apply below_alloc | apply below_drew1 | refine below_set ?_ (by omega)))) (Kd.C_below H0.out.2.2.2.1 (by repeat' (with_reducible first | exact HB.out | apply below_alloc | apply below_drew1 | refine below_set ?_ (by omega)))) (Kd.C_below H0.out.2.2.2.2.1 (by repeat' (with_reducible first | exact HB.out | apply below_alloc | apply below_drew1 | refine below_set ?_ (by omega)))) (Kd.C_below H0.out.2.2.2.2.2 (by repeat' (with_reducible first | exact HB.out | apply below_alloc | apply below_drew1 | refine below_set ?_ (by omega)))) zg zl HZ.out.1 zm zw y0 y1 y2 y3 HZ.out.2.1 HZ.out.2.2.1 HZ.out.2.2.2).mono ?_; rintro e w2 (⟨rfl, hr, hb⟩ | ⟨rfl, hr, hb⟩) <;> (have n_ := Aside0.mk (And.intro hr HP.out); clear HP hr; have HP := n_; clear n_; have n_ := Aside0.mk (below_step (w := w) (by repeat' (with_reducible first | exact HB.out | apply below_alloc | apply below_drew1 | refine below_set ?_ (by omega))) hb); clear HB; have HB := n_; clear n_; have n_ := Aside0.mk (blk_below (g := w.heap.size) (o := .cells #[.int .i64 ip, .int .i64 b, .int .i64 gate, .string gm, .string wm, .int .i64 res, .slice A6 g.length c6, .slice A7 l.length c7] 41 (0, 0)) (by repeat' (with_reducible first | exact HX.out | exact blk_new1 _ _ _ | exact blk_alloc (blk_new _ _) _ | refine blk_alloc ?_ _ | refine blk_drew ?_)) hb); (try clear HX); have HX := n_; clear n_; have n_ := Aside0.mk (blk_below (g := w.heap.size + 1) (o := .cells #[.slice B0 us.length d0, .slice B1 ss.length d1, .slice B2 fs.length d2, .slice B3 rs.length d3, .int .i64 nx] 48 (0, 0)) (by repeat' (with_reducible first | exact HG.out | exact blk_new1 _ _ _ | exact blk_alloc (blk_new _ _) _ | refine blk_alloc ?_ _ | refine blk_drew ?_)) hb); (try clear HG); have HG := n_; clear n_; obtain ⟨hc, hf⟩ := bcell hb; have hz : w.heap.size < w2.heap.size := blk_lt HX.out; have hz1 : w.heap.size + 1 < w2.heap.size := blk_lt HG.out; clear hb))
    | (go_at_call 35; refine (sIn1 _ _ _ _).mono ?_; rintro e w2 (⟨rfl, hr, hb⟩ | ⟨rfl, hr, hb⟩) <;> (have n_ := Aside0.mk (And.intro hr HP.out); clear HP hr; have HP := n_; clear n_; have n_ := Aside0.mk (below_step (w := w) (by repeat' (with_reducible first | exact HB.out | apply below_alloc | apply below_drew1 | refine below_set ?_ (by omega))) hb); clear HB; have HB := n_; clear n_; have n_ := Aside0.mk (blk_below (g := w.heap.size) (o := .cells #[.int .i64 ip, .int .i64 b, .int .i64 gate, .string gm, .string wm, .int .i64 res, .slice A6 g.length c6, .slice A7 l.length c7] 41 (0, 0)) (by repeat' (with_reducible first | exact HX.out | exact blk_new1 _ _ _ | exact blk_alloc (blk_new _ _) _ | refine blk_alloc ?_ _ | refine blk_drew ?_)) hb); (try clear HX); have HX := n_; clear n_; have n_ := Aside0.mk (blk_below (g := w.heap.size + 1) (o := .cells #[.slice B0 us.length d0, .slice B1 ss.length d1, .slice B2 fs.length d2, .slice B3 rs.length d3, .int .i64 nx] 48 (0, 0)) (by repeat' (with_reducible first | exact HG.out | exact blk_new1 _ _ _ | exact blk_alloc (blk_new _ _) _ | refine blk_alloc ?_ _ | refine blk_drew ?_)) hb); (try clear HG); have HG := n_; clear n_; obtain ⟨hc, hf⟩ := bcell hb; have hz : w.heap.size < w2.heap.size := blk_lt HX.out; have hz1 : w.heap.size + 1 < w2.heap.size := blk_lt HG.out; clear hb)))
  all_goals go_ret
  · exact ⟨_, rfl, .inl ⟨rfl, HP.out.2.1, HP.out.1⟩, HB.out⟩
  · exact ⟨_, rfl, .inr (.inr ⟨rfl, HP.out.2.1, HP.out.1⟩), HB.out⟩
  · exact ⟨_, rfl, .inr (.inl ⟨rfl, HP.out.1⟩), HB.out⟩
set_option maxHeartbeats 8000000 in
set_option maxRecDepth 100000 in
theorem iAsk1 (ip b gate : Int) (gm wm : ByteArray) (res : Int) (A6 : Option Addr) (c6 : Nat) (g : List S140) (A7 : Option Addr) (c7 : Nat) (l : List S145) (B0 B1 B2 B3 : Option Addr) (d0 d1 d2 d3 : Nat) (us : List S92) (ss : List S76) (fs : List S81) (rs : List S83) (nx : Int) (now : Int) (w : World) (hg : Kd.C k140 w A6 g.length g) (hl : Kd.C k145 w A7 l.length l) (h0 : Kd.C k92 w B0 us.length us) (h1 : Kd.C k76 w B1 ss.length ss) (h2 : Kd.C k81 w B2 fs.length fs) (h3 : Kd.C k83 w B3 rs.length rs) (zg : g.length ≤ 1152921504606846976) (zl : l.length ≤ 1152921504606846976) (zr : ∀ x ∈ l, x.f1.length ≤ 1152921504606846976 ∧ x.f0.size ≤ 1152921504606846976) (zm : gm.size ≤ 1152921504606846976) (zw : wm.size ≤ 1152921504606846976) (y0 : us.length ≤ 1152921504606846976) (y1 : ss.length ≤ 1152921504606846976) (y2 : fs.length ≤ 1152921504606846976) (y3 : rs.length ≤ 1152921504606846976) (ew : ss.length ≤ d1) (zu : ∀ u ∈ us, u.f0.size ≤ 1152921504606846976 ∧ u.f1.size ≤ 1152921504606846976 ∧ u.f2.size ≤ 1152921504606846976) (zs : ∀ s ∈ ss, s.f2.size ≤ 1152921504606846976) (zf : ∀ f ∈ fs, f.f0.size ≤ 1152921504606846976) :
    Calls Tryz.prog 67 #[.agg #[.int .i64 ip, .int .i64 b, .int .i64 gate, .string gm, .string wm, .int .i64 res, .slice A6 g.length c6, .slice A7 l.length c7], .agg #[.slice B0 us.length d0, .slice B1 ss.length d1, .slice B2 fs.length d2, .slice B3 rs.length d3, .int .i64 nx], .int .i64 now] w fun e w' => ∃ c : Int, e = .returned (.int .i64 c) ∧ AskP (GuestsP ip b gate gm wm res g l us ss fs rs nx) now c ∧ Below w.heap.size w w' := by
  have hu := Tryz.underlying41
  have hu2 := Tryz.underlying48
  have H0 := Aside0.mk (And.intro hg (And.intro hl (And.intro h0 (And.intro h1 (And.intro h2 h3)))))
  have HZ := Aside0.mk (And.intro zr (And.intro zu (And.intro zs zf)))
  clear hg hl h0 h1 h2 h3 zr zu zs zf
  have HB := Aside0.mk (Below.refl w.heap.size w)
  have HP := Aside0.mk True.intro
  go_enter Tryz.func67, Tryz.ntmps67
  go_wp2_with (first
    | (go_at_call 12; refine (iGuests1 ip b gate gm wm res A6 c6 g A7 c7 l B0 B1 B2 B3 d0 d1 d2 d3 us ss fs rs nx _ (Kd.C_below H0.out.1 (by repeat' (with_reducible first | exact HB.out | apply below_alloc | apply below_drew1 | refine below_set ?_ (by omega)))) (Kd.C_below H0.out.2.1 (by repeat' (with_reducible first | exact HB.out | apply below_alloc | apply below_drew1 | refine below_set ?_ (by omega)))) (Kd.C_below H0.out.2.2.1 (by repeat' (with_reducible first | exact HB.out | apply below_alloc | apply below_drew1 | refine below_set ?_ (by omega)))) (Kd.C_below H0.out.2.2.2.1 (by repeat' (with_reducible first | exact HB.out | apply below_alloc | apply below_drew1 | refine below_set ?_ (by omega)))) (Kd.C_below H0.out.2.2.2.2.1 (by repeat' (with_reducible first | exact HB.out | apply below_alloc | apply below_drew1 | refine below_set ?_ (by omega)))) (Kd.C_below H0.out.2.2.2.2.2 (by repeat' (with_reducible first | exact HB.out | apply below_alloc | apply below_drew1 | refine below_set ?_ (by omega)))) zg zl HZ.out.1 zm zw y0 y1 y2 y3 ew HZ.out.2.1 HZ.out.2.2.1 HZ.out.2.2.2).mono ?_; rintro e w2 (⟨rfl, hr, hb⟩ | ⟨rfl, hr, hb⟩) <;> (have n_ := Aside0.mk (And.intro hr HP.out); clear HP hr; have HP := n_; clear n_; have n_ := Aside0.mk (below_step (w := w) (by repeat' (with_reducible first | exact HB.out | apply below_alloc | apply below_drew1 | refine below_set ?_ (by omega))) hb); clear HB; have HB := n_; clear n_; have n_ := Aside0.mk (blk_below (g := w.heap.size) (o := .cells #[.int .i64 ip, .int .i64 b, .int .i64 gate, .string gm, .string wm, .int .i64 res, .slice A6 g.length c6, .slice A7 l.length c7] 41 (0, 0)) (by repeat' (with_reducible first | exact HX.out | exact blk_new1 _ _ _ | exact blk_alloc (blk_new _ _) _ | refine blk_alloc ?_ _ | refine blk_drew ?_)) hb); (try clear HX); have HX := n_; clear n_; have n_ := Aside0.mk (blk_below (g := w.heap.size + 1) (o := .cells #[.slice B0 us.length d0, .slice B1 ss.length d1, .slice B2 fs.length d2, .slice B3 rs.length d3, .int .i64 nx] 48 (0, 0)) (by repeat' (with_reducible first | exact HG.out | exact blk_new1 _ _ _ | exact blk_alloc (blk_new _ _) _ | refine blk_alloc ?_ _ | refine blk_drew ?_)) hb); (try clear HG); have HG := n_; clear n_; obtain ⟨hc, hf⟩ := bcell hb; have hz : w.heap.size < w2.heap.size := blk_lt HX.out; have hz1 : w.heap.size + 1 < w2.heap.size := blk_lt HG.out; clear hb))
    | (go_at_call 113; refine (iTime1 _ _).mono ?_; rintro e w2 (⟨rfl, hr, hb⟩ | ⟨rfl, hr, hb⟩) <;> (have n_ := Aside0.mk (And.intro hr HP.out); clear HP hr; have HP := n_; clear n_; have n_ := Aside0.mk (below_step (w := w) (by repeat' (with_reducible first | exact HB.out | apply below_alloc | apply below_drew1 | refine below_set ?_ (by omega))) hb); clear HB; have HB := n_; clear n_; have n_ := Aside0.mk (blk_below (g := w.heap.size) (o := .cells #[.int .i64 ip, .int .i64 b, .int .i64 gate, .string gm, .string wm, .int .i64 res, .slice A6 g.length c6, .slice A7 l.length c7] 41 (0, 0)) (by repeat' (with_reducible first | exact HX.out | exact blk_new1 _ _ _ | exact blk_alloc (blk_new _ _) _ | refine blk_alloc ?_ _ | refine blk_drew ?_)) hb); (try clear HX); have HX := n_; clear n_; have n_ := Aside0.mk (blk_below (g := w.heap.size + 1) (o := .cells #[.slice B0 us.length d0, .slice B1 ss.length d1, .slice B2 fs.length d2, .slice B3 rs.length d3, .int .i64 nx] 48 (0, 0)) (by repeat' (with_reducible first | exact HG.out | exact blk_new1 _ _ _ | exact blk_alloc (blk_new _ _) _ | refine blk_alloc ?_ _ | refine blk_drew ?_)) hb); (try clear HG); have HG := n_; clear n_; obtain ⟨hc, hf⟩ := bcell hb; have hz : w.heap.size < w2.heap.size := blk_lt HX.out; have hz1 : w.heap.size + 1 < w2.heap.size := blk_lt HG.out; clear hb)))
  all_goals go_ret
  · exact ⟨_, rfl, .inl ⟨rfl, HP.out.2.1, HP.out.1⟩, HB.out⟩
  · exact ⟨_, rfl, .inr (.inr ⟨rfl, HP.out.2.1, HP.out.1⟩), HB.out⟩
  · exact ⟨_, rfl, .inr (.inl ⟨rfl, HP.out.1⟩), HB.out⟩
def HasId (id : Int) (x : S76) : Prop := x.f0 = id
set_option maxHeartbeats 8000000 in
set_option maxRecDepth 100000 in
theorem iHasId1 (id : Int) (x : S76) (gi : Nat) (w : World) (hx : w.heap[gi]? = some (.cells #[.int .i64 id] 3 (0, 0))) : Calls Tryz.prog 125 #[.agg #[.int .i64 x.f0, .int .i64 x.f1, .string x.f2, .int .i64 x.f3, .int .i64 x.f4, .int .i64 x.f5, .int .i64 x.f6, .int .i64 x.f7, .int .i64 x.f8, .int .i64 x.f9], .pointer (some ⟨gi, 0, none⟩)] w (IsB (HasId id x) w) := by
  have hu := Tryz.underlying76
  have hc := blk_cell hx
  have hlt := blk_lt hx
  clear hx
  rcases beq_em x.f0 id with ⟨b0, k0⟩ | ⟨b0, k0⟩
  all_goals go_enter Tryz.func125, Tryz.ntmps125
  all_goals go_wp2
  all_goals go_ret
  · exact .inl ⟨rfl, k0.out, below_alloc (Below.refl _ _) _⟩
  · exact .inr ⟨rfl, k0.out, below_alloc (Below.refl _ _) _⟩
set_option maxHeartbeats 8000000 in
set_option maxRecDepth 100000 in
theorem iSes1 (gg : Nat) (B0 B1 B2 B3 : Option Addr) (n0 n2 n3 d0 d1 d2 d3 : Nat) (ss : List S76) (nx id : Int) (w : World) (hx : w.heap[gg]? = some (.cells #[.slice B0 n0 d0, .slice B1 ss.length d1, .slice B2 n2 d2, .slice B3 n3 d3, .int .i64 nx] 48 (0, 0))) (h1 : Kd.C k76 w B1 ss.length ss) (y1 : ss.length ≤ 1152921504606846976) :
    Calls Tryz.prog 69 #[.pointer (some ⟨gg, 0, none⟩), .int .i64 id] w (IsI (HasId id) ss z76 w) := by
  have hu := Tryz.underlying48
  have H0 := Aside0.mk h1
  have hc := blk_cell hx
  have hlt := blk_lt hx
  clear h1 hx
  go_enter Tryz.func69, Tryz.ntmps69
  go_wp2_with (first
    | (go_at_call 112; go_loud (refine (indexSession 125 #[.pointer (some ⟨w.heap.size, 0, none⟩)] (enters_ Tryz.func125 (by kernel_rfl) rfl) (HasId id) B1 d1 ss _ y1 (fun W x hx hb => iHasId1 id x w.heap.size W (blk_below (blk_new _ _) hb)) (Kd.C_alloc H0.out _)).mono ?_; rintro e w2 ⟨r, rfl, hb, hr⟩; have HB := Aside0.mk (below_step (below_alloc (Below.refl w.heap.size w) _) hb); have HR := Aside0.mk hr; clear hb hr)))
  go_ret
  exact ⟨r, rfl, HB.out, HR.out⟩
end
section
-- NEEDS laws.eqConfig impl.cloneGuests (*impl.Guests).expire$1 (*impl.Guests).moved$1 slices.Clone[[]impl.Session,impl.Session]
/-- What endAll makes of the sessions: kp stay, those of the second list are asked yet. -/
def endF (cz : S76 → Int) (now : Int) : List S76 → List S76 → List S83 → List Int → List S76 × List S83 × List Int
  | kp, [], rs, ids => (kp, rs, ids)
  | kp, s :: t, rs, ids => if cz s = 0 then endF cz now (kp ++ [s]) t rs ids else endF cz now kp t (endRS rs s now (cz s)) (ids ++ [s.f0])
theorem drop_int {l : List S76} {i : Int} (h0 : 0 ≤ i) (h : i < l.length) : l.drop i.toNat = rd_T76 l i :: l.drop (i + 1).toNat := by
  rw [List.drop_eq_getElem_cons (show i.toNat < l.length by omega), show (i + 1).toNat = i.toNat + 1 by omega]
  congr 1
  rw [rd_T76, List.getD_eq_getElem?_getD, List.getElem?_eq_getElem (show i.toNat < l.length by omega)]
  rfl
theorem endF_no {cz : S76 → Int} {now : Int} {kp t : List S76} {s : S76} {rs : List S83} {ids : List Int} (h : cz s = 0) : endF cz now kp (s :: t) rs ids = endF cz now (kp ++ [s]) t rs ids := by rw [endF, if_pos h]
theorem endF_yes {cz : S76 → Int} {now : Int} {kp t : List S76} {s : S76} {rs : List S83} {ids : List Int} (h : ¬ cz s = 0) : endF cz now kp (s :: t) rs ids = endF cz now kp t (endRS rs s now (cz s)) (ids ++ [s.f0]) := by rw [endF, if_neg h]
def Apart (l : List S76) : Prop := l.Pairwise (fun a b => a.f0 ≠ b.f0)
/-- The place of a session of its own id. -/
theorem place_of {kp t : List S76} {s : S76} (hp : Apart (kp ++ s :: t)) {r : Int} (r0 : 0 ≤ r) (r1 : r < (kp ++ s :: t).length) (h : HasId s.f0 ((kp ++ s :: t).getD r.toNat z76)) : r = kp.length := by
  have hk : (kp ++ s :: t)[kp.length]? = some s := by rw [List.getElem?_append_right (Nat.le_refl _), Nat.sub_self]; rfl
  rw [List.getD_eq_getElem?_getD, List.getElem?_eq_getElem (show r.toNat < (kp ++ s :: t).length by omega)] at h
  have hl : kp.length < (kp ++ s :: t).length := by rw [List.length_append, List.length_cons]; omega
  rw [List.getElem?_eq_getElem hl] at hk
  have hk := Option.some.inj hk
  unfold Apart at hp
  rw [List.pairwise_iff_getElem] at hp
  rcases Int.lt_trichotomy r kp.length with hlt | he | hlt
  · have := hp r.toNat kp.length (by omega) hl (by omega)
    rw [hk] at this
    exact absurd h this
  · exact he
  · have := hp kp.length r.toNat hl (by omega) (by omega)
    rw [hk] at this
    exact absurd h.symm this
theorem erase_at (kp t : List S76) (s : S76) : (kp ++ s :: t).eraseIdx ((kp.length : Int)).toNat = kp ++ t := by
  rw [Int.toNat_natCast, List.eraseIdx_append_of_length_le (Nat.le_refl _), Nat.sub_self]
  rfl
theorem rd_at (kp t : List S76) (s : S76) : rd_T76 (kp ++ s :: t) (kp.length : Int) = s := by
  rw [rd_T76, Int.toNat_natCast, List.getD_eq_getElem?_getD, List.getElem?_append_right (Nat.le_refl _), Nat.sub_self]
  rfl
theorem rec_len (rs : List S83) (s : S76) (now cause : Int) (h : rs.length ≤ 1048576) : (endRS rs s now cause).length ≤ 1048576 := by
  unfold endRS
  split
  · rw [List.length_append, List.length_singleton]; omega
  · exact h
/-- All blocks but gg's and those of the types of sessions and records are as they were. -/
def OthS (gg : Nat) (w W : World) : Prop := w.heap.size ≤ W.heap.size ∧ ∀ b : Nat, b < w.heap.size → b ≠ gg → ¬ TypeAt w b 76 → ¬ TypeAt w b 83 → W.heap[b]? = w.heap[b]?
theorem OthS.refl (gg : Nat) (w : World) : OthS gg w w := ⟨Nat.le_refl _, fun _ _ _ _ _ => rfl⟩
theorem OthS.below {gg : Nat} {w W V : World} (h : OthS gg w W) (hb : Below W.heap.size W V) : OthS gg w V := ⟨Nat.le_trans h.1 hb.size, fun b h1 h2 h3 h4 => (hb.block b (Nat.lt_of_lt_of_le h1 h.1)).trans (h.2 b h1 h2 h3 h4)⟩
theorem OthS.grown {gg : Nat} {w W V : World} {row : Option Nat} (h : OthS gg w W) (hg : W.grownBy V row) (hr : ∀ b, row = some b → w.heap.size ≤ b) : OthS gg w V := ⟨Nat.le_trans h.1 hg.size, fun b h1 h2 h3 h4 => (hg.block b (Nat.lt_of_lt_of_le h1 h.1) (fun he => by have := hr b he.symm; omega)).trans (h.2 b h1 h2 h3 h4)⟩
theorem OthS.ends {gg blk : Nat} {w W V : World} (h : OthS gg w W) (hk : OthK gg blk W V) (hs : TypeAt W blk 76) : OthS gg w V := ⟨Nat.le_trans h.1 hk.1, fun b h1 h2 h3 h4 => by
  have e := h.2 b h1 h2 h3 h4
  refine (hk.2 b (Nat.lt_of_lt_of_le h1 h.1) h2 (fun he => ?_) (fun ht => ?_)).trans e
  · obtain ⟨c, hc⟩ := hs
    exact h3 ⟨c, e ▸ he ▸ hc⟩
  · obtain ⟨c, hc⟩ := ht
    exact h4 ⟨c, e ▸ hc⟩⟩
theorem OthS.get {gg g : Nat} {w W : World} {cs : Array Value} {t : TypeId} (h : OthS gg w W) (hx : w.heap[g]? = some (.cells cs t (0, 0))) (hg : g ≠ gg) (h1 : t ≠ 76) (h2 : t ≠ 83) : W.heap[g]? = some (.cells cs t (0, 0)) :=
  (h.2 g (blk_lt hx) hg (fun hy => h1 (TypeAt.ne ⟨cs, hx⟩ hy)) (fun hy => h2 (TypeAt.ne ⟨cs, hx⟩ hy))).trans hx
/-- A row above N stays where a session ends whose rows are beneath. -/
theorem R_ends {α : Type} {d : Kd α} {e gg blk N : Nat} {w W : World} {base : Nat} {v : Value} {xs : List α} (h : d.R e w base (fun k => N ≤ k) v xs) (hk : OthK gg blk w W) (hg : gg < N) (hb : blk < N) (ht : ∀ q, q ∈ e :: d.E → q ≠ 83) : d.R e W base (fun k => N ≤ k) v xs :=
  Kd.R_mono (Kd.R_move (Kd.R_bound h) (fun k hk1 => by
    obtain ⟨h0, _, h3, q, hq, c, hc⟩ := hk1
    exact hk.2 k h3 (by omega) (by omega) (fun hy => ht q hq (TypeAt.ne ⟨c, hc⟩ hy)))) (fun _ hk => hk.1)
theorem clone_s (ss : List S76) (y1 : ss.length ≤ 1048577) : impl_Session_122.f ss = some ss := by
  simp only [impl_Session_122.f, Option.bind_some, List.length_nil, Nat.zero_add, List.nil_append]
  rw [if_pos (by omega)]
theorem at_place {kp t cur : List S76} {s : S76} (hc : cur = kp ++ s :: t) (hp : Apart cur) {r : Int} (h : (r = -1 ∧ ∀ x ∈ cur, ¬ HasId s.f0 x) ∨ (0 ≤ r ∧ r < cur.length ∧ HasId s.f0 (cur.getD r.toNat z76) ∧ ∀ j : Int, 0 ≤ j → j < r → ¬ HasId s.f0 (cur.getD j.toNat z76))) : r = kp.length := by
  subst hc
  rcases h with ⟨_, h⟩ | ⟨h0, h1, h2, _⟩
  · exact absurd rfl (h s (by simp))
  · exact place_of hp h0 h1 h2
set_option maxHeartbeats 8000000 in
set_option maxRecDepth 100000 in
theorem iAll1 (g : FuncId) (lb : Array Value) (eg : ∀ args w, (callFunc g args).run Tryz.prog w = .ok (.enter g args) w) (cz : S76 → Int) (gg : Nat) (B0 B1 B2 B3 : Option Addr) (n0 n2 d0 d1 d2 d3 : Nat) (ss : List S76) (rs : List S83) (nx now : Int) (base : Nat) (w : World)
    (hp : ∀ (W : World) (x : S76), OthS gg w W → Calls Tryz.prog g (#[.agg #[.int .i64 x.f0, .int .i64 x.f1, .string x.f2, .int .i64 x.f3, .int .i64 x.f4, .int .i64 x.f5, .int .i64 x.f6, .int .i64 x.f7, .int .i64 x.f8, .int .i64 x.f9]] ++ lb) W (fun e W' => e = .returned (.int .i64 (cz x)) ∧ Below W.heap.size W W'))
    (hx : w.heap[gg]? = some (.cells #[.slice B0 n0 d0, .slice B1 ss.length d1, .slice B2 n2 d2, .slice B3 rs.length d3, .int .i64 nx] 48 (0, 0))) (h1 : Kd.R k76 76 w base (fun _ => True) (.slice B1 ss.length d1) ss) (h3 : Kd.R k83 83 w base (fun _ => True) (.slice B3 rs.length d3) rs) (hgb : base ≤ gg) (z1 : ss.length ≤ 1048576) (z3 : rs.length ≤ 1048576) (nd : Apart ss) :
    Calls Tryz.prog 129 #[.pointer (some ⟨gg, 0, none⟩), .int .i64 now, .func (.func g) #[] lb] w fun e w' => ∃ (x1 : Nat) (X3 : Option Addr) (x3 : Nat) (v : Value), e = .returned v ∧ w'.heap[gg]? = some (.cells #[.slice B0 n0 d0, .slice B1 (endF cz now [] ss rs []).1.length x1, .slice B2 n2 d2, .slice X3 (endF cz now [] ss rs []).2.1.length x3, .int .i64 nx] 48 (0, 0)) ∧ Kd.R k76 76 w' base (fun _ => True) (.slice B1 (endF cz now [] ss rs []).1.length x1) (endF cz now [] ss rs []).1 ∧ Kd.R k83 83 w' base (fun _ => True) (.slice X3 (endF cz now [] ss rs []).2.1.length x3) (endF cz now [] ss rs []).2.1 ∧ Kd.R (Kd.int .i64) 3 w' base (fun k => w.heap.size ≤ k) v (endF cz now [] ss rs []).2.2 ∧ Below base w w' ∧ OthS gg w w' := by
  have hu := Tryz.underlying48
  have hu2 := Tryz.underlying76
  have hgl := blk_lt hx
  have hbl : base ≤ w.heap.size := by omega
  have hlb : ∀ b, (Value.slice B1 ss.length d1).ownBlock = some b → b < w.heap.size := fun b hb => by
    obtain ⟨c, hc⟩ := R_typeAt h1 b hb
    exact blk_lt hc
  have HP := Aside0.mk hp
  have HLB := Aside0.mk hlb
  have ND := Aside0.mk nd
  have HX := Aside0.mk hx
  have H1 := Aside0.mk h1
  have H3 := Aside0.mk h3
  have hcx := blk_cell hx
  clear hp hlb nd h1 h3 hx
  go_enter Tryz.func129, Tryz.ntmps129
  go_wp2_with (first
    | ((with_reducible refine gate_dst (N := 11) rfl ?_); refine Kd.R_lit (Kd.int .i64) (w0 := w) base 3 ?hg (N := 11) ?hd (xs := ([] : List Int)) (inner := []) (ok := fun k => w.heap.size ≤ k) (okp := fun _ => False) ?hr ?hp (fun _ hk => hk.elim) (Nat.le_refl _) (Below.refl base w) hbl (by simp) ?_; (case hd => rfl); (case hg => rfl); (case hr => first | (go_simp; done) | (go_simp; rfl)); (case hp => exact (Reps.none _ _)); intro vi wL ho hb hg_ hnew_; have hbw := (⟨hb.os, hb.tape, hb.output, hb.size, fun b hb1 => hg_.block b hb1 (by simp)⟩ : Below w.heap.size w wL); have HI := Aside0.mk ho; have HB := Aside0.mk hb; have HK := Aside0.mk ((OthS.refl gg w).below hbw); have n_ := Aside0.mk (blk_below HX.out hbw); clear HX; have HX := n_; clear n_; have n_ := Aside0.mk (Kd.R_below H1.out hbw); clear H1; have H1 := n_; clear n_; have n_ := Aside0.mk (Kd.R_below H3.out hbw); clear H3; have H3 := n_; clear n_; clear hcx; have hcx := blk_cell HX.out; have hsL := hbw.size; clear ho hb hg_ hnew_ hbw)
    | (go_at_call 122; go_loud (refine (impl_Session_122.calls B1 d1 ss ss _ (R_toC H1.out).2 (R_toC H1.out).1 (clone_s ss (by omega))).mono ?_; rintro e wC ⟨v0, rfl, o0, hb⟩; (obtain ⟨C0, c0, e0⟩ := Kd.R_slice o0); subst e0; have hsC := hb.size; have HC := Aside0.mk (Kd.R_mono (Kd.R_bound o0) (fun k hk => (Nat.le_trans hsL hk.2.1 : w.heap.size ≤ k))); clear o0; have n_ := Aside0.mk (Kd.R_below HI.out hb); clear HI; have HI := n_; clear n_; have n_ := Aside0.mk (HB.out.trans ⟨hb.os, hb.tape, hb.output, hb.size, fun b hb1 => hb.block b (by omega)⟩); clear HB; have HB := n_; clear n_; have n_ := Aside0.mk (HK.out.below hb); clear HK; have HK := n_; clear n_; have n_ := Aside0.mk (blk_below HX.out hb); clear HX; have HX := n_; clear n_; have n_ := Aside0.mk (Kd.R_below H1.out hb); clear H1; have H1 := n_; clear n_; have n_ := Aside0.mk (Kd.R_below H3.out hb); clear H3; have H3 := n_; clear n_; clear hcx hb)))
  go_loopg [7, 18] ss.length (fun gg_ v7 v18 w' => ∃ (i : Int) (kp cur : List S76) (rs2 : List S83) (ids : List Int) (x1 : Nat) (X3 : Option Addr) (x3 : Nat), v18 = .int .i64 i ∧ 0 ≤ i ∧ i ≤ ss.length ∧ ss.length - i ≤ gg_ ∧ kp.length ≤ i ∧ ids.length ≤ i ∧ rs2.length ≤ 1048576 ∧ Aside0 (cur = kp ++ ss.drop i.toNat) ∧ Aside0 (cur.Sublist ss) ∧ Aside0 (endF cz now kp (ss.drop i.toNat) rs2 ids = (endF cz now [] ss rs [])) ∧ Aside0 (Kd.R k76 76 w' wL.heap.size (fun k => w.heap.size ≤ k) (.slice C0 ss.length c0) ss) ∧ Aside0 (w'.heap[gg]? = some (.cells #[.slice B0 n0 d0, .slice B1 cur.length x1, .slice B2 n2 d2, .slice X3 rs2.length x3, .int .i64 nx] 48 (0, 0)) ∧ Kd.R k76 76 w' base (fun _ => True) (.slice B1 cur.length x1) cur ∧ Kd.R k83 83 w' base (fun _ => True) (.slice X3 rs2.length x3) rs2 ∧ Kd.R (Kd.int .i64) 3 w' base (fun k => w.heap.size ≤ k) v7 ids ∧ Below base w w' ∧ OthS gg w w'))
  case atStart => exact ⟨0, [], ss, rs, [], d1, B3, d3, rfl, Int.le_refl _, by omega, by omega, by simp, by simp, z3, ⟨rfl⟩, ⟨List.Sublist.refl _⟩, ⟨rfl⟩, HC, ⟨HX.out, H1.out, H3.out, HI.out, HB.out, HK.out⟩⟩
  case round =>
    clear HX H1 H3 HI HB HK HC
    obtain ⟨i, kp, cur, rs2, ids, x1, X3, x3, rfl, hi0, hi, hgg, hk_, hd_, hr_, ECUR, HSUB, HE, HC, HF⟩ := hrel
    have HX := Aside0.mk HF.out.1
    have H1 := Aside0.mk HF.out.2.1
    have H3 := Aside0.mk HF.out.2.2.1
    have HI := Aside0.mk HF.out.2.2.2.1
    have HB := Aside0.mk HF.out.2.2.2.2.1
    have HK := Aside0.mk HF.out.2.2.2.2.2
    clear HF
    have hcx := blk_cell HX.out
    have hzx := blk_lt HX.out
    have hwr := HB.out.size
    by_cases hlt : i < ss.length
    · obtain ⟨ad, eA, hrow⟩ := at_T76 (R_toC HC.out).2 i hi0 hlt
      subst eA
      have EDR := Aside0.mk (drop_int hi0 hlt)
      have hcl : cur.length ≤ 1048576 := Nat.le_trans HSUB.out.length_le z1
      rcases beq_em (cz (rd_T76 ss i)) 0 with ⟨b0, k0⟩ | ⟨b0, k0⟩
      · go_wp2_with (first
          | ((refine (HP.out _ (rd_T76 ss i) (HK.out.below (below_alloc (Below.refl _ _) _))).mono ?_); rintro e w2 ⟨rfl, hb0⟩; have hb := below_step (below_alloc (Below.refl _ _) _) hb0; have HU := Aside0.mk (blk_below (blk_new wr (.cells #[.int .i64 (rd_T76 ss i).f0, .int .i64 (rd_T76 ss i).f1, .string (rd_T76 ss i).f2, .int .i64 (rd_T76 ss i).f3, .int .i64 (rd_T76 ss i).f4, .int .i64 (rd_T76 ss i).f5, .int .i64 (rd_T76 ss i).f6, .int .i64 (rd_T76 ss i).f7, .int .i64 (rd_T76 ss i).f8, .int .i64 (rd_T76 ss i).f9] 76 (0, 0))) hb0); have hsz2 := blk_lt HU.out; have n_ := Aside0.mk (blk_below HX.out hb); clear HX; have HX := n_; clear n_; have n_ := Aside0.mk (Kd.R_below H1.out hb); clear H1; have H1 := n_; clear n_; have n_ := Aside0.mk (Kd.R_below H3.out hb); clear H3; have H3 := n_; clear n_; have n_ := Aside0.mk (Kd.R_below HI.out hb); clear HI; have HI := n_; clear n_; have n_ := Aside0.mk (Kd.R_below HC.out hb); clear HC; have HC := n_; clear n_; have n_ := Aside0.mk ((HB.out.trans ⟨hb.os, hb.tape, hb.output, hb.size, fun b hb1 => hb.block b (by omega)⟩)); clear HB; have HB := n_; clear n_; have n_ := Aside0.mk (HK.out.below hb); clear HK; have HK := n_; clear n_; clear hrow hcx hzx hb hb0; have hcx := blk_cell HX.out; have hzx := blk_lt HX.out; have hcu := blk_cell HU.out))
        go_roundg (ss.length - (i + 1)).toNat
        case measure => omega
        case rel => exact ⟨i + 1, kp ++ [rd_T76 ss i], cur, rs2, ids, x1, X3, x3, rfl, by omega, by omega, by omega, by rw [List.length_append, List.length_singleton]; omega, by omega, hr_, ⟨by rw [ECUR.out, EDR.out, List.append_assoc]; rfl⟩, HSUB, ⟨by rw [← HE.out, EDR.out, endF_no k0.out]⟩, HC, ⟨HX.out, H1.out, H3.out, HI.out, HB.out, HK.out⟩⟩
      · go_wp2_with (first
          | ((with_reducible refine gate_builtin (b := .append) (xs := #[.tmp 27, .tmp 30]) rfl ?_); at_builtin; refine Kd.R_append (Kd.int .i64) (w0 := w) base rfl (.tmp 27) (.tmp 30) 58 3 (.int .i64 0) 8 rfl Tryz.underlying58 info3 rfl (by decide) (by omega) _ ids ((rd_T76 ss i).f0) [.int .i64 ((rd_T76 ss i).f0)] (fun k => w.heap.size ≤ k) (fun _ => False) rfl (by first | (go_simp; done) | (go_simp; rfl)) ?aP (fun _ hk => hk.elim) ?aF HI.out HB.out ?aS ?aL ?_; (case aP => exact rfl); (case aF => exact (fun k_ hk => by omega)); (case aS => omega); (case aL => omega); intro v5 w5 ho hb1 hg hat; have n_ := Aside0.mk (blk_grown HX.out hg (fun he => by have := HI.out.1 gg he.symm; omega)); clear HX; have HX := n_; clear n_; have n_ := Aside0.mk (blk_grown HU.out hg (Kd.R_ne HI.out HU.out (by decide))); clear HU; have HU := n_; clear n_; have n_ := Aside0.mk (Kd.R_over' H1.out (Kd.R_typed HI.out) (by decide) hg); clear H1; have H1 := n_; clear n_; have n_ := Aside0.mk (Kd.R_over' H3.out (Kd.R_typed HI.out) (by decide) hg); clear H3; have H3 := n_; clear n_; have n_ := Aside0.mk (Kd.R_over' HC.out (Kd.R_typed HI.out) (by decide) hg); clear HC; have HC := n_; clear n_; have n_ := Aside0.mk (HK.out.grown hg (fun b_ he => HI.out.1 b_ he)); clear HK; have HK := n_; clear n_; clear HB; have HB := Aside0.mk hb1; clear HI; have HI := Aside0.mk ho; clear ho hb1 hg hat hcx hzx hcu; have hcx := blk_cell HX.out; have hzx := blk_lt HX.out; have hcu := blk_cell HU.out)
          | (go_at_call 69; go_loud (refine (iSes1 gg B0 B1 B2 X3 _ _ _ d0 x1 d2 x3 cur nx _ _ HX.out (R_toC H1.out).2 (by omega)).mono ?_; rintro e w6 ⟨r, rfl, hb, hr⟩; have hrk := at_place (Eq.trans ECUR.out (congrArg (kp ++ ·) EDR.out)) (ND.out.sublist HSUB.out) hr; subst hrk; clear hr; have n_ := Aside0.mk (blk_below HX.out hb); clear HX; have HX := n_; clear n_; have n_ := Aside0.mk (blk_below HU.out hb); clear HU; have HU := n_; clear n_; have n_ := Aside0.mk (Kd.R_below H1.out hb); clear H1; have H1 := n_; clear n_; have n_ := Aside0.mk (Kd.R_below H3.out hb); clear H3; have H3 := n_; clear n_; have n_ := Aside0.mk (Kd.R_below HI.out hb); clear HI; have HI := n_; clear n_; have n_ := Aside0.mk (Kd.R_below HC.out hb); clear HC; have HC := n_; clear n_; have n_ := Aside0.mk ((HB.out.trans ⟨hb.os, hb.tape, hb.output, hb.size, fun b hb1 => hb.block b (by omega)⟩)); clear HB; have HB := n_; clear n_; have n_ := Aside0.mk (HK.out.below hb); clear HK; have HK := n_; clear n_; clear hcx hzx hcu hb; have hcx := blk_cell HX.out; have hzx := blk_lt HX.out; have hcu := blk_cell HU.out))
          | (go_at_call 70; go_loud (refine (iEnd1 gg B0 B1 B2 X3 _ _ d0 x1 d2 x3 cur rs2 nx (kp.length : Int) now _ base _ HX.out H1.out H3.out hgb (by omega) (by rw [ECUR.out, EDR.out, List.length_append, List.length_cons]; omega) hcl hr_).mono ?_; rintro e w7 ⟨Y1, y1, Y3, y3, bk, rfl, ⟨hB1, hY1⟩, q1, q2, q3, hbb, hok⟩; have hbk : bk < w.heap.size := HLB.out bk (by rw [hB1]; rfl); have hst := R_typeAt H1.out bk (by rw [hB1]; rfl); have n_ := Aside0.mk (HK.out.ends hok hst); clear HK; have HK := n_; clear n_; have n_ := Aside0.mk (R_ends HC.out hok hgl hbk (by decide)); clear HC; have HC := n_; clear n_; have n_ := Aside0.mk (R_ends HI.out hok hgl hbk (by decide)); clear HI; have HI := n_; clear n_; have n_ := Aside0.mk (HB.out.trans hbb); clear HB; have HB := n_; clear n_; (rw [hY1, ← hB1] at q1 q2); clear HX H1 H3 HU; have EQ1 := ECUR.out; rw [EDR.out] at EQ1; rw [EQ1, erase_at] at q2; rw [EQ1, erase_at, rd_at] at q1; rw [EQ1, rd_at] at q3; have HX := Aside0.mk q1; have H1 := Aside0.mk q2; have H3 := Aside0.mk q3; have ECR := Aside0.mk EQ1; clear q1 q2 q3 hbb hok hst EQ1 hB1 hY1 hcx hzx hcu))
          | ((refine (HP.out _ (rd_T76 ss i) (HK.out.below (below_alloc (Below.refl _ _) _))).mono ?_); rintro e w2 ⟨rfl, hb0⟩; have hb := below_step (below_alloc (Below.refl _ _) _) hb0; have HU := Aside0.mk (blk_below (blk_new wr (.cells #[.int .i64 (rd_T76 ss i).f0, .int .i64 (rd_T76 ss i).f1, .string (rd_T76 ss i).f2, .int .i64 (rd_T76 ss i).f3, .int .i64 (rd_T76 ss i).f4, .int .i64 (rd_T76 ss i).f5, .int .i64 (rd_T76 ss i).f6, .int .i64 (rd_T76 ss i).f7, .int .i64 (rd_T76 ss i).f8, .int .i64 (rd_T76 ss i).f9] 76 (0, 0))) hb0); have hsz2 := blk_lt HU.out; have n_ := Aside0.mk (blk_below HX.out hb); clear HX; have HX := n_; clear n_; have n_ := Aside0.mk (Kd.R_below H1.out hb); clear H1; have H1 := n_; clear n_; have n_ := Aside0.mk (Kd.R_below H3.out hb); clear H3; have H3 := n_; clear n_; have n_ := Aside0.mk (Kd.R_below HI.out hb); clear HI; have HI := n_; clear n_; have n_ := Aside0.mk (Kd.R_below HC.out hb); clear HC; have HC := n_; clear n_; have n_ := Aside0.mk ((HB.out.trans ⟨hb.os, hb.tape, hb.output, hb.size, fun b hb1 => hb.block b (by omega)⟩)); clear HB; have HB := n_; clear n_; have n_ := Aside0.mk (HK.out.below hb); clear HK; have HK := n_; clear n_; clear hrow hcx hzx hb hb0; have hcx := blk_cell HX.out; have hzx := blk_lt HX.out; have hcu := blk_cell HU.out))
        go_roundg (ss.length - (i + 1)).toNat
        case measure => omega
        case rel => exact ⟨i + 1, kp, kp ++ ss.drop (i + 1).toNat, endRS rs2 (rd_T76 ss i) now (cz (rd_T76 ss i)), ids ++ [(rd_T76 ss i).f0], y1, Y3, y3, rfl, by omega, by omega, by omega, by omega, by rw [List.length_append, List.length_singleton]; omega, rec_len _ _ _ _ hr_, ⟨rfl⟩, ⟨(by rw [ECR.out]; exact List.Sublist.append_left (List.sublist_cons_self _ _) _ : (kp ++ ss.drop (i + 1).toNat).Sublist cur).trans HSUB.out⟩, ⟨by rw [← HE.out, EDR.out, endF_yes k0.out]⟩, HC, ⟨HX.out, H1.out, H3.out, HI.out, HB.out, HK.out⟩⟩
    · obtain rfl : i = ss.length := by omega
      have he := HE.out
      rw [Int.toNat_natCast, List.drop_length] at he
      have hc := ECUR.out
      rw [Int.toNat_natCast, List.drop_length, List.append_nil] at hc
      subst hc
      rw [endF] at he
      go_wp2
      go_ret
      rw [← he]
      exact ⟨x1, X3, x3, _, rfl, HX.out, H1.out, H3.out, HI.out, HB.out, HK.out⟩
def czE (now : Int) (s : S76) : Int := if s.f8 ≤ now then 3 else if wrap64 (now - s.f5) ≥ s.f9 then 2 else 0
def czM (mac : ByteArray) (ip : Int) (s : S76) : Int := if ((s.f2.toList == mac.toList) != (s.f3 == ip)) = true then 5 else 0
theorem OthS.pre {gg : Nat} {w W V : World} (hb : Below w.heap.size w W) (h : OthS gg W V) : OthS gg w V := ⟨Nat.le_trans hb.size h.1, fun b h1 h2 h3 h4 => by
  have e := hb.block b h1
  refine (h.2 b (Nat.lt_of_lt_of_le h1 hb.size) h2 (fun ⟨c, hc⟩ => h3 ⟨c, e ▸ hc⟩) (fun ⟨c, hc⟩ => h4 ⟨c, e ▸ hc⟩)).trans e⟩
theorem czM_f (mac : ByteArray) (ip : Int) (x : S76) : impl_Guests_moved_1.f x.f0 x.f1 x.f2 x.f3 x.f4 x.f5 x.f6 x.f7 x.f8 x.f9 mac ip = some (czM mac ip x) := by
  unfold impl_Guests_moved_1.f czM
  repeat' split
  all_goals rfl
theorem cell0 {w : World} {g : Nat} {t : TypeId} {v : Value} (h : w.heap[g]? = some (.cells #[v] t (0, 0))) : w.cell? ⟨g, 0, none⟩ = some v := by
  rw [blk_cell h]; rfl
set_option maxHeartbeats 8000000 in
set_option maxRecDepth 100000 in
theorem iMov1 (gg : Nat) (B0 B1 B2 B3 : Option Addr) (n0 n2 d0 d1 d2 d3 : Nat) (ss : List S76) (rs : List S83) (nx : Int) (mac : ByteArray) (ip now : Int) (base : Nat) (w : World) (hx : w.heap[gg]? = some (.cells #[.slice B0 n0 d0, .slice B1 ss.length d1, .slice B2 n2 d2, .slice B3 rs.length d3, .int .i64 nx] 48 (0, 0))) (h1 : Kd.R k76 76 w base (fun _ => True) (.slice B1 ss.length d1) ss) (h3 : Kd.R k83 83 w base (fun _ => True) (.slice B3 rs.length d3) rs) (hgb : base ≤ gg) (z1 : ss.length ≤ 1048576) (z3 : rs.length ≤ 1048576) (nd : Apart ss) :
    Calls Tryz.prog 84 #[.pointer (some ⟨gg, 0, none⟩), .string mac, .int .i64 ip, .int .i64 now] w fun e w' => ∃ (x1 : Nat) (X3 : Option Addr) (x3 : Nat) (v : Value), e = .returned v ∧ w'.heap[gg]? = some (.cells #[.slice B0 n0 d0, .slice B1 (endF (czM mac ip) now [] ss rs []).1.length x1, .slice B2 n2 d2, .slice X3 (endF (czM mac ip) now [] ss rs []).2.1.length x3, .int .i64 nx] 48 (0, 0)) ∧ Kd.R k76 76 w' base (fun _ => True) (.slice B1 (endF (czM mac ip) now [] ss rs []).1.length x1) (endF (czM mac ip) now [] ss rs []).1 ∧ Kd.R k83 83 w' base (fun _ => True) (.slice X3 (endF (czM mac ip) now [] ss rs []).2.1.length x3) (endF (czM mac ip) now [] ss rs []).2.1 ∧ Kd.R (Kd.int .i64) 3 w' base (fun k => w.heap.size ≤ k) v (endF (czM mac ip) now [] ss rs []).2.2 ∧ Below base w w' ∧ OthS gg w w' := by
  have hu := Tryz.underlying48
  have hgl := blk_lt hx
  have HX := Aside0.mk hx
  have H1 := Aside0.mk h1
  have H3 := Aside0.mk h3
  have ND := Aside0.mk nd
  clear hx h1 h3 nd
  go_enter Tryz.func84, Tryz.ntmps84
  go_wp2_with (first
    | (go_at_call 129; go_loud (have hb := ((below_alloc (below_alloc (Below.refl _ _) _) _) : Below w.heap.size w ((w.alloc (.cells #[.string mac] 9 (0, 0))).alloc (.cells #[.int .i64 ip] 3 (0, 0)))); refine (iAll1 131 #[.pointer (some ⟨w.heap.size, 0, none⟩), .pointer (some ⟨w.heap.size + 1, 0, none⟩)] (enters_ Tryz.func131 (by kernel_rfl) rfl) (czM mac ip) gg B0 B1 B2 B3 n0 n2 d0 d1 d2 d3 ss rs nx now base _ (fun W x hk => impl_Guests_moved_1.calls w.heap.size (w.heap.size + 1) x.f0 x.f1 x.f2 x.f3 x.f4 x.f5 x.f6 x.f7 x.f8 x.f9 mac ip (czM mac ip x) W (cell0 (hk.get (blk_alloc (blk_new w (.cells #[.string mac] 9 (0, 0))) _) (by omega) (by decide) (by decide))) (cell0 (hk.get (blk_new1 w (.cells #[.string mac] 9 (0, 0)) (.cells #[.int .i64 ip] 3 (0, 0))) (by omega) (by decide) (by decide))) (czM_f mac ip x)) (blk_below HX.out hb) (Kd.R_below H1.out hb) (Kd.R_below H3.out hb) hgb z1 z3 ND.out).mono ?_; rintro e w2 ⟨x1, X3, x3, v, rfl, q1, q2, q3, q4, q5, q6⟩; have Q := Aside0.mk (And.intro q1 (And.intro q2 (And.intro q3 (And.intro (Kd.R_mono q4 (fun k hk => (Nat.le_trans hb.size hk : w.heap.size ≤ k))) (And.intro ((⟨hb.os, hb.tape, hb.output, hb.size, fun b hb1 => hb.block b (by omega)⟩ : Below base w _).trans q5) (OthS.pre hb q6)))))); clear q1 q2 q3 q4 q5 q6 hb)))
  go_ret
  exact ⟨x1, X3, x3, v, rfl, Q.out⟩
end
end Go.Proofs.YtkklokkldgkacaaGreat.X
