/- The program's FlowsDrop returns what the reference's FlowsDrop returns, for all arguments. Conditions: none beyond the row's own reach. -/
import Derived.Test.YtlpkldomoniegaaCFnExactFlowsDrop4
import Derived.Test.YtlpkldomoniegaaRows
namespace Go.Proofs.Ytlpkldomoniegaa.X
open Go.RowKit Go.Proofs.YtlpkldomoniegaaW.PrintWords Go.Proofs.YtlpkldomoniegaaW.PrintLast Go.Proofs.YtlpkldomoniegaaW.PrintMore
attribute [local go_sem] max2_int min2_int max_two min_two max_three min_three max_four min_four   -- for this text's walks alone
set_option linter.unusedVariables false
set_option linter.unusedSimpArgs false
section
-- IMPORT Derived.SizedLaws
-- IMPORT Derived.ProofKit
-- IMPORT Derived.WalkKit
-- IMPORT Derived.OpenShut
-- IMPORT Derived.ShutString
-- IMPORT Derived.ChangeOld
-- IMPORT Derived.Below
-- IMPORT Derived.Deep.Slices
open Go.ChangeShapes Go.WideShapes Go.ChangeAt Go.Deep
/-- What reads as data of type t is a value of the kind d, and meets wf. -/
structure Opens (P : Program) (t : TypeId) {α : Type} (d : Kd α) (wf : α → Prop) : Prop where
  sz : P.cellsOf t = d.sz
  op : ∀ {H : Type} {enc : TypeId × Value → H} {w : World} {fuel : Nat} {cs : List Value} {y : DataW H × List MemPlace}, DataW.trod enc P w 0 (fun _ => true) true fuel t cs = some y → (∀ n ∈ y.1.weights P t, n ≤ reachBytes) → ∃ x, d.K w x cs ∧ wf x
theorem Opens.int {P : Program} {t : TypeId} {k : IntKind} (hu : P.underlying t = some (.int k)) (hc : P.cellsOf t = 1) : Opens P t (Kd.int k) (fun n => (Lit.int k n).wf = true) :=
  ⟨hc, fun h _ => by obtain ⟨n, rfl, rfl, wf⟩ := DataW.trod_int hu h; exact ⟨n, rfl, wf⟩⟩
theorem Opens.bool {P : Program} {t : TypeId} (hu : P.underlying t = some .bool) (hc : P.cellsOf t = 1) : Opens P t Kd.bool (fun _ => True) :=
  ⟨hc, fun h _ => by obtain ⟨n, rfl, rfl⟩ := DataW.trod_bool hu h; exact ⟨n, rfl, trivial⟩⟩
theorem Opens.string {P : Program} {t : TypeId} (hu : P.underlying t = some .string) (hc : P.cellsOf t = 1) : Opens P t Kd.string (fun s => s.size ≤ 140737488351232) :=
  ⟨hc, fun h hw => by
    obtain ⟨s, rfl, rfl, _⟩ := DataW.trod_string hu h
    refine ⟨s, rfl, ?_⟩
    have := hw s.data.toList.length (by simp [DataW.weights])
    simpa [reachBytes] using this⟩
theorem weights_mem_all {H : Type} {P : Program} {e : TypeId} {n : Nat} : ∀ {l : List (DataW H)} {d : DataW H}, d ∈ l → n ∈ d.weights P e → n ∈ DataW.weightsAll P e l
  | d0 :: l, d, hd, hn => by
    simp only [DataW.weightsAll, List.mem_append]
    rcases List.mem_cons.1 hd with rfl | hd
    · exact .inl hn
    · exact .inr (weights_mem_all hd hn)
  | [], _, hd, _ => by cases hd
theorem list_of_all {α : Type} {Q : Nat → α → Prop} (n : Nat) (h : ∀ i, i < n → ∃ x, Q i x) : ∃ xs : List α, xs.length = n ∧ ∀ j x, xs[j]? = some x → Q j x := by
  induction n with
  | zero => exact ⟨[], rfl, fun j x h => by simp at h⟩
  | succ n ih =>
    obtain ⟨xs, hl, hx⟩ := ih (fun i hi => h i (by omega))
    obtain ⟨x, hq⟩ := h n (by omega)
    refine ⟨xs ++ [x], by simp [hl], fun j y hj => ?_⟩
    rcases Nat.lt_or_ge j xs.length with hlt | hge
    · rw [List.getElem?_append_left hlt] at hj
      exact hx j y hj
    · rw [List.getElem?_append_right hge] at hj
      have : j - xs.length = 0 := by
        rcases Nat.lt_or_ge (j - xs.length) 1 with h1 | h1
        · omega
        · rw [List.getElem?_eq_none (by simpa using h1)] at hj; cases hj
      rw [this] at hj
      simp at hj
      subst hj
      have : j = n := by omega
      subst this
      exact hq
theorem Opens.slice {α : Type} {P : Program} {t e : TypeId} {d : Kd α} {wf : α → Prop} (hu : P.underlying t = some (.slice e)) (hc : P.cellsOf t = 1) (B : Nat) (hB : P.bytesOf e = B) (he : Opens P e d wf) :
    Opens P t (Kd.slice e d) (fun xs => xs.length * B ≤ 140737488351232 ∧ xs.length ≤ maxLen ∧ ∀ x ∈ xs, wf x) :=
  ⟨hc, fun {H enc w fuel cs y} h hw => by
    rcases open_slice hu h with ⟨rfl, rfl⟩ | ⟨a, len, cap, m, n, D, Pl, rfl, _, hl, hm, hmm, rfl, hel⟩
    · exact ⟨[], ⟨none, 0, rfl, Nat.le_refl _, Kd.C_nil d w⟩, by simp, by simp, fun x hx => by cases hx⟩
    have hmc : m = cap := by rw [hmm]; rfl
    subst hmc
    have hwt : ∀ i, i < len → ∀ z ∈ (D i).weights P e, z ≤ reachBytes := fun i hi z hz => hw z (by
      simp only [DataW.weights, hu]
      exact List.mem_cons_of_mem _ (List.mem_append_left _ (weights_mem_all (List.mem_map.2 ⟨i, List.mem_range.2 hi, rfl⟩) hz)))
    have hall : ∀ i, i < len → ∃ x : α, (∃ c, c.length = d.sz ∧ d.K w x c ∧ ∀ j u, c[j]? = some u → w.cell? (a.add (i * d.sz + j)) = some u) ∧ wf x := by
      intro i hi
      obtain ⟨cs', hcs, htr⟩ := hel i (by omega)
      obtain ⟨x, hk, hx⟩ := he.op htr (hwt i hi)
      obtain ⟨_, hlen, hcell⟩ := World.cells?_some hcs
      refine ⟨x, ⟨cs', by rw [hlen, he.sz], hk, fun j u hu' => ?_⟩, hx⟩
      have hj : j < cs'.length := by
        rcases Nat.lt_or_ge j cs'.length with h1 | h1
        · exact h1
        · rw [List.getElem?_eq_none h1] at hu'; cases hu'
      rw [hlen] at hj
      have hcj := hcell j hj
      rw [hu', he.sz, Addr.add_add] at hcj
      exact hcj
    obtain ⟨xs, hxl, hxs⟩ := list_of_all (Q := fun i x => (∃ c, c.length = d.sz ∧ d.K w x c ∧ ∀ j u, c[j]? = some u → w.cell? (a.add (i * d.sz + j)) = some u) ∧ wf x) len hall
    subst hxl
    refine ⟨xs, ⟨some a, m, rfl, hl, rfl, ?_, fun _ => ⟨a, rfl, fun j p hp => (hxs j p hp).1⟩⟩, ?_, ?_, ?_⟩
    · unfold maxLen at hm; omega
    · have := hw ((List.map D (List.range xs.length)).length + (List.map (fun j => D (xs.length + j)) (List.range (m - xs.length))).length) |> fun h => h
      have h1 := hw (((List.map D (List.range xs.length)).length + (List.map (fun j => D (xs.length + j)) (List.range (m - xs.length))).length) * P.bytesOf e) (by simp only [DataW.weights, hu]; exact List.mem_cons_self)
      rw [hB] at h1
      simp only [List.length_map, List.length_range] at h1
      have h2 : xs.length * B ≤ (xs.length + (m - xs.length)) * B := Nat.mul_le_mul_right _ (by omega)
      exact Nat.le_trans h2 h1
    · omega
    · intro x hx
      obtain ⟨j, hj, rfl⟩ := List.getElem_of_mem hx
      exact (hxs j _ (List.getElem?_eq_getElem hj)).2⟩
/-- Fields in line from cell o on. -/
structure OpensF (P : Program) (fs : List Field) (o : Nat) {α : Type} (d : Kd α) (wf : α → Prop) : Prop where
  op : ∀ {H : Type} {enc : TypeId × Value → H} {w : World} {n : Nat} {cs : List Value} {xs : List (DataW H × List MemPlace)}, o + d.sz ≤ cs.length → xs.length = fs.length →
    (∀ (i : Nat) (f : Field), fs[i]? = some f → DataW.trod enc P w 0 (fun _ => true) true n f.type ((cs.drop f.offset).take (P.cellsOf f.type)) = xs[i]?) →
    (∀ z ∈ DataW.weightsEach P (fs.map (·.type)) (xs.map (·.1)), z ≤ reachBytes) → ∃ x, d.K w x ((cs.drop o).take d.sz) ∧ wf x
theorem OpensF.one {α : Type} {P : Program} {f : Field} {o : Nat} {d : Kd α} {wf : α → Prop} (ho : f.offset = o) (h : Opens P f.type d wf) : OpensF P [f] o d wf := by
  refine ⟨fun {H enc w n cs xs} hlen hxl htr hw => ?_⟩
  match xs, hxl with
  | [y], _ =>
    have h1 := htr 0 f rfl
    rw [ho, h.sz] at h1
    exact h.op (y := y) h1 (fun z hz => hw z (by simpa [DataW.weightsEach] using hz))
theorem OpensF.cons {α β : Type} {P : Program} {f : Field} {fs : List Field} {o : Nat} {a : Kd α} {b : Kd β} {wa : α → Prop} {wb : β → Prop} (ho : f.offset = o) (h : Opens P f.type a wa) (o' : Nat) (ho' : o + a.sz = o') (hr : OpensF P fs o' b wb) :
    OpensF P (f :: fs) o (Kd.pair a b) (fun x => wa x.1 ∧ wb x.2) := by
  refine ⟨fun {H enc w n cs xs} hlen hxl htr hw => ?_⟩
  match xs, hxl with
  | y :: ys, hxl =>
    have h1 := htr 0 f rfl
    rw [ho, h.sz] at h1
    have hsz : (Kd.pair a b).sz = a.sz + b.sz := rfl
    rw [hsz] at hlen
    obtain ⟨x0, k0, w0⟩ := h.op (y := y) h1 (fun z hz => hw z (by simp only [List.map_cons, DataW.weightsEach, List.mem_append]; exact .inl hz))
    obtain ⟨x1, k1, w1⟩ := hr.op (n := n) (cs := cs) (xs := ys) (enc := enc) (w := w) (by omega) (by simpa using hxl) (fun i g hg => by have := htr (i + 1) g (by simpa using hg); simpa using this) (fun z hz => hw z (by simp only [List.map_cons, DataW.weightsEach, List.mem_append]; exact .inr hz))
    refine ⟨(x0, x1), ⟨(cs.drop o).take a.sz, (cs.drop o').take b.sz, ?_, k0, k1⟩, w0, w1⟩
    rw [hsz, ← ho', List.take_add, List.drop_drop]
theorem Opens.struct {α : Type} {P : Program} {t : TypeId} {fs : Array Field} {d : Kd α} {wf : α → Prop} (hu : P.underlying t = some (.struct fs)) (hc : P.cellsOf t = d.sz) (h : OpensF P fs.toList 0 d wf) : Opens P t d wf :=
  ⟨hc, fun {H enc w fuel cs y} ht hw => by
    obtain ⟨xs, n, rfl, rfl, hlen, hxl, htr⟩ := DataW.trod_struct hu ht
    obtain ⟨x, hk, hx⟩ := h.op (enc := enc) (w := w) (n := n) (cs := cs) (xs := xs) (by omega) (by simpa using hxl) (fun i f hf => htr i f (by simpa using hf)) (fun z hz => hw z (by simp only [DataW.weights, hu]; exact hz))
    refine ⟨x, ?_, hx⟩
    rw [List.drop_zero, List.take_of_length_le (by omega)] at hk
    exact hk⟩
theorem Opens.iso {α β : Type} {P : Program} {t : TypeId} {d : Kd α} {wf : α → Prop} (f : β → α) (g : α → β) (hfg : ∀ x, f (g x) = x) (h : Opens P t d wf) : Opens P t (Kd.iso d f) (fun x => wf (f x)) :=
  ⟨h.sz, fun ht hw => by
    obtain ⟨x, hk, hx⟩ := h.op ht hw
    exact ⟨g x, by show d.K _ (f (g x)) _; rw [hfg]; exact hk, by rw [hfg]; exact hx⟩⟩
end
section
/-! ### spec_FlowsExpire: function 45 -/
def spec_FlowsExpire.f (k : Nat) (l0 : List (S71)) (a1 : Int) : Option ((List (S71)) × Int) := if (l0.length : Int) > 4096 then (some ((([] : List (S71))), 2)) else ((spec_FlowsOK.f k l0).bind fun t844 => (if t844 = true then ((spec_l09Keep.f k l0 a1 (-1)).bind fun t845 => (some (t845, 0))) else (some ((([] : List (S71))), 1))))
theorem spec_FlowsExpire.mono : ∀ a0 a1 k, LeO (spec_FlowsExpire.f k a0 a1) (spec_FlowsExpire.f (k + 1) a0 a1) := by
  intro a0 a1 k
  unfold spec_FlowsExpire.f
  repeat' first
      | (with_reducible exact spec_FlowsOK.mono ..)
      | (with_reducible exact spec_l09Keep.mono ..)
      | (with_reducible exact LeO.refl _)
      | (with_reducible exact LeO.none _)
      | (with_reducible refine LeO.ite ?_ ?_)
      | (with_reducible refine LeO.bind ?_ (fun _ => ?_))
      | exact spec_FlowsOK.mono ..
      | exact spec_l09Keep.mono ..
      | exact LeO.none _
      | refine LeO.ite ?_ ?_
      | refine LeO.bind ?_ (fun _ => ?_)
set_option maxHeartbeats 8000000 in
set_option maxRecDepth 100000 in
theorem spec_FlowsExpire.calls (k : Nat) (A0 : Option Addr) (c0 : Nat) (l0 : List (S71)) (a1 : Int) (r1 : List (S71)) (r2 : Int) (w : World) (hr0 : Kd.C k71 w A0 l0.length l0) (hc0 : l0.length ≤ c0) (h : spec_FlowsExpire.f k l0 a1 = some (r1, r2)) :
    Calls Try.prog 45 #[.slice A0 l0.length c0, .int .i64 a1] w fun e w' => ∃ v0_ : Value, e = .returned (.tuple #[v0_, .int .i64 r2]) ∧ Kd.R k71 71 w' w.heap.size (fun _ => True) v0_ r1 ∧ Below w.heap.size w w' := by
  have HR0 := Aside0.mk hr0
  have HC0 := Aside0.mk hc0
  clear hr0 hc0
  have HB := Aside0.mk (Below.refl w.heap.size w)
  have H : (if (l0.length : Int) > 4096 then (some ((([] : List (S71))), 2)) else ((spec_FlowsOK.f k l0).bind fun t844 => (if t844 = true then ((spec_l09Keep.f k l0 a1 (-1)).bind fun t845 => (some (t845, 0))) else (some ((([] : List (S71))), 1))))) = some (r1, r2) := h
  clear h
  by_cases c3 : (l0.length : Int) > 4096
  · rw [if_pos c3] at H
    have c3b0 : decide (4096 < (l0.length : Int)) = true := decide_eq_true c3
    have c3b1 : decide (4096 < l0.length) = true := decide_eq_true (by omega)
    clear c3
    obtain ⟨y841, hy841⟩ : ∃ y_ : List (S71), y_ = (([] : List (S71))) := ⟨_, rfl⟩
    replace H : (some (y841, 2)) = some (r1, r2) := by first | (rw [hy841]; with_reducible exact H) | (have H2_ := (Option.bind_some _ _).symm.trans H; rw [hy841]; with_reducible exact H2_) | (have H2_ := (Option.bind_some _ _).symm.trans H; with_reducible exact H2_) | with_reducible exact H | (rw [hy841]; exact H) | exact H
    have Ny841 := Aside0.mk hy841
    clear hy841
    simp only [Option.some.injEq, Prod.mk.injEq] at H
    obtain ⟨rfl, rfl⟩ := H
    go_enter Try.func45, Try.ntmps45
    go_wp2_with (first | ((with_reducible refine gate_dst (N := 9) rfl ?_); refine Kd.R_lit k71 _ 71 ?hg (N := 9) ?hd (xs := ([] : List (S71))) (inner := []) (ok := fun _ => True) (okp := fun _ => True) ?hr ?hp (fun _ hk => hk) trivial (Below.refl _ _) (Nat.le_refl _) (by simp) ?_; (case hd => rfl); (case hg => rfl); (case hr => first | (go_simp; done) | (go_simp; rfl)); (case hp => exact (Reps.none _ _)); intro v842 w4 ho5 hb hg_ hnew_; clear hg_ hnew_; (first | rw [← Ny841.out] at ho5 | (simp only [Int.reduceToNat] at ho5; rw [← Ny841.out] at ho5)); have n0_ := Aside0.mk (Kd.R_lower ho5 (below_size (by repeat (first | (with_reducible first | exact HB.out | apply below_alloc | apply pw_below_drewN | apply below_drew1) | exact HB.out)))); have n1_ := Aside0.mk (below_step (by repeat (first | (with_reducible first | exact HB.out | apply below_alloc | apply pw_below_drewN | apply below_drew1) | exact HB.out)) hb); clear HB; have HO843 := n0_; have HB := n1_; clear n0_ n1_; clear hb ho5))
    go_ret2
    exact ⟨_, by first | rfl | (simp [errW_none, errW_some] <;> rfl) | (simp [*, errW_none, errW_some] <;> rfl), by (with_reducible repeat (first | apply Kd.R_alloc | apply Kd.R_drewN | apply Kd.R_drew)); exact HO843.out, by repeat (first | (with_reducible first | exact HB.out | apply below_alloc | apply pw_below_drewN | apply below_drew1) | exact HB.out)⟩
  · rw [if_neg c3] at H
    have c3b0 : decide (4096 < (l0.length : Int)) = false := decide_eq_false c3
    have c3b1 : decide (4096 < l0.length) = false := decide_eq_false (by omega)
    clear c3
    replace H := Option.bind_eq_some_iff.mp H
    obtain ⟨t844, A60, H⟩ := H
    replace H : (if t844 = true then ((spec_l09Keep.f k l0 a1 (-1)).bind fun t845 => (some (t845, 0))) else (some ((([] : List (S71))), 1))) = some (r1, r2) := H
    have A6 := Aside0.mk A60
    clear A60
    by_cases c7 : t844 = true
    · subst c7
      have H1 : ((spec_l09Keep.f k l0 a1 (-1)).bind fun t845 => (some (t845, 0))) = some (r1, r2) := by rw [if_pos rfl] at H; exact H
      clear H
      have H := H1
      clear H1
      replace H := Option.bind_eq_some_iff.mp H
      obtain ⟨t845, A80, H⟩ := H
      replace H : (some (t845, 0)) = some (r1, r2) := H
      have A8 := Aside0.mk A80
      clear A80
      simp only [Option.some.injEq, Prod.mk.injEq] at H
      obtain ⟨rfl, rfl⟩ := H
      go_enter Try.func45, Try.ntmps45
      go_wp2_with (first | ((with_reducible refine gate_callee (f := 27) rfl ?_); refine goesL_ (some 11) rfl rfl Try.func27 (by kernel_rfl) rfl #[.slice A0 l0.length c0] rfl (by (try simp only [List.map_toArray, List.map_cons, List.map_nil]); first | done | rfl | (simp only [List.length_drop, List.length_take]; rfl)) ?_; (with_reducible refine (spec_FlowsOK.calls k _ _ l0 true _ ?side1 ?side2 A6.out).mono ?_); (case side1 => repeat (first | exact HR0.out | (with_reducible refine Kd.C_alloc ?_ _) | (with_reducible refine Kd.C_drewN ?_ _) | (with_reducible refine Kd.C_drew ?_))); (case side2 => exact HC0.out); rintro e w9 ⟨rfl, hb⟩; refine ⟨_, rfl, ?_⟩; have n0_ := Aside0.mk (below_step (by repeat (first | (with_reducible first | exact HB.out | apply below_alloc | apply pw_below_drewN | apply below_drew1) | exact HB.out)) hb); clear HB; have HB := n0_; clear n0_; (try clear hb); (try clear hb2); (try clear hk); (try clear hi)) | ((with_reducible refine gate_callee (f := 94) rfl ?_); refine goesL_ (some 16) rfl rfl Try.func94 (by kernel_rfl) rfl #[.slice A0 l0.length c0, .int .i64 a1, .int .i64 (-1)] rfl (by (try simp only [List.map_toArray, List.map_cons, List.map_nil]); first | done | rfl | (simp only [List.length_drop, List.length_take]; rfl)) ?_; (with_reducible refine (spec_l09Keep.calls k _ _ l0 a1 (-1) t845 _ ?side1 ?side2 A8.out).mono ?_); (case side1 => repeat (first | exact (Kd.C_below HR0.out HB.out) | (with_reducible refine Kd.C_alloc ?_ _) | (with_reducible refine Kd.C_drewN ?_ _) | (with_reducible refine Kd.C_drew ?_))); (case side2 => exact HC0.out); rintro e w10 ⟨v846, rfl, ho0, hb⟩; refine ⟨_, rfl, ?_⟩; have n0_ := Aside0.mk (Kd.R_lower ho0 (below_size (by repeat (first | (with_reducible first | exact HB.out | apply below_alloc | apply pw_below_drewN | apply below_drew1) | exact HB.out)))); have n1_ := Aside0.mk (below_step (by repeat (first | (with_reducible first | exact HB.out | apply below_alloc | apply pw_below_drewN | apply below_drew1) | exact HB.out)) hb); clear HB; have HO847 := n0_; have HB := n1_; clear n0_ n1_; (try clear hb); (try clear hb2); (try clear hk); (try clear hi); (try clear ho0)))
      go_ret2
      exact ⟨_, by first | rfl | (simp [errW_none, errW_some] <;> rfl) | (simp [*, errW_none, errW_some] <;> rfl), by (with_reducible repeat (first | apply Kd.R_alloc | apply Kd.R_drewN | apply Kd.R_drew)); exact HO847.out, by repeat (first | (with_reducible first | exact HB.out | apply below_alloc | apply pw_below_drewN | apply below_drew1) | exact HB.out)⟩
    · replace c7 := Bool.eq_false_iff.mpr c7
      subst c7
      have H1 : (some ((([] : List (S71))), 1)) = some (r1, r2) := by rw [if_neg (show ¬ (false = true) by decide)] at H; exact H
      clear H
      have H := H1
      clear H1
      obtain ⟨y848, hy848⟩ : ∃ y_ : List (S71), y_ = (([] : List (S71))) := ⟨_, rfl⟩
      replace H : (some (y848, 1)) = some (r1, r2) := by first | (rw [hy848]; with_reducible exact H) | (have H2_ := (Option.bind_some _ _).symm.trans H; rw [hy848]; with_reducible exact H2_) | (have H2_ := (Option.bind_some _ _).symm.trans H; with_reducible exact H2_) | with_reducible exact H | (rw [hy848]; exact H) | exact H
      have Ny848 := Aside0.mk hy848
      clear hy848
      simp only [Option.some.injEq, Prod.mk.injEq] at H
      obtain ⟨rfl, rfl⟩ := H
      go_enter Try.func45, Try.ntmps45
      go_wp2_with (first | ((with_reducible refine gate_callee (f := 27) rfl ?_); refine goesL_ (some 11) rfl rfl Try.func27 (by kernel_rfl) rfl #[.slice A0 l0.length c0] rfl (by (try simp only [List.map_toArray, List.map_cons, List.map_nil]); first | done | rfl | (simp only [List.length_drop, List.length_take]; rfl)) ?_; (with_reducible refine (spec_FlowsOK.calls k _ _ l0 false _ ?side1 ?side2 A6.out).mono ?_); (case side1 => repeat (first | exact HR0.out | (with_reducible refine Kd.C_alloc ?_ _) | (with_reducible refine Kd.C_drewN ?_ _) | (with_reducible refine Kd.C_drew ?_))); (case side2 => exact HC0.out); rintro e w11 ⟨rfl, hb⟩; refine ⟨_, rfl, ?_⟩; have n0_ := Aside0.mk (below_step (by repeat (first | (with_reducible first | exact HB.out | apply below_alloc | apply pw_below_drewN | apply below_drew1) | exact HB.out)) hb); clear HB; have HB := n0_; clear n0_; (try clear hb); (try clear hb2); (try clear hk); (try clear hi)) | ((with_reducible refine gate_dst (N := 13) rfl ?_); refine Kd.R_lit k71 _ 71 ?hg (N := 13) ?hd (xs := ([] : List (S71))) (inner := []) (ok := fun _ => True) (okp := fun _ => True) ?hr ?hp (fun _ hk => hk) trivial (Below.refl _ _) (Nat.le_refl _) (by simp) ?_; (case hd => rfl); (case hg => rfl); (case hr => first | (go_simp; done) | (go_simp; rfl)); (case hp => exact (Reps.none _ _)); intro v849 w12 ho13 hb hg_ hnew_; clear hg_ hnew_; (first | rw [← Ny848.out] at ho13 | (simp only [Int.reduceToNat] at ho13; rw [← Ny848.out] at ho13)); have n0_ := Aside0.mk (Kd.R_lower ho13 (below_size (by repeat (first | (with_reducible first | exact HB.out | apply below_alloc | apply pw_below_drewN | apply below_drew1) | exact HB.out)))); have n1_ := Aside0.mk (below_step (by repeat (first | (with_reducible first | exact HB.out | apply below_alloc | apply pw_below_drewN | apply below_drew1) | exact HB.out)) hb); clear HB; have HO850 := n0_; have HB := n1_; clear n0_ n1_; clear hb ho13))
      go_ret2
      exact ⟨_, by first | rfl | (simp [errW_none, errW_some] <;> rfl) | (simp [*, errW_none, errW_some] <;> rfl), by (with_reducible repeat (first | apply Kd.R_alloc | apply Kd.R_drewN | apply Kd.R_drew)); exact HO850.out, by repeat (first | (with_reducible first | exact HB.out | apply below_alloc | apply pw_below_drewN | apply below_drew1) | exact HB.out)⟩
end
section
/-! ### impl_flowsExpire_1: function 117 -/
def impl_flowsExpire_1.f (a0_0 : Int) (a0_1 : ByteArray) (a0_2 : Int) (a0_3 : Int) (a0_4 : Int) (a0_5 : Int) (a0_6 : Int) (a0_7 : Int) (a0_8 : Int) (a1 : Int) : Option (Bool) := some (decide (a0_7 ≤ a1))
set_option maxHeartbeats 8000000 in
set_option maxRecDepth 100000 in
theorem impl_flowsExpire_1.calls (q1 : Nat) (a0_0 : Int) (a0_1 : ByteArray) (a0_2 : Int) (a0_3 : Int) (a0_4 : Int) (a0_5 : Int) (a0_6 : Int) (a0_7 : Int) (a0_8 : Int) (a1 : Int) (r : Bool) (w : World) (hq1 : w.cell? ⟨q1, 0, none⟩ = some (.int .i64 a1)) (h : impl_flowsExpire_1.f a0_0 a0_1 a0_2 a0_3 a0_4 a0_5 a0_6 a0_7 a0_8 a1 = some r) :
    Calls Try.prog 117 #[.agg #[.int .i64 a0_0, .string a0_1, .int .i64 a0_2, .int .i64 a0_3, .int .i64 a0_4, .int .i64 a0_5, .int .i64 a0_6, .int .i64 a0_7, .int .i64 a0_8], .pointer (some ⟨q1, 0, none⟩)] w fun e w' => e = .returned (.bool r) ∧ Below w.heap.size w w' := by
  have HQ1 := Aside0.mk hq1
  clear hq1
  have hu71 := Try.underlying71
  have HB := Aside0.mk (Below.refl w.heap.size w)
  have H : (some (decide (a0_7 ≤ a1))) = some r := h
  clear h
  obtain rfl := Option.some.inj H
  have hcq1 := HQ1.out
  go_enter Try.func117, Try.ntmps117
  go_wp2_with (first | ((with_reducible refine gate_dst (N := 2) rfl ?_); refine box_event ?hg (N := 2) ?hd (cs := #[.int .i64 a0_0, .string a0_1, .int .i64 a0_2, .int .i64 a0_3, .int .i64 a0_4, .int .i64 a0_5, .int .i64 a0_6, .int .i64 a0_7, .int .i64 a0_8]) (t := 71) ?hr ?_; (case hd => rfl); (case hg => rfl); (case hr => first | (go_simp; done) | (go_simp; rfl)); intro gb857 hg w3 hbox hb; have n0_ := Aside0.mk (below_step (by repeat (first | (with_reducible first | exact HB.out | apply below_alloc | apply pw_below_drewN | apply below_drew1) | exact HB.out)) hb); have n1_ := Aside0.mk (hbox); have n2_ := Aside0.mk ((by rw [hg]; exact (below_size (by repeat (first | (with_reducible first | exact HB.out | apply below_alloc | apply pw_below_drewN | apply below_drew1) | exact HB.out))) : w.heap.size ≤ gb857)); have n3_ := Aside0.mk ((by rw [hg]; exact (below_size (by repeat (first | (with_reducible first | exact HB.out | apply below_alloc | apply pw_below_drewN | apply below_drew1) | exact HB.out))) : w.heap.size ≤ gb857)); clear HB; have HB := n0_; have hcq1 := (HB.out.cell (World.block_lt_of_cell? w _ HQ1.out)).trans HQ1.out; have BK857 := n1_; have GW857 := n2_; have GE857 := n3_; clear n0_ n1_ n2_ n3_; clear hb hbox hg; have hcz4_0 : w3.cell? ⟨gb857, 0, none⟩ = some (.int .i64 a0_0) := (blk_cell BK857.out 0).trans rfl; have hcz4_1 : w3.cell? ⟨gb857, 1, none⟩ = some (.string a0_1) := (blk_cell BK857.out 1).trans rfl; have hcz4_2 : w3.cell? ⟨gb857, 2, none⟩ = some (.int .i64 a0_2) := (blk_cell BK857.out 2).trans rfl; have hcz4_3 : w3.cell? ⟨gb857, 3, none⟩ = some (.int .i64 a0_3) := (blk_cell BK857.out 3).trans rfl; have hcz4_4 : w3.cell? ⟨gb857, 4, none⟩ = some (.int .i64 a0_4) := (blk_cell BK857.out 4).trans rfl; have hcz4_5 : w3.cell? ⟨gb857, 5, none⟩ = some (.int .i64 a0_5) := (blk_cell BK857.out 5).trans rfl; have hcz4_6 : w3.cell? ⟨gb857, 6, none⟩ = some (.int .i64 a0_6) := (blk_cell BK857.out 6).trans rfl; have hcz4_7 : w3.cell? ⟨gb857, 7, none⟩ = some (.int .i64 a0_7) := (blk_cell BK857.out 7).trans rfl; have hcz4_8 : w3.cell? ⟨gb857, 8, none⟩ = some (.int .i64 a0_8) := (blk_cell BK857.out 8).trans rfl; have hfz4_0 := blk_frozen BK857.out 0; have hfz4_1 := blk_frozen BK857.out 1; have hfz4_2 := blk_frozen BK857.out 2; have hfz4_3 := blk_frozen BK857.out 3; have hfz4_4 := blk_frozen BK857.out 4; have hfz4_5 := blk_frozen BK857.out 5; have hfz4_6 := blk_frozen BK857.out 6; have hfz4_7 := blk_frozen BK857.out 7; have hfz4_8 := blk_frozen BK857.out 8))
  go_ret
  exact ⟨by first | rfl | (simp [errW_none, errW_some] <;> rfl) | (simp [*, errW_none, errW_some] <;> rfl), by repeat (first | (with_reducible first | exact HB.out | apply below_alloc | apply pw_below_drewN | apply below_drew1 | refine below_set ?_ GE857.out) | exact HB.out)⟩
end
section
/-! ### impl_flowsExpire: function 95 -/
-- USES 100 116 117
def impl_flowsExpire.f (a0 : List S71) (a1 : Int) : Option (List S71) := (impl_Flow_100.f a0).bind fun y => some (y.filter fun x => !decide (x.f7 ≤ a1))
set_option maxHeartbeats 8000000 in
set_option maxRecDepth 100000 in
theorem impl_flowsExpire.calls (A0 : Option Addr) (c0 : Nat) (l0 : List S71) (a1 : Int) (r : List S71) (w : World) (hr0 : Kd.C k71 w A0 l0.length l0) (hc0 : l0.length ≤ c0) (h : impl_flowsExpire.f l0 a1 = some r) :
    Calls Try.prog 95 #[.slice A0 l0.length c0, .int .i64 a1] w fun e w' => ∃ v0_ : Value, e = .returned (v0_) ∧ Kd.R k71 71 w' w.heap.size (fun _ => True) v0_ r ∧ Below w.heap.size w w' := by
  rw [impl_flowsExpire.f] at h
  obtain ⟨y, hy, h2⟩ := Option.bind_eq_some_iff.1 h
  obtain rfl := Option.some.inj h2
  have HR := Aside0.mk hr0
  have HC := Aside0.mk hc0
  have HY := Aside0.mk hy
  clear h h2 hy hr0 hc0
  have HB := Aside0.mk (Below.refl w.heap.size w)
  go_enter Try.func95, Try.ntmps95
  go_wp2_with (first
    | ((with_reducible refine gate_dst (N := 3) rfl ?_); refine box_event ?hg (N := 3) ?hd (cs := #[.int .i64 a1]) (t := 3) ?hr ?_; (case hd => rfl); (case hg => rfl); (case hr => first | (go_simp; done) | (go_simp; rfl)); intro gb hg w1 hbox hb; have n0_ := Aside0.mk (below_step HB.out hb); clear HB; have HB := n0_; clear n0_; have BK := Aside0.mk hbox; have HG := Aside0.mk hg; clear hg hb hbox)
    | (
        go_at_call 100
        refine (impl_Flow_100.calls A0 c0 l0 y _ (Kd.C_below HR.out HB.out) HC.out HY.out).mono ?_
        rintro e w2 ⟨v0, rfl, hRy, hb2⟩
        have HRY := Aside0.mk hRy
        have HB2 := Aside0.mk hb2
        clear hRy hb2)
    | (
        go_at_call 116
        refine (delFlow 117 #[.pointer (some ⟨gb, 0, none⟩)] (enters_of Try.func117 (by kernel_rfl) rfl) (fun x => decide (x.f7 ≤ a1)) v0 y w1.heap.size w2 HRY.out HB2.out.size (clone_len71 HY.out) ?hp).mono ?_
        case hp =>
          intro W x hW
          have hlt := blk_lt BK.out
          exact impl_flowsExpire_1.calls gb x.f0 x.f1 x.f2 x.f3 x.f4 x.f5 x.f6 x.f7 x.f8 a1 _ W ((blk_cell (((hW gb hlt).trans (HB2.out.block gb hlt)).trans BK.out) 0).trans rfl) rfl
        rintro e w3 ⟨v1, rfl, hRz, hb3⟩
        have HRZ := Aside0.mk hRz
        have HB3 := Aside0.mk hb3
        clear hRz hb3))
  go_ret
  have hs := HB.out.size
  refine ⟨_, rfl, Kd.R_lower HRZ.out hs, ?_⟩
  have b2 := HB2.out
  have b3 := HB3.out
  have b1 := HB.out
  exact ⟨b3.os.trans (b2.os.trans b1.os), b3.tape.trans (b2.tape.trans b1.tape), b3.output.trans (b2.output.trans b1.output), Nat.le_trans b1.size (Nat.le_trans b2.size b3.size), fun k hk => (b3.block k (by omega)).trans ((b2.block k (by omega)).trans (b1.block k hk))⟩
end
section
/-! ### impl_FlowsExpire: function 46 -/
def impl_FlowsExpire.f (k : Nat) (l0 : List (S71)) (a1 : Int) : Option ((List (S71)) × Int) := (impl_flowsFault.f k l0).bind fun t858 => (if t858 = 0 then ((impl_flowsExpire.f l0 a1).bind fun t859 => (some (t859, 0))) else (some (([] : List (S71)), t858)))
theorem impl_FlowsExpire.mono : ∀ a0 a1 k, LeO (impl_FlowsExpire.f k a0 a1) (impl_FlowsExpire.f (k + 1) a0 a1) := by
  intro a0 a1 k
  unfold impl_FlowsExpire.f
  repeat' first
      | (with_reducible exact impl_flowsFault.mono ..)
      | (with_reducible exact LeO.refl _)
      | (with_reducible exact LeO.none _)
      | (with_reducible refine LeO.ite ?_ ?_)
      | (with_reducible refine LeO.bind ?_ (fun _ => ?_))
      | exact impl_flowsFault.mono ..
      | exact LeO.none _
      | refine LeO.ite ?_ ?_
      | refine LeO.bind ?_ (fun _ => ?_)
set_option maxHeartbeats 8000000 in
set_option maxRecDepth 100000 in
theorem impl_FlowsExpire.calls (k : Nat) (A0 : Option Addr) (c0 : Nat) (l0 : List (S71)) (a1 : Int) (r1 : List (S71)) (r2 : Int) (w : World) (hr0 : Kd.C k71 w A0 l0.length l0) (hc0 : l0.length ≤ c0) (h : impl_FlowsExpire.f k l0 a1 = some (r1, r2)) :
    Calls Try.prog 46 #[.slice A0 l0.length c0, .int .i64 a1] w fun e w' => ∃ v0_ : Value, e = .returned (.tuple #[v0_, .int .i64 r2]) ∧ Kd.R k71 71 w' w.heap.size (fun _ => True) v0_ r1 ∧ Below w.heap.size w w' := by
  have HR0 := Aside0.mk hr0
  have HC0 := Aside0.mk hc0
  clear hr0 hc0
  have HB := Aside0.mk (Below.refl w.heap.size w)
  have H : ((impl_flowsFault.f k l0).bind fun t858 => (if t858 = 0 then ((impl_flowsExpire.f l0 a1).bind fun t859 => (some (t859, 0))) else (some (([] : List (S71)), t858)))) = some (r1, r2) := h
  clear h
  replace H := Option.bind_eq_some_iff.mp H
  obtain ⟨t858, A30, H⟩ := H
  replace H : (if t858 = 0 then ((impl_flowsExpire.f l0 a1).bind fun t859 => (some (t859, 0))) else (some (([] : List (S71)), t858))) = some (r1, r2) := H
  have A3 := Aside0.mk A30
  clear A30
  by_cases c4 : t858 = 0
  · rw [if_pos c4] at H
    have c4b0 : (t858 == 0) = true := beq_iff_eq.mpr c4
    have c4b1 : (t858 != 0) = false := bne_eq_false_iff_eq.mpr c4
    clear c4
    replace H := Option.bind_eq_some_iff.mp H
    obtain ⟨t859, A50, H⟩ := H
    replace H : (some (t859, 0)) = some (r1, r2) := H
    have A5 := Aside0.mk A50
    clear A50
    simp only [Option.some.injEq, Prod.mk.injEq] at H
    obtain ⟨rfl, rfl⟩ := H
    go_enter Try.func46, Try.ntmps46
    go_wp2_with (first | ((with_reducible refine gate_callee (f := 81) rfl ?_); refine goesL_ (some 8) rfl rfl Try.func81 (by kernel_rfl) rfl #[.slice A0 l0.length c0] rfl (by (try simp only [List.map_toArray, List.map_cons, List.map_nil]); first | done | rfl | (simp only [List.length_drop, List.length_take]; rfl)) ?_; (with_reducible refine (impl_flowsFault.calls k _ _ l0 t858 _ ?side1 ?side2 A3.out).mono ?_); (case side1 => repeat (first | exact HR0.out | (with_reducible refine Kd.C_alloc ?_ _) | (with_reducible refine Kd.C_drewN ?_ _) | (with_reducible refine Kd.C_drew ?_))); (case side2 => exact HC0.out); rintro e w6 ⟨rfl, hb⟩; refine ⟨_, rfl, ?_⟩; have n0_ := Aside0.mk (below_step (by repeat (first | (with_reducible first | exact HB.out | apply below_alloc | apply pw_below_drewN | apply below_drew1) | exact HB.out)) hb); clear HB; have HB := n0_; clear n0_; (try clear hb); (try clear hb2); (try clear hk); (try clear hi)) | ((with_reducible refine gate_callee (f := 95) rfl ?_); refine goesL_ (some 14) rfl rfl Try.func95 (by kernel_rfl) rfl #[.slice A0 l0.length c0, .int .i64 a1] rfl (by (try simp only [List.map_toArray, List.map_cons, List.map_nil]); first | done | rfl | (simp only [List.length_drop, List.length_take]; rfl)) ?_; (with_reducible refine (impl_flowsExpire.calls _ _ l0 a1 t859 _ ?side1 ?side2 A5.out).mono ?_); (case side1 => repeat (first | exact (Kd.C_below HR0.out HB.out) | (with_reducible refine Kd.C_alloc ?_ _) | (with_reducible refine Kd.C_drewN ?_ _) | (with_reducible refine Kd.C_drew ?_))); (case side2 => exact HC0.out); rintro e w7 ⟨v860, rfl, ho0, hb⟩; refine ⟨_, rfl, ?_⟩; have n0_ := Aside0.mk (Kd.R_lower ho0 (below_size (by repeat (first | (with_reducible first | exact HB.out | apply below_alloc | apply pw_below_drewN | apply below_drew1) | exact HB.out)))); have n1_ := Aside0.mk (below_step (by repeat (first | (with_reducible first | exact HB.out | apply below_alloc | apply pw_below_drewN | apply below_drew1) | exact HB.out)) hb); clear HB; have HO861 := n0_; have HB := n1_; clear n0_ n1_; (try clear hb); (try clear hb2); (try clear hk); (try clear hi); (try clear ho0)))
    go_ret2
    exact ⟨_, by first | rfl | (simp [errW_none, errW_some] <;> rfl) | (simp [*, errW_none, errW_some] <;> rfl), by (with_reducible repeat (first | apply Kd.R_alloc | apply Kd.R_drewN | apply Kd.R_drew)); exact HO861.out, by repeat (first | (with_reducible first | exact HB.out | apply below_alloc | apply pw_below_drewN | apply below_drew1) | exact HB.out)⟩
  · rw [if_neg c4] at H
    have c4b0 : (t858 == 0) = false := beq_eq_false_iff_ne.mpr c4
    have c4b1 : (t858 != 0) = true := bne_iff_ne.mpr c4
    simp only [Option.some.injEq, Prod.mk.injEq] at H
    obtain ⟨rfl, rfl⟩ := H
    go_enter Try.func46, Try.ntmps46
    go_wp2_with (first | ((with_reducible refine gate_callee (f := 81) rfl ?_); refine goesL_ (some 8) rfl rfl Try.func81 (by kernel_rfl) rfl #[.slice A0 l0.length c0] rfl (by (try simp only [List.map_toArray, List.map_cons, List.map_nil]); first | done | rfl | (simp only [List.length_drop, List.length_take]; rfl)) ?_; (with_reducible refine (impl_flowsFault.calls k _ _ l0 t858 _ ?side1 ?side2 A3.out).mono ?_); (case side1 => repeat (first | exact HR0.out | (with_reducible refine Kd.C_alloc ?_ _) | (with_reducible refine Kd.C_drewN ?_ _) | (with_reducible refine Kd.C_drew ?_))); (case side2 => exact HC0.out); rintro e w8 ⟨rfl, hb⟩; refine ⟨_, rfl, ?_⟩; have n0_ := Aside0.mk (below_step (by repeat (first | (with_reducible first | exact HB.out | apply below_alloc | apply pw_below_drewN | apply below_drew1) | exact HB.out)) hb); clear HB; have HB := n0_; clear n0_; (try clear hb); (try clear hb2); (try clear hk); (try clear hi)))
    go_ret2
    exact ⟨_, by first | rfl | (simp [errW_none, errW_some] <;> rfl) | (simp [*, errW_none, errW_some] <;> rfl), by first | exact Kd.R_nil _ _ _ _ _ | exact Kd.N_nil _ _ _ _ _ | exact Kd.V_nil _ _ _ _ _ | exact Kd.Q_nil _ _ _ _ _ | exact Kd.S_nil _ _ _ _ _, by repeat (first | (with_reducible first | exact HB.out | apply below_alloc | apply pw_below_drewN | apply below_drew1) | exact HB.out)⟩
end
section
/-! ### spec_l07Ask: function 69 -/
def spec_l07Ask.f (a0 : Int) (a1 : Int) : Option (Bool) := (spec_l01Ip.f a0).bind fun t147 => (if t147 = true then ((spec_l02Port.f a1).bind fun t148 => (some t148)) else (some false))
set_option maxHeartbeats 8000000 in
set_option maxRecDepth 100000 in
theorem spec_l07Ask.calls (a0 : Int) (a1 : Int) (r : Bool) (w : World) (h : spec_l07Ask.f a0 a1 = some r) :
    Calls Try.prog 69 #[.int .i64 a0, .int .i64 a1] w fun e w' => e = .returned (.bool r) ∧ Drawn0 w w' := by
  have H : ((spec_l01Ip.f a0).bind fun t147 => (if t147 = true then ((spec_l02Port.f a1).bind fun t148 => (some t148)) else (some false))) = some r := h
  clear h
  replace H := Option.bind_eq_some_iff.mp H
  obtain ⟨t147, A30, H⟩ := H
  replace H : (if t147 = true then ((spec_l02Port.f a1).bind fun t148 => (some t148)) else (some false)) = some r := H
  have A3 := Aside0.mk A30
  clear A30
  by_cases c4 : t147 = true
  · subst c4
    have H1 : ((spec_l02Port.f a1).bind fun t148 => (some t148)) = some r := by rw [if_pos rfl] at H; exact H
    clear H
    have H := H1
    clear H1
    replace H := Option.bind_eq_some_iff.mp H
    obtain ⟨t148, A50, H⟩ := H
    replace H : (some t148) = some r := H
    have A5 := Aside0.mk A50
    clear A50
    obtain rfl := Option.some.inj H
    go_enter Try.func69, Try.ntmps69
    go_wp2_with (first | ((with_reducible refine gate_callee (f := 59) rfl ?_); refine goesL_ (some 6) rfl rfl Try.func59 (by kernel_rfl) rfl #[.int .i64 a0] rfl (by (try simp only [List.map_toArray, List.map_cons, List.map_nil]); first | done | rfl | (simp only [List.length_drop, List.length_take]; rfl)) ?_; (with_reducible refine (spec_l01Ip.calls a0 true _ A3.out).mono ?_); rintro e w' ⟨rfl, ⟨nd, rfl⟩⟩; refine ⟨_, rfl, ?_⟩) | (go_at_call 105; (with_reducible refine (spec_l02Port.calls a1 t148 _ A5.out).mono ?_); rintro e w' ⟨rfl, ⟨nd, rfl⟩⟩))
    go_ret
    exact ⟨by first | rfl | (simp; done) | (simp [*]; done) | (simp [ne_nil_b]; done) | (simp [ne_nil_b, *]; done), by repeat (first | exact Drawn0.refl _ | apply Drawn0.step)⟩
  · replace c4 := Bool.eq_false_iff.mpr c4
    subst c4
    have H1 : (some false) = some r := by rw [if_neg (show ¬ (false = true) by decide)] at H; exact H
    clear H
    have H := H1
    clear H1
    obtain rfl := Option.some.inj H
    go_enter Try.func69, Try.ntmps69
    go_wp2_with (first | ((with_reducible refine gate_callee (f := 59) rfl ?_); refine goesL_ (some 6) rfl rfl Try.func59 (by kernel_rfl) rfl #[.int .i64 a0] rfl (by (try simp only [List.map_toArray, List.map_cons, List.map_nil]); first | done | rfl | (simp only [List.length_drop, List.length_take]; rfl)) ?_; (with_reducible refine (spec_l01Ip.calls a0 false _ A3.out).mono ?_); rintro e w' ⟨rfl, ⟨nd, rfl⟩⟩; refine ⟨_, rfl, ?_⟩))
    go_ret
    exact ⟨by first | rfl | (simp; done) | (simp [*]; done) | (simp [ne_nil_b]; done) | (simp [ne_nil_b, *]; done), by repeat (first | exact Drawn0.refl _ | apply Drawn0.step)⟩
end
section
/-! ### spec_l09Find: function 80 -/
def spec_l09Find.l0 : Nat → List (S71) → Int → Int → Int → Int → Int → Int → Option (Int × Bool)
  | 0, _, _, _, _, _, _, _ => none
  | k + 1, x0, x1, x2, x3, x4, x5, x14 => if x14 < (x0.length : Int) then (if 0 ≤ x14 then ((spec_l09Same.f ((rd_T71 x0 x14).f0) ((rd_T71 x0 x14).f1) ((rd_T71 x0 x14).f2) ((rd_T71 x0 x14).f3) ((rd_T71 x0 x14).f4) ((rd_T71 x0 x14).f5) ((rd_T71 x0 x14).f6) ((rd_T71 x0 x14).f7) ((rd_T71 x0 x14).f8) x1 x2 x3 x4 x5).bind fun t297 => (if t297 = true then (some (x14, false)) else ((spec_l09Same.f ((rd_T71 x0 x14).f0) ((rd_T71 x0 x14).f1) ((rd_T71 x0 x14).f2) ((rd_T71 x0 x14).f3) ((rd_T71 x0 x14).f4) ((rd_T71 x0 x14).f5) ((rd_T71 x0 x14).f6) ((rd_T71 x0 x14).f7) ((rd_T71 x0 x14).f8) x1 x4 x5 x2 x3).bind fun t299 => (if t299 = true then (some (x14, true)) else (spec_l09Find.l0 k x0 x1 x2 x3 x4 x5 (wrap64 (x14 + 1))))))) else (none)) else (some ((-1), false))
def spec_l09Find.f (k : Nat) (l0 : List (S71)) (a1 : Int) (a2 : Int) (a3 : Int) (a4 : Int) (a5 : Int) : Option (Int × Bool) := spec_l09Find.l0 k l0 a1 a2 a3 a4 a5 0
theorem spec_l09Find.mono_l : ∀ k, (∀ y0 y1 y2 y3 y4 y5 y6, LeO (spec_l09Find.l0 k y0 y1 y2 y3 y4 y5 y6) (spec_l09Find.l0 (k + 1) y0 y1 y2 y3 y4 y5 y6))
  | 0 => fun _ _ _ _ _ _ _ r h => by simp [spec_l09Find.l0] at h
  | k + 1 => by
    have ih0 := spec_l09Find.mono_l k
    · intro y0 y1 y2 y3 y4 y5 y6
      unfold spec_l09Find.l0
      repeat' first
      | (with_reducible exact ih0 _ _ _ _ _ _ _)
      | (with_reducible exact LeO.refl _)
      | (with_reducible exact LeO.none _)
      | (with_reducible refine LeO.ite ?_ ?_)
      | (with_reducible refine LeO.bind ?_ (fun _ => ?_))
      | exact ih0 _ _ _ _ _ _ _
      | exact LeO.none _
      | refine LeO.ite ?_ ?_
      | refine LeO.bind ?_ (fun _ => ?_)
theorem spec_l09Find.mono : ∀ a0 a1 a2 a3 a4 a5 k, LeO (spec_l09Find.f k a0 a1 a2 a3 a4 a5) (spec_l09Find.f (k + 1) a0 a1 a2 a3 a4 a5) := by
  intro a0 a1 a2 a3 a4 a5 k
  have ih0 := spec_l09Find.mono_l k
  unfold spec_l09Find.f
  repeat' first
      | (with_reducible exact ih0 _ _ _ _ _ _ _)
      | (with_reducible exact LeO.refl _)
      | (with_reducible exact LeO.none _)
      | (with_reducible refine LeO.ite ?_ ?_)
      | (with_reducible refine LeO.bind ?_ (fun _ => ?_))
      | exact ih0 _ _ _ _ _ _ _
      | exact LeO.none _
      | refine LeO.ite ?_ ?_
      | refine LeO.bind ?_ (fun _ => ?_)
set_option maxHeartbeats 8000000 in
set_option maxRecDepth 100000 in
theorem spec_l09Find.calls (k : Nat) (A0 : Option Addr) (c0 : Nat) (l0 : List (S71)) (a1 : Int) (a2 : Int) (a3 : Int) (a4 : Int) (a5 : Int) (r1 : Int) (r2 : Bool) (w : World) (hr0 : Kd.C k71 w A0 l0.length l0) (hc0 : l0.length ≤ c0) (h : spec_l09Find.f k l0 a1 a2 a3 a4 a5 = some (r1, r2)) :
    Calls Try.prog 80 #[.slice A0 l0.length c0, .int .i64 a1, .int .i64 a2, .int .i64 a3, .int .i64 a4, .int .i64 a5] w fun e w' => e = .returned (.tuple #[.int .i64 r1, .bool r2]) ∧ Below w.heap.size w w' := by
  have hu71 := Try.underlying71
  have HR0 := Aside0.mk hr0
  have HC0 := Aside0.mk hc0
  clear hr0 hc0
  have HB := Aside0.mk (Below.refl w.heap.size w)
  have H : (spec_l09Find.l0 k l0 a1 a2 a3 a4 a5 0) = some (r1, r2) := h
  clear h
  have H' := Aside0.mk H
  clear H
  go_enter Try.func80, Try.ntmps80
  go_wp2
  go_loopg [14] k (fun kq v14 w' => ∃ (x14_1 : Int), v14 = .int .i64 x14_1 ∧ Aside0 (spec_l09Find.l0 kq l0 a1 a2 a3 a4 a5 x14_1 = some (r1, r2)) ∧ Aside0 (kq ≤ k) ∧ Aside0 (Below w.heap.size w w'))
  case atStart => exact ⟨(0), (by first | rfl | (simp; done) | (simp [*]; done) | (simp [ne_nil_b]; done) | (simp [ne_nil_b, *]; done)), H', ⟨Nat.le_refl _⟩, ⟨by repeat (first | (with_reducible first | exact HB.out | apply below_alloc | apply pw_below_drewN | apply below_drew1) | exact HB.out)⟩⟩
  case round =>
    clear H'
    try clear p2
    obtain ⟨x14_1, rfl, HA, HK1, HB⟩ := hrel
    cases gk with
    | zero => exact absurd HA.out (by simp [spec_l09Find.l0])
    | succ k1 =>
      have H := HA.out
      clear HA
      simp only [spec_l09Find.l0] at H
      by_cases c7 : x14_1 < (l0.length : Int)
      · rw [if_pos c7] at H
        have c7b0 : decide (x14_1 < (l0.length : Int)) = true := decide_eq_true c7
        clear c7
        by_cases c8 : 0 ≤ x14_1
        · rw [if_pos c8] at H
          have c8b0 : decide (0 ≤ x14_1) = true := decide_eq_true c8
          clear c8
          replace H := Option.bind_eq_some_iff.mp H
          obtain ⟨t297, A90, H⟩ := H
          replace H : (if t297 = true then (some (x14_1, false)) else ((spec_l09Same.f ((rd_T71 l0 x14_1).f0) ((rd_T71 l0 x14_1).f1) ((rd_T71 l0 x14_1).f2) ((rd_T71 l0 x14_1).f3) ((rd_T71 l0 x14_1).f4) ((rd_T71 l0 x14_1).f5) ((rd_T71 l0 x14_1).f6) ((rd_T71 l0 x14_1).f7) ((rd_T71 l0 x14_1).f8) a1 a4 a5 a2 a3).bind fun t299 => (if t299 = true then (some (x14_1, true)) else (spec_l09Find.l0 k1 l0 a1 a2 a3 a4 a5 (wrap64 (x14_1 + 1)))))) = some (r1, r2) := H
          have A9 := Aside0.mk A90
          clear A90
          by_cases c10 : t297 = true
          · subst c10
            have H1 : (some (x14_1, false)) = some (r1, r2) := by rw [if_pos rfl] at H; exact H
            clear H
            have H := H1
            clear H1
            simp only [Option.some.injEq, Prod.mk.injEq] at H
            obtain ⟨rfl, rfl⟩ := H
            have p296 : 0 ≤ (x14_1 : Int) := of_decide_eq_true (by first | (with_reducible assumption) | assumption)
            have q296 : x14_1 < (l0.length : Int) := of_decide_eq_true (by first | (with_reducible assumption) | assumption)
            obtain ⟨ad296, e296, hx296_0, hx296_1, hx296_2, hx296_3, hx296_4, hx296_5, hx296_6, hx296_7, hx296_8⟩ := at_T71 HR0.out x14_1 p296 q296
            cases e296
            replace hx296_0 := (HB.out.cell (World.block_lt_of_cell? w _ hx296_0)).trans hx296_0
            replace hx296_1 := (HB.out.cell (World.block_lt_of_cell? w _ hx296_1)).trans hx296_1
            replace hx296_2 := (HB.out.cell (World.block_lt_of_cell? w _ hx296_2)).trans hx296_2
            replace hx296_3 := (HB.out.cell (World.block_lt_of_cell? w _ hx296_3)).trans hx296_3
            replace hx296_4 := (HB.out.cell (World.block_lt_of_cell? w _ hx296_4)).trans hx296_4
            replace hx296_5 := (HB.out.cell (World.block_lt_of_cell? w _ hx296_5)).trans hx296_5
            replace hx296_6 := (HB.out.cell (World.block_lt_of_cell? w _ hx296_6)).trans hx296_6
            replace hx296_7 := (HB.out.cell (World.block_lt_of_cell? w _ hx296_7)).trans hx296_7
            replace hx296_8 := (HB.out.cell (World.block_lt_of_cell? w _ hx296_8)).trans hx296_8
            replace p296 := eq_true p296
            replace q296 := eq_true q296
            go_wp2_with (first | ((with_reducible refine gate_callee (f := 76) rfl ?_); refine goesL_ (some 30) rfl rfl Try.func76 (by kernel_rfl) rfl #[.agg #[.int .i64 ((rd_T71 l0 x14_1).f0), .string ((rd_T71 l0 x14_1).f1), .int .i64 ((rd_T71 l0 x14_1).f2), .int .i64 ((rd_T71 l0 x14_1).f3), .int .i64 ((rd_T71 l0 x14_1).f4), .int .i64 ((rd_T71 l0 x14_1).f5), .int .i64 ((rd_T71 l0 x14_1).f6), .int .i64 ((rd_T71 l0 x14_1).f7), .int .i64 ((rd_T71 l0 x14_1).f8)], .int .i64 a1, .int .i64 a2, .int .i64 a3, .int .i64 a4, .int .i64 a5] rfl (by (try simp only [List.map_toArray, List.map_cons, List.map_nil]); first | done | rfl | (simp only [List.length_drop, List.length_take]; rfl)) ?_; (with_reducible refine (spec_l09Same.calls ((rd_T71 l0 x14_1).f0) ((rd_T71 l0 x14_1).f1) ((rd_T71 l0 x14_1).f2) ((rd_T71 l0 x14_1).f3) ((rd_T71 l0 x14_1).f4) ((rd_T71 l0 x14_1).f5) ((rd_T71 l0 x14_1).f6) ((rd_T71 l0 x14_1).f7) ((rd_T71 l0 x14_1).f8) a1 a2 a3 a4 a5 true _ A9.out).mono ?_); rintro e w11 ⟨rfl, hb⟩; refine ⟨_, rfl, ?_⟩; have n0_ := Aside0.mk (below_step (by repeat (first | (with_reducible first | exact HB.out | apply below_alloc | apply pw_below_drewN | apply below_drew1) | exact HB.out)) hb); clear HB; have HB := n0_; clear n0_; (try clear hb); (try clear hb2); (try clear hk); (try clear hi)))
            go_ret2
            exact ⟨by first | rfl | (simp [errW_none, errW_some] <;> rfl) | (simp [*, errW_none, errW_some] <;> rfl), by repeat (first | (with_reducible first | exact HB.out | apply below_alloc | apply pw_below_drewN | apply below_drew1) | exact HB.out)⟩
          · replace c10 := Bool.eq_false_iff.mpr c10
            subst c10
            have H1 : ((spec_l09Same.f ((rd_T71 l0 x14_1).f0) ((rd_T71 l0 x14_1).f1) ((rd_T71 l0 x14_1).f2) ((rd_T71 l0 x14_1).f3) ((rd_T71 l0 x14_1).f4) ((rd_T71 l0 x14_1).f5) ((rd_T71 l0 x14_1).f6) ((rd_T71 l0 x14_1).f7) ((rd_T71 l0 x14_1).f8) a1 a4 a5 a2 a3).bind fun t299 => (if t299 = true then (some (x14_1, true)) else (spec_l09Find.l0 k1 l0 a1 a2 a3 a4 a5 (wrap64 (x14_1 + 1))))) = some (r1, r2) := by rw [if_neg (show ¬ (false = true) by decide)] at H; exact H
            clear H
            have H := H1
            clear H1
            replace H := Option.bind_eq_some_iff.mp H
            obtain ⟨t299, A120, H⟩ := H
            replace H : (if t299 = true then (some (x14_1, true)) else (spec_l09Find.l0 k1 l0 a1 a2 a3 a4 a5 (wrap64 (x14_1 + 1)))) = some (r1, r2) := H
            have A12 := Aside0.mk A120
            clear A120
            by_cases c13 : t299 = true
            · subst c13
              have H1 : (some (x14_1, true)) = some (r1, r2) := by rw [if_pos rfl] at H; exact H
              clear H
              have H := H1
              clear H1
              simp only [Option.some.injEq, Prod.mk.injEq] at H
              obtain ⟨rfl, rfl⟩ := H
              have p296 : 0 ≤ (x14_1 : Int) := of_decide_eq_true (by first | (with_reducible assumption) | assumption)
              have q296 : x14_1 < (l0.length : Int) := of_decide_eq_true (by first | (with_reducible assumption) | assumption)
              obtain ⟨ad296, e296, hx296_0, hx296_1, hx296_2, hx296_3, hx296_4, hx296_5, hx296_6, hx296_7, hx296_8⟩ := at_T71 HR0.out x14_1 p296 q296
              cases e296
              replace hx296_0 := (HB.out.cell (World.block_lt_of_cell? w _ hx296_0)).trans hx296_0
              replace hx296_1 := (HB.out.cell (World.block_lt_of_cell? w _ hx296_1)).trans hx296_1
              replace hx296_2 := (HB.out.cell (World.block_lt_of_cell? w _ hx296_2)).trans hx296_2
              replace hx296_3 := (HB.out.cell (World.block_lt_of_cell? w _ hx296_3)).trans hx296_3
              replace hx296_4 := (HB.out.cell (World.block_lt_of_cell? w _ hx296_4)).trans hx296_4
              replace hx296_5 := (HB.out.cell (World.block_lt_of_cell? w _ hx296_5)).trans hx296_5
              replace hx296_6 := (HB.out.cell (World.block_lt_of_cell? w _ hx296_6)).trans hx296_6
              replace hx296_7 := (HB.out.cell (World.block_lt_of_cell? w _ hx296_7)).trans hx296_7
              replace hx296_8 := (HB.out.cell (World.block_lt_of_cell? w _ hx296_8)).trans hx296_8
              replace p296 := eq_true p296
              replace q296 := eq_true q296
              go_wp2_with (first | ((with_reducible refine gate_callee (f := 76) rfl ?_); refine goesL_ (some 30) rfl rfl Try.func76 (by kernel_rfl) rfl #[.agg #[.int .i64 ((rd_T71 l0 x14_1).f0), .string ((rd_T71 l0 x14_1).f1), .int .i64 ((rd_T71 l0 x14_1).f2), .int .i64 ((rd_T71 l0 x14_1).f3), .int .i64 ((rd_T71 l0 x14_1).f4), .int .i64 ((rd_T71 l0 x14_1).f5), .int .i64 ((rd_T71 l0 x14_1).f6), .int .i64 ((rd_T71 l0 x14_1).f7), .int .i64 ((rd_T71 l0 x14_1).f8)], .int .i64 a1, .int .i64 a2, .int .i64 a3, .int .i64 a4, .int .i64 a5] rfl (by (try simp only [List.map_toArray, List.map_cons, List.map_nil]); first | done | rfl | (simp only [List.length_drop, List.length_take]; rfl)) ?_; (with_reducible refine (spec_l09Same.calls ((rd_T71 l0 x14_1).f0) ((rd_T71 l0 x14_1).f1) ((rd_T71 l0 x14_1).f2) ((rd_T71 l0 x14_1).f3) ((rd_T71 l0 x14_1).f4) ((rd_T71 l0 x14_1).f5) ((rd_T71 l0 x14_1).f6) ((rd_T71 l0 x14_1).f7) ((rd_T71 l0 x14_1).f8) a1 a2 a3 a4 a5 false _ A9.out).mono ?_); rintro e w14 ⟨rfl, hb⟩; refine ⟨_, rfl, ?_⟩; have n0_ := Aside0.mk (below_step (by repeat (first | (with_reducible first | exact HB.out | apply below_alloc | apply pw_below_drewN | apply below_drew1) | exact HB.out)) hb); clear HB; have HB := n0_; clear n0_; (try clear hb); (try clear hb2); (try clear hk); (try clear hi); have p298 : 0 ≤ (x14_1 : Int) := of_decide_eq_true (by first | (with_reducible assumption) | assumption); have q298 : x14_1 < (l0.length : Int) := of_decide_eq_true (by first | (with_reducible assumption) | assumption); obtain ⟨ad298, e298, hx298_0, hx298_1, hx298_2, hx298_3, hx298_4, hx298_5, hx298_6, hx298_7, hx298_8⟩ := at_T71 HR0.out x14_1 p298 q298; obtain rfl : ad296 = ad298 := (by injection e298); replace hx298_0 := (HB.out.cell (World.block_lt_of_cell? w _ hx298_0)).trans hx298_0; replace hx298_1 := (HB.out.cell (World.block_lt_of_cell? w _ hx298_1)).trans hx298_1; replace hx298_2 := (HB.out.cell (World.block_lt_of_cell? w _ hx298_2)).trans hx298_2; replace hx298_3 := (HB.out.cell (World.block_lt_of_cell? w _ hx298_3)).trans hx298_3; replace hx298_4 := (HB.out.cell (World.block_lt_of_cell? w _ hx298_4)).trans hx298_4; replace hx298_5 := (HB.out.cell (World.block_lt_of_cell? w _ hx298_5)).trans hx298_5; replace hx298_6 := (HB.out.cell (World.block_lt_of_cell? w _ hx298_6)).trans hx298_6; replace hx298_7 := (HB.out.cell (World.block_lt_of_cell? w _ hx298_7)).trans hx298_7; replace hx298_8 := (HB.out.cell (World.block_lt_of_cell? w _ hx298_8)).trans hx298_8; replace p298 := eq_true p298; replace q298 := eq_true q298) | ((with_reducible refine gate_callee (f := 76) rfl ?_); refine goesL_ (some 41) rfl rfl Try.func76 (by kernel_rfl) rfl #[.agg #[.int .i64 ((rd_T71 l0 x14_1).f0), .string ((rd_T71 l0 x14_1).f1), .int .i64 ((rd_T71 l0 x14_1).f2), .int .i64 ((rd_T71 l0 x14_1).f3), .int .i64 ((rd_T71 l0 x14_1).f4), .int .i64 ((rd_T71 l0 x14_1).f5), .int .i64 ((rd_T71 l0 x14_1).f6), .int .i64 ((rd_T71 l0 x14_1).f7), .int .i64 ((rd_T71 l0 x14_1).f8)], .int .i64 a1, .int .i64 a4, .int .i64 a5, .int .i64 a2, .int .i64 a3] rfl (by (try simp only [List.map_toArray, List.map_cons, List.map_nil]); first | done | rfl | (simp only [List.length_drop, List.length_take]; rfl)) ?_; (with_reducible refine (spec_l09Same.calls ((rd_T71 l0 x14_1).f0) ((rd_T71 l0 x14_1).f1) ((rd_T71 l0 x14_1).f2) ((rd_T71 l0 x14_1).f3) ((rd_T71 l0 x14_1).f4) ((rd_T71 l0 x14_1).f5) ((rd_T71 l0 x14_1).f6) ((rd_T71 l0 x14_1).f7) ((rd_T71 l0 x14_1).f8) a1 a4 a5 a2 a3 true _ A12.out).mono ?_); rintro e w15 ⟨rfl, hb⟩; refine ⟨_, rfl, ?_⟩; have n0_ := Aside0.mk (below_step (by repeat (first | (with_reducible first | exact HB.out | apply below_alloc | apply pw_below_drewN | apply below_drew1) | exact HB.out)) hb); clear HB; have HB := n0_; clear n0_; (try clear hb); (try clear hb2); (try clear hk); (try clear hi)))
              go_ret2
              exact ⟨by first | rfl | (simp [errW_none, errW_some] <;> rfl) | (simp [*, errW_none, errW_some] <;> rfl), by repeat (first | (with_reducible first | exact HB.out | apply below_alloc | apply pw_below_drewN | apply below_drew1) | exact HB.out)⟩
            · replace c13 := Bool.eq_false_iff.mpr c13
              subst c13
              have H1 : (spec_l09Find.l0 k1 l0 a1 a2 a3 a4 a5 (wrap64 (x14_1 + 1))) = some (r1, r2) := by rw [if_neg (show ¬ (false = true) by decide)] at H; exact H
              clear H
              have H := H1
              clear H1
              have H' := Aside0.mk H
              clear H
              have p296 : 0 ≤ (x14_1 : Int) := of_decide_eq_true (by first | (with_reducible assumption) | assumption)
              have q296 : x14_1 < (l0.length : Int) := of_decide_eq_true (by first | (with_reducible assumption) | assumption)
              obtain ⟨ad296, e296, hx296_0, hx296_1, hx296_2, hx296_3, hx296_4, hx296_5, hx296_6, hx296_7, hx296_8⟩ := at_T71 HR0.out x14_1 p296 q296
              cases e296
              replace hx296_0 := (HB.out.cell (World.block_lt_of_cell? w _ hx296_0)).trans hx296_0
              replace hx296_1 := (HB.out.cell (World.block_lt_of_cell? w _ hx296_1)).trans hx296_1
              replace hx296_2 := (HB.out.cell (World.block_lt_of_cell? w _ hx296_2)).trans hx296_2
              replace hx296_3 := (HB.out.cell (World.block_lt_of_cell? w _ hx296_3)).trans hx296_3
              replace hx296_4 := (HB.out.cell (World.block_lt_of_cell? w _ hx296_4)).trans hx296_4
              replace hx296_5 := (HB.out.cell (World.block_lt_of_cell? w _ hx296_5)).trans hx296_5
              replace hx296_6 := (HB.out.cell (World.block_lt_of_cell? w _ hx296_6)).trans hx296_6
              replace hx296_7 := (HB.out.cell (World.block_lt_of_cell? w _ hx296_7)).trans hx296_7
              replace hx296_8 := (HB.out.cell (World.block_lt_of_cell? w _ hx296_8)).trans hx296_8
              replace p296 := eq_true p296
              replace q296 := eq_true q296
              go_wp2_with (first | ((with_reducible refine gate_callee (f := 76) rfl ?_); refine goesL_ (some 30) rfl rfl Try.func76 (by kernel_rfl) rfl #[.agg #[.int .i64 ((rd_T71 l0 x14_1).f0), .string ((rd_T71 l0 x14_1).f1), .int .i64 ((rd_T71 l0 x14_1).f2), .int .i64 ((rd_T71 l0 x14_1).f3), .int .i64 ((rd_T71 l0 x14_1).f4), .int .i64 ((rd_T71 l0 x14_1).f5), .int .i64 ((rd_T71 l0 x14_1).f6), .int .i64 ((rd_T71 l0 x14_1).f7), .int .i64 ((rd_T71 l0 x14_1).f8)], .int .i64 a1, .int .i64 a2, .int .i64 a3, .int .i64 a4, .int .i64 a5] rfl (by (try simp only [List.map_toArray, List.map_cons, List.map_nil]); first | done | rfl | (simp only [List.length_drop, List.length_take]; rfl)) ?_; (with_reducible refine (spec_l09Same.calls ((rd_T71 l0 x14_1).f0) ((rd_T71 l0 x14_1).f1) ((rd_T71 l0 x14_1).f2) ((rd_T71 l0 x14_1).f3) ((rd_T71 l0 x14_1).f4) ((rd_T71 l0 x14_1).f5) ((rd_T71 l0 x14_1).f6) ((rd_T71 l0 x14_1).f7) ((rd_T71 l0 x14_1).f8) a1 a2 a3 a4 a5 false _ A9.out).mono ?_); rintro e w16 ⟨rfl, hb⟩; refine ⟨_, rfl, ?_⟩; have n0_ := Aside0.mk (below_step (by repeat (first | (with_reducible first | exact HB.out | apply below_alloc | apply pw_below_drewN | apply below_drew1) | exact HB.out)) hb); clear HB; have HB := n0_; clear n0_; (try clear hb); (try clear hb2); (try clear hk); (try clear hi); have p298 : 0 ≤ (x14_1 : Int) := of_decide_eq_true (by first | (with_reducible assumption) | assumption); have q298 : x14_1 < (l0.length : Int) := of_decide_eq_true (by first | (with_reducible assumption) | assumption); obtain ⟨ad298, e298, hx298_0, hx298_1, hx298_2, hx298_3, hx298_4, hx298_5, hx298_6, hx298_7, hx298_8⟩ := at_T71 HR0.out x14_1 p298 q298; obtain rfl : ad296 = ad298 := (by injection e298); replace hx298_0 := (HB.out.cell (World.block_lt_of_cell? w _ hx298_0)).trans hx298_0; replace hx298_1 := (HB.out.cell (World.block_lt_of_cell? w _ hx298_1)).trans hx298_1; replace hx298_2 := (HB.out.cell (World.block_lt_of_cell? w _ hx298_2)).trans hx298_2; replace hx298_3 := (HB.out.cell (World.block_lt_of_cell? w _ hx298_3)).trans hx298_3; replace hx298_4 := (HB.out.cell (World.block_lt_of_cell? w _ hx298_4)).trans hx298_4; replace hx298_5 := (HB.out.cell (World.block_lt_of_cell? w _ hx298_5)).trans hx298_5; replace hx298_6 := (HB.out.cell (World.block_lt_of_cell? w _ hx298_6)).trans hx298_6; replace hx298_7 := (HB.out.cell (World.block_lt_of_cell? w _ hx298_7)).trans hx298_7; replace hx298_8 := (HB.out.cell (World.block_lt_of_cell? w _ hx298_8)).trans hx298_8; replace p298 := eq_true p298; replace q298 := eq_true q298) | ((with_reducible refine gate_callee (f := 76) rfl ?_); refine goesL_ (some 41) rfl rfl Try.func76 (by kernel_rfl) rfl #[.agg #[.int .i64 ((rd_T71 l0 x14_1).f0), .string ((rd_T71 l0 x14_1).f1), .int .i64 ((rd_T71 l0 x14_1).f2), .int .i64 ((rd_T71 l0 x14_1).f3), .int .i64 ((rd_T71 l0 x14_1).f4), .int .i64 ((rd_T71 l0 x14_1).f5), .int .i64 ((rd_T71 l0 x14_1).f6), .int .i64 ((rd_T71 l0 x14_1).f7), .int .i64 ((rd_T71 l0 x14_1).f8)], .int .i64 a1, .int .i64 a4, .int .i64 a5, .int .i64 a2, .int .i64 a3] rfl (by (try simp only [List.map_toArray, List.map_cons, List.map_nil]); first | done | rfl | (simp only [List.length_drop, List.length_take]; rfl)) ?_; (with_reducible refine (spec_l09Same.calls ((rd_T71 l0 x14_1).f0) ((rd_T71 l0 x14_1).f1) ((rd_T71 l0 x14_1).f2) ((rd_T71 l0 x14_1).f3) ((rd_T71 l0 x14_1).f4) ((rd_T71 l0 x14_1).f5) ((rd_T71 l0 x14_1).f6) ((rd_T71 l0 x14_1).f7) ((rd_T71 l0 x14_1).f8) a1 a4 a5 a2 a3 false _ A12.out).mono ?_); rintro e w17 ⟨rfl, hb⟩; refine ⟨_, rfl, ?_⟩; have n0_ := Aside0.mk (below_step (by repeat (first | (with_reducible first | exact HB.out | apply below_alloc | apply pw_below_drewN | apply below_drew1) | exact HB.out)) hb); clear HB; have HB := n0_; clear n0_; (try clear hb); (try clear hb2); (try clear hk); (try clear hi)))
              go_roundg k1
              case measure => have := HK1.out; omega
              case rel => exact ⟨(wrap64 (x14_1 + 1)), (by first | rfl | (simp; done) | (simp [*]; done) | (simp [ne_nil_b]; done) | (simp [ne_nil_b, *]; done)), H', ⟨by have := HK1.out; omega⟩, ⟨by repeat (first | (with_reducible first | exact HB.out | apply below_alloc | apply pw_below_drewN | apply below_drew1) | exact HB.out)⟩⟩
        · rw [if_neg c8] at H
          exact absurd H (by simp)
      · rw [if_neg c7] at H
        have c7b0 : decide (x14_1 < (l0.length : Int)) = false := decide_eq_false c7
        clear c7
        simp only [Option.some.injEq, Prod.mk.injEq] at H
        obtain ⟨rfl, rfl⟩ := H
        go_wp2
        go_ret2
        exact ⟨by first | rfl | (simp [errW_none, errW_some] <;> rfl) | (simp [*, errW_none, errW_some] <;> rfl), by repeat (first | (with_reducible first | exact HB.out | apply below_alloc | apply pw_below_drewN | apply below_drew1) | exact HB.out)⟩
end
section
/-! ### spec_FlowFind: function 31 -/
def spec_FlowFind.j0 : Nat → List (S71) → Int → Int → Int → Int → Int → Bool → Option (Int × Bool × Int)
  | 0, _, _, _, _, _, _, _ => none
  | k + 1, x0, x1, x2, x3, x4, x5, x37 => if x37 = true then (some (0, false, 4)) else ((spec_l09Find.f k x0 x1 x2 x3 x4 x5).bind fun bt304 => (if bt304.1 < 0 then (some (0, false, 5)) else (some (bt304.1, bt304.2, 0))))
def spec_FlowFind.f (k : Nat) (l0 : List (S71)) (a1 : Int) (a2 : Int) (a3 : Int) (a4 : Int) (a5 : Int) : Option (Int × Bool × Int) := if (l0.length : Int) > 4096 then (some (0, false, 2)) else ((spec_FlowsOK.f k l0).bind fun t300 => (if t300 = true then ((spec_l01In.f a1 0 255).bind fun t301 => (if t301 = true then ((spec_l07Ask.f a2 a3).bind fun t302 => (if t302 = true then ((spec_l07Ask.f a4 a5).bind fun t303 => (spec_FlowFind.j0 k l0 a1 a2 a3 a4 a5 (!t303))) else (spec_FlowFind.j0 k l0 a1 a2 a3 a4 a5 true))) else (spec_FlowFind.j0 k l0 a1 a2 a3 a4 a5 true))) else (some (0, false, 1))))
theorem spec_FlowFind.mono_l : ∀ k, (∀ y0 y1 y2 y3 y4 y5 y6, LeO (spec_FlowFind.j0 k y0 y1 y2 y3 y4 y5 y6) (spec_FlowFind.j0 (k + 1) y0 y1 y2 y3 y4 y5 y6))
  | 0 => fun _ _ _ _ _ _ _ r h => by simp [spec_FlowFind.j0] at h
  | k + 1 => by
    have ih0 := spec_FlowFind.mono_l k
    · intro y0 y1 y2 y3 y4 y5 y6
      unfold spec_FlowFind.j0
      repeat' first
      | (with_reducible exact ih0 _ _ _ _ _ _ _)
      | (with_reducible exact spec_FlowsOK.mono ..)
      | (with_reducible exact spec_l09Find.mono ..)
      | (with_reducible exact LeO.refl _)
      | (with_reducible exact LeO.none _)
      | (with_reducible refine LeO.ite ?_ ?_)
      | (with_reducible refine LeO.bind ?_ (fun _ => ?_))
      | exact ih0 _ _ _ _ _ _ _
      | exact spec_FlowsOK.mono ..
      | exact spec_l09Find.mono ..
      | exact LeO.none _
      | refine LeO.ite ?_ ?_
      | refine LeO.bind ?_ (fun _ => ?_)
theorem spec_FlowFind.mono : ∀ a0 a1 a2 a3 a4 a5 k, LeO (spec_FlowFind.f k a0 a1 a2 a3 a4 a5) (spec_FlowFind.f (k + 1) a0 a1 a2 a3 a4 a5) := by
  intro a0 a1 a2 a3 a4 a5 k
  have ih0 := spec_FlowFind.mono_l k
  unfold spec_FlowFind.f
  repeat' first
      | (with_reducible exact ih0 _ _ _ _ _ _ _)
      | (with_reducible exact spec_FlowsOK.mono ..)
      | (with_reducible exact spec_l09Find.mono ..)
      | (with_reducible exact LeO.refl _)
      | (with_reducible exact LeO.none _)
      | (with_reducible refine LeO.ite ?_ ?_)
      | (with_reducible refine LeO.bind ?_ (fun _ => ?_))
      | exact ih0 _ _ _ _ _ _ _
      | exact spec_FlowsOK.mono ..
      | exact spec_l09Find.mono ..
      | exact LeO.none _
      | refine LeO.ite ?_ ?_
      | refine LeO.bind ?_ (fun _ => ?_)
set_option maxHeartbeats 8000000 in
set_option maxRecDepth 100000 in
theorem spec_FlowFind.calls (k : Nat) (A0 : Option Addr) (c0 : Nat) (l0 : List (S71)) (a1 : Int) (a2 : Int) (a3 : Int) (a4 : Int) (a5 : Int) (r1 : Int) (r2 : Bool) (r3 : Int) (w : World) (hr0 : Kd.C k71 w A0 l0.length l0) (hc0 : l0.length ≤ c0) (h : spec_FlowFind.f k l0 a1 a2 a3 a4 a5 = some (r1, r2, r3)) :
    Calls Try.prog 31 #[.slice A0 l0.length c0, .int .i64 a1, .int .i64 a2, .int .i64 a3, .int .i64 a4, .int .i64 a5] w fun e w' => e = .returned (.tuple #[.int .i64 r1, .bool r2, .int .i64 r3]) ∧ Below w.heap.size w w' := by
  have HR0 := Aside0.mk hr0
  have HC0 := Aside0.mk hc0
  clear hr0 hc0
  have HB := Aside0.mk (Below.refl w.heap.size w)
  have H : (if (l0.length : Int) > 4096 then (some (0, false, 2)) else ((spec_FlowsOK.f k l0).bind fun t300 => (if t300 = true then ((spec_l01In.f a1 0 255).bind fun t301 => (if t301 = true then ((spec_l07Ask.f a2 a3).bind fun t302 => (if t302 = true then ((spec_l07Ask.f a4 a5).bind fun t303 => (spec_FlowFind.j0 k l0 a1 a2 a3 a4 a5 (!t303))) else (spec_FlowFind.j0 k l0 a1 a2 a3 a4 a5 true))) else (spec_FlowFind.j0 k l0 a1 a2 a3 a4 a5 true))) else (some (0, false, 1))))) = some (r1, r2, r3) := h
  clear h
  by_cases c7 : (l0.length : Int) > 4096
  · rw [if_pos c7] at H
    have c7b0 : decide (4096 < (l0.length : Int)) = true := decide_eq_true c7
    have c7b1 : decide (4096 < l0.length) = true := decide_eq_true (by omega)
    clear c7
    simp only [Option.some.injEq, Prod.mk.injEq] at H
    obtain ⟨rfl, rfl, rfl⟩ := H
    go_enter Try.func31, Try.ntmps31
    go_wp2
    go_ret3
    exact ⟨by first | rfl | (simp [errW_none, errW_some] <;> rfl) | (simp [*, errW_none, errW_some] <;> rfl), by repeat (first | (with_reducible first | exact HB.out | apply below_alloc | apply pw_below_drewN | apply below_drew1) | exact HB.out)⟩
  · rw [if_neg c7] at H
    have c7b0 : decide (4096 < (l0.length : Int)) = false := decide_eq_false c7
    have c7b1 : decide (4096 < l0.length) = false := decide_eq_false (by omega)
    clear c7
    replace H := Option.bind_eq_some_iff.mp H
    obtain ⟨t300, A80, H⟩ := H
    replace H : (if t300 = true then ((spec_l01In.f a1 0 255).bind fun t301 => (if t301 = true then ((spec_l07Ask.f a2 a3).bind fun t302 => (if t302 = true then ((spec_l07Ask.f a4 a5).bind fun t303 => (spec_FlowFind.j0 k l0 a1 a2 a3 a4 a5 (!t303))) else (spec_FlowFind.j0 k l0 a1 a2 a3 a4 a5 true))) else (spec_FlowFind.j0 k l0 a1 a2 a3 a4 a5 true))) else (some (0, false, 1))) = some (r1, r2, r3) := H
    have A8 := Aside0.mk A80
    clear A80
    by_cases c9 : t300 = true
    · subst c9
      have H1 : ((spec_l01In.f a1 0 255).bind fun t301 => (if t301 = true then ((spec_l07Ask.f a2 a3).bind fun t302 => (if t302 = true then ((spec_l07Ask.f a4 a5).bind fun t303 => (spec_FlowFind.j0 k l0 a1 a2 a3 a4 a5 (!t303))) else (spec_FlowFind.j0 k l0 a1 a2 a3 a4 a5 true))) else (spec_FlowFind.j0 k l0 a1 a2 a3 a4 a5 true))) = some (r1, r2, r3) := by rw [if_pos rfl] at H; exact H
      clear H
      have H := H1
      clear H1
      have HC10 := Aside0.mk H
      clear H
      go_enter Try.func31, Try.ntmps31
      go_upto_region 5 with (first | ((with_reducible refine gate_callee (f := 27) rfl ?_); refine goesL_ (some 21) rfl rfl Try.func27 (by kernel_rfl) rfl #[.slice A0 l0.length c0] rfl (by (try simp only [List.map_toArray, List.map_cons, List.map_nil]); first | done | rfl | (simp only [List.length_drop, List.length_take]; rfl)) ?_; (with_reducible refine (spec_FlowsOK.calls k _ _ l0 true _ ?side1 ?side2 A8.out).mono ?_); (case side1 => repeat (first | exact HR0.out | (with_reducible refine Kd.C_alloc ?_ _) | (with_reducible refine Kd.C_drewN ?_ _) | (with_reducible refine Kd.C_drew ?_))); (case side2 => exact HC0.out); rintro e w11 ⟨rfl, hb⟩; refine ⟨_, rfl, ?_⟩; have n0_ := Aside0.mk (below_step (by repeat (first | (with_reducible first | exact HB.out | apply below_alloc | apply pw_below_drewN | apply below_drew1) | exact HB.out)) hb); clear HB; have HB := n0_; clear n0_; (try clear hb); (try clear hb2); (try clear hk); (try clear hi)))
      (try simp only [Act.put, List.setIfInBounds_toArray, List.set_cons_zero, List.set_cons_succ])
      go_cut [37] (fun v37 wc => ∃ (kq : Nat) (x37_9 : Bool), v37 = .bool x37_9 ∧ Aside0 (spec_FlowFind.j0 kq l0 a1 a2 a3 a4 a5 x37_9 = some (r1, r2, r3)) ∧ Aside0 (kq ≤ k) ∧ Aside0 (Below w.heap.size w wc))
      case first =>
        have H := HC10.out
        clear HC10
        replace H := Option.bind_eq_some_iff.mp H
        obtain ⟨t301, A120, H⟩ := H
        replace H : (if t301 = true then ((spec_l07Ask.f a2 a3).bind fun t302 => (if t302 = true then ((spec_l07Ask.f a4 a5).bind fun t303 => (spec_FlowFind.j0 k l0 a1 a2 a3 a4 a5 (!t303))) else (spec_FlowFind.j0 k l0 a1 a2 a3 a4 a5 true))) else (spec_FlowFind.j0 k l0 a1 a2 a3 a4 a5 true)) = some (r1, r2, r3) := H
        have A12 := Aside0.mk A120
        clear A120
        by_cases c13 : t301 = true
        · subst c13
          have H1 : ((spec_l07Ask.f a2 a3).bind fun t302 => (if t302 = true then ((spec_l07Ask.f a4 a5).bind fun t303 => (spec_FlowFind.j0 k l0 a1 a2 a3 a4 a5 (!t303))) else (spec_FlowFind.j0 k l0 a1 a2 a3 a4 a5 true))) = some (r1, r2, r3) := by rw [if_pos rfl] at H; exact H
          clear H
          have H := H1
          clear H1
          replace H := Option.bind_eq_some_iff.mp H
          obtain ⟨t302, A140, H⟩ := H
          replace H : (if t302 = true then ((spec_l07Ask.f a4 a5).bind fun t303 => (spec_FlowFind.j0 k l0 a1 a2 a3 a4 a5 (!t303))) else (spec_FlowFind.j0 k l0 a1 a2 a3 a4 a5 true)) = some (r1, r2, r3) := H
          have A14 := Aside0.mk A140
          clear A140
          by_cases c15 : t302 = true
          · subst c15
            have H1 : ((spec_l07Ask.f a4 a5).bind fun t303 => (spec_FlowFind.j0 k l0 a1 a2 a3 a4 a5 (!t303))) = some (r1, r2, r3) := by rw [if_pos rfl] at H; exact H
            clear H
            have H := H1
            clear H1
            replace H := Option.bind_eq_some_iff.mp H
            obtain ⟨t303, A160, H⟩ := H
            replace H : (spec_FlowFind.j0 k l0 a1 a2 a3 a4 a5 (!t303)) = some (r1, r2, r3) := H
            have A16 := Aside0.mk A160
            clear A160
            have H' := Aside0.mk H
            clear H
            go_wp2_with (first | ((with_reducible refine gate_callee (f := 64) rfl ?_); refine goesL_ (some 24) rfl rfl Try.func64 (by kernel_rfl) rfl #[.int .i64 a1, .int .i64 0, .int .i64 255] rfl (by (try simp only [List.map_toArray, List.map_cons, List.map_nil]); first | done | rfl | (simp only [List.length_drop, List.length_take]; rfl)) ?_; (with_reducible refine (spec_l01In.calls a1 0 255 true _ A12.out).mono ?_); rintro e w' ⟨rfl, ⟨nd, rfl⟩⟩; refine ⟨_, rfl, ?_⟩) | (go_at_call 69; (with_reducible refine (spec_l07Ask.calls a2 a3 true _ A14.out).mono ?_); rintro e w' ⟨rfl, ⟨nd, rfl⟩⟩) | (go_at_call 69; (with_reducible refine (spec_l07Ask.calls a4 a5 t303 _ A16.out).mono ?_); rintro e w' ⟨rfl, ⟨nd, rfl⟩⟩))
            go_meet
            case rel => exact ⟨_, (!t303), (by first | rfl | (simp; done) | (simp [*]; done) | (simp [ne_nil_b]; done) | (simp [ne_nil_b, *]; done)), H', ⟨by first | omega | exact Nat.le_refl _⟩, ⟨by repeat (first | (with_reducible first | exact HB.out | apply below_alloc | apply pw_below_drewN | apply below_drew1) | exact HB.out)⟩⟩
          · replace c15 := Bool.eq_false_iff.mpr c15
            subst c15
            have H1 : (spec_FlowFind.j0 k l0 a1 a2 a3 a4 a5 true) = some (r1, r2, r3) := by rw [if_neg (show ¬ (false = true) by decide)] at H; exact H
            clear H
            have H := H1
            clear H1
            have H' := Aside0.mk H
            clear H
            go_wp2_with (first | ((with_reducible refine gate_callee (f := 64) rfl ?_); refine goesL_ (some 24) rfl rfl Try.func64 (by kernel_rfl) rfl #[.int .i64 a1, .int .i64 0, .int .i64 255] rfl (by (try simp only [List.map_toArray, List.map_cons, List.map_nil]); first | done | rfl | (simp only [List.length_drop, List.length_take]; rfl)) ?_; (with_reducible refine (spec_l01In.calls a1 0 255 true _ A12.out).mono ?_); rintro e w' ⟨rfl, ⟨nd, rfl⟩⟩; refine ⟨_, rfl, ?_⟩) | (go_at_call 69; (with_reducible refine (spec_l07Ask.calls a2 a3 false _ A14.out).mono ?_); rintro e w' ⟨rfl, ⟨nd, rfl⟩⟩))
            go_meet
            case rel => exact ⟨_, (true), (by first | rfl | (simp; done) | (simp [*]; done) | (simp [ne_nil_b]; done) | (simp [ne_nil_b, *]; done)), H', ⟨by first | omega | exact Nat.le_refl _⟩, ⟨by repeat (first | (with_reducible first | exact HB.out | apply below_alloc | apply pw_below_drewN | apply below_drew1) | exact HB.out)⟩⟩
        · replace c13 := Bool.eq_false_iff.mpr c13
          subst c13
          have H1 : (spec_FlowFind.j0 k l0 a1 a2 a3 a4 a5 true) = some (r1, r2, r3) := by rw [if_neg (show ¬ (false = true) by decide)] at H; exact H
          clear H
          have H := H1
          clear H1
          have H' := Aside0.mk H
          clear H
          go_wp2_with (first | ((with_reducible refine gate_callee (f := 64) rfl ?_); refine goesL_ (some 24) rfl rfl Try.func64 (by kernel_rfl) rfl #[.int .i64 a1, .int .i64 0, .int .i64 255] rfl (by (try simp only [List.map_toArray, List.map_cons, List.map_nil]); first | done | rfl | (simp only [List.length_drop, List.length_take]; rfl)) ?_; (with_reducible refine (spec_l01In.calls a1 0 255 false _ A12.out).mono ?_); rintro e w' ⟨rfl, ⟨nd, rfl⟩⟩; refine ⟨_, rfl, ?_⟩))
          go_meet
          case rel => exact ⟨_, (true), (by first | rfl | (simp; done) | (simp [*]; done) | (simp [ne_nil_b]; done) | (simp [ne_nil_b, *]; done)), H', ⟨by first | omega | exact Nat.le_refl _⟩, ⟨by repeat (first | (with_reducible first | exact HB.out | apply below_alloc | apply pw_below_drewN | apply below_drew1) | exact HB.out)⟩⟩
      case rest =>
        clear HC10
        try clear c1
        try clear c2
        try clear p2
        try clear c3
        try clear c6
        try clear c7
        try clear c7b0
        try clear c7b1
        try clear c9
        try clear c13
        try clear c15
        obtain ⟨kq, x37_9, rfl, HA, HJ9, HB⟩ := hcut
        cases kq with
        | zero => exact absurd HA.out (by simp [spec_FlowFind.j0])
        | succ kj9 =>
          have H := HA.out
          clear HA
          simp only [spec_FlowFind.j0] at H
          by_cases c17 : x37_9 = true
          · subst c17
            have H1 : (some (0, false, 4)) = some (r1, r2, r3) := by rw [if_pos rfl] at H; exact H
            clear H
            have H := H1
            clear H1
            simp only [Option.some.injEq, Prod.mk.injEq] at H
            obtain ⟨rfl, rfl, rfl⟩ := H
            go_wp2
            go_ret3
            exact ⟨by first | rfl | (simp [errW_none, errW_some] <;> rfl) | (simp [*, errW_none, errW_some] <;> rfl), by repeat (first | (with_reducible first | exact HB.out | apply below_alloc | apply pw_below_drewN | apply below_drew1) | exact HB.out)⟩
          · replace c17 := Bool.eq_false_iff.mpr c17
            subst c17
            have H1 : ((spec_l09Find.f kj9 l0 a1 a2 a3 a4 a5).bind fun bt304 => (if bt304.1 < 0 then (some (0, false, 5)) else (some (bt304.1, bt304.2, 0)))) = some (r1, r2, r3) := by rw [if_neg (show ¬ (false = true) by decide)] at H; exact H
            clear H
            have H := H1
            clear H1
            replace H := Option.bind_eq_some_iff.mp H
            obtain ⟨⟨t304, t305⟩, A180, H⟩ := H
            replace H : (if t304 < 0 then (some (0, false, 5)) else (some (t304, t305, 0))) = some (r1, r2, r3) := H
            have A18 := Aside0.mk A180
            clear A180
            by_cases c19 : t304 < 0
            · rw [if_pos c19] at H
              have c19b0 : decide (t304 < 0) = true := decide_eq_true c19
              clear c19
              simp only [Option.some.injEq, Prod.mk.injEq] at H
              obtain ⟨rfl, rfl, rfl⟩ := H
              go_wp2_with (first | ((with_reducible refine gate_callee (f := 80) rfl ?_); refine goesL_ (some 45) rfl rfl Try.func80 (by kernel_rfl) rfl #[.slice A0 l0.length c0, .int .i64 a1, .int .i64 a2, .int .i64 a3, .int .i64 a4, .int .i64 a5] rfl (by (try simp only [List.map_toArray, List.map_cons, List.map_nil]); first | done | rfl | (simp only [List.length_drop, List.length_take]; rfl)) ?_; (with_reducible refine (spec_l09Find.calls kj9 _ _ l0 a1 a2 a3 a4 a5 t304 t305 _ ?side1 ?side2 A18.out).mono ?_); (case side1 => repeat (first | exact (Kd.C_below HR0.out HB.out) | (with_reducible refine Kd.C_alloc ?_ _) | (with_reducible refine Kd.C_drewN ?_ _) | (with_reducible refine Kd.C_drew ?_))); (case side2 => exact HC0.out); rintro e w20 ⟨rfl, hb⟩; refine ⟨_, rfl, ?_⟩; have n0_ := Aside0.mk (below_step (by repeat (first | (with_reducible first | exact HB.out | apply below_alloc | apply pw_below_drewN | apply below_drew1) | exact HB.out)) hb); clear HB; have HB := n0_; clear n0_; (try clear hb); (try clear hb2); (try clear hk); (try clear hi)))
              go_ret3
              exact ⟨by first | rfl | (simp [errW_none, errW_some] <;> rfl) | (simp [*, errW_none, errW_some] <;> rfl), by repeat (first | (with_reducible first | exact HB.out | apply below_alloc | apply pw_below_drewN | apply below_drew1) | exact HB.out)⟩
            · rw [if_neg c19] at H
              have c19b0 : decide (t304 < 0) = false := decide_eq_false c19
              clear c19
              simp only [Option.some.injEq, Prod.mk.injEq] at H
              obtain ⟨rfl, rfl, rfl⟩ := H
              go_wp2_with (first | ((with_reducible refine gate_callee (f := 80) rfl ?_); refine goesL_ (some 45) rfl rfl Try.func80 (by kernel_rfl) rfl #[.slice A0 l0.length c0, .int .i64 a1, .int .i64 a2, .int .i64 a3, .int .i64 a4, .int .i64 a5] rfl (by (try simp only [List.map_toArray, List.map_cons, List.map_nil]); first | done | rfl | (simp only [List.length_drop, List.length_take]; rfl)) ?_; (with_reducible refine (spec_l09Find.calls kj9 _ _ l0 a1 a2 a3 a4 a5 t304 t305 _ ?side1 ?side2 A18.out).mono ?_); (case side1 => repeat (first | exact (Kd.C_below HR0.out HB.out) | (with_reducible refine Kd.C_alloc ?_ _) | (with_reducible refine Kd.C_drewN ?_ _) | (with_reducible refine Kd.C_drew ?_))); (case side2 => exact HC0.out); rintro e w21 ⟨rfl, hb⟩; refine ⟨_, rfl, ?_⟩; have n0_ := Aside0.mk (below_step (by repeat (first | (with_reducible first | exact HB.out | apply below_alloc | apply pw_below_drewN | apply below_drew1) | exact HB.out)) hb); clear HB; have HB := n0_; clear n0_; (try clear hb); (try clear hb2); (try clear hk); (try clear hi)))
              go_ret3
              exact ⟨by first | rfl | (simp [errW_none, errW_some] <;> rfl) | (simp [*, errW_none, errW_some] <;> rfl), by repeat (first | (with_reducible first | exact HB.out | apply below_alloc | apply pw_below_drewN | apply below_drew1) | exact HB.out)⟩
    · replace c9 := Bool.eq_false_iff.mpr c9
      subst c9
      have H1 : (some (0, false, 1)) = some (r1, r2, r3) := by rw [if_neg (show ¬ (false = true) by decide)] at H; exact H
      clear H
      have H := H1
      clear H1
      simp only [Option.some.injEq, Prod.mk.injEq] at H
      obtain ⟨rfl, rfl, rfl⟩ := H
      go_enter Try.func31, Try.ntmps31
      go_wp2_with (first | ((with_reducible refine gate_callee (f := 27) rfl ?_); refine goesL_ (some 21) rfl rfl Try.func27 (by kernel_rfl) rfl #[.slice A0 l0.length c0] rfl (by (try simp only [List.map_toArray, List.map_cons, List.map_nil]); first | done | rfl | (simp only [List.length_drop, List.length_take]; rfl)) ?_; (with_reducible refine (spec_FlowsOK.calls k _ _ l0 false _ ?side1 ?side2 A8.out).mono ?_); (case side1 => repeat (first | exact HR0.out | (with_reducible refine Kd.C_alloc ?_ _) | (with_reducible refine Kd.C_drewN ?_ _) | (with_reducible refine Kd.C_drew ?_))); (case side2 => exact HC0.out); rintro e w22 ⟨rfl, hb⟩; refine ⟨_, rfl, ?_⟩; have n0_ := Aside0.mk (below_step (by repeat (first | (with_reducible first | exact HB.out | apply below_alloc | apply pw_below_drewN | apply below_drew1) | exact HB.out)) hb); clear HB; have HB := n0_; clear n0_; (try clear hb); (try clear hb2); (try clear hk); (try clear hi)))
      go_ret3
      exact ⟨by first | rfl | (simp [errW_none, errW_some] <;> rfl) | (simp [*, errW_none, errW_some] <;> rfl), by repeat (first | (with_reducible first | exact HB.out | apply below_alloc | apply pw_below_drewN | apply below_drew1) | exact HB.out)⟩
end
section
/-! ### impl_FlowFind: function 32 -/
def impl_FlowFind.j0 : Nat → List (S71) → Int → Int → Int → Int → Int → Bool → Option (Int × Bool × Int)
  | 0, _, _, _, _, _, _, _ => none
  | k + 1, x0, x1, x2, x3, x4, x5, x45 => if x45 = true then (some (0, false, 4)) else ((impl_find.f k x0 x1 x2 x3 x4 x5).bind fun bt313 => (if bt313.1 < 0 then (some (0, false, 5)) else (some (bt313.1, bt313.2, 0))))
def impl_FlowFind.f (k : Nat) (l0 : List (S71)) (a1 : Int) (a2 : Int) (a3 : Int) (a4 : Int) (a5 : Int) : Option (Int × Bool × Int) := (impl_flowsFault.f k l0).bind fun t307 => (if t307 = 0 then ((impl_isProto.f a1).bind fun t308 => (if t308 = true then ((impl_isAddress.f a2).bind fun t309 => (if t309 = true then ((impl_isAddress.f a4).bind fun t310 => (if t310 = true then ((impl_isPort.f a3).bind fun t311 => (if t311 = true then ((impl_isPort.f a5).bind fun t312 => (impl_FlowFind.j0 k l0 a1 a2 a3 a4 a5 (!t312))) else (impl_FlowFind.j0 k l0 a1 a2 a3 a4 a5 true))) else (impl_FlowFind.j0 k l0 a1 a2 a3 a4 a5 true))) else (impl_FlowFind.j0 k l0 a1 a2 a3 a4 a5 true))) else (impl_FlowFind.j0 k l0 a1 a2 a3 a4 a5 true))) else (some (0, false, t307)))
theorem impl_FlowFind.mono_l : ∀ k, (∀ y0 y1 y2 y3 y4 y5 y6, LeO (impl_FlowFind.j0 k y0 y1 y2 y3 y4 y5 y6) (impl_FlowFind.j0 (k + 1) y0 y1 y2 y3 y4 y5 y6))
  | 0 => fun _ _ _ _ _ _ _ r h => by simp [impl_FlowFind.j0] at h
  | k + 1 => by
    have ih0 := impl_FlowFind.mono_l k
    · intro y0 y1 y2 y3 y4 y5 y6
      unfold impl_FlowFind.j0
      repeat' first
      | (with_reducible exact ih0 _ _ _ _ _ _ _)
      | (with_reducible exact impl_find.mono ..)
      | (with_reducible exact impl_flowsFault.mono ..)
      | (with_reducible exact LeO.refl _)
      | (with_reducible exact LeO.none _)
      | (with_reducible refine LeO.ite ?_ ?_)
      | (with_reducible refine LeO.bind ?_ (fun _ => ?_))
      | exact ih0 _ _ _ _ _ _ _
      | exact impl_find.mono ..
      | exact impl_flowsFault.mono ..
      | exact LeO.none _
      | refine LeO.ite ?_ ?_
      | refine LeO.bind ?_ (fun _ => ?_)
theorem impl_FlowFind.mono : ∀ a0 a1 a2 a3 a4 a5 k, LeO (impl_FlowFind.f k a0 a1 a2 a3 a4 a5) (impl_FlowFind.f (k + 1) a0 a1 a2 a3 a4 a5) := by
  intro a0 a1 a2 a3 a4 a5 k
  have ih0 := impl_FlowFind.mono_l k
  unfold impl_FlowFind.f
  repeat' first
      | (with_reducible exact ih0 _ _ _ _ _ _ _)
      | (with_reducible exact impl_find.mono ..)
      | (with_reducible exact impl_flowsFault.mono ..)
      | (with_reducible exact LeO.refl _)
      | (with_reducible exact LeO.none _)
      | (with_reducible refine LeO.ite ?_ ?_)
      | (with_reducible refine LeO.bind ?_ (fun _ => ?_))
      | exact ih0 _ _ _ _ _ _ _
      | exact impl_find.mono ..
      | exact impl_flowsFault.mono ..
      | exact LeO.none _
      | refine LeO.ite ?_ ?_
      | refine LeO.bind ?_ (fun _ => ?_)
set_option maxHeartbeats 8000000 in
set_option maxRecDepth 100000 in
theorem impl_FlowFind.calls (k : Nat) (A0 : Option Addr) (c0 : Nat) (l0 : List (S71)) (a1 : Int) (a2 : Int) (a3 : Int) (a4 : Int) (a5 : Int) (r1 : Int) (r2 : Bool) (r3 : Int) (w : World) (hr0 : Kd.C k71 w A0 l0.length l0) (hc0 : l0.length ≤ c0) (h : impl_FlowFind.f k l0 a1 a2 a3 a4 a5 = some (r1, r2, r3)) :
    Calls Try.prog 32 #[.slice A0 l0.length c0, .int .i64 a1, .int .i64 a2, .int .i64 a3, .int .i64 a4, .int .i64 a5] w fun e w' => e = .returned (.tuple #[.int .i64 r1, .bool r2, .int .i64 r3]) ∧ Below w.heap.size w w' := by
  have HR0 := Aside0.mk hr0
  have HC0 := Aside0.mk hc0
  clear hr0 hc0
  have HB := Aside0.mk (Below.refl w.heap.size w)
  have H : ((impl_flowsFault.f k l0).bind fun t307 => (if t307 = 0 then ((impl_isProto.f a1).bind fun t308 => (if t308 = true then ((impl_isAddress.f a2).bind fun t309 => (if t309 = true then ((impl_isAddress.f a4).bind fun t310 => (if t310 = true then ((impl_isPort.f a3).bind fun t311 => (if t311 = true then ((impl_isPort.f a5).bind fun t312 => (impl_FlowFind.j0 k l0 a1 a2 a3 a4 a5 (!t312))) else (impl_FlowFind.j0 k l0 a1 a2 a3 a4 a5 true))) else (impl_FlowFind.j0 k l0 a1 a2 a3 a4 a5 true))) else (impl_FlowFind.j0 k l0 a1 a2 a3 a4 a5 true))) else (impl_FlowFind.j0 k l0 a1 a2 a3 a4 a5 true))) else (some (0, false, t307)))) = some (r1, r2, r3) := h
  clear h
  replace H := Option.bind_eq_some_iff.mp H
  obtain ⟨t307, A70, H⟩ := H
  replace H : (if t307 = 0 then ((impl_isProto.f a1).bind fun t308 => (if t308 = true then ((impl_isAddress.f a2).bind fun t309 => (if t309 = true then ((impl_isAddress.f a4).bind fun t310 => (if t310 = true then ((impl_isPort.f a3).bind fun t311 => (if t311 = true then ((impl_isPort.f a5).bind fun t312 => (impl_FlowFind.j0 k l0 a1 a2 a3 a4 a5 (!t312))) else (impl_FlowFind.j0 k l0 a1 a2 a3 a4 a5 true))) else (impl_FlowFind.j0 k l0 a1 a2 a3 a4 a5 true))) else (impl_FlowFind.j0 k l0 a1 a2 a3 a4 a5 true))) else (impl_FlowFind.j0 k l0 a1 a2 a3 a4 a5 true))) else (some (0, false, t307))) = some (r1, r2, r3) := H
  have A7 := Aside0.mk A70
  clear A70
  by_cases c8 : t307 = 0
  · rw [if_pos c8] at H
    have c8b0 : (t307 == 0) = true := beq_iff_eq.mpr c8
    have c8b1 : (t307 != 0) = false := bne_eq_false_iff_eq.mpr c8
    clear c8
    have HC9 := Aside0.mk H
    clear H
    go_enter Try.func32, Try.ntmps32
    go_upto_region 4 with (first | ((with_reducible refine gate_callee (f := 81) rfl ?_); refine goesL_ (some 19) rfl rfl Try.func81 (by kernel_rfl) rfl #[.slice A0 l0.length c0] rfl (by (try simp only [List.map_toArray, List.map_cons, List.map_nil]); first | done | rfl | (simp only [List.length_drop, List.length_take]; rfl)) ?_; (with_reducible refine (impl_flowsFault.calls k _ _ l0 t307 _ ?side1 ?side2 A7.out).mono ?_); (case side1 => repeat (first | exact HR0.out | (with_reducible refine Kd.C_alloc ?_ _) | (with_reducible refine Kd.C_drewN ?_ _) | (with_reducible refine Kd.C_drew ?_))); (case side2 => exact HC0.out); rintro e w10 ⟨rfl, hb⟩; refine ⟨_, rfl, ?_⟩; have n0_ := Aside0.mk (below_step (by repeat (first | (with_reducible first | exact HB.out | apply below_alloc | apply pw_below_drewN | apply below_drew1) | exact HB.out)) hb); clear HB; have HB := n0_; clear n0_; (try clear hb); (try clear hb2); (try clear hk); (try clear hi)))
    (try simp only [Act.put, List.setIfInBounds_toArray, List.set_cons_zero, List.set_cons_succ])
    go_cut [45] (fun v45 wc => ∃ (kq : Nat) (x45_8 : Bool), v45 = .bool x45_8 ∧ Aside0 (impl_FlowFind.j0 kq l0 a1 a2 a3 a4 a5 x45_8 = some (r1, r2, r3)) ∧ Aside0 (kq ≤ k) ∧ Aside0 (Below w.heap.size w wc))
    case first =>
      have H := HC9.out
      clear HC9
      replace H := Option.bind_eq_some_iff.mp H
      obtain ⟨t308, A110, H⟩ := H
      replace H : (if t308 = true then ((impl_isAddress.f a2).bind fun t309 => (if t309 = true then ((impl_isAddress.f a4).bind fun t310 => (if t310 = true then ((impl_isPort.f a3).bind fun t311 => (if t311 = true then ((impl_isPort.f a5).bind fun t312 => (impl_FlowFind.j0 k l0 a1 a2 a3 a4 a5 (!t312))) else (impl_FlowFind.j0 k l0 a1 a2 a3 a4 a5 true))) else (impl_FlowFind.j0 k l0 a1 a2 a3 a4 a5 true))) else (impl_FlowFind.j0 k l0 a1 a2 a3 a4 a5 true))) else (impl_FlowFind.j0 k l0 a1 a2 a3 a4 a5 true)) = some (r1, r2, r3) := H
      have A11 := Aside0.mk A110
      clear A110
      by_cases c12 : t308 = true
      · subst c12
        have H1 : ((impl_isAddress.f a2).bind fun t309 => (if t309 = true then ((impl_isAddress.f a4).bind fun t310 => (if t310 = true then ((impl_isPort.f a3).bind fun t311 => (if t311 = true then ((impl_isPort.f a5).bind fun t312 => (impl_FlowFind.j0 k l0 a1 a2 a3 a4 a5 (!t312))) else (impl_FlowFind.j0 k l0 a1 a2 a3 a4 a5 true))) else (impl_FlowFind.j0 k l0 a1 a2 a3 a4 a5 true))) else (impl_FlowFind.j0 k l0 a1 a2 a3 a4 a5 true))) = some (r1, r2, r3) := by rw [if_pos rfl] at H; exact H
        clear H
        have H := H1
        clear H1
        replace H := Option.bind_eq_some_iff.mp H
        obtain ⟨t309, A130, H⟩ := H
        replace H : (if t309 = true then ((impl_isAddress.f a4).bind fun t310 => (if t310 = true then ((impl_isPort.f a3).bind fun t311 => (if t311 = true then ((impl_isPort.f a5).bind fun t312 => (impl_FlowFind.j0 k l0 a1 a2 a3 a4 a5 (!t312))) else (impl_FlowFind.j0 k l0 a1 a2 a3 a4 a5 true))) else (impl_FlowFind.j0 k l0 a1 a2 a3 a4 a5 true))) else (impl_FlowFind.j0 k l0 a1 a2 a3 a4 a5 true)) = some (r1, r2, r3) := H
        have A13 := Aside0.mk A130
        clear A130
        by_cases c14 : t309 = true
        · subst c14
          have H1 : ((impl_isAddress.f a4).bind fun t310 => (if t310 = true then ((impl_isPort.f a3).bind fun t311 => (if t311 = true then ((impl_isPort.f a5).bind fun t312 => (impl_FlowFind.j0 k l0 a1 a2 a3 a4 a5 (!t312))) else (impl_FlowFind.j0 k l0 a1 a2 a3 a4 a5 true))) else (impl_FlowFind.j0 k l0 a1 a2 a3 a4 a5 true))) = some (r1, r2, r3) := by rw [if_pos rfl] at H; exact H
          clear H
          have H := H1
          clear H1
          replace H := Option.bind_eq_some_iff.mp H
          obtain ⟨t310, A150, H⟩ := H
          replace H : (if t310 = true then ((impl_isPort.f a3).bind fun t311 => (if t311 = true then ((impl_isPort.f a5).bind fun t312 => (impl_FlowFind.j0 k l0 a1 a2 a3 a4 a5 (!t312))) else (impl_FlowFind.j0 k l0 a1 a2 a3 a4 a5 true))) else (impl_FlowFind.j0 k l0 a1 a2 a3 a4 a5 true)) = some (r1, r2, r3) := H
          have A15 := Aside0.mk A150
          clear A150
          by_cases c16 : t310 = true
          · subst c16
            have H1 : ((impl_isPort.f a3).bind fun t311 => (if t311 = true then ((impl_isPort.f a5).bind fun t312 => (impl_FlowFind.j0 k l0 a1 a2 a3 a4 a5 (!t312))) else (impl_FlowFind.j0 k l0 a1 a2 a3 a4 a5 true))) = some (r1, r2, r3) := by rw [if_pos rfl] at H; exact H
            clear H
            have H := H1
            clear H1
            replace H := Option.bind_eq_some_iff.mp H
            obtain ⟨t311, A170, H⟩ := H
            replace H : (if t311 = true then ((impl_isPort.f a5).bind fun t312 => (impl_FlowFind.j0 k l0 a1 a2 a3 a4 a5 (!t312))) else (impl_FlowFind.j0 k l0 a1 a2 a3 a4 a5 true)) = some (r1, r2, r3) := H
            have A17 := Aside0.mk A170
            clear A170
            by_cases c18 : t311 = true
            · subst c18
              have H1 : ((impl_isPort.f a5).bind fun t312 => (impl_FlowFind.j0 k l0 a1 a2 a3 a4 a5 (!t312))) = some (r1, r2, r3) := by rw [if_pos rfl] at H; exact H
              clear H
              have H := H1
              clear H1
              replace H := Option.bind_eq_some_iff.mp H
              obtain ⟨t312, A190, H⟩ := H
              replace H : (impl_FlowFind.j0 k l0 a1 a2 a3 a4 a5 (!t312)) = some (r1, r2, r3) := H
              have A19 := Aside0.mk A190
              clear A190
              have H' := Aside0.mk H
              clear H
              go_wp2_with (first | ((with_reducible refine gate_callee (f := 66) rfl ?_); refine goesL_ (some 24) rfl rfl Try.func66 (by kernel_rfl) rfl #[.int .i64 a1] rfl (by (try simp only [List.map_toArray, List.map_cons, List.map_nil]); first | done | rfl | (simp only [List.length_drop, List.length_take]; rfl)) ?_; (with_reducible refine (impl_isProto.calls a1 true _ A11.out).mono ?_); rintro e w' ⟨rfl, ⟨nd, rfl⟩⟩; refine ⟨_, rfl, ?_⟩) | (go_at_call 61; (with_reducible refine (impl_isAddress.calls a2 true _ A13.out).mono ?_); rintro e w' ⟨rfl, ⟨nd, rfl⟩⟩) | (go_at_call 61; (with_reducible refine (impl_isAddress.calls a4 true _ A15.out).mono ?_); rintro e w' ⟨rfl, ⟨nd, rfl⟩⟩) | (go_at_call 73; (with_reducible refine (impl_isPort.calls a3 true _ A17.out).mono ?_); rintro e w' ⟨rfl, ⟨nd, rfl⟩⟩) | (go_at_call 73; (with_reducible refine (impl_isPort.calls a5 t312 _ A19.out).mono ?_); rintro e w' ⟨rfl, ⟨nd, rfl⟩⟩))
              go_meet
              case rel => exact ⟨_, (!t312), (by first | rfl | (simp; done) | (simp [*]; done) | (simp [ne_nil_b]; done) | (simp [ne_nil_b, *]; done)), H', ⟨by first | omega | exact Nat.le_refl _⟩, ⟨by repeat (first | (with_reducible first | exact HB.out | apply below_alloc | apply pw_below_drewN | apply below_drew1) | exact HB.out)⟩⟩
            · replace c18 := Bool.eq_false_iff.mpr c18
              subst c18
              have H1 : (impl_FlowFind.j0 k l0 a1 a2 a3 a4 a5 true) = some (r1, r2, r3) := by rw [if_neg (show ¬ (false = true) by decide)] at H; exact H
              clear H
              have H := H1
              clear H1
              have H' := Aside0.mk H
              clear H
              go_wp2_with (first | ((with_reducible refine gate_callee (f := 66) rfl ?_); refine goesL_ (some 24) rfl rfl Try.func66 (by kernel_rfl) rfl #[.int .i64 a1] rfl (by (try simp only [List.map_toArray, List.map_cons, List.map_nil]); first | done | rfl | (simp only [List.length_drop, List.length_take]; rfl)) ?_; (with_reducible refine (impl_isProto.calls a1 true _ A11.out).mono ?_); rintro e w' ⟨rfl, ⟨nd, rfl⟩⟩; refine ⟨_, rfl, ?_⟩) | (go_at_call 61; (with_reducible refine (impl_isAddress.calls a2 true _ A13.out).mono ?_); rintro e w' ⟨rfl, ⟨nd, rfl⟩⟩) | (go_at_call 61; (with_reducible refine (impl_isAddress.calls a4 true _ A15.out).mono ?_); rintro e w' ⟨rfl, ⟨nd, rfl⟩⟩) | (go_at_call 73; (with_reducible refine (impl_isPort.calls a3 false _ A17.out).mono ?_); rintro e w' ⟨rfl, ⟨nd, rfl⟩⟩))
              go_meet
              case rel => exact ⟨_, (true), (by first | rfl | (simp; done) | (simp [*]; done) | (simp [ne_nil_b]; done) | (simp [ne_nil_b, *]; done)), H', ⟨by first | omega | exact Nat.le_refl _⟩, ⟨by repeat (first | (with_reducible first | exact HB.out | apply below_alloc | apply pw_below_drewN | apply below_drew1) | exact HB.out)⟩⟩
          · replace c16 := Bool.eq_false_iff.mpr c16
            subst c16
            have H1 : (impl_FlowFind.j0 k l0 a1 a2 a3 a4 a5 true) = some (r1, r2, r3) := by rw [if_neg (show ¬ (false = true) by decide)] at H; exact H
            clear H
            have H := H1
            clear H1
            have H' := Aside0.mk H
            clear H
            go_wp2_with (first | ((with_reducible refine gate_callee (f := 66) rfl ?_); refine goesL_ (some 24) rfl rfl Try.func66 (by kernel_rfl) rfl #[.int .i64 a1] rfl (by (try simp only [List.map_toArray, List.map_cons, List.map_nil]); first | done | rfl | (simp only [List.length_drop, List.length_take]; rfl)) ?_; (with_reducible refine (impl_isProto.calls a1 true _ A11.out).mono ?_); rintro e w' ⟨rfl, ⟨nd, rfl⟩⟩; refine ⟨_, rfl, ?_⟩) | (go_at_call 61; (with_reducible refine (impl_isAddress.calls a2 true _ A13.out).mono ?_); rintro e w' ⟨rfl, ⟨nd, rfl⟩⟩) | (go_at_call 61; (with_reducible refine (impl_isAddress.calls a4 false _ A15.out).mono ?_); rintro e w' ⟨rfl, ⟨nd, rfl⟩⟩))
            go_meet
            case rel => exact ⟨_, (true), (by first | rfl | (simp; done) | (simp [*]; done) | (simp [ne_nil_b]; done) | (simp [ne_nil_b, *]; done)), H', ⟨by first | omega | exact Nat.le_refl _⟩, ⟨by repeat (first | (with_reducible first | exact HB.out | apply below_alloc | apply pw_below_drewN | apply below_drew1) | exact HB.out)⟩⟩
        · replace c14 := Bool.eq_false_iff.mpr c14
          subst c14
          have H1 : (impl_FlowFind.j0 k l0 a1 a2 a3 a4 a5 true) = some (r1, r2, r3) := by rw [if_neg (show ¬ (false = true) by decide)] at H; exact H
          clear H
          have H := H1
          clear H1
          have H' := Aside0.mk H
          clear H
          go_wp2_with (first | ((with_reducible refine gate_callee (f := 66) rfl ?_); refine goesL_ (some 24) rfl rfl Try.func66 (by kernel_rfl) rfl #[.int .i64 a1] rfl (by (try simp only [List.map_toArray, List.map_cons, List.map_nil]); first | done | rfl | (simp only [List.length_drop, List.length_take]; rfl)) ?_; (with_reducible refine (impl_isProto.calls a1 true _ A11.out).mono ?_); rintro e w' ⟨rfl, ⟨nd, rfl⟩⟩; refine ⟨_, rfl, ?_⟩) | (go_at_call 61; (with_reducible refine (impl_isAddress.calls a2 false _ A13.out).mono ?_); rintro e w' ⟨rfl, ⟨nd, rfl⟩⟩))
          go_meet
          case rel => exact ⟨_, (true), (by first | rfl | (simp; done) | (simp [*]; done) | (simp [ne_nil_b]; done) | (simp [ne_nil_b, *]; done)), H', ⟨by first | omega | exact Nat.le_refl _⟩, ⟨by repeat (first | (with_reducible first | exact HB.out | apply below_alloc | apply pw_below_drewN | apply below_drew1) | exact HB.out)⟩⟩
      · replace c12 := Bool.eq_false_iff.mpr c12
        subst c12
        have H1 : (impl_FlowFind.j0 k l0 a1 a2 a3 a4 a5 true) = some (r1, r2, r3) := by rw [if_neg (show ¬ (false = true) by decide)] at H; exact H
        clear H
        have H := H1
        clear H1
        have H' := Aside0.mk H
        clear H
        go_wp2_with (first | ((with_reducible refine gate_callee (f := 66) rfl ?_); refine goesL_ (some 24) rfl rfl Try.func66 (by kernel_rfl) rfl #[.int .i64 a1] rfl (by (try simp only [List.map_toArray, List.map_cons, List.map_nil]); first | done | rfl | (simp only [List.length_drop, List.length_take]; rfl)) ?_; (with_reducible refine (impl_isProto.calls a1 false _ A11.out).mono ?_); rintro e w' ⟨rfl, ⟨nd, rfl⟩⟩; refine ⟨_, rfl, ?_⟩))
        go_meet
        case rel => exact ⟨_, (true), (by first | rfl | (simp; done) | (simp [*]; done) | (simp [ne_nil_b]; done) | (simp [ne_nil_b, *]; done)), H', ⟨by first | omega | exact Nat.le_refl _⟩, ⟨by repeat (first | (with_reducible first | exact HB.out | apply below_alloc | apply pw_below_drewN | apply below_drew1) | exact HB.out)⟩⟩
    case rest =>
      clear HC9
      try clear c1
      try clear p2
      try clear c3
      try clear c6
      try clear c8
      try clear c8b0
      try clear c8b1
      try clear c12
      try clear c14
      try clear c16
      try clear c18
      obtain ⟨kq, x45_8, rfl, HA, HJ8, HB⟩ := hcut
      cases kq with
      | zero => exact absurd HA.out (by simp [impl_FlowFind.j0])
      | succ kj8 =>
        have H := HA.out
        clear HA
        simp only [impl_FlowFind.j0] at H
        by_cases c20 : x45_8 = true
        · subst c20
          have H1 : (some (0, false, 4)) = some (r1, r2, r3) := by rw [if_pos rfl] at H; exact H
          clear H
          have H := H1
          clear H1
          simp only [Option.some.injEq, Prod.mk.injEq] at H
          obtain ⟨rfl, rfl, rfl⟩ := H
          go_wp2
          go_ret3
          exact ⟨by first | rfl | (simp [errW_none, errW_some] <;> rfl) | (simp [*, errW_none, errW_some] <;> rfl), by repeat (first | (with_reducible first | exact HB.out | apply below_alloc | apply pw_below_drewN | apply below_drew1) | exact HB.out)⟩
        · replace c20 := Bool.eq_false_iff.mpr c20
          subst c20
          have H1 : ((impl_find.f kj8 l0 a1 a2 a3 a4 a5).bind fun bt313 => (if bt313.1 < 0 then (some (0, false, 5)) else (some (bt313.1, bt313.2, 0)))) = some (r1, r2, r3) := by rw [if_neg (show ¬ (false = true) by decide)] at H; exact H
          clear H
          have H := H1
          clear H1
          replace H := Option.bind_eq_some_iff.mp H
          obtain ⟨⟨t313, t314⟩, A210, H⟩ := H
          replace H : (if t313 < 0 then (some (0, false, 5)) else (some (t313, t314, 0))) = some (r1, r2, r3) := H
          have A21 := Aside0.mk A210
          clear A210
          by_cases c22 : t313 < 0
          · rw [if_pos c22] at H
            have c22b0 : decide (t313 < 0) = true := decide_eq_true c22
            clear c22
            simp only [Option.some.injEq, Prod.mk.injEq] at H
            obtain ⟨rfl, rfl, rfl⟩ := H
            go_wp2_with (first | ((with_reducible refine gate_callee (f := 78) rfl ?_); refine goesL_ (some 53) rfl rfl Try.func78 (by kernel_rfl) rfl #[.slice A0 l0.length c0, .int .i64 a1, .int .i64 a2, .int .i64 a3, .int .i64 a4, .int .i64 a5] rfl (by (try simp only [List.map_toArray, List.map_cons, List.map_nil]); first | done | rfl | (simp only [List.length_drop, List.length_take]; rfl)) ?_; (with_reducible refine (impl_find.calls kj8 _ _ l0 a1 a2 a3 a4 a5 t313 t314 _ ?side1 ?side2 A21.out).mono ?_); (case side1 => repeat (first | exact (Kd.C_below HR0.out HB.out) | (with_reducible refine Kd.C_alloc ?_ _) | (with_reducible refine Kd.C_drewN ?_ _) | (with_reducible refine Kd.C_drew ?_))); (case side2 => exact HC0.out); rintro e w23 ⟨rfl, hb⟩; refine ⟨_, rfl, ?_⟩; have n0_ := Aside0.mk (below_step (by repeat (first | (with_reducible first | exact HB.out | apply below_alloc | apply pw_below_drewN | apply below_drew1) | exact HB.out)) hb); clear HB; have HB := n0_; clear n0_; (try clear hb); (try clear hb2); (try clear hk); (try clear hi)))
            go_ret3
            exact ⟨by first | rfl | (simp [errW_none, errW_some] <;> rfl) | (simp [*, errW_none, errW_some] <;> rfl), by repeat (first | (with_reducible first | exact HB.out | apply below_alloc | apply pw_below_drewN | apply below_drew1) | exact HB.out)⟩
          · rw [if_neg c22] at H
            have c22b0 : decide (t313 < 0) = false := decide_eq_false c22
            clear c22
            simp only [Option.some.injEq, Prod.mk.injEq] at H
            obtain ⟨rfl, rfl, rfl⟩ := H
            go_wp2_with (first | ((with_reducible refine gate_callee (f := 78) rfl ?_); refine goesL_ (some 53) rfl rfl Try.func78 (by kernel_rfl) rfl #[.slice A0 l0.length c0, .int .i64 a1, .int .i64 a2, .int .i64 a3, .int .i64 a4, .int .i64 a5] rfl (by (try simp only [List.map_toArray, List.map_cons, List.map_nil]); first | done | rfl | (simp only [List.length_drop, List.length_take]; rfl)) ?_; (with_reducible refine (impl_find.calls kj8 _ _ l0 a1 a2 a3 a4 a5 t313 t314 _ ?side1 ?side2 A21.out).mono ?_); (case side1 => repeat (first | exact (Kd.C_below HR0.out HB.out) | (with_reducible refine Kd.C_alloc ?_ _) | (with_reducible refine Kd.C_drewN ?_ _) | (with_reducible refine Kd.C_drew ?_))); (case side2 => exact HC0.out); rintro e w24 ⟨rfl, hb⟩; refine ⟨_, rfl, ?_⟩; have n0_ := Aside0.mk (below_step (by repeat (first | (with_reducible first | exact HB.out | apply below_alloc | apply pw_below_drewN | apply below_drew1) | exact HB.out)) hb); clear HB; have HB := n0_; clear n0_; (try clear hb); (try clear hb2); (try clear hk); (try clear hi)))
            go_ret3
            exact ⟨by first | rfl | (simp [errW_none, errW_some] <;> rfl) | (simp [*, errW_none, errW_some] <;> rfl), by repeat (first | (with_reducible first | exact HB.out | apply below_alloc | apply pw_below_drewN | apply below_drew1) | exact HB.out)⟩
  · rw [if_neg c8] at H
    have c8b0 : (t307 == 0) = false := beq_eq_false_iff_ne.mpr c8
    have c8b1 : (t307 != 0) = true := bne_iff_ne.mpr c8
    simp only [Option.some.injEq, Prod.mk.injEq] at H
    obtain ⟨rfl, rfl, rfl⟩ := H
    go_enter Try.func32, Try.ntmps32
    go_wp2_with (first | ((with_reducible refine gate_callee (f := 81) rfl ?_); refine goesL_ (some 19) rfl rfl Try.func81 (by kernel_rfl) rfl #[.slice A0 l0.length c0] rfl (by (try simp only [List.map_toArray, List.map_cons, List.map_nil]); first | done | rfl | (simp only [List.length_drop, List.length_take]; rfl)) ?_; (with_reducible refine (impl_flowsFault.calls k _ _ l0 t307 _ ?side1 ?side2 A7.out).mono ?_); (case side1 => repeat (first | exact HR0.out | (with_reducible refine Kd.C_alloc ?_ _) | (with_reducible refine Kd.C_drewN ?_ _) | (with_reducible refine Kd.C_drew ?_))); (case side2 => exact HC0.out); rintro e w25 ⟨rfl, hb⟩; refine ⟨_, rfl, ?_⟩; have n0_ := Aside0.mk (below_step (by repeat (first | (with_reducible first | exact HB.out | apply below_alloc | apply pw_below_drewN | apply below_drew1) | exact HB.out)) hb); clear HB; have HB := n0_; clear n0_; (try clear hb); (try clear hb2); (try clear hk); (try clear hi)))
    go_ret3
    exact ⟨by first | rfl | (simp [errW_none, errW_some] <;> rfl) | (simp [*, errW_none, errW_some] <;> rfl), by repeat (first | (with_reducible first | exact HB.out | apply below_alloc | apply pw_below_drewN | apply below_drew1) | exact HB.out)⟩
end
section
-- NEEDS spec.l01In impl.within
theorem l01In_eq (a b c : Int) : spec_l01In.f a b c = some (decide (b ≤ a ∧ a ≤ c)) := by unfold spec_l01In.f; grind
theorem within_eq (a b c : Int) : impl_within.f a b c = some (decide (b ≤ a ∧ a ≤ c)) := by unfold impl_within.f; grind
end
section
-- NEEDS spec.l01Ip impl.isAddress
theorem l01Ip_eq (a : Int) : spec_l01Ip.f a = some (decide (0 ≤ a ∧ a ≤ 4294967295)) := by simp only [spec_l01Ip.f, l01In_eq, Option.bind_some]
theorem isAddress_eq (a : Int) : impl_isAddress.f a = some (decide (0 ≤ a ∧ a ≤ 4294967295)) := by simp only [impl_isAddress.f, within_eq, Option.bind_some]
end
section
-- NEEDS spec.l02Port impl.isPort
theorem l02Port_eq (a : Int) : spec_l02Port.f a = some (decide (0 ≤ a ∧ a ≤ 65535)) := by simp only [spec_l02Port.f, l01In_eq, Option.bind_some]
theorem isPort_eq (a : Int) : impl_isPort.f a = some (decide (0 ≤ a ∧ a ≤ 65535)) := by simp only [impl_isPort.f, within_eq, Option.bind_some]
end
section
-- NEEDS impl.FlowsOK spec.FlowsOK impl.find
def sameb (p a ap b bp : Int) (x : S71) : Bool := decide (x.f0 = p) && (decide (x.f2 = a) && (decide (x.f3 = ap) && (decide (x.f4 = b) && decide (x.f5 = bp))))
def twin (f x : S71) : Bool := sameb f.f0 f.f2 f.f3 f.f4 f.f5 x || sameb f.f0 f.f4 f.f5 f.f2 f.f3 x
def flowb (x : S71) : Bool := decide (0 ≤ x.f0 ∧ x.f0 ≤ 255) && (((x.f1.size : Int) == 6) && (decide (0 ≤ x.f2 ∧ x.f2 ≤ 4294967295) && (decide (0 ≤ x.f4 ∧ x.f4 ≤ 4294967295) && (decide (0 ≤ x.f3 ∧ x.f3 ≤ 65535) && (decide (0 ≤ x.f5 ∧ x.f5 ≤ 65535) && (decide (1 ≤ x.f6 ∧ x.f6 ≤ 3) && (decide (0 ≤ x.f7 ∧ x.f7 ≤ 100100) && decide (0 ≤ x.f8 ∧ x.f8 ≤ 10000))))))))
theorem same_spec (x : S71) (p a ap b bp : Int) : spec_l09Same.f x.f0 x.f1 x.f2 x.f3 x.f4 x.f5 x.f6 x.f7 x.f8 p a ap b bp = some (sameb p a ap b bp x) := by
  unfold spec_l09Same.f sameb
  by_cases c1 : x.f0 = p
  · rw [if_pos c1, decide_eq_true c1]
    by_cases c2 : x.f2 = a
    · rw [if_pos c2, decide_eq_true c2]
      by_cases c3 : x.f3 = ap
      · rw [if_pos c3, decide_eq_true c3]
        by_cases c4 : x.f4 = b
        · rw [if_pos c4, decide_eq_true c4]; by_cases c5 : x.f5 = bp <;> simp [c5]
        · rw [if_neg c4, decide_eq_false c4]; rfl
      · rw [if_neg c3, decide_eq_false c3]; rfl
    · rw [if_neg c2, decide_eq_false c2]; rfl
  · rw [if_neg c1, decide_eq_false c1]; rfl
theorem same_impl (x : S71) (p a ap b bp : Int) : impl_Flow_is.f x.f0 x.f1 x.f2 x.f3 x.f4 x.f5 x.f6 x.f7 x.f8 p a ap b bp = some (sameb p a ap b bp x) := same_spec x p a ap b bp
theorem find1_eq (x : S71) (p a ap b bp : Int) : impl_find_1.f x.f0 x.f1 x.f2 x.f3 x.f4 x.f5 x.f6 x.f7 x.f8 p a ap b bp = some (sameb p a ap b bp x) := by
  simp only [impl_find_1.f, same_impl, Option.bind_some]
theorem find2_eq (x : S71) (p a ap b bp : Int) : impl_find_2.f x.f0 x.f1 x.f2 x.f3 x.f4 x.f5 x.f6 x.f7 x.f8 p a ap b bp = some (sameb p a ap b bp x) := by
  simp only [impl_find_2.f, same_impl, Option.bind_some]
theorem flow_spec (x : S71) : spec_l09Flow.f x.f0 x.f1 x.f2 x.f3 x.f4 x.f5 x.f6 x.f7 x.f8 = some (flowb x) := by
  simp only [spec_l09Flow.f, spec_l01Mac.f, l01Ip_eq, l02Port_eq, l01In_eq, Option.bind_some, flowb]
  cases decide (0 ≤ x.f0 ∧ x.f0 ≤ 255)
  · rfl
  cases ((x.f1.size : Int) == 6)
  · rfl
  cases decide (0 ≤ x.f2 ∧ x.f2 ≤ 4294967295)
  · rfl
  cases decide (0 ≤ x.f4 ∧ x.f4 ≤ 4294967295)
  · rfl
  cases decide (0 ≤ x.f3 ∧ x.f3 ≤ 65535)
  · rfl
  cases decide (0 ≤ x.f5 ∧ x.f5 ≤ 65535)
  · rfl
  cases decide (1 ≤ x.f6 ∧ x.f6 ≤ 3)
  · rfl
  cases decide (0 ≤ x.f7 ∧ x.f7 ≤ 100100) <;> rfl
/-- What the loops of the two sides say of a flow: its ends, its state, its time. -/
theorem ends_impl (x : S71) : impl_Flow_endsOKAt.f x.f0 x.f1 x.f2 x.f3 x.f4 x.f5 x.f6 x.f7 x.f8 = some (decide (0 ≤ x.f0 ∧ x.f0 ≤ 255) && (((x.f1.size : Int) == 6) && (decide (0 ≤ x.f2 ∧ x.f2 ≤ 4294967295) && (decide (0 ≤ x.f4 ∧ x.f4 ≤ 4294967295) && (decide (0 ≤ x.f3 ∧ x.f3 ≤ 65535) && (decide (0 ≤ x.f5 ∧ x.f5 ≤ 65535) && decide (0 ≤ x.f8 ∧ x.f8 ≤ 10000))))))) := by
  simp only [impl_Flow_endsOKAt.f, impl_isProto.f, impl_macOK.f, isAddress_eq, isPort_eq, within_eq, Option.bind_some]
  cases decide (0 ≤ x.f0 ∧ x.f0 ≤ 255)
  · rfl
  cases ((x.f1.size : Int) == 6)
  · rfl
  cases decide (0 ≤ x.f2 ∧ x.f2 ≤ 4294967295)
  · rfl
  cases decide (0 ≤ x.f4 ∧ x.f4 ≤ 4294967295)
  · rfl
  cases decide (0 ≤ x.f3 ∧ x.f3 ≤ 65535)
  · rfl
  cases decide (0 ≤ x.f5 ∧ x.f5 ≤ 65535) <;> rfl
theorem flowb_split (x : S71) : flowb x = ((decide (0 ≤ x.f0 ∧ x.f0 ≤ 255) && (((x.f1.size : Int) == 6) && (decide (0 ≤ x.f2 ∧ x.f2 ≤ 4294967295) && (decide (0 ≤ x.f4 ∧ x.f4 ≤ 4294967295) && (decide (0 ≤ x.f3 ∧ x.f3 ≤ 65535) && (decide (0 ≤ x.f5 ∧ x.f5 ≤ 65535) && decide (0 ≤ x.f8 ∧ x.f8 ≤ 10000))))))) && (decide (1 ≤ x.f6 ∧ x.f6 ≤ 3) && decide (0 ≤ x.f7 ∧ x.f7 ≤ 100100))) := by
  unfold flowb
  cases decide (0 ≤ x.f0 ∧ x.f0 ≤ 255)
  · rfl
  cases ((x.f1.size : Int) == 6)
  · rfl
  cases decide (0 ≤ x.f2 ∧ x.f2 ≤ 4294967295)
  · rfl
  cases decide (0 ≤ x.f4 ∧ x.f4 ≤ 4294967295)
  · rfl
  cases decide (0 ≤ x.f3 ∧ x.f3 ≤ 65535)
  · rfl
  cases decide (0 ≤ x.f5 ∧ x.f5 ≤ 65535)
  · rfl
  cases decide (1 ≤ x.f6 ∧ x.f6 ≤ 3) <;> cases decide (0 ≤ x.f7 ∧ x.f7 ≤ 100100) <;> cases decide (0 ≤ x.f8 ∧ x.f8 ≤ 10000) <;> rfl
theorem any_or (p q : S71 → Bool) (l : List S71) : ∀ (d : Nat) (i : Int), any_T71 (fun x => p x || q x) l d i = (any_T71 p l d i || any_T71 q l d i)
  | 0, _ => rfl
  | d + 1, i => by
    rw [any_T71, any_T71, any_T71, any_or p q l d (i + 1)]
    cases p (rd_T71 l i) <;> cases q (rd_T71 l i) <;> simp
theorem rd_take (l : List S71) (n : Nat) (j : Int) (h0 : 0 ≤ j) (hj : j < n) : rd_T71 (l.take n) j = rd_T71 l j := by
  unfold rd_T71
  rw [List.getD_eq_getElem?_getD, List.getD_eq_getElem?_getD, List.getElem?_take, if_pos (by omega)]
theorem any_take (q : S71 → Bool) (l : List S71) (n : Nat) : ∀ (d : Nat) (j : Int), 0 ≤ j → j + d ≤ n → any_T71 q (l.take n) d j = any_T71 q l d j
  | 0, _, _, _ => rfl
  | d + 1, j, h0, hj => by
    rw [any_T71, any_T71, rd_take l n j h0 (by omega), any_take q l n d (j + 1) (by omega) (by omega)]
def flowsFrom (l : List S71) : Nat → Int → Bool
  | 0, _ => true
  | d + 1, i => flowb (rd_T71 l i) && (!any_T71 (twin (rd_T71 l i)) l i.toNat 0 && flowsFrom l d (i + 1))
theorem spec_twins_run (l : List S71) (hx : (l.length : Int) ≤ 4096) (i : Int) (f : S71) (hi : i < l.length) (R : Bool) (K : Nat) (hR : ∀ k, K ≤ k → spec_FlowsOK.l0 k l (i + 1) = some R) :
    ∀ (e : Nat) (j : Int), 0 ≤ j → i - j = e → ∀ k, e + 1 + K ≤ k → spec_FlowsOK.l1 k l i j f.f0 f.f1 f.f2 f.f3 f.f4 f.f5 f.f6 f.f7 f.f8 = some (!any_T71 (twin f) l e j && R)
  | 0, j, h0, he, k, hk => by
    obtain ⟨k, rfl⟩ : ∃ z, k = z + 1 := ⟨k - 1, by omega⟩
    rw [spec_FlowsOK.l1, if_neg (by omega), wrap_id (by omega) (by omega), hR k (by omega)]; rfl
  | e + 1, j, h0, he, k, hk => by
    obtain ⟨k, rfl⟩ : ∃ z, k = z + 1 := ⟨k - 1, by omega⟩
    have ih := spec_twins_run l hx i f hi R K hR e (j + 1) (by omega) (by omega) k (by omega)
    rw [spec_FlowsOK.l1, if_pos (by omega), if_pos h0, if_pos (by omega), same_spec, same_spec, wrap_id (by omega) (by omega), ih, any_T71, twin]
    simp only [Option.bind_some]
    cases sameb f.f0 f.f2 f.f3 f.f4 f.f5 (rd_T71 l j) <;> cases sameb f.f0 f.f4 f.f5 f.f2 f.f3 (rd_T71 l j) <;> simp
theorem spec_flows_run (l : List S71) (hx : (l.length : Int) ≤ 8) : ∀ (d : Nat) (i : Int), 0 ≤ i → (l.length : Int) - i = d → ∀ k, d * 20 + 1 ≤ k → spec_FlowsOK.l0 k l i = some (flowsFrom l d i)
  | 0, i, h0, hd, k, hk => by
    obtain ⟨k, rfl⟩ : ∃ z, k = z + 1 := ⟨k - 1, by omega⟩
    rw [spec_FlowsOK.l0, if_neg (by omega)]; rfl
  | d + 1, i, h0, hd, k, hk => by
    obtain ⟨k, rfl⟩ : ∃ z, k = z + 1 := ⟨k - 1, by omega⟩
    have tr := spec_twins_run l (by omega) i (rd_T71 l i) (by omega) (flowsFrom l d (i + 1)) (d * 20 + 1) (fun k hk => spec_flows_run l hx d (i + 1) (by omega) (by omega) k hk) i.toNat 0 (by omega) (by omega) k (by omega)
    rw [spec_FlowsOK.l0, if_pos (by omega), if_pos h0, flow_spec, Option.bind_some, tr, flowsFrom]
    cases flowb (rd_T71 l i) <;> simp
def findR (l : List S71) (p a ap b bp : Int) : Int × Bool :=
  if fst_T71 (sameb p a ap b bp) l l.length 0 ≥ 0 then (fst_T71 (sameb p a ap b bp) l l.length 0, false) else (fst_T71 (sameb p b bp a ap) l l.length 0, decide (fst_T71 (sameb p b bp a ap) l l.length 0 ≥ 0))
theorem impl_find_ev (l : List S71) (hx : (l.length : Int) ≤ 1152921504606846976) (p a ap b bp : Int) (k : Nat) (hk : l.length + 1 ≤ k) : impl_find.f k l p a ap b bp = some (findR l p a ap b bp) := by
  unfold impl_find.f findR
  rw [idxP71_evr (sameb p a ap b bp) l hx _ l.length 0 (by omega) (by omega) (fun j _ _ => find1_eq _ p a ap b bp) k hk, Option.bind_some,
    idxP71_evr (sameb p b bp a ap) l hx _ l.length 0 (by omega) (by omega) (fun j _ _ => find2_eq _ p b bp a ap) k hk, Option.bind_some]
  split <;> rfl
theorem find_any (l : List S71) (p a ap b bp : Int) : decide ((findR l p a ap b bp).1 ≥ 0) = any_T71 (fun x => sameb p a ap b bp x || sameb p b bp a ap x) l l.length 0 := by
  rw [any_or, ← fst_any_T71 (sameb p a ap b bp) l l.length 0 (by omega), ← fst_any_T71 (sameb p b bp a ap) l l.length 0 (by omega)]
  unfold findR
  by_cases c : fst_T71 (sameb p a ap b bp) l l.length 0 ≥ 0
  · rw [if_pos c, decide_eq_true (show 0 ≤ fst_T71 (sameb p a ap b bp) l l.length 0 from c), Bool.true_or]
  · rw [if_neg c, decide_eq_false (show ¬ 0 ≤ fst_T71 (sameb p a ap b bp) l l.length 0 from c), Bool.false_or]
theorem impl_flows_run (l : List S71) (hx : (l.length : Int) ≤ 8) : ∀ (d : Nat) (i : Int), 0 ≤ i → (l.length : Int) - i = d → ∀ k, d * 20 + 1 ≤ k → impl_FlowsOK.l0 k l (l.length : Int) i = some (flowsFrom l d i)
  | 0, i, h0, hd, k, hk => by
    obtain ⟨k, rfl⟩ : ∃ z, k = z + 1 := ⟨k - 1, by omega⟩
    rw [impl_FlowsOK.l0, if_neg (by omega)]; rfl
  | d + 1, i, h0, hd, k, hk => by
    obtain ⟨k, rfl⟩ : ∃ z, k = z + 2 := ⟨k - 2, by omega⟩
    have ih := impl_flows_run l hx d (i + 1) (by omega) (by omega) k (by omega)
    have hl : (l.take i.toNat).length = i.toNat := by rw [List.length_take]; omega
    have j1 : ∀ x, impl_FlowsOK.j1 (k + 1) l i (l.length : Int) i x = some (!x && (!any_T71 (twin (rd_T71 l i)) l i.toNat 0 && flowsFrom l d (i + 1))) := by
      intro x
      have fa := find_any (l.take i.toNat) (rd_T71 l i).f0 (rd_T71 l i).f2 (rd_T71 l i).f3 (rd_T71 l i).f4 (rd_T71 l i).f5
      rw [hl, any_take _ l i.toNat i.toNat 0 (by omega) (by omega)] at fa
      have ft : any_T71 (twin (rd_T71 l i)) l i.toNat 0 = any_T71 (fun x => sameb (rd_T71 l i).f0 (rd_T71 l i).f2 (rd_T71 l i).f3 (rd_T71 l i).f4 (rd_T71 l i).f5 x || sameb (rd_T71 l i).f0 (rd_T71 l i).f4 (rd_T71 l i).f5 (rd_T71 l i).f2 (rd_T71 l i).f3 x) l i.toNat 0 := rfl
      rw [impl_FlowsOK.j1]
      cases x with
      | true => rfl
      | false =>
        have hf := impl_find_ev (l.take i.toNat) (by rw [hl]; omega) (rd_T71 l i).f0 (rd_T71 l i).f2 (rd_T71 l i).f3 (rd_T71 l i).f4 (rd_T71 l i).f5 k (by rw [hl]; omega)
        rw [if_neg (by decide), if_pos h0, if_pos (by omega), if_pos (by omega), hf, Option.bind_some, wrap_id (by omega) (by omega), ih, ft, ← fa]
        by_cases c : (findR (l.take i.toNat) (rd_T71 l i).f0 (rd_T71 l i).f2 (rd_T71 l i).f3 (rd_T71 l i).f4 (rd_T71 l i).f5).1 ≥ 0
        · rw [if_pos c, decide_eq_true c]; rfl
        · rw [if_neg c, decide_eq_false c]; rfl
    rw [impl_FlowsOK.l0, if_pos (by omega), if_pos h0, if_pos (by omega), ends_impl, Option.bind_some, within_eq, within_eq, flowsFrom, flowb_split]
    simp only [Option.bind_some, j1]
    generalize (decide (0 ≤ (rd_T71 l i).f0 ∧ (rd_T71 l i).f0 ≤ 255) && (((rd_T71 l i).f1.size : Int) == 6 && (decide (0 ≤ (rd_T71 l i).f2 ∧ (rd_T71 l i).f2 ≤ 4294967295) && (decide (0 ≤ (rd_T71 l i).f4 ∧ (rd_T71 l i).f4 ≤ 4294967295) && (decide (0 ≤ (rd_T71 l i).f3 ∧ (rd_T71 l i).f3 ≤ 65535) && (decide (0 ≤ (rd_T71 l i).f5 ∧ (rd_T71 l i).f5 ≤ 65535) && decide (0 ≤ (rd_T71 l i).f8 ∧ (rd_T71 l i).f8 ≤ 10000))))))) = u
    cases u
    · simp
    · cases decide (1 ≤ (rd_T71 l i).f6 ∧ (rd_T71 l i).f6 ≤ 3) <;> cases decide (0 ≤ (rd_T71 l i).f7 ∧ (rd_T71 l i).f7 ≤ 100100) <;> simp
def flowsb (l : List S71) : Bool := decide ((l.length : Int) ≤ 8) && flowsFrom l l.length 0
theorem spec_FlowsOK_ev (l : List S71) (k : Nat) (hk : 200 ≤ k) : spec_FlowsOK.f k l = some (flowsb l) := by
  unfold spec_FlowsOK.f flowsb
  by_cases h : (l.length : Int) ≤ 8
  · rw [if_neg (by omega), if_neg (by omega), spec_flows_run l h l.length 0 (by omega) (by omega) k (by omega), decide_eq_true h]; rfl
  · rw [decide_eq_false h]
    by_cases c : (l.length : Int) > 4096
    · rw [if_pos c]; rfl
    · rw [if_neg c, if_pos (by omega)]; rfl
theorem impl_FlowsOK_ev (l : List S71) (k : Nat) (hk : 200 ≤ k) : impl_FlowsOK.f k l = some (flowsb l) := by
  unfold impl_FlowsOK.f flowsb
  by_cases h : (l.length : Int) ≤ 8
  · rw [if_neg (by omega), impl_flows_run l h l.length 0 (by omega) (by omega) k (by omega), decide_eq_true h]; rfl
  · rw [decide_eq_false h, if_pos (by omega)]; rfl
end
section
-- NEEDS impl.FlowFind spec.FlowFind
def findA (l : List S71) (p a ap b bp : Int) : Int × Bool × Int :=
  if (l.length : Int) > 4096 then (0, false, 2) else if flowsb l = true then (if (decide (0 ≤ p ∧ p ≤ 255) && ((decide (0 ≤ a ∧ a ≤ 4294967295) && decide (0 ≤ ap ∧ ap ≤ 65535)) && (decide (0 ≤ b ∧ b ≤ 4294967295) && decide (0 ≤ bp ∧ bp ≤ 65535)))) = true then (if (findR l p a ap b bp).1 < 0 then (0, false, 5) else ((findR l p a ap b bp).1, (findR l p a ap b bp).2, 0)) else (0, false, 4)) else (0, false, 1)
theorem flows_len {l : List S71} (hf : flowsb l = true) : (l.length : Int) ≤ 8 := by
  rw [flowsb, Bool.and_eq_true, decide_eq_true_eq] at hf
  exact hf.1
end
section
-- NEEDS impl.FlowsExpire spec.FlowsExpire impl.FlowsDrop spec.FlowsDrop
def keepF (a o : Int) (x : S71) : Bool := decide (a < x.f7) && !(x.f8 == o)
theorem keep_run (l : List S71) (hx : (l.length : Int) ≤ 8) (a o : Int) : ∀ (d : Nat) (i : Int), 0 ≤ i → (l.length : Int) - i = d → ∀ (acc : List S71), (acc.length : Int) ≤ i → ∀ k, d + 1 ≤ k → spec_l09Keep.l0 k l a o acc i = some (acc ++ (l.drop i.toNat).filter (keepF a o))
  | 0, i, h0, hd, acc, ha, k, hk => by
    obtain ⟨k, rfl⟩ : ∃ z, k = z + 1 := ⟨k - 1, by omega⟩
    rw [spec_l09Keep.l0, if_neg (by omega), List.drop_eq_nil_of_le (by omega)]; simp
  | d + 1, i, h0, hd, acc, ha, k, hk => by
    obtain ⟨k, rfl⟩ : ∃ z, k = z + 1 := ⟨k - 1, by omega⟩
    have hlt : i.toNat < l.length := by omega
    have e1 : l.drop i.toNat = rd_T71 l i :: l.drop (i + 1).toNat := by
      rw [List.drop_eq_getElem_cons hlt, rd_T71, List.getD_eq_getElem?_getD, List.getElem?_eq_getElem hlt, show (i + 1).toNat = i.toNat + 1 by omega]; rfl
    obtain ⟨u, hu⟩ : ∃ u, u = rd_T71 l i := ⟨_, rfl⟩
    rw [e1, spec_l09Keep.l0, if_pos (by omega), if_pos h0, wrap_id (by omega) (by omega), ← hu, List.filter_cons]
    by_cases c1 : u.f7 > a
    · rw [if_pos c1]
      by_cases c2 : u.f8 = o
      · rw [if_pos c2, if_neg (by simp [keepF, c2]), keep_run l hx a o d (i + 1) (by omega) (by omega) acc (by omega) k (by omega)]
      · rw [if_neg c2, if_pos (by omega), if_pos (by simp [keepF, c2]; omega), keep_run l hx a o d (i + 1) (by omega) (by omega) (acc ++ [u]) (by simp; omega) k (by omega), List.append_assoc]
        rfl
    · rw [if_neg c1, if_neg (by simp [keepF]; omega), keep_run l hx a o d (i + 1) (by omega) (by omega) acc (by omega) k (by omega)]
theorem keep_ev (l : List S71) (hx : (l.length : Int) ≤ 8) (a o : Int) (k : Nat) (hk : 20 ≤ k) : spec_l09Keep.f k l a o = some (l.filter (keepF a o)) := by
  rw [spec_l09Keep.f, keep_run l hx a o l.length 0 (by omega) (by omega) [] (by simp) k (by omega)]
  simp
theorem flows_each (l : List S71) : ∀ (d : Nat) (i : Int), 0 ≤ i → (l.length : Int) - i = d → flowsFrom l d i = true → ∀ y : Int, i ≤ y → y < l.length → flowb (rd_T71 l y) = true
  | 0, i, h0, hd, hf, y, h1, h2 => by omega
  | d + 1, i, h0, hd, hf, y, h1, h2 => by
    rw [flowsFrom, Bool.and_eq_true, Bool.and_eq_true] at hf
    by_cases e : y = i
    · rw [e]; exact hf.1
    · exact flows_each l d (i + 1) (by omega) (by omega) hf.2.2 y (by omega) h2
theorem flows_mem {l : List S71} (hf : flowsb l = true) (x : S71) (hx : x ∈ l) : 0 ≤ x.f7 ∧ 0 ≤ x.f8 := by
  rw [flowsb, Bool.and_eq_true] at hf
  obtain ⟨j, hj, rfl⟩ := List.getElem_of_mem hx
  have h := flows_each l l.length 0 (by omega) (by omega) hf.2 (j : Int) (by omega) (by omega)
  have e : rd_T71 l (j : Int) = l[j] := by
    rw [rd_T71, List.getD_eq_getElem?_getD, Int.toNat_natCast, List.getElem?_eq_getElem hj]; rfl
  rw [e] at h
  unfold flowb at h
  simp only [Bool.and_eq_true, decide_eq_true_eq] at h
  exact ⟨h.2.2.2.2.2.2.2.1.1, h.2.2.2.2.2.2.2.2.1⟩
theorem keep_drop {l : List S71} (hf : flowsb l = true) (o : Int) : l.filter (keepF (-1) o) = l.filter fun x => !(x.f8 == o) := by
  refine List.filter_congr fun x hx => ?_
  have h := flows_mem hf x hx
  rw [keepF, decide_eq_true (by omega), Bool.true_and]
def expR (l : List S71) (a : Int) : List S71 × Int := if (l.length : Int) > 4096 then ([], 2) else if flowsb l = true then (l.filter fun x => !decide (x.f7 ≤ a), 0) else ([], 1)
def dropR (l : List S71) (o : Int) : List S71 × Int := if (l.length : Int) > 4096 then ([], 2) else if flowsb l = true then (if decide (0 ≤ o ∧ o ≤ 10000) = true then (l.filter fun x => !(x.f8 == o), 0) else ([], 4)) else ([], 1)
theorem dropR_len (l : List S71) (a : Int) : (dropR l a).1.length ≤ 9 := by
  unfold dropR
  split
  · simp
  · split
    · rename_i hf
      have h8 := flows_len hf
      have := List.length_filter_le (fun x : S71 => !(x.f8 == a)) l
      split
      · dsimp only
        omega
      · simp
    · simp
theorem clone_ev (l : List S71) (h8 : (l.length : Int) ≤ 8) : impl_Flow_100.f l = some l := by
  unfold impl_Flow_100.f
  rw [Option.bind_some, if_pos (by simp; omega), List.nil_append]
theorem spec_FlowsDrop_ev (l : List S71) (a : Int) (k : Nat) (hk : 201 ≤ k) : spec_FlowsDrop.f k l a = some (dropR l a) := by
  unfold spec_FlowsDrop.f dropR
  by_cases c : (l.length : Int) > 4096
  · rw [if_pos c, if_pos c]
  rw [if_neg c, if_neg c, spec_FlowsOK_ev l k (by omega), Option.bind_some]
  cases hf : flowsb l
  · simp
  rw [if_pos rfl, if_pos rfl, l01In_eq, Option.bind_some]
  cases decide (0 ≤ a ∧ a ≤ 10000)
  · simp
  rw [if_pos rfl, if_pos rfl, keep_ev l (flows_len hf) (-1) a k (by omega), Option.bind_some, keep_drop hf]
theorem impl_FlowsDrop_ev (l : List S71) (a : Int) (k : Nat) (hk : 201 ≤ k) : impl_FlowsDrop.f k l a = some (dropR l a) := by
  unfold impl_FlowsDrop.f impl_flowsFault.f dropR
  by_cases c : (l.length : Int) > 4096
  · rw [if_pos c, if_pos c]; rfl
  rw [if_neg c, if_neg c, impl_FlowsOK_ev l k (by omega), Option.bind_some]
  cases hf : flowsb l
  · simp
  rw [if_pos rfl, Option.bind_some, if_pos rfl, if_pos rfl, within_eq, Option.bind_some]
  cases decide (0 ≤ a ∧ a ≤ 10000)
  · simp
  rw [if_pos rfl, if_pos rfl, impl_flowsDrop.f, clone_ev l (flows_len hf)]
  rfl
end
section
theorem eq_T71_refl (x : S71) : laws_eqFlow.f (x.f0) (x.f1) (x.f2) (x.f3) (x.f4) (x.f5) (x.f6) (x.f7) (x.f8) (x.f0) (x.f1) (x.f2) (x.f3) (x.f4) (x.f5) (x.f6) (x.f7) (x.f8) = some true := by
  unfold laws_eqFlow.f
  repeat' (first | rw [if_pos rfl] | rfl | rw [if_neg (by simp)])
  all_goals simp
theorem eqS_T71_l0 (xs : List S71) : ∀ (d : Nat) (i : Int), 0 ≤ i → (xs.length : Int) - i = d → (xs.length : Int) ≤ 1152921504606846976 → Ev (fun k => laws_eqFlowS.l0 k xs xs i) true := by
  intro d
  induction d with
  | zero =>
    intro i h0 hd hx
    refine ⟨1, fun k hk => ?_⟩
    obtain ⟨k, rfl⟩ : ∃ q, k = q + 1 := ⟨k - 1, by omega⟩
    simp only [laws_eqFlowS.l0]
    rw [if_neg (by omega)]
  | succ d ih =>
    intro i h0 hd hx
    have hlt : i < (xs.length : Int) := by omega
    have ei : wrap64 (i + 1) = i + 1 := wrap_id (by omega) (by omega)
    refine Ev.step (f := fun k => laws_eqFlowS.l0 k xs xs (i + 1)) (fun k => ?_) (ih (i + 1) (by omega) (by omega) hx)
    simp only [laws_eqFlowS.l0, ei]
    rw [if_pos hlt, if_pos h0, if_pos hlt]
    simp only [eq_T71_refl, Option.bind_some, if_true]
theorem eqS_T71_ev (xs : List S71) (hx : (xs.length : Int) ≤ 1152921504606846976) : Ev (fun k => laws_eqFlowS.f k xs xs) true := by
  refine Ev.congr (f := fun k => laws_eqFlowS.l0 k xs xs 0) (fun k => ?_) (eqS_T71_l0 xs xs.length 0 (by omega) (by omega) hx)
  simp only [laws_eqFlowS.f, if_true]
end
section
def wf68 (x : S68) : Prop := (Lit.int .i64 x.f0).wf = true ∧ (x.f1.size ≤ 140737488351232 ∧ ((Lit.int .i64 x.f2).wf = true ∧ ((Lit.int .i64 x.f3).wf = true ∧ ((Lit.int .i64 x.f4).wf = true ∧ ((Lit.int .i64 x.f5).wf = true ∧ ((Lit.int .i64 x.f6).wf = true ∧ ((Lit.int .i64 x.f7).wf = true ∧ ((Lit.int .i64 x.f8).wf = true))))))))
set_option maxRecDepth 100000 in
theorem opens68 : Opens Try.prog 68 k68 wf68 :=
  Opens.iso (fun x : S68 => (x.f0, x.f1, x.f2, x.f3, x.f4, x.f5, x.f6, x.f7, x.f8)) (fun y => ⟨y.1, y.2.1, y.2.2.1, y.2.2.2.1, y.2.2.2.2.1, y.2.2.2.2.2.1, y.2.2.2.2.2.2.1, y.2.2.2.2.2.2.2.1, y.2.2.2.2.2.2.2.2⟩) (fun _ => rfl) (Opens.struct Try.underlying68 (by kernel_rfl) (OpensF.cons rfl (Opens.int Try.underlying3 (by kernel_rfl)) 1 rfl (OpensF.cons rfl (Opens.string Try.underlying9 (by kernel_rfl)) 2 rfl (OpensF.cons rfl (Opens.int Try.underlying3 (by kernel_rfl)) 3 rfl (OpensF.cons rfl (Opens.int Try.underlying3 (by kernel_rfl)) 4 rfl (OpensF.cons rfl (Opens.int Try.underlying3 (by kernel_rfl)) 5 rfl (OpensF.cons rfl (Opens.int Try.underlying3 (by kernel_rfl)) 6 rfl (OpensF.cons rfl (Opens.int Try.underlying3 (by kernel_rfl)) 7 rfl (OpensF.cons rfl (Opens.int Try.underlying3 (by kernel_rfl)) 8 rfl (OpensF.one rfl (Opens.int Try.underlying3 (by kernel_rfl))))))))))))
end
section
-- NEEDS laws.szFlowS laws.toFlowS
theorem rdmem_T68 {l : List S68} {i : Int} (h : i.toNat < l.length) : rd_T68 l i ∈ l := by
  unfold rd_T68
  rw [List.getD_eq_getElem?_getD, List.getElem?_eq_getElem h]
  exact List.getElem_mem h
theorem szFlows_l0 (l : List S68) (hw : ∀ y ∈ l, wf68 y) (hx : (l.length : Int) ≤ 1152921504606846976) : ∀ (d : Nat) (i left : Int), 0 ≤ i → (l.length : Int) - i = d → 0 ≤ left → left ≤ 1048576 →
    ∃ t, (∀ k, d + 1 ≤ k → laws_szFlowS.l0 k l left i = some t)
  | 0, i, left, h0, hd, h1, h2 => by
    refine ⟨left, fun k hk => ?_⟩
    obtain ⟨k, rfl⟩ : ∃ z, k = z + 1 := ⟨k - 1, by omega⟩
    rw [laws_szFlowS.l0, if_neg (by omega)]
  | d + 1, i, left, h0, hd, h1, h2 => by
    have hwi := (hw _ (rdmem_T68 (l := l) (i := i) (by omega))).2.1
    by_cases c : left - ((rd_T68 l i).f1.size : Int) < 0
    · refine ⟨-1, fun k hk => ?_⟩
      obtain ⟨k, rfl⟩ : ∃ z, k = z + 1 := ⟨k - 1, by omega⟩
      rw [laws_szFlowS.l0, if_pos (by omega), if_pos h0]
      simp only [laws_szFlow.f]
      rw [wrap_id (n := left - ((rd_T68 l i).f1.size : Int)) (by omega) (by omega), if_pos c]
      rfl
    · obtain ⟨u, e2⟩ := szFlows_l0 l hw hx d (i + 1) (left - ((rd_T68 l i).f1.size : Int)) (by omega) (by omega) (by omega) (by omega)
      refine ⟨u, fun k hk => ?_⟩
      obtain ⟨k, rfl⟩ : ∃ z, k = z + 1 := ⟨k - 1, by omega⟩
      rw [laws_szFlowS.l0, if_pos (by omega), if_pos h0]
      simp only [laws_szFlow.f]
      rw [wrap_id (n := left - ((rd_T68 l i).f1.size : Int)) (by omega) (by omega), if_neg c, Option.bind_some, if_neg c, wrap_id (by omega) (by omega), e2 k (by omega)]
theorem szFlows_ev (l : List S68) (hw : ∀ y ∈ l, wf68 y) (hx : l.length ≤ 140737488351232) : ∃ (t : Int) (K : Nat), (∀ k, K ≤ k → laws_szFlowS.f k l 1048576 = some t) ∧ (0 ≤ t → l.length ≤ 1048576) := by
  simp only [laws_szFlowS.f]
  rw [wrap_id (n := 1048576 - (l.length : Int)) (by omega) (by omega)]
  by_cases c : 1048576 - (l.length : Int) < 0
  · exact ⟨-1, 0, fun k _ => by rw [if_pos c], fun h => by omega⟩
  · simp only [if_neg c]
    obtain ⟨t, e⟩ := szFlows_l0 l hw (by omega) l.length 0 (1048576 - (l.length : Int)) (by omega) (by omega) (by omega) (by omega)
    exact ⟨t, l.length + 1, e, fun _ => by omega⟩
end
section
theorem markText_l0 : ∀ (d : Nat) (n : Int) (s : ByteArray), 0 ≤ n → n.toNat ≤ d → s.size + n.toNat ≤ 4611686018427387904 → ∃ t, laws_markText.l0 (d + 1) n s = some t := by
  intro d
  induction d with
  | zero =>
    intro n s h0 hd hs
    have e : n = 0 := by omega
    subst e
    simp only [laws_markText.l0]
    rw [if_neg (by omega), if_pos (by omega)]
    exact ⟨_, rfl⟩
  | succ d ih =>
    intro n s h0 hd hs
    by_cases hn : n > 0
    · unfold laws_markText.l0
      rw [if_pos hn]
      simp only [Option.bind_some]
      have hz : (strOfNums [wrap64 (48 + Int.tmod n 10) % 256]).size = 1 := rfl
      rw [if_pos (by rw [hz]; omega)]
      have hq : wrap64 (Int.tdiv n 10) = n / 10 := by
        rw [Int.tdiv_eq_ediv_of_nonneg h0]
        exact wrap_id (by omega) (by omega)
      rw [hq]
      refine ih (n / 10) _ (by omega) (by omega) ?_
      rw [ByteArray.size_append, hz]
      omega
    · unfold laws_markText.l0
      rw [if_neg hn, if_pos (by omega)]
      exact ⟨_, rfl⟩
theorem markText_ev (n : Int) (h : n ≤ 2305843009213693952) : ∃ t, Ev (fun k => laws_markText.f k n) t := by
  by_cases h0 : n ≤ 0
  · exact ⟨_, 0, fun k _ => by simp only [laws_markText.f]; rw [if_pos h0]⟩
  · obtain ⟨t, ht⟩ := markText_l0 n.toNat n ⟨#[]⟩ (by omega) (Nat.le_refl _) (by show 0 + _ ≤ _; omega)
    refine ⟨t, Ev.of (laws_markText.mono n) (k := n.toNat + 1) ?_⟩
    simp only [laws_markText.f]
    rw [if_neg h0]
    exact ht
/-- The text that marks a number. -/
noncomputable def mtx (n : Int) : ByteArray := @Classical.epsilon ByteArray ⟨⟨#[]⟩⟩ (fun t => Ev (fun k => laws_markText.f k n) t)
theorem mtx_ev (n : Int) (h : n ≤ 2305843009213693952) : Ev (fun k => laws_markText.f k n) (mtx n) := Classical.epsilon_spec (p := fun t => Ev (fun k => laws_markText.f k n) t) (markText_ev n h)
end
section
theorem rdset_T71 {xs : List S71} {i : Int} (h : i.toNat < xs.length) (v : S71) : rd_T71 (xs.set i.toNat v) i = v := by
  unfold rd_T71
  rw [List.getD_eq_getElem?_getD, List.getElem?_set_self h]
  rfl
theorem rdset_ne_T71 {xs : List S71} {i j : Int} (h0 : 0 ≤ i) (h1 : 0 ≤ j) (h : i ≠ j) (v : S71) : rd_T71 (xs.set i.toNat v) j = rd_T71 xs j := by
  unfold rd_T71
  rw [List.getD_eq_getElem?_getD, List.getElem?_set_ne (by omega), ← List.getD_eq_getElem?_getD]
end
section
noncomputable def mk_T71 (n : Int) : S71 := (⟨n, mtx (n + 1), n + 1 + 1, n + 1 + 1 + 1, n + 1 + 1 + 1 + 1, n + 1 + 1 + 1 + 1 + 1, n + 1 + 1 + 1 + 1 + 1 + 1, n + 1 + 1 + 1 + 1 + 1 + 1 + 1, n + 1 + 1 + 1 + 1 + 1 + 1 + 1 + 1⟩ : S71)
set_option maxHeartbeats 2000000 in
theorem mark_T71_l0 : ∀ (d : Nat) (xs : List S71) (m i : Int), 0 ≤ i → (xs.length : Int) - i = d → 0 ≤ m → m + 9 * d ≤ 1152921504606846976 → (xs.length : Int) ≤ 1152921504606846976 →
    ∃ ys : List S71, Ev (fun k => laws_markFlowS.l0 k xs m i) (m + 9 * d, ys) ∧ ys.length = xs.length ∧ (∀ j : Int, 0 ≤ j → j < i → rd_T71 ys j = rd_T71 xs j) ∧ (∀ j : Int, i ≤ j → j < xs.length → rd_T71 ys j = mk_T71 (m + 9 * (j - i))) := by
  intro d
  induction d with
  | zero =>
    intro xs m i h0 hd hm hb hx
    refine ⟨xs, ⟨1, fun k hk => ?_⟩, rfl, fun _ _ _ => rfl, fun j h1 h2 => by omega⟩
    obtain ⟨k, rfl⟩ : ∃ q, k = q + 1 := ⟨k - 1, by omega⟩
    simp only [laws_markFlowS.l0]
    rw [if_neg (by omega)]
    simp
  | succ d ih =>
    intro xs m i h0 hd hm hb hx
    have hlt : i < (xs.length : Int) := by omega
    have hn : i.toNat < xs.length := by omega
    have e0 : wrap64 (m + 1) = m + 1 := wrap_id (by omega) (by omega)
    have e1 : wrap64 (m + 1 + 1) = m + 1 + 1 := wrap_id (by omega) (by omega)
    have e2 : wrap64 (m + 1 + 1 + 1) = m + 1 + 1 + 1 := wrap_id (by omega) (by omega)
    have e3 : wrap64 (m + 1 + 1 + 1 + 1) = m + 1 + 1 + 1 + 1 := wrap_id (by omega) (by omega)
    have e4 : wrap64 (m + 1 + 1 + 1 + 1 + 1) = m + 1 + 1 + 1 + 1 + 1 := wrap_id (by omega) (by omega)
    have e5 : wrap64 (m + 1 + 1 + 1 + 1 + 1 + 1) = m + 1 + 1 + 1 + 1 + 1 + 1 := wrap_id (by omega) (by omega)
    have e6 : wrap64 (m + 1 + 1 + 1 + 1 + 1 + 1 + 1) = m + 1 + 1 + 1 + 1 + 1 + 1 + 1 := wrap_id (by omega) (by omega)
    have e7 : wrap64 (m + 1 + 1 + 1 + 1 + 1 + 1 + 1 + 1) = m + 1 + 1 + 1 + 1 + 1 + 1 + 1 + 1 := wrap_id (by omega) (by omega)
    have e8 : wrap64 (m + 1 + 1 + 1 + 1 + 1 + 1 + 1 + 1 + 1) = m + 1 + 1 + 1 + 1 + 1 + 1 + 1 + 1 + 1 := wrap_id (by omega) (by omega)
    have ei : wrap64 (i + 1) = i + 1 := wrap_id (by omega) (by omega)
    have hl : (xs.set i.toNat (mk_T71 m)).length = xs.length := List.length_set
    obtain ⟨ys, hev, hlen, hold, hnew⟩ := ih (xs.set i.toNat (mk_T71 m)) (m + 1 + 1 + 1 + 1 + 1 + 1 + 1 + 1 + 1) (i + 1) (by omega) (by rw [hl]; omega) (by omega) (by omega) (by rw [hl]; omega)
    rw [hl] at hlen hnew
    refine ⟨ys, ?_, hlen, fun j h1 h2 => ?_, fun j h1 h2 => ?_⟩
    · have hr : m + 9 * ((d + 1 : Nat) : Int) = m + 1 + 1 + 1 + 1 + 1 + 1 + 1 + 1 + 1 + 9 * (d : Int) := by omega
      rw [hr]
      refine Ev.step (f := fun k => (laws_markText.f k (m + 1)).bind fun t1 => laws_markFlowS.l0 k (xs.set i.toNat (⟨m, t1, m + 1 + 1, m + 1 + 1 + 1, m + 1 + 1 + 1 + 1, m + 1 + 1 + 1 + 1 + 1, m + 1 + 1 + 1 + 1 + 1 + 1, m + 1 + 1 + 1 + 1 + 1 + 1 + 1, m + 1 + 1 + 1 + 1 + 1 + 1 + 1 + 1⟩ : S71)) (m + 1 + 1 + 1 + 1 + 1 + 1 + 1 + 1 + 1) (i + 1)) (fun k => ?_) ?_
      · simp only [laws_markFlowS.l0]
        rw [if_pos hlt]
        simp only [if_pos h0, Option.bind_some, List.set_set, rdset_T71 hn, e0, e1, e2, e3, e4, e5, e6, e7, e8, ei]
      · exact Ev.bind (mtx_ev (m + 1) (by omega)) (hev)
    · rw [hold j h1 (by omega), rdset_ne_T71 h0 h1 (by omega)]
    · by_cases hji : j = i
      · subst hji
        rw [hold j h0 (by omega), rdset_T71 hn]
        congr 1
        omega
      · rw [hnew j (by omega) h2]
        congr 1
        omega
theorem mark_T71_ev (xs : List S71) (m : Int) (hm : 0 ≤ m) (hb : m + 9 * xs.length ≤ 1152921504606846976) :
    ∃ ys : List S71, Ev (fun k => laws_markFlowS.f k xs m) (m + 9 * xs.length, ys) ∧ ys.length = xs.length ∧ ∀ j : Int, 0 ≤ j → j < xs.length → rd_T71 ys j = mk_T71 (m + 9 * j) := by
  obtain ⟨ys, hev, hlen, _, hnew⟩ := mark_T71_l0 xs.length xs m 0 (by omega) (by omega) hm hb (by omega)
  exact ⟨ys, hev, hlen, fun j h1 h2 => by have := hnew j h1 h2; rw [Int.sub_zero] at this; exact this⟩
set_option maxHeartbeats 2000000 in
theorem held_T71_l0 : ∀ (d : Nat) (ys : List S71) (m i : Int), 0 ≤ i → (ys.length : Int) - i = d → 0 ≤ m → m + 9 * d ≤ 1152921504606846976 → (ys.length : Int) ≤ 1152921504606846976 →
    (∀ j : Int, i ≤ j → j < ys.length → rd_T71 ys j = mk_T71 (m + 9 * (j - i))) → Ev (fun k => laws_heldFlowS.l0 k ys m i) (m + 9 * d) := by
  intro d
  induction d with
  | zero =>
    intro ys m i h0 hd hm hb hx _
    refine ⟨1, fun k hk => ?_⟩
    obtain ⟨k, rfl⟩ : ∃ q, k = q + 1 := ⟨k - 1, by omega⟩
    simp only [laws_heldFlowS.l0]
    rw [if_neg (by omega)]
    simp
  | succ d ih =>
    intro ys m i h0 hd hm hb hx hy
    have hlt : i < (ys.length : Int) := by omega
    have e0 : wrap64 (m + 1) = m + 1 := wrap_id (by omega) (by omega)
    have e1 : wrap64 (m + 1 + 1) = m + 1 + 1 := wrap_id (by omega) (by omega)
    have e2 : wrap64 (m + 1 + 1 + 1) = m + 1 + 1 + 1 := wrap_id (by omega) (by omega)
    have e3 : wrap64 (m + 1 + 1 + 1 + 1) = m + 1 + 1 + 1 + 1 := wrap_id (by omega) (by omega)
    have e4 : wrap64 (m + 1 + 1 + 1 + 1 + 1) = m + 1 + 1 + 1 + 1 + 1 := wrap_id (by omega) (by omega)
    have e5 : wrap64 (m + 1 + 1 + 1 + 1 + 1 + 1) = m + 1 + 1 + 1 + 1 + 1 + 1 := wrap_id (by omega) (by omega)
    have e6 : wrap64 (m + 1 + 1 + 1 + 1 + 1 + 1 + 1) = m + 1 + 1 + 1 + 1 + 1 + 1 + 1 := wrap_id (by omega) (by omega)
    have e7 : wrap64 (m + 1 + 1 + 1 + 1 + 1 + 1 + 1 + 1) = m + 1 + 1 + 1 + 1 + 1 + 1 + 1 + 1 := wrap_id (by omega) (by omega)
    have e8 : wrap64 (m + 1 + 1 + 1 + 1 + 1 + 1 + 1 + 1 + 1) = m + 1 + 1 + 1 + 1 + 1 + 1 + 1 + 1 + 1 := wrap_id (by omega) (by omega)
    have ei : wrap64 (i + 1) = i + 1 := wrap_id (by omega) (by omega)
    have hev := ih ys (m + 1 + 1 + 1 + 1 + 1 + 1 + 1 + 1 + 1) (i + 1) (by omega) (by omega) (by omega) (by omega) hx (fun j h1 h2 => by rw [hy j (by omega) h2]; congr 1; omega)
    have hri : rd_T71 ys i = mk_T71 m := by rw [hy i (by omega) hlt]; congr 1; omega
    have hr : m + 9 * ((d + 1 : Nat) : Int) = m + 1 + 1 + 1 + 1 + 1 + 1 + 1 + 1 + 1 + 9 * (d : Int) := by omega
    rw [hr]
    refine Ev.step (f := fun k => (laws_markText.f k (m + 1)).bind fun t1 => if (mtx (m + 1)).toList = t1.toList then laws_heldFlowS.l0 k ys (m + 1 + 1 + 1 + 1 + 1 + 1 + 1 + 1 + 1) (i + 1) else some (-1)) (fun k => ?_) ?_
    · simp only [laws_heldFlowS.l0]
      rw [if_pos hlt, if_pos h0]
      simp only [hri, mk_T71, e0, e1, e2, e3, e4, e5, e6, e7, e8, ei, if_true, bne_self_eq_false, Bool.false_eq_true, if_false]
    · exact Ev.bind (mtx_ev (m + 1) (by omega)) (Ev.congr (fun k => if_pos rfl) (hev))
theorem held_T71_ev (ys : List S71) (m : Int) (hm : 0 ≤ m) (hb : m + 9 * ys.length ≤ 1152921504606846976) (hy : ∀ j : Int, 0 ≤ j → j < ys.length → rd_T71 ys j = mk_T71 (m + 9 * j)) :
    Ev (fun k => laws_heldFlowS.f k ys m) (m + 9 * ys.length) :=
  held_T71_l0 ys.length ys m 0 (by omega) (by omega) hm hb (by omega) (fun j h1 h2 => by rw [Int.sub_zero]; exact hy j h1 h2)
end
section
def to_T71 (x : S68) : S71 := (⟨x.f0, x.f1, x.f2, x.f3, x.f4, x.f5, x.f6, x.f7, x.f8⟩ : S71)
theorem to_T71_l0 (l : List S68) : ∀ (d : Nat) (acc : List S71) (i : Int), acc.length = l.length → 0 ≤ i → (l.length : Int) - i = d → (l.length : Int) ≤ 1152921504606846976 →
    ∃ ys : List S71, Ev (fun k => laws_toFlowS.l0 k l acc i) ys ∧ ys.length = l.length ∧ (∀ j : Nat, (j : Int) < i → ys[j]? = acc[j]?) ∧ (∀ j : Nat, i ≤ (j : Int) → ys[j]? = (l.map to_T71)[j]?) := by
  intro d
  induction d with
  | zero =>
    intro acc i ha h0 hd hx
    refine ⟨acc, ⟨1, fun k hk => ?_⟩, ha, fun _ _ => rfl, fun j hj => by rw [List.getElem?_eq_none (by omega), List.getElem?_eq_none (by rw [List.length_map]; omega)]⟩
    obtain ⟨k, rfl⟩ : ∃ q, k = q + 1 := ⟨k - 1, by omega⟩
    simp only [laws_toFlowS.l0]
    rw [if_neg (by omega)]
  | succ d ih =>
    intro acc i ha h0 hd hx
    have hlt : i < (l.length : Int) := by omega
    have hn : i.toNat < l.length := by omega
    have ei : wrap64 (i + 1) = i + 1 := wrap_id (by omega) (by omega)
    obtain ⟨ys, hev, hlen, hold, hnew⟩ := ih (acc.set i.toNat (to_T71 (rd_T68 l i))) (i + 1) (by rw [List.length_set]; exact ha) (by omega) (by omega) hx
    refine ⟨ys, Ev.step (f := fun k => laws_toFlowS.l0 k l (acc.set i.toNat (to_T71 (rd_T68 l i))) (i + 1)) (fun k => ?_) hev, hlen, fun j hj => ?_, fun j hj => ?_⟩
    · simp only [laws_toFlowS.l0]
      rw [if_pos hlt, if_pos h0]
      simp only [laws_toFlow.f, Option.bind_some, ei, to_T71]
      rw [if_pos (by omega)]
    · rw [hold j (by omega), List.getElem?_set_ne (by omega)]
    · by_cases hji : (j : Int) = i
      · have e : i.toNat = j := by omega
        rw [hold j (by omega), e, List.getElem?_set_self (by omega), List.getElem?_map, List.getElem?_eq_getElem (show j < l.length by omega)]
        simp only [Option.map_some, rd_T68, e, List.getD_eq_getElem?_getD, List.getElem?_eq_getElem (show j < l.length by omega), Option.getD_some]
      · exact hnew j (by omega)
theorem to_T71_ev (l : List S68) (hx : l.length ≤ 1048576) : Ev (fun k => laws_toFlowS.f k l) (l.map to_T71) := by
  obtain ⟨ys, hev, hlen, _, hnew⟩ := to_T71_l0 l l.length (List.replicate l.length z71) 0 (by simp) (by omega) (by omega) (by omega)
  have e : ys = l.map to_T71 := List.ext_getElem? fun j => hnew j (by omega)
  rw [← e]
  refine Ev.congr (fun k => ?_) hev
  simp only [laws_toFlowS.f]
  rw [if_pos (by omega), if_pos (by omega)]
  rfl
end
section
def P_FnExactFlowsDrop : Prop := ∀ (a0 : List (S68)) (a1 : Int), (a0.length * 80 ≤ 140737488351232 ∧ a0.length ≤ maxLen ∧ ∀ y ∈ a0, wf68 y) → (Lit.int .i64 a1).wf = true → ∃ k, laws_FnExactFlowsDrop.f k a0 a1 = some true
end
section
-- NEEDS laws.FnExactFlowsDrop
theorem pure_FnExactFlowsDrop : P_FnExactFlowsDrop := by
  intro l a hl _
  obtain ⟨t, K0, e0, hh⟩ := szFlows_ev l hl.2.2 (by have := hl.1; omega)
  by_cases ht : t < 0
  · refine ⟨K0, ?_⟩
    simp only [laws_FnExactFlowsDrop.f, e0 K0 (Nat.le_refl _), Option.bind_some, if_pos ht]
  have hlen := hh (by omega)
  obtain ⟨K1, h1⟩ := to_T71_ev l hlen
  have hml : (l.map to_T71).length = l.length := List.length_map ..
  have hr := dropR_len (l.map to_T71) a
  obtain ⟨r, code, hrc⟩ : ∃ r code, dropR (l.map to_T71) a = (r, code) := ⟨_, _, rfl⟩
  have b2 := fun k hk => spec_FlowsDrop_ev (l.map to_T71) a k hk
  have b3 := fun k hk => impl_FlowsDrop_ev (l.map to_T71) a k hk
  rw [hrc] at hr b2 b3
  dsimp only at hr b2 b3
  obtain ⟨K2, h2⟩ := eqS_T71_ev r (by omega)
  obtain ⟨K3, h3⟩ := eqS_T71_ev (l.map to_T71) (by omega)
  obtain ⟨ys, ⟨K4, h4⟩, hy, hz⟩ := mark_T71_ev r 1 (by omega) (by omega)
  obtain ⟨K5, h5⟩ := held_T71_ev ys 1 (by omega) (by omega) (fun j a b => hz j a (by omega))
  obtain ⟨zs, ⟨K6, h6⟩, _, _⟩ := mark_T71_ev (l.map to_T71) 1 (by omega) (by omega)
  obtain ⟨N, hN⟩ : ∃ N, N = K0 + K1 + K2 + K3 + K4 + K5 + K6 + 201 := ⟨_, rfl⟩
  rw [hy] at h5
  have e1 := e0 (N + 3) (by omega)
  have t3 := h1 (N + 3) (by omega)
  have t2 := h1 (N + 2) (by omega)
  have t1 := h1 (N + 1) (by omega)
  have q3 := h2 (N + 3) (by omega)
  have q2 := h2 (N + 2) (by omega)
  have q1 := h2 (N + 1) (by omega)
  have a2 := h3 (N + 2) (by omega)
  have m2 := h6 (N + 2) (by omega)
  have m1 := h4 (N + 1) (by omega)
  have w1 := h5 (N + 1) (by omega)
  have w0 := h5 N (by omega)
  dsimp only at t3 t2 t1 q3 q2 q1 a2 m2 m1 w1 w0
  have hneg : ¬ (1 + 9 * ((l.map to_T71).length : Int)) < 0 := by omega
  have hneg2 : ¬ (1 + 9 * (r.length : Int)) < 0 := by omega
  refine ⟨N + 3, ?_⟩
  simp only [laws_FnExactFlowsDrop.f, e1, Option.bind_some, if_neg ht, t3, b2 (N + 3) (by omega), b3 (N + 3) (by omega), q3, if_true, bne_self_eq_false, laws_FnExactFlowsDrop.j0, Bool.false_eq_true, if_false, t2, a2, m2, if_neg hneg, q2, laws_FnExactFlowsDrop.j1, m1, w1, if_neg hneg2, t1, b3 (N + 1) (by omega), q1, laws_FnExactFlowsDrop.j2, w0]
end
section
-- IMPORT Derived.Test.YtlpkldomoniegaaRows
-- IMPORT Derived.WalkKit
-- IMPORT Derived.ProofKit
-- IMPORT Derived.OpenShut
-- IMPORT Derived.ShutString
-- IMPORT Derived.ChangeOld
-- IMPORT Derived.Below
-- IMPORT Derived.SizedLaws
open Go.ChangeShapes Go.WideShapes Go.ChangeAt
open Go.ChangeMaps (open_string shut_string)
theorem own_FnExactFlowsDrop : ownKnob Try.prog.godebug = none := by kernel_rfl
theorem laidOut_FnExactFlowsDrop : laidOutB Try.prog = true := by kernel_rfl
set_option maxHeartbeats 4000000 in
set_option maxRecDepth 100000 in
theorem lifted_FnExactFlowsDrop (os : Os) (started : os.Started) (H : Type) (enc : TypeId × Value → H) :
    ReturnsInHanded {} Try.checked os 13 .any (Rows.fnExactFlowsDropSpec.pre6 enc Try.prog Try.f13 Rows.fnExactFlowsDropRow.domain false) (Rows.fnExactFlowsDropSpec.post enc Try.prog Try.f13 false true false false) := by
  refine returnsInHanded_of_change_sized (C := Try.checked) own_FnExactFlowsDrop started (by kernel_rfl) Try.func13
    (ChangeSpec.witness6 (enc := enc) (C := Try.checked) false ⟨#[], #[.slice none 0 0, .int .i64 0], []⟩ 8 (by kernel_rfl) (by kernel_rfl) (by kernel_rfl) (by kernel_rfl)) ?_
  intro W base args ds gs before hval0 hW hcnd hsz0 _
  have hsz : (DataW.weightsEach Try.prog (Try.f13.params.toList ++ Rows.fnExactFlowsDropSpec.plain.varTypes Try.prog) (ds ++ gs)).all (· ≤ reachBytes) = true := hsz0
  have hval : ∀ (j : Nat) t v, Try.f13.params[j]? = some t → args[j]? = some v → Value.okWide Try.prog W .any base t v := hval0
  have hW' := hW
  obtain ⟨p, q, hA0, hV, rfl, hfz, hnd⟩ := hW
  have hA : DataW.TrodAll enc Try.prog W 0 (fun _ => true) true Try.f13.params.toList args.toList ds p := hA0
  rw [Try.params13] at hA hval hsz
  obtain ⟨v0, vs0, d0, ds0, p0, q0, hargs, rfl, rfl, h0, r0⟩ := trodAll_cons hA
  obtain ⟨v1, vs1, d1, ds1, p1, q1, rfl, rfl, rfl, h1, r1⟩ := trodAll_cons r0
  obtain ⟨rfl, rfl, rfl⟩ := trodAll_nil r1
  obtain rfl : args = #[v0, v1] := by cases args; simp_all
  obtain ⟨rfl, rfl⟩ := trodVars_none hV
  have k0 := h0
  have lt0 : ∀ x ∈ p0, x.block < W.heap.size := by obtain ⟨m, hm⟩ := k0; exact DataW.trod_lt m _ _ _ hm
  obtain ⟨A0, n0, c0, rfl⟩ := okWide_slice Try.underlying37 (hval 0 37 v0 rfl rfl)
  obtain ⟨fuel0, hf0⟩ := h0
  obtain ⟨a0, ⟨A0', c0', e0, hl0, hc0⟩, w0⟩ := (Opens.slice Try.underlying37 (by kernel_rfl) 80 (by kernel_rfl) opens68).op hf0 (fun n hn => by have z := List.all_eq_true.1 hsz _ (DataW.weights_mem_each (j := 0) (t := 37) rfl rfl n hn); simpa using z)
  simp only [Value.cells, List.cons.injEq, Value.slice.injEq, and_true] at e0
  obtain ⟨rfl, rfl, rfl⟩ := e0
  obtain ⟨a1, rfl, rfl, rfl, w1⟩ := open_int Try.underlying3 (hval 1 3 v1 rfl rfl) h1
  clear hA0 hval0 hsz0 hsz
  obtain ⟨k, hk⟩ := pure_FnExactFlowsDrop a0 a1 w0 w1
  refine (laws_FnExactFlowsDrop.calls k _ _ a0 a1 true W hc0 hl0 hk).mono fun e W' hh => ?_
  obtain ⟨he, bel0⟩ := hh
  have bel : Below W.heap.size W W' := bel0
  subst he
  exact ⟨_, rfl, _, _, _, [], _, [], hW', trodAll_mk1 (shut_bool Try.underlying4 _), (trodAll_cons_mk (Below.trod laidOut_FnExactFlowsDrop (by kernel_rfl) (of_decide_eq_true (by kernel_rfl)) k0 bel lt0) (trodAll_cons_mk (shut_int Try.underlying3 w1) trodAll_mk0)), rfl, bel.frame _, fun h => by cases h⟩
theorem over_FnExactFlowsDrop : Rows.fnExactFlowsDropRow.holds Try.pinned (OpenSpec.ofChange Rows.fnExactFlowsDropSpec) :=
  OpenClaim.holds_of_wide 13 Try.f13 rfl rfl rfl rfl rfl rfl rfl ⟨rfl, rfl, rfl, rfl, rfl⟩ rfl rfl rfl rfl rfl (by kernel_rfl) Try.func13 (by kernel_rfl)
    (of_decide_eq_true (by kernel_rfl)) (by unfold Func.isWrapper; first | (rw [if_pos (by decide +kernel)]; kernel_rfl) | (rw [if_neg (by decide +kernel)]; exact ⟨rfl, rfl⟩))
    (fun os started H enc _ => lifted_FnExactFlowsDrop os started H enc)
theorem proved_FnExactFlowsDrop : Rows.FnExactFlowsDropSaid := over_FnExactFlowsDrop
#print axioms proved_FnExactFlowsDrop
end
end Go.Proofs.Ytlpkldomoniegaa.X
