/- The program's RequestText returns what the reference's RequestText returns, for all arguments. Conditions: none beyond the row's own reach. -/
import Derived.Test.YticjbpkgdbacpaaDoorCFnExactRequestText1
import Derived.Test.YticjbpkgdbacpaaDoorRows
import Derived.Test.YticjbpkgdbacpaaDoorCards
import Derived.Test.YticjbpkgdbacpaaDoorTie
namespace Go.Proofs.YticjbpkgdbacpaaDoor.X
open Go.RowKit Go.Proofs.YticjbpkgdbacpaaDoorW.PrintWords Go.Proofs.YticjbpkgdbacpaaDoorW.PrintLast Go.Proofs.YticjbpkgdbacpaaDoorW.PrintMore
attribute [local go_sem] max2_int min2_int max_two min_two max_three min_three max_four min_four   -- for this text's walks alone
set_option linter.unusedVariables false
set_option linter.unusedSimpArgs false
section
-- NEEDS spec.RequestText impl.RequestText spec.l11Text impl.requestText strconv.Itoa spec.l00Digits spec.l11Path impl.pathOK spec.l11Method impl.methodOK impl.requestOK
theorem lit_size (a : Array UInt8) : (⟨a⟩ : ByteArray).size = a.size := rfl
theorem app_lit (x : ByteArray) (a b : Array UInt8) : (x ++ (⟨a⟩ : ByteArray)) ++ (⟨b⟩ : ByteArray) = x ++ (⟨a ++ b⟩ : ByteArray) := by
  apply ByteArray.ext
  rw [ByteArray.data_append, ByteArray.data_append, ByteArray.data_append, Array.append_assoc]
theorem reqLit : (#[32] ++ #[72, 84, 84, 80, 47, 49, 46, 49] ++ #[13, 10] ++ #[72, 111, 115, 116, 58, 32, 112, 111, 114, 116, 97, 108] ++ #[13, 10] ++ #[67, 111, 110, 116, 101, 110, 116, 45, 76, 101, 110, 103, 116, 104, 58, 32] : Array UInt8) =
    #[32, 72, 84, 84, 80, 47, 49, 46, 49, 13, 10, 72, 111, 115, 116, 58, 32, 112, 111, 114, 116, 97, 108, 13, 10, 67, 111, 110, 116, 101, 110, 116, 45, 76, 101, 110, 103, 116, 104, 58, 32] := by decide
theorem reqText_both (m p b : ByteArray) (h1 : m.size ≤ 1000000) (h2 : p.size ≤ 1000000) (h3 : b.size ≤ 1000000) : ∃ r, impl_requestText.f m p b = some r ∧ ∀ k, 20 ≤ k → spec_l11Text.f k m p b = some r := by
  have hd := fun k hk => l00Digits_run 18 b.size (by omega) (by decide) (by decide) k hk
  have hi := itoa_f (b.size : Int) (by omega) (by omega)
  rw [itoa_nat] at hi
  have hl := (hd 18 (by decide)).2
  have hd' := fun k hk => (hd k hk).1
  generalize Lib.decDigits b.size = D at hd' hi hl
  have hDs : (⟨D.toArray⟩ : ByteArray).size ≤ 18 := by rw [mk_size]; exact hl
  clear hd
  generalize (⟨D.toArray⟩ : ByteArray) = d at hd' hi hDs
  have e0 : ∃ r, impl_requestText.f m p b = some r := ⟨_, by
    rw [impl_requestText.f, hi, Option.bind_some]
    repeat rw [if_pos (by (try simp only [ByteArray.size_append, lit_size, List.size_toArray, List.length_cons, List.length_nil]); omega)]⟩
  have e1 : ∀ k, 20 ≤ k → spec_l11Text.f k m p b = impl_requestText.f m p b := fun k hk => by
    rw [spec_l11Text.f, impl_requestText.f, hd' k (by omega), hi, Option.bind_some, Option.bind_some]
    repeat rw [if_pos (by (try simp only [ByteArray.size_append, lit_size, List.size_toArray, List.length_cons, List.length_nil]); omega)]
    simp only [app_lit, reqLit]
  obtain ⟨r, e0⟩ := e0
  exact ⟨r, e0, fun k hk => (e1 k hk).trans e0⟩
theorem method_both (m : ByteArray) : ∃ b, spec_l11Method.f m = some b ∧ impl_methodOK.f m = some b ∧ (b = true → m.size ≤ 4) := by
  have hz : ∀ l : List UInt8, m.toList = l → m.size = l.length := fun l h => by rw [Lib.size_eq, ← Lib.toList_data, h]
  unfold spec_l11Method.f impl_methodOK.f
  by_cases h : m.toList = ([71, 69, 84] : List UInt8)
  · simp only [if_pos h]
    exact ⟨true, rfl, rfl, fun _ => by have := hz _ h; simp at this; omega⟩
  · simp only [if_neg h]
    exact ⟨_, rfl, rfl, fun e => by have := hz _ (beq_iff_eq.1 e); simp at this; omega⟩
theorem RequestText_both (m p b : ByteArray) : ∃ r, ∀ k, 100 ≤ k → spec_RequestText.f k m p b = some r ∧ impl_RequestText.f k m p b = some r := by
  obtain ⟨mb, m1, m2, m3⟩ := method_both m
  obtain ⟨pb, p1, p2⟩ := path_both p
  unfold spec_RequestText.f impl_RequestText.f impl_requestOK.f
  simp only [m1, m2, Option.bind_some]
  cases mb with
  | false => exact ⟨(⟨#[]⟩, 1), fun k _ => ⟨rfl, rfl⟩⟩
  | true =>
    simp only [if_true]
    cases pb with
    | false =>
      exact ⟨(⟨#[]⟩, 1), fun k hk => by
        obtain ⟨e1, e2⟩ := p2 k (by omega)
        simp only [e1, e2, Option.bind_some, Bool.false_eq_true, if_false]
        trivial⟩
    | true =>
      by_cases hb : (b.size : Int) > 80
      · refine ⟨(⟨#[]⟩, 1), fun k hk => ?_⟩
        obtain ⟨e1, e2⟩ := p2 k (by omega)
        have hb' : decide ((b.size : Int) ≤ 80) = false := decide_eq_false (by omega)
        simp only [e1, e2, Option.bind_some, if_true, if_pos hb, hb', Bool.false_eq_true, if_false]
        trivial
      · have hm := m3 rfl
        have hp := p1 rfl
        obtain ⟨r, i1, s1⟩ := reqText_both m p b (by omega) (by omega) (by omega)
        refine ⟨(r, 0), fun k hk => ?_⟩
        obtain ⟨e1, e2⟩ := p2 k (by omega)
        have hb' : decide ((b.size : Int) ≤ 80) = true := decide_eq_true (by omega)
        simp only [e1, e2, Option.bind_some, if_true, if_neg hb, hb', i1, s1 k (by omega)]
        trivial
end
section
-- IMPORT Derived.SizedLaws
-- IMPORT Derived.ProofKit
-- IMPORT Derived.WalkKit
-- IMPORT Derived.OpenShut
-- IMPORT Derived.ShutString
-- IMPORT Derived.ChangeOld
-- IMPORT Derived.Below
-- IMPORT Derived.Deep.Slices
open Go.ChangeShapes Go.WideShapes Go.ChangeAt Go.Deep
/-- What reads as data of type t is a value of the kind d, and meets wf. -/
structure Opens (P : Program) (t : TypeId) {α : Type} (d : Kd α) (wf : α → Prop) : Prop where
  sz : P.cellsOf t = d.sz
  op : ∀ {H : Type} {enc : TypeId × Value → H} {w : World} {fuel : Nat} {cs : List Value} {y : DataW H × List MemPlace}, DataW.trod enc P w 0 (fun _ => true) true fuel t cs = some y → (∀ n ∈ y.1.weights P t, n ≤ reachBytes) → ∃ x, d.K w x cs ∧ wf x
theorem Opens.int {P : Program} {t : TypeId} {k : IntKind} (hu : P.underlying t = some (.int k)) (hc : P.cellsOf t = 1) : Opens P t (Kd.int k) (fun n => (Lit.int k n).wf = true) :=
  ⟨hc, fun h _ => by obtain ⟨n, rfl, rfl, wf⟩ := DataW.trod_int hu h; exact ⟨n, rfl, wf⟩⟩
theorem Opens.bool {P : Program} {t : TypeId} (hu : P.underlying t = some .bool) (hc : P.cellsOf t = 1) : Opens P t Kd.bool (fun _ => True) :=
  ⟨hc, fun h _ => by obtain ⟨n, rfl, rfl⟩ := DataW.trod_bool hu h; exact ⟨n, rfl, trivial⟩⟩
theorem Opens.string {P : Program} {t : TypeId} (hu : P.underlying t = some .string) (hc : P.cellsOf t = 1) : Opens P t Kd.string (fun s => s.size ≤ 140737488351232) :=
  ⟨hc, fun h hw => by
    obtain ⟨s, rfl, rfl, _⟩ := DataW.trod_string hu h
    refine ⟨s, rfl, ?_⟩
    have := hw s.data.toList.length (by simp [DataW.weights])
    simpa [reachBytes] using this⟩
theorem weights_mem_all {H : Type} {P : Program} {e : TypeId} {n : Nat} : ∀ {l : List (DataW H)} {d : DataW H}, d ∈ l → n ∈ d.weights P e → n ∈ DataW.weightsAll P e l
  | d0 :: l, d, hd, hn => by
    simp only [DataW.weightsAll, List.mem_append]
    rcases List.mem_cons.1 hd with rfl | hd
    · exact .inl hn
    · exact .inr (weights_mem_all hd hn)
  | [], _, hd, _ => by cases hd
theorem list_of_all {α : Type} {Q : Nat → α → Prop} (n : Nat) (h : ∀ i, i < n → ∃ x, Q i x) : ∃ xs : List α, xs.length = n ∧ ∀ j x, xs[j]? = some x → Q j x := by
  induction n with
  | zero => exact ⟨[], rfl, fun j x h => by simp at h⟩
  | succ n ih =>
    obtain ⟨xs, hl, hx⟩ := ih (fun i hi => h i (by omega))
    obtain ⟨x, hq⟩ := h n (by omega)
    refine ⟨xs ++ [x], by simp [hl], fun j y hj => ?_⟩
    rcases Nat.lt_or_ge j xs.length with hlt | hge
    · rw [List.getElem?_append_left hlt] at hj
      exact hx j y hj
    · rw [List.getElem?_append_right hge] at hj
      have : j - xs.length = 0 := by
        rcases Nat.lt_or_ge (j - xs.length) 1 with h1 | h1
        · omega
        · rw [List.getElem?_eq_none (by simpa using h1)] at hj; cases hj
      rw [this] at hj
      simp at hj
      subst hj
      have : j = n := by omega
      subst this
      exact hq
theorem Opens.slice {α : Type} {P : Program} {t e : TypeId} {d : Kd α} {wf : α → Prop} (hu : P.underlying t = some (.slice e)) (hc : P.cellsOf t = 1) (B : Nat) (hB : P.bytesOf e = B) (he : Opens P e d wf) :
    Opens P t (Kd.slice e d) (fun xs => xs.length * B ≤ 140737488351232 ∧ xs.length ≤ maxLen ∧ ∀ x ∈ xs, wf x) :=
  ⟨hc, fun {H enc w fuel cs y} h hw => by
    rcases open_slice hu h with ⟨rfl, rfl⟩ | ⟨a, len, cap, m, n, D, Pl, rfl, _, hl, hm, hmm, rfl, hel⟩
    · exact ⟨[], ⟨none, 0, rfl, Nat.le_refl _, Kd.C_nil d w⟩, by simp, by simp, fun x hx => by cases hx⟩
    have hmc : m = cap := by rw [hmm]; rfl
    subst hmc
    have hwt : ∀ i, i < len → ∀ z ∈ (D i).weights P e, z ≤ reachBytes := fun i hi z hz => hw z (by
      simp only [DataW.weights, hu]
      exact List.mem_cons_of_mem _ (List.mem_append_left _ (weights_mem_all (List.mem_map.2 ⟨i, List.mem_range.2 hi, rfl⟩) hz)))
    have hall : ∀ i, i < len → ∃ x : α, (∃ c, c.length = d.sz ∧ d.K w x c ∧ ∀ j u, c[j]? = some u → w.cell? (a.add (i * d.sz + j)) = some u) ∧ wf x := by
      intro i hi
      obtain ⟨cs', hcs, htr⟩ := hel i (by omega)
      obtain ⟨x, hk, hx⟩ := he.op htr (hwt i hi)
      obtain ⟨_, hlen, hcell⟩ := World.cells?_some hcs
      refine ⟨x, ⟨cs', by rw [hlen, he.sz], hk, fun j u hu' => ?_⟩, hx⟩
      have hj : j < cs'.length := by
        rcases Nat.lt_or_ge j cs'.length with h1 | h1
        · exact h1
        · rw [List.getElem?_eq_none h1] at hu'; cases hu'
      rw [hlen] at hj
      have hcj := hcell j hj
      rw [hu', he.sz, Addr.add_add] at hcj
      exact hcj
    obtain ⟨xs, hxl, hxs⟩ := list_of_all (Q := fun i x => (∃ c, c.length = d.sz ∧ d.K w x c ∧ ∀ j u, c[j]? = some u → w.cell? (a.add (i * d.sz + j)) = some u) ∧ wf x) len hall
    subst hxl
    refine ⟨xs, ⟨some a, m, rfl, hl, rfl, ?_, fun _ => ⟨a, rfl, fun j p hp => (hxs j p hp).1⟩⟩, ?_, ?_, ?_⟩
    · unfold maxLen at hm; omega
    · have := hw ((List.map D (List.range xs.length)).length + (List.map (fun j => D (xs.length + j)) (List.range (m - xs.length))).length) |> fun h => h
      have h1 := hw (((List.map D (List.range xs.length)).length + (List.map (fun j => D (xs.length + j)) (List.range (m - xs.length))).length) * P.bytesOf e) (by simp only [DataW.weights, hu]; exact List.mem_cons_self)
      rw [hB] at h1
      simp only [List.length_map, List.length_range] at h1
      have h2 : xs.length * B ≤ (xs.length + (m - xs.length)) * B := Nat.mul_le_mul_right _ (by omega)
      exact Nat.le_trans h2 h1
    · omega
    · intro x hx
      obtain ⟨j, hj, rfl⟩ := List.getElem_of_mem hx
      exact (hxs j _ (List.getElem?_eq_getElem hj)).2⟩
/-- Fields in line from cell o on. -/
structure OpensF (P : Program) (fs : List Field) (o : Nat) {α : Type} (d : Kd α) (wf : α → Prop) : Prop where
  op : ∀ {H : Type} {enc : TypeId × Value → H} {w : World} {n : Nat} {cs : List Value} {xs : List (DataW H × List MemPlace)}, o + d.sz ≤ cs.length → xs.length = fs.length →
    (∀ (i : Nat) (f : Field), fs[i]? = some f → DataW.trod enc P w 0 (fun _ => true) true n f.type ((cs.drop f.offset).take (P.cellsOf f.type)) = xs[i]?) →
    (∀ z ∈ DataW.weightsEach P (fs.map (·.type)) (xs.map (·.1)), z ≤ reachBytes) → ∃ x, d.K w x ((cs.drop o).take d.sz) ∧ wf x
theorem OpensF.one {α : Type} {P : Program} {f : Field} {o : Nat} {d : Kd α} {wf : α → Prop} (ho : f.offset = o) (h : Opens P f.type d wf) : OpensF P [f] o d wf := by
  refine ⟨fun {H enc w n cs xs} hlen hxl htr hw => ?_⟩
  match xs, hxl with
  | [y], _ =>
    have h1 := htr 0 f rfl
    rw [ho, h.sz] at h1
    exact h.op (y := y) h1 (fun z hz => hw z (by simpa [DataW.weightsEach] using hz))
theorem OpensF.cons {α β : Type} {P : Program} {f : Field} {fs : List Field} {o : Nat} {a : Kd α} {b : Kd β} {wa : α → Prop} {wb : β → Prop} (ho : f.offset = o) (h : Opens P f.type a wa) (o' : Nat) (ho' : o + a.sz = o') (hr : OpensF P fs o' b wb) :
    OpensF P (f :: fs) o (Kd.pair a b) (fun x => wa x.1 ∧ wb x.2) := by
  refine ⟨fun {H enc w n cs xs} hlen hxl htr hw => ?_⟩
  match xs, hxl with
  | y :: ys, hxl =>
    have h1 := htr 0 f rfl
    rw [ho, h.sz] at h1
    have hsz : (Kd.pair a b).sz = a.sz + b.sz := rfl
    rw [hsz] at hlen
    obtain ⟨x0, k0, w0⟩ := h.op (y := y) h1 (fun z hz => hw z (by simp only [List.map_cons, DataW.weightsEach, List.mem_append]; exact .inl hz))
    obtain ⟨x1, k1, w1⟩ := hr.op (n := n) (cs := cs) (xs := ys) (enc := enc) (w := w) (by omega) (by simpa using hxl) (fun i g hg => by have := htr (i + 1) g (by simpa using hg); simpa using this) (fun z hz => hw z (by simp only [List.map_cons, DataW.weightsEach, List.mem_append]; exact .inr hz))
    refine ⟨(x0, x1), ⟨(cs.drop o).take a.sz, (cs.drop o').take b.sz, ?_, k0, k1⟩, w0, w1⟩
    rw [hsz, ← ho', List.take_add, List.drop_drop]
theorem Opens.struct {α : Type} {P : Program} {t : TypeId} {fs : Array Field} {d : Kd α} {wf : α → Prop} (hu : P.underlying t = some (.struct fs)) (hc : P.cellsOf t = d.sz) (h : OpensF P fs.toList 0 d wf) : Opens P t d wf :=
  ⟨hc, fun {H enc w fuel cs y} ht hw => by
    obtain ⟨xs, n, rfl, rfl, hlen, hxl, htr⟩ := DataW.trod_struct hu ht
    obtain ⟨x, hk, hx⟩ := h.op (enc := enc) (w := w) (n := n) (cs := cs) (xs := xs) (by omega) (by simpa using hxl) (fun i f hf => htr i f (by simpa using hf)) (fun z hz => hw z (by simp only [DataW.weights, hu]; exact hz))
    refine ⟨x, ?_, hx⟩
    rw [List.drop_zero, List.take_of_length_le (by omega)] at hk
    exact hk⟩
theorem Opens.iso {α β : Type} {P : Program} {t : TypeId} {d : Kd α} {wf : α → Prop} (f : β → α) (g : α → β) (hfg : ∀ x, f (g x) = x) (h : Opens P t d wf) : Opens P t (Kd.iso d f) (fun x => wf (f x)) :=
  ⟨h.sz, fun ht hw => by
    obtain ⟨x, hk, hx⟩ := h.op ht hw
    exact ⟨g x, by show d.K _ (f (g x)) _; rw [hfg]; exact hk, by rw [hfg]; exact hx⟩⟩
end
section
def wf23 (x : S23) : Prop := x.f0.size ≤ 140737488351232 ∧ (x.f1.size ≤ 140737488351232 ∧ (x.f2.size ≤ 140737488351232))
set_option maxRecDepth 100000 in
theorem opens23 : Opens Tryd.prog 23 k23 wf23 :=
  Opens.iso (fun x : S23 => (x.f0, x.f1, x.f2)) (fun y => ⟨y.1, y.2.1, y.2.2⟩) (fun _ => rfl) (Opens.struct Tryd.underlying23 (by kernel_rfl) (OpensF.cons rfl (Opens.string Tryd.underlying9 (by kernel_rfl)) 1 rfl (OpensF.cons rfl (Opens.string Tryd.underlying9 (by kernel_rfl)) 2 rfl (OpensF.one rfl (Opens.string Tryd.underlying9 (by kernel_rfl))))))
end
section
def P_FnExactRequestText : Prop := ∀ (a0 : S23), wf23 a0 → ∃ k, laws_FnExactRequestText.f k a0.f0 a0.f1 a0.f2 = some true
end
section
-- NEEDS laws.FnExactRequestText
theorem pure_FnExactRequestText : P_FnExactRequestText := by
  intro a _
  obtain ⟨r, hr⟩ := RequestText_both a.f0 a.f1 a.f2
  obtain ⟨h1, h2⟩ := hr 100 (Nat.le_refl _)
  refine ⟨100, ?_⟩
  obtain ⟨t, ht⟩ : ∃ t, laws_szRequest.f a.f0 a.f1 a.f2 1048576 = some t := by
    unfold laws_szRequest.f
    split
    · exact ⟨_, rfl⟩
    · split
      · exact ⟨_, rfl⟩
      · split <;> exact ⟨_, rfl⟩
  rw [laws_FnExactRequestText.f, ht, Option.bind_some]
  by_cases c : t < 0
  · rw [if_pos c]
  · rw [if_neg c]
    simp only [laws_toRequest.f, Option.bind_some, h1, h2, if_true]
end
section
-- IMPORT Derived.Test.YticjbpkgdbacpaaDoorRows
-- IMPORT Derived.Test.YticjbpkgdbacpaaDoorCards
-- IMPORT Derived.Test.YticjbpkgdbacpaaDoorTie
-- IMPORT Derived.LaidMore
-- IMPORT Derived.Lay
-- IMPORT Derived.SevenTiedAt
-- IMPORT Derived.Stop.Joined
-- IMPORT Derived.Stop.LaidErr
-- IMPORT Derived.Handed
-- IMPORT Derived.Lib.LaidTab
-- IMPORT Derived.Lib.ItoaNum
-- IMPORT Derived.WalkKit
-- IMPORT Derived.ProofKit
-- IMPORT Derived.OpenShut
-- IMPORT Derived.ShutString
-- IMPORT Derived.ChangeOld
-- IMPORT Derived.Below
-- IMPORT Derived.SizedLaws
open Go.ChangeShapes Go.WideShapes Go.ChangeAt
open Go.ChangeMaps (open_string shut_string)
theorem own_FnExactRequestText : ownKnob Tryd.prog.godebug = none := by kernel_rfl
theorem laidOut_FnExactRequestText : laidOutB Tryd.prog = true := by kernel_rfl
noncomputable def laidL_FnExactRequestText : List (String × DataW Unit) := Rows.fnExactRequestTextRow.laid
set_option maxHeartbeats 4000000 in
set_option maxRecDepth 100000 in
theorem lifted_FnExactRequestText (os : Os) (started : os.Started) (H : Type) (enc : TypeId × Value → H) :
    ReturnsInHanded {} Tryd.checked os 3 .any (fun w args => (Rows.fnExactRequestTextSpec.pre enc Tryd.prog Tryd.f3 Rows.fnExactRequestTextRow.domain false w args ∧ laidMetH Tryd.prog laidL_FnExactRequestText w) ∧ sizedMet enc Tryd.prog Tryd.f3 (OpenSpec.ofChange Rows.fnExactRequestTextSpec) false w args) (Rows.fnExactRequestTextSpec.post enc Tryd.prog Tryd.f3 false true false false) := by
  refine returnsInHanded_of_change_and (C := Tryd.checked) (X := fun w _ => laidMetH Tryd.prog laidL_FnExactRequestText w) (fun _ _ _ hh h => h.of_heap hh) own_FnExactRequestText started (by kernel_rfl) Tryd.func3
    (ChangeSpec.witness_shaped (enc := enc) (C := Tryd.checked) (os := os) (X := fun w _ => laidMetH Tryd.prog laidL_FnExactRequestText w) false (World.laidAll Tryd.prog os laidL_FnExactRequestText) #[.agg #[.string ByteArray.empty, .string ByteArray.empty, .string ByteArray.empty]] 8 (World.laidAll_os _ _ _)
      (World.shaped_of_ZipB (by kernel_rfl) (by kernel_rfl)) (by kernel_rfl) (by kernel_rfl) (by kernel_rfl) (by rw [MakeChecks.laidMetH_plain _ _ _ (by kernel_rfl)]; exact laidMet_laidAll _ (by kernel_rfl) (by kernel_rfl))) ?_
  intro W base args ds gs before hval0 hW hcnd hsz0 hL _
  have hsz : (DataW.weightsEach Tryd.prog (Tryd.f3.params.toList ++ Rows.fnExactRequestTextSpec.plain.varTypes Tryd.prog) (ds ++ gs)).all (· ≤ reachBytes) = true := hsz0
  have hval : ∀ (j : Nat) t v, Tryd.f3.params[j]? = some t → args[j]? = some v → Value.okWide Tryd.prog W .any base t v := hval0
  have hW' := hW
  obtain ⟨p, q, hA0, hV, rfl, hfz, hnd⟩ := hW
  have hA : DataW.TrodAll enc Tryd.prog W 0 (fun _ => true) true Tryd.f3.params.toList args.toList ds p := hA0
  rw [Tryd.params3] at hA hval hsz
  obtain ⟨v0, vs0, d0, ds0, p0, q0, hargs, rfl, rfl, h0, r0⟩ := trodAll_cons hA
  obtain ⟨rfl, rfl, rfl⟩ := trodAll_nil r0
  obtain rfl : args = #[v0] := by cases args; simp_all
  obtain ⟨rfl, rfl⟩ := trodVars_none hV
  have k0 := h0
  have lt0 : ∀ x ∈ p0, x.block < W.heap.size := by obtain ⟨m, hm⟩ := k0; exact DataW.trod_lt m _ _ _ hm
  obtain ⟨cs0, rfl, _⟩ := okWide_struct Tryd.underlying23 (hval 0 23 v0 rfl rfl)
  obtain ⟨fuel0, hf0⟩ := h0
  obtain ⟨a0, kx0, w0⟩ := opens23.op hf0 (fun n hn => by have z := List.all_eq_true.1 hsz _ (DataW.weights_mem_each (j := 0) (t := 23) rfl rfl n hn); simpa using z)
  have e0 := k23_open kx0
  obtain rfl : cs0 = #[.string a0.f0, .string a0.f1, .string a0.f2] := Array.toList_inj.1 e0
  have hL1 := hL
  rw [MakeChecks.laidMetH_plain _ _ _ (by kernel_rfl)] at hL1
  have hL2 : laidMet Tryd.prog [("math/bits.deBruijn32tab", Rows.laid_math_bits_deBruijn32tab), ("math/bits.deBruijn64tab", Rows.laid_math_bits_deBruijn64tab), ("internal/strconv.uint64pow10", Rows.laid_internal_strconv_uint64pow10)] W := hL1
  have hL3 : laidMet Tryd.prog (("internal/strconv.uint64pow10", Lib.tabData .u64 Lib.pow10Tab) :: []) W := by
    have e_ : (Rows.laid_internal_strconv_uint64pow10 : DataW Unit) = Lib.tabData .u64 Lib.pow10Tab := by kernel_rfl
    have h_ := laidMet.tail (laidMet.tail (hL2))
    rw [e_] at h_
    exact h_
  have hGp : GLp W := Lib.tabIs_of_head (g := 1) (t := 122) (e := 109) (n := 20) (by kernel_rfl) (by kernel_rfl) (by kernel_rfl) (by kernel_rfl) (by kernel_rfl) (by kernel_rfl) hL3
  clear hL1 hL2 hL3
  clear hL
  clear hA0 hval0 hsz0 hsz
  obtain ⟨k, hk⟩ := pure_FnExactRequestText a0 w0
  refine (laws_FnExactRequestText.calls k a0.f0 a0.f1 a0.f2 true W  hGp hk).mono fun e W' hh => ?_
  obtain ⟨he, bel0⟩ := hh
  have bel : Below W.heap.size W W' := bel0
  subst he
  exact ⟨_, rfl, _, _, _, [], _, [], hW', trodAll_mk1 (shut_bool Tryd.underlying4 _), (trodAll_cons_mk (Below.trod laidOut_FnExactRequestText (by kernel_rfl) (of_decide_eq_true (by kernel_rfl)) k0 bel lt0) trodAll_mk0), rfl, bel.frame _, fun h => by cases h⟩
theorem over_FnExactRequestText : Rows.fnExactRequestTextRow.holds Tryd.pinned (OpenSpec.ofChange Rows.fnExactRequestTextSpec) :=
  OpenClaim.holds_of_wide 3 Tryd.f3 rfl rfl rfl rfl rfl rfl rfl ⟨rfl, rfl, rfl, rfl, rfl⟩ rfl rfl rfl rfl rfl (by kernel_rfl) Tryd.func3 (by kernel_rfl)
    (of_decide_eq_true (by kernel_rfl)) (by unfold Func.isWrapper; first | (rw [if_pos (by decide +kernel)]; kernel_rfl) | (rw [if_neg (by decide +kernel)]; exact ⟨rfl, rfl⟩))
    (fun os started H enc _ => lifted_FnExactRequestText os started H enc)
theorem proved_FnExactRequestText : Rows.FnExactRequestTextCardSaid :=
  Claim7.holds_tied_plain_at .later [] [.data, .data, .data] true (true, "81cf06ccbdb762c3223c6c0a9cd263cdc3c68277790afb6634e8554602d3795f") true over_FnExactRequestText (fun _ h => by cases h) (by kernel_rfl) (fun _ h => by cases h) fnExactRequestText_row_tie rfl ⟨rfl, rfl⟩ (by kernel_rfl) rfl
    (fun f fn hf hfn => by
      obtain rfl : f = 3 := Option.some.inj ((show Tryd.prog.funcNamed "loop.example/g00356/laws.FnExactRequestText" = some 3 by kernel_rfl).symm.trans hf) |>.symm
      obtain rfl : fn = Tryd.f3 := (Option.some.inj (Tryd.func3.symm.trans hfn)).symm
      exact ⟨by kernel_rfl, fun j t ht => by
        rw [Tryd.params3] at ht
        have hm : t ∈ [23] := by simpa using Array.mem_of_getElem? ht
        have hall : ([23].all fun u => !Tryd.prog.wantsStandIn u) = true := by kernel_rfl
        exact (show Tryd.prog.wantsStandIn t = false by simpa using List.all_eq_true.1 hall t hm)⟩)
    (by kernel_rfl)
#print axioms proved_FnExactRequestText
end
end Go.Proofs.YticjbpkgdbacpaaDoor.X
