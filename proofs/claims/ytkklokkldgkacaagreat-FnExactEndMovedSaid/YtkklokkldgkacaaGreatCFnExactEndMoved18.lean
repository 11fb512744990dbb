/- The program's EndMoved returns what the reference's EndMoved returns, for all arguments. Conditions: none beyond the row's own reach. -/
import Derived.Test.YtkklokkldgkacaaGreatCFnExactEndMoved17
import Derived.Test.YtkklokkldgkacaaGreatRows
namespace Go.Proofs.YtkklokkldgkacaaGreat.X
open Go.RowKit Go.Proofs.YtkklokkldgkacaaGreatW.PrintWords Go.Proofs.YtkklokkldgkacaaGreatW.PrintLast Go.Proofs.YtkklokkldgkacaaGreatW.PrintMore
attribute [local go_sem] max2_int min2_int max_two min_two max_three min_three max_four min_four   -- for this text's walks alone
set_option linter.unusedVariables false
set_option linter.unusedSimpArgs false
section
/-! ### laws_FnExactEndMoved: function 6 -/
-- TYPES 27 33
open Classical in
noncomputable def laws_FnExactEndMoved.f (ip b gate : Int) (gm wm : ByteArray) (res : Int) (g : List S151) (l : List S129) (us : List S131) (ss : List S133) (fs : List S135) (rs : List S157) (nx : Int) (mac : ByteArray) (ip2 now : Int) : Option Bool := if LawG gm wm g l us ss fs rs then some true else none
theorem laws_FnExactEndMoved.calls (ip b gate : Int) (gm wm : ByteArray) (res : Int) (A6 : Option Addr) (c6 : Nat) (g : List S151) (A7 : Option Addr) (c7 : Nat) (l : List S129) (B0 : Option Addr) (d0 : Nat) (us : List S131) (B1 : Option Addr) (d1 : Nat) (ss : List S133) (B2 : Option Addr) (d2 : Nat) (fs : List S135) (B3 : Option Addr) (d3 : Nat) (rs : List S157) (nx : Int) (mac : ByteArray) (ip2 now : Int) (r : Bool) (w : World)
    (hg : Kd.C k151 w A6 g.length g) (m6 : g.length ≤ c6) (hl : Kd.C k129 w A7 l.length l) (m7 : l.length ≤ c7) (h0 : Kd.C k131 w B0 us.length us) (m0 : us.length ≤ d0) (h1 : Kd.C k133 w B1 ss.length ss) (m1 : ss.length ≤ d1) (h2 : Kd.C k135 w B2 fs.length fs) (m2 : fs.length ≤ d2) (h3 : Kd.C k157 w B3 rs.length rs) (m3 : rs.length ≤ d3) (h : laws_FnExactEndMoved.f ip b gate gm wm res g l us ss fs rs nx mac ip2 now = some r) :
    Calls Tryz.prog 6 #[.agg #[.int .i64 ip, .int .i64 b, .int .i64 gate, .string gm, .string wm, .int .i64 res, .slice A6 g.length c6, .slice A7 l.length c7], .agg #[.slice B0 us.length d0, .slice B1 ss.length d1, .slice B2 fs.length d2, .slice B3 rs.length d3, .int .i64 nx], .string mac, .int .i64 ip2, .int .i64 now] w fun e w' => e = .returned (.bool r) ∧ Below w.heap.size w w' := by
  rw [laws_FnExactEndMoved.f] at h
  split at h
  · rename_i hz
    obtain rfl := Option.some.inj h
    exact lawM1 ip b gate gm wm res A6 c6 g A7 c7 l B0 B1 B2 B3 d0 d1 d2 d3 us ss fs rs nx mac ip2 now w hg hl h0 h1 h2 h3 hz
  · cases h
end
section
-- IMPORT Derived.SizedLaws
-- IMPORT Derived.ProofKit
-- IMPORT Derived.WalkKit
-- IMPORT Derived.OpenShut
-- IMPORT Derived.ShutString
-- IMPORT Derived.ChangeOld
-- IMPORT Derived.Below
-- IMPORT Derived.Deep.Slices
open Go.ChangeShapes Go.WideShapes Go.ChangeAt Go.Deep
/-- What reads as data of type t is a value of the kind d, and meets wf. -/
structure Opens (P : Program) (t : TypeId) {α : Type} (d : Kd α) (wf : α → Prop) : Prop where
  sz : P.cellsOf t = d.sz
  op : ∀ {H : Type} {enc : TypeId × Value → H} {w : World} {fuel : Nat} {cs : List Value} {y : DataW H × List MemPlace}, DataW.trod enc P w 0 (fun _ => true) true fuel t cs = some y → (∀ n ∈ y.1.weights P t, n ≤ reachBytes) → ∃ x, d.K w x cs ∧ wf x
theorem Opens.int {P : Program} {t : TypeId} {k : IntKind} (hu : P.underlying t = some (.int k)) (hc : P.cellsOf t = 1) : Opens P t (Kd.int k) (fun n => (Lit.int k n).wf = true) :=
  ⟨hc, fun h _ => by obtain ⟨n, rfl, rfl, wf⟩ := DataW.trod_int hu h; exact ⟨n, rfl, wf⟩⟩
theorem Opens.bool {P : Program} {t : TypeId} (hu : P.underlying t = some .bool) (hc : P.cellsOf t = 1) : Opens P t Kd.bool (fun _ => True) :=
  ⟨hc, fun h _ => by obtain ⟨n, rfl, rfl⟩ := DataW.trod_bool hu h; exact ⟨n, rfl, trivial⟩⟩
theorem Opens.string {P : Program} {t : TypeId} (hu : P.underlying t = some .string) (hc : P.cellsOf t = 1) : Opens P t Kd.string (fun s => s.size ≤ 140737488351232) :=
  ⟨hc, fun h hw => by
    obtain ⟨s, rfl, rfl, _⟩ := DataW.trod_string hu h
    refine ⟨s, rfl, ?_⟩
    have := hw s.data.toList.length (by simp [DataW.weights])
    simpa [reachBytes] using this⟩
theorem weights_mem_all {H : Type} {P : Program} {e : TypeId} {n : Nat} : ∀ {l : List (DataW H)} {d : DataW H}, d ∈ l → n ∈ d.weights P e → n ∈ DataW.weightsAll P e l
  | d0 :: l, d, hd, hn => by
    simp only [DataW.weightsAll, List.mem_append]
    rcases List.mem_cons.1 hd with rfl | hd
    · exact .inl hn
    · exact .inr (weights_mem_all hd hn)
  | [], _, hd, _ => by cases hd
theorem list_of_all {α : Type} {Q : Nat → α → Prop} (n : Nat) (h : ∀ i, i < n → ∃ x, Q i x) : ∃ xs : List α, xs.length = n ∧ ∀ j x, xs[j]? = some x → Q j x := by
  induction n with
  | zero => exact ⟨[], rfl, fun j x h => by simp at h⟩
  | succ n ih =>
    obtain ⟨xs, hl, hx⟩ := ih (fun i hi => h i (by omega))
    obtain ⟨x, hq⟩ := h n (by omega)
    refine ⟨xs ++ [x], by simp [hl], fun j y hj => ?_⟩
    rcases Nat.lt_or_ge j xs.length with hlt | hge
    · rw [List.getElem?_append_left hlt] at hj
      exact hx j y hj
    · rw [List.getElem?_append_right hge] at hj
      have : j - xs.length = 0 := by
        rcases Nat.lt_or_ge (j - xs.length) 1 with h1 | h1
        · omega
        · rw [List.getElem?_eq_none (by simpa using h1)] at hj; cases hj
      rw [this] at hj
      simp at hj
      subst hj
      have : j = n := by omega
      subst this
      exact hq
theorem Opens.slice {α : Type} {P : Program} {t e : TypeId} {d : Kd α} {wf : α → Prop} (hu : P.underlying t = some (.slice e)) (hc : P.cellsOf t = 1) (B : Nat) (hB : P.bytesOf e = B) (he : Opens P e d wf) :
    Opens P t (Kd.slice e d) (fun xs => xs.length * B ≤ 140737488351232 ∧ xs.length ≤ maxLen ∧ ∀ x ∈ xs, wf x) :=
  ⟨hc, fun {H enc w fuel cs y} h hw => by
    rcases open_slice hu h with ⟨rfl, rfl⟩ | ⟨a, len, cap, m, n, D, Pl, rfl, _, hl, hm, hmm, rfl, hel⟩
    · exact ⟨[], ⟨none, 0, rfl, Nat.le_refl _, Kd.C_nil d w⟩, by simp, by simp, fun x hx => by cases hx⟩
    have hmc : m = cap := by rw [hmm]; rfl
    subst hmc
    have hwt : ∀ i, i < len → ∀ z ∈ (D i).weights P e, z ≤ reachBytes := fun i hi z hz => hw z (by
      simp only [DataW.weights, hu]
      exact List.mem_cons_of_mem _ (List.mem_append_left _ (weights_mem_all (List.mem_map.2 ⟨i, List.mem_range.2 hi, rfl⟩) hz)))
    have hall : ∀ i, i < len → ∃ x : α, (∃ c, c.length = d.sz ∧ d.K w x c ∧ ∀ j u, c[j]? = some u → w.cell? (a.add (i * d.sz + j)) = some u) ∧ wf x := by
      intro i hi
      obtain ⟨cs', hcs, htr⟩ := hel i (by omega)
      obtain ⟨x, hk, hx⟩ := he.op htr (hwt i hi)
      obtain ⟨_, hlen, hcell⟩ := World.cells?_some hcs
      refine ⟨x, ⟨cs', by rw [hlen, he.sz], hk, fun j u hu' => ?_⟩, hx⟩
      have hj : j < cs'.length := by
        rcases Nat.lt_or_ge j cs'.length with h1 | h1
        · exact h1
        · rw [List.getElem?_eq_none h1] at hu'; cases hu'
      rw [hlen] at hj
      have hcj := hcell j hj
      rw [hu', he.sz, Addr.add_add] at hcj
      exact hcj
    obtain ⟨xs, hxl, hxs⟩ := list_of_all (Q := fun i x => (∃ c, c.length = d.sz ∧ d.K w x c ∧ ∀ j u, c[j]? = some u → w.cell? (a.add (i * d.sz + j)) = some u) ∧ wf x) len hall
    subst hxl
    refine ⟨xs, ⟨some a, m, rfl, hl, rfl, ?_, fun _ => ⟨a, rfl, fun j p hp => (hxs j p hp).1⟩⟩, ?_, ?_, ?_⟩
    · unfold maxLen at hm; omega
    · have := hw ((List.map D (List.range xs.length)).length + (List.map (fun j => D (xs.length + j)) (List.range (m - xs.length))).length) |> fun h => h
      have h1 := hw (((List.map D (List.range xs.length)).length + (List.map (fun j => D (xs.length + j)) (List.range (m - xs.length))).length) * P.bytesOf e) (by simp only [DataW.weights, hu]; exact List.mem_cons_self)
      rw [hB] at h1
      simp only [List.length_map, List.length_range] at h1
      have h2 : xs.length * B ≤ (xs.length + (m - xs.length)) * B := Nat.mul_le_mul_right _ (by omega)
      exact Nat.le_trans h2 h1
    · omega
    · intro x hx
      obtain ⟨j, hj, rfl⟩ := List.getElem_of_mem hx
      exact (hxs j _ (List.getElem?_eq_getElem hj)).2⟩
/-- Fields in line from cell o on. -/
structure OpensF (P : Program) (fs : List Field) (o : Nat) {α : Type} (d : Kd α) (wf : α → Prop) : Prop where
  op : ∀ {H : Type} {enc : TypeId × Value → H} {w : World} {n : Nat} {cs : List Value} {xs : List (DataW H × List MemPlace)}, o + d.sz ≤ cs.length → xs.length = fs.length →
    (∀ (i : Nat) (f : Field), fs[i]? = some f → DataW.trod enc P w 0 (fun _ => true) true n f.type ((cs.drop f.offset).take (P.cellsOf f.type)) = xs[i]?) →
    (∀ z ∈ DataW.weightsEach P (fs.map (·.type)) (xs.map (·.1)), z ≤ reachBytes) → ∃ x, d.K w x ((cs.drop o).take d.sz) ∧ wf x
theorem OpensF.one {α : Type} {P : Program} {f : Field} {o : Nat} {d : Kd α} {wf : α → Prop} (ho : f.offset = o) (h : Opens P f.type d wf) : OpensF P [f] o d wf := by
  refine ⟨fun {H enc w n cs xs} hlen hxl htr hw => ?_⟩
  match xs, hxl with
  | [y], _ =>
    have h1 := htr 0 f rfl
    rw [ho, h.sz] at h1
    exact h.op (y := y) h1 (fun z hz => hw z (by simpa [DataW.weightsEach] using hz))
theorem OpensF.cons {α β : Type} {P : Program} {f : Field} {fs : List Field} {o : Nat} {a : Kd α} {b : Kd β} {wa : α → Prop} {wb : β → Prop} (ho : f.offset = o) (h : Opens P f.type a wa) (o' : Nat) (ho' : o + a.sz = o') (hr : OpensF P fs o' b wb) :
    OpensF P (f :: fs) o (Kd.pair a b) (fun x => wa x.1 ∧ wb x.2) := by
  refine ⟨fun {H enc w n cs xs} hlen hxl htr hw => ?_⟩
  match xs, hxl with
  | y :: ys, hxl =>
    have h1 := htr 0 f rfl
    rw [ho, h.sz] at h1
    have hsz : (Kd.pair a b).sz = a.sz + b.sz := rfl
    rw [hsz] at hlen
    obtain ⟨x0, k0, w0⟩ := h.op (y := y) h1 (fun z hz => hw z (by simp only [List.map_cons, DataW.weightsEach, List.mem_append]; exact .inl hz))
    obtain ⟨x1, k1, w1⟩ := hr.op (n := n) (cs := cs) (xs := ys) (enc := enc) (w := w) (by omega) (by simpa using hxl) (fun i g hg => by have := htr (i + 1) g (by simpa using hg); simpa using this) (fun z hz => hw z (by simp only [List.map_cons, DataW.weightsEach, List.mem_append]; exact .inr hz))
    refine ⟨(x0, x1), ⟨(cs.drop o).take a.sz, (cs.drop o').take b.sz, ?_, k0, k1⟩, w0, w1⟩
    rw [hsz, ← ho', List.take_add, List.drop_drop]
theorem Opens.struct {α : Type} {P : Program} {t : TypeId} {fs : Array Field} {d : Kd α} {wf : α → Prop} (hu : P.underlying t = some (.struct fs)) (hc : P.cellsOf t = d.sz) (h : OpensF P fs.toList 0 d wf) : Opens P t d wf :=
  ⟨hc, fun {H enc w fuel cs y} ht hw => by
    obtain ⟨xs, n, rfl, rfl, hlen, hxl, htr⟩ := DataW.trod_struct hu ht
    obtain ⟨x, hk, hx⟩ := h.op (enc := enc) (w := w) (n := n) (cs := cs) (xs := xs) (by omega) (by simpa using hxl) (fun i f hf => htr i f (by simpa using hf)) (fun z hz => hw z (by simp only [DataW.weights, hu]; exact hz))
    refine ⟨x, ?_, hx⟩
    rw [List.drop_zero, List.take_of_length_le (by omega)] at hk
    exact hk⟩
theorem Opens.iso {α β : Type} {P : Program} {t : TypeId} {d : Kd α} {wf : α → Prop} (f : β → α) (g : α → β) (hfg : ∀ x, f (g x) = x) (h : Opens P t d wf) : Opens P t (Kd.iso d f) (fun x => wf (f x)) :=
  ⟨h.sz, fun ht hw => by
    obtain ⟨x, hk, hx⟩ := h.op ht hw
    exact ⟨g x, by show d.K _ (f (g x)) _; rw [hfg]; exact hk, by rw [hfg]; exact hx⟩⟩
end
section
def wf149 (x : S149) : Prop := (Lit.int .i64 x.f0).wf = true ∧ ((Lit.int .i64 x.f1).wf = true)
set_option maxRecDepth 100000 in
theorem opens149 : Opens Tryz.prog 149 k149 wf149 :=
  Opens.iso (fun x : S149 => (x.f0, x.f1)) (fun y => ⟨y.1, y.2⟩) (fun _ => rfl) (Opens.struct Tryz.underlying149 (by kernel_rfl) (OpensF.cons rfl (Opens.int Tryz.underlying3 (by kernel_rfl)) 1 rfl (OpensF.one rfl (Opens.int Tryz.underlying3 (by kernel_rfl)))))
end
section
def wf23 (x : S23) : Prop := (Lit.int .i64 x.f0).wf = true ∧ ((Lit.int .i64 x.f1).wf = true)
set_option maxRecDepth 100000 in
theorem opens23 : Opens Tryz.prog 23 k23 wf23 :=
  Opens.iso (fun x : S23 => (x.f0, x.f1)) (fun y => ⟨y.1, y.2⟩) (fun _ => rfl) (Opens.struct Tryz.underlying23 (by kernel_rfl) (OpensF.cons rfl (Opens.int Tryz.underlying3 (by kernel_rfl)) 1 rfl (OpensF.one rfl (Opens.int Tryz.underlying3 (by kernel_rfl)))))
end
section
def wf193 (x : S193) : Prop := (Lit.int .i64 x.f0).wf = true ∧ (wf23 x.f1 ∧ (wf149 x.f2 ∧ (True)))
set_option maxRecDepth 100000 in
theorem opens193 : Opens Tryz.prog 193 k193 wf193 :=
  Opens.iso (fun x : S193 => (x.f0, x.f1, x.f2, x.f3)) (fun y => ⟨y.1, y.2.1, y.2.2.1, y.2.2.2⟩) (fun _ => rfl) (Opens.struct Tryz.underlying193 (by kernel_rfl) (OpensF.cons rfl (Opens.int Tryz.underlying3 (by kernel_rfl)) 1 rfl (OpensF.cons rfl opens23 3 rfl (OpensF.cons rfl opens149 5 rfl (OpensF.one rfl (Opens.bool Tryz.underlying4 (by kernel_rfl)))))))
end
section
def wf129 (x : S129) : Prop := x.f0.size ≤ 140737488351232 ∧ ((x.f1.length * 48 ≤ 140737488351232 ∧ x.f1.length ≤ maxLen ∧ ∀ y ∈ x.f1, wf193 y) ∧ ((Lit.int .i64 x.f2).wf = true ∧ ((Lit.int .i64 x.f3).wf = true ∧ ((Lit.int .i64 x.f4).wf = true))))
set_option maxRecDepth 100000 in
theorem opens129 : Opens Tryz.prog 129 k129 wf129 :=
  Opens.iso (fun x : S129 => (x.f0, x.f1, x.f2, x.f3, x.f4)) (fun y => ⟨y.1, y.2.1, y.2.2.1, y.2.2.2.1, y.2.2.2.2⟩) (fun _ => rfl) (Opens.struct Tryz.underlying129 (by kernel_rfl) (OpensF.cons rfl (Opens.string Tryz.underlying9 (by kernel_rfl)) 1 rfl (OpensF.cons rfl (Opens.slice Tryz.underlying127 (by kernel_rfl) 48 (by kernel_rfl) opens193) 2 rfl (OpensF.cons rfl (Opens.int Tryz.underlying3 (by kernel_rfl)) 3 rfl (OpensF.cons rfl (Opens.int Tryz.underlying3 (by kernel_rfl)) 4 rfl (OpensF.one rfl (Opens.int Tryz.underlying3 (by kernel_rfl))))))))
end
section
def wf151 (x : S151) : Prop := wf23 x.f0 ∧ (wf149 x.f1)
set_option maxRecDepth 100000 in
theorem opens151 : Opens Tryz.prog 151 k151 wf151 :=
  Opens.iso (fun x : S151 => (x.f0, x.f1)) (fun y => ⟨y.1, y.2⟩) (fun _ => rfl) (Opens.struct Tryz.underlying151 (by kernel_rfl) (OpensF.cons rfl opens23 2 rfl (OpensF.one rfl opens149)))
end
section
def wf27 (x : S27) : Prop := wf23 x.f0 ∧ ((Lit.int .i64 x.f1).wf = true ∧ (x.f2.size ≤ 140737488351232 ∧ (x.f3.size ≤ 140737488351232 ∧ ((Lit.int .i64 x.f4).wf = true ∧ ((x.f5.length * 32 ≤ 140737488351232 ∧ x.f5.length ≤ maxLen ∧ ∀ y ∈ x.f5, wf151 y) ∧ ((x.f6.length * 64 ≤ 140737488351232 ∧ x.f6.length ≤ maxLen ∧ ∀ y ∈ x.f6, wf129 y)))))))
set_option maxRecDepth 100000 in
theorem opens27 : Opens Tryz.prog 27 k27 wf27 :=
  Opens.iso (fun x : S27 => (x.f0, x.f1, x.f2, x.f3, x.f4, x.f5, x.f6)) (fun y => ⟨y.1, y.2.1, y.2.2.1, y.2.2.2.1, y.2.2.2.2.1, y.2.2.2.2.2.1, y.2.2.2.2.2.2⟩) (fun _ => rfl) (Opens.struct Tryz.underlying27 (by kernel_rfl) (OpensF.cons rfl opens23 2 rfl (OpensF.cons rfl (Opens.int Tryz.underlying3 (by kernel_rfl)) 3 rfl (OpensF.cons rfl (Opens.string Tryz.underlying9 (by kernel_rfl)) 4 rfl (OpensF.cons rfl (Opens.string Tryz.underlying9 (by kernel_rfl)) 5 rfl (OpensF.cons rfl (Opens.int Tryz.underlying3 (by kernel_rfl)) 6 rfl (OpensF.cons rfl (Opens.slice Tryz.underlying24 (by kernel_rfl) 32 (by kernel_rfl) opens151) 7 rfl (OpensF.one rfl (Opens.slice Tryz.underlying25 (by kernel_rfl) 64 (by kernel_rfl) opens129)))))))))
end
section
def wf131 (x : S131) : Prop := x.f0.size ≤ 140737488351232 ∧ (x.f1.size ≤ 140737488351232 ∧ (x.f2.size ≤ 140737488351232 ∧ (x.f3.size ≤ 140737488351232 ∧ ((Lit.int .i64 x.f4).wf = true ∧ ((Lit.int .i64 x.f5).wf = true)))))
set_option maxRecDepth 100000 in
theorem opens131 : Opens Tryz.prog 131 k131 wf131 :=
  Opens.iso (fun x : S131 => (x.f0, x.f1, x.f2, x.f3, x.f4, x.f5)) (fun y => ⟨y.1, y.2.1, y.2.2.1, y.2.2.2.1, y.2.2.2.2.1, y.2.2.2.2.2⟩) (fun _ => rfl) (Opens.struct Tryz.underlying131 (by kernel_rfl) (OpensF.cons rfl (Opens.string Tryz.underlying9 (by kernel_rfl)) 1 rfl (OpensF.cons rfl (Opens.string Tryz.underlying9 (by kernel_rfl)) 2 rfl (OpensF.cons rfl (Opens.string Tryz.underlying9 (by kernel_rfl)) 3 rfl (OpensF.cons rfl (Opens.string Tryz.underlying9 (by kernel_rfl)) 4 rfl (OpensF.cons rfl (Opens.int Tryz.underlying3 (by kernel_rfl)) 5 rfl (OpensF.one rfl (Opens.int Tryz.underlying3 (by kernel_rfl)))))))))
end
section
def wf133 (x : S133) : Prop := (Lit.int .i64 x.f0).wf = true ∧ ((Lit.int .i64 x.f1).wf = true ∧ (x.f2.size ≤ 140737488351232 ∧ ((Lit.int .i64 x.f3).wf = true ∧ ((Lit.int .i64 x.f4).wf = true ∧ ((Lit.int .i64 x.f5).wf = true ∧ ((Lit.int .i64 x.f6).wf = true ∧ ((Lit.int .i64 x.f7).wf = true ∧ ((Lit.int .i64 x.f8).wf = true ∧ ((Lit.int .i64 x.f9).wf = true)))))))))
set_option maxRecDepth 100000 in
theorem opens133 : Opens Tryz.prog 133 k133 wf133 :=
  Opens.iso (fun x : S133 => (x.f0, x.f1, x.f2, x.f3, x.f4, x.f5, x.f6, x.f7, x.f8, x.f9)) (fun y => ⟨y.1, y.2.1, y.2.2.1, y.2.2.2.1, y.2.2.2.2.1, y.2.2.2.2.2.1, y.2.2.2.2.2.2.1, y.2.2.2.2.2.2.2.1, y.2.2.2.2.2.2.2.2.1, y.2.2.2.2.2.2.2.2.2⟩) (fun _ => rfl) (Opens.struct Tryz.underlying133 (by kernel_rfl) (OpensF.cons rfl (Opens.int Tryz.underlying3 (by kernel_rfl)) 1 rfl (OpensF.cons rfl (Opens.int Tryz.underlying3 (by kernel_rfl)) 2 rfl (OpensF.cons rfl (Opens.string Tryz.underlying9 (by kernel_rfl)) 3 rfl (OpensF.cons rfl (Opens.int Tryz.underlying3 (by kernel_rfl)) 4 rfl (OpensF.cons rfl (Opens.int Tryz.underlying3 (by kernel_rfl)) 5 rfl (OpensF.cons rfl (Opens.int Tryz.underlying3 (by kernel_rfl)) 6 rfl (OpensF.cons rfl (Opens.int Tryz.underlying3 (by kernel_rfl)) 7 rfl (OpensF.cons rfl (Opens.int Tryz.underlying3 (by kernel_rfl)) 8 rfl (OpensF.cons rfl (Opens.int Tryz.underlying3 (by kernel_rfl)) 9 rfl (OpensF.one rfl (Opens.int Tryz.underlying3 (by kernel_rfl)))))))))))))
end
section
def wf135 (x : S135) : Prop := x.f0.size ≤ 140737488351232 ∧ ((Lit.int .i64 x.f1).wf = true ∧ ((Lit.int .i64 x.f2).wf = true))
set_option maxRecDepth 100000 in
theorem opens135 : Opens Tryz.prog 135 k135 wf135 :=
  Opens.iso (fun x : S135 => (x.f0, x.f1, x.f2)) (fun y => ⟨y.1, y.2.1, y.2.2⟩) (fun _ => rfl) (Opens.struct Tryz.underlying135 (by kernel_rfl) (OpensF.cons rfl (Opens.string Tryz.underlying9 (by kernel_rfl)) 1 rfl (OpensF.cons rfl (Opens.int Tryz.underlying3 (by kernel_rfl)) 2 rfl (OpensF.one rfl (Opens.int Tryz.underlying3 (by kernel_rfl))))))
end
section
def wf157 (x : S157) : Prop := (Lit.int .i64 x.f0).wf = true ∧ ((Lit.int .i64 x.f1).wf = true ∧ ((Lit.int .i64 x.f2).wf = true ∧ ((Lit.int .i64 x.f3).wf = true ∧ (True))))
set_option maxRecDepth 100000 in
theorem opens157 : Opens Tryz.prog 157 k157 wf157 :=
  Opens.iso (fun x : S157 => (x.f0, x.f1, x.f2, x.f3, x.f4)) (fun y => ⟨y.1, y.2.1, y.2.2.1, y.2.2.2.1, y.2.2.2.2⟩) (fun _ => rfl) (Opens.struct Tryz.underlying157 (by kernel_rfl) (OpensF.cons rfl (Opens.int Tryz.underlying3 (by kernel_rfl)) 1 rfl (OpensF.cons rfl (Opens.int Tryz.underlying3 (by kernel_rfl)) 2 rfl (OpensF.cons rfl (Opens.int Tryz.underlying3 (by kernel_rfl)) 3 rfl (OpensF.cons rfl (Opens.int Tryz.underlying3 (by kernel_rfl)) 4 rfl (OpensF.one rfl (Opens.bool Tryz.underlying4 (by kernel_rfl))))))))
end
section
def wf33 (x : S33) : Prop := (x.f0.length * 80 ≤ 140737488351232 ∧ x.f0.length ≤ maxLen ∧ ∀ y ∈ x.f0, wf131 y) ∧ ((x.f1.length * 88 ≤ 140737488351232 ∧ x.f1.length ≤ maxLen ∧ ∀ y ∈ x.f1, wf133 y) ∧ ((x.f2.length * 32 ≤ 140737488351232 ∧ x.f2.length ≤ maxLen ∧ ∀ y ∈ x.f2, wf135 y) ∧ ((x.f3.length * 40 ≤ 140737488351232 ∧ x.f3.length ≤ maxLen ∧ ∀ y ∈ x.f3, wf157 y) ∧ ((Lit.int .i64 x.f4).wf = true))))
set_option maxRecDepth 100000 in
theorem opens33 : Opens Tryz.prog 33 k33 wf33 :=
  Opens.iso (fun x : S33 => (x.f0, x.f1, x.f2, x.f3, x.f4)) (fun y => ⟨y.1, y.2.1, y.2.2.1, y.2.2.2.1, y.2.2.2.2⟩) (fun _ => rfl) (Opens.struct Tryz.underlying33 (by kernel_rfl) (OpensF.cons rfl (Opens.slice Tryz.underlying28 (by kernel_rfl) 80 (by kernel_rfl) opens131) 1 rfl (OpensF.cons rfl (Opens.slice Tryz.underlying29 (by kernel_rfl) 88 (by kernel_rfl) opens133) 2 rfl (OpensF.cons rfl (Opens.slice Tryz.underlying30 (by kernel_rfl) 32 (by kernel_rfl) opens135) 3 rfl (OpensF.cons rfl (Opens.slice Tryz.underlying31 (by kernel_rfl) 40 (by kernel_rfl) opens157) 4 rfl (OpensF.one rfl (Opens.int Tryz.underlying3 (by kernel_rfl))))))))
end
section
def P_FnExactEndMoved : Prop := ∀ (a0 : S27) (a1 : S33) (a2 : ByteArray) (a3 : Int) (a4 : Int), wf27 a0 → wf33 a1 → a2.size ≤ 140737488351232 → (Lit.int .i64 a3).wf = true → (Lit.int .i64 a4).wf = true → laws_FnExactEndMoved.f a0.f0.f0 a0.f0.f1 a0.f1 a0.f2 a0.f3 a0.f4 a0.f5 a0.f6 a1.f0 a1.f1 a1.f2 a1.f3 a1.f4 a2 a3 a4 = some true
end
section
-- NEEDS laws.FnExactEndMoved
theorem pure_FnExactEndMoved : P_FnExactEndMoved := by
  intro c q mac ip2 now hc hq _ _ _
  obtain ⟨⟨ip, b⟩, gate, gm, wm, res, g, l⟩ := c
  obtain ⟨us, ss, fs, rs, nx⟩ := q
  have hz : LawG gm wm g l us ss fs rs := by
    have a1 : g.length * 32 ≤ 140737488351232 := hc.2.2.2.2.2.1.1
    have a2 : l.length * 64 ≤ 140737488351232 := hc.2.2.2.2.2.2.1
    have a3 : us.length * 80 ≤ 140737488351232 := hq.1.1
    have a4 : ss.length * 88 ≤ 140737488351232 := hq.2.1.1
    have a5 : fs.length * 32 ≤ 140737488351232 := hq.2.2.1.1
    have a6 : rs.length * 40 ≤ 140737488351232 := hq.2.2.2.1.1
    refine ⟨hc.2.2.1, hc.2.2.2.1, by omega, by omega, fun y hy => ?_, by omega, fun y hy => ?_, by omega, fun y hy => ?_, by omega, fun y hy => ?_, by omega⟩
    · have q := hc.2.2.2.2.2.2.2.2 y hy
      have q1 : y.f1.length * 48 ≤ 140737488351232 := q.2.1.1
      exact ⟨q.1, by omega⟩
    · have q := hq.1.2.2 y hy
      exact ⟨q.1, q.2.1, q.2.2.1, q.2.2.2.1⟩
    · exact (hq.2.1.2.2 y hy).2.2.1
    · exact (hq.2.2.1.2.2 y hy).1
  dsimp only
  rw [laws_FnExactEndMoved.f, if_pos hz]
end
section
-- IMPORT Derived.Test.YtkklokkldgkacaaGreatRows
-- IMPORT Derived.WalkKit
-- IMPORT Derived.ProofKit
-- IMPORT Derived.OpenShut
-- IMPORT Derived.ShutString
-- IMPORT Derived.ChangeOld
-- IMPORT Derived.Below
-- IMPORT Derived.SizedLaws
open Go.ChangeShapes Go.WideShapes Go.ChangeAt
open Go.ChangeMaps (open_string shut_string)
theorem own_FnExactEndMoved : ownKnob Tryz.prog.godebug = none := by kernel_rfl
theorem laidOut_FnExactEndMoved : laidOutB Tryz.prog = true := by kernel_rfl
set_option maxHeartbeats 4000000 in
set_option maxRecDepth 100000 in
theorem lifted_FnExactEndMoved (os : Os) (started : os.Started) (H : Type) (enc : TypeId × Value → H) :
    ReturnsInHanded {} Tryz.checked os 6 .any (Rows.fnExactEndMovedSpec.pre6 enc Tryz.prog Tryz.f6 Rows.fnExactEndMovedRow.domain false) (Rows.fnExactEndMovedSpec.post enc Tryz.prog Tryz.f6 false true false false) := by
  refine returnsInHanded_of_change_sized (C := Tryz.checked) own_FnExactEndMoved started (by kernel_rfl) Tryz.func6
    (ChangeSpec.witness6 (enc := enc) (C := Tryz.checked) false ⟨#[], #[.agg #[.int .i64 0, .int .i64 0, .int .i64 0, .string ByteArray.empty, .string ByteArray.empty, .int .i64 0, .slice none 0 0, .slice none 0 0], .agg #[.slice none 0 0, .slice none 0 0, .slice none 0 0, .slice none 0 0, .int .i64 0], .string ByteArray.empty, .int .i64 0, .int .i64 0], []⟩ 8 (by kernel_rfl) (by kernel_rfl) (by kernel_rfl) (by kernel_rfl)) ?_
  intro W base args ds gs before hval0 hW hcnd hsz0 _
  have hsz : (DataW.weightsEach Tryz.prog (Tryz.f6.params.toList ++ Rows.fnExactEndMovedSpec.plain.varTypes Tryz.prog) (ds ++ gs)).all (· ≤ reachBytes) = true := hsz0
  have hval : ∀ (j : Nat) t v, Tryz.f6.params[j]? = some t → args[j]? = some v → Value.okWide Tryz.prog W .any base t v := hval0
  have hW' := hW
  obtain ⟨p, q, hA0, hV, rfl, hfz, hnd⟩ := hW
  have hA : DataW.TrodAll enc Tryz.prog W 0 (fun _ => true) true Tryz.f6.params.toList args.toList ds p := hA0
  rw [Tryz.params6] at hA hval hsz
  obtain ⟨v0, vs0, d0, ds0, p0, q0, hargs, rfl, rfl, h0, r0⟩ := trodAll_cons hA
  obtain ⟨v1, vs1, d1, ds1, p1, q1, rfl, rfl, rfl, h1, r1⟩ := trodAll_cons r0
  obtain ⟨v2, vs2, d2, ds2, p2, q2, rfl, rfl, rfl, h2, r2⟩ := trodAll_cons r1
  obtain ⟨v3, vs3, d3, ds3, p3, q3, rfl, rfl, rfl, h3, r3⟩ := trodAll_cons r2
  obtain ⟨v4, vs4, d4, ds4, p4, q4, rfl, rfl, rfl, h4, r4⟩ := trodAll_cons r3
  obtain ⟨rfl, rfl, rfl⟩ := trodAll_nil r4
  obtain rfl : args = #[v0, v1, v2, v3, v4] := by cases args; simp_all
  obtain ⟨rfl, rfl⟩ := trodVars_none hV
  have k0 := h0
  have lt0 : ∀ x ∈ p0, x.block < W.heap.size := by obtain ⟨m, hm⟩ := k0; exact DataW.trod_lt m _ _ _ hm
  obtain ⟨cs0, rfl, _⟩ := okWide_struct Tryz.underlying27 (hval 0 27 v0 rfl rfl)
  obtain ⟨fuel0, hf0⟩ := h0
  obtain ⟨a0, kx0, w0⟩ := opens27.op hf0 (fun n hn => by have z := List.all_eq_true.1 hsz _ (DataW.weights_mem_each (j := 0) (t := 27) rfl rfl n hn); simpa using z)
  obtain ⟨A0_6, c0_6, A0_7, c0_7, e0, hl0_6, hc0_6, hl0_7, hc0_7⟩ := k27_open kx0
  obtain rfl : cs0 = #[.int .i64 a0.f0.f0, .int .i64 a0.f0.f1, .int .i64 a0.f1, .string a0.f2, .string a0.f3, .int .i64 a0.f4, .slice A0_6 a0.f5.length c0_6, .slice A0_7 a0.f6.length c0_7] := Array.toList_inj.1 e0
  have k1 := h1
  have lt1 : ∀ x ∈ p1, x.block < W.heap.size := by obtain ⟨m, hm⟩ := k1; exact DataW.trod_lt m _ _ _ hm
  obtain ⟨cs1, rfl, _⟩ := okWide_struct Tryz.underlying33 (hval 1 33 v1 rfl rfl)
  obtain ⟨fuel1, hf1⟩ := h1
  obtain ⟨a1, kx1, w1⟩ := opens33.op hf1 (fun n hn => by have z := List.all_eq_true.1 hsz _ (DataW.weights_mem_each (j := 1) (t := 33) rfl rfl n hn); simpa using z)
  obtain ⟨A1_0, c1_0, A1_1, c1_1, A1_2, c1_2, A1_3, c1_3, e1, hl1_0, hc1_0, hl1_1, hc1_1, hl1_2, hc1_2, hl1_3, hc1_3⟩ := k33_open kx1
  obtain rfl : cs1 = #[.slice A1_0 a1.f0.length c1_0, .slice A1_1 a1.f1.length c1_1, .slice A1_2 a1.f2.length c1_2, .slice A1_3 a1.f3.length c1_3, .int .i64 a1.f4] := Array.toList_inj.1 e1
  obtain ⟨a2, rfl, rfl, rfl, y2⟩ := open_string Tryz.underlying9 (hval 2 9 v2 rfl rfl) h2
  have w2 : a2.size ≤ 140737488351232 := by
    have z := sized_string hsz (j := 2) (t := 9) rfl rfl
    rw [Array.length_toList] at z
    exact z
  obtain ⟨a3, rfl, rfl, rfl, w3⟩ := open_int Tryz.underlying3 (hval 3 3 v3 rfl rfl) h3
  obtain ⟨a4, rfl, rfl, rfl, w4⟩ := open_int Tryz.underlying3 (hval 4 3 v4 rfl rfl) h4
  clear hA0 hval0 hsz0 hsz
  have hk := pure_FnExactEndMoved a0 a1 a2 a3 a4 w0 w1 w2 w3 w4
  refine (laws_FnExactEndMoved.calls a0.f0.f0 a0.f0.f1 a0.f1 a0.f2 a0.f3 a0.f4 _ _ a0.f5 _ _ a0.f6 _ _ a1.f0 _ _ a1.f1 _ _ a1.f2 _ _ a1.f3 a1.f4 a2 a3 a4 true W hc0_6 hl0_6 hc0_7 hl0_7 hc1_0 hl1_0 hc1_1 hl1_1 hc1_2 hl1_2 hc1_3 hl1_3 hk).mono fun e W' hh => ?_
  obtain ⟨he, bel0⟩ := hh
  have bel : Below W.heap.size W W' := bel0
  subst he
  exact ⟨_, rfl, _, _, _, [], _, [], hW', trodAll_mk1 (shut_bool Tryz.underlying4 _), (trodAll_cons_mk (Below.trod laidOut_FnExactEndMoved (by kernel_rfl) (of_decide_eq_true (by kernel_rfl)) k0 bel lt0) (trodAll_cons_mk (Below.trod laidOut_FnExactEndMoved (by kernel_rfl) (of_decide_eq_true (by kernel_rfl)) k1 bel lt1) (trodAll_cons_mk (shut_string Tryz.underlying9 y2) (trodAll_cons_mk (shut_int Tryz.underlying3 w3) (trodAll_cons_mk (shut_int Tryz.underlying3 w4) trodAll_mk0))))), rfl, bel.frame _, fun h => by cases h⟩
theorem over_FnExactEndMoved : Rows.fnExactEndMovedRow.holds Tryz.pinned (OpenSpec.ofChange Rows.fnExactEndMovedSpec) :=
  OpenClaim.holds_of_wide 6 Tryz.f6 rfl rfl rfl rfl rfl rfl rfl ⟨rfl, rfl, rfl, rfl, rfl⟩ rfl rfl rfl rfl rfl (by kernel_rfl) Tryz.func6 (by kernel_rfl)
    (of_decide_eq_true (by kernel_rfl)) (by unfold Func.isWrapper; first | (rw [if_pos (by decide +kernel)]; kernel_rfl) | (rw [if_neg (by decide +kernel)]; exact ⟨rfl, rfl⟩))
    (fun os started H enc _ => lifted_FnExactEndMoved os started H enc)
theorem proved_FnExactEndMoved : Rows.FnExactEndMovedSaid := over_FnExactEndMoved
#print axioms proved_FnExactEndMoved
end
end Go.Proofs.YtkklokkldgkacaaGreat.X
