/- Texts that the row of FnExactEndSession stands on: functions of the program and of the reference, each as a Lean function with the same answers, and the plain lemmas. Conditions: none beside those that each theorem names. -/
import Derived.Test.YtkklokkldgkacaaGreatCFnExactEndSession6
namespace Go.Proofs.YtkklokkldgkacaaGreat.X
open Go.RowKit Go.Proofs.YtkklokkldgkacaaGreatW.PrintWords Go.Proofs.YtkklokkldgkacaaGreatW.PrintLast Go.Proofs.YtkklokkldgkacaaGreatW.PrintMore
attribute [local go_sem] max2_int min2_int max_two min_two max_three min_three max_four min_four   -- for this text's walks alone
set_option linter.unusedVariables false
set_option linter.unusedSimpArgs false
section
-- NEEDS laws.eqConfig
-- IMPORT Derived.Shelf.RegionOpenPlain
-- IMPORT Derived.Deep.RegionLaw
-- IMPORT Derived.Lib.OwnBridge
open Go.Lib
open Go.Lib (lay lay_get? putRow_setCells)
open Go.Sort (Holds putRow putCells mapBlock onCells) 
theorem clear_cells {P : Program} (w : World) (t e ty : TypeId) (z : Value) (ht : P.underlying t = some (.slice e)) (hv : ∀ w, (zeroValue e).run P w = .ok z w) (h1 : ∀ v ∈ z.cells.toList, v.oneCell' = true) (b o n c : Nat) (hn : 0 < n)
    (hc : ∀ j, j < n * z.cells.size → (w.cell? ⟨b, o + j, none⟩).isSome = true) (hf : ∀ j, j < n * z.cells.size → w.frozen? ⟨b, o + j, none⟩ = false) :
    (Builtin.clear_ #[t] ty #[.slice (some ⟨b, o, none⟩) n c]).run P w = .ok (.tuple #[]) (w.setCells b o (Builtin.zeroCells z.cells n).toList) := by
  have hlen : (Builtin.zeroCells z.cells n).toList.length = n * z.cells.size := by simp [Builtin.zeroCells]
  have hst := run_storeCells_cells (P := P) b o (Builtin.zeroCells z.cells n).toList 0 w (by simpa [hlen] using hc) (by simpa [hlen] using hf) (by
    intro v hv'
    simp only [Builtin.zeroCells, Array.toList_map, List.mem_map, Array.toList_range, List.mem_range] at hv'
    obtain ⟨i, hi, rfl⟩ := hv'
    have hp : 0 < z.cells.size := Nat.pos_of_ne_zero (fun e => by rw [e] at hi; omega)
    have hm : i % z.cells.size < z.cells.size := Nat.mod_lt _ hp
    rw [getElem!_pos z.cells _ hm]
    exact h1 _ (by simp))
  simp only [Nat.add_zero] at hst
  obtain ⟨m, rfl⟩ : ∃ m, n = m + 1 := ⟨n - 1, by omega⟩
  simp [Builtin.clear_, run_underlying ht, hv, hst]
/-- The cells of a row of elements. -/
def flatC {α : Type} (enc : α → List Value) (l : List α) : List Value := l.flatMap enc
theorem flatC_length {α : Type} {enc : α → List Value} {s : Nat} (he : ∀ x, (enc x).length = s) : ∀ l : List α, (flatC enc l).length = l.length * s
  | [] => by simp [flatC]
  | x :: l => by
    have := flatC_length he l
    rw [flatC] at this ⊢
    rw [List.flatMap_cons, List.length_append, he, this, List.length_cons, Nat.add_mul, Nat.one_mul, Nat.add_comm]
theorem flatC_append {α : Type} (enc : α → List Value) (l m : List α) : flatC enc (l ++ m) = flatC enc l ++ flatC enc m := List.flatMap_append
theorem flatC_at {α : Type} {enc : α → List Value} {s : Nat} (he : ∀ x, (enc x).length = s) (l : List α) (j c : Nat) (hj : j < l.length) (hc : c < s) : (flatC enc l)[j * s + c]? = (enc l[j])[c]? := by
  have hsp : l = l.take j ++ l[j] :: l.drop (j + 1) := by rw [← List.drop_eq_getElem_cons hj, List.take_append_drop]
  have hl : (flatC enc (l.take j)).length = j * s := by rw [flatC_length he, List.length_take, Nat.min_eq_left (by omega)]
  have h2 : flatC enc l = flatC enc (l.take j) ++ (enc l[j] ++ flatC enc (l.drop (j + 1))) := by
    conv => lhs; rw [hsp, flatC_append]
    rfl
  rw [h2, List.getElem?_append_right (by omega), hl, show j * s + c - j * s = c by omega, List.getElem?_append_left (by rw [he]; exact hc)]
def encS (x : S76) : List Value := [.int .i64 x.f0, .int .i64 x.f1, .string x.f2, .int .i64 x.f3, .int .i64 x.f4, .int .i64 x.f5, .int .i64 x.f6, .int .i64 x.f7, .int .i64 x.f8, .int .i64 x.f9]
theorem encS_len (x : S76) : (encS x).length = 10 := rfl
instance : Inhabited S76 := ⟨z76⟩
structure RowS (W : World) (blk cap : Nat) (D : List S76) : Prop where
  ex : ∃ cur : Array Value, W.heap[blk]? = some (.cells cur 76 (0, 0)) ∧ cur.size = cap * 10 ∧ cur.toList.take (D.length * 10) = flatC encS D
theorem RowS.cell {W : World} {blk cap : Nat} {D : List S76} (h : RowS W blk cap D) (j c : Nat) (hj : j < D.length) (hc : c < 10) : W.cell? ⟨blk, j * 10 + c, none⟩ = (encS D[j])[c]? := by
  obtain ⟨cur, h1, h2, h3⟩ := h.ex
  rw [blk_cell h1, ← flatC_at encS_len D j c hj hc, ← h3, List.getElem?_take, if_pos (by omega), Array.getElem?_toList]
theorem RowS.below {W W' : World} {blk cap : Nat} {D : List S76} (h : RowS W blk cap D) (hb : Below W.heap.size W W') : RowS W' blk cap D := by
  obtain ⟨cur, h1, h2, h3⟩ := h.ex
  exact ⟨cur, blk_below h1 hb, h2, h3⟩
theorem RowS.frozen {W : World} {blk cap : Nat} {D : List S76} (h : RowS W blk cap D) (i : Nat) : W.frozen? ⟨blk, i, none⟩ = false := by
  obtain ⟨cur, h1, h2, h3⟩ := h.ex
  exact blk_frozen h1 i
theorem RowS.lt {W : World} {blk cap : Nat} {D : List S76} (h : RowS W blk cap D) : blk < W.heap.size := by
  obtain ⟨cur, h1, h2, h3⟩ := h.ex
  exact blk_lt h1
theorem flatS_take (D : List S76) (i : Nat) (h : i ≤ D.length) : (flatC encS D).take (i * 10) = flatC encS (D.take i) := by
  conv => lhs; rw [← List.take_append_drop i D, flatC_append]
  exact List.take_left' (by rw [flatC_length encS_len, List.length_take, Nat.min_eq_left h])
theorem RowS.cut {W : World} {blk cap : Nat} {D : List S76} (h : RowS W blk cap D) (hcap : D.length ≤ cap) (i : Nat) (hi : i ≤ D.length) (xs : List Value) (hx : xs.length = (D.length - i) * 10) : RowS (W.setCells blk (i * 10) xs) blk cap (D.take i) := by
  obtain ⟨cur, h1, h2, h3⟩ := h.ex
  obtain ⟨cur', e1, e2, e3⟩ := setCells_row xs (i * 10) W cur h1 (by omega)
  refine ⟨cur', e1, by omega, ?_⟩
  rw [List.length_take, Nat.min_eq_left hi, e3, List.append_assoc, List.take_left' (by rw [List.length_take, Array.length_toList]; omega), ← flatS_take D i hi, ← h3, List.take_take, Nat.min_eq_left (by omega)]
structure KB (w W : World) (g : Nat) : Prop where
  keep : KeepBut w W g none
  bel : Below g w W
  le : g ≤ W.heap.size
theorem KB.refl {w : World} {g : Nat} (h : g < w.heap.size) : KB w w g := ⟨KeepBut.refl _ _ _, Below.refl _ _, Nat.le_of_lt h⟩
theorem KB.step {w W W2 : World} {g : Nat} (h : KB w W g) (k : Below W.heap.size W W2) : KB w W2 g := ⟨h.keep.trans (KeepBut.of_below k g none) (.inl rfl), below_then h.bel h.le k, Nat.le_trans h.le k.size⟩
theorem KB.set_ {w W : World} {g : Nat} (h : KB w W g) (j : Nat) (u : Value) : KB w (W.setCell ⟨g, j, none⟩ u) g := ⟨h.keep.set_ j u, h.bel.setCell (Nat.le_refl g) _, by simpa [World.setCell] using h.le⟩
theorem KB.sets {g : Nat} : ∀ (vs : List Value) (o : Nat) {w W : World}, KB w W g → KB w (W.setCells g o vs) g
  | [], _, _, _, h => h
  | u :: vs, o, _, _, h => KB.sets vs (o + 1) (h.set_ o u)
theorem encS_reps {R : S76 → List Value → Prop} (hR : ∀ x cs, R x cs → cs = encS x) {l : List S76} {cs : List Value} (h : Reps R 10 l cs) : cs = flatC encS l := by
  apply List.ext_getElem?
  intro i
  have h1 := h.1
  have hf := flatC_length encS_len l
  rcases Nat.lt_or_ge i (l.length * 10) with hi | hi
  · have hq : i / 10 < l.length := by omega
    have hc := h.2 (i / 10) l[i / 10] (List.getElem?_eq_getElem hq)
    have he := congrArg (fun z => z[i % 10]?) (hR _ _ hc)
    simp only [List.getElem?_take, List.getElem?_drop] at he
    rw [if_pos (by omega), ← flatC_at encS_len l (i / 10) (i % 10) hq (by omega), show i / 10 * 10 + i % 10 = i by omega] at he
    exact he
  · rw [List.getElem?_eq_none (by omega), List.getElem?_eq_none (by omega)]
theorem reps_encS {R : S76 → List Value → Prop} (hR : ∀ x, R x (encS x)) (l : List S76) : Reps R 10 l (flatC encS l) := by
  refine ⟨flatC_length encS_len l, fun j p hj => ?_⟩
  obtain ⟨hlt, rfl⟩ := List.getElem?_eq_some_iff.1 hj
  have e : ((flatC encS l).drop (j * 10)).take 10 = encS l[j] := by
    apply List.ext_getElem?
    intro c
    rw [List.getElem?_take]
    by_cases hc : c < 10
    · rw [if_pos hc, List.getElem?_drop, flatC_at encS_len l j c hlt hc]
    · rw [if_neg hc, List.getElem?_eq_none (by rw [encS_len]; omega)]
  rw [e]
  exact hR _
theorem RowS.of_R {w : World} {base : Nat} {ok : Nat → Prop} {v : Value} {l : List S76} (h : Kd.R k76 76 w base ok v l) (hn : 0 < l.length) :
    ∃ g cap, v = .slice (some ⟨g, 0, none⟩) l.length cap ∧ base ≤ g ∧ RowS w g cap l ∧ l.length ≤ cap ∧ cap ≤ 9223372036854775807 ∧ ok g := by
  obtain ⟨h0, inner, ho, hr⟩ := h
  have hi := encS_reps (fun x cs hx => k76_openM hx) hr
  rcases ho.2 with ⟨_, e0⟩ | ⟨g, cap, cur, rfl, hb, hg, hnc, hm, hs, ht⟩
  · omega
  · refine ⟨g, cap, rfl, hb, ⟨cur, hg, hs, ?_⟩, hnc, ?_, h0 g rfl⟩
    · rw [← hi]; exact ht
    · simpa [maxLen] using hm
theorem RowS.toR {w : World} {base g cap : Nat} {ok : Nat → Prop} {l : List S76} (h : RowS w g cap l) (hb : base ≤ g) (hc : l.length ≤ cap) (hm : cap ≤ 9223372036854775807) (hok : ok g) :
    Kd.R k76 76 w base ok (.slice (some ⟨g, 0, none⟩) l.length cap) l := by
  obtain ⟨cur, h1, h2, h3⟩ := h.ex
  refine ⟨fun k hk => ?_, flatC encS l, ⟨flatC_length encS_len l, .inr ⟨g, cap, cur, rfl, hb, h1, hc, by simpa [maxLen] using hm, h2, h3⟩⟩, reps_encS (fun x => k76_mkM _ _ _ x) l⟩
  obtain rfl : g = k := by simpa [Value.ownBlock] using hk
  exact hok
theorem flatS_drop (D : List S76) (i : Nat) (h : i ≤ D.length) : (flatC encS D).drop (i * 10) = flatC encS (D.drop i) := by
  conv => lhs; rw [← List.take_append_drop i D, flatC_append]
  exact List.drop_left' (by rw [flatC_length encS_len, List.length_take, Nat.min_eq_left h])
theorem RowS.sets {W : World} {blk cap : Nat} {D : List S76} (h : RowS W blk cap D) (hcap : D.length ≤ cap) (i : Nat) (us : List S76) (hi : i + us.length ≤ D.length) : RowS (W.setCells blk (i * 10) (flatC encS us)) blk cap (D.take i ++ us ++ D.drop (i + us.length)) := by
  obtain ⟨cur, h1, h2, h3⟩ := h.ex
  have hu := flatC_length encS_len us
  obtain ⟨cur', e1, e2, e3⟩ := setCells_row (flatC encS us) (i * 10) W cur h1 (by omega)
  refine ⟨cur', e1, by omega, ?_⟩
  have hlen : (D.take i ++ us ++ D.drop (i + us.length)).length = D.length := by simp; omega
  rw [hlen, e3, flatC_append, flatC_append, ← flatS_take D i (by omega), ← flatS_drop D (i + us.length) hi, ← h3, hu]
  apply List.ext_getElem?
  intro j
  have hl1 : (cur.toList.take (i * 10)).length = i * 10 := by rw [List.length_take, Array.length_toList]; omega
  have hl2 : ((cur.toList.take (D.length * 10)).take (i * 10)).length = i * 10 := by rw [List.length_take, List.length_take, Array.length_toList (xs := cur)]; omega
  rw [List.getElem?_take]
  rcases Nat.lt_or_ge j (i * 10) with hj | hj
  · rw [if_pos (by omega), List.getElem?_append_left (by rw [List.length_append, hl1]; omega), List.getElem?_append_left (by rw [hl1]; omega), List.getElem?_append_left (by rw [List.length_append, hl2]; omega), List.getElem?_append_left (by rw [hl2]; omega), List.getElem?_take, List.getElem?_take, List.getElem?_take, if_pos hj, if_pos hj, if_pos (by omega)]
  rcases Nat.lt_or_ge j ((i + us.length) * 10) with hj2 | hj2
  · rw [if_pos (by omega), List.getElem?_append_left (by rw [List.length_append, hl1, hu]; omega), List.getElem?_append_right (by rw [hl1]; omega), List.getElem?_append_left (by rw [List.length_append, hl2, hu]; omega), List.getElem?_append_right (by rw [hl2]; omega), hl1, hl2]
  · rw [List.getElem?_append_right (by rw [List.length_append, hl1, hu]; omega), List.getElem?_append_right (by rw [List.length_append, hl2, hu]; omega), List.length_append, List.length_append, hl1, hl2, hu, List.getElem?_drop, List.getElem?_drop, List.getElem?_take]
    rw [show i * 10 + us.length * 10 + (j - (i * 10 + us.length * 10)) = j by omega, show (i + us.length) * 10 + (j - (i * 10 + us.length * 10)) = j by omega]
set_option maxHeartbeats 4000000 in
set_option maxRecDepth 1000000 in
theorem delAtS (blk cap : Nat) (l : List S76) (i j : Nat) (hj1 : j = i + 1) (w : World) (hi : i < l.length) (hr : RowS w blk cap l) (hln : l.length ≤ cap) (hcm : cap ≤ 9223372036854775807) :
    Calls Tryz.prog 126 #[.slice (some ⟨blk, 0, none⟩) l.length cap, .int .i64 i, .int .i64 (j : Nat)] w fun e w' => e = .returned (.slice (some ⟨blk, 0, none⟩) (l.length - 1) cap) ∧ KB w w' blk ∧ RowS w' blk cap (l.eraseIdx i) := by
  obtain ⟨i0, hi0, hz9⟩ : ∃ i0, Tryz.prog.info? 76 = some i0 ∧ i0.size = 10 := by
    obtain ⟨i0, h0, h1⟩ := Option.map_eq_some_iff.1 info76
    exact ⟨i0, h0, by injection h1 with _ h2; injection h2⟩
  obtain ⟨news, hnews⟩ : ∃ news, news = flatC encS (l.drop j) := ⟨_, rfl⟩
  have hlen : news.length = (l.length - j) * 10 := by rw [hnews, flatC_length encS_len, List.length_drop]
  obtain ⟨A, hA, hsrc⟩ : ∃ A : Addr, (if cap = j then (some (⟨blk, 0, none⟩ : Addr)) else some ⟨blk, j * 10, none⟩) = some A ∧ Hid (∀ t u, news[t]? = some u → w.drew.cell? (A.add t) = some u) := by
    by_cases h : cap = j
    · refine ⟨⟨blk, 0, none⟩, by simp [h], fun t u hu => ?_⟩
      have h0 : news.length = 0 := by rw [hlen]; omega
      rw [List.length_eq_zero_iff.1 h0] at hu
      simp at hu
    · refine ⟨⟨blk, j * 10, none⟩, by simp [h], fun t u hu => ?_⟩
      have ht : t < (l.length - j) * 10 := by
        have := (List.getElem?_eq_some_iff.1 hu).1
        rwa [hlen] at this
      have hq : t / 10 < l.length - j := by omega
      have e1 := flatC_at encS_len (l.drop j) (t / 10) (t % 10) (by rw [List.length_drop]; exact hq) (by omega)
      rw [show t / 10 * 10 + t % 10 = t by omega, ← hnews, hu] at e1
      have e2 := hr.cell (j + t / 10) (t % 10) (by omega) (by omega)
      rw [Addr.add_lit, show j * 10 + t = (j + t / 10) * 10 + t % 10 by omega]
      show w.cell? _ = _
      rw [e2, e1]
      congr 2
      rw [List.getElem_drop]
  have s2 : Hid (∀ u ∈ news, u.oneCell' = true) := by
    intro u hu
    rw [hnews] at hu
    obtain ⟨x, _, hx⟩ := List.mem_flatMap.1 hu
    simp [encS] at hx
    rcases hx with rfl | rfl | rfl | rfl | rfl | rfl | rfl | rfl | rfl | rfl <;> rfl
  have s3 : Hid (∀ t, t < news.length → (w.drew.cell? ⟨blk, 0 + i * 10 + t, none⟩).isSome = true ∧ w.drew.frozen? ⟨blk, 0 + i * 10 + t, none⟩ = false) := by
    intro t ht
    rw [hlen] at ht
    have e2 := hr.cell (i + t / 10) (t % 10) (by omega) (by omega)
    refine ⟨?_, hr.frozen _⟩
    show (w.cell? _).isSome = true
    rw [show 0 + i * 10 + t = (i + t / 10) * 10 + t % 10 by omega, e2, List.getElem?_eq_getElem (by rw [encS_len]; omega)]
    rfl
  obtain ⟨W1, hW1⟩ : ∃ W1, W1 = w.drew.setCells blk (0 + i * 10) news := ⟨_, rfl⟩
  have hrd : RowS w.drew blk cap l := ⟨hr.ex⟩
  have hR1 := hrd.sets hln i (l.drop j) (by rw [List.length_drop]; omega)
  rw [← hnews, ← Nat.zero_add (i * 10), ← hW1] at hR1
  obtain ⟨L1, hL1⟩ : ∃ L1, L1 = l.take i ++ l.drop j ++ l.drop (i + (l.drop j).length) := ⟨_, rfl⟩
  rw [← hL1] at hR1
  have hl1 : L1.length = l.length := by rw [hL1]; simp; omega
  have hK1 : KB w W1 blk := by
    rw [hW1]
    exact KB.sets news (0 + i * 10) ((KB.refl hr.lt).step (below_drew (Below.refl _ _)))
  have hcl : ∀ ty, (Builtin.clear_ #[44] ty #[.slice (some ⟨blk, (l.length - 1) * 10, none⟩) (l.length - (l.length - 1)) (cap - (l.length - 1))]).run Tryz.prog W1 = .ok (.tuple #[]) (W1.setCells blk ((l.length - 1) * 10) (Builtin.zeroCells (Value.agg #[.int .i64 0, .int .i64 0, .string ⟨#[]⟩, .int .i64 0, .int .i64 0, .int .i64 0, .int .i64 0, .int .i64 0, .int .i64 0, .int .i64 0]).cells (l.length - (l.length - 1))).toList) := fun ty => by
    obtain ⟨cur, h1, h2, h3⟩ := hR1.ex
    refine clear_cells W1 44 76 ty _ Tryz.underlying44 Tryz.zeroValue76 ?_ blk ((l.length - 1) * 10) _ _ (by omega) (fun t ht => ?_) (fun t ht => hR1.frozen _)
    · intro v hv
      simp [Value.cells] at hv
      rcases hv with rfl | rfl | rfl <;> rfl
    · have ht' : t < (l.length - (l.length - 1)) * 10 := ht
      rw [blk_cell h1, Array.getElem?_eq_getElem (by omega)]
      rfl
  have hK' := KB.sets (Builtin.zeroCells (Value.agg #[.int .i64 0, .int .i64 0, .string ⟨#[]⟩, .int .i64 0, .int .i64 0, .int .i64 0, .int .i64 0, .int .i64 0, .int .i64 0, .int .i64 0]).cells (l.length - (l.length - 1))).toList ((l.length - 1) * 10) hK1
  have hR' := hR1.cut (by omega) (l.length - 1) (by omega) (Builtin.zeroCells (Value.agg #[.int .i64 0, .int .i64 0, .string ⟨#[]⟩, .int .i64 0, .int .i64 0, .int .i64 0, .int .i64 0, .int .i64 0, .int .i64 0, .int .i64 0]).cells (l.length - (l.length - 1))).toList (by rw [hl1]; simp [Builtin.zeroCells, Value.cells])
  have hE : L1.take (l.length - 1) = l.eraseIdx i := by
    rw [hL1, List.take_left' (by simp; omega), List.eraseIdx_eq_take_drop_succ, hj1]
  rw [hE] at hR'
  have HF := Aside0.mk (And.intro hK' hR')
  have hW : Hid (W1 = w.drew.setCells blk (0 + i * 10) news) := hW1
  have s1 : Hid (news.length = (l.length - j) * 10) := hlen
  have hic : i ≤ cap := by omega
  have hjc : j ≤ cap := by omega
  have hij : ((i : Int) == ((j : Nat) : Int)) = false := beq_eq_false_iff_ne.2 (by omega)
  have hrm : i + (l.length - j) ≤ cap := by omega
  have hpl : i + (l.length - j) = l.length - 1 := by omega
  have hl0 : 1 ≤ l.length := by omega
  have mixed : Tryz.prog.follows .mixedOrders = true := by kernel_rfl
  have hjl : j ≤ l.length := by omega
  have HJ := Aside0.mk hj1
  clear hj1
  clear hE hR' hK' hK1 hR1 hl1 hL1 hrd hW1 hlen hnews hr
  go_enter Tryz.func126, Tryz.ntmps126
  go_wp2_with fail
  go_region_law_o (refine step_append_room rfl (.tmp 22) (.tmp 25) 44 rfl 76 i0 10 Tryz.underlying44 hi0 hz9 blk 0 i cap (by simp [Act.eval, Act.put]) A (l.length - j) (cap - j) news (by simp [Act.eval, Act.put]) s1.out hsrc.out s2.out (by omega) s3.out ?_; rw [← hW.out])
  go_wp2
  go_ret
  exact ⟨rfl, HF.out⟩
end
section
-- NEEDS impl.ConfigOK laws.eqConfig spec.ConfigOK
attribute [local go_sem] str_geq str_lss
set_option maxHeartbeats 8000000 in
set_option maxRecDepth 100000 in
theorem iConfig1 (ip b gate : Int) (gm wm : ByteArray) (res : Int) (A6 : Option Addr) (c6 : Nat) (g : List S140) (A7 : Option Addr) (c7 : Nat) (l : List S145) (w : World) (hg : Kd.C k140 w A6 g.length g) (hl : Kd.C k145 w A7 l.length l) (zg : g.length ≤ 1152921504606846976) (zl : l.length ≤ 1152921504606846976) (zr : ∀ x ∈ l, x.f1.length ≤ 1152921504606846976 ∧ x.f0.size ≤ 1152921504606846976) (zm : gm.size ≤ 1152921504606846976) (zw : wm.size ≤ 1152921504606846976) :
    Calls Tryz.prog 46 #[.agg #[.int .i64 ip, .int .i64 b, .int .i64 gate, .string gm, .string wm, .int .i64 res, .slice A6 g.length c6, .slice A7 l.length c7]] w (IsB (ConfigP ip b gate gm wm res g l) w) := by
  have hu := Tryz.underlying41
  have hu2 := Tryz.underlying145
  have H0 := Aside0.mk (And.intro hg hl)
  have HZ := Aside0.mk zr
  clear hg hl zr
  have eg := enters_ Tryz.func105 (by kernel_rfl) rfl
  have HB := Aside0.mk (Below.refl w.heap.size w)
  have HP := Aside0.mk True.intro
  rcases dec_em (8 < (g.length : Int)) with ⟨k1, b1⟩ | ⟨k1, b1⟩
  all_goals go_enter Tryz.func46, Tryz.ntmps46
  all_goals go_wp2_with (first
   | (go_at_call 100; refine (iNet1 _ _ _).mono ?_; rintro e w2 (⟨rfl, hr, hb⟩ | ⟨rfl, hr, hb⟩); (obtain ⟨hk0, hk1⟩ := NetP.bits hr); all_goals (have n_ := Aside0.mk (And.intro hr HP.out); clear HP hr; have HP := n_; clear n_; have n_ := Aside0.mk (below_step (w := w) (by repeat' (with_reducible first | exact HB.out | apply below_alloc | apply below_drew1 | refine below_set ?_ (by omega))) hb); clear HB; have HB := n_; clear n_; have n_ := Aside0.mk (blk_below (g := w.heap.size) (o := .cells #[.int .i64 ip, .int .i64 b, .int .i64 gate, .string gm, .string wm, .int .i64 res, .slice A6 g.length c6, .slice A7 l.length c7] 41 (0, 0)) (by repeat' (with_reducible first | exact HX.out | exact blk_new _ _ | refine blk_alloc ?_ _ | refine blk_drew ?_ | refine blk_far ?_ (by dsimp only; omega) _)) hb); (try clear HX); have HX := n_; clear n_; obtain ⟨hc, hf⟩ := bcell hb; have hz : w.heap.size < w2.heap.size := blk_lt HX.out; clear hb))
   | (go_at_call 101; refine (iIp1 _ _).mono ?_; rintro e w2 (⟨rfl, hr, hb⟩ | ⟨rfl, hr, hb⟩) <;> (have n_ := Aside0.mk (And.intro hr HP.out); clear HP hr; have HP := n_; clear n_; have n_ := Aside0.mk (below_step (w := w) (by repeat' (with_reducible first | exact HB.out | apply below_alloc | apply below_drew1 | refine below_set ?_ (by omega))) hb); clear HB; have HB := n_; clear n_; have n_ := Aside0.mk (blk_below (g := w.heap.size) (o := .cells #[.int .i64 ip, .int .i64 b, .int .i64 gate, .string gm, .string wm, .int .i64 res, .slice A6 g.length c6, .slice A7 l.length c7] 41 (0, 0)) (by repeat' (with_reducible first | exact HX.out | exact blk_new _ _ | refine blk_alloc ?_ _ | refine blk_drew ?_ | refine blk_far ?_ (by dsimp only; omega) _)) hb); (try clear HX); have HX := n_; clear n_; obtain ⟨hc, hf⟩ := bcell hb; have hz : w.heap.size < w2.heap.size := blk_lt HX.out; clear hb))
   | (go_at_call 102; refine (iHas1 _ _ _ _ hk0 hk1).mono ?_; rintro e w2 (⟨rfl, hr, hb⟩ | ⟨rfl, hr, hb⟩) <;> (have n_ := Aside0.mk (And.intro hr HP.out); clear HP hr; have HP := n_; clear n_; have n_ := Aside0.mk (below_step (w := w) (by repeat' (with_reducible first | exact HB.out | apply below_alloc | apply below_drew1 | refine below_set ?_ (by omega))) hb); clear HB; have HB := n_; clear n_; have n_ := Aside0.mk (blk_below (g := w.heap.size) (o := .cells #[.int .i64 ip, .int .i64 b, .int .i64 gate, .string gm, .string wm, .int .i64 res, .slice A6 g.length c6, .slice A7 l.length c7] 41 (0, 0)) (by repeat' (with_reducible first | exact HX.out | exact blk_new _ _ | refine blk_alloc ?_ _ | refine blk_drew ?_ | refine blk_far ?_ (by dsimp only; omega) _)) hb); (try clear HX); have HX := n_; clear n_; obtain ⟨hc, hf⟩ := bcell hb; have hz : w.heap.size < w2.heap.size := blk_lt HX.out; clear hb))
   | (go_at_call 103; refine (iMac1 gm _ zm).mono ?_; rintro e w2 (⟨rfl, hr, hb⟩ | ⟨rfl, hr, hb⟩) <;> (have n_ := Aside0.mk (And.intro hr HP.out); clear HP hr; have HP := n_; clear n_; have n_ := Aside0.mk (below_step (w := w) (by repeat' (with_reducible first | exact HB.out | apply below_alloc | apply below_drew1 | refine below_set ?_ (by omega))) hb); clear HB; have HB := n_; clear n_; have n_ := Aside0.mk (blk_below (g := w.heap.size) (o := .cells #[.int .i64 ip, .int .i64 b, .int .i64 gate, .string gm, .string wm, .int .i64 res, .slice A6 g.length c6, .slice A7 l.length c7] 41 (0, 0)) (by repeat' (with_reducible first | exact HX.out | exact blk_new _ _ | refine blk_alloc ?_ _ | refine blk_drew ?_ | refine blk_far ?_ (by dsimp only; omega) _)) hb); (try clear HX); have HX := n_; clear n_; obtain ⟨hc, hf⟩ := bcell hb; have hz : w.heap.size < w2.heap.size := blk_lt HX.out; clear hb))
   | (go_at_call 103; refine (iMac1 wm _ zw).mono ?_; rintro e w2 (⟨rfl, hr, hb⟩ | ⟨rfl, hr, hb⟩) <;> (have n_ := Aside0.mk (And.intro hr HP.out); clear HP hr; have HP := n_; clear n_; have n_ := Aside0.mk (below_step (w := w) (by repeat' (with_reducible first | exact HB.out | apply below_alloc | apply below_drew1 | refine below_set ?_ (by omega))) hb); clear HB; have HB := n_; clear n_; have n_ := Aside0.mk (blk_below (g := w.heap.size) (o := .cells #[.int .i64 ip, .int .i64 b, .int .i64 gate, .string gm, .string wm, .int .i64 res, .slice A6 g.length c6, .slice A7 l.length c7] 41 (0, 0)) (by repeat' (with_reducible first | exact HX.out | exact blk_new _ _ | refine blk_alloc ?_ _ | refine blk_drew ?_ | refine blk_far ?_ (by dsimp only; omega) _)) hb); (try clear HX); have HX := n_; clear n_; obtain ⟨hc, hf⟩ := bcell hb; have hz : w.heap.size < w2.heap.size := blk_lt HX.out; clear hb))
   | (go_at_call 47; refine (iIn1 _ _ _ _).mono ?_; rintro e w2 (⟨rfl, hr, hb⟩ | ⟨rfl, hr, hb⟩) <;> (have n_ := Aside0.mk (And.intro hr HP.out); clear HP hr; have HP := n_; clear n_; have n_ := Aside0.mk (below_step (w := w) (by repeat' (with_reducible first | exact HB.out | apply below_alloc | apply below_drew1 | refine below_set ?_ (by omega))) hb); clear HB; have HB := n_; clear n_; have n_ := Aside0.mk (blk_below (g := w.heap.size) (o := .cells #[.int .i64 ip, .int .i64 b, .int .i64 gate, .string gm, .string wm, .int .i64 res, .slice A6 g.length c6, .slice A7 l.length c7] 41 (0, 0)) (by repeat' (with_reducible first | exact HX.out | exact blk_new _ _ | refine blk_alloc ?_ _ | refine blk_drew ?_ | refine blk_far ?_ (by dsimp only; omega) _)) hb); (try clear HX); have HX := n_; clear n_; obtain ⟨hc, hf⟩ := bcell hb; have hz : w.heap.size < w2.heap.size := blk_lt HX.out; clear hb))
   | (go_at_call 104; refine (containsPlace 105 #[] eg (fun r => ¬ PlaceP r) A6 c6 g _ zg (fun W x _ _ => iPlaceN x W) (Kd.C_below H0.out.1 (by repeat' (with_reducible first | exact HB.out | apply below_alloc | apply below_drew1 | refine below_set ?_ (by omega))))).mono ?_; rintro e w2 (⟨rfl, hr, hb⟩ | ⟨rfl, hr, hb⟩) <;> (have n_ := Aside0.mk (And.intro hr HP.out); clear HP hr; have HP := n_; clear n_; have n_ := Aside0.mk (below_step (w := w) (by repeat' (with_reducible first | exact HB.out | apply below_alloc | apply below_drew1 | refine below_set ?_ (by omega))) hb); clear HB; have HB := n_; clear n_; have n_ := Aside0.mk (blk_below (g := w.heap.size) (o := .cells #[.int .i64 ip, .int .i64 b, .int .i64 gate, .string gm, .string wm, .int .i64 res, .slice A6 g.length c6, .slice A7 l.length c7] 41 (0, 0)) (by repeat' (with_reducible first | exact HX.out | exact blk_new _ _ | refine blk_alloc ?_ _ | refine blk_drew ?_ | refine blk_far ?_ (by dsimp only; omega) _)) hb); (try clear HX); have HX := n_; clear n_; obtain ⟨hc, hf⟩ := bcell hb; have hz : w.heap.size < w2.heap.size := blk_lt HX.out; clear hb)))
  all_goals try (go_ret; exact .inr ⟨rfl, by rintro ⟨p1, p2, p3, p4, p5, p6, p7, p8, p9, p10, p11, p12⟩; first | exact HP.out.1 p1 | exact HP.out.1 p2 | exact HP.out.1 p3 | exact HP.out.1 p4 | exact HP.out.1 p5 | exact HP.out.1 p6 | exact p7 HP.out.1 | exact HP.out.1 p9 | omega | (obtain ⟨r, hr, hn⟩ := HP.out.1; exact hn (p10 r hr)), HB.out⟩; done)
  (try clear hc hf hz)
  have HQ := HP
  clear HP
  obtain ⟨ad0, hA7⟩ : ∃ x : Option Addr, x = A7 := ⟨_, rfl⟩
  go_loopg [67] l.length (fun gg v w' => ∃ i : Int, v = .int .i64 i ∧ 0 ≤ i ∧ i ≤ l.length ∧ l.length - i ≤ gg ∧ Aside0 (Below w.heap.size w w') ∧ Aside0 (w'.heap[w.heap.size]? = some (.cells #[.int .i64 ip, .int .i64 b, .int .i64 gate, .string gm, .string wm, .int .i64 res, .slice A6 g.length c6, .slice A7 l.length c7] 41 (0, 0))) ∧ Aside0 (∀ j : Int, 0 ≤ j → j < i → RoleP (l.getD j.toNat z145)) ∧ Aside0 (∀ j : Int, 0 ≤ j → j < i → RisesP l j))
  case atStart => exact ⟨0, rfl, Int.le_refl _, by omega, by omega, HB, HX, ⟨fun j h0 h1 => by omega⟩, ⟨fun j h0 h1 => by omega⟩⟩
  case round =>
    clear HB HX hA7
    obtain ⟨i, rfl, hi0, hi, hgg, HB, HX, HA, HS⟩ := hrel
    have hx := blk_cell HX.out
    have hzr := blk_lt HX.out
    by_cases hlt : i < l.length
    · obtain ⟨ad, aA, aC, eA, r0, r1, r2, r3, r4, al, ak⟩ := at_T145 (Kd.C_below H0.out.2 HB.out) i hi0 hlt
      have HK := Aside0.mk ak
      have HM := Aside0.mk (HZ.out _ (rdmem (z := z145) hi0 hlt))
      clear al ak
      have hb7 : wr.cell? ⟨w.heap.size, 7, none⟩ = some (.slice (some ad) l.length c7) := by rw [← eA]; exact hx 7
      rcases Classical.em (RoleP (rd_T145 l i)) with k1 | k1
      rotate_left
      · have K1 := Aside0.mk k1
        clear k1
        subst eA
        go_wp2
        generalize hW : wr.alloc (.cells #[.string (rd_T145 l i).f0, .slice aA (rd_T145 l i).f1.length aC, .int .i64 (rd_T145 l i).f2, .int .i64 (rd_T145 l i).f3, .int .i64 (rd_T145 l i).f4] 145 (0, 0)) = W0 at *
        have hB0 : Below wr.heap.size wr W0 := by rw [← hW]; exact below_alloc (Below.refl _ _) _
        have hr : W0.heap[wr.heap.size]? = some (.cells #[.string (rd_T145 l i).f0, .slice aA (rd_T145 l i).f1.length aC, .int .i64 (rd_T145 l i).f2, .int .i64 (rd_T145 l i).f3, .int .i64 (rd_T145 l i).f4] 145 (0, 0)) := by rw [← hW]; exact blk_new _ _
        replace hb7 := pw_cell_below hB0 hb7
        refine qS (fun w' => w'.cell? ⟨w.heap.size, 7, none⟩ = some (.slice (some ad) l.length c7) ∧ w'.cell? ⟨wr.heap.size, 0, none⟩ = some (.string (rd_T145 l i).f0) ∧ w'.cell? ⟨wr.heap.size, 1, none⟩ = some (.slice aA (rd_T145 l i).f1.length aC) ∧ w'.cell? ⟨wr.heap.size, 2, none⟩ = some (.int .i64 (rd_T145 l i).f2) ∧ w'.cell? ⟨wr.heap.size, 3, none⟩ = some (.int .i64 (rd_T145 l i).f3) ∧ w'.cell? ⟨wr.heap.size, 4, none⟩ = some (.int .i64 (rd_T145 l i).f4)) 19 ⟨hb7, blk_cell hr 0, blk_cell hr 1, blk_cell hr 2, blk_cell hr 3, blk_cell hr 4⟩ (fun hs => ?_)
        refine qT 0 72 hs ?_
        refine q1 1 73 (fun K hK => ?_)
        refine qC Tryz.func107 _ ?_
        refine (iRole1 _ _ _ _ _ _ _ _ (Kd.C_below HK.out (below_drew1 hB0)) HM.out.1 HM.out.2).mono ?_
        intro e w2 h2
        obtain ⟨rfl, hb⟩ := h2.no K1.out
        have hr2 := blk_below (blk_drew hr) hb
        refine ⟨_, rfl, hK.out _ _ ⟨pw_cell_below hb hb7, blk_cell hr2 0, blk_cell hr2 1, blk_cell hr2 2, blk_cell hr2 3, blk_cell hr2 4⟩ (fun hs => ?_)⟩
        clear hK K
        refine qN ?_
        refine qP 2 74 ?_
        refine qP 3 75 ?_
        refine qU 4 76 ?_
        refine qU 5 77 ?_
        refine qU 6 78 ?_
        refine qU 7 79 ?_
        refine qU 8 80 ?_
        refine qU 9 81 ?_
        refine qU 10 82 ?_
        refine qU 11 83 ?_
        refine qU 12 84 ?_
        refine qU 13 85 ?_
        refine qU 14 86 ?_
        refine qU 15 87 ?_
        refine qU 16 88 ?_
        refine qU 17 89 ?_
        refine qP 18 90 ?_
        refine qD ?_
        have HX2 := Aside0.mk (blk_below (blk_drew (blk_below HX.out hB0)) hb)
        have HB2 := Aside0.mk (below_step (below_drew1 (below_step HB.out hB0)) hb)
        clear hb hx hs hb7 hr hr2 hB0
        go_wp2
        go_ret
        exact .inr ⟨rfl, fun h => K1.out (h.2.2.2.2.2.2.2.2.2.2.1 _ (rdmem hi0 hlt)), HB2.out⟩
      · have K1 := Aside0.mk k1
        clear k1
        rcases dec_em (0 < i) with ⟨k2, b2⟩ | ⟨k2, b2⟩
        rotate_left
        · subst eA
          go_wp2
          generalize hW : wr.alloc (.cells #[.string (rd_T145 l i).f0, .slice aA (rd_T145 l i).f1.length aC, .int .i64 (rd_T145 l i).f2, .int .i64 (rd_T145 l i).f3, .int .i64 (rd_T145 l i).f4] 145 (0, 0)) = W0 at *
          have hB0 : Below wr.heap.size wr W0 := by rw [← hW]; exact below_alloc (Below.refl _ _) _
          have hr : W0.heap[wr.heap.size]? = some (.cells #[.string (rd_T145 l i).f0, .slice aA (rd_T145 l i).f1.length aC, .int .i64 (rd_T145 l i).f2, .int .i64 (rd_T145 l i).f3, .int .i64 (rd_T145 l i).f4] 145 (0, 0)) := by rw [← hW]; exact blk_new _ _
          replace hb7 := pw_cell_below hB0 hb7
          refine qS (fun w' => w'.cell? ⟨w.heap.size, 7, none⟩ = some (.slice (some ad) l.length c7) ∧ w'.cell? ⟨wr.heap.size, 0, none⟩ = some (.string (rd_T145 l i).f0) ∧ w'.cell? ⟨wr.heap.size, 1, none⟩ = some (.slice aA (rd_T145 l i).f1.length aC) ∧ w'.cell? ⟨wr.heap.size, 2, none⟩ = some (.int .i64 (rd_T145 l i).f2) ∧ w'.cell? ⟨wr.heap.size, 3, none⟩ = some (.int .i64 (rd_T145 l i).f3) ∧ w'.cell? ⟨wr.heap.size, 4, none⟩ = some (.int .i64 (rd_T145 l i).f4)) 19 ⟨hb7, blk_cell hr 0, blk_cell hr 1, blk_cell hr 2, blk_cell hr 3, blk_cell hr 4⟩ (fun hs => ?_)
          refine qT 0 72 hs ?_
          refine q1 1 73 (fun K hK => ?_)
          refine qC Tryz.func107 _ ?_
          refine (iRole1 _ _ _ _ _ _ _ _ (Kd.C_below HK.out (below_drew1 hB0)) HM.out.1 HM.out.2).mono ?_
          intro e w2 h2
          obtain ⟨rfl, hb⟩ := h2.yes K1.out
          have hr2 := blk_below (blk_drew hr) hb
          refine ⟨_, rfl, hK.out _ _ ⟨pw_cell_below hb hb7, blk_cell hr2 0, blk_cell hr2 1, blk_cell hr2 2, blk_cell hr2 3, blk_cell hr2 4⟩ (fun hs => ?_)⟩
          clear hK K
          refine qN ?_
          refine qP 2 74 ?_
          refine qP 3 75 ?_
          refine qP 4 76 ?_
          refine qP 5 77 ?_
          refine qP 6 78 ?_
          refine qU 7 79 ?_
          refine qU 8 80 ?_
          refine qU 9 81 ?_
          refine qU 10 82 ?_
          refine qU 11 83 ?_
          refine qU 12 84 ?_
          refine qU 13 85 ?_
          refine qU 14 86 ?_
          refine qU 15 87 ?_
          refine qU 16 88 ?_
          refine qP 17 89 ?_
          refine qP 18 90 ?_
          refine qD ?_
          have HX2 := Aside0.mk (blk_below (blk_drew (blk_below HX.out hB0)) hb)
          have HB2 := Aside0.mk (below_step (below_drew1 (below_step HB.out hB0)) hb)
          clear hb hx hs hb7 hr hr2 hB0
          go_wp2
          go_roundg (l.length - (i + 1)).toNat
          case measure => omega
          case rel => exact ⟨i + 1, rfl, by omega, by omega, by omega, HB2, HX2, ⟨fun j h0 h1 => by
            by_cases hj : j < i
            · exact HA.out j h0 hj
            · obtain rfl : j = i := by omega
              exact K1.out⟩, ⟨fun j h0 h1 => by
            by_cases hj : j < i
            · exact HS.out j h0 hj
            · intro h2; omega⟩⟩
        · obtain ⟨pd, pA, pC, eP, q0, _⟩ := at_T145 (Kd.C_below H0.out.2 HB.out) (i - 1) (by omega) (by omega)
          obtain rfl : ad = pd := Option.some.inj (eA.symm.trans eP)
          have hwr : IntKind.i64.wrap (i - 1) = i - 1 := i64id (by omega) (by omega)
          have h1m : 1 ≤ i := by omega
          have h2m : i - 1 < (l.length : Int) := by omega
          rw [show (i - 1).toNat = i.toNat - 1 by omega] at q0
          subst eA
          clear eP
          rcases bool_em (Op.bytesLess (rd_T145 l (i - 1)).f0.toList (rd_T145 l i).f0.toList) with k3 | k3
          all_goals
            go_wp2
            generalize hW : wr.alloc (.cells #[.string (rd_T145 l i).f0, .slice aA (rd_T145 l i).f1.length aC, .int .i64 (rd_T145 l i).f2, .int .i64 (rd_T145 l i).f3, .int .i64 (rd_T145 l i).f4] 145 (0, 0)) = W0 at *
            have hB0 : Below wr.heap.size wr W0 := by rw [← hW]; exact below_alloc (Below.refl _ _) _
            have hr : W0.heap[wr.heap.size]? = some (.cells #[.string (rd_T145 l i).f0, .slice aA (rd_T145 l i).f1.length aC, .int .i64 (rd_T145 l i).f2, .int .i64 (rd_T145 l i).f3, .int .i64 (rd_T145 l i).f4] 145 (0, 0)) := by rw [← hW]; exact blk_new _ _
            replace hb7 := pw_cell_below hB0 hb7
            replace q0 := pw_cell_below hB0 q0
            refine qS (fun w' => w'.cell? ⟨w.heap.size, 7, none⟩ = some (.slice (some ad) l.length c7) ∧ w'.cell? ⟨wr.heap.size, 0, none⟩ = some (.string (rd_T145 l i).f0) ∧ w'.cell? ⟨wr.heap.size, 1, none⟩ = some (.slice aA (rd_T145 l i).f1.length aC) ∧ w'.cell? ⟨wr.heap.size, 2, none⟩ = some (.int .i64 (rd_T145 l i).f2) ∧ w'.cell? ⟨wr.heap.size, 3, none⟩ = some (.int .i64 (rd_T145 l i).f3) ∧ w'.cell? ⟨wr.heap.size, 4, none⟩ = some (.int .i64 (rd_T145 l i).f4) ∧ w'.cell? (ad.add ((i.toNat - 1) * 5)) = some (.string (rd_T145 l (i - 1)).f0)) 19 ⟨hb7, blk_cell hr 0, blk_cell hr 1, blk_cell hr 2, blk_cell hr 3, blk_cell hr 4, q0⟩ (fun hs => ?_)
            refine qT 0 72 hs ?_
            refine q1 1 73 (fun K hK => ?_)
            refine qC Tryz.func107 _ ?_
            refine (iRole1 _ _ _ _ _ _ _ _ (Kd.C_below HK.out (below_drew1 hB0)) HM.out.1 HM.out.2).mono ?_
            intro e w2 h2
            obtain ⟨rfl, hb⟩ := h2.yes K1.out
            have hr2 := blk_below (blk_drew hr) hb
            refine ⟨_, rfl, hK.out _ _ ⟨pw_cell_below hb hb7, blk_cell hr2 0, blk_cell hr2 1, blk_cell hr2 2, blk_cell hr2 3, blk_cell hr2 4, pw_cell_below hb q0⟩ (fun hs => ?_)⟩
            clear hK K
            refine qN ?_
            refine qP 2 74 ?_
            refine qP 3 75 ?_
            refine qP 4 76 ?_
            refine qP 5 77 ?_
            refine qP 6 78 ?_
            refine qP 7 79 ?_
            refine qP 9 81 ?_
            refine qP 10 82 ?_
            refine qP 14 86 ?_
            refine qT 8 80 hs ?_
            refine qP 11 83 ?_
            refine qP 12 84 ?_
            refine qT 13 85 hs ?_
            refine qT 15 87 hs ?_
            refine qP 16 88 ?_
            refine qP 17 89 ?_
            refine qP 18 90 ?_
            refine qD ?_
            have HX2 := Aside0.mk (blk_below (blk_drew (blk_below HX.out hB0)) hb)
            have HB2 := Aside0.mk (below_step (below_drew1 (below_step HB.out hB0)) hb)
            clear hb hx hs hb7 hr hr2 hB0 q0 hwr h1m h2m
            go_wp2
          · have K3 := Aside0.mk k3
            clear k3
            go_roundg (l.length - (i + 1)).toNat
            case measure => omega
            case rel => exact ⟨i + 1, rfl, by omega, by omega, by omega, HB2, HX2, ⟨fun j h0 h1 => by
              by_cases hj : j < i
              · exact HA.out j h0 hj
              · obtain rfl : j = i := by omega
                exact K1.out⟩, ⟨fun j h0 h1 => by
              by_cases hj : j < i
              · exact HS.out j h0 hj
              · obtain rfl : j = i := by omega
                exact fun _ => K3.out⟩⟩
          · go_ret
            exact .inr ⟨rfl, fun h => absurd (h.2.2.2.2.2.2.2.2.2.2.2 i hi0 hlt k2) (by rw [k3]; decide), HB2.out⟩
    · obtain rfl : i = l.length := by omega
      go_wp2
      go_ret
      exact .inl ⟨rfl, ⟨HQ.out.2.2.2.2.2.2.2.2.1, HQ.out.2.2.2.2.2.2.2.1, HQ.out.2.2.2.2.2.2.1, HQ.out.2.2.2.1, HQ.out.2.2.1, HQ.out.2.2.2.2.2.1, HQ.out.2.2.2.2.1, by omega, HQ.out.2.1, fun x hx => Classical.byContradiction fun hn => HQ.out.1 ⟨x, hx, hn⟩, all_of rfl HA.out, HS.out⟩, HB.out⟩
end
end Go.Proofs.YtkklokkldgkacaaGreat.X
