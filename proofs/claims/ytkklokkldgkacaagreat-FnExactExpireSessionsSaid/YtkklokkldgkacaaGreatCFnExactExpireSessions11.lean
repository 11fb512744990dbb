/- Texts that the row of FnExactExpireSessions stands on: functions of the program and of the reference, each as a Lean function with the same answers, and the plain lemmas. Conditions: none beside those that each theorem names. -/
import Derived.Test.YtkklokkldgkacaaGreatCFnExactExpireSessions10
namespace Go.Proofs.YtkklokkldgkacaaGreat.X
open Go.RowKit Go.Proofs.YtkklokkldgkacaaGreatW.PrintWords Go.Proofs.YtkklokkldgkacaaGreatW.PrintLast Go.Proofs.YtkklokkldgkacaaGreatW.PrintMore
attribute [local go_sem] max2_int min2_int max_two min_two max_three min_three max_four min_four   -- for this text's walks alone
set_option linter.unusedVariables false
set_option linter.unusedSimpArgs false
section
-- NEEDS laws.eqConfig
-- IMPORT Derived.Shelf.RegionOpenPlain
-- IMPORT Derived.Deep.RegionLaw
-- IMPORT Derived.Lib.OwnBridge
open Go.Lib
open Go.Lib (lay lay_get? putRow_setCells)
open Go.Sort (Holds putRow putCells mapBlock onCells) 
theorem clear_cells {P : Program} (w : World) (t e ty : TypeId) (z : Value) (ht : P.underlying t = some (.slice e)) (hv : ∀ w, (zeroValue e).run P w = .ok z w) (h1 : ∀ v ∈ z.cells.toList, v.oneCell' = true) (b o n c : Nat) (hn : 0 < n)
    (hc : ∀ j, j < n * z.cells.size → (w.cell? ⟨b, o + j, none⟩).isSome = true) (hf : ∀ j, j < n * z.cells.size → w.frozen? ⟨b, o + j, none⟩ = false) :
    (Builtin.clear_ #[t] ty #[.slice (some ⟨b, o, none⟩) n c]).run P w = .ok (.tuple #[]) (w.setCells b o (Builtin.zeroCells z.cells n).toList) := by
  have hlen : (Builtin.zeroCells z.cells n).toList.length = n * z.cells.size := by simp [Builtin.zeroCells]
  have hst := run_storeCells_cells (P := P) b o (Builtin.zeroCells z.cells n).toList 0 w (by simpa [hlen] using hc) (by simpa [hlen] using hf) (by
    intro v hv'
    simp only [Builtin.zeroCells, Array.toList_map, List.mem_map, Array.toList_range, List.mem_range] at hv'
    obtain ⟨i, hi, rfl⟩ := hv'
    have hp : 0 < z.cells.size := Nat.pos_of_ne_zero (fun e => by rw [e] at hi; omega)
    have hm : i % z.cells.size < z.cells.size := Nat.mod_lt _ hp
    rw [getElem!_pos z.cells _ hm]
    exact h1 _ (by simp))
  simp only [Nat.add_zero] at hst
  obtain ⟨m, rfl⟩ : ∃ m, n = m + 1 := ⟨n - 1, by omega⟩
  simp [Builtin.clear_, run_underlying ht, hv, hst]
/-- The cells of a row of elements. -/
def flatC {α : Type} (enc : α → List Value) (l : List α) : List Value := l.flatMap enc
theorem flatC_length {α : Type} {enc : α → List Value} {s : Nat} (he : ∀ x, (enc x).length = s) : ∀ l : List α, (flatC enc l).length = l.length * s
  | [] => by simp [flatC]
  | x :: l => by
    have := flatC_length he l
    rw [flatC] at this ⊢
    rw [List.flatMap_cons, List.length_append, he, this, List.length_cons, Nat.add_mul, Nat.one_mul, Nat.add_comm]
theorem flatC_append {α : Type} (enc : α → List Value) (l m : List α) : flatC enc (l ++ m) = flatC enc l ++ flatC enc m := List.flatMap_append
theorem flatC_at {α : Type} {enc : α → List Value} {s : Nat} (he : ∀ x, (enc x).length = s) (l : List α) (j c : Nat) (hj : j < l.length) (hc : c < s) : (flatC enc l)[j * s + c]? = (enc l[j])[c]? := by
  have hsp : l = l.take j ++ l[j] :: l.drop (j + 1) := by rw [← List.drop_eq_getElem_cons hj, List.take_append_drop]
  have hl : (flatC enc (l.take j)).length = j * s := by rw [flatC_length he, List.length_take, Nat.min_eq_left (by omega)]
  have h2 : flatC enc l = flatC enc (l.take j) ++ (enc l[j] ++ flatC enc (l.drop (j + 1))) := by
    conv => lhs; rw [hsp, flatC_append]
    rfl
  rw [h2, List.getElem?_append_right (by omega), hl, show j * s + c - j * s = c by omega, List.getElem?_append_left (by rw [he]; exact hc)]
def encS (x : S76) : List Value := [.int .i64 x.f0, .int .i64 x.f1, .string x.f2, .int .i64 x.f3, .int .i64 x.f4, .int .i64 x.f5, .int .i64 x.f6, .int .i64 x.f7, .int .i64 x.f8, .int .i64 x.f9]
theorem encS_len (x : S76) : (encS x).length = 10 := rfl
instance : Inhabited S76 := ⟨z76⟩
structure RowS (W : World) (blk cap : Nat) (D : List S76) : Prop where
  ex : ∃ cur : Array Value, W.heap[blk]? = some (.cells cur 76 (0, 0)) ∧ cur.size = cap * 10 ∧ cur.toList.take (D.length * 10) = flatC encS D
theorem RowS.cell {W : World} {blk cap : Nat} {D : List S76} (h : RowS W blk cap D) (j c : Nat) (hj : j < D.length) (hc : c < 10) : W.cell? ⟨blk, j * 10 + c, none⟩ = (encS D[j])[c]? := by
  obtain ⟨cur, h1, h2, h3⟩ := h.ex
  rw [blk_cell h1, ← flatC_at encS_len D j c hj hc, ← h3, List.getElem?_take, if_pos (by omega), Array.getElem?_toList]
theorem RowS.below {W W' : World} {blk cap : Nat} {D : List S76} (h : RowS W blk cap D) (hb : Below W.heap.size W W') : RowS W' blk cap D := by
  obtain ⟨cur, h1, h2, h3⟩ := h.ex
  exact ⟨cur, blk_below h1 hb, h2, h3⟩
theorem RowS.frozen {W : World} {blk cap : Nat} {D : List S76} (h : RowS W blk cap D) (i : Nat) : W.frozen? ⟨blk, i, none⟩ = false := by
  obtain ⟨cur, h1, h2, h3⟩ := h.ex
  exact blk_frozen h1 i
theorem RowS.lt {W : World} {blk cap : Nat} {D : List S76} (h : RowS W blk cap D) : blk < W.heap.size := by
  obtain ⟨cur, h1, h2, h3⟩ := h.ex
  exact blk_lt h1
theorem flatS_take (D : List S76) (i : Nat) (h : i ≤ D.length) : (flatC encS D).take (i * 10) = flatC encS (D.take i) := by
  conv => lhs; rw [← List.take_append_drop i D, flatC_append]
  exact List.take_left' (by rw [flatC_length encS_len, List.length_take, Nat.min_eq_left h])
theorem RowS.cut {W : World} {blk cap : Nat} {D : List S76} (h : RowS W blk cap D) (hcap : D.length ≤ cap) (i : Nat) (hi : i ≤ D.length) (xs : List Value) (hx : xs.length = (D.length - i) * 10) : RowS (W.setCells blk (i * 10) xs) blk cap (D.take i) := by
  obtain ⟨cur, h1, h2, h3⟩ := h.ex
  obtain ⟨cur', e1, e2, e3⟩ := setCells_row xs (i * 10) W cur h1 (by omega)
  refine ⟨cur', e1, by omega, ?_⟩
  rw [List.length_take, Nat.min_eq_left hi, e3, List.append_assoc, List.take_left' (by rw [List.length_take, Array.length_toList]; omega), ← flatS_take D i hi, ← h3, List.take_take, Nat.min_eq_left (by omega)]
structure KB (w W : World) (g : Nat) : Prop where
  keep : KeepBut w W g none
  bel : Below g w W
  le : g ≤ W.heap.size
theorem KB.refl {w : World} {g : Nat} (h : g < w.heap.size) : KB w w g := ⟨KeepBut.refl _ _ _, Below.refl _ _, Nat.le_of_lt h⟩
theorem KB.step {w W W2 : World} {g : Nat} (h : KB w W g) (k : Below W.heap.size W W2) : KB w W2 g := ⟨h.keep.trans (KeepBut.of_below k g none) (.inl rfl), below_then h.bel h.le k, Nat.le_trans h.le k.size⟩
theorem KB.set_ {w W : World} {g : Nat} (h : KB w W g) (j : Nat) (u : Value) : KB w (W.setCell ⟨g, j, none⟩ u) g := ⟨h.keep.set_ j u, h.bel.setCell (Nat.le_refl g) _, by simpa [World.setCell] using h.le⟩
theorem KB.sets {g : Nat} : ∀ (vs : List Value) (o : Nat) {w W : World}, KB w W g → KB w (W.setCells g o vs) g
  | [], _, _, _, h => h
  | u :: vs, o, _, _, h => KB.sets vs (o + 1) (h.set_ o u)
theorem encS_reps {R : S76 → List Value → Prop} (hR : ∀ x cs, R x cs → cs = encS x) {l : List S76} {cs : List Value} (h : Reps R 10 l cs) : cs = flatC encS l := by
  apply List.ext_getElem?
  intro i
  have h1 := h.1
  have hf := flatC_length encS_len l
  rcases Nat.lt_or_ge i (l.length * 10) with hi | hi
  · have hq : i / 10 < l.length := by omega
    have hc := h.2 (i / 10) l[i / 10] (List.getElem?_eq_getElem hq)
    have he := congrArg (fun z => z[i % 10]?) (hR _ _ hc)
    simp only [List.getElem?_take, List.getElem?_drop] at he
    rw [if_pos (by omega), ← flatC_at encS_len l (i / 10) (i % 10) hq (by omega), show i / 10 * 10 + i % 10 = i by omega] at he
    exact he
  · rw [List.getElem?_eq_none (by omega), List.getElem?_eq_none (by omega)]
theorem reps_encS {R : S76 → List Value → Prop} (hR : ∀ x, R x (encS x)) (l : List S76) : Reps R 10 l (flatC encS l) := by
  refine ⟨flatC_length encS_len l, fun j p hj => ?_⟩
  obtain ⟨hlt, rfl⟩ := List.getElem?_eq_some_iff.1 hj
  have e : ((flatC encS l).drop (j * 10)).take 10 = encS l[j] := by
    apply List.ext_getElem?
    intro c
    rw [List.getElem?_take]
    by_cases hc : c < 10
    · rw [if_pos hc, List.getElem?_drop, flatC_at encS_len l j c hlt hc]
    · rw [if_neg hc, List.getElem?_eq_none (by rw [encS_len]; omega)]
  rw [e]
  exact hR _
theorem RowS.of_R {w : World} {base : Nat} {ok : Nat → Prop} {v : Value} {l : List S76} (h : Kd.R k76 76 w base ok v l) (hn : 0 < l.length) :
    ∃ g cap, v = .slice (some ⟨g, 0, none⟩) l.length cap ∧ base ≤ g ∧ RowS w g cap l ∧ l.length ≤ cap ∧ cap ≤ 9223372036854775807 ∧ ok g := by
  obtain ⟨h0, inner, ho, hr⟩ := h
  have hi := encS_reps (fun x cs hx => k76_openM hx) hr
  rcases ho.2 with ⟨_, e0⟩ | ⟨g, cap, cur, rfl, hb, hg, hnc, hm, hs, ht⟩
  · omega
  · refine ⟨g, cap, rfl, hb, ⟨cur, hg, hs, ?_⟩, hnc, ?_, h0 g rfl⟩
    · rw [← hi]; exact ht
    · simpa [maxLen] using hm
theorem RowS.toR {w : World} {base g cap : Nat} {ok : Nat → Prop} {l : List S76} (h : RowS w g cap l) (hb : base ≤ g) (hc : l.length ≤ cap) (hm : cap ≤ 9223372036854775807) (hok : ok g) :
    Kd.R k76 76 w base ok (.slice (some ⟨g, 0, none⟩) l.length cap) l := by
  obtain ⟨cur, h1, h2, h3⟩ := h.ex
  refine ⟨fun k hk => ?_, flatC encS l, ⟨flatC_length encS_len l, .inr ⟨g, cap, cur, rfl, hb, h1, hc, by simpa [maxLen] using hm, h2, h3⟩⟩, reps_encS (fun x => k76_mkM _ _ _ x) l⟩
  obtain rfl : g = k := by simpa [Value.ownBlock] using hk
  exact hok
theorem flatS_drop (D : List S76) (i : Nat) (h : i ≤ D.length) : (flatC encS D).drop (i * 10) = flatC encS (D.drop i) := by
  conv => lhs; rw [← List.take_append_drop i D, flatC_append]
  exact List.drop_left' (by rw [flatC_length encS_len, List.length_take, Nat.min_eq_left h])
theorem RowS.sets {W : World} {blk cap : Nat} {D : List S76} (h : RowS W blk cap D) (hcap : D.length ≤ cap) (i : Nat) (us : List S76) (hi : i + us.length ≤ D.length) : RowS (W.setCells blk (i * 10) (flatC encS us)) blk cap (D.take i ++ us ++ D.drop (i + us.length)) := by
  obtain ⟨cur, h1, h2, h3⟩ := h.ex
  have hu := flatC_length encS_len us
  obtain ⟨cur', e1, e2, e3⟩ := setCells_row (flatC encS us) (i * 10) W cur h1 (by omega)
  refine ⟨cur', e1, by omega, ?_⟩
  have hlen : (D.take i ++ us ++ D.drop (i + us.length)).length = D.length := by simp; omega
  rw [hlen, e3, flatC_append, flatC_append, ← flatS_take D i (by omega), ← flatS_drop D (i + us.length) hi, ← h3, hu]
  apply List.ext_getElem?
  intro j
  have hl1 : (cur.toList.take (i * 10)).length = i * 10 := by rw [List.length_take, Array.length_toList]; omega
  have hl2 : ((cur.toList.take (D.length * 10)).take (i * 10)).length = i * 10 := by rw [List.length_take, List.length_take, Array.length_toList (xs := cur)]; omega
  rw [List.getElem?_take]
  rcases Nat.lt_or_ge j (i * 10) with hj | hj
  · rw [if_pos (by omega), List.getElem?_append_left (by rw [List.length_append, hl1]; omega), List.getElem?_append_left (by rw [hl1]; omega), List.getElem?_append_left (by rw [List.length_append, hl2]; omega), List.getElem?_append_left (by rw [hl2]; omega), List.getElem?_take, List.getElem?_take, List.getElem?_take, if_pos hj, if_pos hj, if_pos (by omega)]
  rcases Nat.lt_or_ge j ((i + us.length) * 10) with hj2 | hj2
  · rw [if_pos (by omega), List.getElem?_append_left (by rw [List.length_append, hl1, hu]; omega), List.getElem?_append_right (by rw [hl1]; omega), List.getElem?_append_left (by rw [List.length_append, hl2, hu]; omega), List.getElem?_append_right (by rw [hl2]; omega), hl1, hl2]
  · rw [List.getElem?_append_right (by rw [List.length_append, hl1, hu]; omega), List.getElem?_append_right (by rw [List.length_append, hl2, hu]; omega), List.length_append, List.length_append, hl1, hl2, hu, List.getElem?_drop, List.getElem?_drop, List.getElem?_take]
    rw [show i * 10 + us.length * 10 + (j - (i * 10 + us.length * 10)) = j by omega, show (i + us.length) * 10 + (j - (i * 10 + us.length * 10)) = j by omega]
set_option maxHeartbeats 4000000 in
set_option maxRecDepth 1000000 in
theorem delAtS (blk cap : Nat) (l : List S76) (i j : Nat) (hj1 : j = i + 1) (w : World) (hi : i < l.length) (hr : RowS w blk cap l) (hln : l.length ≤ cap) (hcm : cap ≤ 9223372036854775807) :
    Calls Tryz.prog 126 #[.slice (some ⟨blk, 0, none⟩) l.length cap, .int .i64 i, .int .i64 (j : Nat)] w fun e w' => e = .returned (.slice (some ⟨blk, 0, none⟩) (l.length - 1) cap) ∧ KB w w' blk ∧ RowS w' blk cap (l.eraseIdx i) := by
  obtain ⟨i0, hi0, hz9⟩ : ∃ i0, Tryz.prog.info? 76 = some i0 ∧ i0.size = 10 := by
    obtain ⟨i0, h0, h1⟩ := Option.map_eq_some_iff.1 info76
    exact ⟨i0, h0, by injection h1 with _ h2; injection h2⟩
  obtain ⟨news, hnews⟩ : ∃ news, news = flatC encS (l.drop j) := ⟨_, rfl⟩
  have hlen : news.length = (l.length - j) * 10 := by rw [hnews, flatC_length encS_len, List.length_drop]
  obtain ⟨A, hA, hsrc⟩ : ∃ A : Addr, (if cap = j then (some (⟨blk, 0, none⟩ : Addr)) else some ⟨blk, j * 10, none⟩) = some A ∧ Hid (∀ t u, news[t]? = some u → w.drew.cell? (A.add t) = some u) := by
    by_cases h : cap = j
    · refine ⟨⟨blk, 0, none⟩, by simp [h], fun t u hu => ?_⟩
      have h0 : news.length = 0 := by rw [hlen]; omega
      rw [List.length_eq_zero_iff.1 h0] at hu
      simp at hu
    · refine ⟨⟨blk, j * 10, none⟩, by simp [h], fun t u hu => ?_⟩
      have ht : t < (l.length - j) * 10 := by
        have := (List.getElem?_eq_some_iff.1 hu).1
        rwa [hlen] at this
      have hq : t / 10 < l.length - j := by omega
      have e1 := flatC_at encS_len (l.drop j) (t / 10) (t % 10) (by rw [List.length_drop]; exact hq) (by omega)
      rw [show t / 10 * 10 + t % 10 = t by omega, ← hnews, hu] at e1
      have e2 := hr.cell (j + t / 10) (t % 10) (by omega) (by omega)
      rw [Addr.add_lit, show j * 10 + t = (j + t / 10) * 10 + t % 10 by omega]
      show w.cell? _ = _
      rw [e2, e1]
      congr 2
      rw [List.getElem_drop]
  have s2 : Hid (∀ u ∈ news, u.oneCell' = true) := by
    intro u hu
    rw [hnews] at hu
    obtain ⟨x, _, hx⟩ := List.mem_flatMap.1 hu
    simp [encS] at hx
    rcases hx with rfl | rfl | rfl | rfl | rfl | rfl | rfl | rfl | rfl | rfl <;> rfl
  have s3 : Hid (∀ t, t < news.length → (w.drew.cell? ⟨blk, 0 + i * 10 + t, none⟩).isSome = true ∧ w.drew.frozen? ⟨blk, 0 + i * 10 + t, none⟩ = false) := by
    intro t ht
    rw [hlen] at ht
    have e2 := hr.cell (i + t / 10) (t % 10) (by omega) (by omega)
    refine ⟨?_, hr.frozen _⟩
    show (w.cell? _).isSome = true
    rw [show 0 + i * 10 + t = (i + t / 10) * 10 + t % 10 by omega, e2, List.getElem?_eq_getElem (by rw [encS_len]; omega)]
    rfl
  obtain ⟨W1, hW1⟩ : ∃ W1, W1 = w.drew.setCells blk (0 + i * 10) news := ⟨_, rfl⟩
  have hrd : RowS w.drew blk cap l := ⟨hr.ex⟩
  have hR1 := hrd.sets hln i (l.drop j) (by rw [List.length_drop]; omega)
  rw [← hnews, ← Nat.zero_add (i * 10), ← hW1] at hR1
  obtain ⟨L1, hL1⟩ : ∃ L1, L1 = l.take i ++ l.drop j ++ l.drop (i + (l.drop j).length) := ⟨_, rfl⟩
  rw [← hL1] at hR1
  have hl1 : L1.length = l.length := by rw [hL1]; simp; omega
  have hK1 : KB w W1 blk := by
    rw [hW1]
    exact KB.sets news (0 + i * 10) ((KB.refl hr.lt).step (below_drew (Below.refl _ _)))
  have hcl : ∀ ty, (Builtin.clear_ #[44] ty #[.slice (some ⟨blk, (l.length - 1) * 10, none⟩) (l.length - (l.length - 1)) (cap - (l.length - 1))]).run Tryz.prog W1 = .ok (.tuple #[]) (W1.setCells blk ((l.length - 1) * 10) (Builtin.zeroCells (Value.agg #[.int .i64 0, .int .i64 0, .string ⟨#[]⟩, .int .i64 0, .int .i64 0, .int .i64 0, .int .i64 0, .int .i64 0, .int .i64 0, .int .i64 0]).cells (l.length - (l.length - 1))).toList) := fun ty => by
    obtain ⟨cur, h1, h2, h3⟩ := hR1.ex
    refine clear_cells W1 44 76 ty _ Tryz.underlying44 Tryz.zeroValue76 ?_ blk ((l.length - 1) * 10) _ _ (by omega) (fun t ht => ?_) (fun t ht => hR1.frozen _)
    · intro v hv
      simp [Value.cells] at hv
      rcases hv with rfl | rfl | rfl <;> rfl
    · have ht' : t < (l.length - (l.length - 1)) * 10 := ht
      rw [blk_cell h1, Array.getElem?_eq_getElem (by omega)]
      rfl
  have hK' := KB.sets (Builtin.zeroCells (Value.agg #[.int .i64 0, .int .i64 0, .string ⟨#[]⟩, .int .i64 0, .int .i64 0, .int .i64 0, .int .i64 0, .int .i64 0, .int .i64 0, .int .i64 0]).cells (l.length - (l.length - 1))).toList ((l.length - 1) * 10) hK1
  have hR' := hR1.cut (by omega) (l.length - 1) (by omega) (Builtin.zeroCells (Value.agg #[.int .i64 0, .int .i64 0, .string ⟨#[]⟩, .int .i64 0, .int .i64 0, .int .i64 0, .int .i64 0, .int .i64 0, .int .i64 0, .int .i64 0]).cells (l.length - (l.length - 1))).toList (by rw [hl1]; simp [Builtin.zeroCells, Value.cells])
  have hE : L1.take (l.length - 1) = l.eraseIdx i := by
    rw [hL1, List.take_left' (by simp; omega), List.eraseIdx_eq_take_drop_succ, hj1]
  rw [hE] at hR'
  have HF := Aside0.mk (And.intro hK' hR')
  have hW : Hid (W1 = w.drew.setCells blk (0 + i * 10) news) := hW1
  have s1 : Hid (news.length = (l.length - j) * 10) := hlen
  have hic : i ≤ cap := by omega
  have hjc : j ≤ cap := by omega
  have hij : ((i : Int) == ((j : Nat) : Int)) = false := beq_eq_false_iff_ne.2 (by omega)
  have hrm : i + (l.length - j) ≤ cap := by omega
  have hpl : i + (l.length - j) = l.length - 1 := by omega
  have hl0 : 1 ≤ l.length := by omega
  have mixed : Tryz.prog.follows .mixedOrders = true := by kernel_rfl
  have hjl : j ≤ l.length := by omega
  have HJ := Aside0.mk hj1
  clear hj1
  clear hE hR' hK' hK1 hR1 hl1 hL1 hrd hW1 hlen hnews hr
  go_enter Tryz.func126, Tryz.ntmps126
  go_wp2_with fail
  go_region_law_o (refine step_append_room rfl (.tmp 22) (.tmp 25) 44 rfl 76 i0 10 Tryz.underlying44 hi0 hz9 blk 0 i cap (by simp [Act.eval, Act.put]) A (l.length - j) (cap - j) news (by simp [Act.eval, Act.put]) s1.out hsrc.out s2.out (by omega) s3.out ?_; rw [← hW.out])
  go_wp2
  go_ret
  exact ⟨rfl, HF.out⟩
end
section
/-! ### laws_markText: function 127 -/
def laws_markText.l0 : Nat → Int → ByteArray → Option (ByteArray)
  | 0, _, _ => none
  | k + 1, x0, x3 => if x0 > 0 then ((some (([(wrap64 (48 + (Int.tmod x0 10))) % 256] : List Int) : List Int)).bind fun y631 => (if (strOfNums y631).size + x3.size ≤ 9223372036854775807 then (laws_markText.l0 k (wrap64 (Int.tdiv x0 10)) ((strOfNums y631) ++ x3)) else (none))) else (if 1 + x3.size ≤ 9223372036854775807 then (some ((⟨#[109]⟩ : ByteArray) ++ x3)) else (none))
def laws_markText.f (k : Nat) (a0 : Int) : Option (ByteArray) := if a0 ≤ 0 then (some (⟨#[109, 48]⟩ : ByteArray)) else (laws_markText.l0 k a0 (⟨#[]⟩ : ByteArray))
theorem laws_markText.mono_l : ∀ k, (∀ y0 y1, LeO (laws_markText.l0 k y0 y1) (laws_markText.l0 (k + 1) y0 y1))
  | 0 => fun _ _ r h => by simp [laws_markText.l0] at h
  | k + 1 => by
    have ih0 := laws_markText.mono_l k
    · intro y0 y1
      unfold laws_markText.l0
      repeat' first
      | (with_reducible exact ih0 _ _)
      | (with_reducible exact LeO.refl _)
      | (with_reducible exact LeO.none _)
      | (with_reducible refine LeO.ite ?_ ?_)
      | (with_reducible refine LeO.bind ?_ (fun _ => ?_))
      | exact ih0 _ _
      | exact LeO.none _
      | refine LeO.ite ?_ ?_
      | refine LeO.bind ?_ (fun _ => ?_)
theorem laws_markText.mono : ∀ a0 k, LeO (laws_markText.f k a0) (laws_markText.f (k + 1) a0) := by
  intro a0 k
  have ih0 := laws_markText.mono_l k
  unfold laws_markText.f
  repeat' first
      | (with_reducible exact ih0 _ _)
      | (with_reducible exact LeO.refl _)
      | (with_reducible exact LeO.none _)
      | (with_reducible refine LeO.ite ?_ ?_)
      | (with_reducible refine LeO.bind ?_ (fun _ => ?_))
      | exact ih0 _ _
      | exact LeO.none _
      | refine LeO.ite ?_ ?_
      | refine LeO.bind ?_ (fun _ => ?_)
set_option maxHeartbeats 8000000 in
set_option maxRecDepth 100000 in
theorem laws_markText.calls (k : Nat) (a0 : Int) (r : ByteArray) (w : World) (h : laws_markText.f k a0 = some r) :
    Calls Tryz.prog 127 #[.int .i64 a0] w fun e w' => e = .returned (.string r) ∧ Below w.heap.size w w' := by
  have HB := Aside0.mk (Below.refl w.heap.size w)
  have H : (if a0 ≤ 0 then (some (⟨#[109, 48]⟩ : ByteArray)) else (laws_markText.l0 k a0 (⟨#[]⟩ : ByteArray))) = some r := h
  clear h
  by_cases c2 : a0 ≤ 0
  · rw [if_pos c2] at H
    have c2b0 : decide (a0 ≤ 0) = true := decide_eq_true c2
    clear c2
    obtain rfl := Option.some.inj H
    go_enter Tryz.func127, Tryz.ntmps127
    go_wp2
    go_ret
    exact ⟨by first | rfl | (simp [errW_none, errW_some] <;> rfl) | (simp [*, errW_none, errW_some] <;> rfl), by repeat (first | (with_reducible first | exact HB.out | apply below_alloc | apply pw_below_drewN | apply below_drew1) | exact HB.out)⟩
  · rw [if_neg c2] at H
    have c2b0 : decide (a0 ≤ 0) = false := decide_eq_false c2
    clear c2
    have H' := Aside0.mk H
    clear H
    go_enter Tryz.func127, Tryz.ntmps127
    go_wp2
    go_loopg [0, 3] k (fun kq v0 v3 w' => ∃ (x0_1 : Int) (x3_1 : ByteArray), v0 = .int .i64 x0_1 ∧ v3 = .string x3_1 ∧ Aside0 (laws_markText.l0 kq x0_1 x3_1 = some r) ∧ Aside0 (kq ≤ k) ∧ Aside0 (Below w.heap.size w w'))
    case atStart => exact ⟨(a0), ((⟨#[]⟩ : ByteArray)), (by first | rfl | (simp; done) | (simp [*]; done) | (simp [ne_nil_b]; done) | (simp [ne_nil_b, *]; done)), (by first | rfl | (simp; done) | (simp [*]; done) | (simp [ne_nil_b]; done) | (simp [ne_nil_b, *]; done)), H', ⟨Nat.le_refl _⟩, ⟨by repeat (first | (with_reducible first | exact HB.out | apply below_alloc | apply pw_below_drewN | apply below_drew1) | exact HB.out)⟩⟩
    case round =>
      clear H'
      try clear c1
      try clear c2
      try clear c2b0
      try clear p2
      obtain ⟨x0_1, x3_1, rfl, rfl, HA, HK1, HB⟩ := hrel
      cases gk with
      | zero => exact absurd HA.out (by simp [laws_markText.l0])
      | succ k1 =>
        have H := HA.out
        clear HA
        simp only [laws_markText.l0] at H
        by_cases c3 : x0_1 > 0
        · rw [if_pos c3] at H
          have c3b0 : decide (0 < x0_1) = true := decide_eq_true c3
          clear c3
          obtain ⟨y631, hy631⟩ : ∃ y_ : List Int, y_ = (([(wrap64 (48 + (Int.tmod x0_1 10))) % 256] : List Int)) := ⟨_, rfl⟩
          replace H : (if (strOfNums y631).size + x3_1.size ≤ 9223372036854775807 then (laws_markText.l0 k1 (wrap64 (Int.tdiv x0_1 10)) ((strOfNums y631) ++ x3_1)) else (none)) = some r := by first | (rw [hy631]; with_reducible exact H) | (have H2_ := (Option.bind_some _ _).symm.trans H; rw [hy631]; with_reducible exact H2_) | (have H2_ := (Option.bind_some _ _).symm.trans H; with_reducible exact H2_) | with_reducible exact H | (rw [hy631]; exact H) | exact H
          have Ny631 := Aside0.mk hy631
          clear hy631
          by_cases c4 : (strOfNums y631).size + x3_1.size ≤ 9223372036854775807
          · rw [if_pos c4] at H
            have c4b0 := eq_true c4
            have c4b1 : decide ((strOfNums y631).size + x3_1.size ≤ 9223372036854775807) = true := decide_eq_true c4
            try have c4b2 : (9223372036854775807 < (strOfNums y631).size + x3_1.size) = False := eq_false (Nat.not_lt.2 c4)
            have H' := Aside0.mk H
            clear H
            go_wp2_with (first | ((with_reducible refine gate_dst (N := 12) rfl ?_); refine Kd.R_lit (Kd.int .u8) _ 5 ?hg (N := 12) ?hd (xs := ([(wrap64 (48 + (Int.tmod x0_1 10))) % 256] : List Int)) (inner := [.int .u8 ((wrap64 (48 + (Int.tmod x0_1 10))) % 256)]) (ok := fun _ => True) (okp := fun _ => True) ?hr ?hp (fun _ hk => hk) trivial (Below.refl _ _) (Nat.le_refl _) (by simp) ?_; (case hd => rfl); (case hg => rfl); (case hr => first | (go_simp; done) | (go_simp; rfl)); (case hp => exact (Reps.one (show Kd.M (Kd.int .u8) _ _ _ ((wrap64 (48 + (Int.tmod x0_1 10))) % 256) [.int .u8 ((wrap64 (48 + (Int.tmod x0_1 10))) % 256)] from rfl) (Reps.none _ _))); intro v632 w5 ho6 hb hg_ hnew_; clear hg_ hnew_; (first | rw [← Ny631.out] at ho6 | (simp only [Int.reduceToNat] at ho6; rw [← Ny631.out] at ho6)); have n0_ := Aside0.mk (Kd.R_lower ho6 (below_size (by repeat (first | (with_reducible first | exact HB.out | apply below_alloc | apply pw_below_drewN | apply below_drew1) | exact HB.out)))); have n1_ := Aside0.mk (below_step (by repeat (first | (with_reducible first | exact HB.out | apply below_alloc | apply pw_below_drewN | apply below_drew1) | exact HB.out)) hb); clear HB; have HO633 := n0_; have HB := n1_; clear n0_ n1_; clear hb ho6; have hcv7 := own_string (P := Tryz.prog) Tryz.underlying190 Tryz.underlying5 Tryz.underlying9 (Kd.own_of_R HO633.out)))
            go_roundg k1
            case measure => have := HK1.out; omega
            case rel => exact ⟨(wrap64 (Int.tdiv x0_1 10)), ((strOfNums y631) ++ x3_1), (by first | rfl | (simp; done) | (simp [*]; done) | (simp [ne_nil_b]; done) | (simp [ne_nil_b, *]; done)), (by first | rfl | (simp; done) | (simp [*]; done) | (simp [ne_nil_b]; done) | (simp [ne_nil_b, *]; done)), H', ⟨by have := HK1.out; omega⟩, ⟨by repeat (first | (with_reducible first | exact HB.out | apply below_alloc | apply pw_below_drewN | apply below_drew1) | exact HB.out)⟩⟩
          · rw [if_neg c4] at H
            exact absurd H (by simp)
        · rw [if_neg c3] at H
          have c3b0 : decide (0 < x0_1) = false := decide_eq_false c3
          clear c3
          by_cases c8 : 1 + x3_1.size ≤ 9223372036854775807
          · rw [if_pos c8] at H
            have c8b0 := eq_true c8
            have c8b1 : decide (1 + x3_1.size ≤ 9223372036854775807) = true := decide_eq_true c8
            try have c8b2 : (9223372036854775807 < 1 + x3_1.size) = False := eq_false (Nat.not_lt.2 c8)
            obtain rfl := Option.some.inj H
            go_wp2
            go_ret
            exact ⟨by first | rfl | (simp [errW_none, errW_some] <;> rfl) | (simp [*, errW_none, errW_some] <;> rfl), by repeat (first | (with_reducible first | exact HB.out | apply below_alloc | apply pw_below_drewN | apply below_drew1) | exact HB.out)⟩
          · rw [if_neg c8] at H
            exact absurd H (by simp)
end
section
-- NEEDS laws.eqConfig laws.markText
structure ButS (S : Nat → Prop) (w W : World) : Prop where
  os : W.os = w.os
  tape : W.tape = w.tape
  output : W.output = w.output
  size : w.heap.size ≤ W.heap.size
  block : ∀ b : Nat, b < w.heap.size → ¬ S b → W.heap[b]? = w.heap[b]?
  shape : ∀ (b : Nat) (cur : Array Value) (e : TypeId), w.heap[b]? = some (Obj.cells cur e (0, 0)) → ∃ cur' : Array Value, W.heap[b]? = some (Obj.cells cur' e (0, 0)) ∧ cur'.size = cur.size
theorem ButS.refl (S : Nat → Prop) (w : World) : ButS S w w := ⟨rfl, rfl, rfl, Nat.le_refl _, fun _ _ _ => rfl, fun _ cur _ h => ⟨cur, h, rfl⟩⟩
theorem ButS.trans {S : Nat → Prop} {a b c : World} (h : ButS S a b) (k : ButS S b c) : ButS S a c :=
  ⟨k.os.trans h.os, k.tape.trans h.tape, k.output.trans h.output, Nat.le_trans h.size k.size, fun i hi hs => (k.block i (Nat.lt_of_lt_of_le hi h.size) hs).trans (h.block i hi hs), fun i cur e hc => by
    obtain ⟨c1, h1, s1⟩ := h.shape i cur e hc
    obtain ⟨c2, h2, s2⟩ := k.shape i c1 e h1
    exact ⟨c2, h2, s2.trans s1⟩⟩
theorem ButS.of {S : Nat → Prop} {w W : World} (hb : Below w.heap.size w W) : ButS S w W :=
  ⟨hb.os, hb.tape, hb.output, hb.size, fun b h _ => hb.block b h, fun b cur e h => ⟨cur, (hb.block b (blk_lt h)).trans h, rfl⟩⟩
theorem ButS.mono {S T : Nat → Prop} {w W : World} (h : ButS S w W) (hst : ∀ b, S b → T b) : ButS T w W := ⟨h.os, h.tape, h.output, h.size, fun b hb ht => h.block b hb (fun hs => ht (hst b hs)), h.shape⟩
theorem ButS.set {S : Nat → Prop} {w : World} {g e : Nat} {cur : Array Value} (h : w.heap[g]? = some (.cells cur e (0, 0))) (hg : S g) (p : Nat) (u : Value) : ButS S w (w.setCell ⟨g, p, none⟩ u) :=
  ⟨rfl, rfl, rfl, by simp [World.setCell], fun b _ hs => Below.heap_setCell w ⟨g, p, none⟩ u b (fun he => hs (by rw [he]; exact hg)), fun b c2 e2 hb => by
    by_cases hbg : b = g
    · subst hbg
      rw [h] at hb
      injection hb with hb
      injection hb with h1 h2 _
      subst h1 h2
      exact ⟨_, blk_put h p u rfl, by simp⟩
    · exact ⟨c2, (Below.heap_setCell w ⟨g, p, none⟩ u b hbg).trans hb, rfl⟩⟩
/-- The block g: cells of type e, s of them, of which the first p hold what 'mv' says. -/
def Filled (w : World) (g e s : Nat) (mv : Nat → Value) (p : Nat) : Prop := ∃ cur : Array Value, w.heap[g]? = some (.cells cur e (0, 0)) ∧ cur.size = s ∧ ∀ q, q < p → cur[q]? = some (mv q)
theorem Filled.start {w : World} {g e : Nat} {cur : Array Value} (h : w.heap[g]? = some (.cells cur e (0, 0))) (mv : Nat → Value) : Filled w g e cur.size mv 0 := ⟨cur, h, rfl, fun q hq => absurd hq (Nat.not_lt_zero _)⟩
theorem Filled.below {w W : World} {g e s p : Nat} {mv : Nat → Value} (h : Filled w g e s mv p) (hb : Below w.heap.size w W) : Filled W g e s mv p := by
  obtain ⟨cur, h1, h2, h3⟩ := h
  exact ⟨cur, blk_below h1 hb, h2, h3⟩
theorem Filled.but {S : Nat → Prop} {w W : World} {g e s p : Nat} {mv : Nat → Value} (h : Filled w g e s mv p) (hb : ButS S w W) (hg : ¬ S g) : Filled W g e s mv p := by
  obtain ⟨cur, h1, h2, h3⟩ := h
  exact ⟨cur, (hb.block g (blk_lt h1) hg).trans h1, h2, h3⟩
theorem Filled.cell {w : World} {g e s p : Nat} {mv : Nat → Value} (h : Filled w g e s mv p) (q : Nat) (hq : q < p) : w.cell? ⟨g, q, none⟩ = some (mv q) := by
  obtain ⟨cur, h1, h2, h3⟩ := h
  rw [blk_cell h1]; exact h3 q hq
theorem Filled.lt {w : World} {g e s p : Nat} {mv : Nat → Value} (h : Filled w g e s mv p) : g < w.heap.size := by
  obtain ⟨cur, h1, _⟩ := h
  exact blk_lt h1
theorem Filled.put {S : Nat → Prop} {w : World} {g e s p : Nat} {mv : Nat → Value} (h : Filled w g e s mv p) (hp : p < s) (hg : S g) : Filled (w.setCell ⟨g, p, none⟩ (mv p)) g e s mv (p + 1) ∧ ButS S w (w.setCell ⟨g, p, none⟩ (mv p)) := by
  obtain ⟨cur, h1, h2, h3⟩ := h
  refine ⟨⟨_, blk_put h1 p _ rfl, by simpa using h2, fun q hq => ?_⟩, ButS.set h1 hg p _⟩
  rw [Array.getElem?_setIfInBounds]
  split
  · next he => subst he; rw [if_pos (by omega)]
  · exact h3 q (by omega)
theorem raw_fill {P : Program} {ops : Array Oper} {rest : List Oper} {o : Oper} {a : Act} {Q : Exit → Act → World → Prop} {S : Nat → Prop} {W : World} {g e s p : Nat} {mv : Nat → Value} (hN : o.dst = none) (hgd : o.guard = none) (t : TypeId) (pp x : Operand) (ho : o.op = .store t pp x) (HX : Filled W g e s mv p) (hg : S g) {o' : Nat} (haddr : a.eval pp = .pointer (some ⟨g, o', none⟩)) (ho' : o' = p) (hx : a.eval x = mv p) (hu : (mv p).cells.toList = [mv p]) (h1 : (mv p).oneCell' = true) (ht : (P.info? t).map (·.size) = some 1) (hp : p < s)
    (h : ∀ w1, Filled w1 g e s mv (p + 1) → ButS S W w1 → wpList P ops Q rest a w1) : wpList P ops Q (o :: rest) a W := by
  subst ho'
  obtain ⟨hf, hb⟩ := Filled.put (S := S) HX hp hg
  obtain ⟨cur, hh, hs, _⟩ := HX
  refine wpList_plain hgd fun K hK => ?_
  have hrun : (Instr.storeAt t (.pointer (some ⟨g, o', none⟩)) (mv o')).run P W = .ok () (W.setCells g o' [mv o']) := run_store_run t _ _ hh hu (by rw [ht]; rfl) (by rw [hs]; exact hp) (by intro q hq; rw [List.mem_singleton.1 hq]; exact h1)
  unfold Oper.wp execOp
  simp only [ho, haddr, hx, Sem.run_bind, Sem.run_pure, Result.andThen_ok, hrun]
  show K (a.put o.dst undef) _
  rw [hN]
  exact hK _ _ (h _ hf hb)
theorem strOfNums_one (v : Int) : (strOfNums [v]).size = 1 := strOfNums_size [v]
theorem mt_l0 : ∀ (n : Nat) (k : Int) (out : ByteArray), 0 ≤ k → k ≤ 4611686018427387904 → k < 10 ^ n → out.size + n + 1 ≤ 4611686018427387904 → ∃ r, laws_markText.l0 (n + 1) k out = some r
  | 0, k, out, h0, hk2, h1, h2 => by
    rw [laws_markText.l0, if_neg (by omega), if_pos (by omega)]
    exact ⟨_, rfl⟩
  | n + 1, k, out, h0, hk2, h1, h2 => by
    rw [laws_markText.l0]
    by_cases hk : k > 0
    · rw [if_pos hk]
      simp only [Option.bind_some]
      rw [strOfNums_one, if_pos (by omega)]
      have hw : wrap64 (Int.tdiv k 10) = k / 10 := by
        rw [Int.tdiv_eq_ediv_of_nonneg h0, wrap64]; omega
      rw [hw]
      exact mt_l0 n (k / 10) _ (by omega) (by omega) (by rw [Int.pow_succ] at h1; omega) (by rw [ByteArray.size_append, strOfNums_one]; omega)
    · rw [if_neg hk, if_pos (by omega)]
      exact ⟨_, rfl⟩
open Classical in
noncomputable def mt (k : Int) : ByteArray := if h : ∃ r, laws_markText.f 20 k = some r then h.choose else ⟨#[]⟩
theorem mt_f (k : Int) (h0 : 0 ≤ k) (h1 : k ≤ 1152921504606846976) : laws_markText.f 20 k = some (mt k) := by
  have h : ∃ r, laws_markText.f 20 k = some r := by
    rw [laws_markText.f]
    split
    · exact ⟨_, rfl⟩
    · exact mt_l0 19 k ⟨#[]⟩ h0 (by omega) (by omega) (by decide)
  rw [mt, dif_pos h]
  exact h.choose_spec
theorem markText1 (k : Int) (w : World) (h0 : 0 ≤ k) (h1 : k ≤ 1152921504606846976) : Calls Tryz.prog 127 #[.int .i64 k] w fun e w' => e = .returned (.string (mt k)) ∧ Below w.heap.size w w' := laws_markText.calls 20 k (mt k) w (mt_f k h0 h1)
noncomputable def mvUser (k : Int) (p : Nat) : Value := match p % 6 with
  | 0 => .string (mt (k + p))
  | 1 => .string (mt (k + p))
  | 2 => .string (mt (k + p))
  | 3 => .string (mt (k + p))
  | 4 => .int .i64 (k + p)
  | _ => .int .i64 (k + p)
theorem mvUser_0 (k : Int) (i : Nat) (x : Int) (hx : x = k + i * 6) : mvUser k (i * 6 + 0) = .string (mt (x)) := by
  have h : (i * 6 + 0) % 6 = 0 := by omega
  have e : k + ((i * 6 + 0 : Nat) : Int) = x := by rw [hx]; push_cast; omega
  simp only [mvUser, h, e]
theorem mvUser_1 (k : Int) (i : Nat) (x : Int) (hx : x = k + i * 6) : mvUser k (i * 6 + 1) = .string (mt (x + 1)) := by
  have h : (i * 6 + 1) % 6 = 1 := by omega
  have e : k + ((i * 6 + 1 : Nat) : Int) = x + 1 := by rw [hx]; push_cast; omega
  simp only [mvUser, h, e]
theorem mvUser_2 (k : Int) (i : Nat) (x : Int) (hx : x = k + i * 6) : mvUser k (i * 6 + 2) = .string (mt (x + 1 + 1)) := by
  have h : (i * 6 + 2) % 6 = 2 := by omega
  have e : k + ((i * 6 + 2 : Nat) : Int) = x + 1 + 1 := by rw [hx]; push_cast; omega
  simp only [mvUser, h, e]
theorem mvUser_3 (k : Int) (i : Nat) (x : Int) (hx : x = k + i * 6) : mvUser k (i * 6 + 3) = .string (mt (x + 1 + 1 + 1)) := by
  have h : (i * 6 + 3) % 6 = 3 := by omega
  have e : k + ((i * 6 + 3 : Nat) : Int) = x + 1 + 1 + 1 := by rw [hx]; push_cast; omega
  simp only [mvUser, h, e]
theorem mvUser_4 (k : Int) (i : Nat) (x : Int) (hx : x = k + i * 6) : mvUser k (i * 6 + 4) = .int .i64 (x + 1 + 1 + 1 + 1) := by
  have h : (i * 6 + 4) % 6 = 4 := by omega
  have e : k + ((i * 6 + 4 : Nat) : Int) = x + 1 + 1 + 1 + 1 := by rw [hx]; push_cast; omega
  simp only [mvUser, h, e]
theorem mvUser_5 (k : Int) (i : Nat) (x : Int) (hx : x = k + i * 6) : mvUser k (i * 6 + 5) = .int .i64 (x + 1 + 1 + 1 + 1 + 1) := by
  have h : (i * 6 + 5) % 6 = 5 := by omega
  have e : k + ((i * 6 + 5 : Nat) : Int) = x + 1 + 1 + 1 + 1 + 1 := by rw [hx]; push_cast; omega
  simp only [mvUser, h, e]
set_option maxHeartbeats 8000000 in
set_option maxRecDepth 100000 in
theorem markUser1 {S : Nat → Prop} (g s n c : Nat) (k : Int) (w : World) (HX : Filled w g 92 s (mvUser k) 0) (hg : S g) (hn : n * 6 ≤ s) (hz : n * 6 ≤ 1152921504606846) (k0 : 0 ≤ k) (k1 : k ≤ 1152921504606846) :
    Calls Tryz.prog 73 #[.slice (some ⟨g, 0, none⟩) n c, .int .i64 k] w fun e w' => e = .returned (.int .i64 (k + n * 6)) ∧ Filled w' g 92 s (mvUser k) (n * 6) ∧ ButS S w w' := by
  have HX := Aside0.mk HX
  have HG := Aside0.mk hg
  have HT := Aside0.mk (ButS.refl S w)
  clear hg
  go_enter Tryz.func73, Tryz.ntmps73
  go_wp2
  go_loopg [1, 5] n (fun gg v1 v5 w' => ∃ i : Int, v1 = .int .i64 (k + i * 6) ∧ v5 = .int .i64 i ∧ 0 ≤ i ∧ i ≤ n ∧ n - i ≤ gg ∧ Aside0 (Filled w' g 92 s (mvUser k) (i.toNat * 6)) ∧ Aside0 (ButS S w w'))
  case atStart => exact ⟨0, by rw [Int.zero_mul, Int.add_zero], rfl, by omega, by omega, by omega, ⟨by rw [show (0 : Int).toNat * 6 = 0 from by decide]; exact HX.out⟩, HT⟩
  case round =>
    clear HX HT
    obtain ⟨i, rfl, rfl, hi0, hi, hgg, HX, HT⟩ := hrel
    by_cases hlt : i < n
    · have hm : i.toNat * 6 + 6 ≤ s := by omega
      have hxx := Aside0.mk (show k + i * 6 = k + (i.toNat : Int) * 6 by omega)
      go_wp2_with (first
        | ((with_reducible refine gate_store rfl ?_); (refine raw_fill (p := i.toNat * 6 + 0) rfl rfl _ _ _ rfl HX.out HG.out rfl (by first | rfl | (simp; done) | (simp; omega) | omega) (by rw [mvUser_0 k i.toNat _ hxx.out]; rfl) (by rw [mvUser_0 k i.toNat _ hxx.out]; rfl) (by rw [mvUser_0 k i.toNat _ hxx.out]; rfl) (by kernel_rfl) (by omega) ?_; intro w3 hf hb; clear HX; have HX := Aside0.mk hf; have n_ := Aside0.mk (HT.out.trans hb); clear HT; have HT := n_; clear n_ hf hb))
        | ((with_reducible refine gate_store rfl ?_); (refine raw_fill (p := i.toNat * 6 + 1) rfl rfl _ _ _ rfl HX.out HG.out rfl (by first | rfl | (simp; done) | (simp; omega) | omega) (by rw [mvUser_1 k i.toNat _ hxx.out]; rfl) (by rw [mvUser_1 k i.toNat _ hxx.out]; rfl) (by rw [mvUser_1 k i.toNat _ hxx.out]; rfl) (by kernel_rfl) (by omega) ?_; intro w3 hf hb; clear HX; have HX := Aside0.mk hf; have n_ := Aside0.mk (HT.out.trans hb); clear HT; have HT := n_; clear n_ hf hb))
        | ((with_reducible refine gate_store rfl ?_); (refine raw_fill (p := i.toNat * 6 + 2) rfl rfl _ _ _ rfl HX.out HG.out rfl (by first | rfl | (simp; done) | (simp; omega) | omega) (by rw [mvUser_2 k i.toNat _ hxx.out]; rfl) (by rw [mvUser_2 k i.toNat _ hxx.out]; rfl) (by rw [mvUser_2 k i.toNat _ hxx.out]; rfl) (by kernel_rfl) (by omega) ?_; intro w3 hf hb; clear HX; have HX := Aside0.mk hf; have n_ := Aside0.mk (HT.out.trans hb); clear HT; have HT := n_; clear n_ hf hb))
        | ((with_reducible refine gate_store rfl ?_); (refine raw_fill (p := i.toNat * 6 + 3) rfl rfl _ _ _ rfl HX.out HG.out rfl (by first | rfl | (simp; done) | (simp; omega) | omega) (by rw [mvUser_3 k i.toNat _ hxx.out]; rfl) (by rw [mvUser_3 k i.toNat _ hxx.out]; rfl) (by rw [mvUser_3 k i.toNat _ hxx.out]; rfl) (by kernel_rfl) (by omega) ?_; intro w3 hf hb; clear HX; have HX := Aside0.mk hf; have n_ := Aside0.mk (HT.out.trans hb); clear HT; have HT := n_; clear n_ hf hb))
        | ((with_reducible refine gate_store rfl ?_); (refine raw_fill (p := i.toNat * 6 + 4) rfl rfl _ _ _ rfl HX.out HG.out rfl (by first | rfl | (simp; done) | (simp; omega) | omega) (by rw [mvUser_4 k i.toNat _ hxx.out]; rfl) (by rw [mvUser_4 k i.toNat _ hxx.out]; rfl) (by rw [mvUser_4 k i.toNat _ hxx.out]; rfl) (by kernel_rfl) (by omega) ?_; intro w3 hf hb; clear HX; have HX := Aside0.mk hf; have n_ := Aside0.mk (HT.out.trans hb); clear HT; have HT := n_; clear n_ hf hb))
        | ((with_reducible refine gate_store rfl ?_); (refine raw_fill (p := i.toNat * 6 + 5) rfl rfl _ _ _ rfl HX.out HG.out rfl (by first | rfl | (simp; done) | (simp; omega) | omega) (by rw [mvUser_5 k i.toNat _ hxx.out]; rfl) (by rw [mvUser_5 k i.toNat _ hxx.out]; rfl) (by rw [mvUser_5 k i.toNat _ hxx.out]; rfl) (by kernel_rfl) (by omega) ?_; intro w3 hf hb; clear HX; have HX := Aside0.mk hf; have n_ := Aside0.mk (HT.out.trans hb); clear HT; have HT := n_; clear n_ hf hb))
        | (go_at_call 127; refine (markText1 _ _ (by omega) (by omega)).mono ?_; rintro e w2 ⟨rfl, hb⟩; have n_ := Aside0.mk (HX.out.below hb); clear HX; have HX := n_; clear n_; have n_ := Aside0.mk (HT.out.trans (ButS.of hb)); clear HT; have HT := n_; clear n_ hb))
      go_roundg (n - (i + 1)).toNat
      case measure => omega
      case rel => exact ⟨i + 1, by congr 1; omega, rfl, by omega, by omega, by omega, ⟨by rw [show (i + 1).toNat * 6 = i.toNat * 6 + 6 by omega]; exact HX.out⟩, HT⟩
    · obtain rfl : i = n := by omega
      go_wp2
      go_ret
      exact ⟨rfl, by rw [Int.toNat_natCast] at HX; exact HX.out, HT.out⟩
set_option maxHeartbeats 8000000 in
set_option maxRecDepth 100000 in
theorem heldUser1 (g s n c : Nat) (k : Int) (w : World) (HX : Filled w g 92 s (mvUser k) (n * 6)) (hn : n * 6 ≤ s) (hz : n * 6 ≤ 1152921504606846) (k0 : 0 ≤ k) (k1 : k ≤ 1152921504606846) :
    Calls Tryz.prog 77 #[.slice (some ⟨g, 0, none⟩) n c, .int .i64 k] w fun e w' => e = .returned (.int .i64 (k + n * 6)) ∧ Below w.heap.size w w' := by
  have HX := Aside0.mk HX
  have HB := Aside0.mk (Below.refl w.heap.size w)
  go_enter Tryz.func77, Tryz.ntmps77
  go_wp2
  go_loopg [1, 5] n (fun gg v1 v5 w' => ∃ i : Int, v1 = .int .i64 (k + i * 6) ∧ v5 = .int .i64 i ∧ 0 ≤ i ∧ i ≤ n ∧ n - i ≤ gg ∧ Aside0 (Below w.heap.size w w'))
  case atStart => exact ⟨0, by rw [Int.zero_mul, Int.add_zero], rfl, by omega, by omega, by omega, HB⟩
  case round =>
    clear HB
    obtain ⟨i, rfl, rfl, hi0, hi, hgg, HB⟩ := hrel
    by_cases hlt : i < n
    · have hm : i.toNat * 6 + 6 ≤ n * 6 := by omega
      have hxx := Aside0.mk (show k + i * 6 = k + (i.toNat : Int) * 6 by omega)
      go_wp2
      have qv0 := Aside0.mk (((HX.out.below HB.out).cell (i.toNat * 6 + 0) (by omega)).trans (congrArg some (mvUser_0 k i.toNat _ hxx.out)))
      refine qS (fun w' => w'.cell? ⟨g, i.toNat * 6, none⟩ = some (.string (mt (k + i * 6)))) 8 (qv0.out) (fun hs => ?_)
      have n_ := Aside0.mk (below_drew1 HB.out)
      clear HB
      have HB := n_
      clear n_
      refine qP 0 12 ?_
      refine qP 1 13 ?_
      refine qP 2 14 ?_
      refine qP 3 15 ?_
      refine qP 5 17 ?_
      refine qT 4 16 hs ?_
      refine q1 6 18 (fun K hK => ?_)
      refine qC Tryz.func127 _ ?_
      refine (markText1 _ _ (by omega) (by omega)).mono ?_
      intro e w2 h2
      obtain ⟨rfl, hb⟩ := h2
      have n_ := Aside0.mk (below_step HB.out hb)
      clear HB
      have HB := n_
      clear n_
      refine ⟨_, rfl, hK.out _ _ (pw_cell_below hb hs) (fun hs2 => ?_)⟩
      clear hK K hs hb
      have hs := hs2
      clear hs2
      refine qN ?_
      refine qP 7 19 ?_
      refine qD ?_
      clear hs
      clear qv0
      go_wp2
      have qv1 := Aside0.mk (((HX.out.below HB.out).cell (i.toNat * 6 + 1) (by omega)).trans (congrArg some (mvUser_1 k i.toNat _ hxx.out)))
      refine qS (fun w' => w'.cell? ⟨g, i.toNat * 6 + 1, none⟩ = some (.string (mt (k + i * 6 + 1)))) 8 (qv1.out) (fun hs => ?_)
      have n_ := Aside0.mk (below_drew1 HB.out)
      clear HB
      have HB := n_
      clear n_
      refine qP 0 22 ?_
      refine qP 1 23 ?_
      refine qP 2 24 ?_
      refine qP 3 25 ?_
      refine qP 5 27 ?_
      refine qT 4 26 hs ?_
      refine q1 6 28 (fun K hK => ?_)
      refine qC Tryz.func127 _ ?_
      refine (markText1 _ _ (by omega) (by omega)).mono ?_
      intro e w2 h2
      obtain ⟨rfl, hb⟩ := h2
      have n_ := Aside0.mk (below_step HB.out hb)
      clear HB
      have HB := n_
      clear n_
      refine ⟨_, rfl, hK.out _ _ (pw_cell_below hb hs) (fun hs2 => ?_)⟩
      clear hK K hs hb
      have hs := hs2
      clear hs2
      refine qN ?_
      refine qP 7 29 ?_
      refine qD ?_
      clear hs
      clear qv1
      go_wp2
      have qv2 := Aside0.mk (((HX.out.below HB.out).cell (i.toNat * 6 + 2) (by omega)).trans (congrArg some (mvUser_2 k i.toNat _ hxx.out)))
      refine qS (fun w' => w'.cell? ⟨g, i.toNat * 6 + 2, none⟩ = some (.string (mt (k + i * 6 + 1 + 1)))) 8 (qv2.out) (fun hs => ?_)
      have n_ := Aside0.mk (below_drew1 HB.out)
      clear HB
      have HB := n_
      clear n_
      refine qP 0 32 ?_
      refine qP 1 33 ?_
      refine qP 2 34 ?_
      refine qP 3 35 ?_
      refine qP 5 37 ?_
      refine qT 4 36 hs ?_
      refine q1 6 38 (fun K hK => ?_)
      refine qC Tryz.func127 _ ?_
      refine (markText1 _ _ (by omega) (by omega)).mono ?_
      intro e w2 h2
      obtain ⟨rfl, hb⟩ := h2
      have n_ := Aside0.mk (below_step HB.out hb)
      clear HB
      have HB := n_
      clear n_
      refine ⟨_, rfl, hK.out _ _ (pw_cell_below hb hs) (fun hs2 => ?_)⟩
      clear hK K hs hb
      have hs := hs2
      clear hs2
      refine qN ?_
      refine qP 7 39 ?_
      refine qD ?_
      clear hs
      clear qv2
      go_wp2
      have qv3 := Aside0.mk (((HX.out.below HB.out).cell (i.toNat * 6 + 3) (by omega)).trans (congrArg some (mvUser_3 k i.toNat _ hxx.out)))
      refine qS (fun w' => w'.cell? ⟨g, i.toNat * 6 + 3, none⟩ = some (.string (mt (k + i * 6 + 1 + 1 + 1)))) 8 (qv3.out) (fun hs => ?_)
      have n_ := Aside0.mk (below_drew1 HB.out)
      clear HB
      have HB := n_
      clear n_
      refine qP 0 42 ?_
      refine qP 1 43 ?_
      refine qP 2 44 ?_
      refine qP 3 45 ?_
      refine qP 5 47 ?_
      refine qT 4 46 hs ?_
      refine q1 6 48 (fun K hK => ?_)
      refine qC Tryz.func127 _ ?_
      refine (markText1 _ _ (by omega) (by omega)).mono ?_
      intro e w2 h2
      obtain ⟨rfl, hb⟩ := h2
      have n_ := Aside0.mk (below_step HB.out hb)
      clear HB
      have HB := n_
      clear n_
      refine ⟨_, rfl, hK.out _ _ (pw_cell_below hb hs) (fun hs2 => ?_)⟩
      clear hK K hs hb
      have hs := hs2
      clear hs2
      refine qN ?_
      refine qP 7 49 ?_
      refine qD ?_
      clear hs
      clear qv3
      have qv4 := Aside0.mk (((HX.out.below HB.out).cell (i.toNat * 6 + 4) (by omega)).trans (congrArg some (mvUser_4 k i.toNat _ hxx.out)))
      have r4 := qv4.out
      clear qv4
      have qv5 := Aside0.mk (((HX.out.below HB.out).cell (i.toNat * 6 + 5) (by omega)).trans (congrArg some (mvUser_5 k i.toNat _ hxx.out)))
      have r5 := qv5.out
      clear qv5
      go_wp2
      clear r4
      clear r5
      go_roundg (n - (i + 1)).toNat
      case measure => omega
      case rel => exact ⟨i + 1, by congr 1; omega, rfl, by omega, by omega, by omega, HB⟩
    · obtain rfl : i = n := by omega
      go_wp2
      go_ret
      exact ⟨rfl, HB.out⟩
noncomputable def mvSession (k : Int) (p : Nat) : Value := match p % 10 with
  | 0 => .int .i64 (k + p)
  | 1 => .int .i64 (k + p)
  | 2 => .string (mt (k + p))
  | 3 => .int .i64 (k + p)
  | 4 => .int .i64 (k + p)
  | 5 => .int .i64 (k + p)
  | 6 => .int .i64 (k + p)
  | 7 => .int .i64 (k + p)
  | 8 => .int .i64 (k + p)
  | _ => .int .i64 (k + p)
theorem mvSession_0 (k : Int) (i : Nat) (x : Int) (hx : x = k + i * 10) : mvSession k (i * 10 + 0) = .int .i64 (x) := by
  have h : (i * 10 + 0) % 10 = 0 := by omega
  have e : k + ((i * 10 + 0 : Nat) : Int) = x := by rw [hx]; push_cast; omega
  simp only [mvSession, h, e]
theorem mvSession_1 (k : Int) (i : Nat) (x : Int) (hx : x = k + i * 10) : mvSession k (i * 10 + 1) = .int .i64 (x + 1) := by
  have h : (i * 10 + 1) % 10 = 1 := by omega
  have e : k + ((i * 10 + 1 : Nat) : Int) = x + 1 := by rw [hx]; push_cast; omega
  simp only [mvSession, h, e]
theorem mvSession_2 (k : Int) (i : Nat) (x : Int) (hx : x = k + i * 10) : mvSession k (i * 10 + 2) = .string (mt (x + 1 + 1)) := by
  have h : (i * 10 + 2) % 10 = 2 := by omega
  have e : k + ((i * 10 + 2 : Nat) : Int) = x + 1 + 1 := by rw [hx]; push_cast; omega
  simp only [mvSession, h, e]
theorem mvSession_3 (k : Int) (i : Nat) (x : Int) (hx : x = k + i * 10) : mvSession k (i * 10 + 3) = .int .i64 (x + 1 + 1 + 1) := by
  have h : (i * 10 + 3) % 10 = 3 := by omega
  have e : k + ((i * 10 + 3 : Nat) : Int) = x + 1 + 1 + 1 := by rw [hx]; push_cast; omega
  simp only [mvSession, h, e]
theorem mvSession_4 (k : Int) (i : Nat) (x : Int) (hx : x = k + i * 10) : mvSession k (i * 10 + 4) = .int .i64 (x + 1 + 1 + 1 + 1) := by
  have h : (i * 10 + 4) % 10 = 4 := by omega
  have e : k + ((i * 10 + 4 : Nat) : Int) = x + 1 + 1 + 1 + 1 := by rw [hx]; push_cast; omega
  simp only [mvSession, h, e]
theorem mvSession_5 (k : Int) (i : Nat) (x : Int) (hx : x = k + i * 10) : mvSession k (i * 10 + 5) = .int .i64 (x + 1 + 1 + 1 + 1 + 1) := by
  have h : (i * 10 + 5) % 10 = 5 := by omega
  have e : k + ((i * 10 + 5 : Nat) : Int) = x + 1 + 1 + 1 + 1 + 1 := by rw [hx]; push_cast; omega
  simp only [mvSession, h, e]
theorem mvSession_6 (k : Int) (i : Nat) (x : Int) (hx : x = k + i * 10) : mvSession k (i * 10 + 6) = .int .i64 (x + 1 + 1 + 1 + 1 + 1 + 1) := by
  have h : (i * 10 + 6) % 10 = 6 := by omega
  have e : k + ((i * 10 + 6 : Nat) : Int) = x + 1 + 1 + 1 + 1 + 1 + 1 := by rw [hx]; push_cast; omega
  simp only [mvSession, h, e]
theorem mvSession_7 (k : Int) (i : Nat) (x : Int) (hx : x = k + i * 10) : mvSession k (i * 10 + 7) = .int .i64 (x + 1 + 1 + 1 + 1 + 1 + 1 + 1) := by
  have h : (i * 10 + 7) % 10 = 7 := by omega
  have e : k + ((i * 10 + 7 : Nat) : Int) = x + 1 + 1 + 1 + 1 + 1 + 1 + 1 := by rw [hx]; push_cast; omega
  simp only [mvSession, h, e]
theorem mvSession_8 (k : Int) (i : Nat) (x : Int) (hx : x = k + i * 10) : mvSession k (i * 10 + 8) = .int .i64 (x + 1 + 1 + 1 + 1 + 1 + 1 + 1 + 1) := by
  have h : (i * 10 + 8) % 10 = 8 := by omega
  have e : k + ((i * 10 + 8 : Nat) : Int) = x + 1 + 1 + 1 + 1 + 1 + 1 + 1 + 1 := by rw [hx]; push_cast; omega
  simp only [mvSession, h, e]
theorem mvSession_9 (k : Int) (i : Nat) (x : Int) (hx : x = k + i * 10) : mvSession k (i * 10 + 9) = .int .i64 (x + 1 + 1 + 1 + 1 + 1 + 1 + 1 + 1 + 1) := by
  have h : (i * 10 + 9) % 10 = 9 := by omega
  have e : k + ((i * 10 + 9 : Nat) : Int) = x + 1 + 1 + 1 + 1 + 1 + 1 + 1 + 1 + 1 := by rw [hx]; push_cast; omega
  simp only [mvSession, h, e]
set_option maxHeartbeats 8000000 in
set_option maxRecDepth 100000 in
theorem markSession1 {S : Nat → Prop} (g s n c : Nat) (k : Int) (w : World) (HX : Filled w g 76 s (mvSession k) 0) (hg : S g) (hn : n * 10 ≤ s) (hz : n * 10 ≤ 1152921504606846) (k0 : 0 ≤ k) (k1 : k ≤ 1152921504606846) :
    Calls Tryz.prog 74 #[.slice (some ⟨g, 0, none⟩) n c, .int .i64 k] w fun e w' => e = .returned (.int .i64 (k + n * 10)) ∧ Filled w' g 76 s (mvSession k) (n * 10) ∧ ButS S w w' := by
  have HX := Aside0.mk HX
  have HG := Aside0.mk hg
  have HT := Aside0.mk (ButS.refl S w)
  clear hg
  go_enter Tryz.func74, Tryz.ntmps74
  go_wp2
  go_loopg [1, 5] n (fun gg v1 v5 w' => ∃ i : Int, v1 = .int .i64 (k + i * 10) ∧ v5 = .int .i64 i ∧ 0 ≤ i ∧ i ≤ n ∧ n - i ≤ gg ∧ Aside0 (Filled w' g 76 s (mvSession k) (i.toNat * 10)) ∧ Aside0 (ButS S w w'))
  case atStart => exact ⟨0, by rw [Int.zero_mul, Int.add_zero], rfl, by omega, by omega, by omega, ⟨by rw [show (0 : Int).toNat * 10 = 0 from by decide]; exact HX.out⟩, HT⟩
  case round =>
    clear HX HT
    obtain ⟨i, rfl, rfl, hi0, hi, hgg, HX, HT⟩ := hrel
    by_cases hlt : i < n
    · have hm : i.toNat * 10 + 10 ≤ s := by omega
      have hxx := Aside0.mk (show k + i * 10 = k + (i.toNat : Int) * 10 by omega)
      go_wp2_with (first
        | ((with_reducible refine gate_store rfl ?_); (refine raw_fill (p := i.toNat * 10 + 0) rfl rfl _ _ _ rfl HX.out HG.out rfl (by first | rfl | (simp; done) | (simp; omega) | omega) (by rw [mvSession_0 k i.toNat _ hxx.out]; rfl) (by rw [mvSession_0 k i.toNat _ hxx.out]; rfl) (by rw [mvSession_0 k i.toNat _ hxx.out]; rfl) (by kernel_rfl) (by omega) ?_; intro w3 hf hb; clear HX; have HX := Aside0.mk hf; have n_ := Aside0.mk (HT.out.trans hb); clear HT; have HT := n_; clear n_ hf hb))
        | ((with_reducible refine gate_store rfl ?_); (refine raw_fill (p := i.toNat * 10 + 1) rfl rfl _ _ _ rfl HX.out HG.out rfl (by first | rfl | (simp; done) | (simp; omega) | omega) (by rw [mvSession_1 k i.toNat _ hxx.out]; rfl) (by rw [mvSession_1 k i.toNat _ hxx.out]; rfl) (by rw [mvSession_1 k i.toNat _ hxx.out]; rfl) (by kernel_rfl) (by omega) ?_; intro w3 hf hb; clear HX; have HX := Aside0.mk hf; have n_ := Aside0.mk (HT.out.trans hb); clear HT; have HT := n_; clear n_ hf hb))
        | ((with_reducible refine gate_store rfl ?_); (refine raw_fill (p := i.toNat * 10 + 2) rfl rfl _ _ _ rfl HX.out HG.out rfl (by first | rfl | (simp; done) | (simp; omega) | omega) (by rw [mvSession_2 k i.toNat _ hxx.out]; rfl) (by rw [mvSession_2 k i.toNat _ hxx.out]; rfl) (by rw [mvSession_2 k i.toNat _ hxx.out]; rfl) (by kernel_rfl) (by omega) ?_; intro w3 hf hb; clear HX; have HX := Aside0.mk hf; have n_ := Aside0.mk (HT.out.trans hb); clear HT; have HT := n_; clear n_ hf hb))
        | ((with_reducible refine gate_store rfl ?_); (refine raw_fill (p := i.toNat * 10 + 3) rfl rfl _ _ _ rfl HX.out HG.out rfl (by first | rfl | (simp; done) | (simp; omega) | omega) (by rw [mvSession_3 k i.toNat _ hxx.out]; rfl) (by rw [mvSession_3 k i.toNat _ hxx.out]; rfl) (by rw [mvSession_3 k i.toNat _ hxx.out]; rfl) (by kernel_rfl) (by omega) ?_; intro w3 hf hb; clear HX; have HX := Aside0.mk hf; have n_ := Aside0.mk (HT.out.trans hb); clear HT; have HT := n_; clear n_ hf hb))
        | ((with_reducible refine gate_store rfl ?_); (refine raw_fill (p := i.toNat * 10 + 4) rfl rfl _ _ _ rfl HX.out HG.out rfl (by first | rfl | (simp; done) | (simp; omega) | omega) (by rw [mvSession_4 k i.toNat _ hxx.out]; rfl) (by rw [mvSession_4 k i.toNat _ hxx.out]; rfl) (by rw [mvSession_4 k i.toNat _ hxx.out]; rfl) (by kernel_rfl) (by omega) ?_; intro w3 hf hb; clear HX; have HX := Aside0.mk hf; have n_ := Aside0.mk (HT.out.trans hb); clear HT; have HT := n_; clear n_ hf hb))
        | ((with_reducible refine gate_store rfl ?_); (refine raw_fill (p := i.toNat * 10 + 5) rfl rfl _ _ _ rfl HX.out HG.out rfl (by first | rfl | (simp; done) | (simp; omega) | omega) (by rw [mvSession_5 k i.toNat _ hxx.out]; rfl) (by rw [mvSession_5 k i.toNat _ hxx.out]; rfl) (by rw [mvSession_5 k i.toNat _ hxx.out]; rfl) (by kernel_rfl) (by omega) ?_; intro w3 hf hb; clear HX; have HX := Aside0.mk hf; have n_ := Aside0.mk (HT.out.trans hb); clear HT; have HT := n_; clear n_ hf hb))
        | ((with_reducible refine gate_store rfl ?_); (refine raw_fill (p := i.toNat * 10 + 6) rfl rfl _ _ _ rfl HX.out HG.out rfl (by first | rfl | (simp; done) | (simp; omega) | omega) (by rw [mvSession_6 k i.toNat _ hxx.out]; rfl) (by rw [mvSession_6 k i.toNat _ hxx.out]; rfl) (by rw [mvSession_6 k i.toNat _ hxx.out]; rfl) (by kernel_rfl) (by omega) ?_; intro w3 hf hb; clear HX; have HX := Aside0.mk hf; have n_ := Aside0.mk (HT.out.trans hb); clear HT; have HT := n_; clear n_ hf hb))
        | ((with_reducible refine gate_store rfl ?_); (refine raw_fill (p := i.toNat * 10 + 7) rfl rfl _ _ _ rfl HX.out HG.out rfl (by first | rfl | (simp; done) | (simp; omega) | omega) (by rw [mvSession_7 k i.toNat _ hxx.out]; rfl) (by rw [mvSession_7 k i.toNat _ hxx.out]; rfl) (by rw [mvSession_7 k i.toNat _ hxx.out]; rfl) (by kernel_rfl) (by omega) ?_; intro w3 hf hb; clear HX; have HX := Aside0.mk hf; have n_ := Aside0.mk (HT.out.trans hb); clear HT; have HT := n_; clear n_ hf hb))
        | ((with_reducible refine gate_store rfl ?_); (refine raw_fill (p := i.toNat * 10 + 8) rfl rfl _ _ _ rfl HX.out HG.out rfl (by first | rfl | (simp; done) | (simp; omega) | omega) (by rw [mvSession_8 k i.toNat _ hxx.out]; rfl) (by rw [mvSession_8 k i.toNat _ hxx.out]; rfl) (by rw [mvSession_8 k i.toNat _ hxx.out]; rfl) (by kernel_rfl) (by omega) ?_; intro w3 hf hb; clear HX; have HX := Aside0.mk hf; have n_ := Aside0.mk (HT.out.trans hb); clear HT; have HT := n_; clear n_ hf hb))
        | ((with_reducible refine gate_store rfl ?_); (refine raw_fill (p := i.toNat * 10 + 9) rfl rfl _ _ _ rfl HX.out HG.out rfl (by first | rfl | (simp; done) | (simp; omega) | omega) (by rw [mvSession_9 k i.toNat _ hxx.out]; rfl) (by rw [mvSession_9 k i.toNat _ hxx.out]; rfl) (by rw [mvSession_9 k i.toNat _ hxx.out]; rfl) (by kernel_rfl) (by omega) ?_; intro w3 hf hb; clear HX; have HX := Aside0.mk hf; have n_ := Aside0.mk (HT.out.trans hb); clear HT; have HT := n_; clear n_ hf hb))
        | (go_at_call 127; refine (markText1 _ _ (by omega) (by omega)).mono ?_; rintro e w2 ⟨rfl, hb⟩; have n_ := Aside0.mk (HX.out.below hb); clear HX; have HX := n_; clear n_; have n_ := Aside0.mk (HT.out.trans (ButS.of hb)); clear HT; have HT := n_; clear n_ hb))
      go_roundg (n - (i + 1)).toNat
      case measure => omega
      case rel => exact ⟨i + 1, by congr 1; omega, rfl, by omega, by omega, by omega, ⟨by rw [show (i + 1).toNat * 10 = i.toNat * 10 + 10 by omega]; exact HX.out⟩, HT⟩
    · obtain rfl : i = n := by omega
      go_wp2
      go_ret
      exact ⟨rfl, by rw [Int.toNat_natCast] at HX; exact HX.out, HT.out⟩
set_option maxHeartbeats 8000000 in
set_option maxRecDepth 100000 in
theorem heldSession1 (g s n c : Nat) (k : Int) (w : World) (HX : Filled w g 76 s (mvSession k) (n * 10)) (hn : n * 10 ≤ s) (hz : n * 10 ≤ 1152921504606846) (k0 : 0 ≤ k) (k1 : k ≤ 1152921504606846) :
    Calls Tryz.prog 78 #[.slice (some ⟨g, 0, none⟩) n c, .int .i64 k] w fun e w' => e = .returned (.int .i64 (k + n * 10)) ∧ Below w.heap.size w w' := by
  have HX := Aside0.mk HX
  have HB := Aside0.mk (Below.refl w.heap.size w)
  go_enter Tryz.func78, Tryz.ntmps78
  go_wp2
  go_loopg [1, 5] n (fun gg v1 v5 w' => ∃ i : Int, v1 = .int .i64 (k + i * 10) ∧ v5 = .int .i64 i ∧ 0 ≤ i ∧ i ≤ n ∧ n - i ≤ gg ∧ Aside0 (Below w.heap.size w w'))
  case atStart => exact ⟨0, by rw [Int.zero_mul, Int.add_zero], rfl, by omega, by omega, by omega, HB⟩
  case round =>
    clear HB
    obtain ⟨i, rfl, rfl, hi0, hi, hgg, HB⟩ := hrel
    by_cases hlt : i < n
    · have hm : i.toNat * 10 + 10 ≤ n * 10 := by omega
      have hxx := Aside0.mk (show k + i * 10 = k + (i.toNat : Int) * 10 by omega)
      have qv0 := Aside0.mk (((HX.out.below HB.out).cell (i.toNat * 10 + 0) (by omega)).trans (congrArg some (mvSession_0 k i.toNat _ hxx.out)))
      have r0 := qv0.out
      clear qv0
      have qv1 := Aside0.mk (((HX.out.below HB.out).cell (i.toNat * 10 + 1) (by omega)).trans (congrArg some (mvSession_1 k i.toNat _ hxx.out)))
      have r1 := qv1.out
      clear qv1
      rw [Nat.add_zero] at r0
      go_wp2
      clear r0
      clear r1
      have qv2 := Aside0.mk (((HX.out.below HB.out).cell (i.toNat * 10 + 2) (by omega)).trans (congrArg some (mvSession_2 k i.toNat _ hxx.out)))
      refine qS (fun w' => w'.cell? ⟨g, i.toNat * 10 + 2, none⟩ = some (.string (mt (k + i * 10 + 1 + 1)))) 8 (qv2.out) (fun hs => ?_)
      have n_ := Aside0.mk (below_drew1 HB.out)
      clear HB
      have HB := n_
      clear n_
      refine qP 0 30 ?_
      refine qP 1 31 ?_
      refine qP 2 32 ?_
      refine qP 3 33 ?_
      refine qP 5 35 ?_
      refine qT 4 34 hs ?_
      refine q1 6 36 (fun K hK => ?_)
      refine qC Tryz.func127 _ ?_
      refine (markText1 _ _ (by omega) (by omega)).mono ?_
      intro e w2 h2
      obtain ⟨rfl, hb⟩ := h2
      have n_ := Aside0.mk (below_step HB.out hb)
      clear HB
      have HB := n_
      clear n_
      refine ⟨_, rfl, hK.out _ _ (pw_cell_below hb hs) (fun hs2 => ?_)⟩
      clear hK K hs hb
      have hs := hs2
      clear hs2
      refine qN ?_
      refine qP 7 37 ?_
      refine qD ?_
      clear hs
      clear qv2
      have qv3 := Aside0.mk (((HX.out.below HB.out).cell (i.toNat * 10 + 3) (by omega)).trans (congrArg some (mvSession_3 k i.toNat _ hxx.out)))
      have r3 := qv3.out
      clear qv3
      have qv4 := Aside0.mk (((HX.out.below HB.out).cell (i.toNat * 10 + 4) (by omega)).trans (congrArg some (mvSession_4 k i.toNat _ hxx.out)))
      have r4 := qv4.out
      clear qv4
      have qv5 := Aside0.mk (((HX.out.below HB.out).cell (i.toNat * 10 + 5) (by omega)).trans (congrArg some (mvSession_5 k i.toNat _ hxx.out)))
      have r5 := qv5.out
      clear qv5
      have qv6 := Aside0.mk (((HX.out.below HB.out).cell (i.toNat * 10 + 6) (by omega)).trans (congrArg some (mvSession_6 k i.toNat _ hxx.out)))
      have r6 := qv6.out
      clear qv6
      have qv7 := Aside0.mk (((HX.out.below HB.out).cell (i.toNat * 10 + 7) (by omega)).trans (congrArg some (mvSession_7 k i.toNat _ hxx.out)))
      have r7 := qv7.out
      clear qv7
      have qv8 := Aside0.mk (((HX.out.below HB.out).cell (i.toNat * 10 + 8) (by omega)).trans (congrArg some (mvSession_8 k i.toNat _ hxx.out)))
      have r8 := qv8.out
      clear qv8
      have qv9 := Aside0.mk (((HX.out.below HB.out).cell (i.toNat * 10 + 9) (by omega)).trans (congrArg some (mvSession_9 k i.toNat _ hxx.out)))
      have r9 := qv9.out
      clear qv9
      go_wp2
      clear r3
      clear r4
      clear r5
      clear r6
      clear r7
      clear r8
      clear r9
      go_roundg (n - (i + 1)).toNat
      case measure => omega
      case rel => exact ⟨i + 1, by congr 1; omega, rfl, by omega, by omega, by omega, HB⟩
    · obtain rfl : i = n := by omega
      go_wp2
      go_ret
      exact ⟨rfl, HB.out⟩
noncomputable def mvFail (k : Int) (p : Nat) : Value := match p % 3 with
  | 0 => .string (mt (k + p))
  | 1 => .int .i64 (k + p)
  | _ => .int .i64 (k + p)
theorem mvFail_0 (k : Int) (i : Nat) (x : Int) (hx : x = k + i * 3) : mvFail k (i * 3 + 0) = .string (mt (x)) := by
  have h : (i * 3 + 0) % 3 = 0 := by omega
  have e : k + ((i * 3 + 0 : Nat) : Int) = x := by rw [hx]; push_cast; omega
  simp only [mvFail, h, e]
theorem mvFail_1 (k : Int) (i : Nat) (x : Int) (hx : x = k + i * 3) : mvFail k (i * 3 + 1) = .int .i64 (x + 1) := by
  have h : (i * 3 + 1) % 3 = 1 := by omega
  have e : k + ((i * 3 + 1 : Nat) : Int) = x + 1 := by rw [hx]; push_cast; omega
  simp only [mvFail, h, e]
theorem mvFail_2 (k : Int) (i : Nat) (x : Int) (hx : x = k + i * 3) : mvFail k (i * 3 + 2) = .int .i64 (x + 1 + 1) := by
  have h : (i * 3 + 2) % 3 = 2 := by omega
  have e : k + ((i * 3 + 2 : Nat) : Int) = x + 1 + 1 := by rw [hx]; push_cast; omega
  simp only [mvFail, h, e]
set_option maxHeartbeats 8000000 in
set_option maxRecDepth 100000 in
theorem markFail1 {S : Nat → Prop} (g s n c : Nat) (k : Int) (w : World) (HX : Filled w g 81 s (mvFail k) 0) (hg : S g) (hn : n * 3 ≤ s) (hz : n * 3 ≤ 1152921504606846) (k0 : 0 ≤ k) (k1 : k ≤ 1152921504606846) :
    Calls Tryz.prog 75 #[.slice (some ⟨g, 0, none⟩) n c, .int .i64 k] w fun e w' => e = .returned (.int .i64 (k + n * 3)) ∧ Filled w' g 81 s (mvFail k) (n * 3) ∧ ButS S w w' := by
  have HX := Aside0.mk HX
  have HG := Aside0.mk hg
  have HT := Aside0.mk (ButS.refl S w)
  clear hg
  go_enter Tryz.func75, Tryz.ntmps75
  go_wp2
  go_loopg [1, 5] n (fun gg v1 v5 w' => ∃ i : Int, v1 = .int .i64 (k + i * 3) ∧ v5 = .int .i64 i ∧ 0 ≤ i ∧ i ≤ n ∧ n - i ≤ gg ∧ Aside0 (Filled w' g 81 s (mvFail k) (i.toNat * 3)) ∧ Aside0 (ButS S w w'))
  case atStart => exact ⟨0, by rw [Int.zero_mul, Int.add_zero], rfl, by omega, by omega, by omega, ⟨by rw [show (0 : Int).toNat * 3 = 0 from by decide]; exact HX.out⟩, HT⟩
  case round =>
    clear HX HT
    obtain ⟨i, rfl, rfl, hi0, hi, hgg, HX, HT⟩ := hrel
    by_cases hlt : i < n
    · have hm : i.toNat * 3 + 3 ≤ s := by omega
      have hxx := Aside0.mk (show k + i * 3 = k + (i.toNat : Int) * 3 by omega)
      go_wp2_with (first
        | ((with_reducible refine gate_store rfl ?_); (refine raw_fill (p := i.toNat * 3 + 0) rfl rfl _ _ _ rfl HX.out HG.out rfl (by first | rfl | (simp; done) | (simp; omega) | omega) (by rw [mvFail_0 k i.toNat _ hxx.out]; rfl) (by rw [mvFail_0 k i.toNat _ hxx.out]; rfl) (by rw [mvFail_0 k i.toNat _ hxx.out]; rfl) (by kernel_rfl) (by omega) ?_; intro w3 hf hb; clear HX; have HX := Aside0.mk hf; have n_ := Aside0.mk (HT.out.trans hb); clear HT; have HT := n_; clear n_ hf hb))
        | ((with_reducible refine gate_store rfl ?_); (refine raw_fill (p := i.toNat * 3 + 1) rfl rfl _ _ _ rfl HX.out HG.out rfl (by first | rfl | (simp; done) | (simp; omega) | omega) (by rw [mvFail_1 k i.toNat _ hxx.out]; rfl) (by rw [mvFail_1 k i.toNat _ hxx.out]; rfl) (by rw [mvFail_1 k i.toNat _ hxx.out]; rfl) (by kernel_rfl) (by omega) ?_; intro w3 hf hb; clear HX; have HX := Aside0.mk hf; have n_ := Aside0.mk (HT.out.trans hb); clear HT; have HT := n_; clear n_ hf hb))
        | ((with_reducible refine gate_store rfl ?_); (refine raw_fill (p := i.toNat * 3 + 2) rfl rfl _ _ _ rfl HX.out HG.out rfl (by first | rfl | (simp; done) | (simp; omega) | omega) (by rw [mvFail_2 k i.toNat _ hxx.out]; rfl) (by rw [mvFail_2 k i.toNat _ hxx.out]; rfl) (by rw [mvFail_2 k i.toNat _ hxx.out]; rfl) (by kernel_rfl) (by omega) ?_; intro w3 hf hb; clear HX; have HX := Aside0.mk hf; have n_ := Aside0.mk (HT.out.trans hb); clear HT; have HT := n_; clear n_ hf hb))
        | (go_at_call 127; refine (markText1 _ _ (by omega) (by omega)).mono ?_; rintro e w2 ⟨rfl, hb⟩; have n_ := Aside0.mk (HX.out.below hb); clear HX; have HX := n_; clear n_; have n_ := Aside0.mk (HT.out.trans (ButS.of hb)); clear HT; have HT := n_; clear n_ hb))
      go_roundg (n - (i + 1)).toNat
      case measure => omega
      case rel => exact ⟨i + 1, by congr 1; omega, rfl, by omega, by omega, by omega, ⟨by rw [show (i + 1).toNat * 3 = i.toNat * 3 + 3 by omega]; exact HX.out⟩, HT⟩
    · obtain rfl : i = n := by omega
      go_wp2
      go_ret
      exact ⟨rfl, by rw [Int.toNat_natCast] at HX; exact HX.out, HT.out⟩
set_option maxHeartbeats 8000000 in
set_option maxRecDepth 100000 in
theorem heldFail1 (g s n c : Nat) (k : Int) (w : World) (HX : Filled w g 81 s (mvFail k) (n * 3)) (hn : n * 3 ≤ s) (hz : n * 3 ≤ 1152921504606846) (k0 : 0 ≤ k) (k1 : k ≤ 1152921504606846) :
    Calls Tryz.prog 79 #[.slice (some ⟨g, 0, none⟩) n c, .int .i64 k] w fun e w' => e = .returned (.int .i64 (k + n * 3)) ∧ Below w.heap.size w w' := by
  have HX := Aside0.mk HX
  have HB := Aside0.mk (Below.refl w.heap.size w)
  go_enter Tryz.func79, Tryz.ntmps79
  go_wp2
  go_loopg [1, 5] n (fun gg v1 v5 w' => ∃ i : Int, v1 = .int .i64 (k + i * 3) ∧ v5 = .int .i64 i ∧ 0 ≤ i ∧ i ≤ n ∧ n - i ≤ gg ∧ Aside0 (Below w.heap.size w w'))
  case atStart => exact ⟨0, by rw [Int.zero_mul, Int.add_zero], rfl, by omega, by omega, by omega, HB⟩
  case round =>
    clear HB
    obtain ⟨i, rfl, rfl, hi0, hi, hgg, HB⟩ := hrel
    by_cases hlt : i < n
    · have hm : i.toNat * 3 + 3 ≤ n * 3 := by omega
      have hxx := Aside0.mk (show k + i * 3 = k + (i.toNat : Int) * 3 by omega)
      go_wp2
      have qv0 := Aside0.mk (((HX.out.below HB.out).cell (i.toNat * 3 + 0) (by omega)).trans (congrArg some (mvFail_0 k i.toNat _ hxx.out)))
      refine qS (fun w' => w'.cell? ⟨g, i.toNat * 3, none⟩ = some (.string (mt (k + i * 3)))) 8 (qv0.out) (fun hs => ?_)
      have n_ := Aside0.mk (below_drew1 HB.out)
      clear HB
      have HB := n_
      clear n_
      refine qP 0 12 ?_
      refine qP 1 13 ?_
      refine qP 2 14 ?_
      refine qP 3 15 ?_
      refine qP 5 17 ?_
      refine qT 4 16 hs ?_
      refine q1 6 18 (fun K hK => ?_)
      refine qC Tryz.func127 _ ?_
      refine (markText1 _ _ (by omega) (by omega)).mono ?_
      intro e w2 h2
      obtain ⟨rfl, hb⟩ := h2
      have n_ := Aside0.mk (below_step HB.out hb)
      clear HB
      have HB := n_
      clear n_
      refine ⟨_, rfl, hK.out _ _ (pw_cell_below hb hs) (fun hs2 => ?_)⟩
      clear hK K hs hb
      have hs := hs2
      clear hs2
      refine qN ?_
      refine qP 7 19 ?_
      refine qD ?_
      clear hs
      clear qv0
      have qv1 := Aside0.mk (((HX.out.below HB.out).cell (i.toNat * 3 + 1) (by omega)).trans (congrArg some (mvFail_1 k i.toNat _ hxx.out)))
      have r1 := qv1.out
      clear qv1
      have qv2 := Aside0.mk (((HX.out.below HB.out).cell (i.toNat * 3 + 2) (by omega)).trans (congrArg some (mvFail_2 k i.toNat _ hxx.out)))
      have r2 := qv2.out
      clear qv2
      go_wp2
      clear r1
      clear r2
      go_roundg (n - (i + 1)).toNat
      case measure => omega
      case rel => exact ⟨i + 1, by congr 1; omega, rfl, by omega, by omega, by omega, HB⟩
    · obtain rfl : i = n := by omega
      go_wp2
      go_ret
      exact ⟨rfl, HB.out⟩
noncomputable def mvRecord (k : Int) (p : Nat) : Value := match p % 5 with
  | 0 => .int .i64 (k + p)
  | 1 => .int .i64 (k + p)
  | 2 => .int .i64 (k + p)
  | 3 => .int .i64 (k + p)
  | _ => .bool ((k + p) % 3 == 0)
theorem mvRecord_0 (k : Int) (i : Nat) (x : Int) (hx : x = k + i * 5) : mvRecord k (i * 5 + 0) = .int .i64 (x) := by
  have h : (i * 5 + 0) % 5 = 0 := by omega
  have e : k + ((i * 5 + 0 : Nat) : Int) = x := by rw [hx]; push_cast; omega
  simp only [mvRecord, h, e]
theorem mvRecord_1 (k : Int) (i : Nat) (x : Int) (hx : x = k + i * 5) : mvRecord k (i * 5 + 1) = .int .i64 (x + 1) := by
  have h : (i * 5 + 1) % 5 = 1 := by omega
  have e : k + ((i * 5 + 1 : Nat) : Int) = x + 1 := by rw [hx]; push_cast; omega
  simp only [mvRecord, h, e]
theorem mvRecord_2 (k : Int) (i : Nat) (x : Int) (hx : x = k + i * 5) : mvRecord k (i * 5 + 2) = .int .i64 (x + 1 + 1) := by
  have h : (i * 5 + 2) % 5 = 2 := by omega
  have e : k + ((i * 5 + 2 : Nat) : Int) = x + 1 + 1 := by rw [hx]; push_cast; omega
  simp only [mvRecord, h, e]
theorem mvRecord_3 (k : Int) (i : Nat) (x : Int) (hx : x = k + i * 5) : mvRecord k (i * 5 + 3) = .int .i64 (x + 1 + 1 + 1) := by
  have h : (i * 5 + 3) % 5 = 3 := by omega
  have e : k + ((i * 5 + 3 : Nat) : Int) = x + 1 + 1 + 1 := by rw [hx]; push_cast; omega
  simp only [mvRecord, h, e]
theorem mvRecord_4 (k : Int) (i : Nat) (x : Int) (hx : x = k + i * 5) : mvRecord k (i * 5 + 4) = .bool ((x + 1 + 1 + 1 + 1) % 3 == 0) := by
  have h : (i * 5 + 4) % 5 = 4 := by omega
  have e : k + ((i * 5 + 4 : Nat) : Int) = x + 1 + 1 + 1 + 1 := by rw [hx]; push_cast; omega
  simp only [mvRecord, h, e]
set_option maxHeartbeats 8000000 in
set_option maxRecDepth 100000 in
theorem markRecord1 {S : Nat → Prop} (g s n c : Nat) (k : Int) (w : World) (HX : Filled w g 83 s (mvRecord k) 0) (hg : S g) (hn : n * 5 ≤ s) (hz : n * 5 ≤ 1152921504606846) (k0 : 0 ≤ k) (k1 : k ≤ 1152921504606846) :
    Calls Tryz.prog 76 #[.slice (some ⟨g, 0, none⟩) n c, .int .i64 k] w fun e w' => e = .returned (.int .i64 (k + n * 5)) ∧ Filled w' g 83 s (mvRecord k) (n * 5) ∧ ButS S w w' := by
  have HX := Aside0.mk HX
  have HG := Aside0.mk hg
  have HT := Aside0.mk (ButS.refl S w)
  clear hg
  go_enter Tryz.func76, Tryz.ntmps76
  go_wp2
  go_loopg [1, 5] n (fun gg v1 v5 w' => ∃ i : Int, v1 = .int .i64 (k + i * 5) ∧ v5 = .int .i64 i ∧ 0 ≤ i ∧ i ≤ n ∧ n - i ≤ gg ∧ Aside0 (Filled w' g 83 s (mvRecord k) (i.toNat * 5)) ∧ Aside0 (ButS S w w'))
  case atStart => exact ⟨0, by rw [Int.zero_mul, Int.add_zero], rfl, by omega, by omega, by omega, ⟨by rw [show (0 : Int).toNat * 5 = 0 from by decide]; exact HX.out⟩, HT⟩
  case round =>
    clear HX HT
    obtain ⟨i, rfl, rfl, hi0, hi, hgg, HX, HT⟩ := hrel
    by_cases hlt : i < n
    · have hm : i.toNat * 5 + 5 ≤ s := by omega
      have hxx := Aside0.mk (show k + i * 5 = k + (i.toNat : Int) * 5 by omega)
      go_wp2_with (first
        | ((with_reducible refine gate_store rfl ?_); (refine raw_fill (p := i.toNat * 5 + 0) rfl rfl _ _ _ rfl HX.out HG.out rfl (by first | rfl | (simp; done) | (simp; omega) | omega) (by rw [mvRecord_0 k i.toNat _ hxx.out]; rfl) (by rw [mvRecord_0 k i.toNat _ hxx.out]; rfl) (by rw [mvRecord_0 k i.toNat _ hxx.out]; rfl) (by kernel_rfl) (by omega) ?_; intro w3 hf hb; clear HX; have HX := Aside0.mk hf; have n_ := Aside0.mk (HT.out.trans hb); clear HT; have HT := n_; clear n_ hf hb))
        | ((with_reducible refine gate_store rfl ?_); (refine raw_fill (p := i.toNat * 5 + 1) rfl rfl _ _ _ rfl HX.out HG.out rfl (by first | rfl | (simp; done) | (simp; omega) | omega) (by rw [mvRecord_1 k i.toNat _ hxx.out]; rfl) (by rw [mvRecord_1 k i.toNat _ hxx.out]; rfl) (by rw [mvRecord_1 k i.toNat _ hxx.out]; rfl) (by kernel_rfl) (by omega) ?_; intro w3 hf hb; clear HX; have HX := Aside0.mk hf; have n_ := Aside0.mk (HT.out.trans hb); clear HT; have HT := n_; clear n_ hf hb))
        | ((with_reducible refine gate_store rfl ?_); (refine raw_fill (p := i.toNat * 5 + 2) rfl rfl _ _ _ rfl HX.out HG.out rfl (by first | rfl | (simp; done) | (simp; omega) | omega) (by rw [mvRecord_2 k i.toNat _ hxx.out]; rfl) (by rw [mvRecord_2 k i.toNat _ hxx.out]; rfl) (by rw [mvRecord_2 k i.toNat _ hxx.out]; rfl) (by kernel_rfl) (by omega) ?_; intro w3 hf hb; clear HX; have HX := Aside0.mk hf; have n_ := Aside0.mk (HT.out.trans hb); clear HT; have HT := n_; clear n_ hf hb))
        | ((with_reducible refine gate_store rfl ?_); (refine raw_fill (p := i.toNat * 5 + 3) rfl rfl _ _ _ rfl HX.out HG.out rfl (by first | rfl | (simp; done) | (simp; omega) | omega) (by rw [mvRecord_3 k i.toNat _ hxx.out]; rfl) (by rw [mvRecord_3 k i.toNat _ hxx.out]; rfl) (by rw [mvRecord_3 k i.toNat _ hxx.out]; rfl) (by kernel_rfl) (by omega) ?_; intro w3 hf hb; clear HX; have HX := Aside0.mk hf; have n_ := Aside0.mk (HT.out.trans hb); clear HT; have HT := n_; clear n_ hf hb))
        | ((with_reducible refine gate_store rfl ?_); (refine raw_fill (p := i.toNat * 5 + 4) rfl rfl _ _ _ rfl HX.out HG.out rfl (by first | rfl | (simp; done) | (simp; omega) | omega) (by rw [mvRecord_4 k i.toNat _ hxx.out]; rfl) (by rw [mvRecord_4 k i.toNat _ hxx.out]; rfl) (by rw [mvRecord_4 k i.toNat _ hxx.out]; rfl) (by kernel_rfl) (by omega) ?_; intro w3 hf hb; clear HX; have HX := Aside0.mk hf; have n_ := Aside0.mk (HT.out.trans hb); clear HT; have HT := n_; clear n_ hf hb)))
      go_roundg (n - (i + 1)).toNat
      case measure => omega
      case rel => exact ⟨i + 1, by congr 1; omega, rfl, by omega, by omega, by omega, ⟨by rw [show (i + 1).toNat * 5 = i.toNat * 5 + 5 by omega]; exact HX.out⟩, HT⟩
    · obtain rfl : i = n := by omega
      go_wp2
      go_ret
      exact ⟨rfl, by rw [Int.toNat_natCast] at HX; exact HX.out, HT.out⟩
set_option maxHeartbeats 8000000 in
set_option maxRecDepth 100000 in
theorem heldRecord1 (g s n c : Nat) (k : Int) (w : World) (HX : Filled w g 83 s (mvRecord k) (n * 5)) (hn : n * 5 ≤ s) (hz : n * 5 ≤ 1152921504606846) (k0 : 0 ≤ k) (k1 : k ≤ 1152921504606846) :
    Calls Tryz.prog 80 #[.slice (some ⟨g, 0, none⟩) n c, .int .i64 k] w fun e w' => e = .returned (.int .i64 (k + n * 5)) ∧ Below w.heap.size w w' := by
  have HX := Aside0.mk HX
  have HB := Aside0.mk (Below.refl w.heap.size w)
  go_enter Tryz.func80, Tryz.ntmps80
  go_wp2
  go_loopg [1, 5] n (fun gg v1 v5 w' => ∃ i : Int, v1 = .int .i64 (k + i * 5) ∧ v5 = .int .i64 i ∧ 0 ≤ i ∧ i ≤ n ∧ n - i ≤ gg ∧ Aside0 (Below w.heap.size w w'))
  case atStart => exact ⟨0, by rw [Int.zero_mul, Int.add_zero], rfl, by omega, by omega, by omega, HB⟩
  case round =>
    clear HB
    obtain ⟨i, rfl, rfl, hi0, hi, hgg, HB⟩ := hrel
    by_cases hlt : i < n
    · have hm : i.toNat * 5 + 5 ≤ n * 5 := by omega
      have hxx := Aside0.mk (show k + i * 5 = k + (i.toNat : Int) * 5 by omega)
      have qv0 := Aside0.mk (((HX.out.below HB.out).cell (i.toNat * 5 + 0) (by omega)).trans (congrArg some (mvRecord_0 k i.toNat _ hxx.out)))
      have r0 := qv0.out
      clear qv0
      have qv1 := Aside0.mk (((HX.out.below HB.out).cell (i.toNat * 5 + 1) (by omega)).trans (congrArg some (mvRecord_1 k i.toNat _ hxx.out)))
      have r1 := qv1.out
      clear qv1
      have qv2 := Aside0.mk (((HX.out.below HB.out).cell (i.toNat * 5 + 2) (by omega)).trans (congrArg some (mvRecord_2 k i.toNat _ hxx.out)))
      have r2 := qv2.out
      clear qv2
      have qv3 := Aside0.mk (((HX.out.below HB.out).cell (i.toNat * 5 + 3) (by omega)).trans (congrArg some (mvRecord_3 k i.toNat _ hxx.out)))
      have r3 := qv3.out
      clear qv3
      have qv4 := Aside0.mk (((HX.out.below HB.out).cell (i.toNat * 5 + 4) (by omega)).trans (congrArg some (mvRecord_4 k i.toNat _ hxx.out)))
      have r4 := qv4.out
      clear qv4
      rw [Nat.add_zero] at r0
      go_wp2
      clear r0
      clear r1
      clear r2
      clear r3
      clear r4
      go_roundg (n - (i + 1)).toNat
      case measure => omega
      case rel => exact ⟨i + 1, by congr 1; omega, rfl, by omega, by omega, by omega, HB⟩
    · obtain rfl : i = n := by omega
      go_wp2
      go_ret
      exact ⟨rfl, HB.out⟩
noncomputable def mvPlace (k : Int) (p : Nat) : Value := match p % 4 with
  | 0 => .int .i64 (k + p)
  | 1 => .int .i64 (k + p)
  | 2 => .int .i64 (k + p)
  | _ => .int .i64 (k + p)
theorem mvPlace_0 (k : Int) (i : Nat) (x : Int) (hx : x = k + i * 4) : mvPlace k (i * 4 + 0) = .int .i64 (x) := by
  have h : (i * 4 + 0) % 4 = 0 := by omega
  have e : k + ((i * 4 + 0 : Nat) : Int) = x := by rw [hx]; push_cast; omega
  simp only [mvPlace, h, e]
theorem mvPlace_1 (k : Int) (i : Nat) (x : Int) (hx : x = k + i * 4) : mvPlace k (i * 4 + 1) = .int .i64 (x + 1) := by
  have h : (i * 4 + 1) % 4 = 1 := by omega
  have e : k + ((i * 4 + 1 : Nat) : Int) = x + 1 := by rw [hx]; push_cast; omega
  simp only [mvPlace, h, e]
theorem mvPlace_2 (k : Int) (i : Nat) (x : Int) (hx : x = k + i * 4) : mvPlace k (i * 4 + 2) = .int .i64 (x + 1 + 1) := by
  have h : (i * 4 + 2) % 4 = 2 := by omega
  have e : k + ((i * 4 + 2 : Nat) : Int) = x + 1 + 1 := by rw [hx]; push_cast; omega
  simp only [mvPlace, h, e]
theorem mvPlace_3 (k : Int) (i : Nat) (x : Int) (hx : x = k + i * 4) : mvPlace k (i * 4 + 3) = .int .i64 (x + 1 + 1 + 1) := by
  have h : (i * 4 + 3) % 4 = 3 := by omega
  have e : k + ((i * 4 + 3 : Nat) : Int) = x + 1 + 1 + 1 := by rw [hx]; push_cast; omega
  simp only [mvPlace, h, e]
set_option maxHeartbeats 8000000 in
set_option maxRecDepth 100000 in
theorem markPlace1 {S : Nat → Prop} (g s n c : Nat) (k : Int) (w : World) (HX : Filled w g 140 s (mvPlace k) 0) (hg : S g) (hn : n * 4 ≤ s) (hz : n * 4 ≤ 1152921504606846) (k0 : 0 ≤ k) (k1 : k ≤ 1152921504606846) :
    Calls Tryz.prog 71 #[.slice (some ⟨g, 0, none⟩) n c, .int .i64 k] w fun e w' => e = .returned (.int .i64 (k + n * 4)) ∧ Filled w' g 140 s (mvPlace k) (n * 4) ∧ ButS S w w' := by
  have HX := Aside0.mk HX
  have HG := Aside0.mk hg
  have HT := Aside0.mk (ButS.refl S w)
  clear hg
  go_enter Tryz.func71, Tryz.ntmps71
  go_wp2
  go_loopg [1, 5] n (fun gg v1 v5 w' => ∃ i : Int, v1 = .int .i64 (k + i * 4) ∧ v5 = .int .i64 i ∧ 0 ≤ i ∧ i ≤ n ∧ n - i ≤ gg ∧ Aside0 (Filled w' g 140 s (mvPlace k) (i.toNat * 4)) ∧ Aside0 (ButS S w w'))
  case atStart => exact ⟨0, by rw [Int.zero_mul, Int.add_zero], rfl, by omega, by omega, by omega, ⟨by rw [show (0 : Int).toNat * 4 = 0 from by decide]; exact HX.out⟩, HT⟩
  case round =>
    clear HX HT
    obtain ⟨i, rfl, rfl, hi0, hi, hgg, HX, HT⟩ := hrel
    by_cases hlt : i < n
    · have hm : i.toNat * 4 + 4 ≤ s := by omega
      have hxx := Aside0.mk (show k + i * 4 = k + (i.toNat : Int) * 4 by omega)
      go_wp2_with (first
        | ((with_reducible refine gate_store rfl ?_); (refine raw_fill (p := i.toNat * 4 + 0) rfl rfl _ _ _ rfl HX.out HG.out rfl (by first | rfl | (simp; done) | (simp; omega) | omega) (by rw [mvPlace_0 k i.toNat _ hxx.out]; rfl) (by rw [mvPlace_0 k i.toNat _ hxx.out]; rfl) (by rw [mvPlace_0 k i.toNat _ hxx.out]; rfl) (by kernel_rfl) (by omega) ?_; intro w3 hf hb; clear HX; have HX := Aside0.mk hf; have n_ := Aside0.mk (HT.out.trans hb); clear HT; have HT := n_; clear n_ hf hb))
        | ((with_reducible refine gate_store rfl ?_); (refine raw_fill (p := i.toNat * 4 + 1) rfl rfl _ _ _ rfl HX.out HG.out rfl (by first | rfl | (simp; done) | (simp; omega) | omega) (by rw [mvPlace_1 k i.toNat _ hxx.out]; rfl) (by rw [mvPlace_1 k i.toNat _ hxx.out]; rfl) (by rw [mvPlace_1 k i.toNat _ hxx.out]; rfl) (by kernel_rfl) (by omega) ?_; intro w3 hf hb; clear HX; have HX := Aside0.mk hf; have n_ := Aside0.mk (HT.out.trans hb); clear HT; have HT := n_; clear n_ hf hb))
        | ((with_reducible refine gate_store rfl ?_); (refine raw_fill (p := i.toNat * 4 + 2) rfl rfl _ _ _ rfl HX.out HG.out rfl (by first | rfl | (simp; done) | (simp; omega) | omega) (by rw [mvPlace_2 k i.toNat _ hxx.out]; rfl) (by rw [mvPlace_2 k i.toNat _ hxx.out]; rfl) (by rw [mvPlace_2 k i.toNat _ hxx.out]; rfl) (by kernel_rfl) (by omega) ?_; intro w3 hf hb; clear HX; have HX := Aside0.mk hf; have n_ := Aside0.mk (HT.out.trans hb); clear HT; have HT := n_; clear n_ hf hb))
        | ((with_reducible refine gate_store rfl ?_); (refine raw_fill (p := i.toNat * 4 + 3) rfl rfl _ _ _ rfl HX.out HG.out rfl (by first | rfl | (simp; done) | (simp; omega) | omega) (by rw [mvPlace_3 k i.toNat _ hxx.out]; rfl) (by rw [mvPlace_3 k i.toNat _ hxx.out]; rfl) (by rw [mvPlace_3 k i.toNat _ hxx.out]; rfl) (by kernel_rfl) (by omega) ?_; intro w3 hf hb; clear HX; have HX := Aside0.mk hf; have n_ := Aside0.mk (HT.out.trans hb); clear HT; have HT := n_; clear n_ hf hb)))
      go_roundg (n - (i + 1)).toNat
      case measure => omega
      case rel => exact ⟨i + 1, by congr 1; omega, rfl, by omega, by omega, by omega, ⟨by rw [show (i + 1).toNat * 4 = i.toNat * 4 + 4 by omega]; exact HX.out⟩, HT⟩
    · obtain rfl : i = n := by omega
      go_wp2
      go_ret
      exact ⟨rfl, by rw [Int.toNat_natCast] at HX; exact HX.out, HT.out⟩
noncomputable def mvRule (k : Int) (p : Nat) : Value := match p % 6 with
  | 0 => .int .i64 (k + p)
  | 1 => .int .i64 (k + p)
  | 2 => .int .i64 (k + p)
  | 3 => .int .i64 (k + p)
  | 4 => .int .i64 (k + p)
  | _ => .bool ((k + p) % 3 == 0)
theorem mvRule_0 (k : Int) (i : Nat) (x : Int) (hx : x = k + i * 6) : mvRule k (i * 6 + 0) = .int .i64 (x) := by
  have h : (i * 6 + 0) % 6 = 0 := by omega
  have e : k + ((i * 6 + 0 : Nat) : Int) = x := by rw [hx]; push_cast; omega
  simp only [mvRule, h, e]
theorem mvRule_1 (k : Int) (i : Nat) (x : Int) (hx : x = k + i * 6) : mvRule k (i * 6 + 1) = .int .i64 (x + 1) := by
  have h : (i * 6 + 1) % 6 = 1 := by omega
  have e : k + ((i * 6 + 1 : Nat) : Int) = x + 1 := by rw [hx]; push_cast; omega
  simp only [mvRule, h, e]
theorem mvRule_2 (k : Int) (i : Nat) (x : Int) (hx : x = k + i * 6) : mvRule k (i * 6 + 2) = .int .i64 (x + 1 + 1) := by
  have h : (i * 6 + 2) % 6 = 2 := by omega
  have e : k + ((i * 6 + 2 : Nat) : Int) = x + 1 + 1 := by rw [hx]; push_cast; omega
  simp only [mvRule, h, e]
theorem mvRule_3 (k : Int) (i : Nat) (x : Int) (hx : x = k + i * 6) : mvRule k (i * 6 + 3) = .int .i64 (x + 1 + 1 + 1) := by
  have h : (i * 6 + 3) % 6 = 3 := by omega
  have e : k + ((i * 6 + 3 : Nat) : Int) = x + 1 + 1 + 1 := by rw [hx]; push_cast; omega
  simp only [mvRule, h, e]
theorem mvRule_4 (k : Int) (i : Nat) (x : Int) (hx : x = k + i * 6) : mvRule k (i * 6 + 4) = .int .i64 (x + 1 + 1 + 1 + 1) := by
  have h : (i * 6 + 4) % 6 = 4 := by omega
  have e : k + ((i * 6 + 4 : Nat) : Int) = x + 1 + 1 + 1 + 1 := by rw [hx]; push_cast; omega
  simp only [mvRule, h, e]
theorem mvRule_5 (k : Int) (i : Nat) (x : Int) (hx : x = k + i * 6) : mvRule k (i * 6 + 5) = .bool ((x + 1 + 1 + 1 + 1 + 1) % 3 == 0) := by
  have h : (i * 6 + 5) % 6 = 5 := by omega
  have e : k + ((i * 6 + 5 : Nat) : Int) = x + 1 + 1 + 1 + 1 + 1 := by rw [hx]; push_cast; omega
  simp only [mvRule, h, e]
set_option maxHeartbeats 8000000 in
set_option maxRecDepth 100000 in
theorem markRule1 {S : Nat → Prop} (g s n c : Nat) (k : Int) (w : World) (HX : Filled w g 183 s (mvRule k) 0) (hg : S g) (hn : n * 6 ≤ s) (hz : n * 6 ≤ 1152921504606846) (k0 : 0 ≤ k) (k1 : k ≤ 1152921504606846) :
    Calls Tryz.prog 128 #[.slice (some ⟨g, 0, none⟩) n c, .int .i64 k] w fun e w' => e = .returned (.int .i64 (k + n * 6)) ∧ Filled w' g 183 s (mvRule k) (n * 6) ∧ ButS S w w' := by
  have HX := Aside0.mk HX
  have HG := Aside0.mk hg
  have HT := Aside0.mk (ButS.refl S w)
  clear hg
  go_enter Tryz.func128, Tryz.ntmps128
  go_wp2
  go_loopg [1, 5] n (fun gg v1 v5 w' => ∃ i : Int, v1 = .int .i64 (k + i * 6) ∧ v5 = .int .i64 i ∧ 0 ≤ i ∧ i ≤ n ∧ n - i ≤ gg ∧ Aside0 (Filled w' g 183 s (mvRule k) (i.toNat * 6)) ∧ Aside0 (ButS S w w'))
  case atStart => exact ⟨0, by rw [Int.zero_mul, Int.add_zero], rfl, by omega, by omega, by omega, ⟨by rw [show (0 : Int).toNat * 6 = 0 from by decide]; exact HX.out⟩, HT⟩
  case round =>
    clear HX HT
    obtain ⟨i, rfl, rfl, hi0, hi, hgg, HX, HT⟩ := hrel
    by_cases hlt : i < n
    · have hm : i.toNat * 6 + 6 ≤ s := by omega
      have hxx := Aside0.mk (show k + i * 6 = k + (i.toNat : Int) * 6 by omega)
      go_wp2_with (first
        | ((with_reducible refine gate_store rfl ?_); (refine raw_fill (p := i.toNat * 6 + 0) rfl rfl _ _ _ rfl HX.out HG.out rfl (by first | rfl | (simp; done) | (simp; omega) | omega) (by rw [mvRule_0 k i.toNat _ hxx.out]; rfl) (by rw [mvRule_0 k i.toNat _ hxx.out]; rfl) (by rw [mvRule_0 k i.toNat _ hxx.out]; rfl) (by kernel_rfl) (by omega) ?_; intro w3 hf hb; clear HX; have HX := Aside0.mk hf; have n_ := Aside0.mk (HT.out.trans hb); clear HT; have HT := n_; clear n_ hf hb))
        | ((with_reducible refine gate_store rfl ?_); (refine raw_fill (p := i.toNat * 6 + 1) rfl rfl _ _ _ rfl HX.out HG.out rfl (by first | rfl | (simp; done) | (simp; omega) | omega) (by rw [mvRule_1 k i.toNat _ hxx.out]; rfl) (by rw [mvRule_1 k i.toNat _ hxx.out]; rfl) (by rw [mvRule_1 k i.toNat _ hxx.out]; rfl) (by kernel_rfl) (by omega) ?_; intro w3 hf hb; clear HX; have HX := Aside0.mk hf; have n_ := Aside0.mk (HT.out.trans hb); clear HT; have HT := n_; clear n_ hf hb))
        | ((with_reducible refine gate_store rfl ?_); (refine raw_fill (p := i.toNat * 6 + 2) rfl rfl _ _ _ rfl HX.out HG.out rfl (by first | rfl | (simp; done) | (simp; omega) | omega) (by rw [mvRule_2 k i.toNat _ hxx.out]; rfl) (by rw [mvRule_2 k i.toNat _ hxx.out]; rfl) (by rw [mvRule_2 k i.toNat _ hxx.out]; rfl) (by kernel_rfl) (by omega) ?_; intro w3 hf hb; clear HX; have HX := Aside0.mk hf; have n_ := Aside0.mk (HT.out.trans hb); clear HT; have HT := n_; clear n_ hf hb))
        | ((with_reducible refine gate_store rfl ?_); (refine raw_fill (p := i.toNat * 6 + 3) rfl rfl _ _ _ rfl HX.out HG.out rfl (by first | rfl | (simp; done) | (simp; omega) | omega) (by rw [mvRule_3 k i.toNat _ hxx.out]; rfl) (by rw [mvRule_3 k i.toNat _ hxx.out]; rfl) (by rw [mvRule_3 k i.toNat _ hxx.out]; rfl) (by kernel_rfl) (by omega) ?_; intro w3 hf hb; clear HX; have HX := Aside0.mk hf; have n_ := Aside0.mk (HT.out.trans hb); clear HT; have HT := n_; clear n_ hf hb))
        | ((with_reducible refine gate_store rfl ?_); (refine raw_fill (p := i.toNat * 6 + 4) rfl rfl _ _ _ rfl HX.out HG.out rfl (by first | rfl | (simp; done) | (simp; omega) | omega) (by rw [mvRule_4 k i.toNat _ hxx.out]; rfl) (by rw [mvRule_4 k i.toNat _ hxx.out]; rfl) (by rw [mvRule_4 k i.toNat _ hxx.out]; rfl) (by kernel_rfl) (by omega) ?_; intro w3 hf hb; clear HX; have HX := Aside0.mk hf; have n_ := Aside0.mk (HT.out.trans hb); clear HT; have HT := n_; clear n_ hf hb))
        | ((with_reducible refine gate_store rfl ?_); (refine raw_fill (p := i.toNat * 6 + 5) rfl rfl _ _ _ rfl HX.out HG.out rfl (by first | rfl | (simp; done) | (simp; omega) | omega) (by rw [mvRule_5 k i.toNat _ hxx.out]; rfl) (by rw [mvRule_5 k i.toNat _ hxx.out]; rfl) (by rw [mvRule_5 k i.toNat _ hxx.out]; rfl) (by kernel_rfl) (by omega) ?_; intro w3 hf hb; clear HX; have HX := Aside0.mk hf; have n_ := Aside0.mk (HT.out.trans hb); clear HT; have HT := n_; clear n_ hf hb)))
      go_roundg (n - (i + 1)).toNat
      case measure => omega
      case rel => exact ⟨i + 1, by congr 1; omega, rfl, by omega, by omega, by omega, ⟨by rw [show (i + 1).toNat * 6 = i.toNat * 6 + 6 by omega]; exact HX.out⟩, HT⟩
    · obtain rfl : i = n := by omega
      go_wp2
      go_ret
      exact ⟨rfl, by rw [Int.toNat_natCast] at HX; exact HX.out, HT.out⟩
end
end Go.Proofs.YtkklokkldgkacaaGreat.X
