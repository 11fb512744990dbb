/- Texts that the row of FnExactSortWords stands on: functions of the program and of the reference, each as a Lean function with the same answers, and the plain lemmas. Conditions: none beside those that each theorem names. -/
import Derived.Test.YtcakbenoaclbkaaCFnExactSortWords3
namespace Go.Proofs.Ytcakbenoaclbkaa.X
open Go.RowKit Go.Proofs.YtcakbenoaclbkaaW.PrintWords Go.Proofs.YtcakbenoaclbkaaW.PrintLast Go.Proofs.YtcakbenoaclbkaaW.PrintMore
attribute [local go_sem] max2_int min2_int max_two min_two max_three min_three max_four min_four   -- for this text's walks alone
set_option linter.unusedVariables false
set_option linter.unusedSimpArgs false
section
/-! ### impl_Word_54: function 54 -/
-- IMPORT Derived.Shelf.SlSortCmp.InsertionK
-- IMPORT Derived.Lib.OwnBridge
-- USES 44
open Go.Lib (lay lay_get? putRow_setCells)
/-- The cells of a row of elements. -/
def flatC {α : Type} (enc : α → List Value) (l : List α) : List Value := l.flatMap enc
theorem flatC_length {α : Type} {enc : α → List Value} {s : Nat} (he : ∀ x, (enc x).length = s) : ∀ l : List α, (flatC enc l).length = l.length * s
  | [] => by simp [flatC]
  | x :: l => by
    have := flatC_length he l
    rw [flatC] at this ⊢
    rw [List.flatMap_cons, List.length_append, he, this, List.length_cons, Nat.add_mul, Nat.one_mul, Nat.add_comm]
theorem flatC_append {α : Type} (enc : α → List Value) (l m : List α) : flatC enc (l ++ m) = flatC enc l ++ flatC enc m := List.flatMap_append
theorem flatC_at {α : Type} {enc : α → List Value} {s : Nat} (he : ∀ x, (enc x).length = s) (l : List α) (j c : Nat) (hj : j < l.length) (hc : c < s) : (flatC enc l)[j * s + c]? = (enc l[j])[c]? := by
  have hsp : l = l.take j ++ l[j] :: l.drop (j + 1) := by rw [← List.drop_eq_getElem_cons hj, List.take_append_drop]
  have hl : (flatC enc (l.take j)).length = j * s := by rw [flatC_length he, List.length_take, Nat.min_eq_left (by omega)]
  have h2 : flatC enc l = flatC enc (l.take j) ++ (enc l[j] ++ flatC enc (l.drop (j + 1))) := by
    conv => lhs; rw [hsp, flatC_append]
    rfl
  rw [h2, List.getElem?_append_right (by omega), hl, show j * s + c - j * s = c by omega, List.getElem?_append_left (by rw [he]; exact hc)]
theorem lay_cells {α : Type} {enc : α → List Value} {s : Nat} (he : ∀ x, (enc x).length = s) (l : List α) (i : Nat) (u : α) (hi : i < l.length) : lay (flatC enc l).toArray (i * s) (enc u) = (flatC enc (l.set i u)).toArray := by
  have h1 : (i + 1) * s ≤ l.length * s := Nat.mul_le_mul_right s hi
  rw [Nat.add_mul, Nat.one_mul] at h1
  have hsz := flatC_length he l
  apply Array.ext_getElem?
  intro j
  rw [lay_get? _ _ _ _ (by rw [he, List.size_toArray, hsz]; exact h1), he, List.getElem?_toArray, List.getElem?_toArray]
  rcases Nat.lt_or_ge j (l.length * s) with hj | hj
  · have hs : 0 < s := Nat.pos_of_ne_zero (fun e => by rw [e] at hj; omega)
    have hq : j / s < l.length := (Nat.div_lt_iff_lt_mul hs).2 hj
    have hc : j % s < s := Nat.mod_lt _ hs
    have hje : j = j / s * s + j % s := by rw [Nat.mul_comm]; exact (Nat.div_add_mod j s).symm
    have hL := flatC_at he l (j / s) (j % s) hq hc
    have hR := flatC_at he (l.set i u) (j / s) (j % s) (by rw [List.length_set]; exact hq) hc
    rw [← hje] at hL hR
    rw [hR, hL, List.getElem_set]
    by_cases hqi : i = j / s
    · rw [if_pos hqi, if_pos ⟨by rw [hqi]; omega, by rw [hqi]; omega⟩]
      congr 1
      rw [hqi]; omega
    · rw [if_neg hqi, if_neg]
      rintro ⟨h2, h3⟩
      apply hqi
      have a1 : i ≤ j / s := (Nat.le_div_iff_mul_le hs).2 h2
      have a2 : j / s < i + 1 := (Nat.div_lt_iff_lt_mul hs).2 (by rw [Nat.add_mul, Nat.one_mul]; exact h3)
      omega
  · rw [if_neg (by omega), List.getElem?_eq_none (by omega), List.getElem?_eq_none (by rw [flatC_length he, List.length_set]; omega)]
def enc31 (x : S31) : List Value := [.int .i64 x.f0, .int .i64 x.f1]
theorem enc31_len (x : S31) : (enc31 x).length = 2 := rfl
instance : Inhabited S31 := ⟨z31⟩
structure RowW (W : World) (blk cap : Nat) (D : List S31) : Prop where
  ex : ∃ cur : Array Value, W.heap[blk]? = some (.cells cur 31 (0, 0)) ∧ cur.size = cap * 2 ∧ cur.toList.take (D.length * 2) = flatC enc31 D
theorem RowW.cell {W : World} {blk cap : Nat} {D : List S31} (h : RowW W blk cap D) (j c : Nat) (hj : j < D.length) (hc : c < 2) : W.cell? ⟨blk, j * 2 + c, none⟩ = (enc31 D[j])[c]? := by
  obtain ⟨cur, h1, h2, h3⟩ := h.ex
  rw [blk_cell h1, ← flatC_at enc31_len D j c hj hc, ← h3, List.getElem?_take, if_pos (by omega), Array.getElem?_toList]
theorem RowW.below {W W' : World} {blk cap : Nat} {D : List S31} (h : RowW W blk cap D) (hb : Below W.heap.size W W') : RowW W' blk cap D := by
  obtain ⟨cur, h1, h2, h3⟩ := h.ex
  exact ⟨cur, blk_below h1 hb, h2, h3⟩
theorem RowW.frozen {W : World} {blk cap : Nat} {D : List S31} (h : RowW W blk cap D) (i : Nat) : W.frozen? ⟨blk, i, none⟩ = false := by
  obtain ⟨cur, h1, h2, h3⟩ := h.ex
  exact blk_frozen h1 i
theorem RowW.lt {W : World} {blk cap : Nat} {D : List S31} (h : RowW W blk cap D) : blk < W.heap.size := by
  obtain ⟨cur, h1, h2, h3⟩ := h.ex
  exact blk_lt h1
theorem RowW.put {W : World} {blk cap : Nat} {D : List S31} (h : RowW W blk cap D) (hcap : D.length ≤ cap) (i : Nat) (hi : i < D.length) (u : S31) : RowW ((W.setCell ⟨blk, i * 2, none⟩ (.int .i64 u.f0)).setCell ⟨blk, i * 2 + 1, none⟩ (.int .i64 u.f1)) blk cap (D.set i u) := by
  obtain ⟨cur, h1, h2, h3⟩ := h.ex
  have hD := flatC_length enc31_len D
  have hDs := flatC_length enc31_len (D.set i u)
  rw [List.length_set] at hDs
  have hin : i * 2 + 2 ≤ cur.size := by omega
  refine ⟨lay cur (i * 2) (enc31 u), (blk_put (blk_put h1 (i * 2) (.int .i64 u.f0) rfl) (i * 2 + 1) (.int .i64 u.f1) rfl), ?_, ?_⟩
  · simp only [enc31, lay, Array.size_setIfInBounds]; exact h2
  · rw [List.length_set]
    apply List.ext_getElem?
    intro j
    have hL := congrArg (fun a : Array Value => a[j]?) (lay_cells enc31_len D i u hi)
    simp only [List.getElem?_toArray] at hL
    rw [← hL, lay_get? _ _ _ _ (by rw [enc31_len, List.size_toArray, hD]; omega), List.getElem?_take, Array.getElem?_toList, lay_get? _ _ _ _ (by rw [enc31_len]; exact hin), enc31_len, List.getElem?_toArray]
    by_cases hj : j < D.length * 2
    · rw [if_pos hj]
      have h4 : cur.toList[j]? = (flatC enc31 D).toArray[j]? := by rw [List.getElem?_toArray, ← h3, List.getElem?_take, if_pos hj]
      rw [h4]
    · rw [if_neg hj, if_neg (by omega), List.getElem?_toArray, List.getElem?_eq_none (by omega)]
structure KB (w W : World) (g : Nat) : Prop where
  keep : KeepBut w W g none
  bel : Below g w W
  le : g ≤ W.heap.size
theorem KB.refl {w : World} {g : Nat} (h : g < w.heap.size) : KB w w g := ⟨KeepBut.refl _ _ _, Below.refl _ _, Nat.le_of_lt h⟩
theorem KB.step {w W W2 : World} {g : Nat} (h : KB w W g) (k : Below W.heap.size W W2) : KB w W2 g := ⟨h.keep.trans (KeepBut.of_below k g none) (.inl rfl), below_then h.bel h.le k, Nat.le_trans h.le k.size⟩
theorem KB.set_ {w W : World} {g : Nat} (h : KB w W g) (j : Nat) (u : Value) : KB w (W.setCell ⟨g, j, none⟩ u) g := ⟨h.keep.set_ j u, h.bel.setCell (Nat.le_refl g) _, by simpa [World.setCell] using h.le⟩
theorem enc31_reps {R : S31 → List Value → Prop} (hR : ∀ x cs, R x cs → cs = enc31 x) {l : List S31} {cs : List Value} (h : Reps R 2 l cs) : cs = flatC enc31 l := by
  apply List.ext_getElem?
  intro i
  have h1 := h.1
  have hf := flatC_length enc31_len l
  rcases Nat.lt_or_ge i (l.length * 2) with hi | hi
  · have hq : i / 2 < l.length := by omega
    have hc := h.2 (i / 2) l[i / 2] (List.getElem?_eq_getElem hq)
    have he := congrArg (fun z => z[i % 2]?) (hR _ _ hc)
    simp only [List.getElem?_take, List.getElem?_drop] at he
    rw [if_pos (by omega), ← flatC_at enc31_len l (i / 2) (i % 2) hq (by omega), show i / 2 * 2 + i % 2 = i by omega] at he
    exact he
  · rw [List.getElem?_eq_none (by omega), List.getElem?_eq_none (by omega)]
theorem reps_enc31 {R : S31 → List Value → Prop} (hR : ∀ x, R x (enc31 x)) (l : List S31) : Reps R 2 l (flatC enc31 l) := by
  refine ⟨flatC_length enc31_len l, fun j p hj => ?_⟩
  obtain ⟨hlt, rfl⟩ := List.getElem?_eq_some_iff.1 hj
  have e : ((flatC enc31 l).drop (j * 2)).take 2 = enc31 l[j] := by
    apply List.ext_getElem?
    intro c
    rw [List.getElem?_take]
    by_cases hc : c < 2
    · rw [if_pos hc, List.getElem?_drop, flatC_at enc31_len l j c hlt hc]
    · rw [if_neg hc, List.getElem?_eq_none (by rw [enc31_len]; omega)]
  rw [e]
  exact hR _
theorem RowW.of_R {w : World} {base : Nat} {ok : Nat → Prop} {v : Value} {l : List S31} (h : Kd.R k31 31 w base ok v l) (hn : 0 < l.length) :
    ∃ g cap, v = .slice (some ⟨g, 0, none⟩) l.length cap ∧ base ≤ g ∧ RowW w g cap l ∧ l.length ≤ cap ∧ cap ≤ 9223372036854775807 ∧ ok g := by
  obtain ⟨h0, inner, ho, hr⟩ := h
  have hi := enc31_reps (fun x cs hx => k31_openM hx) hr
  rcases ho.2 with ⟨_, e0⟩ | ⟨g, cap, cur, rfl, hb, hg, hnc, hm, hs, ht⟩
  · omega
  · refine ⟨g, cap, rfl, hb, ⟨cur, hg, hs, ?_⟩, hnc, ?_, h0 g rfl⟩
    · rw [← hi]; exact ht
    · simpa [maxLen] using hm
theorem RowW.toR {w : World} {base g cap : Nat} {ok : Nat → Prop} {l : List S31} (h : RowW w g cap l) (hb : base ≤ g) (hc : l.length ≤ cap) (hm : cap ≤ 9223372036854775807) (hok : ok g) :
    Kd.R k31 31 w base ok (.slice (some ⟨g, 0, none⟩) l.length cap) l := by
  obtain ⟨cur, h1, h2, h3⟩ := h.ex
  refine ⟨fun k hk => ?_, flatC enc31 l, ⟨flatC_length enc31_len l, .inr ⟨g, cap, cur, rfl, hb, h1, hc, by simpa [maxLen] using hm, h2, h3⟩⟩, reps_enc31 (fun x => k31_mkM _ _ _ x) l⟩
  obtain rfl : g = k := by simpa [Value.ownBlock] using hk
  exact hok

structure BelowBy (w : World) where
  W : World
  h : Below w.heap.size w W
instance (w : World) : Inhabited (BelowBy w) := ⟨⟨w, Below.refl _ _⟩⟩
theorem wp_region_quiet_below {P : Program} {id : Nat} {Q : Exit → Act → World → Prop} {a : Act} {w : World} {l : List Oper} (hm : P.follows .mixedOrders = true) (hB : Region.lexB .any l.toArray = true)
    (h : wpQuiet P l.toArray (fun w' => ∃ p : BelowBy w, w' = p.W) (fun a' => ∀ w', (∃ p : BelowBy w, w' = p.W) → Q .normal a' w') l a) : (Code.region id l.toArray true).wp P Q a w :=
  wp_region_quiet (C := fun w' => ∃ p : BelowBy w, w' = p.W) hm hB ⟨⟨_, pw_below_drewN (Below.refl _ w) 1⟩, rfl⟩ (by simpa using h)
theorem Calls.below_of {P : Program} {f : FuncId} {args : Array Value} {w : World} {p : BelowBy w} {v : Value} (h : Calls P f args p.W fun e w' => e = .returned v ∧ Below p.W.heap.size p.W w') : Calls P f args p.W fun e w'' => e = .returned v ∧ ∃ q : BelowBy w, w'' = q.W :=
  h.mono fun _ w' ⟨he, hb⟩ => ⟨he, ⟨w', below_step p.h hb⟩, rfl⟩
def insIn (ord : S31 → S31 → Int) (a : Nat) : Nat → List S31 → List S31
  | 0, l => l
  | j + 1, l => if a < j + 1 ∧ ord (rd_T31 l ((j + 1 : Nat) : Int)) (rd_T31 l (j : Int)) < 0 then insIn ord a j ((l.set (j + 1) (rd_T31 l (j : Int))).set j (rd_T31 l ((j + 1 : Nat) : Int))) else l
def insOut (ord : S31 → S31 → Int) (a : Nat) : Nat → Nat → List S31 → List S31
  | 0, _, l => l
  | d + 1, i, l => insOut ord a d (i + 1) (insIn ord a i l)
theorem insIn_length (ord : S31 → S31 → Int) (a : Nat) : ∀ (j : Nat) (l : List S31), (insIn ord a j l).length = l.length
  | 0, l => rfl
  | j + 1, l => by
    rw [insIn]
    split
    · rw [insIn_length ord a j, List.length_set, List.length_set]
    · rfl
theorem rd31_mem {l : List S31} {j : Nat} (h : j < l.length) : rd_T31 l (j : Int) = l[j] := by
  rw [rd_T31, List.getD_eq_getElem?_getD, Int.toNat_natCast, List.getElem?_eq_getElem h]; rfl
theorem RowW.at {W : World} {blk cap : Nat} {D : List S31} (h : RowW W blk cap D) (j : Nat) (hj : j < D.length) : W.cell? ⟨blk, j * 2, none⟩ = some (.int .i64 (rd_T31 D (j : Int)).f0) ∧ W.cell? ⟨blk, j * 2 + 1, none⟩ = some (.int .i64 (rd_T31 D (j : Int)).f1) := by
  rw [rd31_mem hj]
  exact ⟨h.cell j 0 hj (by decide), h.cell j 1 hj (by decide)⟩
theorem ins_out {ord : S31 → S31 → Int} {a b i : Nat} {D E l : List S31} (h : insOut ord a (b - i) i D = insOut ord a (b - (a + 1)) (a + 1) l) (hi : i < b) (he : E = insIn ord a i D) : insOut ord a (b - (i + 1)) (i + 1) E = insOut ord a (b - (a + 1)) (a + 1) l := by
  rw [← h, show b - i = (b - (i + 1)) + 1 by omega, insOut, ← he]
set_option maxHeartbeats 8000000 in
set_option maxRecDepth 100000 in
theorem insW (g : FuncId) (lb : Array Value) (eg : ∀ args w, (callFunc g args).run Try.prog w = .ok (.enter g args) w) (ord : S31 → S31 → Int) (ok : S31 → Prop) (blk cap : Nat) (l : List S31) (a b : Nat) (w : World)
    (hp : ∀ (W : World) (x y : S31), ok x → ok y → KeepBut w W blk none → Calls Try.prog g (#[.agg #[.int .i64 x.f0, .int .i64 x.f1], .agg #[.int .i64 y.f0, .int .i64 y.f1]] ++ lb) W fun e w' => e = .returned (.int .i64 (ord x y)) ∧ Below W.heap.size W w')
    (hr : RowW w blk cap l) (hok : ∀ x ∈ l, ok x) (hab : a ≤ b) (hb : b ≤ l.length) (hln : l.length ≤ cap) (hcm : l.length ≤ 1152921504606846976) :
    Calls Try.prog 74 #[.slice (some ⟨blk, 0, none⟩) l.length cap, .int .i64 a, .int .i64 b, .func (.func g) #[] lb] w fun e w' => e = .returned (.tuple #[]) ∧ KB w w' blk ∧ RowW w' blk cap (insOut ord a (b - (a + 1)) (a + 1) l) := by
  have mixed : Try.prog.follows .mixedOrders = true := by kernel_rfl
  have huW := Try.underlying31
  have HP := Aside0.mk hp
  have HR := Aside0.mk hr
  have HOK := Aside0.mk hok
  clear hp hr hok
  go_enter Try.func74, Try.ntmps74
  go_wp2
  go_loopg [8] (b - a) (fun g1 vi wr => ∃ (i : Nat) (D : List S31), vi = .int .i64 i ∧ a < i ∧ i ≤ b + 1 ∧ b + 1 - i ≤ g1 + 1 ∧ D.length = l.length ∧ Aside0 (KB w wr blk ∧ RowW wr blk cap D ∧ (∀ x ∈ D, ok x) ∧ insOut ord a (b - i) i D = insOut ord a (b - (a + 1)) (a + 1) l))
  case atStart => exact ⟨a + 1, l, by go_num, by omega, by omega, by omega, rfl, ⟨KB.refl HR.out.lt, HR.out, HOK.out, rfl⟩⟩
  case round =>
    obtain ⟨i, D, rfl, hai, hib, hg1, hD, HA⟩ := hrel
    by_cases hlt : i < b
    · have hltz : (i : Int) < (b : Int) := by omega
      go_wp2
      go_loopg [9] i (fun g2 vj wr2 => ∃ (j : Nat) (E : List S31), vj = .int .i64 j ∧ a ≤ j ∧ j ≤ i ∧ j ≤ g2 ∧ E.length = l.length ∧ Aside0 (KB w wr2 blk ∧ RowW wr2 blk cap E ∧ (∀ x ∈ E, ok x) ∧ insIn ord a j E = insIn ord a i D))
      case atStart => exact ⟨i, D, rfl, by omega, Nat.le_refl _, Nat.le_refl _, hD, ⟨HA.out.1, HA.out.2.1, HA.out.2.2.1, rfl⟩⟩
      case round =>
        obtain ⟨j, E, rfl, haj, hji, hg2, hE, HI⟩ := hrel
        by_cases hja : a < j
        · obtain ⟨jp, rfl⟩ : ∃ jp, j = jp + 1 := ⟨j - 1, by omega⟩
          obtain ⟨hK, hRE, hokE, hins⟩ := HI.out
          obtain ⟨x, hx⟩ : ∃ x, x = rd_T31 E ((jp + 1 : Nat) : Int) := ⟨_, rfl⟩
          obtain ⟨y, hy⟩ : ∃ y, y = rd_T31 E (jp : Int) := ⟨_, rfl⟩
          have hox : ok x := hokE x (by rw [hx, rd31_mem (by omega)]; exact List.getElem_mem ..)
          have hoy : ok y := hokE y (by rw [hy, rd31_mem (by omega)]; exact List.getElem_mem ..)
          rw [insIn, ← hx, ← hy] at hins
          have hjaz : (a : Int) < (jp : Int) + 1 := by omega
          have hwp : IntKind.i64.wrap (jp : Int) = (jp : Int) := by rw [IntKind.wrap_i64]; omega
          have jz : (jp : Int) + 1 < (l.length : Int) := by omega
          have jz1 : (jp : Int) < (l.length : Int) := by omega
          have p0 : (0 : Int) ≤ (jp : Int) + 1 := by omega
          have e0 : ((jp : Int) + 1).toNat = jp + 1 := by omega
          have rc : ∀ p : BelowBy wr, RowW p.W blk cap E := fun p => hRE.below p.h
          have c0 : ∀ p : BelowBy wr, p.W.cell? ⟨blk, (jp + 1) * 2, none⟩ = some (.int .i64 x.f0) := fun p => by rw [hx]; exact ((rc p).at (jp + 1) (by omega)).1
          have c1 : ∀ p : BelowBy wr, p.W.cell? ⟨blk, (jp + 1) * 2 + 1, none⟩ = some (.int .i64 x.f1) := fun p => by rw [hx]; exact ((rc p).at (jp + 1) (by omega)).2
          have c2 : ∀ p : BelowBy wr, p.W.cell? ⟨blk, jp * 2, none⟩ = some (.int .i64 y.f0) := fun p => by rw [hy]; exact ((rc p).at jp (by omega)).1
          have c3 : ∀ p : BelowBy wr, p.W.cell? ⟨blk, jp * 2 + 1, none⟩ = some (.int .i64 y.f1) := fun p => by rw [hy]; exact ((rc p).at jp (by omega)).2
          have hcg : ∀ p : BelowBy wr, Calls Try.prog g (#[.agg #[.int .i64 x.f0, .int .i64 x.f1], .agg #[.int .i64 y.f0, .int .i64 y.f1]] ++ lb) p.W fun e w' => e = .returned (.int .i64 (ord x y)) ∧ Below p.W.heap.size p.W w' := fun p => HP.out p.W x y hox hoy (hK.step p.h).keep
          have HX := Aside0.mk (And.intro hx hy)
          have RC := Aside0.mk (And.intro rc (And.intro hK (And.intro hokE hins)))
          clear hx hy rc hK hokE hins hRE HI hox hoy
          obtain ⟨ov, hov⟩ : ∃ ov, ov = ord x y := ⟨_, rfl⟩
          rw [← hov] at hcg
          have HOV := Aside0.mk hov
          clear hov
          by_cases hlv : ov < 0
          · go_wp2_with fail
            refine wp_region_quiet_below (by assumption) (by kernel_rfl) ?_
            repeat (quiet_step (first | (go_at_fn g; refine Calls.below_of (hcg _))))
            refine wpQuiet_nil ?_
            intro _ hw'
            obtain ⟨pq, hw''⟩ := hw'
            subst hw''
            go_wp2_with fail
            obtain ⟨W2, hW2⟩ : ∃ W2, W2 = pq.W := ⟨_, rfl⟩
            have hR2 : RowW W2 blk cap E := by rw [hW2]; exact RC.out.1 pq
            have hK2 : KB w W2 blk := by rw [hW2]; exact RC.out.2.1.step pq.h
            have hq : ∀ q, W2.frozen? ⟨blk, q, none⟩ = false := fun q => hR2.frozen q
            have d0 : W2.cell? ⟨blk, (jp + 1) * 2, none⟩ = some (.int .i64 x.f0) := by rw [hW2]; exact c0 pq
            have d1 : W2.cell? ⟨blk, (jp + 1) * 2 + 1, none⟩ = some (.int .i64 x.f1) := by rw [hW2]; exact c1 pq
            have d2 : W2.cell? ⟨blk, jp * 2, none⟩ = some (.int .i64 y.f0) := by rw [hW2]; exact c2 pq
            have d3 : W2.cell? ⟨blk, jp * 2 + 1, none⟩ = some (.int .i64 y.f1) := by rw [hW2]; exact c3 pq
            have q0 := hq ((jp + 1) * 2)
            have q1 := hq ((jp + 1) * 2 + 1)
            have q2 := hq (jp * 2)
            have q3 := hq (jp * 2 + 1)
            have HF := Aside0.mk (And.intro hR2 hK2)
            clear hR2 hK2 hq c0 c1 c2 c3 hcg
            rw [← hW2]
            clear hW2
            go_big_region_o
            all_goals go_wp2
            go_roundg jp
            case measure => omega
            case rel =>
              obtain ⟨hR2, hK2⟩ := HF.out
              obtain ⟨_, _, hokE, hins⟩ := RC.out
              obtain ⟨hx, hy⟩ := HX.out
              refine ⟨jp, (E.set (jp + 1) y).set jp x, by first | rfl | go_num, by omega, by omega, Nat.le_refl _, by rw [List.length_set, List.length_set]; exact hE, ⟨((((hK2.set_ _ _).set_ _ _).set_ _ _).set_ _ _).step (below_drew (Below.refl _ _)), ⟨((hR2.put (by omega) (jp + 1) (by omega) y).put (by rw [List.length_set]; omega) jp (by rw [List.length_set]; omega) x).ex⟩, fun z hz => ?_, ?_⟩⟩
              · rcases List.mem_or_eq_of_mem_set hz with hz | rfl
                · rcases List.mem_or_eq_of_mem_set hz with hz | rfl
                  · exact hokE z hz
                  · exact hokE _ (by rw [hy, rd31_mem (by omega)]; exact List.getElem_mem ..)
                · exact hokE _ (by rw [hx, rd31_mem (by omega)]; exact List.getElem_mem ..)
              · rw [if_pos ⟨hja, by rw [← HOV.out]; exact hlv⟩] at hins
                exact hins
          · have hnlv : ¬ ov < 0 := hlv
            go_wp2_with fail
            refine wp_region_quiet_below (by assumption) (by kernel_rfl) ?_
            repeat (quiet_step (first | (go_at_fn g; refine Calls.below_of (hcg _))))
            refine wpQuiet_nil ?_
            intro _ hw'
            obtain ⟨pq, hw''⟩ := hw'
            subst hw''
            go_wp2
            go_roundg (b - (i + 1))
            case measure => omega
            case rel => exact ⟨i + 1, E, by go_num, by omega, by omega, by omega, hE, ⟨RC.out.2.1.step pq.h, RC.out.1 pq, RC.out.2.2.1, ins_out HA.out.2.2.2 hlt (by have h_ := RC.out.2.2.2; rwa [if_neg (fun h => by have := h.2; rw [← HOV.out] at this; omega)] at h_)⟩⟩
        · obtain rfl : j = a := by omega
          have hjaz' : ¬ (j : Int) < (j : Int) := by omega
          have HI2 := HI
          clear HI
          go_wp2_with fail
          go_big_region_o
          all_goals go_wp2
          go_roundg (b - (i + 1))
          case measure => omega
          case rel => exact ⟨i + 1, E, by go_num, by omega, by omega, by omega, hE, ⟨HI2.out.1.step (below_drew (Below.refl _ _)), ⟨HI2.out.2.1.ex⟩, HI2.out.2.2.1, ins_out HA.out.2.2.2 hlt (by
            have h_ := HI2.out.2.2.2
            cases j with
            | zero => rwa [insIn] at h_
            | succ j => rwa [insIn, if_neg (fun h => by omega)] at h_)⟩⟩
    · have hltz : ¬ (i : Int) < (b : Int) := by omega
      have HF := Aside0.mk HA.out
      rw [show b - i = 0 by omega, insOut] at HF
      clear HA
      go_wp2
      go_end0
      obtain ⟨h1, h2, _, h4⟩ := HF.out
      rw [h4] at h2
      exact ⟨rfl, h1, h2⟩

def insAll (ord : S31 → S31 → Int) (l : List S31) : List S31 := insOut ord 0 (l.length - 1) 1 l
theorem KB.trans_ {w W W2 : World} {g : Nat} (h : KB w W g) (k : KB W W2 g) : KB w W2 g := ⟨h.keep.trans k.keep (.inl rfl), ⟨k.bel.os.trans h.bel.os, k.bel.tape.trans h.bel.tape, k.bel.output.trans h.bel.output, Nat.le_trans h.bel.size k.bel.size, fun i hi => (k.bel.block i hi).trans (h.bel.block i hi)⟩, k.le⟩
def swp1 (l : List S31) (i j : Nat) : List S31 := (l.set i (rd_T31 l (j : Int))).set j (rd_T31 l (i : Int))
theorem swp1_len (l : List S31) (i j : Nat) : (swp1 l i j).length = l.length := by rw [swp1, List.length_set, List.length_set]
theorem swp1_mem {l : List S31} {i j : Nat} (hi : i < l.length) (hj : j < l.length) {z : S31} (h : z ∈ swp1 l i j) : z ∈ l := by
  rcases List.mem_or_eq_of_mem_set h with h | rfl
  · rcases List.mem_or_eq_of_mem_set h with h | rfl
    · exact h
    · rw [rd31_mem hj]; exact List.getElem_mem ..
  · rw [rd31_mem hi]; exact List.getElem_mem ..
def swpR (a b : Nat) : Nat → Nat → List S31 → List S31
  | 0, _, l => l
  | d + 1, i, l => swpR a b d (i + 1) (swp1 l (a + i) (b + i))
theorem RowW.swp {W : World} {blk cap : Nat} {D : List S31} (h : RowW W blk cap D) (hcap : D.length ≤ cap) (i j : Nat) (hi : i < D.length) (hj : j < D.length) :
    RowW ((((W.setCell ⟨blk, i * 2, none⟩ (.int .i64 (rd_T31 D (j : Int)).f0)).setCell ⟨blk, i * 2 + 1, none⟩ (.int .i64 (rd_T31 D (j : Int)).f1)).setCell ⟨blk, j * 2, none⟩ (.int .i64 (rd_T31 D (i : Int)).f0)).setCell ⟨blk, j * 2 + 1, none⟩ (.int .i64 (rd_T31 D (i : Int)).f1)) blk cap (swp1 D i j) :=
  (h.put hcap i hi _).put (by rw [List.length_set]; exact hcap) j (by rw [List.length_set]; exact hj) _
set_option maxHeartbeats 8000000 in
set_option maxRecDepth 100000 in
theorem srW (fv : Value) (blk cap : Nat) (l : List S31) (a b n : Nat) (w : World) (hr : RowW w blk cap l) (hab : a + n ≤ b) (hb : b + n ≤ l.length) (hln : l.length ≤ cap) (hcm : l.length ≤ 1152921504606846976) :
    Calls Try.prog 77 #[.slice (some ⟨blk, 0, none⟩) l.length cap, .int .i64 a, .int .i64 b, .int .i64 n, fv] w fun e w' => e = .returned (.tuple #[]) ∧ KB w w' blk ∧ RowW w' blk cap (swpR a b n 0 l) := by
  have mixed : Try.prog.follows .mixedOrders = true := by kernel_rfl
  have hu31 := Try.underlying31
  have HR := Aside0.mk hr
  clear hr
  go_enter Try.func77, Try.ntmps77
  go_wp2
  go_loopg [10] n (fun g1 vi wr => ∃ (i : Nat) (D : List S31), vi = .int .i64 i ∧ i ≤ n ∧ n - i ≤ g1 ∧ D.length = l.length ∧ Aside0 (KB w wr blk ∧ RowW wr blk cap D ∧ swpR a b (n - i) i D = swpR a b n 0 l))
  case atStart => exact ⟨0, l, rfl, Nat.zero_le _, Nat.le_refl _, rfl, ⟨KB.refl HR.out.lt, HR.out, rfl⟩⟩
  case round =>
    obtain ⟨i, D, rfl, hib, hg1, hD, HA⟩ := hrel
    by_cases hlt : i < n
    · have hltz : (i : Int) < (n : Int) := by omega
      obtain ⟨hK, hRE, hins⟩ := HA.out
      rw [show n - i = (n - (i + 1)) + 1 by omega, swpR] at hins
      have p0 : (0 : Int) ≤ (a : Int) + (i : Int) := by omega
      have p1 : (a : Int) + (i : Int) < (l.length : Int) := by omega
      have p2 : ((a : Int) + (i : Int)).toNat = a + i := by omega
      have p3 : IntKind.i64.wrap ((a : Int) + (i : Int)) = (a : Int) + (i : Int) := by rw [IntKind.wrap_i64]; omega
      have q0 : (0 : Int) ≤ (b : Int) + (i : Int) := by omega
      have q1 : (b : Int) + (i : Int) < (l.length : Int) := by omega
      have q2 : ((b : Int) + (i : Int)).toNat = b + i := by omega
      have q3 : IntKind.i64.wrap ((b : Int) + (i : Int)) = (b : Int) + (i : Int) := by rw [IntKind.wrap_i64]; omega
      obtain ⟨x, hx⟩ : ∃ x, x = rd_T31 D ((a + i : Nat) : Int) := ⟨_, rfl⟩
      obtain ⟨y, hy⟩ : ∃ y, y = rd_T31 D ((b + i : Nat) : Int) := ⟨_, rfl⟩
      have hq : ∀ q, wr.frozen? ⟨blk, q, none⟩ = false := fun q => hRE.frozen q
      have d0 : wr.cell? ⟨blk, (a + i) * 2, none⟩ = some (.int .i64 x.f0) := by rw [hx]; exact (hRE.at (a + i) (by omega)).1
      have d1 : wr.cell? ⟨blk, (a + i) * 2 + 1, none⟩ = some (.int .i64 x.f1) := by rw [hx]; exact (hRE.at (a + i) (by omega)).2
      have d2 : wr.cell? ⟨blk, (b + i) * 2, none⟩ = some (.int .i64 y.f0) := by rw [hy]; exact (hRE.at (b + i) (by omega)).1
      have d3 : wr.cell? ⟨blk, (b + i) * 2 + 1, none⟩ = some (.int .i64 y.f1) := by rw [hy]; exact (hRE.at (b + i) (by omega)).2
      have f0 := hq ((a + i) * 2)
      have f1 := hq ((a + i) * 2 + 1)
      have f2 := hq ((b + i) * 2)
      have f3 := hq ((b + i) * 2 + 1)
      have HX := Aside0.mk (And.intro hx (And.intro hy (And.intro hK (And.intro hRE hins))))
      clear hx hy hK hRE hins HA hq
      go_wp2_with fail
      go_big_region_o
      all_goals go_wp2
      go_roundg (n - (i + 1))
      case measure => omega
      case rel =>
        obtain ⟨hx, hy, hK, hRE, hins⟩ := HX.out
        have hs := hRE.swp (by omega) (a + i) (b + i) (by omega) (by omega)
        rw [← hx, ← hy] at hs
        exact ⟨i + 1, swp1 D (a + i) (b + i), by go_num, by omega, Nat.le_refl _, by rw [swp1_len]; exact hD, ⟨((((hK.set_ _ _).set_ _ _).set_ _ _).set_ _ _).step (below_drew (Below.refl _ _)), ⟨hs.ex⟩, hins⟩⟩
    · have hltz : ¬ (i : Int) < (n : Int) := by omega
      have HF := Aside0.mk HA.out
      rw [show n - i = 0 by omega, swpR] at HF
      clear HA
      go_wp2
      go_end0
      obtain ⟨h1, h2, h4⟩ := HF.out
      rw [h4] at h2
      exact ⟨rfl, h1, h2⟩
theorem swpR_len (a b : Nat) : ∀ (d i : Nat) (l : List S31), (swpR a b d i l).length = l.length
  | 0, _, _ => rfl
  | d + 1, i, l => by rw [swpR, swpR_len a b d, swp1_len]
theorem swpR_mem {a b : Nat} {z : S31} : ∀ (d i : Nat) (l : List S31), a + i + d ≤ l.length → b + i + d ≤ l.length → z ∈ swpR a b d i l → z ∈ l
  | 0, _, _, _, _, h => h
  | d + 1, i, l, h1, h2, h => by
    rw [swpR] at h
    exact swp1_mem (by omega) (by omega) (swpR_mem d (i + 1) _ (by rw [swp1_len]; omega) (by rw [swp1_len]; omega) h)
def rotF (m : Nat) : Nat → Nat → Nat → List S31 → List S31
  | 0, _, _, l => l
  | f + 1, i, j, l => if i = j then swpR (m - i) m i 0 l else if j < i then rotF m f (i - j) j (swpR (m - i) m j 0 l) else rotF m f i (j - i) (swpR (m - i) (m + j - i) i 0 l)
theorem rotF_len (m : Nat) : ∀ (f i j : Nat) (l : List S31), (rotF m f i j l).length = l.length
  | 0, _, _, _ => rfl
  | f + 1, i, j, l => by
    rw [rotF]
    split
    · rw [swpR_len]
    · split
      · rw [rotF_len m f, swpR_len]
      · rw [rotF_len m f, swpR_len]
theorem rotF_mem {m : Nat} {z : S31} : ∀ (f i j : Nat) (l : List S31), i ≤ m → m + j ≤ l.length → z ∈ rotF m f i j l → z ∈ l
  | 0, _, _, _, _, _, h => h
  | f + 1, i, j, l, h1, h2, h => by
    rw [rotF] at h
    split at h
    · exact swpR_mem _ _ _ (by omega) (by omega) h
    · split at h
      · exact swpR_mem _ _ _ (by omega) (by omega) (rotF_mem f _ _ _ (by omega) (by rw [swpR_len]; omega) h)
      · exact swpR_mem _ _ _ (by omega) (by omega) (rotF_mem f _ _ _ (by omega) (by rw [swpR_len]; omega) h)
set_option maxHeartbeats 8000000 in
set_option maxRecDepth 100000 in
theorem roW (fv : Value) (blk cap : Nat) (l : List S31) (a m b : Nat) (w : World) (hr : RowW w blk cap l) (ham : a < m) (hmb : m < b) (hb : b ≤ l.length) (hln : l.length ≤ cap) (hcm : l.length ≤ 1152921504606846976) :
    Calls Try.prog 76 #[.slice (some ⟨blk, 0, none⟩) l.length cap, .int .i64 a, .int .i64 m, .int .i64 b, fv] w fun e w' => e = .returned (.tuple #[]) ∧ KB w w' blk ∧ RowW w' blk cap (rotF m (b - a) (m - a) (b - m) l) := by
  have HR := Aside0.mk hr
  clear hr
  go_enter Try.func76, Try.ntmps76
  go_wp2
  go_loopg [10, 11] (b - a) (fun g1 v10 v11 wr => ∃ (i j f : Nat) (D : List S31), v10 = .int .i64 i ∧ v11 = .int .i64 j ∧ 0 < i ∧ 0 < j ∧ i ≤ m - a ∧ j ≤ b - m ∧ i + j ≤ f ∧ f ≤ g1 ∧ D.length = l.length ∧ Aside0 (KB w wr blk ∧ RowW wr blk cap D ∧ rotF m f i j D = rotF m (b - a) (m - a) (b - m) l))
  case atStart => exact ⟨m - a, b - m, b - a, l, by go_num, by go_num, by omega, by omega, Nat.le_refl _, Nat.le_refl _, by omega, Nat.le_refl _, rfl, ⟨KB.refl HR.out.lt, HR.out, rfl⟩⟩
  case round =>
    obtain ⟨i, j, f, D, rfl, rfl, hi0, hj0, hia, hjb, hf, hg1, hD, HA⟩ := hrel
    obtain ⟨f, rfl⟩ : ∃ z, f = z + 1 := ⟨f - 1, by omega⟩
    obtain ⟨hK, hRE, hins⟩ := HA.out
    rw [rotF] at hins
    clear HA
    have m1 : ((m - i : Nat) : Int) = (m : Int) - (i : Int) := by omega
    by_cases hij : i = j
    · subst hij
      rw [if_pos rfl] at hins
      have hne : ((i : Int) != (i : Int)) = false := by simp
      have hs := srW fv blk cap D (m - i) m i wr hRE (by omega) (by omega) (by omega) (by omega)
      rw [hD, m1] at hs
      have HF := Aside0.mk (And.intro hK hins)
      clear hK hins hRE
      go_wp2_with (go_at_call 77; refine hs.mono ?_; rintro e w1 ⟨rfl, hk1, hr1⟩; have HG := Aside0.mk (And.intro hk1 hr1); clear hk1 hr1)
      go_end0
      obtain ⟨hK, hins⟩ := HF.out
      rw [← hins]
      exact ⟨rfl, hK.trans_ HG.out.1, HG.out.2⟩
    · rw [if_neg hij] at hins
      have hne : ((i : Int) != (j : Int)) = true := by rw [bne_iff_ne]; omega
      by_cases hji : j < i
      · rw [if_pos hji] at hins
        have hgt : (j : Int) < (i : Int) := by omega
        have hs := srW fv blk cap D (m - i) m j wr hRE (by omega) (by omega) (by omega) (by omega)
        rw [hD, m1] at hs
        have HF := Aside0.mk (And.intro hK hins)
        clear hK hins hRE
        go_wp2_with (go_at_call 77; refine hs.mono ?_; rintro e w1 ⟨rfl, hk1, hr1⟩; have HG := Aside0.mk (And.intro hk1 hr1); clear hk1 hr1)
        go_roundg f
        case measure => omega
        case rel => exact ⟨i - j, j, f, swpR (m - i) m j 0 D, by go_num, rfl, by omega, hj0, by omega, hjb, by omega, Nat.le_refl _, by rw [swpR_len]; exact hD, ⟨HF.out.1.trans_ HG.out.1, HG.out.2, HF.out.2⟩⟩
      · rw [if_neg hji] at hins
        have hgt : ¬ (j : Int) < (i : Int) := by omega
        have m2 : ((m + j - i : Nat) : Int) = (m : Int) + (j : Int) - (i : Int) := by omega
        have hs := srW fv blk cap D (m - i) (m + j - i) i wr hRE (by omega) (by omega) (by omega) (by omega)
        rw [hD, m1, m2] at hs
        have HF := Aside0.mk (And.intro hK hins)
        clear hK hins hRE
        go_wp2_with (go_at_call 77; refine hs.mono ?_; rintro e w1 ⟨rfl, hk1, hr1⟩; have HG := Aside0.mk (And.intro hk1 hr1); clear hk1 hr1)
        go_roundg f
        case measure => omega
        case rel => exact ⟨i, j - i, f, swpR (m - i) (m + j - i) i 0 D, rfl, by go_num, hi0, by omega, hia, by omega, by omega, Nat.le_refl _, by rw [swpR_len]; exact hD, ⟨HF.out.1.trans_ HG.out.1, HG.out.2, HF.out.2⟩⟩
def bsF (pred : Nat → Bool) : Nat → Nat → Nat → Nat
  | 0, i, _ => i
  | f + 1, i, j => if i < j then (if pred ((i + j) / 2) = true then bsF pred f ((i + j) / 2 + 1) j else bsF pred f i ((i + j) / 2)) else i
theorem bsF_eq (pred : Nat → Bool) (f i : Nat) : bsF pred f i i = i := by
  cases f with
  | zero => rfl
  | succ f => rw [bsF, if_neg (Nat.lt_irrefl _)]
theorem bsF_range (pred : Nat → Bool) : ∀ (f i j : Nat), i ≤ j → i ≤ bsF pred f i j ∧ bsF pred f i j ≤ j
  | 0, i, j, h => ⟨Nat.le_refl _, h⟩
  | f + 1, i, j, h => by
    rw [bsF]
    split
    · split
      · have := bsF_range pred f ((i + j) / 2 + 1) j (by omega)
        omega
      · have := bsF_range pred f i ((i + j) / 2) (by omega)
        omega
    · omega
def upS : Nat → Nat → List S31 → List S31
  | 0, _, l => l
  | d + 1, k, l => upS d (k + 1) (swp1 l k (k + 1))
def dnS : Nat → Nat → List S31 → List S31
  | 0, _, l => l
  | d + 1, k, l => dnS d (k - 1) (swp1 l k (k - 1))
theorem upS_len : ∀ (d k : Nat) (l : List S31), (upS d k l).length = l.length
  | 0, _, _ => rfl
  | d + 1, k, l => by rw [upS, upS_len d, swp1_len]
theorem dnS_len : ∀ (d k : Nat) (l : List S31), (dnS d k l).length = l.length
  | 0, _, _ => rfl
  | d + 1, k, l => by rw [dnS, dnS_len d, swp1_len]
theorem upS_mem {z : S31} : ∀ (d k : Nat) (l : List S31), k + d < l.length → z ∈ upS d k l → z ∈ l
  | 0, _, _, _, h => h
  | d + 1, k, l, hk, h => by
    rw [upS] at h
    exact swp1_mem (by omega) (by omega) (upS_mem d (k + 1) _ (by rw [swp1_len]; omega) h)
theorem dnS_mem {z : S31} : ∀ (d k : Nat) (l : List S31), k < l.length → d ≤ k → z ∈ dnS d k l → z ∈ l
  | 0, _, _, _, _, h => h
  | d + 1, k, l, hk, hd, h => by
    rw [dnS] at h
    exact swp1_mem (by omega) (by omega) (dnS_mem d (k - 1) _ (by rw [swp1_len]; omega) (by omega) h)
def pA (ord : S31 → S31 → Int) (l : List S31) (a h : Nat) : Bool := decide (ord (rd_T31 l (h : Int)) (rd_T31 l (a : Int)) < 0)
def pB (ord : S31 → S31 → Int) (l : List S31) (m h : Nat) : Bool := !decide (ord (rd_T31 l (m : Int)) (rd_T31 l (h : Int)) < 0)
def pC (ord : S31 → S31 → Int) (l : List S31) (p c : Nat) : Bool := !decide (ord (rd_T31 l ((p - c : Nat) : Int)) (rd_T31 l (c : Int)) < 0)
def symF (ord : S31 → S31 → Int) : Nat → Nat → Nat → Nat → List S31 → List S31
  | 0, _, _, _, l => l
  | f + 1, a, m, b, l =>
    if m - a = 1 then upS (bsF (pA ord l a) (b - m) m b - 1 - a) a l
    else if b - m = 1 then dnS (m - bsF (pB ord l m) (m - a) a m) m l
    else
      let mid := (a + b) / 2
      let n := mid + m
      let s0 := if m > mid then n - b else a
      let r0 := if m > mid then mid else m
      let s := bsF (pC ord l (n - 1)) (r0 - s0) s0 r0
      let e := n - s
      let l1 := if s < m ∧ m < e then rotF m (e - s) (m - s) (e - m) l else l
      let l2 := if a < s ∧ s < mid then symF ord f a s mid l1 else l1
      if mid < e ∧ e < b then symF ord f mid e b l2 else l2
set_option maxHeartbeats 16000000 in
set_option maxRecDepth 100000 in
theorem syA (g : FuncId) (lb : Array Value) (eg : ∀ args w, (callFunc g args).run Try.prog w = .ok (.enter g args) w) (ord : S31 → S31 → Int) (ok : S31 → Prop) (blk cap : Nat) (l : List S31) (a m b : Nat) (w : World)
    (hp : ∀ (W : World) (x y : S31), ok x → ok y → KeepBut w W blk none → Calls Try.prog g (#[.agg #[.int .i64 x.f0, .int .i64 x.f1], .agg #[.int .i64 y.f0, .int .i64 y.f1]] ++ lb) W fun e w' => e = .returned (.int .i64 (ord x y)) ∧ Below W.heap.size W w')
    (hr : RowW w blk cap l) (hok : ∀ x ∈ l, ok x) (ham1 : a + 1 ≤ m) (ham2 : m ≤ a + 1) (hmb : m < b) (hb : b ≤ l.length) (hln : l.length ≤ cap) (hcm : l.length ≤ 1152921504606846976) :
    Calls Try.prog 75 #[.slice (some ⟨blk, 0, none⟩) l.length cap, .int .i64 a, .int .i64 m, .int .i64 b, .func (.func g) #[] lb] w fun e w' => e = .returned (.tuple #[]) ∧ KB w w' blk ∧ RowW w' blk cap (upS (bsF (pA ord l a) (b - m) m b - 1 - a) a l) := by
  have mixed : Try.prog.follows .mixedOrders = true := by kernel_rfl
  have hu31 := Try.underlying31
  have HP := Aside0.mk hp
  have HR := Aside0.mk hr
  have HOK := Aside0.mk hok
  have h1 : ((m : Int) - (a : Int)) = 1 := by omega
  clear hp hr hok
  obtain ⟨R, hR⟩ : ∃ R, R = bsF (pA ord l a) (b - m) m b := ⟨_, rfl⟩
  have hRr := bsF_range (pA ord l a) (b - m) m b (by omega)
  rw [← hR] at hRr ⊢
  go_enter Try.func75, Try.ntmps75
  go_wp2
  go_loopg [10, 11] (b - m) (fun g1 v10 v11 wr => ∃ (i j f : Nat), v10 = .int .i64 i ∧ v11 = .int .i64 j ∧ m ≤ i ∧ i ≤ j ∧ j ≤ b ∧ j - i ≤ f ∧ f ≤ g1 ∧ Aside0 (KB w wr blk ∧ RowW wr blk cap l ∧ bsF (pA ord l a) f i j = R))
  case atStart => exact ⟨m, b, b - m, rfl, rfl, Nat.le_refl _, by omega, Nat.le_refl _, Nat.le_refl _, Nat.le_refl _, ⟨KB.refl HR.out.lt, HR.out, hR.symm⟩⟩
  case round =>
    obtain ⟨i, j, f, rfl, rfl, hmi, hij, hjb, hf, hg1, HA⟩ := hrel
    by_cases hlt : i < j
    · have hltz : (i : Int) < (j : Int) := by omega
      obtain ⟨f, rfl⟩ : ∃ z, f = z + 1 := ⟨f - 1, by omega⟩
      obtain ⟨hK, hRE, hins⟩ := HA.out
      rw [bsF, if_pos hlt] at hins
      have hh : (i + j) / 2 < l.length := by omega
      obtain ⟨x, hx⟩ : ∃ x, x = rd_T31 l (((i + j) / 2 : Nat) : Int) := ⟨_, rfl⟩
      obtain ⟨y, hy⟩ : ∃ y, y = rd_T31 l (a : Int) := ⟨_, rfl⟩
      have hox : ok x := HOK.out x (by rw [hx, rd31_mem hh]; exact List.getElem_mem ..)
      have hoy : ok y := HOK.out y (by rw [hy, rd31_mem (by omega)]; exact List.getElem_mem ..)
      have hpd : pA ord l a ((i + j) / 2) = decide (ord x y < 0) := by rw [pA, hx, hy]
      rw [hpd] at hins
      have z0 : (0 : Int) ≤ ((i : Int) + (j : Int)) / 2 := by omega
      have z1 : ((i : Int) + (j : Int)) / 2 < (l.length : Int) := by omega
      have z2 : (((i : Int) + (j : Int)) / 2).toNat = (i + j) / 2 := by omega
      have z3 : (a : Int) < (l.length : Int) := by omega
      have rc : ∀ p : BelowBy wr, RowW p.W blk cap l := fun p => hRE.below p.h
      have c0 : ∀ p : BelowBy wr, p.W.cell? ⟨blk, (i + j) / 2 * 2, none⟩ = some (.int .i64 x.f0) := fun p => by rw [hx]; exact ((rc p).at _ hh).1
      have c1 : ∀ p : BelowBy wr, p.W.cell? ⟨blk, (i + j) / 2 * 2 + 1, none⟩ = some (.int .i64 x.f1) := fun p => by rw [hx]; exact ((rc p).at _ hh).2
      have c2 : ∀ p : BelowBy wr, p.W.cell? ⟨blk, a * 2, none⟩ = some (.int .i64 y.f0) := fun p => by rw [hy]; exact ((rc p).at a (by omega)).1
      have c3 : ∀ p : BelowBy wr, p.W.cell? ⟨blk, a * 2 + 1, none⟩ = some (.int .i64 y.f1) := fun p => by rw [hy]; exact ((rc p).at a (by omega)).2
      have hcg : ∀ p : BelowBy wr, Calls Try.prog g (#[.agg #[.int .i64 x.f0, .int .i64 x.f1], .agg #[.int .i64 y.f0, .int .i64 y.f1]] ++ lb) p.W fun e w' => e = .returned (.int .i64 (ord x y)) ∧ Below p.W.heap.size p.W w' := fun p => HP.out p.W x y hox hoy (hK.step p.h).keep
      have RC := Aside0.mk (And.intro rc (And.intro hK hins))
      clear hx hy rc hK hins hRE HA hox hoy hpd
      obtain ⟨ov, hov⟩ : ∃ ov, ov = ord x y := ⟨_, rfl⟩
      rw [← hov] at hcg
      have HOV := Aside0.mk hov
      clear hov
      by_cases hlv : ov < 0
      · go_wp2_with fail
        refine wp_region_quiet_below (by assumption) (by kernel_rfl) ?_
        repeat (quiet_step (first | (go_at_fn g; refine Calls.below_of (hcg _))))
        refine wpQuiet_nil ?_
        intro _ hw'
        obtain ⟨pq, hw''⟩ := hw'
        subst hw''
        go_wp2
        go_roundg f
        case measure => omega
        case rel =>
          have h_ := RC.out.2.2
          rw [← HOV.out, decide_eq_true hlv, if_pos rfl] at h_
          exact ⟨(i + j) / 2 + 1, j, f, by rw [show ((i : Int) + (j : Int)) / 2 + 1 = (((i + j) / 2 + 1 : Nat) : Int) by omega], rfl, by omega, by omega, hjb, by omega, Nat.le_refl _, ⟨RC.out.2.1.step pq.h, RC.out.1 pq, h_⟩⟩
      · have hnlv : ¬ ov < 0 := hlv
        go_wp2_with fail
        refine wp_region_quiet_below (by assumption) (by kernel_rfl) ?_
        repeat (quiet_step (first | (go_at_fn g; refine Calls.below_of (hcg _))))
        refine wpQuiet_nil ?_
        intro _ hw'
        obtain ⟨pq, hw''⟩ := hw'
        subst hw''
        go_wp2
        go_roundg f
        case measure => omega
        case rel =>
          have h_ := RC.out.2.2
          rw [← HOV.out, decide_eq_false (show ¬ ov < 0 by omega), if_neg (by decide)] at h_
          exact ⟨i, (i + j) / 2, f, rfl, by rw [show ((i : Int) + (j : Int)) / 2 = (((i + j) / 2 : Nat) : Int) by omega], hmi, by omega, by omega, by omega, Nat.le_refl _, ⟨RC.out.2.1.step pq.h, RC.out.1 pq, h_⟩⟩
    · obtain rfl : i = j := by omega
      have hltz : ¬ (i : Int) < (i : Int) := by omega
      obtain ⟨hK, hRE, hins⟩ := HA.out
      rw [bsF_eq] at hins
      subst hins
      have HF := Aside0.mk (And.intro hK hRE)
      clear hK hRE HA hR
      go_wp2
      go_loopg [13] (i - a) (fun g2 v13 wr2 => ∃ (k : Nat) (D : List S31), v13 = .int .i64 k ∧ a ≤ k ∧ k ≤ i - 1 ∧ i - 1 - k ≤ g2 ∧ D.length = l.length ∧ Aside0 (KB w wr2 blk ∧ RowW wr2 blk cap D ∧ upS (i - 1 - k) k D = upS (i - 1 - a) a l))
      case atStart => exact ⟨a, l, rfl, Nat.le_refl _, by omega, by omega, rfl, ⟨HF.out.1, HF.out.2, rfl⟩⟩
      case round =>
        obtain ⟨k, D, rfl, hak, hki, hg2, hD, HB⟩ := hrel
        by_cases hk1 : k < i - 1
        · have hkz : (k : Int) < (i : Int) - 1 := by omega
          obtain ⟨hK, hRE, hins⟩ := HB.out
          rw [show i - 1 - k = (i - 1 - (k + 1)) + 1 by omega, upS] at hins
          have p1 : (k : Int) < (l.length : Int) := by omega
          have q0 : (0 : Int) ≤ (k : Int) + 1 := by omega
          have q1 : (k : Int) + 1 < (l.length : Int) := by omega
          have q2 : ((k : Int) + 1).toNat = k + 1 := by omega
          obtain ⟨x, hx⟩ : ∃ x, x = rd_T31 D (k : Int) := ⟨_, rfl⟩
          obtain ⟨y, hy⟩ : ∃ y, y = rd_T31 D ((k + 1 : Nat) : Int) := ⟨_, rfl⟩
          have hq : ∀ q, wr.frozen? ⟨blk, q, none⟩ = false := fun q => hRE.frozen q
          have d0 : wr.cell? ⟨blk, k * 2, none⟩ = some (.int .i64 x.f0) := by rw [hx]; exact (hRE.at k (by omega)).1
          have d1 : wr.cell? ⟨blk, k * 2 + 1, none⟩ = some (.int .i64 x.f1) := by rw [hx]; exact (hRE.at k (by omega)).2
          have d2 : wr.cell? ⟨blk, (k + 1) * 2, none⟩ = some (.int .i64 y.f0) := by rw [hy]; exact (hRE.at (k + 1) (by omega)).1
          have d3 : wr.cell? ⟨blk, (k + 1) * 2 + 1, none⟩ = some (.int .i64 y.f1) := by rw [hy]; exact (hRE.at (k + 1) (by omega)).2
          have f0 := hq (k * 2)
          have f1 := hq (k * 2 + 1)
          have f2 := hq ((k + 1) * 2)
          have f3 := hq ((k + 1) * 2 + 1)
          have HX := Aside0.mk (And.intro hx (And.intro hy (And.intro hK (And.intro hRE hins))))
          clear hx hy hK hRE hins HB hq HF
          go_wp2_with fail
          go_big_region_o
          all_goals go_wp2
          go_roundg (i - 1 - (k + 1))
          case measure => omega
          case rel =>
            obtain ⟨hx, hy, hK, hRE, hins⟩ := HX.out
            have hs := hRE.swp (by omega) k (k + 1) (by omega) (by omega)
            rw [← hx, ← hy] at hs
            exact ⟨k + 1, swp1 D k (k + 1), by go_num, by omega, by omega, Nat.le_refl _, by rw [swp1_len]; exact hD, ⟨((((hK.set_ _ _).set_ _ _).set_ _ _).set_ _ _).step (below_drew (Below.refl _ _)), ⟨hs.ex⟩, hins⟩⟩
        · have hkz : ¬ (k : Int) < (i : Int) - 1 := by omega
          have HG := Aside0.mk HB.out
          rw [show i - 1 - k = 0 by omega, upS] at HG
          clear HB HF
          go_wp2
          (try simp only [Exit.inBlock, Exit.then])
          refine bodyPost_ret (results_none rfl _ _ _) rfl ?_
          obtain ⟨h1, h2, h4⟩ := HG.out
          rw [h4] at h2
          exact ⟨rfl, h1, h2⟩
set_option maxHeartbeats 16000000 in
set_option maxRecDepth 100000 in
theorem syB (g : FuncId) (lb : Array Value) (eg : ∀ args w, (callFunc g args).run Try.prog w = .ok (.enter g args) w) (ord : S31 → S31 → Int) (ok : S31 → Prop) (blk cap : Nat) (l : List S31) (a m b : Nat) (w : World)
    (hp : ∀ (W : World) (x y : S31), ok x → ok y → KeepBut w W blk none → Calls Try.prog g (#[.agg #[.int .i64 x.f0, .int .i64 x.f1], .agg #[.int .i64 y.f0, .int .i64 y.f1]] ++ lb) W fun e w' => e = .returned (.int .i64 (ord x y)) ∧ Below W.heap.size W w')
    (hr : RowW w blk cap l) (hok : ∀ x ∈ l, ok x) (ham : a + 1 < m) (hmb1 : m + 1 ≤ b) (hmb2 : b ≤ m + 1) (hb : b ≤ l.length) (hln : l.length ≤ cap) (hcm : l.length ≤ 1152921504606846976) :
    Calls Try.prog 75 #[.slice (some ⟨blk, 0, none⟩) l.length cap, .int .i64 a, .int .i64 m, .int .i64 b, .func (.func g) #[] lb] w fun e w' => e = .returned (.tuple #[]) ∧ KB w w' blk ∧ RowW w' blk cap (dnS (m - bsF (pB ord l m) (m - a) a m) m l) := by
  have mixed : Try.prog.follows .mixedOrders = true := by kernel_rfl
  have hu31 := Try.underlying31
  have HP := Aside0.mk hp
  have HR := Aside0.mk hr
  have HOK := Aside0.mk hok
  have h1 : (((m : Int) - (a : Int)) == 1) = false := beq_eq_false_iff_ne.2 (by omega)
  have h2 : ((b : Int) - (m : Int)) = 1 := by omega
  clear hp hr hok
  obtain ⟨R, hR⟩ : ∃ R, R = bsF (pB ord l m) (m - a) a m := ⟨_, rfl⟩
  have hRr := bsF_range (pB ord l m) (m - a) a m (by omega)
  rw [← hR] at hRr ⊢
  go_enter Try.func75, Try.ntmps75
  go_wp2
  go_loopg [14, 15] (m - a) (fun g1 v10 v11 wr => ∃ (i j f : Nat), v10 = .int .i64 i ∧ v11 = .int .i64 j ∧ a ≤ i ∧ i ≤ j ∧ j ≤ m ∧ j - i ≤ f ∧ f ≤ g1 ∧ Aside0 (KB w wr blk ∧ RowW wr blk cap l ∧ bsF (pB ord l m) f i j = R))
  case atStart => exact ⟨a, m, m - a, rfl, rfl, Nat.le_refl _, by omega, Nat.le_refl _, Nat.le_refl _, Nat.le_refl _, ⟨KB.refl HR.out.lt, HR.out, hR.symm⟩⟩
  case round =>
    obtain ⟨i, j, f, rfl, rfl, hmi, hij, hjb, hf, hg1, HA⟩ := hrel
    by_cases hlt : i < j
    · have hltz : (i : Int) < (j : Int) := by omega
      obtain ⟨f, rfl⟩ : ∃ z, f = z + 1 := ⟨f - 1, by omega⟩
      obtain ⟨hK, hRE, hins⟩ := HA.out
      rw [bsF, if_pos hlt] at hins
      have hh : (i + j) / 2 < l.length := by omega
      obtain ⟨x, hx⟩ : ∃ x, x = rd_T31 l (((i + j) / 2 : Nat) : Int) := ⟨_, rfl⟩
      obtain ⟨y, hy⟩ : ∃ y, y = rd_T31 l (m : Int) := ⟨_, rfl⟩
      have hox : ok x := HOK.out x (by rw [hx, rd31_mem hh]; exact List.getElem_mem ..)
      have hoy : ok y := HOK.out y (by rw [hy, rd31_mem (by omega)]; exact List.getElem_mem ..)
      have hpd : pB ord l m ((i + j) / 2) = !decide (ord y x < 0) := by rw [pB, hx, hy]
      rw [hpd] at hins
      have z0 : (0 : Int) ≤ ((i : Int) + (j : Int)) / 2 := by omega
      have z1 : ((i : Int) + (j : Int)) / 2 < (l.length : Int) := by omega
      have z2 : (((i : Int) + (j : Int)) / 2).toNat = (i + j) / 2 := by omega
      have z3 : (m : Int) < (l.length : Int) := by omega
      have rc : ∀ p : BelowBy wr, RowW p.W blk cap l := fun p => hRE.below p.h
      have c0 : ∀ p : BelowBy wr, p.W.cell? ⟨blk, (i + j) / 2 * 2, none⟩ = some (.int .i64 x.f0) := fun p => by rw [hx]; exact ((rc p).at _ hh).1
      have c1 : ∀ p : BelowBy wr, p.W.cell? ⟨blk, (i + j) / 2 * 2 + 1, none⟩ = some (.int .i64 x.f1) := fun p => by rw [hx]; exact ((rc p).at _ hh).2
      have c2 : ∀ p : BelowBy wr, p.W.cell? ⟨blk, m * 2, none⟩ = some (.int .i64 y.f0) := fun p => by rw [hy]; exact ((rc p).at m (by omega)).1
      have c3 : ∀ p : BelowBy wr, p.W.cell? ⟨blk, m * 2 + 1, none⟩ = some (.int .i64 y.f1) := fun p => by rw [hy]; exact ((rc p).at m (by omega)).2
      have hcg : ∀ p : BelowBy wr, Calls Try.prog g (#[.agg #[.int .i64 y.f0, .int .i64 y.f1], .agg #[.int .i64 x.f0, .int .i64 x.f1]] ++ lb) p.W fun e w' => e = .returned (.int .i64 (ord y x)) ∧ Below p.W.heap.size p.W w' := fun p => HP.out p.W y x hoy hox (hK.step p.h).keep
      have RC := Aside0.mk (And.intro rc (And.intro hK hins))
      clear hx hy rc hK hins hRE HA hox hoy hpd
      obtain ⟨ov, hov⟩ : ∃ ov, ov = ord y x := ⟨_, rfl⟩
      rw [← hov] at hcg
      have HOV := Aside0.mk hov
      clear hov
      by_cases hlv : ov < 0
      · go_wp2_with fail
        refine wp_region_quiet_below (by assumption) (by kernel_rfl) ?_
        repeat (quiet_step (first | (go_at_fn g; refine Calls.below_of (hcg _))))
        refine wpQuiet_nil ?_
        intro _ hw'
        obtain ⟨pq, hw''⟩ := hw'
        subst hw''
        go_wp2
        go_roundg f
        case measure => omega
        case rel =>
          have h_ := RC.out.2.2
          rw [← HOV.out, decide_eq_true hlv, if_neg (by decide)] at h_
          exact ⟨i, (i + j) / 2, f, rfl, by rw [show ((i : Int) + (j : Int)) / 2 = (((i + j) / 2 : Nat) : Int) by omega], hmi, by omega, by omega, by omega, Nat.le_refl _, ⟨RC.out.2.1.step pq.h, RC.out.1 pq, h_⟩⟩
      · have hdv : decide (ov < 0) = false := decide_eq_false hlv
        have hnlv : (ov < 0) = False := eq_false hlv
        go_wp2_with fail
        refine wp_region_quiet_below (by assumption) (by kernel_rfl) ?_
        repeat (quiet_step (first | (go_at_fn g; refine Calls.below_of (hcg _))))
        refine wpQuiet_nil ?_
        intro _ hw'
        obtain ⟨pq, hw''⟩ := hw'
        subst hw''
        go_wp2
        go_roundg f
        case measure => omega
        case rel =>
          have h_ := RC.out.2.2
          rw [← HOV.out, decide_eq_false (show ¬ ov < 0 by omega), if_pos (by decide)] at h_
          exact ⟨(i + j) / 2 + 1, j, f, by rw [show ((i : Int) + (j : Int)) / 2 + 1 = (((i + j) / 2 + 1 : Nat) : Int) by omega], rfl, by omega, by omega, hjb, by omega, Nat.le_refl _, ⟨RC.out.2.1.step pq.h, RC.out.1 pq, h_⟩⟩
    · obtain rfl : i = j := by omega
      have hltz : ¬ (i : Int) < (i : Int) := by omega
      obtain ⟨hK, hRE, hins⟩ := HA.out
      rw [bsF_eq] at hins
      subst hins
      have HF := Aside0.mk (And.intro hK hRE)
      clear hK hRE HA hR
      go_wp2
      go_loopg [17] (m - i) (fun g2 v13 wr2 => ∃ (k : Nat) (D : List S31), v13 = .int .i64 k ∧ i ≤ k ∧ k ≤ m ∧ k - i ≤ g2 ∧ D.length = l.length ∧ Aside0 (KB w wr2 blk ∧ RowW wr2 blk cap D ∧ dnS (k - i) k D = dnS (m - i) m l))
      case atStart => exact ⟨m, l, rfl, by omega, Nat.le_refl _, by omega, rfl, ⟨HF.out.1, HF.out.2, rfl⟩⟩
      case round =>
        obtain ⟨k, D, rfl, hak, hki, hg2, hD, HB⟩ := hrel
        by_cases hk1 : i < k
        · have hkz : (i : Int) < (k : Int) := by omega
          obtain ⟨hK, hRE, hins⟩ := HB.out
          obtain ⟨kp, rfl⟩ : ∃ z, k = z + 1 := ⟨k - 1, by omega⟩
          rw [show kp + 1 - i = (kp - i) + 1 by omega, dnS, Nat.add_sub_cancel] at hins
          have hkz2 : (i : Int) < (kp : Int) + 1 := by omega
          have p1 : (kp : Int) < (l.length : Int) := by omega
          have q0 : (0 : Int) ≤ (kp : Int) + 1 := by omega
          have q1 : (kp : Int) + 1 < (l.length : Int) := by omega
          have q2 : ((kp : Int) + 1).toNat = kp + 1 := by omega
          have hwp : IntKind.i64.wrap (kp : Int) = (kp : Int) := by rw [IntKind.wrap_i64]; omega
          obtain ⟨x, hx⟩ : ∃ x, x = rd_T31 D ((kp + 1 : Nat) : Int) := ⟨_, rfl⟩
          obtain ⟨y, hy⟩ : ∃ y, y = rd_T31 D (kp : Int) := ⟨_, rfl⟩
          have hq : ∀ q, wr.frozen? ⟨blk, q, none⟩ = false := fun q => hRE.frozen q
          have d0 : wr.cell? ⟨blk, (kp + 1) * 2, none⟩ = some (.int .i64 x.f0) := by rw [hx]; exact (hRE.at (kp + 1) (by omega)).1
          have d1 : wr.cell? ⟨blk, (kp + 1) * 2 + 1, none⟩ = some (.int .i64 x.f1) := by rw [hx]; exact (hRE.at (kp + 1) (by omega)).2
          have d2 : wr.cell? ⟨blk, kp * 2, none⟩ = some (.int .i64 y.f0) := by rw [hy]; exact (hRE.at kp (by omega)).1
          have d3 : wr.cell? ⟨blk, kp * 2 + 1, none⟩ = some (.int .i64 y.f1) := by rw [hy]; exact (hRE.at kp (by omega)).2
          have f0 := hq ((kp + 1) * 2)
          have f1 := hq ((kp + 1) * 2 + 1)
          have f2 := hq (kp * 2)
          have f3 := hq (kp * 2 + 1)
          have HX := Aside0.mk (And.intro hx (And.intro hy (And.intro hK (And.intro hRE hins))))
          clear hx hy hK hRE hins HB hq HF
          go_wp2_with fail
          go_big_region_o
          all_goals go_wp2
          go_roundg (kp - i)
          case measure => omega
          case rel =>
            obtain ⟨hx, hy, hK, hRE, hins⟩ := HX.out
            have hs := hRE.swp (by omega) (kp + 1) kp (by omega) (by omega)
            rw [← hx, ← hy] at hs
            exact ⟨kp, swp1 D (kp + 1) kp, by first | rfl | go_num, by omega, by omega, Nat.le_refl _, by rw [swp1_len]; exact hD, ⟨((((hK.set_ _ _).set_ _ _).set_ _ _).set_ _ _).step (below_drew (Below.refl _ _)), ⟨hs.ex⟩, hins⟩⟩
        · have hkz : ¬ (i : Int) < (k : Int) := by omega
          have HG := Aside0.mk HB.out
          rw [show k - i = 0 by omega, dnS] at HG
          clear HB HF
          go_wp2
          (try simp only [Exit.inBlock, Exit.then])
          refine bodyPost_ret (results_none rfl _ _ _) rfl ?_
          obtain ⟨h1, h2, h4⟩ := HG.out
          rw [h4] at h2
          exact ⟨rfl, h1, h2⟩
theorem symF_len (ord : S31 → S31 → Int) : ∀ (f a m b : Nat) (l : List S31), (symF ord f a m b l).length = l.length
  | 0, _, _, _, _ => rfl
  | f + 1, a, m, b, l => by
    by_cases hA : m - a = 1
    · rw [symF, if_pos hA, upS_len]
    by_cases hB : b - m = 1
    · rw [symF, if_neg hA, if_pos hB, dnS_len]
    rw [symF, if_neg hA, if_neg hB]
    dsimp only
    generalize bsF _ _ _ _ = s
    generalize (a + b) / 2 + m - s = e
    have g1 : ∀ (c : Prop) [Decidable c] (x y z : Nat), (if c then rotF m x y z l else l).length = l.length := fun c _ x y z => by
      split
      · rw [rotF_len]
      · rfl
    have g2 : ∀ (c : Prop) [Decidable c] (x y z : Nat) (L : List S31), (if c then symF ord f x y z L else L).length = L.length := fun c _ x y z L => by
      split
      · rw [symF_len ord f]
      · rfl
    rw [g2, g2, g1]
/-- The bounds of the general case. -/
theorem sym_bounds (pred : Nat → Bool) (a m b mid n s0 r0 s e : Nat) (ham : a < m) (hmb : m < b) (h1 : mid = (a + b) / 2) (h2 : n = mid + m) (h3 : s0 = if m > mid then n - b else a) (h4 : r0 = if m > mid then mid else m) (h5 : s = bsF pred (r0 - s0) s0 r0) (h6 : e = n - s) :
    a ≤ s0 ∧ s0 ≤ r0 ∧ r0 ≤ mid ∧ r0 ≤ m ∧ s0 ≤ s ∧ s ≤ r0 ∧ e ≤ b ∧ mid ≤ e ∧ m ≤ e ∧ n = s + e ∧ n ≤ s0 + b := by
  have hs : a ≤ s0 ∧ s0 ≤ r0 ∧ r0 ≤ mid ∧ r0 ≤ m ∧ n ≤ s0 + b ∧ r0 ≤ n := by
    rw [h3, h4]
    split <;> omega
  have := bsF_range pred (r0 - s0) s0 r0 hs.2.1
  rw [← h5] at this
  have hm : m ≤ n - r0 ∧ mid ≤ n - r0 := by
    rw [h4]
    split <;> omega
  omega
theorem symF_mem (ord : S31 → S31 → Int) {z : S31} : ∀ (f a m b : Nat) (l : List S31), a < m → m < b → b ≤ l.length → z ∈ symF ord f a m b l → z ∈ l
  | 0, _, _, _, _, _, _, _, h => h
  | f + 1, a, m, b, l, ham, hmb, hb, h => by
    rw [symF] at h
    split at h
    · have hr := bsF_range (pA ord l a) (b - m) m b (by omega)
      exact upS_mem _ _ _ (by omega) h
    · split at h
      · have hr := bsF_range (pB ord l m) (m - a) a m (by omega)
        exact dnS_mem _ _ _ (by omega) (by omega) h
      · dsimp only at h
        obtain ⟨mid, h1⟩ : ∃ mid, mid = (a + b) / 2 := ⟨_, rfl⟩
        obtain ⟨n, h2⟩ : ∃ n, n = mid + m := ⟨_, rfl⟩
        rw [← h1, ← h2] at h
        obtain ⟨s0, h3⟩ : ∃ s0, s0 = if m > mid then n - b else a := ⟨_, rfl⟩
        obtain ⟨r0, h4⟩ : ∃ r0, r0 = if m > mid then mid else m := ⟨_, rfl⟩
        rw [← h3, ← h4] at h
        obtain ⟨s, h5⟩ : ∃ s, s = bsF (pC ord l (n - 1)) (r0 - s0) s0 r0 := ⟨_, rfl⟩
        rw [← h5] at h
        obtain ⟨e, h6⟩ : ∃ e, e = n - s := ⟨_, rfl⟩
        rw [← h6] at h
        have hbd := sym_bounds _ a m b mid n s0 r0 s e ham hmb h1 h2 h3 h4 h5 h6
        have g1 : ∀ x, x ∈ (if s < m ∧ m < e then rotF m (e - s) (m - s) (e - m) l else l) → x ∈ l := fun x hx => by
          split at hx
          · exact rotF_mem _ _ _ _ (by omega) (by omega) hx
          · exact hx
        have l1 : (if s < m ∧ m < e then rotF m (e - s) (m - s) (e - m) l else l).length = l.length := by
          split
          · rw [rotF_len]
          · rfl
        have g2 : ∀ x, x ∈ (if a < s ∧ s < mid then symF ord f a s mid (if s < m ∧ m < e then rotF m (e - s) (m - s) (e - m) l else l) else (if s < m ∧ m < e then rotF m (e - s) (m - s) (e - m) l else l)) → x ∈ l := fun x hx => by
          by_cases hc : a < s ∧ s < mid
          · rw [if_pos hc] at hx
            exact g1 x (symF_mem ord f a s mid _ hc.1 hc.2 (by rw [l1]; omega) hx)
          · rw [if_neg hc] at hx
            exact g1 x hx
        by_cases hc : mid < e ∧ e < b
        · rw [if_pos hc] at h
          refine g2 z (symF_mem ord f mid e b _ hc.1 hc.2 ?_ h)
          split
          · rw [symF_len, l1]; exact hb
          · rw [l1]; exact hb
        · rw [if_neg hc] at h
          exact g2 z h
set_option maxHeartbeats 16000000 in
set_option maxRecDepth 100000 in
theorem symW (g : FuncId) (lb : Array Value) (eg : ∀ args w, (callFunc g args).run Try.prog w = .ok (.enter g args) w) (ord : S31 → S31 → Int) (ok : S31 → Prop) (blk cap : Nat) : ∀ (f : Nat) (l : List S31) (a m b : Nat) (w : World)
    (hp : ∀ (W : World) (x y : S31), ok x → ok y → KeepBut w W blk none → Calls Try.prog g (#[.agg #[.int .i64 x.f0, .int .i64 x.f1], .agg #[.int .i64 y.f0, .int .i64 y.f1]] ++ lb) W fun e w' => e = .returned (.int .i64 (ord x y)) ∧ Below W.heap.size W w')
    (hr : RowW w blk cap l) (hok : ∀ x ∈ l, ok x) (ham : a < m) (hmb : m < b) (hb : b ≤ l.length) (hln : l.length ≤ cap) (hcm : l.length ≤ 1152921504606846976) (hf : b - a ≤ f),
    Calls Try.prog 75 #[.slice (some ⟨blk, 0, none⟩) l.length cap, .int .i64 a, .int .i64 m, .int .i64 b, .func (.func g) #[] lb] w fun e w' => e = .returned (.tuple #[]) ∧ KB w w' blk ∧ RowW w' blk cap (symF ord f a m b l) := by
  intro f
  induction f with
  | zero => intro l a m b w hp hr hok ham hmb hb hln hcm hf; omega
  | succ f ih =>
    intro l a m b w hp hr hok ham hmb hb hln hcm hf
    by_cases hA : m - a = 1
    · have h_ := syA g lb eg ord ok blk cap l a m b w hp hr hok (by omega) (by omega) hmb hb hln hcm
      rw [symF, if_pos hA]
      exact h_
    by_cases hB : b - m = 1
    · have h_ := syB g lb eg ord ok blk cap l a m b w hp hr hok (by omega) (by omega) (by omega) hb hln hcm
      rw [symF, if_neg hA, if_pos hB]
      exact h_
    have hval : symF ord (f + 1) a m b l = symF ord (f + 1) a m b l := rfl
    conv at hval => rhs; rw [symF, if_neg hA, if_neg hB]
    dsimp only at hval
    obtain ⟨mid, h1_⟩ : ∃ mid, mid = (a + b) / 2 := ⟨_, rfl⟩
    obtain ⟨n, h2_⟩ : ∃ n, n = mid + m := ⟨_, rfl⟩
    rw [← h1_, ← h2_] at hval
    obtain ⟨s0, h3_⟩ : ∃ s0, s0 = if m > mid then n - b else a := ⟨_, rfl⟩
    obtain ⟨r0, h4_⟩ : ∃ r0, r0 = if m > mid then mid else m := ⟨_, rfl⟩
    rw [← h3_, ← h4_] at hval
    obtain ⟨s, h5_⟩ : ∃ s, s = bsF (pC ord l (n - 1)) (r0 - s0) s0 r0 := ⟨_, rfl⟩
    rw [← h5_] at hval
    obtain ⟨e, h6_⟩ : ∃ e, e = n - s := ⟨_, rfl⟩
    rw [← h6_] at hval
    obtain ⟨y1, y2, y3, y4, y5, y6, y7, y8, y9, y10, y11⟩ := sym_bounds _ a m b mid n s0 r0 s e ham hmb h1_ h2_ h3_ h4_ h5_ h6_
    have hro : ∀ W, RowW W blk cap l → s < m ∧ m < e → Calls Try.prog 76 #[.slice (some ⟨blk, 0, none⟩) l.length cap, .int .i64 s, .int .i64 m, .int .i64 e, .func (.func g) #[] lb] W fun e_ w' => e_ = .returned (.tuple #[]) ∧ KB W w' blk ∧ RowW w' blk cap (rotF m (e - s) (m - s) (e - m) l) := fun W hW hc => roW _ blk cap l s m e W hW hc.1 hc.2 (by omega) hln hcm
    have hq1 : ∀ W L, KB w W blk → RowW W blk cap L → L.length = l.length → (∀ z ∈ L, ok z) → a < s ∧ s < mid → Calls Try.prog 75 #[.slice (some ⟨blk, 0, none⟩) l.length cap, .int .i64 a, .int .i64 s, .int .i64 mid, .func (.func g) #[] lb] W fun e_ w' => e_ = .returned (.tuple #[]) ∧ KB W w' blk ∧ RowW w' blk cap (symF ord f a s mid L) := fun W L hK hW hL hO hc => by
      have h_ := ih L a s mid W (fun W' x y hx hy hk => hp W' x y hx hy (hK.keep.trans hk (.inl rfl))) hW hO hc.1 hc.2 (by omega) (by omega) (by omega) (by omega)
      rw [hL] at h_
      exact h_
    have hq2 : ∀ W L, KB w W blk → RowW W blk cap L → L.length = l.length → (∀ z ∈ L, ok z) → mid < e ∧ e < b → Calls Try.prog 75 #[.slice (some ⟨blk, 0, none⟩) l.length cap, .int .i64 mid, .int .i64 e, .int .i64 b, .func (.func g) #[] lb] W fun e_ w' => e_ = .returned (.tuple #[]) ∧ KB W w' blk ∧ RowW w' blk cap (symF ord f mid e b L) := fun W L hK hW hL hO hc => by
      have h_ := ih L mid e b W (fun W' x y hx hy hk => hp W' x y hx hy (hK.keep.trans hk (.inl rfl))) hW hO hc.1 hc.2 (by omega) (by omega) (by omega) (by omega)
      rw [hL] at h_
      exact h_
    have HOK1 := Aside0.mk (show ∀ z ∈ rotF m (e - s) (m - s) (e - m) l, ok z from fun z hz => hok z (rotF_mem _ _ _ _ (by omega) (by omega) hz))
    have hmid : ((a : Int) + (b : Int)) / 2 = (mid : Int) := by omega
    have hn1 : (mid : Int) + (m : Int) = (n : Int) := by omega
    obtain ⟨pp, hpp⟩ : ∃ pp, n = pp + 1 := ⟨n - 1, by omega⟩
    have hp1 : (n : Int) - 1 = (pp : Int) := by omega
    have he1 : (n : Int) - (s : Int) = (e : Int) := by omega
    have hA1 : (((m : Int) - (a : Int)) == 1) = false := beq_eq_false_iff_ne.2 (by omega)
    have hB1 : (((b : Int) - (m : Int)) == 1) = false := beq_eq_false_iff_ne.2 (by omega)
    rw [show n - 1 = pp by omega] at h5_
    have mixed : Try.prog.follows .mixedOrders = true := by kernel_rfl
    have hu31 := Try.underlying31
    have HP := Aside0.mk hp
    have HR := Aside0.mk hr
    have HOK := Aside0.mk hok
    have HQ := Aside0.mk (And.intro hro (And.intro hq1 hq2))
    have H5 := Aside0.mk h5_
    have HVAL := Aside0.mk hval
    have H12 := Aside0.mk (And.intro h1_ (And.intro h2_ (And.intro h6_ (And.intro hpp y10))))
    clear hp hr hok hro hq1 hq2 h5_ hval ih h1_ h2_ h6_ hpp y10
    have hs0 : m > mid → (n : Int) - (b : Int) = (s0 : Int) := fun h => by
      rw [if_pos h] at h3_
      have := H12.out.2.1
      omega
    have hr0 : m > mid → r0 = mid := fun h => by rw [h4_, if_pos h]
    have hs1 : ¬ m > mid → s0 = a := fun h => by rw [h3_, if_neg h]
    have hr1 : ¬ m > mid → r0 = m := fun h => by rw [h4_, if_neg h]
    clear h3_ h4_
    go_enter Try.func75, Try.ntmps75
    by_cases hmm : m > mid
    · have hz : (mid : Int) < (m : Int) := by omega
      have hs0 := hs0 hmm
      have hr0 := Aside0.mk (hr0 hmm)
      go_wp2
      go_loopg [20, 21] (r0 - s0) (fun g1 v20 v21 wr => ∃ (i j f : Nat), v20 = .int .i64 i ∧ v21 = .int .i64 j ∧ s0 ≤ i ∧ i ≤ j ∧ j ≤ r0 ∧ j - i ≤ f ∧ f ≤ g1 ∧ Aside0 (KB w wr blk ∧ RowW wr blk cap l ∧ bsF (pC ord l pp) f i j = s))
      case atStart => exact ⟨s0, r0, r0 - s0, by rfl, by rw [hr0.out], Nat.le_refl _, y2, Nat.le_refl _, Nat.le_refl _, Nat.le_refl _, ⟨KB.refl HR.out.lt, HR.out, H5.out.symm⟩⟩
      case round =>
        obtain ⟨i, j, f1, rfl, rfl, hsi, hij, hjr, hf1, hg1, HA⟩ := hrel
        by_cases hlt : i < j
        · have hltz : (i : Int) < (j : Int) := by omega
          obtain ⟨f1, rfl⟩ : ∃ z, f1 = z + 1 := ⟨f1 - 1, by omega⟩
          obtain ⟨hK, hRE, hins⟩ := HA.out
          rw [bsF, if_pos hlt] at hins
          obtain ⟨hq1, hq2, hq3, hq4, hq5⟩ := H12.out
          obtain ⟨c, hc⟩ : ∃ c, c = (i + j) / 2 := ⟨_, rfl⟩
          obtain ⟨q, hqq⟩ : ∃ q, q = pp - c := ⟨_, rfl⟩
          rw [← hc] at hins
          have hh : c < l.length := by omega
          have hh2 : q < l.length := by omega
          obtain ⟨x, hx⟩ : ∃ x, x = rd_T31 l (q : Int) := ⟨_, rfl⟩
          obtain ⟨y, hy⟩ : ∃ y, y = rd_T31 l (c : Int) := ⟨_, rfl⟩
          have hox : ok x := HOK.out x (by rw [hx, rd31_mem hh2]; exact List.getElem_mem ..)
          have hoy : ok y := HOK.out y (by rw [hy, rd31_mem hh]; exact List.getElem_mem ..)
          have hpd : pC ord l pp c = !decide (ord x y < 0) := by rw [pC, hx, hy, ← hqq]
          rw [hpd] at hins
          have z0 : ((i : Int) + (j : Int)) / 2 = (c : Int) := by omega
          have z1 : (c : Int) < (l.length : Int) := by omega
          have z3 : (pp : Int) - (c : Int) = (q : Int) := by omega
          have z4 : (q : Int) < (l.length : Int) := by omega
          have z5 : IntKind.i64.wrap (q : Int) = (q : Int) := by rw [IntKind.wrap_i64]; omega
          have z6 : IntKind.i64.wrap (c : Int) = (c : Int) := by rw [IntKind.wrap_i64]; omega
          have hc1 : i ≤ c := by omega
          have hc2 : c < j := by omega
          clear hq1 hq2 hq3 hq4 hq5
          clear hqq hc hpd
          have rc : ∀ p : BelowBy wr, RowW p.W blk cap l := fun p => hRE.below p.h
          have c0 : ∀ p : BelowBy wr, p.W.cell? ⟨blk, q * 2, none⟩ = some (.int .i64 x.f0) := fun p => by rw [hx]; exact ((rc p).at _ hh2).1
          have c1 : ∀ p : BelowBy wr, p.W.cell? ⟨blk, q * 2 + 1, none⟩ = some (.int .i64 x.f1) := fun p => by rw [hx]; exact ((rc p).at _ hh2).2
          have c2 : ∀ p : BelowBy wr, p.W.cell? ⟨blk, c * 2, none⟩ = some (.int .i64 y.f0) := fun p => by rw [hy]; exact ((rc p).at _ hh).1
          have c3 : ∀ p : BelowBy wr, p.W.cell? ⟨blk, c * 2 + 1, none⟩ = some (.int .i64 y.f1) := fun p => by rw [hy]; exact ((rc p).at _ hh).2
          have hcg : ∀ p : BelowBy wr, Calls Try.prog g (#[.agg #[.int .i64 x.f0, .int .i64 x.f1], .agg #[.int .i64 y.f0, .int .i64 y.f1]] ++ lb) p.W fun e w' => e = .returned (.int .i64 (ord x y)) ∧ Below p.W.heap.size p.W w' := fun p => HP.out p.W x y hox hoy (hK.step p.h).keep
          have RC := Aside0.mk (And.intro rc (And.intro hK hins))
          clear hx hy rc hK hins hRE HA hox hoy
          obtain ⟨ov, hov⟩ : ∃ ov, ov = ord x y := ⟨_, rfl⟩
          rw [← hov] at hcg
          have HOV := Aside0.mk hov
          clear hov
          by_cases hlv : ov < 0
          · go_wp2_with fail
            refine wp_region_quiet_below (by assumption) (by kernel_rfl) ?_
            repeat (quiet_step (first | (go_at_fn g; refine Calls.below_of (hcg _))))
            refine wpQuiet_nil ?_
            intro _ hw'
            obtain ⟨pq, hw''⟩ := hw'
            subst hw''
            go_wp2
            go_roundg f1
            case measure => omega
            case rel =>
              have h_ := RC.out.2.2
              rw [← HOV.out, decide_eq_true hlv, Bool.not_true, if_neg (by decide)] at h_
              exact ⟨i, c, f1, rfl, rfl, hsi, by omega, by omega, by omega, Nat.le_refl _, ⟨RC.out.2.1.step pq.h, RC.out.1 pq, h_⟩⟩
          · have hdv : decide (ov < 0) = false := decide_eq_false hlv
            have hnlv : (ov < 0) = False := eq_false hlv
            go_wp2_with fail
            refine wp_region_quiet_below (by assumption) (by kernel_rfl) ?_
            repeat (quiet_step (first | (go_at_fn g; refine Calls.below_of (hcg _))))
            refine wpQuiet_nil ?_
            intro _ hw'
            obtain ⟨pq, hw''⟩ := hw'
            subst hw''
            go_wp2
            go_roundg f1
            case measure => omega
            case rel =>
              have h_ := RC.out.2.2
              rw [← HOV.out, decide_eq_false (show ¬ ov < 0 by omega), Bool.not_false, if_pos rfl] at h_
              exact ⟨c + 1, j, f1, by first | rfl | go_num, rfl, by omega, by omega, hjr, by omega, Nat.le_refl _, ⟨RC.out.2.1.step pq.h, RC.out.1 pq, h_⟩⟩
        · obtain rfl : i = j := by omega
          have hltz : ¬ (i : Int) < (i : Int) := by omega
          have he_ := HA.out.2.2
          rw [bsF_eq] at he_
          subst he_
          have G0 := Aside0.mk (And.intro HA.out.1 HA.out.2.1)
          clear HA hs0 hs1 hr0 hr1 H5 HR
          obtain ⟨hro, hq1, hq2⟩ := HQ.out
          have k1 : n ≤ 2 * l.length := by have := H12.out; omega
          have k2 : i ≤ n := by have := H12.out; omega
          have k3 : mid ≤ l.length := by have := H12.out; omega
          have k4 : IntKind.i64.wrap (e : Int) = (e : Int) := by rw [IntKind.wrap_i64]; omega
          have hval := HVAL.out
          clear HVAL HQ
          by_cases h1 : i < m ∧ m < e
          · skip
            by_cases h2 : a < i ∧ i < mid
            · skip
              by_cases h3 : mid < e ∧ e < b
              · skip
                rw [if_pos h3, if_pos h2, if_pos h1] at hval
                have HV := Aside0.mk hval
                have h4 := Aside0.mk hmm
                clear hval
                have h1a : (i : Int) < (m : Int) := by omega
                have h1b : (m : Int) < (e : Int) := by omega
                have h2a : (a : Int) < (i : Int) := by omega
                have h2b : (i : Int) < (mid : Int) := by omega
                have h3a : (mid : Int) < (e : Int) := by omega
                have h3b : (e : Int) < (b : Int) := by omega
                go_wp2_with (first | (go_at_call 76; refine (hro _ G0.out.2 h1).mono ?_; rintro e_ w1 ⟨rfl, hk1, hr1⟩; have G1 := Aside0.mk (And.intro (G0.out.1.trans_ hk1) hr1); clear hk1 hr1) | (go_at_call 75; have hq := hq1; clear hq1; refine (hq _ (rotF m (e - i) (m - i) (e - m) l) G1.out.1 G1.out.2 (rotF_len ..) HOK1.out h2).mono ?_; rintro e_ w2 ⟨rfl, hk1, hr1⟩; have G2 := Aside0.mk (And.intro (G1.out.1.trans_ hk1) hr1); clear hk1 hr1) | (go_at_call 75; have hq := hq2; clear hq2; refine (hq _ (symF ord f a i mid (rotF m (e - i) (m - i) (e - m) l)) G2.out.1 G2.out.2 ((symF_len ..).trans (rotF_len ..)) (fun z hz => (HOK1.out) z (symF_mem ord f a i mid _ h2.1 h2.2 (by rw [rotF_len]; have := H12.out; omega) hz)) h3).mono ?_; rintro e_ w3 ⟨rfl, hk1, hr1⟩; have G3 := Aside0.mk (And.intro (G2.out.1.trans_ hk1) hr1); clear hk1 hr1))
                all_goals (go_end0; rw [HV.out]; exact ⟨rfl, G3.out.1, G3.out.2⟩)
              · skip
                rw [if_neg h3, if_pos h2, if_pos h1] at hval
                have HV := Aside0.mk hval
                have h4 := Aside0.mk hmm
                clear hval
                have h1a : (i : Int) < (m : Int) := by omega
                have h1b : (m : Int) < (e : Int) := by omega
                have h2a : (a : Int) < (i : Int) := by omega
                have h2b : (i : Int) < (mid : Int) := by omega
                by_cases h3c : mid < e
                · have h3x : (mid : Int) < (e : Int) := by omega
                  have h3y : ¬ (e : Int) < (b : Int) := by omega
                  go_wp2_with (first | (go_at_call 76; refine (hro _ G0.out.2 h1).mono ?_; rintro e_ w1 ⟨rfl, hk1, hr1⟩; have G1 := Aside0.mk (And.intro (G0.out.1.trans_ hk1) hr1); clear hk1 hr1) | (go_at_call 75; have hq := hq1; clear hq1; refine (hq _ (rotF m (e - i) (m - i) (e - m) l) G1.out.1 G1.out.2 (rotF_len ..) HOK1.out h2).mono ?_; rintro e_ w2 ⟨rfl, hk1, hr1⟩; have G2 := Aside0.mk (And.intro (G1.out.1.trans_ hk1) hr1); clear hk1 hr1))
                  all_goals (go_end0; rw [HV.out]; exact ⟨rfl, G2.out.1, G2.out.2⟩)
                · have h3x : ¬ (mid : Int) < (e : Int) := by omega
                  go_wp2_with (first | (go_at_call 76; refine (hro _ G0.out.2 h1).mono ?_; rintro e_ w1 ⟨rfl, hk1, hr1⟩; have G1 := Aside0.mk (And.intro (G0.out.1.trans_ hk1) hr1); clear hk1 hr1) | (go_at_call 75; have hq := hq1; clear hq1; refine (hq _ (rotF m (e - i) (m - i) (e - m) l) G1.out.1 G1.out.2 (rotF_len ..) HOK1.out h2).mono ?_; rintro e_ w2 ⟨rfl, hk1, hr1⟩; have G2 := Aside0.mk (And.intro (G1.out.1.trans_ hk1) hr1); clear hk1 hr1))
                  all_goals (go_end0; rw [HV.out]; exact ⟨rfl, G2.out.1, G2.out.2⟩)
            · skip
              by_cases h3 : mid < e ∧ e < b
              · skip
                rw [if_pos h3, if_neg h2, if_pos h1] at hval
                have HV := Aside0.mk hval
                have h4 := Aside0.mk hmm
                clear hval
                have h1a : (i : Int) < (m : Int) := by omega
                have h1b : (m : Int) < (e : Int) := by omega
                have h3a : (mid : Int) < (e : Int) := by omega
                have h3b : (e : Int) < (b : Int) := by omega
                by_cases h2c : a < i
                · have h2x : (a : Int) < (i : Int) := by omega
                  have h2y : ¬ (i : Int) < (mid : Int) := by omega
                  go_wp2_with (first | (go_at_call 76; refine (hro _ G0.out.2 h1).mono ?_; rintro e_ w1 ⟨rfl, hk1, hr1⟩; have G1 := Aside0.mk (And.intro (G0.out.1.trans_ hk1) hr1); clear hk1 hr1) | (go_at_call 75; have hq := hq2; clear hq2; refine (hq _ (rotF m (e - i) (m - i) (e - m) l) G1.out.1 G1.out.2 (rotF_len ..) HOK1.out h3).mono ?_; rintro e_ w2 ⟨rfl, hk1, hr1⟩; have G2 := Aside0.mk (And.intro (G1.out.1.trans_ hk1) hr1); clear hk1 hr1))
                  all_goals (go_end0; rw [HV.out]; exact ⟨rfl, G2.out.1, G2.out.2⟩)
                · have h2x : ¬ (a : Int) < (i : Int) := by omega
                  go_wp2_with (first | (go_at_call 76; refine (hro _ G0.out.2 h1).mono ?_; rintro e_ w1 ⟨rfl, hk1, hr1⟩; have G1 := Aside0.mk (And.intro (G0.out.1.trans_ hk1) hr1); clear hk1 hr1) | (go_at_call 75; have hq := hq2; clear hq2; refine (hq _ (rotF m (e - i) (m - i) (e - m) l) G1.out.1 G1.out.2 (rotF_len ..) HOK1.out h3).mono ?_; rintro e_ w2 ⟨rfl, hk1, hr1⟩; have G2 := Aside0.mk (And.intro (G1.out.1.trans_ hk1) hr1); clear hk1 hr1))
                  all_goals (go_end0; rw [HV.out]; exact ⟨rfl, G2.out.1, G2.out.2⟩)
              · skip
                rw [if_neg h3, if_neg h2, if_pos h1] at hval
                have HV := Aside0.mk hval
                have h4 := Aside0.mk hmm
                clear hval
                have h1a : (i : Int) < (m : Int) := by omega
                have h1b : (m : Int) < (e : Int) := by omega
                by_cases h2c : a < i
                · have h2x : (a : Int) < (i : Int) := by omega
                  have h2y : ¬ (i : Int) < (mid : Int) := by omega
                  by_cases h3c : mid < e
                  · have h3x : (mid : Int) < (e : Int) := by omega
                    have h3y : ¬ (e : Int) < (b : Int) := by omega
                    go_wp2_with (first | (go_at_call 76; refine (hro _ G0.out.2 h1).mono ?_; rintro e_ w1 ⟨rfl, hk1, hr1⟩; have G1 := Aside0.mk (And.intro (G0.out.1.trans_ hk1) hr1); clear hk1 hr1))
                    all_goals (go_end0; rw [HV.out]; exact ⟨rfl, G1.out.1, G1.out.2⟩)
                  · have h3x : ¬ (mid : Int) < (e : Int) := by omega
                    go_wp2_with (first | (go_at_call 76; refine (hro _ G0.out.2 h1).mono ?_; rintro e_ w1 ⟨rfl, hk1, hr1⟩; have G1 := Aside0.mk (And.intro (G0.out.1.trans_ hk1) hr1); clear hk1 hr1))
                    all_goals (go_end0; rw [HV.out]; exact ⟨rfl, G1.out.1, G1.out.2⟩)
                · have h2x : ¬ (a : Int) < (i : Int) := by omega
                  by_cases h3c : mid < e
                  · have h3x : (mid : Int) < (e : Int) := by omega
                    have h3y : ¬ (e : Int) < (b : Int) := by omega
                    go_wp2_with (first | (go_at_call 76; refine (hro _ G0.out.2 h1).mono ?_; rintro e_ w1 ⟨rfl, hk1, hr1⟩; have G1 := Aside0.mk (And.intro (G0.out.1.trans_ hk1) hr1); clear hk1 hr1))
                    all_goals (go_end0; rw [HV.out]; exact ⟨rfl, G1.out.1, G1.out.2⟩)
                  · have h3x : ¬ (mid : Int) < (e : Int) := by omega
                    go_wp2_with (first | (go_at_call 76; refine (hro _ G0.out.2 h1).mono ?_; rintro e_ w1 ⟨rfl, hk1, hr1⟩; have G1 := Aside0.mk (And.intro (G0.out.1.trans_ hk1) hr1); clear hk1 hr1))
                    all_goals (go_end0; rw [HV.out]; exact ⟨rfl, G1.out.1, G1.out.2⟩)
          · skip
            by_cases h2 : a < i ∧ i < mid
            · skip
              by_cases h3 : mid < e ∧ e < b
              · skip
                rw [if_pos h3, if_pos h2, if_neg h1] at hval
                have HV := Aside0.mk hval
                have h4 := Aside0.mk hmm
                clear hval
                have h2a : (a : Int) < (i : Int) := by omega
                have h2b : (i : Int) < (mid : Int) := by omega
                have h3a : (mid : Int) < (e : Int) := by omega
                have h3b : (e : Int) < (b : Int) := by omega
                by_cases h1c : i < m
                · have h1x : (i : Int) < (m : Int) := by omega
                  have h1y : ¬ (m : Int) < (e : Int) := by omega
                  go_wp2_with (first | (go_at_call 75; have hq := hq1; clear hq1; refine (hq _ (l) G0.out.1 G0.out.2 rfl HOK.out h2).mono ?_; rintro e_ w1 ⟨rfl, hk1, hr1⟩; have G1 := Aside0.mk (And.intro (G0.out.1.trans_ hk1) hr1); clear hk1 hr1) | (go_at_call 75; have hq := hq2; clear hq2; refine (hq _ (symF ord f a i mid (l)) G1.out.1 G1.out.2 ((symF_len ..).trans rfl) (fun z hz => (HOK.out) z (symF_mem ord f a i mid _ h2.1 h2.2 (by have := H12.out; omega) hz)) h3).mono ?_; rintro e_ w2 ⟨rfl, hk1, hr1⟩; have G2 := Aside0.mk (And.intro (G1.out.1.trans_ hk1) hr1); clear hk1 hr1))
                  all_goals (go_end0; rw [HV.out]; exact ⟨rfl, G2.out.1, G2.out.2⟩)
                · have h1x : ¬ (i : Int) < (m : Int) := by omega
                  go_wp2_with (first | (go_at_call 75; have hq := hq1; clear hq1; refine (hq _ (l) G0.out.1 G0.out.2 rfl HOK.out h2).mono ?_; rintro e_ w1 ⟨rfl, hk1, hr1⟩; have G1 := Aside0.mk (And.intro (G0.out.1.trans_ hk1) hr1); clear hk1 hr1) | (go_at_call 75; have hq := hq2; clear hq2; refine (hq _ (symF ord f a i mid (l)) G1.out.1 G1.out.2 ((symF_len ..).trans rfl) (fun z hz => (HOK.out) z (symF_mem ord f a i mid _ h2.1 h2.2 (by have := H12.out; omega) hz)) h3).mono ?_; rintro e_ w2 ⟨rfl, hk1, hr1⟩; have G2 := Aside0.mk (And.intro (G1.out.1.trans_ hk1) hr1); clear hk1 hr1))
                  all_goals (go_end0; rw [HV.out]; exact ⟨rfl, G2.out.1, G2.out.2⟩)
              · skip
                rw [if_neg h3, if_pos h2, if_neg h1] at hval
                have HV := Aside0.mk hval
                have h4 := Aside0.mk hmm
                clear hval
                have h2a : (a : Int) < (i : Int) := by omega
                have h2b : (i : Int) < (mid : Int) := by omega
                by_cases h1c : i < m
                · have h1x : (i : Int) < (m : Int) := by omega
                  have h1y : ¬ (m : Int) < (e : Int) := by omega
                  by_cases h3c : mid < e
                  · have h3x : (mid : Int) < (e : Int) := by omega
                    have h3y : ¬ (e : Int) < (b : Int) := by omega
                    go_wp2_with (first | (go_at_call 75; have hq := hq1; clear hq1; refine (hq _ (l) G0.out.1 G0.out.2 rfl HOK.out h2).mono ?_; rintro e_ w1 ⟨rfl, hk1, hr1⟩; have G1 := Aside0.mk (And.intro (G0.out.1.trans_ hk1) hr1); clear hk1 hr1))
                    all_goals (go_end0; rw [HV.out]; exact ⟨rfl, G1.out.1, G1.out.2⟩)
                  · have h3x : ¬ (mid : Int) < (e : Int) := by omega
                    go_wp2_with (first | (go_at_call 75; have hq := hq1; clear hq1; refine (hq _ (l) G0.out.1 G0.out.2 rfl HOK.out h2).mono ?_; rintro e_ w1 ⟨rfl, hk1, hr1⟩; have G1 := Aside0.mk (And.intro (G0.out.1.trans_ hk1) hr1); clear hk1 hr1))
                    all_goals (go_end0; rw [HV.out]; exact ⟨rfl, G1.out.1, G1.out.2⟩)
                · have h1x : ¬ (i : Int) < (m : Int) := by omega
                  by_cases h3c : mid < e
                  · have h3x : (mid : Int) < (e : Int) := by omega
                    have h3y : ¬ (e : Int) < (b : Int) := by omega
                    go_wp2_with (first | (go_at_call 75; have hq := hq1; clear hq1; refine (hq _ (l) G0.out.1 G0.out.2 rfl HOK.out h2).mono ?_; rintro e_ w1 ⟨rfl, hk1, hr1⟩; have G1 := Aside0.mk (And.intro (G0.out.1.trans_ hk1) hr1); clear hk1 hr1))
                    all_goals (go_end0; rw [HV.out]; exact ⟨rfl, G1.out.1, G1.out.2⟩)
                  · have h3x : ¬ (mid : Int) < (e : Int) := by omega
                    go_wp2_with (first | (go_at_call 75; have hq := hq1; clear hq1; refine (hq _ (l) G0.out.1 G0.out.2 rfl HOK.out h2).mono ?_; rintro e_ w1 ⟨rfl, hk1, hr1⟩; have G1 := Aside0.mk (And.intro (G0.out.1.trans_ hk1) hr1); clear hk1 hr1))
                    all_goals (go_end0; rw [HV.out]; exact ⟨rfl, G1.out.1, G1.out.2⟩)
            · skip
              by_cases h3 : mid < e ∧ e < b
              · skip
                rw [if_pos h3, if_neg h2, if_neg h1] at hval
                have HV := Aside0.mk hval
                have h4 := Aside0.mk hmm
                clear hval
                have h3a : (mid : Int) < (e : Int) := by omega
                have h3b : (e : Int) < (b : Int) := by omega
                by_cases h1c : i < m
                · have h1x : (i : Int) < (m : Int) := by omega
                  have h1y : ¬ (m : Int) < (e : Int) := by omega
                  by_cases h2c : a < i
                  · have h2x : (a : Int) < (i : Int) := by omega
                    have h2y : ¬ (i : Int) < (mid : Int) := by omega
                    go_wp2_with (first | (go_at_call 75; have hq := hq2; clear hq2; refine (hq _ (l) G0.out.1 G0.out.2 rfl HOK.out h3).mono ?_; rintro e_ w1 ⟨rfl, hk1, hr1⟩; have G1 := Aside0.mk (And.intro (G0.out.1.trans_ hk1) hr1); clear hk1 hr1))
                    all_goals (go_end0; rw [HV.out]; exact ⟨rfl, G1.out.1, G1.out.2⟩)
                  · have h2x : ¬ (a : Int) < (i : Int) := by omega
                    go_wp2_with (first | (go_at_call 75; have hq := hq2; clear hq2; refine (hq _ (l) G0.out.1 G0.out.2 rfl HOK.out h3).mono ?_; rintro e_ w1 ⟨rfl, hk1, hr1⟩; have G1 := Aside0.mk (And.intro (G0.out.1.trans_ hk1) hr1); clear hk1 hr1))
                    all_goals (go_end0; rw [HV.out]; exact ⟨rfl, G1.out.1, G1.out.2⟩)
                · have h1x : ¬ (i : Int) < (m : Int) := by omega
                  by_cases h2c : a < i
                  · have h2x : (a : Int) < (i : Int) := by omega
                    have h2y : ¬ (i : Int) < (mid : Int) := by omega
                    go_wp2_with (first | (go_at_call 75; have hq := hq2; clear hq2; refine (hq _ (l) G0.out.1 G0.out.2 rfl HOK.out h3).mono ?_; rintro e_ w1 ⟨rfl, hk1, hr1⟩; have G1 := Aside0.mk (And.intro (G0.out.1.trans_ hk1) hr1); clear hk1 hr1))
                    all_goals (go_end0; rw [HV.out]; exact ⟨rfl, G1.out.1, G1.out.2⟩)
                  · have h2x : ¬ (a : Int) < (i : Int) := by omega
                    go_wp2_with (first | (go_at_call 75; have hq := hq2; clear hq2; refine (hq _ (l) G0.out.1 G0.out.2 rfl HOK.out h3).mono ?_; rintro e_ w1 ⟨rfl, hk1, hr1⟩; have G1 := Aside0.mk (And.intro (G0.out.1.trans_ hk1) hr1); clear hk1 hr1))
                    all_goals (go_end0; rw [HV.out]; exact ⟨rfl, G1.out.1, G1.out.2⟩)
              · skip
                rw [if_neg h3, if_neg h2, if_neg h1] at hval
                have HV := Aside0.mk hval
                have h4 := Aside0.mk hmm
                clear hval
                by_cases h1c : i < m
                · have h1x : (i : Int) < (m : Int) := by omega
                  have h1y : ¬ (m : Int) < (e : Int) := by omega
                  by_cases h2c : a < i
                  · have h2x : (a : Int) < (i : Int) := by omega
                    have h2y : ¬ (i : Int) < (mid : Int) := by omega
                    by_cases h3c : mid < e
                    · have h3x : (mid : Int) < (e : Int) := by omega
                      have h3y : ¬ (e : Int) < (b : Int) := by omega
                      go_wp2
                      all_goals (go_end0; rw [HV.out]; exact ⟨rfl, G0.out.1, G0.out.2⟩)
                    · have h3x : ¬ (mid : Int) < (e : Int) := by omega
                      go_wp2
                      all_goals (go_end0; rw [HV.out]; exact ⟨rfl, G0.out.1, G0.out.2⟩)
                  · have h2x : ¬ (a : Int) < (i : Int) := by omega
                    by_cases h3c : mid < e
                    · have h3x : (mid : Int) < (e : Int) := by omega
                      have h3y : ¬ (e : Int) < (b : Int) := by omega
                      go_wp2
                      all_goals (go_end0; rw [HV.out]; exact ⟨rfl, G0.out.1, G0.out.2⟩)
                    · have h3x : ¬ (mid : Int) < (e : Int) := by omega
                      go_wp2
                      all_goals (go_end0; rw [HV.out]; exact ⟨rfl, G0.out.1, G0.out.2⟩)
                · have h1x : ¬ (i : Int) < (m : Int) := by omega
                  by_cases h2c : a < i
                  · have h2x : (a : Int) < (i : Int) := by omega
                    have h2y : ¬ (i : Int) < (mid : Int) := by omega
                    by_cases h3c : mid < e
                    · have h3x : (mid : Int) < (e : Int) := by omega
                      have h3y : ¬ (e : Int) < (b : Int) := by omega
                      go_wp2
                      all_goals (go_end0; rw [HV.out]; exact ⟨rfl, G0.out.1, G0.out.2⟩)
                    · have h3x : ¬ (mid : Int) < (e : Int) := by omega
                      go_wp2
                      all_goals (go_end0; rw [HV.out]; exact ⟨rfl, G0.out.1, G0.out.2⟩)
                  · have h2x : ¬ (a : Int) < (i : Int) := by omega
                    by_cases h3c : mid < e
                    · have h3x : (mid : Int) < (e : Int) := by omega
                      have h3y : ¬ (e : Int) < (b : Int) := by omega
                      go_wp2
                      all_goals (go_end0; rw [HV.out]; exact ⟨rfl, G0.out.1, G0.out.2⟩)
                    · have h3x : ¬ (mid : Int) < (e : Int) := by omega
                      go_wp2
                      all_goals (go_end0; rw [HV.out]; exact ⟨rfl, G0.out.1, G0.out.2⟩)
    · have hz : ¬ (mid : Int) < (m : Int) := by omega
      have hs1 := Aside0.mk (hs1 hmm)
      have hr1 := Aside0.mk (hr1 hmm)
      go_wp2
      go_loopg [20, 21] (r0 - s0) (fun g1 v20 v21 wr => ∃ (i j f : Nat), v20 = .int .i64 i ∧ v21 = .int .i64 j ∧ s0 ≤ i ∧ i ≤ j ∧ j ≤ r0 ∧ j - i ≤ f ∧ f ≤ g1 ∧ Aside0 (KB w wr blk ∧ RowW wr blk cap l ∧ bsF (pC ord l pp) f i j = s))
      case atStart => exact ⟨s0, r0, r0 - s0, by rw [hs1.out], by rw [hr1.out], Nat.le_refl _, y2, Nat.le_refl _, Nat.le_refl _, Nat.le_refl _, ⟨KB.refl HR.out.lt, HR.out, H5.out.symm⟩⟩
      case round =>
        obtain ⟨i, j, f1, rfl, rfl, hsi, hij, hjr, hf1, hg1, HA⟩ := hrel
        by_cases hlt : i < j
        · have hltz : (i : Int) < (j : Int) := by omega
          obtain ⟨f1, rfl⟩ : ∃ z, f1 = z + 1 := ⟨f1 - 1, by omega⟩
          obtain ⟨hK, hRE, hins⟩ := HA.out
          rw [bsF, if_pos hlt] at hins
          obtain ⟨hq1, hq2, hq3, hq4, hq5⟩ := H12.out
          obtain ⟨c, hc⟩ : ∃ c, c = (i + j) / 2 := ⟨_, rfl⟩
          obtain ⟨q, hqq⟩ : ∃ q, q = pp - c := ⟨_, rfl⟩
          rw [← hc] at hins
          have hh : c < l.length := by omega
          have hh2 : q < l.length := by omega
          obtain ⟨x, hx⟩ : ∃ x, x = rd_T31 l (q : Int) := ⟨_, rfl⟩
          obtain ⟨y, hy⟩ : ∃ y, y = rd_T31 l (c : Int) := ⟨_, rfl⟩
          have hox : ok x := HOK.out x (by rw [hx, rd31_mem hh2]; exact List.getElem_mem ..)
          have hoy : ok y := HOK.out y (by rw [hy, rd31_mem hh]; exact List.getElem_mem ..)
          have hpd : pC ord l pp c = !decide (ord x y < 0) := by rw [pC, hx, hy, ← hqq]
          rw [hpd] at hins
          have z0 : ((i : Int) + (j : Int)) / 2 = (c : Int) := by omega
          have z1 : (c : Int) < (l.length : Int) := by omega
          have z3 : (pp : Int) - (c : Int) = (q : Int) := by omega
          have z4 : (q : Int) < (l.length : Int) := by omega
          have z5 : IntKind.i64.wrap (q : Int) = (q : Int) := by rw [IntKind.wrap_i64]; omega
          have z6 : IntKind.i64.wrap (c : Int) = (c : Int) := by rw [IntKind.wrap_i64]; omega
          have hc1 : i ≤ c := by omega
          have hc2 : c < j := by omega
          clear hq1 hq2 hq3 hq4 hq5
          clear hqq hc hpd
          have rc : ∀ p : BelowBy wr, RowW p.W blk cap l := fun p => hRE.below p.h
          have c0 : ∀ p : BelowBy wr, p.W.cell? ⟨blk, q * 2, none⟩ = some (.int .i64 x.f0) := fun p => by rw [hx]; exact ((rc p).at _ hh2).1
          have c1 : ∀ p : BelowBy wr, p.W.cell? ⟨blk, q * 2 + 1, none⟩ = some (.int .i64 x.f1) := fun p => by rw [hx]; exact ((rc p).at _ hh2).2
          have c2 : ∀ p : BelowBy wr, p.W.cell? ⟨blk, c * 2, none⟩ = some (.int .i64 y.f0) := fun p => by rw [hy]; exact ((rc p).at _ hh).1
          have c3 : ∀ p : BelowBy wr, p.W.cell? ⟨blk, c * 2 + 1, none⟩ = some (.int .i64 y.f1) := fun p => by rw [hy]; exact ((rc p).at _ hh).2
          have hcg : ∀ p : BelowBy wr, Calls Try.prog g (#[.agg #[.int .i64 x.f0, .int .i64 x.f1], .agg #[.int .i64 y.f0, .int .i64 y.f1]] ++ lb) p.W fun e w' => e = .returned (.int .i64 (ord x y)) ∧ Below p.W.heap.size p.W w' := fun p => HP.out p.W x y hox hoy (hK.step p.h).keep
          have RC := Aside0.mk (And.intro rc (And.intro hK hins))
          clear hx hy rc hK hins hRE HA hox hoy
          obtain ⟨ov, hov⟩ : ∃ ov, ov = ord x y := ⟨_, rfl⟩
          rw [← hov] at hcg
          have HOV := Aside0.mk hov
          clear hov
          by_cases hlv : ov < 0
          · go_wp2_with fail
            refine wp_region_quiet_below (by assumption) (by kernel_rfl) ?_
            repeat (quiet_step (first | (go_at_fn g; refine Calls.below_of (hcg _))))
            refine wpQuiet_nil ?_
            intro _ hw'
            obtain ⟨pq, hw''⟩ := hw'
            subst hw''
            go_wp2
            go_roundg f1
            case measure => omega
            case rel =>
              have h_ := RC.out.2.2
              rw [← HOV.out, decide_eq_true hlv, Bool.not_true, if_neg (by decide)] at h_
              exact ⟨i, c, f1, rfl, rfl, hsi, by omega, by omega, by omega, Nat.le_refl _, ⟨RC.out.2.1.step pq.h, RC.out.1 pq, h_⟩⟩
          · have hdv : decide (ov < 0) = false := decide_eq_false hlv
            have hnlv : (ov < 0) = False := eq_false hlv
            go_wp2_with fail
            refine wp_region_quiet_below (by assumption) (by kernel_rfl) ?_
            repeat (quiet_step (first | (go_at_fn g; refine Calls.below_of (hcg _))))
            refine wpQuiet_nil ?_
            intro _ hw'
            obtain ⟨pq, hw''⟩ := hw'
            subst hw''
            go_wp2
            go_roundg f1
            case measure => omega
            case rel =>
              have h_ := RC.out.2.2
              rw [← HOV.out, decide_eq_false (show ¬ ov < 0 by omega), Bool.not_false, if_pos rfl] at h_
              exact ⟨c + 1, j, f1, by first | rfl | go_num, rfl, by omega, by omega, hjr, by omega, Nat.le_refl _, ⟨RC.out.2.1.step pq.h, RC.out.1 pq, h_⟩⟩
        · obtain rfl : i = j := by omega
          have hltz : ¬ (i : Int) < (i : Int) := by omega
          have he_ := HA.out.2.2
          rw [bsF_eq] at he_
          subst he_
          have G0 := Aside0.mk (And.intro HA.out.1 HA.out.2.1)
          clear HA hs0 hs1 hr0 hr1 H5 HR
          obtain ⟨hro, hq1, hq2⟩ := HQ.out
          have k1 : n ≤ 2 * l.length := by have := H12.out; omega
          have k2 : i ≤ n := by have := H12.out; omega
          have k3 : mid ≤ l.length := by have := H12.out; omega
          have k4 : IntKind.i64.wrap (e : Int) = (e : Int) := by rw [IntKind.wrap_i64]; omega
          have hval := HVAL.out
          clear HVAL HQ
          by_cases h1 : i < m ∧ m < e
          · skip
            by_cases h2 : a < i ∧ i < mid
            · skip
              by_cases h3 : mid < e ∧ e < b
              · skip
                rw [if_pos h3, if_pos h2, if_pos h1] at hval
                have HV := Aside0.mk hval
                have h4 := Aside0.mk hmm
                clear hval
                have h1a : (i : Int) < (m : Int) := by omega
                have h1b : (m : Int) < (e : Int) := by omega
                have h2a : (a : Int) < (i : Int) := by omega
                have h2b : (i : Int) < (mid : Int) := by omega
                have h3a : (mid : Int) < (e : Int) := by omega
                have h3b : (e : Int) < (b : Int) := by omega
                go_wp2_with (first | (go_at_call 76; refine (hro _ G0.out.2 h1).mono ?_; rintro e_ w1 ⟨rfl, hk1, hr1⟩; have G1 := Aside0.mk (And.intro (G0.out.1.trans_ hk1) hr1); clear hk1 hr1) | (go_at_call 75; have hq := hq1; clear hq1; refine (hq _ (rotF m (e - i) (m - i) (e - m) l) G1.out.1 G1.out.2 (rotF_len ..) HOK1.out h2).mono ?_; rintro e_ w2 ⟨rfl, hk1, hr1⟩; have G2 := Aside0.mk (And.intro (G1.out.1.trans_ hk1) hr1); clear hk1 hr1) | (go_at_call 75; have hq := hq2; clear hq2; refine (hq _ (symF ord f a i mid (rotF m (e - i) (m - i) (e - m) l)) G2.out.1 G2.out.2 ((symF_len ..).trans (rotF_len ..)) (fun z hz => (HOK1.out) z (symF_mem ord f a i mid _ h2.1 h2.2 (by rw [rotF_len]; have := H12.out; omega) hz)) h3).mono ?_; rintro e_ w3 ⟨rfl, hk1, hr1⟩; have G3 := Aside0.mk (And.intro (G2.out.1.trans_ hk1) hr1); clear hk1 hr1))
                all_goals (go_end0; rw [HV.out]; exact ⟨rfl, G3.out.1, G3.out.2⟩)
              · skip
                rw [if_neg h3, if_pos h2, if_pos h1] at hval
                have HV := Aside0.mk hval
                have h4 := Aside0.mk hmm
                clear hval
                have h1a : (i : Int) < (m : Int) := by omega
                have h1b : (m : Int) < (e : Int) := by omega
                have h2a : (a : Int) < (i : Int) := by omega
                have h2b : (i : Int) < (mid : Int) := by omega
                by_cases h3c : mid < e
                · have h3x : (mid : Int) < (e : Int) := by omega
                  have h3y : ¬ (e : Int) < (b : Int) := by omega
                  go_wp2_with (first | (go_at_call 76; refine (hro _ G0.out.2 h1).mono ?_; rintro e_ w1 ⟨rfl, hk1, hr1⟩; have G1 := Aside0.mk (And.intro (G0.out.1.trans_ hk1) hr1); clear hk1 hr1) | (go_at_call 75; have hq := hq1; clear hq1; refine (hq _ (rotF m (e - i) (m - i) (e - m) l) G1.out.1 G1.out.2 (rotF_len ..) HOK1.out h2).mono ?_; rintro e_ w2 ⟨rfl, hk1, hr1⟩; have G2 := Aside0.mk (And.intro (G1.out.1.trans_ hk1) hr1); clear hk1 hr1))
                  all_goals (go_end0; rw [HV.out]; exact ⟨rfl, G2.out.1, G2.out.2⟩)
                · have h3x : ¬ (mid : Int) < (e : Int) := by omega
                  go_wp2_with (first | (go_at_call 76; refine (hro _ G0.out.2 h1).mono ?_; rintro e_ w1 ⟨rfl, hk1, hr1⟩; have G1 := Aside0.mk (And.intro (G0.out.1.trans_ hk1) hr1); clear hk1 hr1) | (go_at_call 75; have hq := hq1; clear hq1; refine (hq _ (rotF m (e - i) (m - i) (e - m) l) G1.out.1 G1.out.2 (rotF_len ..) HOK1.out h2).mono ?_; rintro e_ w2 ⟨rfl, hk1, hr1⟩; have G2 := Aside0.mk (And.intro (G1.out.1.trans_ hk1) hr1); clear hk1 hr1))
                  all_goals (go_end0; rw [HV.out]; exact ⟨rfl, G2.out.1, G2.out.2⟩)
            · skip
              by_cases h3 : mid < e ∧ e < b
              · skip
                rw [if_pos h3, if_neg h2, if_pos h1] at hval
                have HV := Aside0.mk hval
                have h4 := Aside0.mk hmm
                clear hval
                have h1a : (i : Int) < (m : Int) := by omega
                have h1b : (m : Int) < (e : Int) := by omega
                have h3a : (mid : Int) < (e : Int) := by omega
                have h3b : (e : Int) < (b : Int) := by omega
                by_cases h2c : a < i
                · have h2x : (a : Int) < (i : Int) := by omega
                  have h2y : ¬ (i : Int) < (mid : Int) := by omega
                  go_wp2_with (first | (go_at_call 76; refine (hro _ G0.out.2 h1).mono ?_; rintro e_ w1 ⟨rfl, hk1, hr1⟩; have G1 := Aside0.mk (And.intro (G0.out.1.trans_ hk1) hr1); clear hk1 hr1) | (go_at_call 75; have hq := hq2; clear hq2; refine (hq _ (rotF m (e - i) (m - i) (e - m) l) G1.out.1 G1.out.2 (rotF_len ..) HOK1.out h3).mono ?_; rintro e_ w2 ⟨rfl, hk1, hr1⟩; have G2 := Aside0.mk (And.intro (G1.out.1.trans_ hk1) hr1); clear hk1 hr1))
                  all_goals (go_end0; rw [HV.out]; exact ⟨rfl, G2.out.1, G2.out.2⟩)
                · have h2x : ¬ (a : Int) < (i : Int) := by omega
                  go_wp2_with (first | (go_at_call 76; refine (hro _ G0.out.2 h1).mono ?_; rintro e_ w1 ⟨rfl, hk1, hr1⟩; have G1 := Aside0.mk (And.intro (G0.out.1.trans_ hk1) hr1); clear hk1 hr1) | (go_at_call 75; have hq := hq2; clear hq2; refine (hq _ (rotF m (e - i) (m - i) (e - m) l) G1.out.1 G1.out.2 (rotF_len ..) HOK1.out h3).mono ?_; rintro e_ w2 ⟨rfl, hk1, hr1⟩; have G2 := Aside0.mk (And.intro (G1.out.1.trans_ hk1) hr1); clear hk1 hr1))
                  all_goals (go_end0; rw [HV.out]; exact ⟨rfl, G2.out.1, G2.out.2⟩)
              · skip
                rw [if_neg h3, if_neg h2, if_pos h1] at hval
                have HV := Aside0.mk hval
                have h4 := Aside0.mk hmm
                clear hval
                have h1a : (i : Int) < (m : Int) := by omega
                have h1b : (m : Int) < (e : Int) := by omega
                by_cases h2c : a < i
                · have h2x : (a : Int) < (i : Int) := by omega
                  have h2y : ¬ (i : Int) < (mid : Int) := by omega
                  by_cases h3c : mid < e
                  · have h3x : (mid : Int) < (e : Int) := by omega
                    have h3y : ¬ (e : Int) < (b : Int) := by omega
                    go_wp2_with (first | (go_at_call 76; refine (hro _ G0.out.2 h1).mono ?_; rintro e_ w1 ⟨rfl, hk1, hr1⟩; have G1 := Aside0.mk (And.intro (G0.out.1.trans_ hk1) hr1); clear hk1 hr1))
                    all_goals (go_end0; rw [HV.out]; exact ⟨rfl, G1.out.1, G1.out.2⟩)
                  · have h3x : ¬ (mid : Int) < (e : Int) := by omega
                    go_wp2_with (first | (go_at_call 76; refine (hro _ G0.out.2 h1).mono ?_; rintro e_ w1 ⟨rfl, hk1, hr1⟩; have G1 := Aside0.mk (And.intro (G0.out.1.trans_ hk1) hr1); clear hk1 hr1))
                    all_goals (go_end0; rw [HV.out]; exact ⟨rfl, G1.out.1, G1.out.2⟩)
                · have h2x : ¬ (a : Int) < (i : Int) := by omega
                  by_cases h3c : mid < e
                  · have h3x : (mid : Int) < (e : Int) := by omega
                    have h3y : ¬ (e : Int) < (b : Int) := by omega
                    go_wp2_with (first | (go_at_call 76; refine (hro _ G0.out.2 h1).mono ?_; rintro e_ w1 ⟨rfl, hk1, hr1⟩; have G1 := Aside0.mk (And.intro (G0.out.1.trans_ hk1) hr1); clear hk1 hr1))
                    all_goals (go_end0; rw [HV.out]; exact ⟨rfl, G1.out.1, G1.out.2⟩)
                  · have h3x : ¬ (mid : Int) < (e : Int) := by omega
                    go_wp2_with (first | (go_at_call 76; refine (hro _ G0.out.2 h1).mono ?_; rintro e_ w1 ⟨rfl, hk1, hr1⟩; have G1 := Aside0.mk (And.intro (G0.out.1.trans_ hk1) hr1); clear hk1 hr1))
                    all_goals (go_end0; rw [HV.out]; exact ⟨rfl, G1.out.1, G1.out.2⟩)
          · skip
            by_cases h2 : a < i ∧ i < mid
            · skip
              by_cases h3 : mid < e ∧ e < b
              · skip
                rw [if_pos h3, if_pos h2, if_neg h1] at hval
                have HV := Aside0.mk hval
                have h4 := Aside0.mk hmm
                clear hval
                have h2a : (a : Int) < (i : Int) := by omega
                have h2b : (i : Int) < (mid : Int) := by omega
                have h3a : (mid : Int) < (e : Int) := by omega
                have h3b : (e : Int) < (b : Int) := by omega
                by_cases h1c : i < m
                · have h1x : (i : Int) < (m : Int) := by omega
                  have h1y : ¬ (m : Int) < (e : Int) := by omega
                  go_wp2_with (first | (go_at_call 75; have hq := hq1; clear hq1; refine (hq _ (l) G0.out.1 G0.out.2 rfl HOK.out h2).mono ?_; rintro e_ w1 ⟨rfl, hk1, hr1⟩; have G1 := Aside0.mk (And.intro (G0.out.1.trans_ hk1) hr1); clear hk1 hr1) | (go_at_call 75; have hq := hq2; clear hq2; refine (hq _ (symF ord f a i mid (l)) G1.out.1 G1.out.2 ((symF_len ..).trans rfl) (fun z hz => (HOK.out) z (symF_mem ord f a i mid _ h2.1 h2.2 (by have := H12.out; omega) hz)) h3).mono ?_; rintro e_ w2 ⟨rfl, hk1, hr1⟩; have G2 := Aside0.mk (And.intro (G1.out.1.trans_ hk1) hr1); clear hk1 hr1))
                  all_goals (go_end0; rw [HV.out]; exact ⟨rfl, G2.out.1, G2.out.2⟩)
                · have h1x : ¬ (i : Int) < (m : Int) := by omega
                  go_wp2_with (first | (go_at_call 75; have hq := hq1; clear hq1; refine (hq _ (l) G0.out.1 G0.out.2 rfl HOK.out h2).mono ?_; rintro e_ w1 ⟨rfl, hk1, hr1⟩; have G1 := Aside0.mk (And.intro (G0.out.1.trans_ hk1) hr1); clear hk1 hr1) | (go_at_call 75; have hq := hq2; clear hq2; refine (hq _ (symF ord f a i mid (l)) G1.out.1 G1.out.2 ((symF_len ..).trans rfl) (fun z hz => (HOK.out) z (symF_mem ord f a i mid _ h2.1 h2.2 (by have := H12.out; omega) hz)) h3).mono ?_; rintro e_ w2 ⟨rfl, hk1, hr1⟩; have G2 := Aside0.mk (And.intro (G1.out.1.trans_ hk1) hr1); clear hk1 hr1))
                  all_goals (go_end0; rw [HV.out]; exact ⟨rfl, G2.out.1, G2.out.2⟩)
              · skip
                rw [if_neg h3, if_pos h2, if_neg h1] at hval
                have HV := Aside0.mk hval
                have h4 := Aside0.mk hmm
                clear hval
                have h2a : (a : Int) < (i : Int) := by omega
                have h2b : (i : Int) < (mid : Int) := by omega
                by_cases h1c : i < m
                · have h1x : (i : Int) < (m : Int) := by omega
                  have h1y : ¬ (m : Int) < (e : Int) := by omega
                  by_cases h3c : mid < e
                  · have h3x : (mid : Int) < (e : Int) := by omega
                    have h3y : ¬ (e : Int) < (b : Int) := by omega
                    go_wp2_with (first | (go_at_call 75; have hq := hq1; clear hq1; refine (hq _ (l) G0.out.1 G0.out.2 rfl HOK.out h2).mono ?_; rintro e_ w1 ⟨rfl, hk1, hr1⟩; have G1 := Aside0.mk (And.intro (G0.out.1.trans_ hk1) hr1); clear hk1 hr1))
                    all_goals (go_end0; rw [HV.out]; exact ⟨rfl, G1.out.1, G1.out.2⟩)
                  · have h3x : ¬ (mid : Int) < (e : Int) := by omega
                    go_wp2_with (first | (go_at_call 75; have hq := hq1; clear hq1; refine (hq _ (l) G0.out.1 G0.out.2 rfl HOK.out h2).mono ?_; rintro e_ w1 ⟨rfl, hk1, hr1⟩; have G1 := Aside0.mk (And.intro (G0.out.1.trans_ hk1) hr1); clear hk1 hr1))
                    all_goals (go_end0; rw [HV.out]; exact ⟨rfl, G1.out.1, G1.out.2⟩)
                · have h1x : ¬ (i : Int) < (m : Int) := by omega
                  by_cases h3c : mid < e
                  · have h3x : (mid : Int) < (e : Int) := by omega
                    have h3y : ¬ (e : Int) < (b : Int) := by omega
                    go_wp2_with (first | (go_at_call 75; have hq := hq1; clear hq1; refine (hq _ (l) G0.out.1 G0.out.2 rfl HOK.out h2).mono ?_; rintro e_ w1 ⟨rfl, hk1, hr1⟩; have G1 := Aside0.mk (And.intro (G0.out.1.trans_ hk1) hr1); clear hk1 hr1))
                    all_goals (go_end0; rw [HV.out]; exact ⟨rfl, G1.out.1, G1.out.2⟩)
                  · have h3x : ¬ (mid : Int) < (e : Int) := by omega
                    go_wp2_with (first | (go_at_call 75; have hq := hq1; clear hq1; refine (hq _ (l) G0.out.1 G0.out.2 rfl HOK.out h2).mono ?_; rintro e_ w1 ⟨rfl, hk1, hr1⟩; have G1 := Aside0.mk (And.intro (G0.out.1.trans_ hk1) hr1); clear hk1 hr1))
                    all_goals (go_end0; rw [HV.out]; exact ⟨rfl, G1.out.1, G1.out.2⟩)
            · skip
              by_cases h3 : mid < e ∧ e < b
              · skip
                rw [if_pos h3, if_neg h2, if_neg h1] at hval
                have HV := Aside0.mk hval
                have h4 := Aside0.mk hmm
                clear hval
                have h3a : (mid : Int) < (e : Int) := by omega
                have h3b : (e : Int) < (b : Int) := by omega
                by_cases h1c : i < m
                · have h1x : (i : Int) < (m : Int) := by omega
                  have h1y : ¬ (m : Int) < (e : Int) := by omega
                  by_cases h2c : a < i
                  · have h2x : (a : Int) < (i : Int) := by omega
                    have h2y : ¬ (i : Int) < (mid : Int) := by omega
                    go_wp2_with (first | (go_at_call 75; have hq := hq2; clear hq2; refine (hq _ (l) G0.out.1 G0.out.2 rfl HOK.out h3).mono ?_; rintro e_ w1 ⟨rfl, hk1, hr1⟩; have G1 := Aside0.mk (And.intro (G0.out.1.trans_ hk1) hr1); clear hk1 hr1))
                    all_goals (go_end0; rw [HV.out]; exact ⟨rfl, G1.out.1, G1.out.2⟩)
                  · have h2x : ¬ (a : Int) < (i : Int) := by omega
                    go_wp2_with (first | (go_at_call 75; have hq := hq2; clear hq2; refine (hq _ (l) G0.out.1 G0.out.2 rfl HOK.out h3).mono ?_; rintro e_ w1 ⟨rfl, hk1, hr1⟩; have G1 := Aside0.mk (And.intro (G0.out.1.trans_ hk1) hr1); clear hk1 hr1))
                    all_goals (go_end0; rw [HV.out]; exact ⟨rfl, G1.out.1, G1.out.2⟩)
                · have h1x : ¬ (i : Int) < (m : Int) := by omega
                  by_cases h2c : a < i
                  · have h2x : (a : Int) < (i : Int) := by omega
                    have h2y : ¬ (i : Int) < (mid : Int) := by omega
                    go_wp2_with (first | (go_at_call 75; have hq := hq2; clear hq2; refine (hq _ (l) G0.out.1 G0.out.2 rfl HOK.out h3).mono ?_; rintro e_ w1 ⟨rfl, hk1, hr1⟩; have G1 := Aside0.mk (And.intro (G0.out.1.trans_ hk1) hr1); clear hk1 hr1))
                    all_goals (go_end0; rw [HV.out]; exact ⟨rfl, G1.out.1, G1.out.2⟩)
                  · have h2x : ¬ (a : Int) < (i : Int) := by omega
                    go_wp2_with (first | (go_at_call 75; have hq := hq2; clear hq2; refine (hq _ (l) G0.out.1 G0.out.2 rfl HOK.out h3).mono ?_; rintro e_ w1 ⟨rfl, hk1, hr1⟩; have G1 := Aside0.mk (And.intro (G0.out.1.trans_ hk1) hr1); clear hk1 hr1))
                    all_goals (go_end0; rw [HV.out]; exact ⟨rfl, G1.out.1, G1.out.2⟩)
              · skip
                rw [if_neg h3, if_neg h2, if_neg h1] at hval
                have HV := Aside0.mk hval
                have h4 := Aside0.mk hmm
                clear hval
                by_cases h1c : i < m
                · have h1x : (i : Int) < (m : Int) := by omega
                  have h1y : ¬ (m : Int) < (e : Int) := by omega
                  by_cases h2c : a < i
                  · have h2x : (a : Int) < (i : Int) := by omega
                    have h2y : ¬ (i : Int) < (mid : Int) := by omega
                    by_cases h3c : mid < e
                    · have h3x : (mid : Int) < (e : Int) := by omega
                      have h3y : ¬ (e : Int) < (b : Int) := by omega
                      go_wp2
                      all_goals (go_end0; rw [HV.out]; exact ⟨rfl, G0.out.1, G0.out.2⟩)
                    · have h3x : ¬ (mid : Int) < (e : Int) := by omega
                      go_wp2
                      all_goals (go_end0; rw [HV.out]; exact ⟨rfl, G0.out.1, G0.out.2⟩)
                  · have h2x : ¬ (a : Int) < (i : Int) := by omega
                    by_cases h3c : mid < e
                    · have h3x : (mid : Int) < (e : Int) := by omega
                      have h3y : ¬ (e : Int) < (b : Int) := by omega
                      go_wp2
                      all_goals (go_end0; rw [HV.out]; exact ⟨rfl, G0.out.1, G0.out.2⟩)
                    · have h3x : ¬ (mid : Int) < (e : Int) := by omega
                      go_wp2
                      all_goals (go_end0; rw [HV.out]; exact ⟨rfl, G0.out.1, G0.out.2⟩)
                · have h1x : ¬ (i : Int) < (m : Int) := by omega
                  by_cases h2c : a < i
                  · have h2x : (a : Int) < (i : Int) := by omega
                    have h2y : ¬ (i : Int) < (mid : Int) := by omega
                    by_cases h3c : mid < e
                    · have h3x : (mid : Int) < (e : Int) := by omega
                      have h3y : ¬ (e : Int) < (b : Int) := by omega
                      go_wp2
                      all_goals (go_end0; rw [HV.out]; exact ⟨rfl, G0.out.1, G0.out.2⟩)
                    · have h3x : ¬ (mid : Int) < (e : Int) := by omega
                      go_wp2
                      all_goals (go_end0; rw [HV.out]; exact ⟨rfl, G0.out.1, G0.out.2⟩)
                  · have h2x : ¬ (a : Int) < (i : Int) := by omega
                    by_cases h3c : mid < e
                    · have h3x : (mid : Int) < (e : Int) := by omega
                      have h3y : ¬ (e : Int) < (b : Int) := by omega
                      go_wp2
                      all_goals (go_end0; rw [HV.out]; exact ⟨rfl, G0.out.1, G0.out.2⟩)
                    · have h3x : ¬ (mid : Int) < (e : Int) := by omega
                      go_wp2
                      all_goals (go_end0; rw [HV.out]; exact ⟨rfl, G0.out.1, G0.out.2⟩)
def insS (ord : S31 → S31 → Int) (a b : Nat) (l : List S31) : List S31 := insOut ord a (b - (a + 1)) (a + 1) l
def blkF (ord : S31 → S31 → Int) (s n : Nat) : Nat → Nat → Nat → List S31 → List S31
  | 0, _, _, l => l
  | f + 1, a, b, l => if b ≤ n then blkF ord s n f b (b + s) (insS ord a b l) else insS ord a n l
def mrgF (ord : S31 → S31 → Int) (s n : Nat) : Nat → Nat → Nat → List S31 → List S31
  | 0, _, _, l => l
  | f + 1, a, b, l => if b ≤ n then mrgF ord s n f b (b + 2 * s) (symF ord (b - a) a (a + s) b l) else if a + s < n then symF ord (n - a) a (a + s) n l else l
def outF (ord : S31 → S31 → Int) (n : Nat) : Nat → Nat → List S31 → List S31
  | 0, _, l => l
  | f + 1, s, l => if s < n then outF ord n f (2 * s) (mrgF ord s n (n + 1) 0 (2 * s) l) else l
def stF (ord : S31 → S31 → Int) (l : List S31) : List S31 := outF ord l.length l.length 20 (blkF ord 20 l.length (l.length + 1) 0 20 l)
theorem insOut_len2 (ord : S31 → S31 → Int) (a : Nat) : ∀ (d i : Nat) (l : List S31), (insOut ord a d i l).length = l.length
  | 0, _, _ => rfl
  | d + 1, i, l => by rw [insOut, insOut_len2 ord a d, insIn_length]
theorem insS_len (ord : S31 → S31 → Int) (a b : Nat) (l : List S31) : (insS ord a b l).length = l.length := insOut_len2 ..
theorem insIn_mem (ord : S31 → S31 → Int) (a : Nat) {z : S31} : ∀ (j : Nat) (l : List S31), j < l.length → z ∈ insIn ord a j l → z ∈ l
  | 0, _, _, h => h
  | j + 1, l, hj, h => by
    rw [insIn] at h
    split at h
    · have h2 := insIn_mem ord a j _ (by rw [List.length_set, List.length_set]; omega) h
      exact swp1_mem (i := j + 1) (j := j) hj (by omega) h2
    · exact h
theorem insOut_mem (ord : S31 → S31 → Int) (a : Nat) {z : S31} : ∀ (d i : Nat) (l : List S31), i + d ≤ l.length → z ∈ insOut ord a d i l → z ∈ l
  | 0, _, _, _, h => h
  | d + 1, i, l, hi, h => by
    rw [insOut] at h
    exact insIn_mem ord a i l (by omega) (insOut_mem ord a d (i + 1) _ (by rw [insIn_length]; omega) h)
theorem insS_mem (ord : S31 → S31 → Int) (a b : Nat) {z : S31} (l : List S31) (hab : a ≤ b) (hb : b ≤ l.length) (h : z ∈ insS ord a b l) : z ∈ l := by
  rw [insS] at h
  rcases Nat.lt_or_ge a b with hlt | hge
  · exact insOut_mem ord a _ _ l (by omega) h
  · rw [show b - (a + 1) = 0 by omega, insOut] at h
    exact h
theorem mrgF_len (ord : S31 → S31 → Int) (s n : Nat) : ∀ (f a b : Nat) (l : List S31), (mrgF ord s n f a b l).length = l.length
  | 0, _, _, _ => rfl
  | f + 1, a, b, l => by
    rw [mrgF]
    split
    · rw [mrgF_len ord s n f, symF_len]
    · split
      · rw [symF_len]
      · rfl
theorem blkF_len (ord : S31 → S31 → Int) (s n : Nat) : ∀ (f a b : Nat) (l : List S31), (blkF ord s n f a b l).length = l.length
  | 0, _, _, _ => rfl
  | f + 1, a, b, l => by
    rw [blkF]
    split
    · rw [blkF_len ord s n f, insS_len]
    · rw [insS_len]
set_option maxHeartbeats 16000000 in
set_option maxRecDepth 100000 in
theorem stS (g : FuncId) (lb : Array Value) (eg : ∀ args w, (callFunc g args).run Try.prog w = .ok (.enter g args) w) (ord : S31 → S31 → Int) (ok : S31 → Prop) (blk cap : Nat) (l : List S31) (n : Nat) (w : World)
    (hp : ∀ (W : World) (x y : S31), ok x → ok y → KeepBut w W blk none → Calls Try.prog g (#[.agg #[.int .i64 x.f0, .int .i64 x.f1], .agg #[.int .i64 y.f0, .int .i64 y.f1]] ++ lb) W fun e w' => e = .returned (.int .i64 (ord x y)) ∧ Below W.heap.size W w')
    (hr : RowW w blk cap l) (hok : ∀ x ∈ l, ok x) (hn : l.length = n) (hln : n ≤ cap) (hcm : n ≤ 1152921504606846976) :
    Calls Try.prog 70 #[.slice (some ⟨blk, 0, none⟩) n cap, .int .i64 n, .func (.func g) #[] lb] w fun e w' => e = .returned (.tuple #[]) ∧ KB w w' blk ∧ RowW w' blk cap (stF ord l) := by
  have hins : ∀ (W : World) (L : List S31) (a b : Nat), KB w W blk → RowW W blk cap L → L.length = n → (∀ z ∈ L, ok z) → a ≤ b → b ≤ n → Calls Try.prog 74 #[.slice (some ⟨blk, 0, none⟩) n cap, .int .i64 a, .int .i64 b, .func (.func g) #[] lb] W fun e_ w' => e_ = .returned (.tuple #[]) ∧ KB W w' blk ∧ RowW w' blk cap (insS ord a b L) := fun W L a b hK hW hL hO hab hb => by
    subst hL
    exact insW g lb eg ord ok blk cap L a b W (fun W' x y hx hy hk => hp W' x y hx hy (hK.keep.trans hk (.inl rfl))) hW hO hab hb hln hcm
  have hsym : ∀ (W : World) (L : List S31) (a m b : Nat), KB w W blk → RowW W blk cap L → L.length = n → (∀ z ∈ L, ok z) → a < m → m < b → b ≤ n → Calls Try.prog 75 #[.slice (some ⟨blk, 0, none⟩) n cap, .int .i64 a, .int .i64 m, .int .i64 b, .func (.func g) #[] lb] W fun e_ w' => e_ = .returned (.tuple #[]) ∧ KB W w' blk ∧ RowW w' blk cap (symF ord (b - a) a m b L) := fun W L a m b hK hW hL hO ham hmb hb => by
    subst hL
    exact symW g lb eg ord ok blk cap (b - a) L a m b W (fun W' x y hx hy hk => hp W' x y hx hy (hK.keep.trans hk (.inl rfl))) hW hO ham hmb hb hln hcm (Nat.le_refl _)
  have HR := Aside0.mk hr
  have HOK := Aside0.mk hok
  have HI := Aside0.mk hins
  have HS := Aside0.mk hsym
  have HN := Aside0.mk hn
  have hval : stF ord l = outF ord n n 20 (blkF ord 20 n (n + 1) 0 20 l) := by rw [stF, hn]
  have HVAL := Aside0.mk hval
  have hnz : (n : Int) ≤ 1152921504606846976 := by omega
  clear hp hr hok hins hsym hn hval
  go_enter Try.func70, Try.ntmps70
  go_wp2
  go_loopg [7, 8] (n + 1) (fun g1 v7 v8 wr => ∃ (a b f : Nat) (D : List S31), v7 = .int .i64 a ∧ v8 = .int .i64 b ∧ a + 20 ≤ b ∧ b ≤ a + 20 ∧ a ≤ n ∧ n + 1 ≤ a + f ∧ f ≤ g1 ∧ Aside0 (KB w wr blk ∧ RowW wr blk cap D ∧ D.length = n ∧ (∀ z ∈ D, ok z) ∧ blkF ord 20 n f a b D = blkF ord 20 n (n + 1) 0 20 l))
  case atStart => exact ⟨0, 20, n + 1, l, rfl, rfl, by omega, by omega, by omega, by omega, Nat.le_refl _, ⟨KB.refl HR.out.lt, HR.out, HN.out, HOK.out, rfl⟩⟩
  case round =>
    obtain ⟨a, b, f, D, rfl, rfl, hab1, hab2, han, hnf, hg1, HA⟩ := hrel
    obtain ⟨f, rfl⟩ : ∃ z, f = z + 1 := ⟨f - 1, by omega⟩
    obtain ⟨hK, hRE, hDn, hDok, hval⟩ := HA.out
    rw [blkF] at hval
    by_cases hbn : b ≤ n
    · have hbz : (b : Int) ≤ (n : Int) := by omega
      rw [if_pos hbn] at hval
      have hc := HI.out wr D a b hK hRE hDn hDok (by omega) hbn
      have HV := Aside0.mk (And.intro hval (And.intro hDn (And.intro hDok hK)))
      clear hval HA hK hRE hDn hDok
      go_wp2_with (go_at_call 74; refine (hc).mono ?_; rintro e_ w1 ⟨rfl, hk1, hr1⟩; have HF := Aside0.mk (And.intro hk1 hr1); clear hk1 hr1)
      go_roundg f
      case measure => omega
      case rel =>
        obtain ⟨hval, hDn, hDok, hK⟩ := HV.out
        exact ⟨b, b + 20, f, insS ord a b D, rfl, by go_num, Nat.le_refl _, Nat.le_refl _, hbn, by omega, Nat.le_refl _, ⟨hK.trans_ HF.out.1, HF.out.2, by rw [insS_len]; exact hDn, fun z hz => hDok z (insS_mem ord a b D (by omega) (by omega) hz), hval⟩⟩
    · have hbz : ¬ (b : Int) ≤ (n : Int) := by omega
      rw [if_neg hbn] at hval
      have hc := HI.out wr D a n hK hRE hDn hDok han (Nat.le_refl _)
      have HV := Aside0.mk (And.intro hval (And.intro hDn (And.intro hDok hK)))
      clear hval HA hK hRE hDn hDok
      go_wp2_with (go_at_call 74; refine (hc).mono ?_; rintro e_ w1 ⟨rfl, hk1, hr1⟩; have HF := Aside0.mk (And.intro hk1 hr1); clear hk1 hr1)
      have HQ : Aside0 (∃ E : List S31, KB w w1 blk ∧ RowW w1 blk cap E ∧ E.length = n ∧ (∀ z ∈ E, ok z) ∧ E = blkF ord 20 n (n + 1) 0 20 l) := by
        obtain ⟨hval, hDn, hDok, hK⟩ := HV.out
        exact ⟨insS ord a n D, hK.trans_ HF.out.1, HF.out.2, by rw [insS_len]; exact hDn, fun z hz => hDok z (insS_mem ord a n D han (by omega) hz), hval⟩
      clear HV HF hc
      go_loopg [6] n (fun g2 v6 wr2 => ∃ (s f2 : Nat) (E : List S31), v6 = .int .i64 s ∧ 20 ≤ s ∧ s ≤ 2 * n + 20 ∧ n ≤ s + f2 ∧ f2 ≤ g2 ∧ Aside0 (KB w wr2 blk ∧ RowW wr2 blk cap E ∧ E.length = n ∧ (∀ z ∈ E, ok z) ∧ outF ord n f2 s E = stF ord l))
      case atStart =>
        obtain ⟨E, q1, q2, q3, q4, q5⟩ := HQ.out
        exact ⟨20, n, E, rfl, by omega, by omega, by omega, Nat.le_refl _, ⟨q1, q2, q3, q4, by rw [HVAL.out, q5]⟩⟩
      case round =>
        obtain ⟨s, f2, E, rfl, hs1, hs2, hnf2, hg2, HB⟩ := hrel
        clear HQ
        by_cases hsn : s < n
        · have hsz : (s : Int) < (n : Int) := by omega
          obtain ⟨f2, rfl⟩ : ∃ z, f2 = z + 1 := ⟨f2 - 1, by omega⟩
          go_wp2
          go_loopg [7, 8] (n + 1) (fun g3 v7 v8 wr3 => ∃ (a b f : Nat) (D : List S31), v7 = .int .i64 a ∧ v8 = .int .i64 b ∧ a + 2 * s ≤ b ∧ b ≤ a + 2 * s ∧ a ≤ n ∧ n + 1 ≤ a + f ∧ f ≤ g3 ∧ Aside0 (KB w wr3 blk ∧ RowW wr3 blk cap D ∧ D.length = n ∧ (∀ z ∈ D, ok z) ∧ mrgF ord s n f a b D = mrgF ord s n (n + 1) 0 (2 * s) E))
          case atStart =>
            obtain ⟨q1, q2, q3, q4, q5⟩ := HB.out
            exact ⟨0, 2 * s, n + 1, E, rfl, by go_num, by omega, by omega, by omega, by omega, Nat.le_refl _, ⟨q1, q2, q3, q4, rfl⟩⟩
          case round =>
            obtain ⟨a, b, f, D, rfl, rfl, hab1, hab2, han, hnf, hg1, HA⟩ := hrel
            obtain ⟨f, rfl⟩ : ∃ z, f = z + 1 := ⟨f - 1, by omega⟩
            obtain ⟨hK, hRE, hDn, hDok, hval⟩ := HA.out
            rw [mrgF] at hval
            by_cases hbn : b ≤ n
            · have hbz : (b : Int) ≤ (n : Int) := by omega
              rw [if_pos hbn] at hval
              have hc := HS.out wr D a (a + s) b hK hRE hDn hDok (by omega) (by omega) hbn
              have HV := Aside0.mk (And.intro hval (And.intro hDn (And.intro hDok hK)))
              clear hval HA hK hRE hDn hDok
              go_wp2_with (go_at_call 75; refine (hc).mono ?_; rintro e_ w1 ⟨rfl, hk1, hr1⟩; have HF := Aside0.mk (And.intro hk1 hr1); clear hk1 hr1)
              go_roundg f
              case measure => omega
              case rel =>
                obtain ⟨hval, hDn, hDok, hK⟩ := HV.out
                exact ⟨b, b + 2 * s, f, symF ord (b - a) a (a + s) b D, rfl, by go_num, Nat.le_refl _, Nat.le_refl _, hbn, by omega, Nat.le_refl _, ⟨hK.trans_ HF.out.1, HF.out.2, by rw [symF_len]; exact hDn, fun z hz => hDok z (symF_mem ord _ _ _ _ D (by omega) (by omega) (by omega) hz), hval⟩⟩
            · have hbz : ¬ (b : Int) ≤ (n : Int) := by omega
              rw [if_neg hbn] at hval
              by_cases hasn : a + s < n
              · have hasz : (a : Int) + (s : Int) < (n : Int) := by omega
                rw [if_pos hasn] at hval
                have hc := HS.out wr D a (a + s) n hK hRE hDn hDok (by omega) (by omega) (Nat.le_refl _)
                have HV := Aside0.mk (And.intro hval (And.intro hDn (And.intro hDok hK)))
                clear hval HA hK hRE hDn hDok
                go_wp2_with (go_at_call 75; refine (hc).mono ?_; rintro e_ w1 ⟨rfl, hk1, hr1⟩; have HF := Aside0.mk (And.intro hk1 hr1); clear hk1 hr1)
                go_roundg f2
                case measure => omega
                case rel =>
                  obtain ⟨hval, hDn, hDok, hK⟩ := HV.out
                  have h5 := HB.out.2.2.2.2
                  rw [outF, if_pos hsn, ← hval] at h5
                  exact ⟨2 * s, f2, _, by go_num, by omega, by omega, by omega, Nat.le_refl _, ⟨hK.trans_ HF.out.1, HF.out.2, by rw [symF_len]; exact hDn, fun z hz => hDok z (symF_mem ord _ _ _ _ D (by omega) (by omega) (by omega) hz), h5⟩⟩
              · have hasz : ¬ (a : Int) + (s : Int) < (n : Int) := by omega
                rw [if_neg hasn] at hval
                have HV := Aside0.mk (And.intro hval (And.intro hDn (And.intro hDok (And.intro hK hRE))))
                clear hval HA hK hRE hDn hDok
                go_wp2
                go_roundg f2
                case measure => omega
                case rel =>
                  obtain ⟨hval, hDn, hDok, hK, hRE⟩ := HV.out
                  have h5 := HB.out.2.2.2.2
                  rw [outF, if_pos hsn, ← hval] at h5
                  exact ⟨2 * s, f2, D, by go_num, by omega, by omega, by omega, Nat.le_refl _, ⟨hK, hRE, hDn, hDok, h5⟩⟩
        · have hsz : ¬ (s : Int) < (n : Int) := by omega
          obtain ⟨q1, q2, q3, q4, q5⟩ := HB.out
          have q6 : E = stF ord l := by
            rw [← q5]
            cases f2 with
            | zero => rfl
            | succ f2 => rw [outF, if_neg hsn]
          rw [q6] at q2
          have HF := Aside0.mk (And.intro q1 q2)
          clear q1 q2 q3 q4 q5 q6 HB
          go_wp2
          go_end0
          exact ⟨rfl, HF.out⟩
theorem rd_mid_ (A B : List S31) (y : S31) (n : Nat) (hn : A.length = n) : rd_T31 (A ++ y :: B) (n : Int) = y := by
  subst hn
  rw [rd_T31, List.getD_eq_getElem?_getD, Int.toNat_natCast, List.getElem?_append_right (Nat.le_refl _), Nat.sub_self]; rfl
theorem set_mid_ (A B : List S31) (x y : S31) (n : Nat) (hn : A.length = n) : (A ++ x :: B).set n y = A ++ y :: B := by
  subst hn
  rw [List.set_append_right _ _ (Nat.le_refl _), Nat.sub_self, List.set_cons_zero]
theorem swp1_two (A B Z : List S31) (u v : S31) (i j : Nat) (hi : A.length = i) (hj : i + 1 + B.length = j) : swp1 (A ++ u :: (B ++ v :: Z)) i j = A ++ v :: (B ++ u :: Z) := by
  have e : ∀ x y : S31, A ++ x :: (B ++ y :: Z) = (A ++ x :: B) ++ y :: Z := fun x y => by simp
  have hl : ∀ x : S31, (A ++ x :: B).length = j := fun x => by rw [List.length_append, List.length_cons]; omega
  have r1 : rd_T31 (A ++ u :: (B ++ v :: Z)) (i : Int) = u := rd_mid_ _ _ _ _ hi
  have r2 : rd_T31 (A ++ u :: (B ++ v :: Z)) (j : Int) = v := by rw [e]; exact rd_mid_ _ _ _ _ (hl u)
  rw [swp1, r1, r2, set_mid_ _ _ _ _ _ hi, e v v, set_mid_ _ _ _ _ _ (hl v), ← e]
theorem swp1_two' (A B Z : List S31) (u v : S31) (i j : Nat) (hi : A.length = i) (hj : i + 1 + B.length = j) : swp1 (A ++ u :: (B ++ v :: Z)) j i = A ++ v :: (B ++ u :: Z) := by
  have e : ∀ x y : S31, A ++ x :: (B ++ y :: Z) = (A ++ x :: B) ++ y :: Z := fun x y => by simp
  have hl : ∀ x : S31, (A ++ x :: B).length = j := fun x => by rw [List.length_append, List.length_cons]; omega
  have r1 : rd_T31 (A ++ u :: (B ++ v :: Z)) (i : Int) = u := rd_mid_ _ _ _ _ hi
  have r2 : rd_T31 (A ++ u :: (B ++ v :: Z)) (j : Int) = v := by rw [e]; exact rd_mid_ _ _ _ _ (hl u)
  rw [swp1, r1, r2, e u v, set_mid_ _ _ _ _ _ (hl u), ← e, set_mid_ _ _ _ _ _ hi]
theorem swpR_law (a b : Nat) : ∀ (d i : Nat) (A U B V Z : List S31), U.length = d → V.length = d → A.length = a + i → A.length + d + B.length = b + i → swpR a b d i (A ++ (U ++ (B ++ (V ++ Z)))) = A ++ (V ++ (B ++ (U ++ Z)))
  | 0, i, A, U, B, V, Z, hu, hv, _, _ => by
    rw [List.eq_nil_of_length_eq_zero hu, List.eq_nil_of_length_eq_zero hv]; rfl
  | d + 1, i, A, [], B, V, Z, hu, _, _, _ => by simp at hu
  | d + 1, i, A, u :: U, B, [], Z, _, hv, _, _ => by simp at hv
  | d + 1, i, A, u :: U, B, v :: V, Z, hu, hv, ha, hb => by
    rw [List.length_cons] at hu hv
    have e1 : A ++ (u :: U ++ (B ++ (v :: V ++ Z))) = A ++ u :: ((U ++ B) ++ v :: (V ++ Z)) := by simp
    have e2 : A ++ v :: ((U ++ B) ++ u :: (V ++ Z)) = (A ++ [v]) ++ (U ++ ((B ++ [u]) ++ (V ++ Z))) := by simp
    rw [swpR, e1, swp1_two A (U ++ B) (V ++ Z) u v (a + i) (b + i) ha (by rw [List.length_append]; omega), e2, swpR_law a b d (i + 1) (A ++ [v]) U (B ++ [u]) V Z (by omega) (by omega) (by simp; omega) (by simp; omega)]
    simp
theorem rotF_law (m : Nat) : ∀ (f i j : Nat) (P U V Z : List S31), U.length = i → V.length = j → P.length + i = m → 0 < i → 0 < j → i + j ≤ f → rotF m f i j (P ++ (U ++ (V ++ Z))) = P ++ (V ++ (U ++ Z))
  | 0, i, j, _, _, _, _, _, _, _, h, _, hf => by omega
  | f + 1, i, j, P, U, V, Z, hu, hv, hp, hi, hj, hf => by
    rw [rotF]
    by_cases hij : i = j
    · rw [if_pos hij]
      subst hij
      have h_ := swpR_law (m - i) m i 0 P U [] V Z hu hv (by omega) (by simp; omega)
      simpa using h_
    · rw [if_neg hij]
      by_cases hji : j < i
      · rw [if_pos hji]
        obtain ⟨U1, U2, rfl, h1⟩ : ∃ U1 U2, U = U1 ++ U2 ∧ U1.length = j := ⟨U.take j, U.drop j, (List.take_append_drop j U).symm, by rw [List.length_take]; omega⟩
        rw [List.length_append] at hu
        have h_ := swpR_law (m - i) m j 0 P U1 U2 V Z h1 hv (by omega) (by omega)
        rw [List.append_assoc, h_]
        have h2 := rotF_law m f (i - j) j (P ++ V) U2 U1 Z (by omega) h1 (by rw [List.length_append]; omega) (by omega) hj (by omega)
        simp only [List.append_assoc] at h2 ⊢
        exact h2
      · rw [if_neg hji]
        obtain ⟨V1, V2, rfl, h1⟩ : ∃ V1 V2, V = V1 ++ V2 ∧ V1.length = j - i := ⟨V.take (j - i), V.drop (j - i), (List.take_append_drop _ V).symm, by rw [List.length_take]; omega⟩
        rw [List.length_append] at hv
        have h_ := swpR_law (m - i) (m + j - i) i 0 P U V1 V2 Z hu (by omega) (by omega) (by omega)
        rw [List.append_assoc, h_]
        have h2 := rotF_law m f i (j - i) P V2 V1 (U ++ Z) (by omega) h1 hp hi (by omega) (by omega)
        simp only [List.append_assoc] at h2 ⊢
        exact h2
theorem upS_law : ∀ (Y : List S31) (P Z : List S31) (x : S31) (k : Nat), P.length = k → upS Y.length k (P ++ x :: (Y ++ Z)) = P ++ (Y ++ x :: Z)
  | [], _, _, _, _, _ => rfl
  | y :: Y, P, Z, x, k, hp => by
    have h1 := swp1_two P [] (Y ++ Z) x y k (k + 1) hp rfl
    have h2 := upS_law Y (P ++ [y]) Z x (k + 1) (by simp; omega)
    rw [List.length_cons, upS, show P ++ x :: (y :: Y ++ Z) = P ++ x :: ([] ++ y :: (Y ++ Z)) by simp, h1, show P ++ y :: ([] ++ x :: (Y ++ Z)) = (P ++ [y]) ++ x :: (Y ++ Z) by simp, h2]
    simp
theorem dnS_law : ∀ (d : Nat) (X P Z : List S31) (y : S31) (k : Nat), X.length = d → P.length + d = k → dnS d k (P ++ (X ++ y :: Z)) = P ++ y :: (X ++ Z)
  | 0, X, P, Z, y, k, hx, hk => by
    rw [List.eq_nil_of_length_eq_zero hx]; rfl
  | d + 1, X, P, Z, y, k, hx, hk => by
    obtain ⟨X', x, rfl⟩ : ∃ X' x, X = X' ++ [x] := by
      rcases List.eq_nil_or_concat X with rfl | ⟨X', x, h⟩
      · simp at hx
      · exact ⟨X', x, by simpa using h⟩
    rw [List.length_append, List.length_singleton] at hx
    have h1 := swp1_two' (P ++ X') [] Z x y (k - 1) k (by rw [List.length_append]; omega) (by simp; omega)
    have h2 := dnS_law d X' P (x :: Z) y (k - 1) (by omega) (by omega)
    rw [dnS, show P ++ (X' ++ [x] ++ y :: Z) = (P ++ X') ++ x :: ([] ++ y :: Z) by simp, h1, show (P ++ X') ++ y :: ([] ++ x :: Z) = P ++ (X' ++ y :: (x :: Z)) by simp, h2]
    simp
theorem bsF_spec (pred : Nat → Bool) (lo hi : Nat) : ∀ (f i j : Nat), i ≤ j → j - i ≤ f → (lo < i → pred (i - 1) = true) → (j < hi → pred j = false) → (lo < bsF pred f i j → pred (bsF pred f i j - 1) = true) ∧ (bsF pred f i j < hi → pred (bsF pred f i j) = false)
  | 0, i, j, hij, hf, h1, h2 => by
    obtain rfl : i = j := by omega
    exact ⟨h1, h2⟩
  | f + 1, i, j, hij, hf, h1, h2 => by
    rw [bsF]
    by_cases hlt : i < j
    · rw [if_pos hlt]
      by_cases hp : pred ((i + j) / 2) = true
      · rw [if_pos hp]
        exact bsF_spec pred lo hi f _ j (by omega) (by omega) (fun _ => by rw [Nat.add_sub_cancel]; exact hp) h2
      · rw [if_neg hp]
        exact bsF_spec pred lo hi f i _ (by omega) (by omega) h1 (fun _ => by simpa using hp)
    · rw [if_neg hlt]
      obtain rfl : i = j := by omega
      exact ⟨h1, h2⟩
def Srt (key : S31 → Int) (l : List S31) : Prop := l.Pairwise (fun x y => key x ≤ key y)
def SameF (key : S31 → Int) (A B : List S31) : Prop := ∀ c : Int, A.filter (fun x => key x == c) = B.filter (fun x => key x == c)
theorem SameF.trans_ {key : S31 → Int} {A B C : List S31} (h : SameF key A B) (k : SameF key B C) : SameF key A C := fun c => (h c).trans (k c)
theorem SameF.refl_ (key : S31 → Int) (A : List S31) : SameF key A A := fun _ => rfl
theorem SameF.app {key : S31 → Int} {A B C D : List S31} (h : SameF key A B) (k : SameF key C D) : SameF key (A ++ C) (B ++ D) := fun c => by rw [List.filter_append, List.filter_append, h c, k c]
theorem SameF.swap {key : S31 → Int} {U V : List S31} (h : ∀ x ∈ U, ∀ y ∈ V, key x ≠ key y) : SameF key (U ++ V) (V ++ U) := fun c => by
  rw [List.filter_append, List.filter_append]
  by_cases hc : ∃ x ∈ U, key x = c
  · obtain ⟨x, hx, rfl⟩ := hc
    have : V.filter (fun y => key y == key x) = [] := List.filter_eq_nil_iff.2 (fun y hy => by
      have := h x hx y hy
      simp; omega)
    rw [this, List.append_nil, List.nil_append]
  · have : U.filter (fun y => key y == c) = [] := List.filter_eq_nil_iff.2 (fun y hy => by
      intro e
      exact hc ⟨y, hy, by simpa using e⟩)
    rw [this, List.append_nil, List.nil_append]
theorem SameF.mem {key : S31 → Int} {A B : List S31} (h : SameF key A B) {z : S31} (hz : z ∈ B) : z ∈ A := by
  have : z ∈ B.filter (fun x => key x == key z) := List.mem_filter.2 ⟨hz, by simp⟩
  rw [← h] at this
  exact (List.mem_filter.1 this).1
theorem srt_uniq {key : S31 → Int} : ∀ (A B : List S31), Srt key A → Srt key B → SameF key A B → A = B
  | [], [], _, _, _ => rfl
  | [], y :: B, _, _, h => by
    have := h (key y)
    simp at this
  | x :: A, [], _, _, h => by
    have := h (key x)
    simp at this
  | x :: A, y :: B, ha, hb, h => by
    obtain ⟨ha1, ha2⟩ := List.pairwise_cons.1 ha
    obtain ⟨hb1, hb2⟩ := List.pairwise_cons.1 hb
    have hx : x ∈ y :: B := SameF.mem (fun c => (h c).symm) List.mem_cons_self
    have hy : y ∈ x :: A := SameF.mem h List.mem_cons_self
    have k1 : key y ≤ key x := by
      rcases List.mem_cons.1 hx with e | e
      · rw [e]; omega
      · exact hb1 _ e
    have k2 : key x ≤ key y := by
      rcases List.mem_cons.1 hy with e | e
      · rw [e]; omega
      · exact ha1 _ e
    have ke : key x = key y := by omega
    have hh := h (key x)
    rw [List.filter_cons_of_pos (by simp), List.filter_cons_of_pos (by simp; omega)] at hh
    obtain ⟨rfl, ht⟩ := List.cons.inj hh
    rw [srt_uniq A B ha2 hb2 (fun c => by
      by_cases hc : key x = c
      · rw [← hc]; exact ht
      · have := h c
        rwa [List.filter_cons_of_neg (by simpa using hc), List.filter_cons_of_neg (by simpa using hc)] at this)]
theorem cut_at {X : List S31} {k : Nat} (h : k ≤ X.length) : ∃ A B, X = A ++ B ∧ A.length = k := ⟨X.take k, X.drop k, (List.take_append_drop k X).symm, by rw [List.length_take]; omega⟩
theorem ne_cons {X : List S31} (h : 0 < X.length) : ∃ x A, X = x :: A := by
  cases X with
  | nil => simp at h
  | cons x A => exact ⟨x, A, rfl⟩
theorem ne_snoc {X : List S31} (h : 0 < X.length) : ∃ A x, X = A ++ [x] := by
  rcases List.eq_nil_or_concat X with rfl | ⟨A, x, e⟩
  · simp at h
  · exact ⟨A, x, by simpa using e⟩
theorem srt_app {key : S31 → Int} {A B : List S31} : Srt key (A ++ B) ↔ Srt key A ∧ Srt key B ∧ ∀ x ∈ A, ∀ y ∈ B, key x ≤ key y := List.pairwise_append
theorem srt_last {key : S31 → Int} {A : List S31} {x : S31} (h : Srt key (A ++ [x])) : ∀ z ∈ A ++ [x], key z ≤ key x := fun z hz => by
  rcases List.mem_append.1 hz with hz | hz
  · exact (srt_app.1 h).2.2 z hz x (List.mem_singleton.2 rfl)
  · rw [List.mem_singleton.1 hz]; omega
theorem srt_first {key : S31 → Int} {A : List S31} {x : S31} (h : Srt key (x :: A)) : ∀ z ∈ x :: A, key x ≤ key z := fun z hz => by
  rcases List.mem_cons.1 hz with rfl | hz
  · omega
  · exact (List.pairwise_cons.1 h).1 z hz
theorem symF_law (ord : S31 → S31 → Int) (key : S31 → Int) (hk : ∀ x y, ord x y < 0 ↔ key x < key y) : ∀ (f : Nat) (P X Y S : List S31) (a m b : Nat), P.length = a → a + X.length = m → m + Y.length = b → 0 < X.length → 0 < Y.length → b - a ≤ f → Srt key X → Srt key Y →
    ∃ M, symF ord f a m b (P ++ (X ++ (Y ++ S))) = P ++ (M ++ S) ∧ Srt key M ∧ SameF key (X ++ Y) M
  | 0, P, X, Y, S, a, m, b, hP, hX, hY, hx0, hy0, hf, hsX, hsY => by omega
  | f + 1, P, X, Y, S, a, m, b, hP, hX, hY, hx0, hy0, hf, hsX, hsY => by
    rw [symF]
    by_cases hA : m - a = 1
    · rw [if_pos hA]
      obtain ⟨x, X0, rfl⟩ := ne_cons hx0
      obtain rfl : X0 = [] := List.eq_nil_of_length_eq_zero (by rw [List.length_cons] at hX; omega)
      obtain ⟨R, hR⟩ : ∃ R, R = bsF (pA ord (P ++ ([x] ++ (Y ++ S))) a) (b - m) m b := ⟨_, rfl⟩
      have hRr := bsF_range (pA ord (P ++ ([x] ++ (Y ++ S))) a) (b - m) m b (by omega)
      have hRs := bsF_spec (pA ord (P ++ ([x] ++ (Y ++ S))) a) m b (b - m) m b (by omega) (Nat.le_refl _) (fun h => by omega) (fun h => by omega)
      rw [← hR] at hRr hRs ⊢
      obtain ⟨Y1, Y2, rfl, hY1⟩ := cut_at (X := Y) (k := R - m) (by omega)
      obtain ⟨hs1, hs2, hs3⟩ := srt_app.1 hsY
      have ra : rd_T31 (P ++ ([x] ++ (Y1 ++ Y2 ++ S))) (a : Int) = x := rd_mid_ P _ x a hP
      have hc1 : ∀ y ∈ Y1, key y < key x := fun y hy => by
        obtain ⟨Y1', z, rfl⟩ := ne_snoc (X := Y1) (List.length_pos_of_mem hy)
        have hl : (Y1' ++ [z]).length = Y1'.length + 1 := by simp
        have hp := hRs.1 (by omega)
        have rz : rd_T31 (P ++ ([x] ++ (Y1' ++ [z] ++ Y2 ++ S))) ((R - 1 : Nat) : Int) = z := by
          rw [show P ++ ([x] ++ (Y1' ++ [z] ++ Y2 ++ S)) = (P ++ [x] ++ Y1') ++ z :: (Y2 ++ S) by simp]
          exact rd_mid_ _ _ _ _ (by simp at hX ⊢; omega)
        rw [pA, ra, rz, decide_eq_true_eq, hk] at hp
        have := srt_last hs1 y hy
        omega
      have hc2 : ∀ y ∈ Y2, key x ≤ key y := fun y hy => by
        obtain ⟨z, Y2', rfl⟩ := ne_cons (X := Y2) (List.length_pos_of_mem hy)
        have hl : (Y1 ++ z :: Y2').length = Y1.length + Y2'.length + 1 := by simp; omega
        have hp := hRs.2 (by omega)
        have rz : rd_T31 (P ++ ([x] ++ (Y1 ++ z :: Y2' ++ S))) (R : Int) = z := by
          rw [show P ++ ([x] ++ (Y1 ++ z :: Y2' ++ S)) = (P ++ [x] ++ Y1) ++ z :: (Y2' ++ S) by simp]
          exact rd_mid_ _ _ _ _ (by simp at hX ⊢; omega)
        rw [pA, ra, rz, decide_eq_false_iff_not, hk] at hp
        have := srt_first hs2 y hy
        omega
      refine ⟨Y1 ++ x :: Y2, ?_, ?_, ?_⟩
      · rw [show R - 1 - a = Y1.length by simp at hX; omega, show P ++ ([x] ++ (Y1 ++ Y2 ++ S)) = P ++ x :: (Y1 ++ (Y2 ++ S)) by simp, upS_law Y1 P (Y2 ++ S) x a hP]
        simp
      · refine srt_app.2 ⟨hs1, List.pairwise_cons.2 ⟨hc2, hs2⟩, fun y hy z hz => ?_⟩
        rcases List.mem_cons.1 hz with rfl | hz
        · have := hc1 y hy; omega
        · exact hs3 y hy z hz
      · have h1 : SameF key ([x] ++ Y1) (Y1 ++ [x]) := SameF.swap (fun z hz y hy => by
          rw [List.mem_singleton.1 hz]
          have := hc1 y hy
          omega)
        have h2 := h1.app (SameF.refl_ key Y2)
        simpa using h2
    · rw [if_neg hA]
      by_cases hB : b - m = 1
      · rw [if_pos hB]
        obtain ⟨y, Y0, rfl⟩ := ne_cons hy0
        obtain rfl : Y0 = [] := List.eq_nil_of_length_eq_zero (by rw [List.length_cons] at hY; omega)
        obtain ⟨R, hR⟩ : ∃ R, R = bsF (pB ord (P ++ (X ++ ([y] ++ S))) m) (m - a) a m := ⟨_, rfl⟩
        have hRr := bsF_range (pB ord (P ++ (X ++ ([y] ++ S))) m) (m - a) a m (by omega)
        have hRs := bsF_spec (pB ord (P ++ (X ++ ([y] ++ S))) m) a m (m - a) a m (by omega) (Nat.le_refl _) (fun h => by omega) (fun h => by omega)
        rw [← hR] at hRr hRs ⊢
        have ra : rd_T31 (P ++ (X ++ ([y] ++ S))) (m : Int) = y := by
          rw [show P ++ (X ++ ([y] ++ S)) = (P ++ X) ++ y :: S by simp]
          exact rd_mid_ _ _ _ _ (by simp; omega)
        obtain ⟨X1, X2, rfl, hX1⟩ := cut_at (X := X) (k := R - a) (by omega)
        have hXl : (X1 ++ X2).length = X1.length + X2.length := List.length_append
        obtain ⟨hs1, hs2, hs3⟩ := srt_app.1 hsX
        have hc1 : ∀ x ∈ X1, key x ≤ key y := fun x hx => by
          obtain ⟨X1', z, rfl⟩ := ne_snoc (X := X1) (List.length_pos_of_mem hx)
          have hl : (X1' ++ [z]).length = X1'.length + 1 := by simp
          have hp := hRs.1 (by omega)
          have rz : rd_T31 (P ++ (X1' ++ [z] ++ X2 ++ ([y] ++ S))) ((R - 1 : Nat) : Int) = z := by
            rw [show P ++ (X1' ++ [z] ++ X2 ++ ([y] ++ S)) = (P ++ X1') ++ z :: (X2 ++ ([y] ++ S)) by simp]
            exact rd_mid_ _ _ _ _ (by rw [List.length_append]; omega)
          rw [pB, ra, rz, Bool.not_eq_true', decide_eq_false_iff_not, hk] at hp
          have := srt_last hs1 x hx
          omega
        have hc2 : ∀ x ∈ X2, key y < key x := fun x hx => by
          obtain ⟨z, X2', rfl⟩ := ne_cons (X := X2) (List.length_pos_of_mem hx)
          have hl : (z :: X2').length = X2'.length + 1 := by simp
          have hp := hRs.2 (by omega)
          have rz : rd_T31 (P ++ (X1 ++ z :: X2' ++ ([y] ++ S))) (R : Int) = z := by
            rw [show P ++ (X1 ++ z :: X2' ++ ([y] ++ S)) = (P ++ X1) ++ z :: (X2' ++ ([y] ++ S)) by simp]
            exact rd_mid_ _ _ _ _ (by rw [List.length_append]; omega)
          rw [pB, ra, rz, Bool.not_eq_false', decide_eq_true_eq, hk] at hp
          have := srt_first hs2 x hx
          omega
        refine ⟨X1 ++ y :: X2, ?_, ?_, ?_⟩
        · have h_ := dnS_law (m - R) X2 (P ++ X1) S y m (by omega) (by rw [List.length_append]; omega)
          rw [show P ++ (X1 ++ X2 ++ ([y] ++ S)) = (P ++ X1) ++ (X2 ++ y :: S) by simp, h_]
          simp
        · refine srt_app.2 ⟨hs1, List.pairwise_cons.2 ⟨fun z hz => by have := hc2 z hz; omega, hs2⟩, fun x hx z hz => ?_⟩
          rcases List.mem_cons.1 hz with rfl | hz
          · exact hc1 x hx
          · exact hs3 x hx z hz
        · have h1 : SameF key (X2 ++ [y]) ([y] ++ X2) := SameF.swap (fun z hz w hw => by
            rw [List.mem_singleton.1 hw]
            have := hc2 z hz
            omega)
          have h2 := (SameF.refl_ key X1).app h1
          simpa using h2
      · rw [if_neg hB]
        dsimp only
        obtain ⟨l, hl⟩ : ∃ l, l = P ++ (X ++ (Y ++ S)) := ⟨_, rfl⟩
        rw [← hl]
        obtain ⟨mid, h1_⟩ : ∃ mid, mid = (a + b) / 2 := ⟨_, rfl⟩
        obtain ⟨n, h2_⟩ : ∃ n, n = mid + m := ⟨_, rfl⟩
        rw [← h1_, ← h2_]
        obtain ⟨s0, h3_⟩ : ∃ s0, s0 = if m > mid then n - b else a := ⟨_, rfl⟩
        obtain ⟨r0, h4_⟩ : ∃ r0, r0 = if m > mid then mid else m := ⟨_, rfl⟩
        rw [← h3_, ← h4_]
        obtain ⟨s, h5_⟩ : ∃ s, s = bsF (pC ord l (n - 1)) (r0 - s0) s0 r0 := ⟨_, rfl⟩
        rw [← h5_]
        obtain ⟨e, h6_⟩ : ∃ e, e = n - s := ⟨_, rfl⟩
        rw [← h6_]
        obtain ⟨y1, y2, y3, y4, y5, y6, y7, y8, y9, y10, y11⟩ := sym_bounds _ a m b mid n s0 r0 s e (by omega) (by omega) h1_ h2_ h3_ h4_ h5_ h6_
        have hRs := bsF_spec (pC ord l (n - 1)) s0 r0 (r0 - s0) s0 r0 (by omega) (Nat.le_refl _) (fun h => by omega) (fun h => by omega)
        rw [← h5_] at hRs
        have hs0 : s0 = a ∨ n = s0 + b := by
          rw [h3_]
          split
          · right; omega
          · left; rfl
        have hr0 : r0 = m ∨ r0 = mid := by
          rw [h4_]
          split
          · right; rfl
          · left; rfl
        clear h3_ h4_ h5_
        obtain ⟨X1, X2, rfl, hX1⟩ := cut_at (X := X) (k := s - a) (by omega)
        obtain ⟨Y1, Y2, rfl, hY1⟩ := cut_at (X := Y) (k := e - m) (by omega)
        rw [List.length_append] at hX hY
        obtain ⟨hx1, hx2, hx3⟩ := srt_app.1 hsX
        obtain ⟨hy1, hy2, hy3⟩ := srt_app.1 hsY
        have H1 : ∀ x ∈ X1, ∀ y ∈ Y2, key x ≤ key y := fun x hx y hy => by
          obtain ⟨X1', u, rfl⟩ := ne_snoc (X := X1) (List.length_pos_of_mem hx)
          obtain ⟨v, Y2', rfl⟩ := ne_cons (X := Y2) (List.length_pos_of_mem hy)
          rw [List.length_append, List.length_singleton] at hX1 hX
          rw [List.length_cons] at hY
          have hp := hRs.1 (by omega)
          have ru : rd_T31 l ((s - 1 : Nat) : Int) = u := by
            rw [hl, show P ++ (X1' ++ [u] ++ X2 ++ (Y1 ++ v :: Y2' ++ S)) = (P ++ X1') ++ u :: (X2 ++ (Y1 ++ v :: Y2' ++ S)) by simp]
            exact rd_mid_ _ _ _ _ (by rw [List.length_append]; omega)
          have rv : rd_T31 l ((n - 1 - (s - 1) : Nat) : Int) = v := by
            rw [hl, show P ++ (X1' ++ [u] ++ X2 ++ (Y1 ++ v :: Y2' ++ S)) = (P ++ (X1' ++ [u] ++ X2 ++ Y1)) ++ v :: (Y2' ++ S) by simp]
            exact rd_mid_ _ _ _ _ (by simp only [List.length_append, List.length_singleton]; omega)
          rw [pC, ru, rv, Bool.not_eq_true', decide_eq_false_iff_not, hk] at hp
          have := srt_last hx1 x hx
          have := srt_first hy2 y hy
          omega
        have H2 : ∀ y ∈ Y1, ∀ x ∈ X2, key y < key x := fun y hy x hx => by
          obtain ⟨Y1', u, rfl⟩ := ne_snoc (X := Y1) (List.length_pos_of_mem hy)
          obtain ⟨v, X2', rfl⟩ := ne_cons (X := X2) (List.length_pos_of_mem hx)
          rw [List.length_append, List.length_singleton] at hY1 hY
          rw [List.length_cons] at hX
          have hp := hRs.2 (by omega)
          have ru : rd_T31 l ((n - 1 - s : Nat) : Int) = u := by
            rw [hl, show P ++ (X1 ++ v :: X2' ++ (Y1' ++ [u] ++ Y2 ++ S)) = (P ++ (X1 ++ v :: X2' ++ Y1')) ++ u :: (Y2 ++ S) by simp]
            exact rd_mid_ _ _ _ _ (by simp only [List.length_append, List.length_cons]; omega)
          have rv : rd_T31 l (s : Int) = v := by
            rw [hl, show P ++ (X1 ++ v :: X2' ++ (Y1' ++ [u] ++ Y2 ++ S)) = (P ++ X1) ++ v :: (X2' ++ (Y1' ++ [u] ++ Y2 ++ S)) by simp]
            exact rd_mid_ _ _ _ _ (by rw [List.length_append]; omega)
          rw [pC, ru, rv, Bool.not_eq_false', decide_eq_true_eq, hk] at hp
          have := srt_last hy1 y hy
          have := srt_first hx2 x hx
          omega
        clear hRs
        have L1 : (if s < m ∧ m < e then rotF m (e - s) (m - s) (e - m) l else l) = P ++ (X1 ++ (Y1 ++ (X2 ++ (Y2 ++ S)))) := by
          by_cases hc : s < m ∧ m < e
          · have h_ := rotF_law m (e - s) (m - s) (e - m) (P ++ X1) X2 Y1 (Y2 ++ S) (by omega) hY1 (by rw [List.length_append]; omega) (by omega) (by omega) (by omega)
            rw [if_pos hc, hl]
            simp only [List.append_assoc] at h_ ⊢
            exact h_
          · rw [if_neg hc, hl]
            rcases Nat.lt_or_ge s m with h | h
            · obtain rfl : Y1 = [] := List.eq_nil_of_length_eq_zero (by omega)
              simp
            · obtain rfl : X2 = [] := List.eq_nil_of_length_eq_zero (by omega)
              simp
        rw [L1]
        obtain ⟨M1, e1, m1, f1⟩ : ∃ M1, (if a < s ∧ s < mid then symF ord f a s mid (P ++ (X1 ++ (Y1 ++ (X2 ++ (Y2 ++ S))))) else P ++ (X1 ++ (Y1 ++ (X2 ++ (Y2 ++ S))))) = P ++ (M1 ++ (X2 ++ (Y2 ++ S))) ∧ Srt key M1 ∧ SameF key (X1 ++ Y1) M1 := by
          by_cases hc : a < s ∧ s < mid
          · rw [if_pos hc]
            exact symF_law ord key hk f P X1 Y1 (X2 ++ (Y2 ++ S)) a s mid hP (by omega) (by omega) (by omega) (by omega) (by omega) hx1 hy1
          · rw [if_neg hc]
            rcases Nat.lt_or_ge a s with h | h
            · obtain rfl : Y1 = [] := List.eq_nil_of_length_eq_zero (by omega)
              exact ⟨X1, by simp, hx1, by rw [List.append_nil]; exact SameF.refl_ key _⟩
            · obtain rfl : X1 = [] := List.eq_nil_of_length_eq_zero (by omega)
              exact ⟨Y1, by simp, hy1, by rw [List.nil_append]; exact SameF.refl_ key _⟩
        rw [e1]
        have lM1 : (P ++ M1).length = mid := by
          have h_ := congrArg List.length e1
          have hsame : (if a < s ∧ s < mid then symF ord f a s mid (P ++ (X1 ++ (Y1 ++ (X2 ++ (Y2 ++ S))))) else P ++ (X1 ++ (Y1 ++ (X2 ++ (Y2 ++ S))))).length = (P ++ (X1 ++ (Y1 ++ (X2 ++ (Y2 ++ S))))).length := by
            split
            · rw [symF_len]
            · rfl
          rw [hsame] at h_
          simp only [List.length_append] at h_ ⊢
          omega
        obtain ⟨M2, e2, m2, f2⟩ : ∃ M2, (if mid < e ∧ e < b then symF ord f mid e b (P ++ (M1 ++ (X2 ++ (Y2 ++ S)))) else P ++ (M1 ++ (X2 ++ (Y2 ++ S)))) = P ++ (M1 ++ (M2 ++ S)) ∧ Srt key M2 ∧ SameF key (X2 ++ Y2) M2 := by
          by_cases hc : mid < e ∧ e < b
          · rw [if_pos hc]
            obtain ⟨M2, q1, q2, q3⟩ := symF_law ord key hk f (P ++ M1) X2 Y2 S mid e b lM1 (by omega) (by omega) (by omega) (by omega) (by omega) hx2 hy2
            exact ⟨M2, by simpa using q1, q2, q3⟩
          · rw [if_neg hc]
            rcases Nat.lt_or_ge mid e with h | h
            · obtain rfl : Y2 = [] := List.eq_nil_of_length_eq_zero (by omega)
              exact ⟨X2, by simp, hx2, by rw [List.append_nil]; exact SameF.refl_ key _⟩
            · obtain rfl : X2 = [] := List.eq_nil_of_length_eq_zero (by omega)
              exact ⟨Y2, by simp, hy2, by rw [List.nil_append]; exact SameF.refl_ key _⟩
        rw [e2]
        refine ⟨M1 ++ M2, by simp, srt_app.2 ⟨m1, m2, fun x hx y hy => ?_⟩, ?_⟩
        · rcases List.mem_append.1 (f1.mem hx) with hx | hx <;> rcases List.mem_append.1 (f2.mem hy) with hy | hy
          · exact hx3 x hx y hy
          · exact H1 x hx y hy
          · have := H2 x hx y hy; omega
          · exact hy3 x hx y hy
        · have h_ : SameF key (X2 ++ Y1) (Y1 ++ X2) := SameF.swap (fun x hx y hy => by have := H2 y hy x hx; omega)
          have h2 := ((SameF.refl_ key X1).app h_).app (SameF.refl_ key Y2)
          have h3 := f1.app f2
          simp only [List.append_assoc] at h2 h3 ⊢
          exact h2.trans_ h3
theorem insIn_law (ord : S31 → S31 → Int) (key : S31 → Int) (hk : ∀ x y, ord x y < 0 ↔ key x < key y) (a : Nat) (P : List S31) (hP : P.length = a) : ∀ (d : Nat) (X Z : List S31) (x : S31) (j : Nat), X.length = d → a + d = j → Srt key X →
    ∃ M, insIn ord a j (P ++ (X ++ x :: Z)) = P ++ (M ++ Z) ∧ Srt key M ∧ SameF key (X ++ [x]) M
  | 0, X, Z, x, j, hX, hj, hs => by
    obtain rfl : X = [] := List.eq_nil_of_length_eq_zero hX
    refine ⟨[x], ?_, List.pairwise_singleton .., SameF.refl_ key _⟩
    cases j with
    | zero => rfl
    | succ j => rw [insIn, if_neg (fun h => by omega)]; rfl
  | d + 1, X, Z, x, j, hX, hj, hs => by
    obtain ⟨X', u, rfl⟩ := ne_snoc (X := X) (by omega)
    rw [List.length_append, List.length_singleton] at hX
    obtain ⟨j, rfl⟩ : ∃ z, j = z + 1 := ⟨j - 1, by omega⟩
    have e1 : P ++ (X' ++ [u] ++ x :: Z) = (P ++ X') ++ u :: ([] ++ x :: Z) := by simp
    have hl : (P ++ X').length = j := by rw [List.length_append]; omega
    have ru : rd_T31 ((P ++ X') ++ u :: ([] ++ x :: Z)) (j : Int) = u := rd_mid_ _ _ _ _ hl
    have rx : rd_T31 ((P ++ X') ++ u :: ([] ++ x :: Z)) ((j + 1 : Nat) : Int) = x := by
      rw [show (P ++ X') ++ u :: ([] ++ x :: Z) = (P ++ X' ++ [u]) ++ x :: Z by simp]
      exact rd_mid_ _ _ _ _ (by rw [List.length_append, hl, List.length_singleton])
    have hsw := swp1_two' (P ++ X') [] Z u x j (j + 1) hl rfl
    rw [swp1, ru, rx] at hsw
    obtain ⟨s1, s2, s3⟩ := srt_app.1 hs
    rw [e1, insIn, ru, rx]
    by_cases hc : key x < key u
    · rw [if_pos ⟨by omega, (hk _ _).2 hc⟩, hsw]
      obtain ⟨M, q1, q2, q3⟩ := insIn_law ord key hk a P hP d X' (u :: Z) x j (by omega) (by omega) s1
      refine ⟨M ++ [u], ?_, srt_app.2 ⟨q2, List.pairwise_singleton .., fun z hz y hy => ?_⟩, ?_⟩
      · rw [show (P ++ X') ++ x :: ([] ++ u :: Z) = P ++ (X' ++ x :: (u :: Z)) by simp, q1]
        simp
      · rw [List.mem_singleton.1 hy]
        rcases List.mem_append.1 (q3.mem hz) with h | h
        · exact s3 z h u (List.mem_singleton.2 rfl)
        · rw [List.mem_singleton.1 h]; omega
      · have h1 : SameF key ([u] ++ [x]) ([x] ++ [u]) := SameF.swap (fun z hz y hy => by
          rw [List.mem_singleton.1 hz, List.mem_singleton.1 hy]; omega)
        have h2 := (SameF.refl_ key X').app h1
        have h3 := q3.app (SameF.refl_ key [u])
        simp only [List.append_assoc] at h2 h3 ⊢
        exact h2.trans_ h3
    · rw [if_neg (fun h => hc ((hk _ _).1 h.2))]
      refine ⟨X' ++ [u] ++ [x], by simp, srt_app.2 ⟨hs, List.pairwise_singleton .., fun z hz y hy => ?_⟩, SameF.refl_ key _⟩
      rw [List.mem_singleton.1 hy]
      have := srt_last hs z hz
      omega
theorem insOut_law (ord : S31 → S31 → Int) (key : S31 → Int) (hk : ∀ x y, ord x y < 0 ↔ key x < key y) (a : Nat) (P S : List S31) (hP : P.length = a) : ∀ (Y X : List S31) (i : Nat), a + X.length = i → Srt key X →
    ∃ M, insOut ord a Y.length i (P ++ (X ++ (Y ++ S))) = P ++ (M ++ S) ∧ Srt key M ∧ SameF key (X ++ Y) M
  | [], X, i, _, hs => ⟨X, rfl, hs, by rw [List.append_nil]; exact SameF.refl_ key _⟩
  | y :: Y, X, i, hi, hs => by
    obtain ⟨M, q1, q2, q3⟩ := insIn_law ord key hk a P hP X.length X (Y ++ S) y i rfl hi hs
    have hlen : M.length = X.length + 1 := by
      have := congrArg List.length q1
      rw [insIn_length] at this
      simp at this
      omega
    obtain ⟨M2, r1, r2, r3⟩ := insOut_law ord key hk a P S hP Y M (i + 1) (by omega) q2
    refine ⟨M2, ?_, r2, ?_⟩
    · rw [List.length_cons, insOut, List.cons_append, q1, r1]
    · have h_ := q3.app (SameF.refl_ key Y)
      simp only [List.append_assoc] at h_
      exact h_.trans_ r3
theorem insS_law (ord : S31 → S31 → Int) (key : S31 → Int) (hk : ∀ x y, ord x y < 0 ↔ key x < key y) (P M S : List S31) (a b : Nat) (hP : P.length = a) (hb : a + M.length = b) :
    ∃ M', insS ord a b (P ++ (M ++ S)) = P ++ (M' ++ S) ∧ Srt key M' ∧ SameF key M M' ∧ M'.length = M.length := by
  have key1 : ∃ M', insS ord a b (P ++ (M ++ S)) = P ++ (M' ++ S) ∧ Srt key M' ∧ SameF key M M' := by
    cases M with
    | nil =>
      refine ⟨[], ?_, List.Pairwise.nil, SameF.refl_ key _⟩
      rw [insS, show b - (a + 1) = 0 by simp at hb; omega, insOut]
    | cons x Y =>
      rw [List.length_cons] at hb
      obtain ⟨M', q1, q2, q3⟩ := insOut_law ord key hk a P S hP Y [x] (a + 1) rfl (List.pairwise_singleton ..)
      exact ⟨M', by rw [insS, show b - (a + 1) = Y.length by omega]; exact q1, q2, q3⟩
  obtain ⟨M', q1, q2, q3⟩ := key1
  refine ⟨M', q1, q2, q3, ?_⟩
  have := congrArg List.length q1
  rw [insS_len] at this
  simp at this
  omega
def Chk (key : S31 → Int) (s : Nat) (l : List S31) (k : Nat) : Prop := Srt key ((l.drop (k * s)).take s)
theorem chk_pre {key : S31 → Int} {s k : Nat} {P R R' : List S31} (h : Chk key s (P ++ R) k) (hk : (k + 1) * s ≤ P.length) : Chk key s (P ++ R') k := by
  rw [Nat.add_mul, Nat.one_mul] at hk
  rw [Chk, List.drop_append_of_le_length (by omega), List.take_append_of_le_length (by rw [List.length_drop]; omega)] at h ⊢
  exact h
theorem drop_at {P R : List S31} {x : Nat} (h : P.length = x) : (P ++ R).drop x = R := by
  subst h; exact List.drop_left
theorem chk_mid {key : S31 → Int} {s k : Nat} {P M S : List S31} (hk : P.length = k * s) (hm : M.length = s ∨ (M.length ≤ s ∧ S = [])) : Chk key s (P ++ (M ++ S)) k ↔ Srt key M := by
  have e : (M ++ S).take s = M := by
    rcases hm with h | ⟨h, rfl⟩
    · subst h; exact List.take_left
    · rw [List.append_nil]; exact List.take_of_length_le h
  rw [Chk, drop_at hk, e]
theorem chk_end {key : S31 → Int} {s k : Nat} {l : List S31} (h : l.length ≤ k * s) : Chk key s l k := by
  rw [Chk, List.drop_eq_nil_of_le h, List.take_nil]
  exact List.Pairwise.nil
theorem chk_suf {key : S31 → Int} {s k b : Nat} {A A' S : List S31} (h : Chk key s (A ++ S) k) (ha : A.length = b) (ha' : A'.length = b) (hk : b ≤ k * s) : Chk key s (A' ++ S) k := by
  have e : ∀ B : List S31, B.length = b → (B ++ S).drop (k * s) = S.drop (k * s - b) := fun B hB => by
    rw [List.drop_append, List.drop_eq_nil_of_le (by omega), List.nil_append, hB]
  rw [Chk, e _ ha] at h
  rw [Chk, e _ ha']
  exact h
theorem blkF_law (ord : S31 → S31 → Int) (key : S31 → Int) (hk : ∀ x y, ord x y < 0 ↔ key x < key y) (s n : Nat) (hs : 0 < s) : ∀ (f q : Nat) (l : List S31), l.length = n → q * s ≤ n → n + 1 ≤ q * s + f → (∀ k, k < q → Chk key s l k) →
    (∀ k, Chk key s (blkF ord s n f (q * s) (q * s + s) l) k) ∧ SameF key l (blkF ord s n f (q * s) (q * s + s) l)
  | 0, q, l, _, h1, h2, _ => by omega
  | f + 1, q, l, hl, hq, hf, hc => by
    obtain ⟨P, R, rfl, hP⟩ := cut_at (X := l) (k := q * s) (by omega)
    rw [List.length_append] at hl
    rw [blkF]
    have hqs : (q + 1) * s = q * s + s := by rw [Nat.add_mul, Nat.one_mul]
    have hpre : ∀ k, k < q → (k + 1) * s ≤ P.length := fun k hkq => by rw [hP]; exact Nat.mul_le_mul_right s hkq
    by_cases hb : q * s + s ≤ n
    · rw [if_pos hb]
      obtain ⟨M, S, rfl, hM⟩ := cut_at (X := R) (k := s) (by omega)
      obtain ⟨M', e1, e2, e3, e4⟩ := insS_law ord key hk P M S (q * s) (q * s + s) hP (by omega)
      have ih := blkF_law ord key hk s n hs f (q + 1) (P ++ (M' ++ S)) (by rw [List.length_append] at hl; simp only [List.length_append]; omega) (by omega) (by omega) (fun k hkq => by
        rcases Nat.lt_or_ge k q with h | h
        · exact chk_pre (hc k h) (hpre k h)
        · obtain rfl : k = q := by omega
          exact (chk_mid hP (.inl (by omega))).2 e2)
      rw [hqs] at ih
      rw [e1]
      exact ⟨ih.1, ((SameF.refl_ key P).app (e3.app (SameF.refl_ key S))).trans_ ih.2⟩
    · rw [if_neg hb]
      obtain ⟨M', e1, e2, e3, e4⟩ := insS_law ord key hk P R [] (q * s) n hP (by omega)
      rw [List.append_nil] at e1
      rw [e1]
      refine ⟨fun k => ?_, (SameF.refl_ key P).app (by rw [List.append_nil]; exact e3)⟩
      rcases Nat.lt_or_ge k q with h | h
      · exact chk_pre (hc k h) (hpre k h)
      · rcases Nat.lt_or_ge q k with h2 | h2
        · refine chk_end ?_
          have : (q + 1) * s ≤ k * s := Nat.mul_le_mul_right s h2
          simp only [List.length_append, List.length_nil]
          omega
        · obtain rfl : k = q := by omega
          exact (chk_mid hP (.inr ⟨by omega, rfl⟩)).2 e2
theorem mrgF_law (ord : S31 → S31 → Int) (key : S31 → Int) (hk : ∀ x y, ord x y < 0 ↔ key x < key y) (s n : Nat) (hs : 0 < s) : ∀ (f q : Nat) (l : List S31), l.length = n → q * (2 * s) ≤ n → n + 1 ≤ q * (2 * s) + f → (∀ k, k < q → Chk key (2 * s) l k) → (∀ k, 2 * q ≤ k → Chk key s l k) →
    (∀ k, Chk key (2 * s) (mrgF ord s n f (q * (2 * s)) (q * (2 * s) + 2 * s) l) k) ∧ SameF key l (mrgF ord s n f (q * (2 * s)) (q * (2 * s) + 2 * s) l)
  | 0, q, l, _, h1, h2, _, _ => by omega
  | f + 1, q, l, hl, hq, hf, hc, hd => by
    obtain ⟨P, R, rfl, hP⟩ := cut_at (X := l) (k := q * (2 * s)) (by omega)
    rw [List.length_append] at hl
    rw [mrgF]
    have hqs : (q + 1) * (2 * s) = q * (2 * s) + 2 * s := by rw [Nat.add_mul, Nat.one_mul]
    have h2q : 2 * q * s = q * (2 * s) := by rw [Nat.mul_comm 2 q, Nat.mul_assoc]
    have h2q1 : (2 * q + 1) * s = q * (2 * s) + s := by rw [Nat.add_mul, Nat.one_mul, h2q]
    have hpre : ∀ k, k < q → (k + 1) * (2 * s) ≤ P.length := fun k hkq => by rw [hP]; exact Nat.mul_le_mul_right _ hkq
    have hpost : ∀ k, q < k → q * (2 * s) + 2 * s ≤ k * (2 * s) := fun k hkq => by rw [← hqs]; exact Nat.mul_le_mul_right _ hkq
    by_cases hb : q * (2 * s) + 2 * s ≤ n
    · rw [if_pos hb]
      obtain ⟨X, R2, rfl, hX⟩ := cut_at (X := R) (k := s) (by omega)
      rw [List.length_append] at hl
      obtain ⟨Y, S, rfl, hY⟩ := cut_at (X := R2) (k := s) (by omega)
      rw [List.length_append] at hl
      have sX : Srt key X := (chk_mid (hP.trans h2q.symm) (.inl hX)).1 (hd (2 * q) (Nat.le_refl _))
      have sY : Srt key Y := by
        have h_ := hd (2 * q + 1) (by omega)
        rw [← List.append_assoc P X] at h_
        exact (chk_mid (by rw [List.length_append]; omega) (.inl hY)).1 h_
      obtain ⟨M, e1, e2, e3⟩ := symF_law ord key hk (q * (2 * s) + 2 * s - q * (2 * s)) P X Y S (q * (2 * s)) (q * (2 * s) + s) (q * (2 * s) + 2 * s) hP (by omega) (by omega) (by omega) (by omega) (Nat.le_refl _) sX sY
      have hM : M.length = 2 * s := by
        have := congrArg List.length e1
        rw [symF_len] at this
        simp only [List.length_append] at this
        omega
      have ih := mrgF_law ord key hk s n hs f (q + 1) (P ++ (M ++ S)) (by simp only [List.length_append]; omega) (by omega) (by omega) (fun k hkq => by
        rcases Nat.lt_or_ge k q with h | h
        · exact chk_pre (hc k h) (hpre k h)
        · obtain rfl : k = q := by omega
          exact (chk_mid hP (.inl hM)).2 e2) (fun k hkq => by
        have h_ := hd k (by omega)
        rw [show P ++ (X ++ (Y ++ S)) = (P ++ (X ++ Y)) ++ S by simp] at h_
        rw [← List.append_assoc]
        refine chk_suf h_ (b := q * (2 * s) + 2 * s) (by simp only [List.length_append]; omega) (by rw [List.length_append]; omega) ?_
        have : 2 * (q + 1) * s ≤ k * s := Nat.mul_le_mul_right s hkq
        have e : 2 * (q + 1) * s = q * (2 * s) + 2 * s := by rw [← hqs, Nat.mul_comm 2 (q + 1), Nat.mul_assoc]
        omega)
      rw [hqs] at ih
      rw [e1]
      refine ⟨ih.1, SameF.trans_ ?_ ih.2⟩
      have h_ := (SameF.refl_ key P).app (e3.app (SameF.refl_ key S))
      simp only [List.append_assoc] at h_
      exact h_
    · rw [if_neg hb]
      by_cases hb2 : q * (2 * s) + s < n
      · rw [if_pos hb2]
        obtain ⟨X, Y, rfl, hX⟩ := cut_at (X := R) (k := s) (by omega)
        rw [List.length_append] at hl
        have sX : Srt key X := (chk_mid (hP.trans h2q.symm) (.inl hX)).1 (hd (2 * q) (Nat.le_refl _))
        have sY : Srt key Y := by
          have h_ := hd (2 * q + 1) (by omega)
          rw [← List.append_assoc P X, ← List.append_nil Y] at h_
          exact (chk_mid (by rw [List.length_append]; omega) (.inr ⟨by omega, rfl⟩)).1 h_
        obtain ⟨M, e1, e2, e3⟩ := symF_law ord key hk (n - q * (2 * s)) P X Y [] (q * (2 * s)) (q * (2 * s) + s) n hP (by omega) (by omega) (by omega) (by omega) (Nat.le_refl _) sX sY
        have hM : M.length ≤ 2 * s := by
          have := congrArg List.length e1
          rw [symF_len] at this
          simp only [List.length_append, List.length_nil] at this
          omega
        rw [List.append_nil] at e1
        rw [e1]
        refine ⟨fun k => ?_, (SameF.refl_ key P).app (by rw [List.append_nil]; exact e3)⟩
        rcases Nat.lt_or_ge k q with h | h
        · exact chk_pre (hc k h) (hpre k h)
        · rcases Nat.lt_or_ge q k with h2 | h2
          · refine chk_end ?_
            have := hpost k h2
            have h5 := congrArg List.length e1
            rw [symF_len] at h5
            simp only [List.length_append] at h5
            simp only [List.length_append]
            omega
          · obtain rfl : k = q := by omega
            exact (chk_mid hP (.inr ⟨hM, rfl⟩)).2 e2
      · rw [if_neg hb2]
        refine ⟨fun k => ?_, SameF.refl_ key _⟩
        rcases Nat.lt_or_ge k q with h | h
        · exact chk_pre (hc k h) (hpre k h)
        · rcases Nat.lt_or_ge q k with h2 | h2
          · refine chk_end ?_
            have := hpost k h2
            simp only [List.length_append]
            omega
          · obtain rfl : k = q := by omega
            have h_ := hd (2 * k) (Nat.le_refl _)
            rw [← List.append_nil R] at h_ ⊢
            exact (chk_mid hP (.inr ⟨by omega, rfl⟩)).2 ((chk_mid (hP.trans h2q.symm) (.inr ⟨by omega, rfl⟩)).1 h_)
theorem outF_law (ord : S31 → S31 → Int) (key : S31 → Int) (hk : ∀ x y, ord x y < 0 ↔ key x < key y) (n : Nat) : ∀ (f s : Nat) (l : List S31), 0 < s → l.length = n → n ≤ s + f → (∀ k, Chk key s l k) → Srt key (outF ord n f s l) ∧ SameF key l (outF ord n f s l)
  | f, s, l, hs, hl, hf, hc => by
    by_cases hsn : s < n
    · cases f with
      | zero => omega
      | succ f =>
        rw [outF, if_pos hsn]
        have hm := mrgF_law ord key hk s n hs (n + 1) 0 l hl (by omega) (by omega) (fun k hk => absurd hk (Nat.not_lt_zero _)) (fun k _ => hc k)
        rw [Nat.zero_mul, Nat.zero_add] at hm
        have ih := outF_law ord key hk n f (2 * s) _ (by omega) (by rw [mrgF_len]; exact hl) (by omega) hm.1
        exact ⟨ih.1, hm.2.trans_ ih.2⟩
    · have e : outF ord n f s l = l := by
        cases f with
        | zero => rfl
        | succ f => rw [outF, if_neg hsn]
      rw [e]
      refine ⟨?_, SameF.refl_ key _⟩
      have := hc 0
      rwa [Chk, Nat.zero_mul, List.drop_zero, List.take_of_length_le (by omega)] at this
theorem stF_law (ord : S31 → S31 → Int) (key : S31 → Int) (hk : ∀ x y, ord x y < 0 ↔ key x < key y) (l : List S31) : Srt key (stF ord l) ∧ SameF key l (stF ord l) := by
  have hb := blkF_law ord key hk 20 l.length (by decide) (l.length + 1) 0 l rfl (by omega) (by omega) (fun k hk => absurd hk (Nat.not_lt_zero _))
  rw [Nat.zero_mul, Nat.zero_add] at hb
  have ho := outF_law ord key hk l.length l.length 20 _ (by decide) (by rw [blkF_len]) (by omega) hb.1
  exact ⟨ho.1, hb.2.trans_ ho.2⟩
theorem stF_eq (ord : S31 → S31 → Int) (key : S31 → Int) (hk : ∀ x y, ord x y < 0 ↔ key x < key y) (l : List S31) : stF ord l = insAll ord l := by
  obtain ⟨a1, a2⟩ := stF_law ord key hk l
  obtain ⟨M, b1, b2, b3, _⟩ := insS_law ord key hk [] l [] 0 l.length rfl (by omega)
  have e : insAll ord l = M := by
    rw [List.append_nil, List.append_nil] at b1
    exact b1
  rw [e]
  exact srt_uniq _ _ a1 b2 (fun c => (a2 c).symm.trans (b3 c))
set_option maxHeartbeats 8000000 in
set_option maxRecDepth 100000 in
theorem ssW (g : FuncId) (lb : Array Value) (eg : ∀ args w, (callFunc g args).run Try.prog w = .ok (.enter g args) w) (ord : S31 → S31 → Int) (ok : S31 → Prop) (blk cap : Nat) (l : List S31) (w : World)
    (hp : ∀ (W : World) (x y : S31), ok x → ok y → KeepBut w W blk none → Calls Try.prog g (#[.agg #[.int .i64 x.f0, .int .i64 x.f1], .agg #[.int .i64 y.f0, .int .i64 y.f1]] ++ lb) W fun e w' => e = .returned (.int .i64 (ord x y)) ∧ Below W.heap.size W w')
    (hr : RowW w blk cap l) (hok : ∀ x ∈ l, ok x) (hln : l.length ≤ cap) (hcm : l.length ≤ 1152921504606846976) :
    Calls Try.prog 54 #[.slice (some ⟨blk, 0, none⟩) l.length cap, .func (.func g) #[] lb] w fun e w' => e = .returned (.tuple #[]) ∧ KB w w' blk ∧ RowW w' blk cap (stF ord l) := by
  have hc := stS g lb eg ord ok blk cap l l.length w hp hr hok rfl hln hcm
  clear hp hr hok
  go_enter Try.func54, Try.ntmps54
  go_wp2_with (go_at_call 70; refine hc.mono ?_; rintro e w1 ⟨rfl, hk, hr1⟩; have HF := Aside0.mk (And.intro hk hr1); clear hk hr1)
  go_end0
  exact ⟨rfl, HF.out⟩
set_option maxHeartbeats 8000000 in
theorem insW0 (f : Value) (A : Option Addr) (cap : Nat) (w : World) : Calls Try.prog 74 #[.slice A 0 cap, .int .i64 0, .int .i64 0, f] w fun e w' => e = .returned (.tuple #[]) ∧ Below w.heap.size w w' := by
  go_enter Try.func74, Try.ntmps74
  go_wp2
  refine wp_loop_rounds 1 ?_
  rw [rounds_succ]
  go_wp2
  go_end0
  exact ⟨rfl, Below.refl _ _⟩
set_option maxHeartbeats 8000000 in
theorem stW0 (f : Value) (A : Option Addr) (cap : Nat) (w : World) : Calls Try.prog 70 #[.slice A 0 cap, .int .i64 0, f] w fun e w' => e = .returned (.tuple #[]) ∧ Below w.heap.size w w' := by
  have hc := insW0 f A cap w
  go_enter Try.func70, Try.ntmps70
  go_wp2
  refine wp_loop_rounds 1 ?_
  rw [rounds_succ]
  go_wp2_with (go_at_call 74; refine hc.mono ?_; rintro e w1 ⟨rfl, hb⟩; have HF := Aside0.mk hb; clear hb)
  refine wp_loop_rounds 1 ?_
  rw [rounds_succ]
  go_wp2
  go_end0
  exact ⟨rfl, HF.out⟩
set_option maxHeartbeats 8000000 in
theorem ssW0 (f : Value) (A : Option Addr) (cap : Nat) (w : World) : Calls Try.prog 54 #[.slice A 0 cap, f] w fun e w' => e = .returned (.tuple #[]) ∧ Below w.heap.size w w' := by
  have hc := stW0 f A cap w
  go_enter Try.func54, Try.ntmps54
  go_wp2_with (go_at_call 70; refine hc.mono ?_; rintro e w1 ⟨rfl, hb⟩; have HF := Aside0.mk hb; clear hb)
  go_end0
  exact ⟨rfl, HF.out⟩
def okW (x : S31) : Prop := (0 ≤ x.f0 ∧ x.f0 ≤ 4294967295) ∧ (0 ≤ x.f1 ∧ x.f1 ≤ 4294967295)
def ordW (x y : S31) : Int := ordI x.f0 x.f1 y.f0 y.f1
def keyI (h l : Int) : Int := if cls h l = 0 then 0 else cls h l * 73786976294838206464 + (if cls h l = 2 then -(h * 8589934592 + l) else h * 8589934592 + l)
def ordK (x y : S31) : Int := if keyI x.f0 x.f1 < keyI y.f0 y.f1 then -1 else if keyI y.f0 y.f1 < keyI x.f0 x.f1 then 1 else 0
theorem cls_rangeK (h l : Int) : 0 ≤ cls h l ∧ cls h l ≤ 6 := by
  unfold cls
  repeat' split
  all_goals decide
theorem ordW_K (x y : S31) (hx : okW x) (hy : okW y) : ordW x y = ordK x y := by
  obtain ⟨⟨a1, a2⟩, a3, a4⟩ := hx
  obtain ⟨⟨b1, b2⟩, b3, b4⟩ := hy
  unfold ordW ordK ordI keyI
  have c1 := cls_rangeK x.f0 x.f1
  have c2 := cls_rangeK y.f0 y.f1
  generalize cls x.f0 x.f1 = p at *
  generalize cls y.f0 y.f1 = q at *
  generalize x.f0 = a at *
  generalize x.f1 = b at *
  generalize y.f0 = c at *
  generalize y.f1 = d at *
  repeat' split
  all_goals first | rfl | (exfalso; omega)
theorem insIn_congr {o1 o2 : S31 → S31 → Int} {ok : S31 → Prop} (h : ∀ x y, ok x → ok y → o1 x y = o2 x y) (a : Nat) : ∀ (j : Nat) (l : List S31), j < l.length → (∀ z ∈ l, ok z) → insIn o1 a j l = insIn o2 a j l
  | 0, _, _, _ => rfl
  | j + 1, l, hj, hl => by
    rw [insIn, insIn, h _ _ (hl _ (by rw [rd31_mem hj]; exact List.getElem_mem ..)) (hl _ (by rw [rd31_mem (show j < l.length by omega)]; exact List.getElem_mem ..))]
    split
    · exact insIn_congr h a j _ (by rw [List.length_set, List.length_set]; omega) (fun z hz => hl z (swp1_mem (i := j + 1) (j := j) hj (by omega) hz))
    · rfl
theorem insOut_congr {o1 o2 : S31 → S31 → Int} {ok : S31 → Prop} (h : ∀ x y, ok x → ok y → o1 x y = o2 x y) (a : Nat) : ∀ (d i : Nat) (l : List S31), i + d ≤ l.length → (∀ z ∈ l, ok z) → insOut o1 a d i l = insOut o2 a d i l
  | 0, _, _, _, _ => rfl
  | d + 1, i, l, hi, hl => by
    rw [insOut, insOut, insIn_congr h a i l (by omega) hl]
    exact insOut_congr h a d (i + 1) _ (by rw [insIn_length]; omega) (fun z hz => hl z (insIn_mem o2 a i l (by omega) hz))
theorem stF_ordK (l : List S31) (hl : ∀ x ∈ l, okW x) : stF ordK l = insAll ordW l := by
  rw [stF_eq ordK (fun x => keyI x.f0 x.f1) (fun x y => by
    unfold ordK
    split
    · exact ⟨fun _ => by assumption, fun _ => by decide⟩
    · rename_i hn
      refine ⟨fun h => ?_, fun h => absurd h hn⟩
      split at h <;> omega)]
  rw [insAll, insAll]
  rcases Nat.eq_zero_or_pos l.length with h0 | h0
  · rw [List.eq_nil_of_length_eq_zero h0]; rfl
  · exact (insOut_congr ordW_K 0 _ _ l (by omega) hl).symm
instance (x : S31) : Decidable (okW x) := by unfold okW; infer_instance
def impl_Word_54.f (l0 : List S31) : Option (List S31) := if (∀ x ∈ l0, okW x) ∧ l0.length ≤ 1000 then some (insAll ordW l0) else none
theorem insOut_len (ord : S31 → S31 → Int) (a : Nat) : ∀ (d i : Nat) (l : List S31), (insOut ord a d i l).length = l.length
  | 0, _, _ => rfl
  | d + 1, i, l => by rw [insOut, insOut_len ord a d, insIn_length]
theorem impl_Word_54.calls (P0_ : Nat → Prop) (u9000_ : Value) (l0 : List S31) (r : List S31) (w0 w : World) (hB : Below w0.heap.size w0 w) (ho0 : Kd.R k31 31 w w0.heap.size P0_ u9000_ l0) (h : impl_Word_54.f l0 = some r) :
    Calls Try.prog 54 #[u9000_, .func (.func 44) #[] #[]] w fun e w' => e = .returned (.tuple #[]) ∧ Kd.R k31 31 w' w0.heap.size (fun k_ => (P0_ k_ ∨ w.heap.size ≤ k_)) u9000_ r ∧ Below w0.heap.size w0 w' ∧ Kept w w' (fun k_ => P0_ k_) := by
  obtain ⟨⟨hok, h20⟩, rfl⟩ : ((∀ x ∈ l0, okW x) ∧ l0.length ≤ 1000) ∧ insAll ordW l0 = r := by
    rw [impl_Word_54.f] at h
    by_cases hc : (∀ x ∈ l0, okW x) ∧ l0.length ≤ 1000
    · rw [if_pos hc] at h
      exact ⟨hc, Option.some.inj h⟩
    · rw [if_neg hc] at h
      cases h
  by_cases hl : 0 < l0.length
  · obtain ⟨blk, cap, rfl, hbb, hrow, hlc, hcm, hokb⟩ := RowW.of_R ho0 hl
    refine (ssW 44 #[] (enters_of Try.func44 (by kernel_rfl) rfl) ordK okW blk cap l0 w (fun W x y hx hy _ => by
      rw [← ordW_K x y hx hy]
      exact (impl_Word_order.calls 4 x.f0 x.f1 y.f0 y.f1 _ W (impl_order_eq hx.1.1 hx.1.2 hx.2.1 hy.1.1 hy.1.2 hy.2.1 4 (by decide)))) hrow hok hlc (by omega)).mono ?_
    rw [stF_ordK l0 hok]
    rintro e w' ⟨rfl, hk, hr⟩
    have hle : (insAll ordW l0).length = l0.length := insOut_len ..
    have hR := hr.toR (ok := fun k_ => (P0_ k_ ∨ w.heap.size ≤ k_)) hbb (by omega) hcm (.inl hokb)
    rw [hle] at hR
    exact ⟨rfl, hR, ⟨hk.bel.os.trans hB.os, hk.bel.tape.trans hB.tape, hk.bel.output.trans hB.output, Nat.le_trans hB.size hk.bel.size, fun k hk1 => (hk.bel.block k (by omega)).trans (hB.block k hk1)⟩, hk.keep.1, fun j hj hn => hk.keep.2 j hj (fun e => hn (e ▸ hokb)) (by simp)⟩
  · obtain rfl : l0 = [] := List.eq_nil_of_length_eq_zero (by omega)
    obtain ⟨A, c, rfl⟩ := Kd.R_slice ho0
    refine (ssW0 _ A c w).mono ?_
    rintro e w' ⟨rfl, hb⟩
    exact ⟨rfl, Kd.R_mono (Kd.R_below ho0 hb) (fun k hk => .inl hk), ⟨hb.os.trans hB.os, hb.tape.trans hB.tape, hb.output.trans hB.output, Nat.le_trans hB.size hb.size, fun k hk => (hb.block k (by have := hB.size; omega)).trans (hB.block k hk)⟩, Kept.of_below hb _⟩
end
section
/-! ### impl_SortWords: function 27 -/
def impl_SortWords.f (k : Nat) (l0 : List (S31)) : Option ((List (S31)) × Int) := if (l0.length : Int) > 4096 then (some (([] : List (S31)), 2)) else ((impl_Word_51.f k l0).bind fun t430 => (if t430 = true then (some (([] : List (S31)), 1)) else (if (l0.length : Int) > 100 then (some (([] : List (S31)), 6)) else ((impl_Word_53.f l0).bind fun t431 => ((impl_Word_54.f t431).bind fun t434 => (some (t434, 0)))))))
theorem impl_SortWords.mono : ∀ a0 k, LeO (impl_SortWords.f k a0) (impl_SortWords.f (k + 1) a0) := by
  intro a0 k
  unfold impl_SortWords.f
  repeat' first
      | (with_reducible exact impl_Word_51.mono _ _)
      | (with_reducible exact LeO.refl _)
      | (with_reducible exact LeO.none _)
      | (with_reducible refine LeO.ite ?_ ?_)
      | (with_reducible refine LeO.bind ?_ (fun _ => ?_))
      | exact impl_Word_51.mono _ _
      | exact LeO.none _
      | refine LeO.ite ?_ ?_
      | refine LeO.bind ?_ (fun _ => ?_)
set_option maxHeartbeats 8000000 in
set_option maxRecDepth 100000 in
theorem impl_SortWords.calls (k : Nat) (A0 : Option Addr) (c0 : Nat) (l0 : List (S31)) (r1 : List (S31)) (r2 : Int) (w : World) (hr0 : Kd.C k31 w A0 l0.length l0) (hc0 : l0.length ≤ c0) (h : impl_SortWords.f k l0 = some (r1, r2)) :
    Calls Try.prog 27 #[.slice A0 l0.length c0] w fun e w' => ∃ v0_ : Value, e = .returned (.tuple #[v0_, .int .i64 r2]) ∧ Kd.R k31 31 w' w.heap.size (fun _ => True) v0_ r1 ∧ Below w.heap.size w w' := by
  have HR0 := Aside0.mk hr0
  have HC0 := Aside0.mk hc0
  clear hr0 hc0
  have HB := Aside0.mk (Below.refl w.heap.size w)
  have H : (if (l0.length : Int) > 4096 then (some (([] : List (S31)), 2)) else ((impl_Word_51.f k l0).bind fun t430 => (if t430 = true then (some (([] : List (S31)), 1)) else (if (l0.length : Int) > 100 then (some (([] : List (S31)), 6)) else ((impl_Word_53.f l0).bind fun t431 => ((impl_Word_54.f t431).bind fun t434 => (some (t434, 0)))))))) = some (r1, r2) := h
  clear h
  by_cases c2 : (l0.length : Int) > 4096
  · rw [if_pos c2] at H
    have c2b0 : decide (4096 < (l0.length : Int)) = true := decide_eq_true c2
    have c2b1 : decide (4096 < l0.length) = true := decide_eq_true (by omega)
    clear c2
    simp only [Option.some.injEq, Prod.mk.injEq] at H
    obtain ⟨rfl, rfl⟩ := H
    go_enter Try.func27, Try.ntmps27
    go_wp2
    go_ret2
    exact ⟨_, by first | rfl | (simp [errW_none, errW_some] <;> rfl) | (simp [*, errW_none, errW_some] <;> rfl), by first | exact Kd.R_nil _ _ _ _ _ | exact Kd.N_nil _ _ _ _ _ | exact Kd.V_nil _ _ _ _ _ | exact Kd.Q_nil _ _ _ _ _ | exact Kd.S_nil _ _ _ _ _, by repeat (first | (with_reducible first | exact HB.out | apply below_alloc | apply pw_below_drewN | apply below_drew1) | exact HB.out)⟩
  · rw [if_neg c2] at H
    have c2b0 : decide (4096 < (l0.length : Int)) = false := decide_eq_false c2
    have c2b1 : decide (4096 < l0.length) = false := decide_eq_false (by omega)
    clear c2
    replace H := Option.bind_eq_some_iff.mp H
    obtain ⟨t430, A30, H⟩ := H
    replace H : (if t430 = true then (some (([] : List (S31)), 1)) else (if (l0.length : Int) > 100 then (some (([] : List (S31)), 6)) else ((impl_Word_53.f l0).bind fun t431 => ((impl_Word_54.f t431).bind fun t434 => (some (t434, 0)))))) = some (r1, r2) := H
    have A3 := Aside0.mk A30
    clear A30
    by_cases c4 : t430 = true
    · subst c4
      have H1 : (some (([] : List (S31)), 1)) = some (r1, r2) := by rw [if_pos rfl] at H; exact H
      clear H
      have H := H1
      clear H1
      simp only [Option.some.injEq, Prod.mk.injEq] at H
      obtain ⟨rfl, rfl⟩ := H
      go_enter Try.func27, Try.ntmps27
      go_wp2_with (first | ((with_reducible refine gate_callee (f := 51) rfl ?_); refine goesL_ (some 11) rfl rfl Try.func51 (by kernel_rfl) rfl #[.slice A0 l0.length c0, .func (.func 52) #[] #[]] rfl (by (try simp only [List.map_toArray, List.map_cons, List.map_nil]); first | done | rfl | (simp only [List.length_drop, List.length_take]; rfl)) ?_; (with_reducible refine (impl_Word_51.calls k _ _ l0 true _ ?side1 ?side2 A3.out).mono ?_); (case side1 => repeat (first | exact HR0.out | (with_reducible refine Kd.C_alloc ?_ _) | (with_reducible refine Kd.C_drewN ?_ _) | (with_reducible refine Kd.C_drew ?_))); (case side2 => exact HC0.out); rintro e w5 ⟨rfl, hb⟩; refine ⟨_, rfl, ?_⟩; have n0_ := Aside0.mk (below_step (by repeat (first | (with_reducible first | exact HB.out | apply below_alloc | apply pw_below_drewN | apply below_drew1) | exact HB.out)) hb); clear HB; have HB := n0_; clear n0_; (try clear hb); (try clear hb2); (try clear hk); (try clear hi)))
      go_ret2
      exact ⟨_, by first | rfl | (simp [errW_none, errW_some] <;> rfl) | (simp [*, errW_none, errW_some] <;> rfl), by first | exact Kd.R_nil _ _ _ _ _ | exact Kd.N_nil _ _ _ _ _ | exact Kd.V_nil _ _ _ _ _ | exact Kd.Q_nil _ _ _ _ _ | exact Kd.S_nil _ _ _ _ _, by repeat (first | (with_reducible first | exact HB.out | apply below_alloc | apply pw_below_drewN | apply below_drew1) | exact HB.out)⟩
    · replace c4 := Bool.eq_false_iff.mpr c4
      subst c4
      have H1 : (if (l0.length : Int) > 100 then (some (([] : List (S31)), 6)) else ((impl_Word_53.f l0).bind fun t431 => ((impl_Word_54.f t431).bind fun t434 => (some (t434, 0))))) = some (r1, r2) := by rw [if_neg (show ¬ (false = true) by decide)] at H; exact H
      clear H
      have H := H1
      clear H1
      by_cases c6 : (l0.length : Int) > 100
      · rw [if_pos c6] at H
        have c6b0 : decide (100 < (l0.length : Int)) = true := decide_eq_true c6
        have c6b1 : decide (100 < l0.length) = true := decide_eq_true (by omega)
        clear c6
        simp only [Option.some.injEq, Prod.mk.injEq] at H
        obtain ⟨rfl, rfl⟩ := H
        go_enter Try.func27, Try.ntmps27
        go_wp2_with (first | ((with_reducible refine gate_callee (f := 51) rfl ?_); refine goesL_ (some 11) rfl rfl Try.func51 (by kernel_rfl) rfl #[.slice A0 l0.length c0, .func (.func 52) #[] #[]] rfl (by (try simp only [List.map_toArray, List.map_cons, List.map_nil]); first | done | rfl | (simp only [List.length_drop, List.length_take]; rfl)) ?_; (with_reducible refine (impl_Word_51.calls k _ _ l0 false _ ?side1 ?side2 A3.out).mono ?_); (case side1 => repeat (first | exact HR0.out | (with_reducible refine Kd.C_alloc ?_ _) | (with_reducible refine Kd.C_drewN ?_ _) | (with_reducible refine Kd.C_drew ?_))); (case side2 => exact HC0.out); rintro e w7 ⟨rfl, hb⟩; refine ⟨_, rfl, ?_⟩; have n0_ := Aside0.mk (below_step (by repeat (first | (with_reducible first | exact HB.out | apply below_alloc | apply pw_below_drewN | apply below_drew1) | exact HB.out)) hb); clear HB; have HB := n0_; clear n0_; (try clear hb); (try clear hb2); (try clear hk); (try clear hi)))
        go_ret2
        exact ⟨_, by first | rfl | (simp [errW_none, errW_some] <;> rfl) | (simp [*, errW_none, errW_some] <;> rfl), by first | exact Kd.R_nil _ _ _ _ _ | exact Kd.N_nil _ _ _ _ _ | exact Kd.V_nil _ _ _ _ _ | exact Kd.Q_nil _ _ _ _ _ | exact Kd.S_nil _ _ _ _ _, by repeat (first | (with_reducible first | exact HB.out | apply below_alloc | apply pw_below_drewN | apply below_drew1) | exact HB.out)⟩
      · rw [if_neg c6] at H
        have c6b0 : decide (100 < (l0.length : Int)) = false := decide_eq_false c6
        have c6b1 : decide (100 < l0.length) = false := decide_eq_false (by omega)
        clear c6
        replace H := Option.bind_eq_some_iff.mp H
        obtain ⟨t431, A80, H⟩ := H
        replace H : ((impl_Word_54.f t431).bind fun t434 => (some (t434, 0))) = some (r1, r2) := H
        have A8 := Aside0.mk A80
        clear A80
        replace H := Option.bind_eq_some_iff.mp H
        obtain ⟨t434, A90, H⟩ := H
        replace H : (some (t434, 0)) = some (r1, r2) := H
        have A9 := Aside0.mk A90
        clear A90
        simp only [Option.some.injEq, Prod.mk.injEq] at H
        obtain ⟨rfl, rfl⟩ := H
        go_enter Try.func27, Try.ntmps27
        go_wp2_with (first | ((with_reducible refine gate_callee (f := 51) rfl ?_); refine goesL_ (some 11) rfl rfl Try.func51 (by kernel_rfl) rfl #[.slice A0 l0.length c0, .func (.func 52) #[] #[]] rfl (by (try simp only [List.map_toArray, List.map_cons, List.map_nil]); first | done | rfl | (simp only [List.length_drop, List.length_take]; rfl)) ?_; (with_reducible refine (impl_Word_51.calls k _ _ l0 false _ ?side1 ?side2 A3.out).mono ?_); (case side1 => repeat (first | exact HR0.out | (with_reducible refine Kd.C_alloc ?_ _) | (with_reducible refine Kd.C_drewN ?_ _) | (with_reducible refine Kd.C_drew ?_))); (case side2 => exact HC0.out); rintro e w10 ⟨rfl, hb⟩; refine ⟨_, rfl, ?_⟩; have n0_ := Aside0.mk (below_step (by repeat (first | (with_reducible first | exact HB.out | apply below_alloc | apply pw_below_drewN | apply below_drew1) | exact HB.out)) hb); clear HB; have HB := n0_; clear n0_; (try clear hb); (try clear hb2); (try clear hk); (try clear hi)) | ((with_reducible refine gate_callee (f := 53) rfl ?_); refine goesL_ (some 17) rfl rfl Try.func53 (by kernel_rfl) rfl #[.slice A0 l0.length c0] rfl (by (try simp only [List.map_toArray, List.map_cons, List.map_nil]); first | done | rfl | (simp only [List.length_drop, List.length_take]; rfl)) ?_; (with_reducible refine (impl_Word_53.calls _ _ l0 t431 _ ?side1 ?side2 A8.out).mono ?_); (case side1 => repeat (first | exact (Kd.C_below HR0.out HB.out) | (with_reducible refine Kd.C_alloc ?_ _) | (with_reducible refine Kd.C_drewN ?_ _) | (with_reducible refine Kd.C_drew ?_))); (case side2 => exact HC0.out); rintro e w11 ⟨v432, rfl, ho0, hb⟩; refine ⟨_, rfl, ?_⟩; have n0_ := Aside0.mk (Kd.R_lower ho0 (below_size (by repeat (first | (with_reducible first | exact HB.out | apply below_alloc | apply pw_below_drewN | apply below_drew1) | exact HB.out)))); have n1_ := Aside0.mk (below_step (by repeat (first | (with_reducible first | exact HB.out | apply below_alloc | apply pw_below_drewN | apply below_drew1) | exact HB.out)) hb); clear HB; have HO433 := n0_; have HB := n1_; clear n0_ n1_; (try clear hb); (try clear hb2); (try clear hk); (try clear hi); (try clear ho0); obtain ⟨Ao12, co12, eo12⟩ := Kd.R_slice HO433.out; subst eo12) | ((with_reducible refine gate_callee (f := 54) rfl ?_); refine goesL_ (some 19) rfl rfl Try.func54 (by kernel_rfl) rfl #[.slice Ao12 t431.length co12, .func (.func 44) #[] #[]] rfl (by (try simp only [List.map_toArray, List.map_cons, List.map_nil]); first | done | rfl | (simp only [List.length_drop, List.length_take]; rfl)) ?_; (with_reducible refine (impl_Word_54.calls (fun k_ => some k_ = (.slice Ao12 t431.length co12 : Value).ownBlock) (.slice Ao12 t431.length co12) t431 t434 w _ ?side1 ?side2 A9.out).mono ?_); (case side1 => repeat (first | (with_reducible first | exact HB.out | apply below_alloc | apply pw_below_drewN | apply below_drew1) | exact HB.out)); (case side2 => exact Kd.R_tight rfl HO433.out); rintro e w13 ⟨rfl, hy0, hb, hkp⟩; refine ⟨_, rfl, ?_⟩; have n0_ := Aside0.mk (Kd.R_reok rfl hy0 (fun k_ e_ => HO433.out.1 k_ e_)); have n1_ := Aside0.mk (hb); clear HO433; clear HB; have HO433 := n0_; have HB := n1_; clear n0_ n1_; (try clear hb); (try clear hkp); (try clear hy0)))
        go_ret2
        exact ⟨_, by first | rfl | (simp [errW_none, errW_some] <;> rfl) | (simp [*, errW_none, errW_some] <;> rfl), by (with_reducible repeat (first | apply Kd.R_alloc | apply Kd.R_drewN | apply Kd.R_drew)); exact HO433.out, by repeat (first | (with_reducible first | exact HB.out | apply below_alloc | apply pw_below_drewN | apply below_drew1) | exact HB.out)⟩
end
section
/-! ### laws_eqWord: function 55 -/
def laws_eqWord.f (a0_0 : Int) (a0_1 : Int) (a1_0 : Int) (a1_1 : Int) : Option (Bool) := if a0_0 = a1_0 then (if a0_1 = a1_1 then (some true) else (some false)) else (some false)
set_option maxHeartbeats 8000000 in
set_option maxRecDepth 100000 in
theorem laws_eqWord.calls (a0_0 : Int) (a0_1 : Int) (a1_0 : Int) (a1_1 : Int) (r : Bool) (w : World) (h : laws_eqWord.f a0_0 a0_1 a1_0 a1_1 = some r) :
    Calls Try.prog 55 #[.agg #[.int .i64 a0_0, .int .i64 a0_1], .agg #[.int .i64 a1_0, .int .i64 a1_1]] w fun e w' => e = .returned (.bool r) ∧ Below w.heap.size w w' := by
  have hu31 := Try.underlying31
  have HB := Aside0.mk (Below.refl w.heap.size w)
  have H : (if a0_0 = a1_0 then (if a0_1 = a1_1 then (some true) else (some false)) else (some false)) = some r := h
  clear h
  by_cases c3 : a0_0 = a1_0
  · rw [if_pos c3] at H
    have c3b0 : (a0_0 == a1_0) = true := beq_iff_eq.mpr c3
    have c3b1 : (a0_0 != a1_0) = false := bne_eq_false_iff_eq.mpr c3
    clear c3
    by_cases c4 : a0_1 = a1_1
    · rw [if_pos c4] at H
      have c4b0 : (a0_1 == a1_1) = true := beq_iff_eq.mpr c4
      have c4b1 : (a0_1 != a1_1) = false := bne_eq_false_iff_eq.mpr c4
      clear c4
      obtain rfl := Option.some.inj H
      go_enter Try.func55, Try.ntmps55
      go_wp2_with (first | ((with_reducible refine gate_dst (N := 2) rfl ?_); refine box_event ?hg (N := 2) ?hd (cs := #[.int .i64 a0_0, .int .i64 a0_1]) (t := 31) ?hr ?_; (case hd => rfl); (case hg => rfl); (case hr => first | (go_simp; done) | (go_simp; rfl)); intro gb435 hg w5 hbox hb; have n0_ := Aside0.mk (below_step (by repeat (first | (with_reducible first | exact HB.out | apply below_alloc | apply pw_below_drewN | apply below_drew1) | exact HB.out)) hb); have n1_ := Aside0.mk (hbox); have n2_ := Aside0.mk ((by rw [hg]; exact (below_size (by repeat (first | (with_reducible first | exact HB.out | apply below_alloc | apply pw_below_drewN | apply below_drew1) | exact HB.out))) : w.heap.size ≤ gb435)); have n3_ := Aside0.mk ((by rw [hg]; exact (below_size (by repeat (first | (with_reducible first | exact HB.out | apply below_alloc | apply pw_below_drewN | apply below_drew1) | exact HB.out))) : w.heap.size ≤ gb435)); clear HB; have HB := n0_; have BK435 := n1_; have GW435 := n2_; have GE435 := n3_; clear n0_ n1_ n2_ n3_; clear hb hbox hg) | ((with_reducible refine gate_dst (N := 3) rfl ?_); refine box_event ?hg (N := 3) ?hd (cs := #[.int .i64 a1_0, .int .i64 a1_1]) (t := 31) ?hr ?_; (case hd => rfl); (case hg => rfl); (case hr => first | (go_simp; done) | (go_simp; rfl)); intro gb436 hg w6 hbox hb; have n0_ := Aside0.mk (blk_below (g := gb435) (o := .cells #[.int .i64 a0_0, .int .i64 a0_1] 31 (0, 0)) (by (with_reducible repeat (first | refine blk_drewN ?_ _ | refine blk_drew ?_ | refine blk_alloc ?_ _)); exact BK435.out) hb); have n1_ := Aside0.mk (below_step (by repeat (first | (with_reducible first | exact HB.out | apply below_alloc | apply pw_below_drewN | apply below_drew1 | refine below_set ?_ GE435.out) | exact HB.out)) hb); have n2_ := Aside0.mk (hbox); have n3_ := Aside0.mk ((by rw [hg]; exact (below_size (by repeat (first | (with_reducible first | exact HB.out | apply below_alloc | apply pw_below_drewN | apply below_drew1 | refine below_set ?_ GE435.out) | exact HB.out))) : w.heap.size ≤ gb436)); have n4_ := Aside0.mk ((by rw [hg]; exact (below_size (by repeat (first | (with_reducible first | exact HB.out | apply below_alloc | apply pw_below_drewN | apply below_drew1 | refine below_set ?_ GE435.out) | exact HB.out))) : w.heap.size ≤ gb436)); have n5_ := Aside0.mk ((by rw [hg]; exact Nat.ne_of_lt (blk_lt (g := gb435) (o := .cells #[.int .i64 a0_0, .int .i64 a0_1] 31 (0, 0)) (by (with_reducible repeat (first | refine blk_drewN ?_ _ | refine blk_drew ?_ | refine blk_alloc ?_ _)); exact BK435.out)) : gb435 ≠ gb436)); have n6_ := Aside0.mk ((by rw [hg]; exact Nat.ne_of_gt (blk_lt (g := gb435) (o := .cells #[.int .i64 a0_0, .int .i64 a0_1] 31 (0, 0)) (by (with_reducible repeat (first | refine blk_drewN ?_ _ | refine blk_drew ?_ | refine blk_alloc ?_ _)); exact BK435.out)) : gb436 ≠ gb435)); clear BK435; clear HB; have BK435 := n0_; have HB := n1_; have BK436 := n2_; have GW436 := n3_; have GE436 := n4_; have NB435_436 := n5_; have NB436_435 := n6_; clear n0_ n1_ n2_ n3_ n4_ n5_ n6_; clear hb hbox hg; have hnb7 := NB435_436.out; have hnc7 := NB436_435.out; have hcz8_0 : w6.cell? ⟨gb435, 0, none⟩ = some (.int .i64 a0_0) := (blk_cell BK435.out 0).trans rfl; have hcz8_1 : w6.cell? ⟨gb435, 1, none⟩ = some (.int .i64 a0_1) := (blk_cell BK435.out 1).trans rfl; have hfz8_0 := blk_frozen BK435.out 0; have hfz8_1 := blk_frozen BK435.out 1; have hcz9_0 : w6.cell? ⟨gb436, 0, none⟩ = some (.int .i64 a1_0) := (blk_cell BK436.out 0).trans rfl; have hcz9_1 : w6.cell? ⟨gb436, 1, none⟩ = some (.int .i64 a1_1) := (blk_cell BK436.out 1).trans rfl; have hfz9_0 := blk_frozen BK436.out 0; have hfz9_1 := blk_frozen BK436.out 1))
      go_ret
      exact ⟨by first | rfl | (simp [errW_none, errW_some] <;> rfl) | (simp [*, errW_none, errW_some] <;> rfl), by repeat (first | (with_reducible first | exact HB.out | apply below_alloc | apply pw_below_drewN | apply below_drew1 | refine below_set ?_ GE435.out | refine below_set ?_ GE436.out) | exact HB.out)⟩
    · rw [if_neg c4] at H
      have c4b0 : (a0_1 == a1_1) = false := beq_eq_false_iff_ne.mpr c4
      have c4b1 : (a0_1 != a1_1) = true := bne_iff_ne.mpr c4
      obtain rfl := Option.some.inj H
      go_enter Try.func55, Try.ntmps55
      go_wp2_with (first | ((with_reducible refine gate_dst (N := 2) rfl ?_); refine box_event ?hg (N := 2) ?hd (cs := #[.int .i64 a0_0, .int .i64 a0_1]) (t := 31) ?hr ?_; (case hd => rfl); (case hg => rfl); (case hr => first | (go_simp; done) | (go_simp; rfl)); intro gb435 hg w10 hbox hb; have n0_ := Aside0.mk (below_step (by repeat (first | (with_reducible first | exact HB.out | apply below_alloc | apply pw_below_drewN | apply below_drew1) | exact HB.out)) hb); have n1_ := Aside0.mk (hbox); have n2_ := Aside0.mk ((by rw [hg]; exact (below_size (by repeat (first | (with_reducible first | exact HB.out | apply below_alloc | apply pw_below_drewN | apply below_drew1) | exact HB.out))) : w.heap.size ≤ gb435)); have n3_ := Aside0.mk ((by rw [hg]; exact (below_size (by repeat (first | (with_reducible first | exact HB.out | apply below_alloc | apply pw_below_drewN | apply below_drew1) | exact HB.out))) : w.heap.size ≤ gb435)); clear HB; have HB := n0_; have BK435 := n1_; have GW435 := n2_; have GE435 := n3_; clear n0_ n1_ n2_ n3_; clear hb hbox hg) | ((with_reducible refine gate_dst (N := 3) rfl ?_); refine box_event ?hg (N := 3) ?hd (cs := #[.int .i64 a1_0, .int .i64 a1_1]) (t := 31) ?hr ?_; (case hd => rfl); (case hg => rfl); (case hr => first | (go_simp; done) | (go_simp; rfl)); intro gb436 hg w11 hbox hb; have n0_ := Aside0.mk (blk_below (g := gb435) (o := .cells #[.int .i64 a0_0, .int .i64 a0_1] 31 (0, 0)) (by (with_reducible repeat (first | refine blk_drewN ?_ _ | refine blk_drew ?_ | refine blk_alloc ?_ _)); exact BK435.out) hb); have n1_ := Aside0.mk (below_step (by repeat (first | (with_reducible first | exact HB.out | apply below_alloc | apply pw_below_drewN | apply below_drew1 | refine below_set ?_ GE435.out) | exact HB.out)) hb); have n2_ := Aside0.mk (hbox); have n3_ := Aside0.mk ((by rw [hg]; exact (below_size (by repeat (first | (with_reducible first | exact HB.out | apply below_alloc | apply pw_below_drewN | apply below_drew1 | refine below_set ?_ GE435.out) | exact HB.out))) : w.heap.size ≤ gb436)); have n4_ := Aside0.mk ((by rw [hg]; exact (below_size (by repeat (first | (with_reducible first | exact HB.out | apply below_alloc | apply pw_below_drewN | apply below_drew1 | refine below_set ?_ GE435.out) | exact HB.out))) : w.heap.size ≤ gb436)); have n5_ := Aside0.mk ((by rw [hg]; exact Nat.ne_of_lt (blk_lt (g := gb435) (o := .cells #[.int .i64 a0_0, .int .i64 a0_1] 31 (0, 0)) (by (with_reducible repeat (first | refine blk_drewN ?_ _ | refine blk_drew ?_ | refine blk_alloc ?_ _)); exact BK435.out)) : gb435 ≠ gb436)); have n6_ := Aside0.mk ((by rw [hg]; exact Nat.ne_of_gt (blk_lt (g := gb435) (o := .cells #[.int .i64 a0_0, .int .i64 a0_1] 31 (0, 0)) (by (with_reducible repeat (first | refine blk_drewN ?_ _ | refine blk_drew ?_ | refine blk_alloc ?_ _)); exact BK435.out)) : gb436 ≠ gb435)); clear BK435; clear HB; have BK435 := n0_; have HB := n1_; have BK436 := n2_; have GW436 := n3_; have GE436 := n4_; have NB435_436 := n5_; have NB436_435 := n6_; clear n0_ n1_ n2_ n3_ n4_ n5_ n6_; clear hb hbox hg; have hnb12 := NB435_436.out; have hnc12 := NB436_435.out; have hcz13_0 : w11.cell? ⟨gb435, 0, none⟩ = some (.int .i64 a0_0) := (blk_cell BK435.out 0).trans rfl; have hcz13_1 : w11.cell? ⟨gb435, 1, none⟩ = some (.int .i64 a0_1) := (blk_cell BK435.out 1).trans rfl; have hfz13_0 := blk_frozen BK435.out 0; have hfz13_1 := blk_frozen BK435.out 1; have hcz14_0 : w11.cell? ⟨gb436, 0, none⟩ = some (.int .i64 a1_0) := (blk_cell BK436.out 0).trans rfl; have hcz14_1 : w11.cell? ⟨gb436, 1, none⟩ = some (.int .i64 a1_1) := (blk_cell BK436.out 1).trans rfl; have hfz14_0 := blk_frozen BK436.out 0; have hfz14_1 := blk_frozen BK436.out 1))
      go_ret
      exact ⟨by first | rfl | (simp [errW_none, errW_some] <;> rfl) | (simp [*, errW_none, errW_some] <;> rfl), by repeat (first | (with_reducible first | exact HB.out | apply below_alloc | apply pw_below_drewN | apply below_drew1 | refine below_set ?_ GE435.out | refine below_set ?_ GE436.out) | exact HB.out)⟩
  · rw [if_neg c3] at H
    have c3b0 : (a0_0 == a1_0) = false := beq_eq_false_iff_ne.mpr c3
    have c3b1 : (a0_0 != a1_0) = true := bne_iff_ne.mpr c3
    obtain rfl := Option.some.inj H
    go_enter Try.func55, Try.ntmps55
    go_wp2_with (first | ((with_reducible refine gate_dst (N := 2) rfl ?_); refine box_event ?hg (N := 2) ?hd (cs := #[.int .i64 a0_0, .int .i64 a0_1]) (t := 31) ?hr ?_; (case hd => rfl); (case hg => rfl); (case hr => first | (go_simp; done) | (go_simp; rfl)); intro gb435 hg w15 hbox hb; have n0_ := Aside0.mk (below_step (by repeat (first | (with_reducible first | exact HB.out | apply below_alloc | apply pw_below_drewN | apply below_drew1) | exact HB.out)) hb); have n1_ := Aside0.mk (hbox); have n2_ := Aside0.mk ((by rw [hg]; exact (below_size (by repeat (first | (with_reducible first | exact HB.out | apply below_alloc | apply pw_below_drewN | apply below_drew1) | exact HB.out))) : w.heap.size ≤ gb435)); have n3_ := Aside0.mk ((by rw [hg]; exact (below_size (by repeat (first | (with_reducible first | exact HB.out | apply below_alloc | apply pw_below_drewN | apply below_drew1) | exact HB.out))) : w.heap.size ≤ gb435)); clear HB; have HB := n0_; have BK435 := n1_; have GW435 := n2_; have GE435 := n3_; clear n0_ n1_ n2_ n3_; clear hb hbox hg) | ((with_reducible refine gate_dst (N := 3) rfl ?_); refine box_event ?hg (N := 3) ?hd (cs := #[.int .i64 a1_0, .int .i64 a1_1]) (t := 31) ?hr ?_; (case hd => rfl); (case hg => rfl); (case hr => first | (go_simp; done) | (go_simp; rfl)); intro gb436 hg w16 hbox hb; have n0_ := Aside0.mk (blk_below (g := gb435) (o := .cells #[.int .i64 a0_0, .int .i64 a0_1] 31 (0, 0)) (by (with_reducible repeat (first | refine blk_drewN ?_ _ | refine blk_drew ?_ | refine blk_alloc ?_ _)); exact BK435.out) hb); have n1_ := Aside0.mk (below_step (by repeat (first | (with_reducible first | exact HB.out | apply below_alloc | apply pw_below_drewN | apply below_drew1 | refine below_set ?_ GE435.out) | exact HB.out)) hb); have n2_ := Aside0.mk (hbox); have n3_ := Aside0.mk ((by rw [hg]; exact (below_size (by repeat (first | (with_reducible first | exact HB.out | apply below_alloc | apply pw_below_drewN | apply below_drew1 | refine below_set ?_ GE435.out) | exact HB.out))) : w.heap.size ≤ gb436)); have n4_ := Aside0.mk ((by rw [hg]; exact (below_size (by repeat (first | (with_reducible first | exact HB.out | apply below_alloc | apply pw_below_drewN | apply below_drew1 | refine below_set ?_ GE435.out) | exact HB.out))) : w.heap.size ≤ gb436)); have n5_ := Aside0.mk ((by rw [hg]; exact Nat.ne_of_lt (blk_lt (g := gb435) (o := .cells #[.int .i64 a0_0, .int .i64 a0_1] 31 (0, 0)) (by (with_reducible repeat (first | refine blk_drewN ?_ _ | refine blk_drew ?_ | refine blk_alloc ?_ _)); exact BK435.out)) : gb435 ≠ gb436)); have n6_ := Aside0.mk ((by rw [hg]; exact Nat.ne_of_gt (blk_lt (g := gb435) (o := .cells #[.int .i64 a0_0, .int .i64 a0_1] 31 (0, 0)) (by (with_reducible repeat (first | refine blk_drewN ?_ _ | refine blk_drew ?_ | refine blk_alloc ?_ _)); exact BK435.out)) : gb436 ≠ gb435)); clear BK435; clear HB; have BK435 := n0_; have HB := n1_; have BK436 := n2_; have GW436 := n3_; have GE436 := n4_; have NB435_436 := n5_; have NB436_435 := n6_; clear n0_ n1_ n2_ n3_ n4_ n5_ n6_; clear hb hbox hg; have hnb17 := NB435_436.out; have hnc17 := NB436_435.out; have hcz18_0 : w16.cell? ⟨gb435, 0, none⟩ = some (.int .i64 a0_0) := (blk_cell BK435.out 0).trans rfl; have hcz18_1 : w16.cell? ⟨gb435, 1, none⟩ = some (.int .i64 a0_1) := (blk_cell BK435.out 1).trans rfl; have hfz18_0 := blk_frozen BK435.out 0; have hfz18_1 := blk_frozen BK435.out 1; have hcz19_0 : w16.cell? ⟨gb436, 0, none⟩ = some (.int .i64 a1_0) := (blk_cell BK436.out 0).trans rfl; have hcz19_1 : w16.cell? ⟨gb436, 1, none⟩ = some (.int .i64 a1_1) := (blk_cell BK436.out 1).trans rfl; have hfz19_0 := blk_frozen BK436.out 0; have hfz19_1 := blk_frozen BK436.out 1))
    go_ret
    exact ⟨by first | rfl | (simp [errW_none, errW_some] <;> rfl) | (simp [*, errW_none, errW_some] <;> rfl), by repeat (first | (with_reducible first | exact HB.out | apply below_alloc | apply pw_below_drewN | apply below_drew1 | refine below_set ?_ GE435.out | refine below_set ?_ GE436.out) | exact HB.out)⟩
end
section
/-! ### laws_eqWordS: function 28 -/
def laws_eqWordS.l0 : Nat → List (S31) → List (S31) → Int → Option (Bool)
  | 0, _, _, _ => none
  | k + 1, x0, x1, x5 => if x5 < (x0.length : Int) then (if 0 ≤ x5 then (if x5 < (x1.length : Int) then ((laws_eqWord.f ((rd_T31 x0 x5).f0) ((rd_T31 x0 x5).f1) ((rd_T31 x1 x5).f0) ((rd_T31 x1 x5).f1)).bind fun t439 => (if t439 = true then (laws_eqWordS.l0 k x0 x1 (wrap64 (x5 + 1))) else (some false))) else (none)) else (none)) else (some true)
def laws_eqWordS.f (k : Nat) (l0 : List (S31)) (l1 : List (S31)) : Option (Bool) := if (l0.length : Int) = (l1.length : Int) then (laws_eqWordS.l0 k l0 l1 0) else (some false)
theorem laws_eqWordS.mono_l : ∀ k, (∀ y0 y1 y2, LeO (laws_eqWordS.l0 k y0 y1 y2) (laws_eqWordS.l0 (k + 1) y0 y1 y2))
  | 0 => fun _ _ _ r h => by simp [laws_eqWordS.l0] at h
  | k + 1 => by
    have ih0 := laws_eqWordS.mono_l k
    · intro y0 y1 y2
      unfold laws_eqWordS.l0
      repeat' first
      | (with_reducible exact ih0 _ _ _)
      | (with_reducible exact LeO.refl _)
      | (with_reducible exact LeO.none _)
      | (with_reducible refine LeO.ite ?_ ?_)
      | (with_reducible refine LeO.bind ?_ (fun _ => ?_))
      | exact ih0 _ _ _
      | exact LeO.none _
      | refine LeO.ite ?_ ?_
      | refine LeO.bind ?_ (fun _ => ?_)
theorem laws_eqWordS.mono : ∀ a0 a1 k, LeO (laws_eqWordS.f k a0 a1) (laws_eqWordS.f (k + 1) a0 a1) := by
  intro a0 a1 k
  have ih0 := laws_eqWordS.mono_l k
  unfold laws_eqWordS.f
  repeat' first
      | (with_reducible exact ih0 _ _ _)
      | (with_reducible exact LeO.refl _)
      | (with_reducible exact LeO.none _)
      | (with_reducible refine LeO.ite ?_ ?_)
      | (with_reducible refine LeO.bind ?_ (fun _ => ?_))
      | exact ih0 _ _ _
      | exact LeO.none _
      | refine LeO.ite ?_ ?_
      | refine LeO.bind ?_ (fun _ => ?_)
def laws_eqWordS.T6 : Bool × List (List Nat × List Nat) := (true, [([], []), ([], []), ([0, 1], [0, 1]), ([2], [2]), ([], []), ([], []), ([4, 5], [4, 5]), ([6], [6]), ([3, 7], [3, 7]), ([8], [8])])
def laws_eqWordS.B6 : List Nat := [0, 0, 3, 7, 0, 0, 48, 112, 255, 511]
theorem laws_eqWordS.tab6 : rtab .any (opsOf Try.f28 6) = laws_eqWordS.T6 := by kernel_rfl
theorem laws_eqWordS.bits6 : waitsOk laws_eqWordS.T6.2 laws_eqWordS.B6 = true := by kernel_rfl
set_option maxHeartbeats 8000000 in
set_option maxRecDepth 100000 in
theorem laws_eqWordS.calls (k : Nat) (A0 : Option Addr) (c0 : Nat) (l0 : List (S31)) (A1 : Option Addr) (c1 : Nat) (l1 : List (S31)) (r : Bool) (w : World) (hr0 : Kd.C k31 w A0 l0.length l0) (hc0 : l0.length ≤ c0) (hr1 : Kd.C k31 w A1 l1.length l1) (hc1 : l1.length ≤ c1) (h : laws_eqWordS.f k l0 l1 = some r) :
    Calls Try.prog 28 #[.slice A0 l0.length c0, .slice A1 l1.length c1] w fun e w' => e = .returned (.bool r) ∧ Below w.heap.size w w' := by
  have hu31 := Try.underlying31
  have HR0 := Aside0.mk hr0
  have HC0 := Aside0.mk hc0
  clear hr0 hc0
  have HR1 := Aside0.mk hr1
  have HC1 := Aside0.mk hc1
  clear hr1 hc1
  have HB := Aside0.mk (Below.refl w.heap.size w)
  have H : (if (l0.length : Int) = (l1.length : Int) then (laws_eqWordS.l0 k l0 l1 0) else (some false)) = some r := h
  clear h
  by_cases c3 : (l0.length : Int) = (l1.length : Int)
  · rw [if_pos c3] at H
    have c3b0 : ((l0.length : Int) == (l1.length : Int)) = true := beq_iff_eq.mpr c3
    have c3b1 : ((l0.length : Int) != (l1.length : Int)) = false := bne_eq_false_iff_eq.mpr c3
    have c3b2 : (l0.length == l1.length) = true := by first | simpa using c3 | (simp at c3 ⊢; omega)
    clear c3
    have H' := Aside0.mk H
    clear H
    go_enter Try.func28, Try.ntmps28
    go_wp2
    go_loopg [5] k (fun kq v5 w' => ∃ (x5_1 : Int), v5 = .int .i64 x5_1 ∧ Aside0 (laws_eqWordS.l0 kq l0 l1 x5_1 = some r) ∧ Aside0 (kq ≤ k) ∧ Aside0 (Below w.heap.size w w'))
    case atStart => exact ⟨(0), (by first | rfl | (simp; done) | (simp [*]; done) | (simp [ne_nil_b]; done) | (simp [ne_nil_b, *]; done)), H', ⟨Nat.le_refl _⟩, ⟨by repeat (first | (with_reducible first | exact HB.out | apply below_alloc | apply pw_below_drewN | apply below_drew1) | exact HB.out)⟩⟩
    case round =>
      clear H'
      try clear c1
      try clear c2
      try clear p2
      try clear c3
      try clear c3b0
      try clear c3b1
      try clear c3b2
      obtain ⟨x5_1, rfl, HA, HK1, HB⟩ := hrel
      cases gk with
      | zero => exact absurd HA.out (by simp [laws_eqWordS.l0])
      | succ k1 =>
        have H := HA.out
        clear HA
        simp only [laws_eqWordS.l0] at H
        by_cases c4 : x5_1 < (l0.length : Int)
        · rw [if_pos c4] at H
          have c4b0 : decide (x5_1 < (l0.length : Int)) = true := decide_eq_true c4
          clear c4
          by_cases c5 : 0 ≤ x5_1
          · rw [if_pos c5] at H
            have c5b0 : decide (0 ≤ x5_1) = true := decide_eq_true c5
            clear c5
            by_cases c6 : x5_1 < (l1.length : Int)
            · rw [if_pos c6] at H
              have c6b0 : decide (x5_1 < (l1.length : Int)) = true := decide_eq_true c6
              clear c6
              replace H := Option.bind_eq_some_iff.mp H
              obtain ⟨t439, A70, H⟩ := H
              replace H : (if t439 = true then (laws_eqWordS.l0 k1 l0 l1 (wrap64 (x5_1 + 1))) else (some false)) = some r := H
              have A7 := Aside0.mk A70
              clear A70
              by_cases c8 : t439 = true
              · subst c8
                have H1 : (laws_eqWordS.l0 k1 l0 l1 (wrap64 (x5_1 + 1))) = some r := by rw [if_pos rfl] at H; exact H
                clear H
                have H := H1
                clear H1
                have H' := Aside0.mk H
                clear H
                try go_wp2
                have n0_ := Aside0.mk (below_drew1 HB.out)
                clear HB
                have HB := n0_
                clear n0_
                have p437 : 0 ≤ (x5_1 : Int) := of_decide_eq_true (by first | (with_reducible assumption) | assumption)
                have q437 : x5_1 < (l0.length : Int) := of_decide_eq_true (by first | (with_reducible assumption) | assumption)
                obtain ⟨ad437, e437, hx437_0, hx437_1⟩ := at_T31 HR0.out x5_1 p437 q437
                have hw437_1 := hx437_1
                have hw437_0 := hx437_0
                cases e437
                replace hx437_0 := (HB.out.cell (World.block_lt_of_cell? w _ hx437_0)).trans hx437_0
                replace hx437_1 := (HB.out.cell (World.block_lt_of_cell? w _ hx437_1)).trans hx437_1
                replace p437 := eq_true p437
                replace q437 := eq_true q437
                have p438 : 0 ≤ (x5_1 : Int) := of_decide_eq_true (by first | (with_reducible assumption) | assumption)
                have q438 : x5_1 < (l1.length : Int) := of_decide_eq_true (by first | (with_reducible assumption) | assumption)
                obtain ⟨ad438, e438, hx438_0, hx438_1⟩ := at_T31 HR1.out x5_1 p438 q438
                have hw438_1 := hx438_1
                have hw438_0 := hx438_0
                cases e438
                replace hx438_0 := (HB.out.cell (World.block_lt_of_cell? w _ hx438_0)).trans hx438_0
                replace hx438_1 := (HB.out.cell (World.block_lt_of_cell? w _ hx438_1)).trans hx438_1
                replace p438 := eq_true p438
                replace q438 := eq_true q438
                refine start_ (n := 10) (S := fun w' => w'.cell? (ad437.add ((x5_1).toNat * 2)) = some (.int .i64 ((rd_T31 l0 x5_1).f0)) ∧ w'.cell? ⟨(ad437.add ((x5_1).toNat * 2)).block, (ad437.add ((x5_1).toNat * 2)).off + 1, none⟩ = some (.int .i64 ((rd_T31 l0 x5_1).f1)) ∧ w'.cell? (ad438.add ((x5_1).toNat * 2)) = some (.int .i64 ((rd_T31 l1 x5_1).f0)) ∧ w'.cell? ⟨(ad438.add ((x5_1).toNat * 2)).block, (ad438.add ((x5_1).toNat * 2)).off + 1, none⟩ = some (.int .i64 ((rd_T31 l1 x5_1).f1))) (ds := []) #[false, false, false, false, false, false, false, false, false, false] (by kernel_rfl) rfl rfl ⟨((HB.out.cell (World.block_lt_of_cell? w _ hw437_0)).trans hw437_0), ((HB.out.cell (World.block_lt_of_cell? w _ hw437_1)).trans hw437_1), ((HB.out.cell (World.block_lt_of_cell? w _ hw438_0)).trans hw438_0), ((HB.out.cell (World.block_lt_of_cell? w _ hw438_1)).trans hw438_1)⟩ (fun hHeld => ?_); refine with_tabW laws_eqWordS.tab6 laws_eqWordS.bits6 (fun HT_ HW_ => ?_)
                generalize wr.drew = w9 at HB hx437_0 hx437_1 hx438_0 hx438_1 hHeld ⊢
                refine pure_ (i := 0) (N := some 17) (v := ?_) (a' := ?_) #[true, false, false, false, false, false, false, false, false, false] rfl rfl (any_of HT_.out (by kernel_rfl)) (fun _ _ _ h => h) (Or.inl ⟨by rfl, ?_⟩) ?_ ?_
                rotate_left
                · intro w'
                  go_simp
                  with_reducible rfl
                rotate_left
                · simp only [Act.put, List.setIfInBounds_toArray, List.set_cons_zero, List.set_cons_succ, i64_w, i32_w]
                  rfl
                refine pure_ (i := 1) (N := some 18) (v := ?_) (a' := ?_) #[true, true, false, false, false, false, false, false, false, false] rfl rfl (any_of HT_.out (by kernel_rfl)) (fun _ _ _ h => h) (Or.inl ⟨by rfl, ?_⟩) ?_ ?_
                rotate_left
                · intro w'
                  go_simp
                  with_reducible rfl
                rotate_left
                · simp only [Act.put, List.setIfInBounds_toArray, List.set_cons_zero, List.set_cons_succ, i64_w, i32_w]
                  rfl
                refine pure_ (i := 2) (N := some 19) (v := ?_) (a' := ?_) #[true, true, true, false, false, false, false, false, false, false] rfl rfl (any_of HT_.out (by kernel_rfl)) (fun _ _ _ h => h) (Or.inl ⟨by rfl, ?_⟩) ?_ ?_
                rotate_left
                · intro w'
                  go_simp
                  with_reducible rfl
                rotate_left
                · simp only [Act.put, List.setIfInBounds_toArray, List.set_cons_zero, List.set_cons_succ, i64_w, i32_w]
                  rfl
                refine pure_ (i := 4) (N := some 21) (v := ?_) (a' := ?_) #[true, true, true, false, true, false, false, false, false, false] rfl rfl (any_of HT_.out (by kernel_rfl)) (fun _ _ _ h => h) (Or.inl ⟨by rfl, ?_⟩) ?_ ?_
                rotate_left
                · intro w'
                  go_simp
                  with_reducible rfl
                rotate_left
                · simp only [Act.put, List.setIfInBounds_toArray, List.set_cons_zero, List.set_cons_succ, i64_w, i32_w]
                  rfl
                refine pure_ (i := 5) (N := some 22) (v := ?_) (a' := ?_) #[true, true, true, false, true, true, false, false, false, false] rfl rfl (any_of HT_.out (by kernel_rfl)) (fun _ _ _ h => h) (Or.inl ⟨by rfl, ?_⟩) ?_ ?_
                rotate_left
                · intro w'
                  go_simp
                  with_reducible rfl
                rotate_left
                · simp only [Act.put, List.setIfInBounds_toArray, List.set_cons_zero, List.set_cons_succ, i64_w, i32_w]
                  rfl
                refine pure_ (i := 6) (N := some 23) (v := ?_) (a' := ?_) #[true, true, true, false, true, true, true, false, false, false] rfl rfl (any_of HT_.out (by kernel_rfl)) (fun _ _ _ h => h) (Or.inl ⟨by rfl, ?_⟩) ?_ ?_
                rotate_left
                · intro w'
                  go_simp
                  with_reducible rfl
                rotate_left
                · simp only [Act.put, List.setIfInBounds_toArray, List.set_cons_zero, List.set_cons_succ, i64_w, i32_w]
                  rfl
                refine take_ (i := 3) (N := some 20) (v := ?_) (a' := ?_) #[true, true, true, true, true, true, true, false, false, false] rfl rfl (take_ofW HT_.out HW_.out (by kernel_rfl)) (fun _ _ _ h => h) (Or.inl ⟨by rfl, ?_⟩) hHeld ?_ ?_
                rotate_left
                · rintro w' ⟨s0, s1, s2, s3⟩
                  go_simp
                  with_reducible rfl
                rotate_left
                · simp only [Act.put, List.setIfInBounds_toArray, List.set_cons_zero, List.set_cons_succ, i64_w, i32_w]
                  rfl
                refine take_ (i := 7) (N := some 24) (v := ?_) (a' := ?_) #[true, true, true, true, true, true, true, true, false, false] rfl rfl (take_ofW HT_.out HW_.out (by kernel_rfl)) (fun _ _ _ h => h) (Or.inl ⟨by rfl, ?_⟩) hHeld ?_ ?_
                rotate_left
                · rintro w' ⟨s0, s1, s2, s3⟩
                  go_simp
                  with_reducible rfl
                rotate_left
                · simp only [Act.put, List.setIfInBounds_toArray, List.set_cons_zero, List.set_cons_succ, i64_w, i32_w]
                  rfl
                refine one_ (i := 8) (N := some 25) #[true, true, true, true, true, true, true, true, true, false] rfl rfl (one_of HT_.out (by kernel_rfl)) (by decide) (fun K hK => ?_)
                refine goes_ Try.func55 (by kernel_rfl) rfl #[.agg #[.int .i64 ((rd_T31 l0 x5_1).f0), .int .i64 ((rd_T31 l0 x5_1).f1)], .agg #[.int .i64 ((rd_T31 l1 x5_1).f0), .int .i64 ((rd_T31 l1 x5_1).f1)]] (by rfl) rfl rfl (by (try simp only [List.map_toArray, List.map_cons, List.map_nil]); first | done | rfl | (simp only [List.length_drop, List.length_take]; rfl)) ?_
                with_reducible refine (laws_eqWord.calls ((rd_T31 l0 x5_1).f0) ((rd_T31 l0 x5_1).f1) ((rd_T31 l1 x5_1).f0) ((rd_T31 l1 x5_1).f1) true _ A7.out).mono ?_
                rintro e w10 ⟨rfl, hb⟩
                refine ⟨_, rfl, ?_⟩
                have n0_ := Aside0.mk (below_step (by repeat (first | (with_reducible first | exact HB.out | apply below_alloc | apply pw_below_drewN | apply below_drew1) | exact HB.out)) hb)
                clear HB
                have HB := n0_
                clear n0_
                (try clear hb)
                (try clear hb2)
                (try clear hk)
                (try clear hi)
                refine hK.out _ _ ⟨((HB.out.cell (World.block_lt_of_cell? w _ hw437_0)).trans hw437_0), ((HB.out.cell (World.block_lt_of_cell? w _ hw437_1)).trans hw437_1), ((HB.out.cell (World.block_lt_of_cell? w _ hw438_0)).trans hw438_0), ((HB.out.cell (World.block_lt_of_cell? w _ hw438_1)).trans hw438_1)⟩ (fun hHeld => ?_)
                clear hK K
                refine norm_ (a' := ?_) ?_ ?_
                rotate_left
                · show Act.put _ (some 25) _ = _
                  simp only [Act.put, List.setIfInBounds_toArray, List.set_cons_zero, List.set_cons_succ, i64_w, i32_w]
                  rfl
                refine pure_ (i := 9) (N := some 26) (v := ?_) (a' := ?_) #[true, true, true, true, true, true, true, true, true, true] rfl rfl (any_of HT_.out (by kernel_rfl)) (fun _ _ _ h => h) (Or.inl ⟨by rfl, ?_⟩) ?_ ?_
                rotate_left
                · intro w'
                  go_simp
                  with_reducible rfl
                rotate_left
                · simp only [Act.put, List.setIfInBounds_toArray, List.set_cons_zero, List.set_cons_succ, i64_w, i32_w]
                  rfl
                refine done_ (done_of HT_.out (by kernel_rfl)) ?_
                try go_wp2
                go_roundg k1
                case measure => have := HK1.out; omega
                case rel => exact ⟨(wrap64 (x5_1 + 1)), (by first | rfl | (simp; done) | (simp [*]; done) | (simp [ne_nil_b]; done) | (simp [ne_nil_b, *]; done)), H', ⟨by have := HK1.out; omega⟩, ⟨by repeat (first | (with_reducible first | exact HB.out | apply below_alloc | apply pw_below_drewN | apply below_drew1) | exact HB.out)⟩⟩
              · replace c8 := Bool.eq_false_iff.mpr c8
                subst c8
                have H1 : (some false) = some r := by rw [if_neg (show ¬ (false = true) by decide)] at H; exact H
                clear H
                have H := H1
                clear H1
                obtain rfl := Option.some.inj H
                try go_wp2
                have n0_ := Aside0.mk (below_drew1 HB.out)
                clear HB
                have HB := n0_
                clear n0_
                have p437 : 0 ≤ (x5_1 : Int) := of_decide_eq_true (by first | (with_reducible assumption) | assumption)
                have q437 : x5_1 < (l0.length : Int) := of_decide_eq_true (by first | (with_reducible assumption) | assumption)
                obtain ⟨ad437, e437, hx437_0, hx437_1⟩ := at_T31 HR0.out x5_1 p437 q437
                have hw437_1 := hx437_1
                have hw437_0 := hx437_0
                cases e437
                replace hx437_0 := (HB.out.cell (World.block_lt_of_cell? w _ hx437_0)).trans hx437_0
                replace hx437_1 := (HB.out.cell (World.block_lt_of_cell? w _ hx437_1)).trans hx437_1
                replace p437 := eq_true p437
                replace q437 := eq_true q437
                have p438 : 0 ≤ (x5_1 : Int) := of_decide_eq_true (by first | (with_reducible assumption) | assumption)
                have q438 : x5_1 < (l1.length : Int) := of_decide_eq_true (by first | (with_reducible assumption) | assumption)
                obtain ⟨ad438, e438, hx438_0, hx438_1⟩ := at_T31 HR1.out x5_1 p438 q438
                have hw438_1 := hx438_1
                have hw438_0 := hx438_0
                cases e438
                replace hx438_0 := (HB.out.cell (World.block_lt_of_cell? w _ hx438_0)).trans hx438_0
                replace hx438_1 := (HB.out.cell (World.block_lt_of_cell? w _ hx438_1)).trans hx438_1
                replace p438 := eq_true p438
                replace q438 := eq_true q438
                refine start_ (n := 10) (S := fun w' => w'.cell? (ad437.add ((x5_1).toNat * 2)) = some (.int .i64 ((rd_T31 l0 x5_1).f0)) ∧ w'.cell? ⟨(ad437.add ((x5_1).toNat * 2)).block, (ad437.add ((x5_1).toNat * 2)).off + 1, none⟩ = some (.int .i64 ((rd_T31 l0 x5_1).f1)) ∧ w'.cell? (ad438.add ((x5_1).toNat * 2)) = some (.int .i64 ((rd_T31 l1 x5_1).f0)) ∧ w'.cell? ⟨(ad438.add ((x5_1).toNat * 2)).block, (ad438.add ((x5_1).toNat * 2)).off + 1, none⟩ = some (.int .i64 ((rd_T31 l1 x5_1).f1))) (ds := []) #[false, false, false, false, false, false, false, false, false, false] (by kernel_rfl) rfl rfl ⟨((HB.out.cell (World.block_lt_of_cell? w _ hw437_0)).trans hw437_0), ((HB.out.cell (World.block_lt_of_cell? w _ hw437_1)).trans hw437_1), ((HB.out.cell (World.block_lt_of_cell? w _ hw438_0)).trans hw438_0), ((HB.out.cell (World.block_lt_of_cell? w _ hw438_1)).trans hw438_1)⟩ (fun hHeld => ?_); refine with_tabW laws_eqWordS.tab6 laws_eqWordS.bits6 (fun HT_ HW_ => ?_)
                generalize wr.drew = w11 at HB hx437_0 hx437_1 hx438_0 hx438_1 hHeld ⊢
                refine pure_ (i := 0) (N := some 17) (v := ?_) (a' := ?_) #[true, false, false, false, false, false, false, false, false, false] rfl rfl (any_of HT_.out (by kernel_rfl)) (fun _ _ _ h => h) (Or.inl ⟨by rfl, ?_⟩) ?_ ?_
                rotate_left
                · intro w'
                  go_simp
                  with_reducible rfl
                rotate_left
                · simp only [Act.put, List.setIfInBounds_toArray, List.set_cons_zero, List.set_cons_succ, i64_w, i32_w]
                  rfl
                refine pure_ (i := 1) (N := some 18) (v := ?_) (a' := ?_) #[true, true, false, false, false, false, false, false, false, false] rfl rfl (any_of HT_.out (by kernel_rfl)) (fun _ _ _ h => h) (Or.inl ⟨by rfl, ?_⟩) ?_ ?_
                rotate_left
                · intro w'
                  go_simp
                  with_reducible rfl
                rotate_left
                · simp only [Act.put, List.setIfInBounds_toArray, List.set_cons_zero, List.set_cons_succ, i64_w, i32_w]
                  rfl
                refine pure_ (i := 2) (N := some 19) (v := ?_) (a' := ?_) #[true, true, true, false, false, false, false, false, false, false] rfl rfl (any_of HT_.out (by kernel_rfl)) (fun _ _ _ h => h) (Or.inl ⟨by rfl, ?_⟩) ?_ ?_
                rotate_left
                · intro w'
                  go_simp
                  with_reducible rfl
                rotate_left
                · simp only [Act.put, List.setIfInBounds_toArray, List.set_cons_zero, List.set_cons_succ, i64_w, i32_w]
                  rfl
                refine pure_ (i := 4) (N := some 21) (v := ?_) (a' := ?_) #[true, true, true, false, true, false, false, false, false, false] rfl rfl (any_of HT_.out (by kernel_rfl)) (fun _ _ _ h => h) (Or.inl ⟨by rfl, ?_⟩) ?_ ?_
                rotate_left
                · intro w'
                  go_simp
                  with_reducible rfl
                rotate_left
                · simp only [Act.put, List.setIfInBounds_toArray, List.set_cons_zero, List.set_cons_succ, i64_w, i32_w]
                  rfl
                refine pure_ (i := 5) (N := some 22) (v := ?_) (a' := ?_) #[true, true, true, false, true, true, false, false, false, false] rfl rfl (any_of HT_.out (by kernel_rfl)) (fun _ _ _ h => h) (Or.inl ⟨by rfl, ?_⟩) ?_ ?_
                rotate_left
                · intro w'
                  go_simp
                  with_reducible rfl
                rotate_left
                · simp only [Act.put, List.setIfInBounds_toArray, List.set_cons_zero, List.set_cons_succ, i64_w, i32_w]
                  rfl
                refine pure_ (i := 6) (N := some 23) (v := ?_) (a' := ?_) #[true, true, true, false, true, true, true, false, false, false] rfl rfl (any_of HT_.out (by kernel_rfl)) (fun _ _ _ h => h) (Or.inl ⟨by rfl, ?_⟩) ?_ ?_
                rotate_left
                · intro w'
                  go_simp
                  with_reducible rfl
                rotate_left
                · simp only [Act.put, List.setIfInBounds_toArray, List.set_cons_zero, List.set_cons_succ, i64_w, i32_w]
                  rfl
                refine take_ (i := 3) (N := some 20) (v := ?_) (a' := ?_) #[true, true, true, true, true, true, true, false, false, false] rfl rfl (take_ofW HT_.out HW_.out (by kernel_rfl)) (fun _ _ _ h => h) (Or.inl ⟨by rfl, ?_⟩) hHeld ?_ ?_
                rotate_left
                · rintro w' ⟨s0, s1, s2, s3⟩
                  go_simp
                  with_reducible rfl
                rotate_left
                · simp only [Act.put, List.setIfInBounds_toArray, List.set_cons_zero, List.set_cons_succ, i64_w, i32_w]
                  rfl
                refine take_ (i := 7) (N := some 24) (v := ?_) (a' := ?_) #[true, true, true, true, true, true, true, true, false, false] rfl rfl (take_ofW HT_.out HW_.out (by kernel_rfl)) (fun _ _ _ h => h) (Or.inl ⟨by rfl, ?_⟩) hHeld ?_ ?_
                rotate_left
                · rintro w' ⟨s0, s1, s2, s3⟩
                  go_simp
                  with_reducible rfl
                rotate_left
                · simp only [Act.put, List.setIfInBounds_toArray, List.set_cons_zero, List.set_cons_succ, i64_w, i32_w]
                  rfl
                refine one_ (i := 8) (N := some 25) #[true, true, true, true, true, true, true, true, true, false] rfl rfl (one_of HT_.out (by kernel_rfl)) (by decide) (fun K hK => ?_)
                refine goes_ Try.func55 (by kernel_rfl) rfl #[.agg #[.int .i64 ((rd_T31 l0 x5_1).f0), .int .i64 ((rd_T31 l0 x5_1).f1)], .agg #[.int .i64 ((rd_T31 l1 x5_1).f0), .int .i64 ((rd_T31 l1 x5_1).f1)]] (by rfl) rfl rfl (by (try simp only [List.map_toArray, List.map_cons, List.map_nil]); first | done | rfl | (simp only [List.length_drop, List.length_take]; rfl)) ?_
                with_reducible refine (laws_eqWord.calls ((rd_T31 l0 x5_1).f0) ((rd_T31 l0 x5_1).f1) ((rd_T31 l1 x5_1).f0) ((rd_T31 l1 x5_1).f1) false _ A7.out).mono ?_
                rintro e w12 ⟨rfl, hb⟩
                refine ⟨_, rfl, ?_⟩
                have n0_ := Aside0.mk (below_step (by repeat (first | (with_reducible first | exact HB.out | apply below_alloc | apply pw_below_drewN | apply below_drew1) | exact HB.out)) hb)
                clear HB
                have HB := n0_
                clear n0_
                (try clear hb)
                (try clear hb2)
                (try clear hk)
                (try clear hi)
                refine hK.out _ _ ⟨((HB.out.cell (World.block_lt_of_cell? w _ hw437_0)).trans hw437_0), ((HB.out.cell (World.block_lt_of_cell? w _ hw437_1)).trans hw437_1), ((HB.out.cell (World.block_lt_of_cell? w _ hw438_0)).trans hw438_0), ((HB.out.cell (World.block_lt_of_cell? w _ hw438_1)).trans hw438_1)⟩ (fun hHeld => ?_)
                clear hK K
                refine norm_ (a' := ?_) ?_ ?_
                rotate_left
                · show Act.put _ (some 25) _ = _
                  simp only [Act.put, List.setIfInBounds_toArray, List.set_cons_zero, List.set_cons_succ, i64_w, i32_w]
                  rfl
                refine pure_ (i := 9) (N := some 26) (v := ?_) (a' := ?_) #[true, true, true, true, true, true, true, true, true, true] rfl rfl (any_of HT_.out (by kernel_rfl)) (fun _ _ _ h => h) (Or.inl ⟨by rfl, ?_⟩) ?_ ?_
                rotate_left
                · intro w'
                  go_simp
                  with_reducible rfl
                rotate_left
                · simp only [Act.put, List.setIfInBounds_toArray, List.set_cons_zero, List.set_cons_succ, i64_w, i32_w]
                  rfl
                refine done_ (done_of HT_.out (by kernel_rfl)) ?_
                try go_wp2
                go_ret
                exact ⟨by first | rfl | (simp [errW_none, errW_some] <;> rfl) | (simp [*, errW_none, errW_some] <;> rfl), by repeat (first | (with_reducible first | exact HB.out | apply below_alloc | apply pw_below_drewN | apply below_drew1) | exact HB.out)⟩
            · rw [if_neg c6] at H
              exact absurd H (by simp)
          · rw [if_neg c5] at H
            exact absurd H (by simp)
        · rw [if_neg c4] at H
          have c4b0 : decide (x5_1 < (l0.length : Int)) = false := decide_eq_false c4
          clear c4
          obtain rfl := Option.some.inj H
          go_wp2
          go_ret
          exact ⟨by first | rfl | (simp [errW_none, errW_some] <;> rfl) | (simp [*, errW_none, errW_some] <;> rfl), by repeat (first | (with_reducible first | exact HB.out | apply below_alloc | apply pw_below_drewN | apply below_drew1) | exact HB.out)⟩
  · rw [if_neg c3] at H
    have c3b0 : ((l0.length : Int) == (l1.length : Int)) = false := beq_eq_false_iff_ne.mpr c3
    have c3b1 : ((l0.length : Int) != (l1.length : Int)) = true := bne_iff_ne.mpr c3
    have c3b2 : (l0.length == l1.length) = false := by first | simpa using c3 | (simp at c3 ⊢; omega)
    obtain rfl := Option.some.inj H
    go_enter Try.func28, Try.ntmps28
    go_wp2
    go_ret
    exact ⟨by first | rfl | (simp [errW_none, errW_some] <;> rfl) | (simp [*, errW_none, errW_some] <;> rfl), by repeat (first | (with_reducible first | exact HB.out | apply below_alloc | apply pw_below_drewN | apply below_drew1) | exact HB.out)⟩
end
section
/-! ### laws_markWordS: function 29 -/
def laws_markWordS.l0 : Nat → List (S31) → Int → Int → Option (Int × (List (S31)))
  | 0, _, _, _ => none
  | k + 1, x0, x1, x5 => if x5 < (x0.length : Int) then (if 0 ≤ x5 then ((some (x0.set (x5 : Int).toNat (⟨x1, (rd_T31 x0 x5).f1⟩ : S31) : List (S31))).bind fun y440 => (laws_markWordS.l0 k (y440.set (x5 : Int).toNat (⟨(rd_T31 y440 x5).f0, wrap64 (x1 + 1)⟩ : S31)) (wrap64 ((wrap64 (x1 + 1)) + 1)) (wrap64 (x5 + 1)))) else (none)) else (some (x1, x0))
def laws_markWordS.f (k : Nat) (l0 : List (S31)) (a1 : Int) : Option (Int × (List (S31))) := laws_markWordS.l0 k l0 a1 0
theorem laws_markWordS.mono_l : ∀ k, (∀ y0 y1 y2, LeO (laws_markWordS.l0 k y0 y1 y2) (laws_markWordS.l0 (k + 1) y0 y1 y2))
  | 0 => fun _ _ _ r h => by simp [laws_markWordS.l0] at h
  | k + 1 => by
    have ih0 := laws_markWordS.mono_l k
    · intro y0 y1 y2
      unfold laws_markWordS.l0
      repeat' first
      | (with_reducible exact ih0 _ _ _)
      | (with_reducible exact LeO.refl _)
      | (with_reducible exact LeO.none _)
      | (with_reducible refine LeO.ite ?_ ?_)
      | (with_reducible refine LeO.bind ?_ (fun _ => ?_))
      | exact ih0 _ _ _
      | exact LeO.none _
      | refine LeO.ite ?_ ?_
      | refine LeO.bind ?_ (fun _ => ?_)
theorem laws_markWordS.mono : ∀ a0 a1 k, LeO (laws_markWordS.f k a0 a1) (laws_markWordS.f (k + 1) a0 a1) := by
  intro a0 a1 k
  have ih0 := laws_markWordS.mono_l k
  unfold laws_markWordS.f
  repeat' first
      | (with_reducible exact ih0 _ _ _)
      | (with_reducible exact LeO.refl _)
      | (with_reducible exact LeO.none _)
      | (with_reducible refine LeO.ite ?_ ?_)
      | (with_reducible refine LeO.bind ?_ (fun _ => ?_))
      | exact ih0 _ _ _
      | exact LeO.none _
      | refine LeO.ite ?_ ?_
      | refine LeO.bind ?_ (fun _ => ?_)
set_option maxHeartbeats 8000000 in
set_option maxRecDepth 100000 in
theorem laws_markWordS.calls (k : Nat) (P0_ : Nat → Prop) (u9000_ : Value) (l0 : List (S31)) (a1 : Int) (r1 : Int) (r2 : List (S31)) (w0 w : World) (hB : Below w0.heap.size w0 w) (ho0 : Kd.R k31 31 w w0.heap.size P0_ u9000_ l0) (h : laws_markWordS.f k l0 a1 = some (r1, r2)) :
    Calls Try.prog 29 #[u9000_, .int .i64 a1] w fun e w' => e = .returned (.int .i64 r1) ∧ Kd.R k31 31 w' w0.heap.size (fun k_ => (P0_ k_ ∨ w.heap.size ≤ k_)) u9000_ r2 ∧ Below w0.heap.size w0 w' ∧ Kept w w' (fun k_ => P0_ k_) := by
  have HO0 := Aside0.mk (show Kd.R k31 31 w w0.heap.size (fun k_ => (P0_ k_ ∨ w.heap.size ≤ k_)) u9000_ l0 from Kd.R_mono ho0 (fun k_ hk => (.inl hk)))
  have HK := Aside0.mk (Kept.refl w (fun k_ => P0_ k_))
  have HW0 := Aside0.mk hB.size
  have HB := Aside0.mk hB
  clear hB
  have H : (laws_markWordS.l0 k l0 a1 0) = some (r1, r2) := h
  clear h
  have H' := Aside0.mk H
  clear H
  go_enter Try.func29, Try.ntmps29
  go_wp2
  go_loopg [1, 5] k (fun kq v1 v5 w' => ∃ (x0_1 : List (S31)) (x1_1 : Int) (x5_1 : Int), v1 = .int .i64 x1_1 ∧ v5 = .int .i64 x5_1 ∧ Aside0 (laws_markWordS.l0 kq x0_1 x1_1 x5_1 = some (r1, r2)) ∧ Aside0 (kq ≤ k) ∧ Aside0 (Kd.R k31 31 w' w0.heap.size (fun k_ => (P0_ k_ ∨ w.heap.size ≤ k_)) u9000_ x0_1) ∧ Aside0 (Kept w w' (fun k_ => P0_ k_)) ∧ Aside0 (Below w0.heap.size w0 w'))
  case atStart => exact ⟨(l0), (a1), (0), (by first | rfl | (simp; done) | (simp [*]; done) | (simp [ne_nil_b]; done) | (simp [ne_nil_b, *]; done)), (by first | rfl | (simp; done) | (simp [*]; done) | (simp [ne_nil_b]; done) | (simp [ne_nil_b, *]; done)), H', ⟨Nat.le_refl _⟩, ⟨by (with_reducible repeat (first | apply Kd.R_alloc | apply Kd.R_drewN | apply Kd.R_drew)); exact HO0.out⟩, ⟨by repeat (first | (with_reducible first | exact HK.out | apply Kept.alloc | apply Kept.drewN | apply Kept.drew) | exact HK.out)⟩, ⟨by repeat (first | (with_reducible first | exact HB.out | apply below_alloc | apply pw_below_drewN | apply below_drew1) | exact HB.out)⟩⟩
  case round =>
    clear H'
    try clear c2
    try clear p2
    obtain ⟨x0_1, x1_1, x5_1, rfl, rfl, HA, HK1, HO_0, HK, HB⟩ := hrel
    cases gk with
    | zero => exact absurd HA.out (by simp [laws_markWordS.l0])
    | succ k1 =>
      have H := HA.out
      clear HA
      simp only [laws_markWordS.l0] at H
      by_cases c3 : x5_1 < (x0_1.length : Int)
      · rw [if_pos c3] at H
        have c3b0 : decide (x5_1 < (x0_1.length : Int)) = true := decide_eq_true c3
        clear c3
        by_cases c4 : 0 ≤ x5_1
        · rw [if_pos c4] at H
          have c4b0 : decide (0 ≤ x5_1) = true := decide_eq_true c4
          clear c4
          obtain ⟨y440, hy440⟩ : ∃ y_ : List (S31), y_ = (x0_1.set (x5_1 : Int).toNat (⟨x1_1, (rd_T31 x0_1 x5_1).f1⟩ : S31)) := ⟨_, rfl⟩
          replace H : (laws_markWordS.l0 k1 (y440.set (x5_1 : Int).toNat (⟨(rd_T31 y440 x5_1).f0, wrap64 (x1_1 + 1)⟩ : S31)) (wrap64 ((wrap64 (x1_1 + 1)) + 1)) (wrap64 (x5_1 + 1))) = some (r1, r2) := by first | (rw [hy440]; with_reducible exact H) | (have H2_ := (Option.bind_some _ _).symm.trans H; rw [hy440]; with_reducible exact H2_) | (have H2_ := (Option.bind_some _ _).symm.trans H; with_reducible exact H2_) | with_reducible exact H | (rw [hy440]; exact H) | exact H
          have Ny440 := Aside0.mk hy440
          clear hy440
          obtain ⟨y441, hy441⟩ : ∃ y_ : List (S31), y_ = (y440.set (x5_1 : Int).toNat (⟨(rd_T31 y440 x5_1).f0, wrap64 (x1_1 + 1)⟩ : S31)) := ⟨_, rfl⟩
          replace H : (laws_markWordS.l0 k1 y441 (wrap64 ((wrap64 (x1_1 + 1)) + 1)) (wrap64 (x5_1 + 1))) = some (r1, r2) := by first | (rw [hy441]; with_reducible exact H) | (have H2_ := (Option.bind_some _ _).symm.trans H; rw [hy441]; with_reducible exact H2_) | (have H2_ := (Option.bind_some _ _).symm.trans H; with_reducible exact H2_) | with_reducible exact H | (rw [hy441]; exact H) | exact H
          have Ny441 := Aside0.mk hy441
          clear hy441
          have H' := Aside0.mk H
          clear H
          obtain ⟨Ao7, co7, eo7⟩ := Kd.R_slice HO_0.out
          subst eo7
          have p5 : 0 ≤ (x5_1 : Int) := of_decide_eq_true (by first | (with_reducible assumption) | assumption)
          have q5 : (x5_1 : Int) < ((x0_1.length : Int) : Int) := of_decide_eq_true (by first | (with_reducible assumption) | assumption)
          obtain ⟨go5, co5, eo5, gb5, gl5, cl5, HG5⟩ := Kd.R_form HO_0.out (by omega)
          (first | cases eo5 | (injection eo5 with ea_ en_ ec_; (first | subst ea_ | (injection ea_ with ea_; subst ea_)); subst ec_; clear en_))
          have GB5 := Aside0.mk gb5
          have GG5 := Aside0.mk HG5
          clear gb5 gl5 HG5
          have HMgo5 := Aside0.mk (show (P0_ go5 ∨ w.heap.size ≤ go5) from (HO_0.out.1 _ rfl))
          obtain ⟨ce5, hcl5, hM5, hcc5, hfr5⟩ := Kd.R_elem HO_0.out z31 (x5_1 : Int) p5 q5
          obtain rfl := k31_openM hM5
          have hx5_0 : wr.cell? ⟨go5, (x5_1 : Int).toNat * 2, none⟩ = some (.int .i64 ((rd_T31 x0_1 x5_1).f0)) := hcc5 0 _ rfl
          have hx5_1 : wr.cell? ⟨go5, (x5_1 : Int).toNat * 2 + 1, none⟩ = some (.int .i64 ((rd_T31 x0_1 x5_1).f1)) := hcc5 1 _ rfl
          have hf5_0 : wr.frozen? ⟨go5, (x5_1 : Int).toNat * 2, none⟩ = false := hfr5 0
          have hf5_1 : wr.frozen? ⟨go5, (x5_1 : Int).toNat * 2 + 1, none⟩ = false := hfr5 1
          clear hcl5 hcc5 hfr5 hM5
          replace p5 := eq_true p5
          replace q5 := eq_true q5
          have HX8 := Aside0.mk (show Kd.R k31 31 wr w0.heap.size (fun k_ => (P0_ k_ ∨ w.heap.size ≤ k_)) (.slice (some ⟨go5, 0, none⟩) x0_1.length co7) x0_1 from (by (with_reducible repeat (first | apply Kd.R_alloc | apply Kd.R_drewN | apply Kd.R_drew)); exact HO_0.out))
          obtain ⟨ce8, hcl8, hM8, hcc8, hfr8⟩ := Kd.R_elem HX8.out z31 (x5_1 : Int) (of_decide_eq_true (by first | (with_reducible assumption) | assumption)) (by have h_ : (x5_1 : Int) < ((x0_1.length : Int) : Int) := of_decide_eq_true (by first | (with_reducible assumption) | assumption); first | exact h_ | (have e_ := (Kd.R_reads' HO_0.out).1; omega) | simpa using h_)
          obtain rfl := k31_openM hM8
          have HP8 := Kd.R_seg HX8.out (x5_1 : Int) (of_decide_eq_true (by first | (with_reducible assumption) | assumption)) (by have h_ : (x5_1 : Int) < ((x0_1.length : Int) : Int) := of_decide_eq_true (by first | (with_reducible assumption) | assumption); first | exact h_ | (have e_ := (Kd.R_reads' HO_0.out).1; omega) | simpa using h_) (seg := [.int .i64 x1_1]) (j := 0) hcl8 hcc8 (show 1 ≤ 2 from by decide) (x' := (⟨x1_1, (rd_T31 x0_1 x5_1).f1⟩ : S31)) (k31_mkM _ _ _ (⟨x1_1, (rd_T31 x0_1 x5_1).f1⟩ : S31) ) (fun _ hk => hk)
          have hx8_0 := hcc8 0 _ rfl
          (try simp only [show (k31).sz = 2 from rfl, Nat.mul_one, Nat.add_zero] at hx8_0)
          have hf8_0 := hfr8 0
          (try simp only [show (k31).sz = 2 from rfl, Nat.mul_one, Nat.add_zero] at hf8_0)
          clear hcl8 hcc8 hfr8 hM8
          go_wp2_with (first | ((with_reducible refine gate_store (t := 3) (p := 16) rfl ?_); refine store_event (t := 3) (p := 16) (v := ?vo_w9) (w1 := (wr.setCell ⟨go5, (x5_1 : Int).toNat * 2, none⟩ (.int .i64 x1_1))) ?hg ?ho ?hn ?hr ?_; (case ho => rfl); (case hg => rfl); (case hn => rfl); (case hr => first | (go_simp; done) | (go_simp; rfl)); intro w9 hw; have hg : wr.grownBy w9 (some go5) := (by rw [hw]; exact HP8.2); have hp_ : Kd.R k31 31 w9 w0.heap.size (fun k_ => (P0_ k_ ∨ w.heap.size ≤ k_)) (.slice (some ⟨go5, 0, none⟩) x0_1.length co7) y440 := (by rw [hw, Ny440.out]; exact HP8.1); clear HP8; have n0_ := Aside0.mk (hp_); have n1_ := Aside0.mk ((by rw [hw]; exact below_set (HB.out) GB5.out : Below w0.heap.size w0 w9)); have n2_ := Aside0.mk (Kept.of_grown (S := (fun k_ => P0_ k_)) hg (by repeat (first | (with_reducible first | exact HK.out | apply Kept.alloc | apply Kept.drewN | apply Kept.drew) | exact HK.out)) (fun k_ e_ => (HO_0.out.1 k_ e_))); clear HO_0; clear HB; clear HK; have HO_0 := n0_; have HB := n1_; have HK := n2_; clear n0_ n1_ n2_; clear hg hw hp_; have p6 : 0 ≤ (x5_1 : Int) := of_decide_eq_true (by first | (with_reducible assumption) | assumption); have q6 : (x5_1 : Int) < ((x0_1.length : Int) : Int) := of_decide_eq_true (by first | (with_reducible assumption) | assumption); obtain ⟨ce6, hcl6, hM6, hcc6, hfr6⟩ := Kd.R_elem HO_0.out z31 (x5_1 : Int) p6 q6; obtain rfl := k31_openM hM6; have hx6_0 : w9.cell? ⟨go5, (x5_1 : Int).toNat * 2, none⟩ = some (.int .i64 ((rd_T31 y440 x5_1).f0)) := hcc6 0 _ rfl; have hx6_1 : w9.cell? ⟨go5, (x5_1 : Int).toNat * 2 + 1, none⟩ = some (.int .i64 ((rd_T31 y440 x5_1).f1)) := hcc6 1 _ rfl; have hf6_0 : w9.frozen? ⟨go5, (x5_1 : Int).toNat * 2, none⟩ = false := hfr6 0; have hf6_1 : w9.frozen? ⟨go5, (x5_1 : Int).toNat * 2 + 1, none⟩ = false := hfr6 1; clear hcl6 hcc6 hfr6 hM6; replace p6 := eq_true p6; replace q6 := eq_true q6; have HX10 := Aside0.mk (show Kd.R k31 31 w9 w0.heap.size (fun k_ => (P0_ k_ ∨ w.heap.size ≤ k_)) (.slice (some ⟨go5, 0, none⟩) x0_1.length co7) y440 from (by (with_reducible repeat (first | apply Kd.R_alloc | apply Kd.R_drewN | apply Kd.R_drew)); exact HO_0.out)); obtain ⟨ce10, hcl10, hM10, hcc10, hfr10⟩ := Kd.R_elem HX10.out z31 (x5_1 : Int) (of_decide_eq_true (by first | (with_reducible assumption) | assumption)) (by have h_ : (x5_1 : Int) < ((x0_1.length : Int) : Int) := of_decide_eq_true (by first | (with_reducible assumption) | assumption); first | exact h_ | (have e_ := (Kd.R_reads' HO_0.out).1; omega) | simpa using h_); obtain rfl := k31_openM hM10; have HP10 := Kd.R_seg HX10.out (x5_1 : Int) (of_decide_eq_true (by first | (with_reducible assumption) | assumption)) (by have h_ : (x5_1 : Int) < ((x0_1.length : Int) : Int) := of_decide_eq_true (by first | (with_reducible assumption) | assumption); first | exact h_ | (have e_ := (Kd.R_reads' HO_0.out).1; omega) | simpa using h_) (seg := [.int .i64 (wrap64 (x1_1 + 1))]) (j := 1) hcl10 hcc10 (show 2 ≤ 2 from by decide) (x' := (⟨(rd_T31 y440 x5_1).f0, wrap64 (x1_1 + 1)⟩ : S31)) (k31_mkM _ _ _ (⟨(rd_T31 y440 x5_1).f0, wrap64 (x1_1 + 1)⟩ : S31) ) (fun _ hk => hk); have hx10_1 := hcc10 1 _ rfl; (try simp only [show (k31).sz = 2 from rfl, Nat.mul_one, Nat.add_zero] at hx10_1); have hf10_1 := hfr10 1; (try simp only [show (k31).sz = 2 from rfl, Nat.mul_one, Nat.add_zero] at hf10_1); clear hcl10 hcc10 hfr10 hM10) | ((with_reducible refine gate_store (t := 3) (p := 23) rfl ?_); refine store_event (t := 3) (p := 23) (v := ?vo_w11) (w1 := (w9.setCell ⟨go5, (x5_1 : Int).toNat * 2 + 1, none⟩ (.int .i64 (wrap64 (x1_1 + 1))))) ?hg ?ho ?hn ?hr ?_; (case ho => rfl); (case hg => rfl); (case hn => rfl); (case hr => first | (go_simp; done) | (go_simp; rfl)); intro w11 hw; have hg : w9.grownBy w11 (some go5) := (by rw [hw]; exact HP10.2); have hp_ : Kd.R k31 31 w11 w0.heap.size (fun k_ => (P0_ k_ ∨ w.heap.size ≤ k_)) (.slice (some ⟨go5, 0, none⟩) x0_1.length co7) y441 := (by rw [hw, Ny441.out]; exact HP10.1); clear HP10; have n0_ := Aside0.mk (hp_); have n1_ := Aside0.mk ((by rw [hw]; exact below_set (HB.out) GB5.out : Below w0.heap.size w0 w11)); have n2_ := Aside0.mk (Kept.of_grown (S := (fun k_ => P0_ k_)) hg (by repeat (first | (with_reducible first | exact HK.out | apply Kept.alloc | apply Kept.drewN | apply Kept.drew) | exact HK.out)) (fun k_ e_ => (HO_0.out.1 k_ e_))); clear HO_0; clear HB; clear HK; have HO_0 := n0_; have HB := n1_; have HK := n2_; clear n0_ n1_ n2_; clear hg hw hp_))
          go_roundg k1
          case measure => have := HK1.out; omega
          case rel => exact ⟨(y441), (wrap64 ((wrap64 (x1_1 + 1)) + 1)), (wrap64 (x5_1 + 1)), (by first | rfl | (simp; done) | (simp [*]; done) | (simp [ne_nil_b]; done) | (simp [ne_nil_b, *]; done)), (by first | rfl | (simp; done) | (simp [*]; done) | (simp [ne_nil_b]; done) | (simp [ne_nil_b, *]; done)), H', ⟨by have := HK1.out; omega⟩, ⟨by (with_reducible repeat (first | apply Kd.R_alloc | apply Kd.R_drewN | apply Kd.R_drew)); exact HO_0.out⟩, ⟨by repeat (first | (with_reducible first | exact HK.out | apply Kept.alloc | apply Kept.drewN | apply Kept.drew) | exact HK.out)⟩, ⟨by repeat (first | (with_reducible first | exact HB.out | apply below_alloc | apply pw_below_drewN | apply below_drew1) | exact HB.out)⟩⟩
        · rw [if_neg c4] at H
          exact absurd H (by simp)
      · rw [if_neg c3] at H
        have c3b0 : decide (x5_1 < (x0_1.length : Int)) = false := decide_eq_false c3
        clear c3
        simp only [Option.some.injEq, Prod.mk.injEq] at H
        obtain ⟨rfl, rfl⟩ := H
        obtain ⟨Ao12, co12, eo12⟩ := Kd.R_slice HO_0.out
        subst eo12
        go_wp2
        go_ret
        exact ⟨by first | rfl | (simp [errW_none, errW_some] <;> rfl) | (simp [*, errW_none, errW_some] <;> rfl), by (with_reducible repeat (first | apply Kd.R_alloc | apply Kd.R_drewN | apply Kd.R_drew)); exact HO_0.out, by repeat (first | (with_reducible first | exact HB.out | apply below_alloc | apply pw_below_drewN | apply below_drew1) | exact HB.out), by repeat (first | (with_reducible first | exact HK.out | apply Kept.alloc | apply Kept.drewN | apply Kept.drew) | exact HK.out)⟩
end
section
/-! ### laws_heldWordS: function 30 -/
def laws_heldWordS.l0 : Nat → List (S31) → Int → Int → Option (Int)
  | 0, _, _, _ => none
  | k + 1, x0, x1, x5 => if x5 < (x0.length : Int) then (if 0 ≤ x5 then (if ((rd_T31 x0 x5).f0) = x1 then (if ((rd_T31 x0 x5).f1) = (wrap64 (x1 + 1)) then (laws_heldWordS.l0 k x0 (wrap64 ((wrap64 (x1 + 1)) + 1)) (wrap64 (x5 + 1))) else (some (-1))) else (some (-1))) else (none)) else (some x1)
def laws_heldWordS.f (k : Nat) (l0 : List (S31)) (a1 : Int) : Option (Int) := laws_heldWordS.l0 k l0 a1 0
theorem laws_heldWordS.mono_l : ∀ k, (∀ y0 y1 y2, LeO (laws_heldWordS.l0 k y0 y1 y2) (laws_heldWordS.l0 (k + 1) y0 y1 y2))
  | 0 => fun _ _ _ r h => by simp [laws_heldWordS.l0] at h
  | k + 1 => by
    have ih0 := laws_heldWordS.mono_l k
    · intro y0 y1 y2
      unfold laws_heldWordS.l0
      repeat' first
      | (with_reducible exact ih0 _ _ _)
      | (with_reducible exact LeO.refl _)
      | (with_reducible exact LeO.none _)
      | (with_reducible refine LeO.ite ?_ ?_)
      | (with_reducible refine LeO.bind ?_ (fun _ => ?_))
      | exact ih0 _ _ _
      | exact LeO.none _
      | refine LeO.ite ?_ ?_
      | refine LeO.bind ?_ (fun _ => ?_)
theorem laws_heldWordS.mono : ∀ a0 a1 k, LeO (laws_heldWordS.f k a0 a1) (laws_heldWordS.f (k + 1) a0 a1) := by
  intro a0 a1 k
  have ih0 := laws_heldWordS.mono_l k
  unfold laws_heldWordS.f
  repeat' first
      | (with_reducible exact ih0 _ _ _)
      | (with_reducible exact LeO.refl _)
      | (with_reducible exact LeO.none _)
      | (with_reducible refine LeO.ite ?_ ?_)
      | (with_reducible refine LeO.bind ?_ (fun _ => ?_))
      | exact ih0 _ _ _
      | exact LeO.none _
      | refine LeO.ite ?_ ?_
      | refine LeO.bind ?_ (fun _ => ?_)
set_option maxHeartbeats 8000000 in
set_option maxRecDepth 100000 in
theorem laws_heldWordS.calls (k : Nat) (A0 : Option Addr) (c0 : Nat) (l0 : List (S31)) (a1 : Int) (r : Int) (w : World) (hr0 : Kd.C k31 w A0 l0.length l0) (hc0 : l0.length ≤ c0) (h : laws_heldWordS.f k l0 a1 = some r) :
    Calls Try.prog 30 #[.slice A0 l0.length c0, .int .i64 a1] w fun e w' => e = .returned (.int .i64 r) ∧ Drawn0 w w' := by
  have HR0 := Aside0.mk hr0
  have HC0 := Aside0.mk hc0
  clear hr0 hc0
  have H : (laws_heldWordS.l0 k l0 a1 0) = some r := h
  clear h
  have H' := Aside0.mk H
  clear H
  go_enter Try.func30, Try.ntmps30
  go_wp2
  go_loopg [1, 5] k (fun kq v1 v5 w' => ∃ (x1_1 : Int) (x5_1 : Int), v1 = .int .i64 x1_1 ∧ v5 = .int .i64 x5_1 ∧ Aside0 (laws_heldWordS.l0 kq l0 x1_1 x5_1 = some r) ∧ Aside0 (kq ≤ k) ∧ Drawn0 w w')
  case atStart => exact ⟨(a1), (0), (by first | rfl | (simp; done) | (simp [*]; done) | (simp [ne_nil_b]; done) | (simp [ne_nil_b, *]; done)), (by first | rfl | (simp; done) | (simp [*]; done) | (simp [ne_nil_b]; done) | (simp [ne_nil_b, *]; done)), H', ⟨Nat.le_refl _⟩, by repeat (first | exact Drawn0.refl _ | apply Drawn0.step)⟩
  case round =>
    clear H'
    try clear p2
    obtain ⟨x1_1, x5_1, rfl, rfl, HA, HK1, ⟨m1, rfl⟩⟩ := hrel
    cases gk with
    | zero => exact absurd HA.out (by simp [laws_heldWordS.l0])
    | succ k1 =>
      have H := HA.out
      clear HA
      simp only [laws_heldWordS.l0] at H
      by_cases c3 : x5_1 < (l0.length : Int)
      · rw [if_pos c3] at H
        have c3b0 : decide (x5_1 < (l0.length : Int)) = true := decide_eq_true c3
        clear c3
        by_cases c4 : 0 ≤ x5_1
        · rw [if_pos c4] at H
          have c4b0 : decide (0 ≤ x5_1) = true := decide_eq_true c4
          clear c4
          by_cases c5 : ((rd_T31 l0 x5_1).f0) = x1_1
          · rw [if_pos c5] at H
            have c5b0 : (((rd_T31 l0 x5_1).f0) == x1_1) = true := beq_iff_eq.mpr c5
            have c5b1 : (((rd_T31 l0 x5_1).f0) != x1_1) = false := bne_eq_false_iff_eq.mpr c5
            clear c5
            by_cases c6 : ((rd_T31 l0 x5_1).f1) = (wrap64 (x1_1 + 1))
            · rw [if_pos c6] at H
              have c6b0 : (((rd_T31 l0 x5_1).f1) == (wrap64 (x1_1 + 1))) = true := beq_iff_eq.mpr c6
              have c6b1 : (((rd_T31 l0 x5_1).f1) != (wrap64 (x1_1 + 1))) = false := bne_eq_false_iff_eq.mpr c6
              clear c6
              have H' := Aside0.mk H
              clear H
              have p442 : 0 ≤ (x5_1 : Int) := of_decide_eq_true (by first | (with_reducible assumption) | assumption)
              have q442 : x5_1 < (l0.length : Int) := of_decide_eq_true (by first | (with_reducible assumption) | assumption)
              obtain ⟨ad442, e442, hx442_0, hx442_1⟩ := at_T31 HR0.out x5_1 p442 q442
              cases e442
              replace p442 := eq_true p442
              replace q442 := eq_true q442
              have p443 : 0 ≤ (x5_1 : Int) := of_decide_eq_true (by first | (with_reducible assumption) | assumption)
              have q443 : x5_1 < (l0.length : Int) := of_decide_eq_true (by first | (with_reducible assumption) | assumption)
              obtain ⟨ad443, e443, hx443_0, hx443_1⟩ := at_T31 HR0.out x5_1 p443 q443
              obtain rfl : ad442 = ad443 := (by injection e443)
              replace p443 := eq_true p443
              replace q443 := eq_true q443
              go_wp2
              go_roundg k1
              case measure => have := HK1.out; omega
              case rel => exact ⟨(wrap64 ((wrap64 (x1_1 + 1)) + 1)), (wrap64 (x5_1 + 1)), (by first | rfl | (simp; done) | (simp [*]; done) | (simp [ne_nil_b]; done) | (simp [ne_nil_b, *]; done)), (by first | rfl | (simp; done) | (simp [*]; done) | (simp [ne_nil_b]; done) | (simp [ne_nil_b, *]; done)), H', ⟨by have := HK1.out; omega⟩, by repeat (first | exact Drawn0.refl _ | apply Drawn0.step)⟩
            · rw [if_neg c6] at H
              have c6b0 : (((rd_T31 l0 x5_1).f1) == (wrap64 (x1_1 + 1))) = false := beq_eq_false_iff_ne.mpr c6
              have c6b1 : (((rd_T31 l0 x5_1).f1) != (wrap64 (x1_1 + 1))) = true := bne_iff_ne.mpr c6
              obtain rfl := Option.some.inj H
              have p442 : 0 ≤ (x5_1 : Int) := of_decide_eq_true (by first | (with_reducible assumption) | assumption)
              have q442 : x5_1 < (l0.length : Int) := of_decide_eq_true (by first | (with_reducible assumption) | assumption)
              obtain ⟨ad442, e442, hx442_0, hx442_1⟩ := at_T31 HR0.out x5_1 p442 q442
              cases e442
              replace p442 := eq_true p442
              replace q442 := eq_true q442
              have p443 : 0 ≤ (x5_1 : Int) := of_decide_eq_true (by first | (with_reducible assumption) | assumption)
              have q443 : x5_1 < (l0.length : Int) := of_decide_eq_true (by first | (with_reducible assumption) | assumption)
              obtain ⟨ad443, e443, hx443_0, hx443_1⟩ := at_T31 HR0.out x5_1 p443 q443
              obtain rfl : ad442 = ad443 := (by injection e443)
              replace p443 := eq_true p443
              replace q443 := eq_true q443
              go_wp2
              go_ret
              exact ⟨by first | rfl | (simp; done) | (simp [*]; done) | (simp [ne_nil_b]; done) | (simp [ne_nil_b, *]; done), by repeat (first | exact Drawn0.refl _ | apply Drawn0.step)⟩
          · rw [if_neg c5] at H
            have c5b0 : (((rd_T31 l0 x5_1).f0) == x1_1) = false := beq_eq_false_iff_ne.mpr c5
            have c5b1 : (((rd_T31 l0 x5_1).f0) != x1_1) = true := bne_iff_ne.mpr c5
            obtain rfl := Option.some.inj H
            have p442 : 0 ≤ (x5_1 : Int) := of_decide_eq_true (by first | (with_reducible assumption) | assumption)
            have q442 : x5_1 < (l0.length : Int) := of_decide_eq_true (by first | (with_reducible assumption) | assumption)
            obtain ⟨ad442, e442, hx442_0, hx442_1⟩ := at_T31 HR0.out x5_1 p442 q442
            cases e442
            replace p442 := eq_true p442
            replace q442 := eq_true q442
            go_wp2
            go_ret
            exact ⟨by first | rfl | (simp; done) | (simp [*]; done) | (simp [ne_nil_b]; done) | (simp [ne_nil_b, *]; done), by repeat (first | exact Drawn0.refl _ | apply Drawn0.step)⟩
        · rw [if_neg c4] at H
          exact absurd H (by simp)
      · rw [if_neg c3] at H
        have c3b0 : decide (x5_1 < (l0.length : Int)) = false := decide_eq_false c3
        clear c3
        obtain rfl := Option.some.inj H
        go_wp2
        go_ret
        exact ⟨by first | rfl | (simp; done) | (simp [*]; done) | (simp [ne_nil_b]; done) | (simp [ne_nil_b, *]; done), by repeat (first | exact Drawn0.refl _ | apply Drawn0.step)⟩
end
end Go.Proofs.Ytcakbenoaclbkaa.X
