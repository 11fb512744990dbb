/- Texts that the row of FnExactEndMoved stands on: functions of the program and of the reference, each as a Lean function with the same answers, and the plain lemmas. Conditions: none beside those that each theorem names. -/
import Derived.Test.YtkklokkldgkacaaGreatCFnExactEndMoved12
namespace Go.Proofs.YtkklokkldgkacaaGreat.X
open Go.RowKit Go.Proofs.YtkklokkldgkacaaGreatW.PrintWords Go.Proofs.YtkklokkldgkacaaGreatW.PrintLast Go.Proofs.YtkklokkldgkacaaGreatW.PrintMore
attribute [local go_sem] max2_int min2_int max_two min_two max_three min_three max_four min_four   -- for this text's walks alone
set_option linter.unusedVariables false
set_option linter.unusedSimpArgs false
section
-- NEEDS laws.eqConfig laws.markText
structure ButS (S : Nat → Prop) (w W : World) : Prop where
  os : W.os = w.os
  tape : W.tape = w.tape
  output : W.output = w.output
  size : w.heap.size ≤ W.heap.size
  block : ∀ b : Nat, b < w.heap.size → ¬ S b → W.heap[b]? = w.heap[b]?
  shape : ∀ (b : Nat) (cur : Array Value) (e : TypeId), w.heap[b]? = some (Obj.cells cur e (0, 0)) → ∃ cur' : Array Value, W.heap[b]? = some (Obj.cells cur' e (0, 0)) ∧ cur'.size = cur.size
theorem ButS.refl (S : Nat → Prop) (w : World) : ButS S w w := ⟨rfl, rfl, rfl, Nat.le_refl _, fun _ _ _ => rfl, fun _ cur _ h => ⟨cur, h, rfl⟩⟩
theorem ButS.trans {S : Nat → Prop} {a b c : World} (h : ButS S a b) (k : ButS S b c) : ButS S a c :=
  ⟨k.os.trans h.os, k.tape.trans h.tape, k.output.trans h.output, Nat.le_trans h.size k.size, fun i hi hs => (k.block i (Nat.lt_of_lt_of_le hi h.size) hs).trans (h.block i hi hs), fun i cur e hc => by
    obtain ⟨c1, h1, s1⟩ := h.shape i cur e hc
    obtain ⟨c2, h2, s2⟩ := k.shape i c1 e h1
    exact ⟨c2, h2, s2.trans s1⟩⟩
theorem ButS.of {S : Nat → Prop} {w W : World} (hb : Below w.heap.size w W) : ButS S w W :=
  ⟨hb.os, hb.tape, hb.output, hb.size, fun b h _ => hb.block b h, fun b cur e h => ⟨cur, (hb.block b (blk_lt h)).trans h, rfl⟩⟩
theorem ButS.mono {S T : Nat → Prop} {w W : World} (h : ButS S w W) (hst : ∀ b, S b → T b) : ButS T w W := ⟨h.os, h.tape, h.output, h.size, fun b hb ht => h.block b hb (fun hs => ht (hst b hs)), h.shape⟩
theorem ButS.set {S : Nat → Prop} {w : World} {g e : Nat} {cur : Array Value} (h : w.heap[g]? = some (.cells cur e (0, 0))) (hg : S g) (p : Nat) (u : Value) : ButS S w (w.setCell ⟨g, p, none⟩ u) :=
  ⟨rfl, rfl, rfl, by simp [World.setCell], fun b _ hs => Below.heap_setCell w ⟨g, p, none⟩ u b (fun he => hs (by rw [he]; exact hg)), fun b c2 e2 hb => by
    by_cases hbg : b = g
    · subst hbg
      rw [h] at hb
      injection hb with hb
      injection hb with h1 h2 _
      subst h1 h2
      exact ⟨_, blk_put h p u rfl, by simp⟩
    · exact ⟨c2, (Below.heap_setCell w ⟨g, p, none⟩ u b hbg).trans hb, rfl⟩⟩
/-- The block g: cells of type e, s of them, of which the first p hold what 'mv' says. -/
def Filled (w : World) (g e s : Nat) (mv : Nat → Value) (p : Nat) : Prop := ∃ cur : Array Value, w.heap[g]? = some (.cells cur e (0, 0)) ∧ cur.size = s ∧ ∀ q, q < p → cur[q]? = some (mv q)
theorem Filled.start {w : World} {g e : Nat} {cur : Array Value} (h : w.heap[g]? = some (.cells cur e (0, 0))) (mv : Nat → Value) : Filled w g e cur.size mv 0 := ⟨cur, h, rfl, fun q hq => absurd hq (Nat.not_lt_zero _)⟩
theorem Filled.below {w W : World} {g e s p : Nat} {mv : Nat → Value} (h : Filled w g e s mv p) (hb : Below w.heap.size w W) : Filled W g e s mv p := by
  obtain ⟨cur, h1, h2, h3⟩ := h
  exact ⟨cur, blk_below h1 hb, h2, h3⟩
theorem Filled.but {S : Nat → Prop} {w W : World} {g e s p : Nat} {mv : Nat → Value} (h : Filled w g e s mv p) (hb : ButS S w W) (hg : ¬ S g) : Filled W g e s mv p := by
  obtain ⟨cur, h1, h2, h3⟩ := h
  exact ⟨cur, (hb.block g (blk_lt h1) hg).trans h1, h2, h3⟩
theorem Filled.cell {w : World} {g e s p : Nat} {mv : Nat → Value} (h : Filled w g e s mv p) (q : Nat) (hq : q < p) : w.cell? ⟨g, q, none⟩ = some (mv q) := by
  obtain ⟨cur, h1, h2, h3⟩ := h
  rw [blk_cell h1]; exact h3 q hq
theorem Filled.lt {w : World} {g e s p : Nat} {mv : Nat → Value} (h : Filled w g e s mv p) : g < w.heap.size := by
  obtain ⟨cur, h1, _⟩ := h
  exact blk_lt h1
theorem Filled.put {S : Nat → Prop} {w : World} {g e s p : Nat} {mv : Nat → Value} (h : Filled w g e s mv p) (hp : p < s) (hg : S g) : Filled (w.setCell ⟨g, p, none⟩ (mv p)) g e s mv (p + 1) ∧ ButS S w (w.setCell ⟨g, p, none⟩ (mv p)) := by
  obtain ⟨cur, h1, h2, h3⟩ := h
  refine ⟨⟨_, blk_put h1 p _ rfl, by simpa using h2, fun q hq => ?_⟩, ButS.set h1 hg p _⟩
  rw [Array.getElem?_setIfInBounds]
  split
  · next he => subst he; rw [if_pos (by omega)]
  · exact h3 q (by omega)
theorem raw_fill {P : Program} {ops : Array Oper} {rest : List Oper} {o : Oper} {a : Act} {Q : Exit → Act → World → Prop} {S : Nat → Prop} {W : World} {g e s p : Nat} {mv : Nat → Value} (hN : o.dst = none) (hgd : o.guard = none) (t : TypeId) (pp x : Operand) (ho : o.op = .store t pp x) (HX : Filled W g e s mv p) (hg : S g) {o' : Nat} (haddr : a.eval pp = .pointer (some ⟨g, o', none⟩)) (ho' : o' = p) (hx : a.eval x = mv p) (hu : (mv p).cells.toList = [mv p]) (h1 : (mv p).oneCell' = true) (ht : (P.info? t).map (·.size) = some 1) (hp : p < s)
    (h : ∀ w1, Filled w1 g e s mv (p + 1) → ButS S W w1 → wpList P ops Q rest a w1) : wpList P ops Q (o :: rest) a W := by
  subst ho'
  obtain ⟨hf, hb⟩ := Filled.put (S := S) HX hp hg
  obtain ⟨cur, hh, hs, _⟩ := HX
  refine wpList_plain hgd fun K hK => ?_
  have hrun : (Instr.storeAt t (.pointer (some ⟨g, o', none⟩)) (mv o')).run P W = .ok () (W.setCells g o' [mv o']) := run_store_run t _ _ hh hu (by rw [ht]; rfl) (by rw [hs]; exact hp) (by intro q hq; rw [List.mem_singleton.1 hq]; exact h1)
  unfold Oper.wp execOp
  simp only [ho, haddr, hx, Sem.run_bind, Sem.run_pure, Result.andThen_ok, hrun]
  show K (a.put o.dst undef) _
  rw [hN]
  exact hK _ _ (h _ hf hb)
theorem strOfNums_one (v : Int) : (strOfNums [v]).size = 1 := strOfNums_size [v]
theorem mt_l0 : ∀ (n : Nat) (k : Int) (out : ByteArray), 0 ≤ k → k ≤ 4611686018427387904 → k < 10 ^ n → out.size + n + 1 ≤ 4611686018427387904 → ∃ r, laws_markText.l0 (n + 1) k out = some r
  | 0, k, out, h0, hk2, h1, h2 => by
    rw [laws_markText.l0, if_neg (by omega), if_pos (by omega)]
    exact ⟨_, rfl⟩
  | n + 1, k, out, h0, hk2, h1, h2 => by
    rw [laws_markText.l0]
    by_cases hk : k > 0
    · rw [if_pos hk]
      simp only [Option.bind_some]
      rw [strOfNums_one, if_pos (by omega)]
      have hw : wrap64 (Int.tdiv k 10) = k / 10 := by
        rw [Int.tdiv_eq_ediv_of_nonneg h0, wrap64]; omega
      rw [hw]
      exact mt_l0 n (k / 10) _ (by omega) (by omega) (by rw [Int.pow_succ] at h1; omega) (by rw [ByteArray.size_append, strOfNums_one]; omega)
    · rw [if_neg hk, if_pos (by omega)]
      exact ⟨_, rfl⟩
open Classical in
noncomputable def mt (k : Int) : ByteArray := if h : ∃ r, laws_markText.f 20 k = some r then h.choose else ⟨#[]⟩
theorem mt_f (k : Int) (h0 : 0 ≤ k) (h1 : k ≤ 1152921504606846976) : laws_markText.f 20 k = some (mt k) := by
  have h : ∃ r, laws_markText.f 20 k = some r := by
    rw [laws_markText.f]
    split
    · exact ⟨_, rfl⟩
    · exact mt_l0 19 k ⟨#[]⟩ h0 (by omega) (by omega) (by decide)
  rw [mt, dif_pos h]
  exact h.choose_spec
theorem markText1 (k : Int) (w : World) (h0 : 0 ≤ k) (h1 : k ≤ 1152921504606846976) : Calls Tryz.prog 127 #[.int .i64 k] w fun e w' => e = .returned (.string (mt k)) ∧ Below w.heap.size w w' := laws_markText.calls 20 k (mt k) w (mt_f k h0 h1)
noncomputable def mvUser (k : Int) (p : Nat) : Value := match p % 6 with
  | 0 => .string (mt (k + p))
  | 1 => .string (mt (k + p))
  | 2 => .string (mt (k + p))
  | 3 => .string (mt (k + p))
  | 4 => .int .i64 (k + p)
  | _ => .int .i64 (k + p)
theorem mvUser_0 (k : Int) (i : Nat) (x : Int) (hx : x = k + i * 6) : mvUser k (i * 6 + 0) = .string (mt (x)) := by
  have h : (i * 6 + 0) % 6 = 0 := by omega
  have e : k + ((i * 6 + 0 : Nat) : Int) = x := by rw [hx]; push_cast; omega
  simp only [mvUser, h, e]
theorem mvUser_1 (k : Int) (i : Nat) (x : Int) (hx : x = k + i * 6) : mvUser k (i * 6 + 1) = .string (mt (x + 1)) := by
  have h : (i * 6 + 1) % 6 = 1 := by omega
  have e : k + ((i * 6 + 1 : Nat) : Int) = x + 1 := by rw [hx]; push_cast; omega
  simp only [mvUser, h, e]
theorem mvUser_2 (k : Int) (i : Nat) (x : Int) (hx : x = k + i * 6) : mvUser k (i * 6 + 2) = .string (mt (x + 1 + 1)) := by
  have h : (i * 6 + 2) % 6 = 2 := by omega
  have e : k + ((i * 6 + 2 : Nat) : Int) = x + 1 + 1 := by rw [hx]; push_cast; omega
  simp only [mvUser, h, e]
theorem mvUser_3 (k : Int) (i : Nat) (x : Int) (hx : x = k + i * 6) : mvUser k (i * 6 + 3) = .string (mt (x + 1 + 1 + 1)) := by
  have h : (i * 6 + 3) % 6 = 3 := by omega
  have e : k + ((i * 6 + 3 : Nat) : Int) = x + 1 + 1 + 1 := by rw [hx]; push_cast; omega
  simp only [mvUser, h, e]
theorem mvUser_4 (k : Int) (i : Nat) (x : Int) (hx : x = k + i * 6) : mvUser k (i * 6 + 4) = .int .i64 (x + 1 + 1 + 1 + 1) := by
  have h : (i * 6 + 4) % 6 = 4 := by omega
  have e : k + ((i * 6 + 4 : Nat) : Int) = x + 1 + 1 + 1 + 1 := by rw [hx]; push_cast; omega
  simp only [mvUser, h, e]
theorem mvUser_5 (k : Int) (i : Nat) (x : Int) (hx : x = k + i * 6) : mvUser k (i * 6 + 5) = .int .i64 (x + 1 + 1 + 1 + 1 + 1) := by
  have h : (i * 6 + 5) % 6 = 5 := by omega
  have e : k + ((i * 6 + 5 : Nat) : Int) = x + 1 + 1 + 1 + 1 + 1 := by rw [hx]; push_cast; omega
  simp only [mvUser, h, e]
set_option maxHeartbeats 8000000 in
set_option maxRecDepth 100000 in
theorem markUser1 {S : Nat → Prop} (g s n c : Nat) (k : Int) (w : World) (HX : Filled w g 92 s (mvUser k) 0) (hg : S g) (hn : n * 6 ≤ s) (hz : n * 6 ≤ 1152921504606846) (k0 : 0 ≤ k) (k1 : k ≤ 1152921504606846) :
    Calls Tryz.prog 73 #[.slice (some ⟨g, 0, none⟩) n c, .int .i64 k] w fun e w' => e = .returned (.int .i64 (k + n * 6)) ∧ Filled w' g 92 s (mvUser k) (n * 6) ∧ ButS S w w' := by
  have HX := Aside0.mk HX
  have HG := Aside0.mk hg
  have HT := Aside0.mk (ButS.refl S w)
  clear hg
  go_enter Tryz.func73, Tryz.ntmps73
  go_wp2
  go_loopg [1, 5] n (fun gg v1 v5 w' => ∃ i : Int, v1 = .int .i64 (k + i * 6) ∧ v5 = .int .i64 i ∧ 0 ≤ i ∧ i ≤ n ∧ n - i ≤ gg ∧ Aside0 (Filled w' g 92 s (mvUser k) (i.toNat * 6)) ∧ Aside0 (ButS S w w'))
  case atStart => exact ⟨0, by rw [Int.zero_mul, Int.add_zero], rfl, by omega, by omega, by omega, ⟨by rw [show (0 : Int).toNat * 6 = 0 from by decide]; exact HX.out⟩, HT⟩
  case round =>
    clear HX HT
    obtain ⟨i, rfl, rfl, hi0, hi, hgg, HX, HT⟩ := hrel
    by_cases hlt : i < n
    · have hm : i.toNat * 6 + 6 ≤ s := by omega
      have hxx := Aside0.mk (show k + i * 6 = k + (i.toNat : Int) * 6 by omega)
      go_wp2_with (first
        | ((with_reducible refine gate_store rfl ?_); (refine raw_fill (p := i.toNat * 6 + 0) rfl rfl _ _ _ rfl HX.out HG.out rfl (by first | rfl | (simp; done) | (simp; omega) | omega) (by rw [mvUser_0 k i.toNat _ hxx.out]; rfl) (by rw [mvUser_0 k i.toNat _ hxx.out]; rfl) (by rw [mvUser_0 k i.toNat _ hxx.out]; rfl) (by kernel_rfl) (by omega) ?_; intro w3 hf hb; clear HX; have HX := Aside0.mk hf; have n_ := Aside0.mk (HT.out.trans hb); clear HT; have HT := n_; clear n_ hf hb))
        | ((with_reducible refine gate_store rfl ?_); (refine raw_fill (p := i.toNat * 6 + 1) rfl rfl _ _ _ rfl HX.out HG.out rfl (by first | rfl | (simp; done) | (simp; omega) | omega) (by rw [mvUser_1 k i.toNat _ hxx.out]; rfl) (by rw [mvUser_1 k i.toNat _ hxx.out]; rfl) (by rw [mvUser_1 k i.toNat _ hxx.out]; rfl) (by kernel_rfl) (by omega) ?_; intro w3 hf hb; clear HX; have HX := Aside0.mk hf; have n_ := Aside0.mk (HT.out.trans hb); clear HT; have HT := n_; clear n_ hf hb))
        | ((with_reducible refine gate_store rfl ?_); (refine raw_fill (p := i.toNat * 6 + 2) rfl rfl _ _ _ rfl HX.out HG.out rfl (by first | rfl | (simp; done) | (simp; omega) | omega) (by rw [mvUser_2 k i.toNat _ hxx.out]; rfl) (by rw [mvUser_2 k i.toNat _ hxx.out]; rfl) (by rw [mvUser_2 k i.toNat _ hxx.out]; rfl) (by kernel_rfl) (by omega) ?_; intro w3 hf hb; clear HX; have HX := Aside0.mk hf; have n_ := Aside0.mk (HT.out.trans hb); clear HT; have HT := n_; clear n_ hf hb))
        | ((with_reducible refine gate_store rfl ?_); (refine raw_fill (p := i.toNat * 6 + 3) rfl rfl _ _ _ rfl HX.out HG.out rfl (by first | rfl | (simp; done) | (simp; omega) | omega) (by rw [mvUser_3 k i.toNat _ hxx.out]; rfl) (by rw [mvUser_3 k i.toNat _ hxx.out]; rfl) (by rw [mvUser_3 k i.toNat _ hxx.out]; rfl) (by kernel_rfl) (by omega) ?_; intro w3 hf hb; clear HX; have HX := Aside0.mk hf; have n_ := Aside0.mk (HT.out.trans hb); clear HT; have HT := n_; clear n_ hf hb))
        | ((with_reducible refine gate_store rfl ?_); (refine raw_fill (p := i.toNat * 6 + 4) rfl rfl _ _ _ rfl HX.out HG.out rfl (by first | rfl | (simp; done) | (simp; omega) | omega) (by rw [mvUser_4 k i.toNat _ hxx.out]; rfl) (by rw [mvUser_4 k i.toNat _ hxx.out]; rfl) (by rw [mvUser_4 k i.toNat _ hxx.out]; rfl) (by kernel_rfl) (by omega) ?_; intro w3 hf hb; clear HX; have HX := Aside0.mk hf; have n_ := Aside0.mk (HT.out.trans hb); clear HT; have HT := n_; clear n_ hf hb))
        | ((with_reducible refine gate_store rfl ?_); (refine raw_fill (p := i.toNat * 6 + 5) rfl rfl _ _ _ rfl HX.out HG.out rfl (by first | rfl | (simp; done) | (simp; omega) | omega) (by rw [mvUser_5 k i.toNat _ hxx.out]; rfl) (by rw [mvUser_5 k i.toNat _ hxx.out]; rfl) (by rw [mvUser_5 k i.toNat _ hxx.out]; rfl) (by kernel_rfl) (by omega) ?_; intro w3 hf hb; clear HX; have HX := Aside0.mk hf; have n_ := Aside0.mk (HT.out.trans hb); clear HT; have HT := n_; clear n_ hf hb))
        | (go_at_call 127; refine (markText1 _ _ (by omega) (by omega)).mono ?_; rintro e w2 ⟨rfl, hb⟩; have n_ := Aside0.mk (HX.out.below hb); clear HX; have HX := n_; clear n_; have n_ := Aside0.mk (HT.out.trans (ButS.of hb)); clear HT; have HT := n_; clear n_ hb))
      go_roundg (n - (i + 1)).toNat
      case measure => omega
      case rel => exact ⟨i + 1, by congr 1; omega, rfl, by omega, by omega, by omega, ⟨by rw [show (i + 1).toNat * 6 = i.toNat * 6 + 6 by omega]; exact HX.out⟩, HT⟩
    · obtain rfl : i = n := by omega
      go_wp2
      go_ret
      exact ⟨rfl, by rw [Int.toNat_natCast] at HX; exact HX.out, HT.out⟩
set_option maxHeartbeats 8000000 in
set_option maxRecDepth 100000 in
theorem heldUser1 (g s n c : Nat) (k : Int) (w : World) (HX : Filled w g 92 s (mvUser k) (n * 6)) (hn : n * 6 ≤ s) (hz : n * 6 ≤ 1152921504606846) (k0 : 0 ≤ k) (k1 : k ≤ 1152921504606846) :
    Calls Tryz.prog 77 #[.slice (some ⟨g, 0, none⟩) n c, .int .i64 k] w fun e w' => e = .returned (.int .i64 (k + n * 6)) ∧ Below w.heap.size w w' := by
  have HX := Aside0.mk HX
  have HB := Aside0.mk (Below.refl w.heap.size w)
  go_enter Tryz.func77, Tryz.ntmps77
  go_wp2
  go_loopg [1, 5] n (fun gg v1 v5 w' => ∃ i : Int, v1 = .int .i64 (k + i * 6) ∧ v5 = .int .i64 i ∧ 0 ≤ i ∧ i ≤ n ∧ n - i ≤ gg ∧ Aside0 (Below w.heap.size w w'))
  case atStart => exact ⟨0, by rw [Int.zero_mul, Int.add_zero], rfl, by omega, by omega, by omega, HB⟩
  case round =>
    clear HB
    obtain ⟨i, rfl, rfl, hi0, hi, hgg, HB⟩ := hrel
    by_cases hlt : i < n
    · have hm : i.toNat * 6 + 6 ≤ n * 6 := by omega
      have hxx := Aside0.mk (show k + i * 6 = k + (i.toNat : Int) * 6 by omega)
      go_wp2
      have qv0 := Aside0.mk (((HX.out.below HB.out).cell (i.toNat * 6 + 0) (by omega)).trans (congrArg some (mvUser_0 k i.toNat _ hxx.out)))
      refine qS (fun w' => w'.cell? ⟨g, i.toNat * 6, none⟩ = some (.string (mt (k + i * 6)))) 8 (qv0.out) (fun hs => ?_)
      have n_ := Aside0.mk (below_drew1 HB.out)
      clear HB
      have HB := n_
      clear n_
      refine qP 0 12 ?_
      refine qP 1 13 ?_
      refine qP 2 14 ?_
      refine qP 3 15 ?_
      refine qP 5 17 ?_
      refine qT 4 16 hs ?_
      refine q1 6 18 (fun K hK => ?_)
      refine qC Tryz.func127 _ ?_
      refine (markText1 _ _ (by omega) (by omega)).mono ?_
      intro e w2 h2
      obtain ⟨rfl, hb⟩ := h2
      have n_ := Aside0.mk (below_step HB.out hb)
      clear HB
      have HB := n_
      clear n_
      refine ⟨_, rfl, hK.out _ _ (pw_cell_below hb hs) (fun hs2 => ?_)⟩
      clear hK K hs hb
      have hs := hs2
      clear hs2
      refine qN ?_
      refine qP 7 19 ?_
      refine qD ?_
      clear hs
      clear qv0
      go_wp2
      have qv1 := Aside0.mk (((HX.out.below HB.out).cell (i.toNat * 6 + 1) (by omega)).trans (congrArg some (mvUser_1 k i.toNat _ hxx.out)))
      refine qS (fun w' => w'.cell? ⟨g, i.toNat * 6 + 1, none⟩ = some (.string (mt (k + i * 6 + 1)))) 8 (qv1.out) (fun hs => ?_)
      have n_ := Aside0.mk (below_drew1 HB.out)
      clear HB
      have HB := n_
      clear n_
      refine qP 0 22 ?_
      refine qP 1 23 ?_
      refine qP 2 24 ?_
      refine qP 3 25 ?_
      refine qP 5 27 ?_
      refine qT 4 26 hs ?_
      refine q1 6 28 (fun K hK => ?_)
      refine qC Tryz.func127 _ ?_
      refine (markText1 _ _ (by omega) (by omega)).mono ?_
      intro e w2 h2
      obtain ⟨rfl, hb⟩ := h2
      have n_ := Aside0.mk (below_step HB.out hb)
      clear HB
      have HB := n_
      clear n_
      refine ⟨_, rfl, hK.out _ _ (pw_cell_below hb hs) (fun hs2 => ?_)⟩
      clear hK K hs hb
      have hs := hs2
      clear hs2
      refine qN ?_
      refine qP 7 29 ?_
      refine qD ?_
      clear hs
      clear qv1
      go_wp2
      have qv2 := Aside0.mk (((HX.out.below HB.out).cell (i.toNat * 6 + 2) (by omega)).trans (congrArg some (mvUser_2 k i.toNat _ hxx.out)))
      refine qS (fun w' => w'.cell? ⟨g, i.toNat * 6 + 2, none⟩ = some (.string (mt (k + i * 6 + 1 + 1)))) 8 (qv2.out) (fun hs => ?_)
      have n_ := Aside0.mk (below_drew1 HB.out)
      clear HB
      have HB := n_
      clear n_
      refine qP 0 32 ?_
      refine qP 1 33 ?_
      refine qP 2 34 ?_
      refine qP 3 35 ?_
      refine qP 5 37 ?_
      refine qT 4 36 hs ?_
      refine q1 6 38 (fun K hK => ?_)
      refine qC Tryz.func127 _ ?_
      refine (markText1 _ _ (by omega) (by omega)).mono ?_
      intro e w2 h2
      obtain ⟨rfl, hb⟩ := h2
      have n_ := Aside0.mk (below_step HB.out hb)
      clear HB
      have HB := n_
      clear n_
      refine ⟨_, rfl, hK.out _ _ (pw_cell_below hb hs) (fun hs2 => ?_)⟩
      clear hK K hs hb
      have hs := hs2
      clear hs2
      refine qN ?_
      refine qP 7 39 ?_
      refine qD ?_
      clear hs
      clear qv2
      go_wp2
      have qv3 := Aside0.mk (((HX.out.below HB.out).cell (i.toNat * 6 + 3) (by omega)).trans (congrArg some (mvUser_3 k i.toNat _ hxx.out)))
      refine qS (fun w' => w'.cell? ⟨g, i.toNat * 6 + 3, none⟩ = some (.string (mt (k + i * 6 + 1 + 1 + 1)))) 8 (qv3.out) (fun hs => ?_)
      have n_ := Aside0.mk (below_drew1 HB.out)
      clear HB
      have HB := n_
      clear n_
      refine qP 0 42 ?_
      refine qP 1 43 ?_
      refine qP 2 44 ?_
      refine qP 3 45 ?_
      refine qP 5 47 ?_
      refine qT 4 46 hs ?_
      refine q1 6 48 (fun K hK => ?_)
      refine qC Tryz.func127 _ ?_
      refine (markText1 _ _ (by omega) (by omega)).mono ?_
      intro e w2 h2
      obtain ⟨rfl, hb⟩ := h2
      have n_ := Aside0.mk (below_step HB.out hb)
      clear HB
      have HB := n_
      clear n_
      refine ⟨_, rfl, hK.out _ _ (pw_cell_below hb hs) (fun hs2 => ?_)⟩
      clear hK K hs hb
      have hs := hs2
      clear hs2
      refine qN ?_
      refine qP 7 49 ?_
      refine qD ?_
      clear hs
      clear qv3
      have qv4 := Aside0.mk (((HX.out.below HB.out).cell (i.toNat * 6 + 4) (by omega)).trans (congrArg some (mvUser_4 k i.toNat _ hxx.out)))
      have r4 := qv4.out
      clear qv4
      have qv5 := Aside0.mk (((HX.out.below HB.out).cell (i.toNat * 6 + 5) (by omega)).trans (congrArg some (mvUser_5 k i.toNat _ hxx.out)))
      have r5 := qv5.out
      clear qv5
      go_wp2
      clear r4
      clear r5
      go_roundg (n - (i + 1)).toNat
      case measure => omega
      case rel => exact ⟨i + 1, by congr 1; omega, rfl, by omega, by omega, by omega, HB⟩
    · obtain rfl : i = n := by omega
      go_wp2
      go_ret
      exact ⟨rfl, HB.out⟩
noncomputable def mvSession (k : Int) (p : Nat) : Value := match p % 10 with
  | 0 => .int .i64 (k + p)
  | 1 => .int .i64 (k + p)
  | 2 => .string (mt (k + p))
  | 3 => .int .i64 (k + p)
  | 4 => .int .i64 (k + p)
  | 5 => .int .i64 (k + p)
  | 6 => .int .i64 (k + p)
  | 7 => .int .i64 (k + p)
  | 8 => .int .i64 (k + p)
  | _ => .int .i64 (k + p)
theorem mvSession_0 (k : Int) (i : Nat) (x : Int) (hx : x = k + i * 10) : mvSession k (i * 10 + 0) = .int .i64 (x) := by
  have h : (i * 10 + 0) % 10 = 0 := by omega
  have e : k + ((i * 10 + 0 : Nat) : Int) = x := by rw [hx]; push_cast; omega
  simp only [mvSession, h, e]
theorem mvSession_1 (k : Int) (i : Nat) (x : Int) (hx : x = k + i * 10) : mvSession k (i * 10 + 1) = .int .i64 (x + 1) := by
  have h : (i * 10 + 1) % 10 = 1 := by omega
  have e : k + ((i * 10 + 1 : Nat) : Int) = x + 1 := by rw [hx]; push_cast; omega
  simp only [mvSession, h, e]
theorem mvSession_2 (k : Int) (i : Nat) (x : Int) (hx : x = k + i * 10) : mvSession k (i * 10 + 2) = .string (mt (x + 1 + 1)) := by
  have h : (i * 10 + 2) % 10 = 2 := by omega
  have e : k + ((i * 10 + 2 : Nat) : Int) = x + 1 + 1 := by rw [hx]; push_cast; omega
  simp only [mvSession, h, e]
theorem mvSession_3 (k : Int) (i : Nat) (x : Int) (hx : x = k + i * 10) : mvSession k (i * 10 + 3) = .int .i64 (x + 1 + 1 + 1) := by
  have h : (i * 10 + 3) % 10 = 3 := by omega
  have e : k + ((i * 10 + 3 : Nat) : Int) = x + 1 + 1 + 1 := by rw [hx]; push_cast; omega
  simp only [mvSession, h, e]
theorem mvSession_4 (k : Int) (i : Nat) (x : Int) (hx : x = k + i * 10) : mvSession k (i * 10 + 4) = .int .i64 (x + 1 + 1 + 1 + 1) := by
  have h : (i * 10 + 4) % 10 = 4 := by omega
  have e : k + ((i * 10 + 4 : Nat) : Int) = x + 1 + 1 + 1 + 1 := by rw [hx]; push_cast; omega
  simp only [mvSession, h, e]
theorem mvSession_5 (k : Int) (i : Nat) (x : Int) (hx : x = k + i * 10) : mvSession k (i * 10 + 5) = .int .i64 (x + 1 + 1 + 1 + 1 + 1) := by
  have h : (i * 10 + 5) % 10 = 5 := by omega
  have e : k + ((i * 10 + 5 : Nat) : Int) = x + 1 + 1 + 1 + 1 + 1 := by rw [hx]; push_cast; omega
  simp only [mvSession, h, e]
theorem mvSession_6 (k : Int) (i : Nat) (x : Int) (hx : x = k + i * 10) : mvSession k (i * 10 + 6) = .int .i64 (x + 1 + 1 + 1 + 1 + 1 + 1) := by
  have h : (i * 10 + 6) % 10 = 6 := by omega
  have e : k + ((i * 10 + 6 : Nat) : Int) = x + 1 + 1 + 1 + 1 + 1 + 1 := by rw [hx]; push_cast; omega
  simp only [mvSession, h, e]
theorem mvSession_7 (k : Int) (i : Nat) (x : Int) (hx : x = k + i * 10) : mvSession k (i * 10 + 7) = .int .i64 (x + 1 + 1 + 1 + 1 + 1 + 1 + 1) := by
  have h : (i * 10 + 7) % 10 = 7 := by omega
  have e : k + ((i * 10 + 7 : Nat) : Int) = x + 1 + 1 + 1 + 1 + 1 + 1 + 1 := by rw [hx]; push_cast; omega
  simp only [mvSession, h, e]
theorem mvSession_8 (k : Int) (i : Nat) (x : Int) (hx : x = k + i * 10) : mvSession k (i * 10 + 8) = .int .i64 (x + 1 + 1 + 1 + 1 + 1 + 1 + 1 + 1) := by
  have h : (i * 10 + 8) % 10 = 8 := by omega
  have e : k + ((i * 10 + 8 : Nat) : Int) = x + 1 + 1 + 1 + 1 + 1 + 1 + 1 + 1 := by rw [hx]; push_cast; omega
  simp only [mvSession, h, e]
theorem mvSession_9 (k : Int) (i : Nat) (x : Int) (hx : x = k + i * 10) : mvSession k (i * 10 + 9) = .int .i64 (x + 1 + 1 + 1 + 1 + 1 + 1 + 1 + 1 + 1) := by
  have h : (i * 10 + 9) % 10 = 9 := by omega
  have e : k + ((i * 10 + 9 : Nat) : Int) = x + 1 + 1 + 1 + 1 + 1 + 1 + 1 + 1 + 1 := by rw [hx]; push_cast; omega
  simp only [mvSession, h, e]
set_option maxHeartbeats 8000000 in
set_option maxRecDepth 100000 in
theorem markSession1 {S : Nat → Prop} (g s n c : Nat) (k : Int) (w : World) (HX : Filled w g 76 s (mvSession k) 0) (hg : S g) (hn : n * 10 ≤ s) (hz : n * 10 ≤ 1152921504606846) (k0 : 0 ≤ k) (k1 : k ≤ 1152921504606846) :
    Calls Tryz.prog 74 #[.slice (some ⟨g, 0, none⟩) n c, .int .i64 k] w fun e w' => e = .returned (.int .i64 (k + n * 10)) ∧ Filled w' g 76 s (mvSession k) (n * 10) ∧ ButS S w w' := by
  have HX := Aside0.mk HX
  have HG := Aside0.mk hg
  have HT := Aside0.mk (ButS.refl S w)
  clear hg
  go_enter Tryz.func74, Tryz.ntmps74
  go_wp2
  go_loopg [1, 5] n (fun gg v1 v5 w' => ∃ i : Int, v1 = .int .i64 (k + i * 10) ∧ v5 = .int .i64 i ∧ 0 ≤ i ∧ i ≤ n ∧ n - i ≤ gg ∧ Aside0 (Filled w' g 76 s (mvSession k) (i.toNat * 10)) ∧ Aside0 (ButS S w w'))
  case atStart => exact ⟨0, by rw [Int.zero_mul, Int.add_zero], rfl, by omega, by omega, by omega, ⟨by rw [show (0 : Int).toNat * 10 = 0 from by decide]; exact HX.out⟩, HT⟩
  case round =>
    clear HX HT
    obtain ⟨i, rfl, rfl, hi0, hi, hgg, HX, HT⟩ := hrel
    by_cases hlt : i < n
    · have hm : i.toNat * 10 + 10 ≤ s := by omega
      have hxx := Aside0.mk (show k + i * 10 = k + (i.toNat : Int) * 10 by omega)
      go_wp2_with (first
        | ((with_reducible refine gate_store rfl ?_); (refine raw_fill (p := i.toNat * 10 + 0) rfl rfl _ _ _ rfl HX.out HG.out rfl (by first | rfl | (simp; done) | (simp; omega) | omega) (by rw [mvSession_0 k i.toNat _ hxx.out]; rfl) (by rw [mvSession_0 k i.toNat _ hxx.out]; rfl) (by rw [mvSession_0 k i.toNat _ hxx.out]; rfl) (by kernel_rfl) (by omega) ?_; intro w3 hf hb; clear HX; have HX := Aside0.mk hf; have n_ := Aside0.mk (HT.out.trans hb); clear HT; have HT := n_; clear n_ hf hb))
        | ((with_reducible refine gate_store rfl ?_); (refine raw_fill (p := i.toNat * 10 + 1) rfl rfl _ _ _ rfl HX.out HG.out rfl (by first | rfl | (simp; done) | (simp; omega) | omega) (by rw [mvSession_1 k i.toNat _ hxx.out]; rfl) (by rw [mvSession_1 k i.toNat _ hxx.out]; rfl) (by rw [mvSession_1 k i.toNat _ hxx.out]; rfl) (by kernel_rfl) (by omega) ?_; intro w3 hf hb; clear HX; have HX := Aside0.mk hf; have n_ := Aside0.mk (HT.out.trans hb); clear HT; have HT := n_; clear n_ hf hb))
        | ((with_reducible refine gate_store rfl ?_); (refine raw_fill (p := i.toNat * 10 + 2) rfl rfl _ _ _ rfl HX.out HG.out rfl (by first | rfl | (simp; done) | (simp; omega) | omega) (by rw [mvSession_2 k i.toNat _ hxx.out]; rfl) (by rw [mvSession_2 k i.toNat _ hxx.out]; rfl) (by rw [mvSession_2 k i.toNat _ hxx.out]; rfl) (by kernel_rfl) (by omega) ?_; intro w3 hf hb; clear HX; have HX := Aside0.mk hf; have n_ := Aside0.mk (HT.out.trans hb); clear HT; have HT := n_; clear n_ hf hb))
        | ((with_reducible refine gate_store rfl ?_); (refine raw_fill (p := i.toNat * 10 + 3) rfl rfl _ _ _ rfl HX.out HG.out rfl (by first | rfl | (simp; done) | (simp; omega) | omega) (by rw [mvSession_3 k i.toNat _ hxx.out]; rfl) (by rw [mvSession_3 k i.toNat _ hxx.out]; rfl) (by rw [mvSession_3 k i.toNat _ hxx.out]; rfl) (by kernel_rfl) (by omega) ?_; intro w3 hf hb; clear HX; have HX := Aside0.mk hf; have n_ := Aside0.mk (HT.out.trans hb); clear HT; have HT := n_; clear n_ hf hb))
        | ((with_reducible refine gate_store rfl ?_); (refine raw_fill (p := i.toNat * 10 + 4) rfl rfl _ _ _ rfl HX.out HG.out rfl (by first | rfl | (simp; done) | (simp; omega) | omega) (by rw [mvSession_4 k i.toNat _ hxx.out]; rfl) (by rw [mvSession_4 k i.toNat _ hxx.out]; rfl) (by rw [mvSession_4 k i.toNat _ hxx.out]; rfl) (by kernel_rfl) (by omega) ?_; intro w3 hf hb; clear HX; have HX := Aside0.mk hf; have n_ := Aside0.mk (HT.out.trans hb); clear HT; have HT := n_; clear n_ hf hb))
        | ((with_reducible refine gate_store rfl ?_); (refine raw_fill (p := i.toNat * 10 + 5) rfl rfl _ _ _ rfl HX.out HG.out rfl (by first | rfl | (simp; done) | (simp; omega) | omega) (by rw [mvSession_5 k i.toNat _ hxx.out]; rfl) (by rw [mvSession_5 k i.toNat _ hxx.out]; rfl) (by rw [mvSession_5 k i.toNat _ hxx.out]; rfl) (by kernel_rfl) (by omega) ?_; intro w3 hf hb; clear HX; have HX := Aside0.mk hf; have n_ := Aside0.mk (HT.out.trans hb); clear HT; have HT := n_; clear n_ hf hb))
        | ((with_reducible refine gate_store rfl ?_); (refine raw_fill (p := i.toNat * 10 + 6) rfl rfl _ _ _ rfl HX.out HG.out rfl (by first | rfl | (simp; done) | (simp; omega) | omega) (by rw [mvSession_6 k i.toNat _ hxx.out]; rfl) (by rw [mvSession_6 k i.toNat _ hxx.out]; rfl) (by rw [mvSession_6 k i.toNat _ hxx.out]; rfl) (by kernel_rfl) (by omega) ?_; intro w3 hf hb; clear HX; have HX := Aside0.mk hf; have n_ := Aside0.mk (HT.out.trans hb); clear HT; have HT := n_; clear n_ hf hb))
        | ((with_reducible refine gate_store rfl ?_); (refine raw_fill (p := i.toNat * 10 + 7) rfl rfl _ _ _ rfl HX.out HG.out rfl (by first | rfl | (simp; done) | (simp; omega) | omega) (by rw [mvSession_7 k i.toNat _ hxx.out]; rfl) (by rw [mvSession_7 k i.toNat _ hxx.out]; rfl) (by rw [mvSession_7 k i.toNat _ hxx.out]; rfl) (by kernel_rfl) (by omega) ?_; intro w3 hf hb; clear HX; have HX := Aside0.mk hf; have n_ := Aside0.mk (HT.out.trans hb); clear HT; have HT := n_; clear n_ hf hb))
        | ((with_reducible refine gate_store rfl ?_); (refine raw_fill (p := i.toNat * 10 + 8) rfl rfl _ _ _ rfl HX.out HG.out rfl (by first | rfl | (simp; done) | (simp; omega) | omega) (by rw [mvSession_8 k i.toNat _ hxx.out]; rfl) (by rw [mvSession_8 k i.toNat _ hxx.out]; rfl) (by rw [mvSession_8 k i.toNat _ hxx.out]; rfl) (by kernel_rfl) (by omega) ?_; intro w3 hf hb; clear HX; have HX := Aside0.mk hf; have n_ := Aside0.mk (HT.out.trans hb); clear HT; have HT := n_; clear n_ hf hb))
        | ((with_reducible refine gate_store rfl ?_); (refine raw_fill (p := i.toNat * 10 + 9) rfl rfl _ _ _ rfl HX.out HG.out rfl (by first | rfl | (simp; done) | (simp; omega) | omega) (by rw [mvSession_9 k i.toNat _ hxx.out]; rfl) (by rw [mvSession_9 k i.toNat _ hxx.out]; rfl) (by rw [mvSession_9 k i.toNat _ hxx.out]; rfl) (by kernel_rfl) (by omega) ?_; intro w3 hf hb; clear HX; have HX := Aside0.mk hf; have n_ := Aside0.mk (HT.out.trans hb); clear HT; have HT := n_; clear n_ hf hb))
        | (go_at_call 127; refine (markText1 _ _ (by omega) (by omega)).mono ?_; rintro e w2 ⟨rfl, hb⟩; have n_ := Aside0.mk (HX.out.below hb); clear HX; have HX := n_; clear n_; have n_ := Aside0.mk (HT.out.trans (ButS.of hb)); clear HT; have HT := n_; clear n_ hb))
      go_roundg (n - (i + 1)).toNat
      case measure => omega
      case rel => exact ⟨i + 1, by congr 1; omega, rfl, by omega, by omega, by omega, ⟨by rw [show (i + 1).toNat * 10 = i.toNat * 10 + 10 by omega]; exact HX.out⟩, HT⟩
    · obtain rfl : i = n := by omega
      go_wp2
      go_ret
      exact ⟨rfl, by rw [Int.toNat_natCast] at HX; exact HX.out, HT.out⟩
set_option maxHeartbeats 8000000 in
set_option maxRecDepth 100000 in
theorem heldSession1 (g s n c : Nat) (k : Int) (w : World) (HX : Filled w g 76 s (mvSession k) (n * 10)) (hn : n * 10 ≤ s) (hz : n * 10 ≤ 1152921504606846) (k0 : 0 ≤ k) (k1 : k ≤ 1152921504606846) :
    Calls Tryz.prog 78 #[.slice (some ⟨g, 0, none⟩) n c, .int .i64 k] w fun e w' => e = .returned (.int .i64 (k + n * 10)) ∧ Below w.heap.size w w' := by
  have HX := Aside0.mk HX
  have HB := Aside0.mk (Below.refl w.heap.size w)
  go_enter Tryz.func78, Tryz.ntmps78
  go_wp2
  go_loopg [1, 5] n (fun gg v1 v5 w' => ∃ i : Int, v1 = .int .i64 (k + i * 10) ∧ v5 = .int .i64 i ∧ 0 ≤ i ∧ i ≤ n ∧ n - i ≤ gg ∧ Aside0 (Below w.heap.size w w'))
  case atStart => exact ⟨0, by rw [Int.zero_mul, Int.add_zero], rfl, by omega, by omega, by omega, HB⟩
  case round =>
    clear HB
    obtain ⟨i, rfl, rfl, hi0, hi, hgg, HB⟩ := hrel
    by_cases hlt : i < n
    · have hm : i.toNat * 10 + 10 ≤ n * 10 := by omega
      have hxx := Aside0.mk (show k + i * 10 = k + (i.toNat : Int) * 10 by omega)
      have qv0 := Aside0.mk (((HX.out.below HB.out).cell (i.toNat * 10 + 0) (by omega)).trans (congrArg some (mvSession_0 k i.toNat _ hxx.out)))
      have r0 := qv0.out
      clear qv0
      have qv1 := Aside0.mk (((HX.out.below HB.out).cell (i.toNat * 10 + 1) (by omega)).trans (congrArg some (mvSession_1 k i.toNat _ hxx.out)))
      have r1 := qv1.out
      clear qv1
      rw [Nat.add_zero] at r0
      go_wp2
      clear r0
      clear r1
      have qv2 := Aside0.mk (((HX.out.below HB.out).cell (i.toNat * 10 + 2) (by omega)).trans (congrArg some (mvSession_2 k i.toNat _ hxx.out)))
      refine qS (fun w' => w'.cell? ⟨g, i.toNat * 10 + 2, none⟩ = some (.string (mt (k + i * 10 + 1 + 1)))) 8 (qv2.out) (fun hs => ?_)
      have n_ := Aside0.mk (below_drew1 HB.out)
      clear HB
      have HB := n_
      clear n_
      refine qP 0 30 ?_
      refine qP 1 31 ?_
      refine qP 2 32 ?_
      refine qP 3 33 ?_
      refine qP 5 35 ?_
      refine qT 4 34 hs ?_
      refine q1 6 36 (fun K hK => ?_)
      refine qC Tryz.func127 _ ?_
      refine (markText1 _ _ (by omega) (by omega)).mono ?_
      intro e w2 h2
      obtain ⟨rfl, hb⟩ := h2
      have n_ := Aside0.mk (below_step HB.out hb)
      clear HB
      have HB := n_
      clear n_
      refine ⟨_, rfl, hK.out _ _ (pw_cell_below hb hs) (fun hs2 => ?_)⟩
      clear hK K hs hb
      have hs := hs2
      clear hs2
      refine qN ?_
      refine qP 7 37 ?_
      refine qD ?_
      clear hs
      clear qv2
      have qv3 := Aside0.mk (((HX.out.below HB.out).cell (i.toNat * 10 + 3) (by omega)).trans (congrArg some (mvSession_3 k i.toNat _ hxx.out)))
      have r3 := qv3.out
      clear qv3
      have qv4 := Aside0.mk (((HX.out.below HB.out).cell (i.toNat * 10 + 4) (by omega)).trans (congrArg some (mvSession_4 k i.toNat _ hxx.out)))
      have r4 := qv4.out
      clear qv4
      have qv5 := Aside0.mk (((HX.out.below HB.out).cell (i.toNat * 10 + 5) (by omega)).trans (congrArg some (mvSession_5 k i.toNat _ hxx.out)))
      have r5 := qv5.out
      clear qv5
      have qv6 := Aside0.mk (((HX.out.below HB.out).cell (i.toNat * 10 + 6) (by omega)).trans (congrArg some (mvSession_6 k i.toNat _ hxx.out)))
      have r6 := qv6.out
      clear qv6
      have qv7 := Aside0.mk (((HX.out.below HB.out).cell (i.toNat * 10 + 7) (by omega)).trans (congrArg some (mvSession_7 k i.toNat _ hxx.out)))
      have r7 := qv7.out
      clear qv7
      have qv8 := Aside0.mk (((HX.out.below HB.out).cell (i.toNat * 10 + 8) (by omega)).trans (congrArg some (mvSession_8 k i.toNat _ hxx.out)))
      have r8 := qv8.out
      clear qv8
      have qv9 := Aside0.mk (((HX.out.below HB.out).cell (i.toNat * 10 + 9) (by omega)).trans (congrArg some (mvSession_9 k i.toNat _ hxx.out)))
      have r9 := qv9.out
      clear qv9
      go_wp2
      clear r3
      clear r4
      clear r5
      clear r6
      clear r7
      clear r8
      clear r9
      go_roundg (n - (i + 1)).toNat
      case measure => omega
      case rel => exact ⟨i + 1, by congr 1; omega, rfl, by omega, by omega, by omega, HB⟩
    · obtain rfl : i = n := by omega
      go_wp2
      go_ret
      exact ⟨rfl, HB.out⟩
noncomputable def mvFail (k : Int) (p : Nat) : Value := match p % 3 with
  | 0 => .string (mt (k + p))
  | 1 => .int .i64 (k + p)
  | _ => .int .i64 (k + p)
theorem mvFail_0 (k : Int) (i : Nat) (x : Int) (hx : x = k + i * 3) : mvFail k (i * 3 + 0) = .string (mt (x)) := by
  have h : (i * 3 + 0) % 3 = 0 := by omega
  have e : k + ((i * 3 + 0 : Nat) : Int) = x := by rw [hx]; push_cast; omega
  simp only [mvFail, h, e]
theorem mvFail_1 (k : Int) (i : Nat) (x : Int) (hx : x = k + i * 3) : mvFail k (i * 3 + 1) = .int .i64 (x + 1) := by
  have h : (i * 3 + 1) % 3 = 1 := by omega
  have e : k + ((i * 3 + 1 : Nat) : Int) = x + 1 := by rw [hx]; push_cast; omega
  simp only [mvFail, h, e]
theorem mvFail_2 (k : Int) (i : Nat) (x : Int) (hx : x = k + i * 3) : mvFail k (i * 3 + 2) = .int .i64 (x + 1 + 1) := by
  have h : (i * 3 + 2) % 3 = 2 := by omega
  have e : k + ((i * 3 + 2 : Nat) : Int) = x + 1 + 1 := by rw [hx]; push_cast; omega
  simp only [mvFail, h, e]
set_option maxHeartbeats 8000000 in
set_option maxRecDepth 100000 in
theorem markFail1 {S : Nat → Prop} (g s n c : Nat) (k : Int) (w : World) (HX : Filled w g 81 s (mvFail k) 0) (hg : S g) (hn : n * 3 ≤ s) (hz : n * 3 ≤ 1152921504606846) (k0 : 0 ≤ k) (k1 : k ≤ 1152921504606846) :
    Calls Tryz.prog 75 #[.slice (some ⟨g, 0, none⟩) n c, .int .i64 k] w fun e w' => e = .returned (.int .i64 (k + n * 3)) ∧ Filled w' g 81 s (mvFail k) (n * 3) ∧ ButS S w w' := by
  have HX := Aside0.mk HX
  have HG := Aside0.mk hg
  have HT := Aside0.mk (ButS.refl S w)
  clear hg
  go_enter Tryz.func75, Tryz.ntmps75
  go_wp2
  go_loopg [1, 5] n (fun gg v1 v5 w' => ∃ i : Int, v1 = .int .i64 (k + i * 3) ∧ v5 = .int .i64 i ∧ 0 ≤ i ∧ i ≤ n ∧ n - i ≤ gg ∧ Aside0 (Filled w' g 81 s (mvFail k) (i.toNat * 3)) ∧ Aside0 (ButS S w w'))
  case atStart => exact ⟨0, by rw [Int.zero_mul, Int.add_zero], rfl, by omega, by omega, by omega, ⟨by rw [show (0 : Int).toNat * 3 = 0 from by decide]; exact HX.out⟩, HT⟩
  case round =>
    clear HX HT
    obtain ⟨i, rfl, rfl, hi0, hi, hgg, HX, HT⟩ := hrel
    by_cases hlt : i < n
    · have hm : i.toNat * 3 + 3 ≤ s := by omega
      have hxx := Aside0.mk (show k + i * 3 = k + (i.toNat : Int) * 3 by omega)
      go_wp2_with (first
        | ((with_reducible refine gate_store rfl ?_); (refine raw_fill (p := i.toNat * 3 + 0) rfl rfl _ _ _ rfl HX.out HG.out rfl (by first | rfl | (simp; done) | (simp; omega) | omega) (by rw [mvFail_0 k i.toNat _ hxx.out]; rfl) (by rw [mvFail_0 k i.toNat _ hxx.out]; rfl) (by rw [mvFail_0 k i.toNat _ hxx.out]; rfl) (by kernel_rfl) (by omega) ?_; intro w3 hf hb; clear HX; have HX := Aside0.mk hf; have n_ := Aside0.mk (HT.out.trans hb); clear HT; have HT := n_; clear n_ hf hb))
        | ((with_reducible refine gate_store rfl ?_); (refine raw_fill (p := i.toNat * 3 + 1) rfl rfl _ _ _ rfl HX.out HG.out rfl (by first | rfl | (simp; done) | (simp; omega) | omega) (by rw [mvFail_1 k i.toNat _ hxx.out]; rfl) (by rw [mvFail_1 k i.toNat _ hxx.out]; rfl) (by rw [mvFail_1 k i.toNat _ hxx.out]; rfl) (by kernel_rfl) (by omega) ?_; intro w3 hf hb; clear HX; have HX := Aside0.mk hf; have n_ := Aside0.mk (HT.out.trans hb); clear HT; have HT := n_; clear n_ hf hb))
        | ((with_reducible refine gate_store rfl ?_); (refine raw_fill (p := i.toNat * 3 + 2) rfl rfl _ _ _ rfl HX.out HG.out rfl (by first | rfl | (simp; done) | (simp; omega) | omega) (by rw [mvFail_2 k i.toNat _ hxx.out]; rfl) (by rw [mvFail_2 k i.toNat _ hxx.out]; rfl) (by rw [mvFail_2 k i.toNat _ hxx.out]; rfl) (by kernel_rfl) (by omega) ?_; intro w3 hf hb; clear HX; have HX := Aside0.mk hf; have n_ := Aside0.mk (HT.out.trans hb); clear HT; have HT := n_; clear n_ hf hb))
        | (go_at_call 127; refine (markText1 _ _ (by omega) (by omega)).mono ?_; rintro e w2 ⟨rfl, hb⟩; have n_ := Aside0.mk (HX.out.below hb); clear HX; have HX := n_; clear n_; have n_ := Aside0.mk (HT.out.trans (ButS.of hb)); clear HT; have HT := n_; clear n_ hb))
      go_roundg (n - (i + 1)).toNat
      case measure => omega
      case rel => exact ⟨i + 1, by congr 1; omega, rfl, by omega, by omega, by omega, ⟨by rw [show (i + 1).toNat * 3 = i.toNat * 3 + 3 by omega]; exact HX.out⟩, HT⟩
    · obtain rfl : i = n := by omega
      go_wp2
      go_ret
      exact ⟨rfl, by rw [Int.toNat_natCast] at HX; exact HX.out, HT.out⟩
set_option maxHeartbeats 8000000 in
set_option maxRecDepth 100000 in
theorem heldFail1 (g s n c : Nat) (k : Int) (w : World) (HX : Filled w g 81 s (mvFail k) (n * 3)) (hn : n * 3 ≤ s) (hz : n * 3 ≤ 1152921504606846) (k0 : 0 ≤ k) (k1 : k ≤ 1152921504606846) :
    Calls Tryz.prog 79 #[.slice (some ⟨g, 0, none⟩) n c, .int .i64 k] w fun e w' => e = .returned (.int .i64 (k + n * 3)) ∧ Below w.heap.size w w' := by
  have HX := Aside0.mk HX
  have HB := Aside0.mk (Below.refl w.heap.size w)
  go_enter Tryz.func79, Tryz.ntmps79
  go_wp2
  go_loopg [1, 5] n (fun gg v1 v5 w' => ∃ i : Int, v1 = .int .i64 (k + i * 3) ∧ v5 = .int .i64 i ∧ 0 ≤ i ∧ i ≤ n ∧ n - i ≤ gg ∧ Aside0 (Below w.heap.size w w'))
  case atStart => exact ⟨0, by rw [Int.zero_mul, Int.add_zero], rfl, by omega, by omega, by omega, HB⟩
  case round =>
    clear HB
    obtain ⟨i, rfl, rfl, hi0, hi, hgg, HB⟩ := hrel
    by_cases hlt : i < n
    · have hm : i.toNat * 3 + 3 ≤ n * 3 := by omega
      have hxx := Aside0.mk (show k + i * 3 = k + (i.toNat : Int) * 3 by omega)
      go_wp2
      have qv0 := Aside0.mk (((HX.out.below HB.out).cell (i.toNat * 3 + 0) (by omega)).trans (congrArg some (mvFail_0 k i.toNat _ hxx.out)))
      refine qS (fun w' => w'.cell? ⟨g, i.toNat * 3, none⟩ = some (.string (mt (k + i * 3)))) 8 (qv0.out) (fun hs => ?_)
      have n_ := Aside0.mk (below_drew1 HB.out)
      clear HB
      have HB := n_
      clear n_
      refine qP 0 12 ?_
      refine qP 1 13 ?_
      refine qP 2 14 ?_
      refine qP 3 15 ?_
      refine qP 5 17 ?_
      refine qT 4 16 hs ?_
      refine q1 6 18 (fun K hK => ?_)
      refine qC Tryz.func127 _ ?_
      refine (markText1 _ _ (by omega) (by omega)).mono ?_
      intro e w2 h2
      obtain ⟨rfl, hb⟩ := h2
      have n_ := Aside0.mk (below_step HB.out hb)
      clear HB
      have HB := n_
      clear n_
      refine ⟨_, rfl, hK.out _ _ (pw_cell_below hb hs) (fun hs2 => ?_)⟩
      clear hK K hs hb
      have hs := hs2
      clear hs2
      refine qN ?_
      refine qP 7 19 ?_
      refine qD ?_
      clear hs
      clear qv0
      have qv1 := Aside0.mk (((HX.out.below HB.out).cell (i.toNat * 3 + 1) (by omega)).trans (congrArg some (mvFail_1 k i.toNat _ hxx.out)))
      have r1 := qv1.out
      clear qv1
      have qv2 := Aside0.mk (((HX.out.below HB.out).cell (i.toNat * 3 + 2) (by omega)).trans (congrArg some (mvFail_2 k i.toNat _ hxx.out)))
      have r2 := qv2.out
      clear qv2
      go_wp2
      clear r1
      clear r2
      go_roundg (n - (i + 1)).toNat
      case measure => omega
      case rel => exact ⟨i + 1, by congr 1; omega, rfl, by omega, by omega, by omega, HB⟩
    · obtain rfl : i = n := by omega
      go_wp2
      go_ret
      exact ⟨rfl, HB.out⟩
noncomputable def mvRecord (k : Int) (p : Nat) : Value := match p % 5 with
  | 0 => .int .i64 (k + p)
  | 1 => .int .i64 (k + p)
  | 2 => .int .i64 (k + p)
  | 3 => .int .i64 (k + p)
  | _ => .bool ((k + p) % 3 == 0)
theorem mvRecord_0 (k : Int) (i : Nat) (x : Int) (hx : x = k + i * 5) : mvRecord k (i * 5 + 0) = .int .i64 (x) := by
  have h : (i * 5 + 0) % 5 = 0 := by omega
  have e : k + ((i * 5 + 0 : Nat) : Int) = x := by rw [hx]; push_cast; omega
  simp only [mvRecord, h, e]
theorem mvRecord_1 (k : Int) (i : Nat) (x : Int) (hx : x = k + i * 5) : mvRecord k (i * 5 + 1) = .int .i64 (x + 1) := by
  have h : (i * 5 + 1) % 5 = 1 := by omega
  have e : k + ((i * 5 + 1 : Nat) : Int) = x + 1 := by rw [hx]; push_cast; omega
  simp only [mvRecord, h, e]
theorem mvRecord_2 (k : Int) (i : Nat) (x : Int) (hx : x = k + i * 5) : mvRecord k (i * 5 + 2) = .int .i64 (x + 1 + 1) := by
  have h : (i * 5 + 2) % 5 = 2 := by omega
  have e : k + ((i * 5 + 2 : Nat) : Int) = x + 1 + 1 := by rw [hx]; push_cast; omega
  simp only [mvRecord, h, e]
theorem mvRecord_3 (k : Int) (i : Nat) (x : Int) (hx : x = k + i * 5) : mvRecord k (i * 5 + 3) = .int .i64 (x + 1 + 1 + 1) := by
  have h : (i * 5 + 3) % 5 = 3 := by omega
  have e : k + ((i * 5 + 3 : Nat) : Int) = x + 1 + 1 + 1 := by rw [hx]; push_cast; omega
  simp only [mvRecord, h, e]
theorem mvRecord_4 (k : Int) (i : Nat) (x : Int) (hx : x = k + i * 5) : mvRecord k (i * 5 + 4) = .bool ((x + 1 + 1 + 1 + 1) % 3 == 0) := by
  have h : (i * 5 + 4) % 5 = 4 := by omega
  have e : k + ((i * 5 + 4 : Nat) : Int) = x + 1 + 1 + 1 + 1 := by rw [hx]; push_cast; omega
  simp only [mvRecord, h, e]
set_option maxHeartbeats 8000000 in
set_option maxRecDepth 100000 in
theorem markRecord1 {S : Nat → Prop} (g s n c : Nat) (k : Int) (w : World) (HX : Filled w g 83 s (mvRecord k) 0) (hg : S g) (hn : n * 5 ≤ s) (hz : n * 5 ≤ 1152921504606846) (k0 : 0 ≤ k) (k1 : k ≤ 1152921504606846) :
    Calls Tryz.prog 76 #[.slice (some ⟨g, 0, none⟩) n c, .int .i64 k] w fun e w' => e = .returned (.int .i64 (k + n * 5)) ∧ Filled w' g 83 s (mvRecord k) (n * 5) ∧ ButS S w w' := by
  have HX := Aside0.mk HX
  have HG := Aside0.mk hg
  have HT := Aside0.mk (ButS.refl S w)
  clear hg
  go_enter Tryz.func76, Tryz.ntmps76
  go_wp2
  go_loopg [1, 5] n (fun gg v1 v5 w' => ∃ i : Int, v1 = .int .i64 (k + i * 5) ∧ v5 = .int .i64 i ∧ 0 ≤ i ∧ i ≤ n ∧ n - i ≤ gg ∧ Aside0 (Filled w' g 83 s (mvRecord k) (i.toNat * 5)) ∧ Aside0 (ButS S w w'))
  case atStart => exact ⟨0, by rw [Int.zero_mul, Int.add_zero], rfl, by omega, by omega, by omega, ⟨by rw [show (0 : Int).toNat * 5 = 0 from by decide]; exact HX.out⟩, HT⟩
  case round =>
    clear HX HT
    obtain ⟨i, rfl, rfl, hi0, hi, hgg, HX, HT⟩ := hrel
    by_cases hlt : i < n
    · have hm : i.toNat * 5 + 5 ≤ s := by omega
      have hxx := Aside0.mk (show k + i * 5 = k + (i.toNat : Int) * 5 by omega)
      go_wp2_with (first
        | ((with_reducible refine gate_store rfl ?_); (refine raw_fill (p := i.toNat * 5 + 0) rfl rfl _ _ _ rfl HX.out HG.out rfl (by first | rfl | (simp; done) | (simp; omega) | omega) (by rw [mvRecord_0 k i.toNat _ hxx.out]; rfl) (by rw [mvRecord_0 k i.toNat _ hxx.out]; rfl) (by rw [mvRecord_0 k i.toNat _ hxx.out]; rfl) (by kernel_rfl) (by omega) ?_; intro w3 hf hb; clear HX; have HX := Aside0.mk hf; have n_ := Aside0.mk (HT.out.trans hb); clear HT; have HT := n_; clear n_ hf hb))
        | ((with_reducible refine gate_store rfl ?_); (refine raw_fill (p := i.toNat * 5 + 1) rfl rfl _ _ _ rfl HX.out HG.out rfl (by first | rfl | (simp; done) | (simp; omega) | omega) (by rw [mvRecord_1 k i.toNat _ hxx.out]; rfl) (by rw [mvRecord_1 k i.toNat _ hxx.out]; rfl) (by rw [mvRecord_1 k i.toNat _ hxx.out]; rfl) (by kernel_rfl) (by omega) ?_; intro w3 hf hb; clear HX; have HX := Aside0.mk hf; have n_ := Aside0.mk (HT.out.trans hb); clear HT; have HT := n_; clear n_ hf hb))
        | ((with_reducible refine gate_store rfl ?_); (refine raw_fill (p := i.toNat * 5 + 2) rfl rfl _ _ _ rfl HX.out HG.out rfl (by first | rfl | (simp; done) | (simp; omega) | omega) (by rw [mvRecord_2 k i.toNat _ hxx.out]; rfl) (by rw [mvRecord_2 k i.toNat _ hxx.out]; rfl) (by rw [mvRecord_2 k i.toNat _ hxx.out]; rfl) (by kernel_rfl) (by omega) ?_; intro w3 hf hb; clear HX; have HX := Aside0.mk hf; have n_ := Aside0.mk (HT.out.trans hb); clear HT; have HT := n_; clear n_ hf hb))
        | ((with_reducible refine gate_store rfl ?_); (refine raw_fill (p := i.toNat * 5 + 3) rfl rfl _ _ _ rfl HX.out HG.out rfl (by first | rfl | (simp; done) | (simp; omega) | omega) (by rw [mvRecord_3 k i.toNat _ hxx.out]; rfl) (by rw [mvRecord_3 k i.toNat _ hxx.out]; rfl) (by rw [mvRecord_3 k i.toNat _ hxx.out]; rfl) (by kernel_rfl) (by omega) ?_; intro w3 hf hb; clear HX; have HX := Aside0.mk hf; have n_ := Aside0.mk (HT.out.trans hb); clear HT; have HT := n_; clear n_ hf hb))
        | ((with_reducible refine gate_store rfl ?_); (refine raw_fill (p := i.toNat * 5 + 4) rfl rfl _ _ _ rfl HX.out HG.out rfl (by first | rfl | (simp; done) | (simp; omega) | omega) (by rw [mvRecord_4 k i.toNat _ hxx.out]; rfl) (by rw [mvRecord_4 k i.toNat _ hxx.out]; rfl) (by rw [mvRecord_4 k i.toNat _ hxx.out]; rfl) (by kernel_rfl) (by omega) ?_; intro w3 hf hb; clear HX; have HX := Aside0.mk hf; have n_ := Aside0.mk (HT.out.trans hb); clear HT; have HT := n_; clear n_ hf hb)))
      go_roundg (n - (i + 1)).toNat
      case measure => omega
      case rel => exact ⟨i + 1, by congr 1; omega, rfl, by omega, by omega, by omega, ⟨by rw [show (i + 1).toNat * 5 = i.toNat * 5 + 5 by omega]; exact HX.out⟩, HT⟩
    · obtain rfl : i = n := by omega
      go_wp2
      go_ret
      exact ⟨rfl, by rw [Int.toNat_natCast] at HX; exact HX.out, HT.out⟩
set_option maxHeartbeats 8000000 in
set_option maxRecDepth 100000 in
theorem heldRecord1 (g s n c : Nat) (k : Int) (w : World) (HX : Filled w g 83 s (mvRecord k) (n * 5)) (hn : n * 5 ≤ s) (hz : n * 5 ≤ 1152921504606846) (k0 : 0 ≤ k) (k1 : k ≤ 1152921504606846) :
    Calls Tryz.prog 80 #[.slice (some ⟨g, 0, none⟩) n c, .int .i64 k] w fun e w' => e = .returned (.int .i64 (k + n * 5)) ∧ Below w.heap.size w w' := by
  have HX := Aside0.mk HX
  have HB := Aside0.mk (Below.refl w.heap.size w)
  go_enter Tryz.func80, Tryz.ntmps80
  go_wp2
  go_loopg [1, 5] n (fun gg v1 v5 w' => ∃ i : Int, v1 = .int .i64 (k + i * 5) ∧ v5 = .int .i64 i ∧ 0 ≤ i ∧ i ≤ n ∧ n - i ≤ gg ∧ Aside0 (Below w.heap.size w w'))
  case atStart => exact ⟨0, by rw [Int.zero_mul, Int.add_zero], rfl, by omega, by omega, by omega, HB⟩
  case round =>
    clear HB
    obtain ⟨i, rfl, rfl, hi0, hi, hgg, HB⟩ := hrel
    by_cases hlt : i < n
    · have hm : i.toNat * 5 + 5 ≤ n * 5 := by omega
      have hxx := Aside0.mk (show k + i * 5 = k + (i.toNat : Int) * 5 by omega)
      have qv0 := Aside0.mk (((HX.out.below HB.out).cell (i.toNat * 5 + 0) (by omega)).trans (congrArg some (mvRecord_0 k i.toNat _ hxx.out)))
      have r0 := qv0.out
      clear qv0
      have qv1 := Aside0.mk (((HX.out.below HB.out).cell (i.toNat * 5 + 1) (by omega)).trans (congrArg some (mvRecord_1 k i.toNat _ hxx.out)))
      have r1 := qv1.out
      clear qv1
      have qv2 := Aside0.mk (((HX.out.below HB.out).cell (i.toNat * 5 + 2) (by omega)).trans (congrArg some (mvRecord_2 k i.toNat _ hxx.out)))
      have r2 := qv2.out
      clear qv2
      have qv3 := Aside0.mk (((HX.out.below HB.out).cell (i.toNat * 5 + 3) (by omega)).trans (congrArg some (mvRecord_3 k i.toNat _ hxx.out)))
      have r3 := qv3.out
      clear qv3
      have qv4 := Aside0.mk (((HX.out.below HB.out).cell (i.toNat * 5 + 4) (by omega)).trans (congrArg some (mvRecord_4 k i.toNat _ hxx.out)))
      have r4 := qv4.out
      clear qv4
      rw [Nat.add_zero] at r0
      go_wp2
      clear r0
      clear r1
      clear r2
      clear r3
      clear r4
      go_roundg (n - (i + 1)).toNat
      case measure => omega
      case rel => exact ⟨i + 1, by congr 1; omega, rfl, by omega, by omega, by omega, HB⟩
    · obtain rfl : i = n := by omega
      go_wp2
      go_ret
      exact ⟨rfl, HB.out⟩
noncomputable def mvPlace (k : Int) (p : Nat) : Value := match p % 4 with
  | 0 => .int .i64 (k + p)
  | 1 => .int .i64 (k + p)
  | 2 => .int .i64 (k + p)
  | _ => .int .i64 (k + p)
theorem mvPlace_0 (k : Int) (i : Nat) (x : Int) (hx : x = k + i * 4) : mvPlace k (i * 4 + 0) = .int .i64 (x) := by
  have h : (i * 4 + 0) % 4 = 0 := by omega
  have e : k + ((i * 4 + 0 : Nat) : Int) = x := by rw [hx]; push_cast; omega
  simp only [mvPlace, h, e]
theorem mvPlace_1 (k : Int) (i : Nat) (x : Int) (hx : x = k + i * 4) : mvPlace k (i * 4 + 1) = .int .i64 (x + 1) := by
  have h : (i * 4 + 1) % 4 = 1 := by omega
  have e : k + ((i * 4 + 1 : Nat) : Int) = x + 1 := by rw [hx]; push_cast; omega
  simp only [mvPlace, h, e]
theorem mvPlace_2 (k : Int) (i : Nat) (x : Int) (hx : x = k + i * 4) : mvPlace k (i * 4 + 2) = .int .i64 (x + 1 + 1) := by
  have h : (i * 4 + 2) % 4 = 2 := by omega
  have e : k + ((i * 4 + 2 : Nat) : Int) = x + 1 + 1 := by rw [hx]; push_cast; omega
  simp only [mvPlace, h, e]
theorem mvPlace_3 (k : Int) (i : Nat) (x : Int) (hx : x = k + i * 4) : mvPlace k (i * 4 + 3) = .int .i64 (x + 1 + 1 + 1) := by
  have h : (i * 4 + 3) % 4 = 3 := by omega
  have e : k + ((i * 4 + 3 : Nat) : Int) = x + 1 + 1 + 1 := by rw [hx]; push_cast; omega
  simp only [mvPlace, h, e]
set_option maxHeartbeats 8000000 in
set_option maxRecDepth 100000 in
theorem markPlace1 {S : Nat → Prop} (g s n c : Nat) (k : Int) (w : World) (HX : Filled w g 140 s (mvPlace k) 0) (hg : S g) (hn : n * 4 ≤ s) (hz : n * 4 ≤ 1152921504606846) (k0 : 0 ≤ k) (k1 : k ≤ 1152921504606846) :
    Calls Tryz.prog 71 #[.slice (some ⟨g, 0, none⟩) n c, .int .i64 k] w fun e w' => e = .returned (.int .i64 (k + n * 4)) ∧ Filled w' g 140 s (mvPlace k) (n * 4) ∧ ButS S w w' := by
  have HX := Aside0.mk HX
  have HG := Aside0.mk hg
  have HT := Aside0.mk (ButS.refl S w)
  clear hg
  go_enter Tryz.func71, Tryz.ntmps71
  go_wp2
  go_loopg [1, 5] n (fun gg v1 v5 w' => ∃ i : Int, v1 = .int .i64 (k + i * 4) ∧ v5 = .int .i64 i ∧ 0 ≤ i ∧ i ≤ n ∧ n - i ≤ gg ∧ Aside0 (Filled w' g 140 s (mvPlace k) (i.toNat * 4)) ∧ Aside0 (ButS S w w'))
  case atStart => exact ⟨0, by rw [Int.zero_mul, Int.add_zero], rfl, by omega, by omega, by omega, ⟨by rw [show (0 : Int).toNat * 4 = 0 from by decide]; exact HX.out⟩, HT⟩
  case round =>
    clear HX HT
    obtain ⟨i, rfl, rfl, hi0, hi, hgg, HX, HT⟩ := hrel
    by_cases hlt : i < n
    · have hm : i.toNat * 4 + 4 ≤ s := by omega
      have hxx := Aside0.mk (show k + i * 4 = k + (i.toNat : Int) * 4 by omega)
      go_wp2_with (first
        | ((with_reducible refine gate_store rfl ?_); (refine raw_fill (p := i.toNat * 4 + 0) rfl rfl _ _ _ rfl HX.out HG.out rfl (by first | rfl | (simp; done) | (simp; omega) | omega) (by rw [mvPlace_0 k i.toNat _ hxx.out]; rfl) (by rw [mvPlace_0 k i.toNat _ hxx.out]; rfl) (by rw [mvPlace_0 k i.toNat _ hxx.out]; rfl) (by kernel_rfl) (by omega) ?_; intro w3 hf hb; clear HX; have HX := Aside0.mk hf; have n_ := Aside0.mk (HT.out.trans hb); clear HT; have HT := n_; clear n_ hf hb))
        | ((with_reducible refine gate_store rfl ?_); (refine raw_fill (p := i.toNat * 4 + 1) rfl rfl _ _ _ rfl HX.out HG.out rfl (by first | rfl | (simp; done) | (simp; omega) | omega) (by rw [mvPlace_1 k i.toNat _ hxx.out]; rfl) (by rw [mvPlace_1 k i.toNat _ hxx.out]; rfl) (by rw [mvPlace_1 k i.toNat _ hxx.out]; rfl) (by kernel_rfl) (by omega) ?_; intro w3 hf hb; clear HX; have HX := Aside0.mk hf; have n_ := Aside0.mk (HT.out.trans hb); clear HT; have HT := n_; clear n_ hf hb))
        | ((with_reducible refine gate_store rfl ?_); (refine raw_fill (p := i.toNat * 4 + 2) rfl rfl _ _ _ rfl HX.out HG.out rfl (by first | rfl | (simp; done) | (simp; omega) | omega) (by rw [mvPlace_2 k i.toNat _ hxx.out]; rfl) (by rw [mvPlace_2 k i.toNat _ hxx.out]; rfl) (by rw [mvPlace_2 k i.toNat _ hxx.out]; rfl) (by kernel_rfl) (by omega) ?_; intro w3 hf hb; clear HX; have HX := Aside0.mk hf; have n_ := Aside0.mk (HT.out.trans hb); clear HT; have HT := n_; clear n_ hf hb))
        | ((with_reducible refine gate_store rfl ?_); (refine raw_fill (p := i.toNat * 4 + 3) rfl rfl _ _ _ rfl HX.out HG.out rfl (by first | rfl | (simp; done) | (simp; omega) | omega) (by rw [mvPlace_3 k i.toNat _ hxx.out]; rfl) (by rw [mvPlace_3 k i.toNat _ hxx.out]; rfl) (by rw [mvPlace_3 k i.toNat _ hxx.out]; rfl) (by kernel_rfl) (by omega) ?_; intro w3 hf hb; clear HX; have HX := Aside0.mk hf; have n_ := Aside0.mk (HT.out.trans hb); clear HT; have HT := n_; clear n_ hf hb)))
      go_roundg (n - (i + 1)).toNat
      case measure => omega
      case rel => exact ⟨i + 1, by congr 1; omega, rfl, by omega, by omega, by omega, ⟨by rw [show (i + 1).toNat * 4 = i.toNat * 4 + 4 by omega]; exact HX.out⟩, HT⟩
    · obtain rfl : i = n := by omega
      go_wp2
      go_ret
      exact ⟨rfl, by rw [Int.toNat_natCast] at HX; exact HX.out, HT.out⟩
noncomputable def mvRule (k : Int) (p : Nat) : Value := match p % 6 with
  | 0 => .int .i64 (k + p)
  | 1 => .int .i64 (k + p)
  | 2 => .int .i64 (k + p)
  | 3 => .int .i64 (k + p)
  | 4 => .int .i64 (k + p)
  | _ => .bool ((k + p) % 3 == 0)
theorem mvRule_0 (k : Int) (i : Nat) (x : Int) (hx : x = k + i * 6) : mvRule k (i * 6 + 0) = .int .i64 (x) := by
  have h : (i * 6 + 0) % 6 = 0 := by omega
  have e : k + ((i * 6 + 0 : Nat) : Int) = x := by rw [hx]; push_cast; omega
  simp only [mvRule, h, e]
theorem mvRule_1 (k : Int) (i : Nat) (x : Int) (hx : x = k + i * 6) : mvRule k (i * 6 + 1) = .int .i64 (x + 1) := by
  have h : (i * 6 + 1) % 6 = 1 := by omega
  have e : k + ((i * 6 + 1 : Nat) : Int) = x + 1 := by rw [hx]; push_cast; omega
  simp only [mvRule, h, e]
theorem mvRule_2 (k : Int) (i : Nat) (x : Int) (hx : x = k + i * 6) : mvRule k (i * 6 + 2) = .int .i64 (x + 1 + 1) := by
  have h : (i * 6 + 2) % 6 = 2 := by omega
  have e : k + ((i * 6 + 2 : Nat) : Int) = x + 1 + 1 := by rw [hx]; push_cast; omega
  simp only [mvRule, h, e]
theorem mvRule_3 (k : Int) (i : Nat) (x : Int) (hx : x = k + i * 6) : mvRule k (i * 6 + 3) = .int .i64 (x + 1 + 1 + 1) := by
  have h : (i * 6 + 3) % 6 = 3 := by omega
  have e : k + ((i * 6 + 3 : Nat) : Int) = x + 1 + 1 + 1 := by rw [hx]; push_cast; omega
  simp only [mvRule, h, e]
theorem mvRule_4 (k : Int) (i : Nat) (x : Int) (hx : x = k + i * 6) : mvRule k (i * 6 + 4) = .int .i64 (x + 1 + 1 + 1 + 1) := by
  have h : (i * 6 + 4) % 6 = 4 := by omega
  have e : k + ((i * 6 + 4 : Nat) : Int) = x + 1 + 1 + 1 + 1 := by rw [hx]; push_cast; omega
  simp only [mvRule, h, e]
theorem mvRule_5 (k : Int) (i : Nat) (x : Int) (hx : x = k + i * 6) : mvRule k (i * 6 + 5) = .bool ((x + 1 + 1 + 1 + 1 + 1) % 3 == 0) := by
  have h : (i * 6 + 5) % 6 = 5 := by omega
  have e : k + ((i * 6 + 5 : Nat) : Int) = x + 1 + 1 + 1 + 1 + 1 := by rw [hx]; push_cast; omega
  simp only [mvRule, h, e]
set_option maxHeartbeats 8000000 in
set_option maxRecDepth 100000 in
theorem markRule1 {S : Nat → Prop} (g s n c : Nat) (k : Int) (w : World) (HX : Filled w g 183 s (mvRule k) 0) (hg : S g) (hn : n * 6 ≤ s) (hz : n * 6 ≤ 1152921504606846) (k0 : 0 ≤ k) (k1 : k ≤ 1152921504606846) :
    Calls Tryz.prog 128 #[.slice (some ⟨g, 0, none⟩) n c, .int .i64 k] w fun e w' => e = .returned (.int .i64 (k + n * 6)) ∧ Filled w' g 183 s (mvRule k) (n * 6) ∧ ButS S w w' := by
  have HX := Aside0.mk HX
  have HG := Aside0.mk hg
  have HT := Aside0.mk (ButS.refl S w)
  clear hg
  go_enter Tryz.func128, Tryz.ntmps128
  go_wp2
  go_loopg [1, 5] n (fun gg v1 v5 w' => ∃ i : Int, v1 = .int .i64 (k + i * 6) ∧ v5 = .int .i64 i ∧ 0 ≤ i ∧ i ≤ n ∧ n - i ≤ gg ∧ Aside0 (Filled w' g 183 s (mvRule k) (i.toNat * 6)) ∧ Aside0 (ButS S w w'))
  case atStart => exact ⟨0, by rw [Int.zero_mul, Int.add_zero], rfl, by omega, by omega, by omega, ⟨by rw [show (0 : Int).toNat * 6 = 0 from by decide]; exact HX.out⟩, HT⟩
  case round =>
    clear HX HT
    obtain ⟨i, rfl, rfl, hi0, hi, hgg, HX, HT⟩ := hrel
    by_cases hlt : i < n
    · have hm : i.toNat * 6 + 6 ≤ s := by omega
      have hxx := Aside0.mk (show k + i * 6 = k + (i.toNat : Int) * 6 by omega)
      go_wp2_with (first
        | ((with_reducible refine gate_store rfl ?_); (refine raw_fill (p := i.toNat * 6 + 0) rfl rfl _ _ _ rfl HX.out HG.out rfl (by first | rfl | (simp; done) | (simp; omega) | omega) (by rw [mvRule_0 k i.toNat _ hxx.out]; rfl) (by rw [mvRule_0 k i.toNat _ hxx.out]; rfl) (by rw [mvRule_0 k i.toNat _ hxx.out]; rfl) (by kernel_rfl) (by omega) ?_; intro w3 hf hb; clear HX; have HX := Aside0.mk hf; have n_ := Aside0.mk (HT.out.trans hb); clear HT; have HT := n_; clear n_ hf hb))
        | ((with_reducible refine gate_store rfl ?_); (refine raw_fill (p := i.toNat * 6 + 1) rfl rfl _ _ _ rfl HX.out HG.out rfl (by first | rfl | (simp; done) | (simp; omega) | omega) (by rw [mvRule_1 k i.toNat _ hxx.out]; rfl) (by rw [mvRule_1 k i.toNat _ hxx.out]; rfl) (by rw [mvRule_1 k i.toNat _ hxx.out]; rfl) (by kernel_rfl) (by omega) ?_; intro w3 hf hb; clear HX; have HX := Aside0.mk hf; have n_ := Aside0.mk (HT.out.trans hb); clear HT; have HT := n_; clear n_ hf hb))
        | ((with_reducible refine gate_store rfl ?_); (refine raw_fill (p := i.toNat * 6 + 2) rfl rfl _ _ _ rfl HX.out HG.out rfl (by first | rfl | (simp; done) | (simp; omega) | omega) (by rw [mvRule_2 k i.toNat _ hxx.out]; rfl) (by rw [mvRule_2 k i.toNat _ hxx.out]; rfl) (by rw [mvRule_2 k i.toNat _ hxx.out]; rfl) (by kernel_rfl) (by omega) ?_; intro w3 hf hb; clear HX; have HX := Aside0.mk hf; have n_ := Aside0.mk (HT.out.trans hb); clear HT; have HT := n_; clear n_ hf hb))
        | ((with_reducible refine gate_store rfl ?_); (refine raw_fill (p := i.toNat * 6 + 3) rfl rfl _ _ _ rfl HX.out HG.out rfl (by first | rfl | (simp; done) | (simp; omega) | omega) (by rw [mvRule_3 k i.toNat _ hxx.out]; rfl) (by rw [mvRule_3 k i.toNat _ hxx.out]; rfl) (by rw [mvRule_3 k i.toNat _ hxx.out]; rfl) (by kernel_rfl) (by omega) ?_; intro w3 hf hb; clear HX; have HX := Aside0.mk hf; have n_ := Aside0.mk (HT.out.trans hb); clear HT; have HT := n_; clear n_ hf hb))
        | ((with_reducible refine gate_store rfl ?_); (refine raw_fill (p := i.toNat * 6 + 4) rfl rfl _ _ _ rfl HX.out HG.out rfl (by first | rfl | (simp; done) | (simp; omega) | omega) (by rw [mvRule_4 k i.toNat _ hxx.out]; rfl) (by rw [mvRule_4 k i.toNat _ hxx.out]; rfl) (by rw [mvRule_4 k i.toNat _ hxx.out]; rfl) (by kernel_rfl) (by omega) ?_; intro w3 hf hb; clear HX; have HX := Aside0.mk hf; have n_ := Aside0.mk (HT.out.trans hb); clear HT; have HT := n_; clear n_ hf hb))
        | ((with_reducible refine gate_store rfl ?_); (refine raw_fill (p := i.toNat * 6 + 5) rfl rfl _ _ _ rfl HX.out HG.out rfl (by first | rfl | (simp; done) | (simp; omega) | omega) (by rw [mvRule_5 k i.toNat _ hxx.out]; rfl) (by rw [mvRule_5 k i.toNat _ hxx.out]; rfl) (by rw [mvRule_5 k i.toNat _ hxx.out]; rfl) (by kernel_rfl) (by omega) ?_; intro w3 hf hb; clear HX; have HX := Aside0.mk hf; have n_ := Aside0.mk (HT.out.trans hb); clear HT; have HT := n_; clear n_ hf hb)))
      go_roundg (n - (i + 1)).toNat
      case measure => omega
      case rel => exact ⟨i + 1, by congr 1; omega, rfl, by omega, by omega, by omega, ⟨by rw [show (i + 1).toNat * 6 = i.toNat * 6 + 6 by omega]; exact HX.out⟩, HT⟩
    · obtain rfl : i = n := by omega
      go_wp2
      go_ret
      exact ⟨rfl, by rw [Int.toNat_natCast] at HX; exact HX.out, HT.out⟩
end
section
-- NEEDS laws.eqConfig laws.markText
def TypeAt (w : World) (b e : Nat) : Prop := ∃ cur : Array Value, w.heap[b]? = some (Obj.cells cur e (0, 0))
theorem TypeAt.ne {w : World} {b e t : Nat} (h : TypeAt w b e) (ht : TypeAt w b t) : e = t := by
  obtain ⟨c1, h1⟩ := h
  obtain ⟨c2, h2⟩ := ht
  rw [h1] at h2
  injection h2 with h2
  injection h2 with _ h3 _
theorem TypeAt.but {S : Nat → Prop} {w W : World} {b e : Nat} (h : TypeAt w b e) (hb : ButS S w W) : TypeAt W b e := by
  obtain ⟨c1, h1⟩ := h
  obtain ⟨c2, h2, _⟩ := hb.shape b c1 e h1
  exact ⟨c2, h2⟩
/-- A row of n elements (type e, sz cells each) in a block of S. -/
def RowA (w : World) (S : Nat → Prop) (A : Option Addr) (n e sz : Nat) : Prop := n = 0 ∨ ∃ (g : Nat) (cur : Array Value), A = some ⟨g, 0, none⟩ ∧ S g ∧ w.heap[g]? = some (Obj.cells cur e (0, 0)) ∧ n * sz ≤ cur.size
theorem RowA.but {S T : Nat → Prop} {w W : World} {A : Option Addr} {n e sz : Nat} (h : RowA w S A n e sz) (hb : ButS T w W) : RowA W S A n e sz := by
  rcases h with h | ⟨g, cur, h1, h2, h3, h4⟩
  · exact .inl h
  · obtain ⟨c2, h5, h6⟩ := hb.shape g cur e h3
    exact .inr ⟨g, c2, h1, h2, h5, by rw [h6]; exact h4⟩
theorem RowA.typed {S : Nat → Prop} {w : World} {A : Option Addr} {n e sz : Nat} (h : RowA w S A n e sz) : RowA w (fun b => S b ∧ TypeAt w b e) A n e sz := by
  rcases h with h | ⟨g, cur, h1, h2, h3, h4⟩
  · exact .inl h
  · exact .inr ⟨g, cur, h1, ⟨h2, cur, h3⟩, h3, h4⟩
/-- A row of n elements that holds what 'mv' says. -/
def RowF (w : World) (A : Option Addr) (n e sz : Nat) (mv : Nat → Value) : Prop := n = 0 ∨ ∃ g s : Nat, A = some ⟨g, 0, none⟩ ∧ n * sz ≤ s ∧ Filled w g e s mv (n * sz)
theorem RowF.but {T : Nat → Prop} {w W : World} {A : Option Addr} {n e sz : Nat} {mv : Nat → Value} (h : RowF w A n e sz mv) (hb : ButS T w W) (hT : ∀ b, T b → ¬ TypeAt w b e) : RowF W A n e sz mv := by
  rcases h with h | ⟨g, s, h1, h2, h3⟩
  · exact .inl h
  · refine .inr ⟨g, s, h1, h2, h3.but hb (fun hg => hT g hg ?_)⟩
    obtain ⟨cur, h4, _⟩ := h3
    exact ⟨cur, h4⟩
theorem RowF.below {w W : World} {A : Option Addr} {n e sz : Nat} {mv : Nat → Value} (h : RowF w A n e sz mv) (hb : Below w.heap.size w W) : RowF W A n e sz mv := by
  rcases h with h | ⟨g, s, h1, h2, h3⟩
  · exact .inl h
  · exact .inr ⟨g, s, h1, h2, h3.below hb⟩
theorem RowF.far {T : Nat → Prop} {w W : World} {A : Option Addr} {n e sz : Nat} {mv : Nat → Value} (h : RowF w A n e sz mv) (hb : ButS T w W) (hT : ∀ g, A = some ⟨g, 0, none⟩ → ¬ T g) : RowF W A n e sz mv := by
  rcases h with h | ⟨g, s, h1, h2, h3⟩
  · exact .inl h
  · exact .inr ⟨g, s, h1, h2, h3.but hb (hT g h1)⟩
theorem blk_but {T : Nat → Prop} {w W : World} {g : Nat} {o : Obj} (h : w.heap[g]? = some o) (hb : ButS T w W) (hT : ¬ T g) : W.heap[g]? = some o := by
  have hl : g < w.heap.size := by
    rcases Nat.lt_or_ge g w.heap.size with hl | hl
    · exact hl
    · rw [Array.getElem?_eq_none hl] at h; cases h
  exact (hb.block g hl hT).trans h
set_option maxHeartbeats 8000000 in
set_option maxRecDepth 100000 in
theorem markUser0 (A : Option Addr) (c : Nat) (k : Int) (w : World) :
    Calls Tryz.prog 73 #[.slice A 0 c, .int .i64 k] w fun e w' => e = .returned (.int .i64 k) ∧ Below w.heap.size w w' := by
  have HB := Aside0.mk (Below.refl w.heap.size w)
  go_enter Tryz.func73, Tryz.ntmps73
  go_wp2
  go_loopg [1, 5] 0 (fun gg v1 v5 w' => v1 = .int .i64 k ∧ v5 = .int .i64 0 ∧ Aside0 (Below w.heap.size w w'))
  case atStart => exact ⟨rfl, rfl, HB⟩
  case round =>
    clear HB
    obtain ⟨rfl, rfl, HB⟩ := hrel
    go_wp2
    go_ret
    exact ⟨rfl, HB.out⟩
theorem markUserR {S : Nat → Prop} (A : Option Addr) (n c : Nat) (k : Int) (w : World) (h : RowA w S A n 92 6) (hz : n * 6 ≤ 1152921504606846) (k0 : 0 ≤ k) (k1 : k ≤ 1152921504606846) :
    Calls Tryz.prog 73 #[.slice A n c, .int .i64 k] w fun e w' => e = .returned (.int .i64 (k + n * 6)) ∧ RowF w' A n 92 6 (mvUser k) ∧ ButS S w w' := by
  rcases h with rfl | ⟨g, cur, rfl, hg, hc, hn⟩
  · refine (markUser0 A c k w).mono ?_
    rintro e w' ⟨rfl, hb⟩
    exact ⟨by simp, .inl rfl, ButS.of hb⟩
  · refine (markUser1 g cur.size n c k w (Filled.start hc _) hg hn hz k0 k1).mono ?_
    rintro e w' ⟨rfl, hf, hb⟩
    exact ⟨rfl, .inr ⟨g, _, rfl, hn, hf⟩, hb⟩
set_option maxHeartbeats 8000000 in
set_option maxRecDepth 100000 in
theorem heldUser0 (A : Option Addr) (c : Nat) (k : Int) (w : World) :
    Calls Tryz.prog 77 #[.slice A 0 c, .int .i64 k] w fun e w' => e = .returned (.int .i64 k) ∧ Below w.heap.size w w' := by
  have HB := Aside0.mk (Below.refl w.heap.size w)
  go_enter Tryz.func77, Tryz.ntmps77
  go_wp2
  go_loopg [1, 5] 0 (fun gg v1 v5 w' => v1 = .int .i64 k ∧ v5 = .int .i64 0 ∧ Aside0 (Below w.heap.size w w'))
  case atStart => exact ⟨rfl, rfl, HB⟩
  case round =>
    clear HB
    obtain ⟨rfl, rfl, HB⟩ := hrel
    go_wp2
    go_ret
    exact ⟨rfl, HB.out⟩
theorem heldUserR (A : Option Addr) (n c : Nat) (k : Int) (w : World) (h : RowF w A n 92 6 (mvUser k)) (hz : n * 6 ≤ 1152921504606846) (k0 : 0 ≤ k) (k1 : k ≤ 1152921504606846) :
    Calls Tryz.prog 77 #[.slice A n c, .int .i64 k] w fun e w' => e = .returned (.int .i64 (k + n * 6)) ∧ Below w.heap.size w w' := by
  rcases h with rfl | ⟨g, s, rfl, hn, hf⟩
  · refine (heldUser0 A c k w).mono ?_
    rintro e w' ⟨rfl, hb⟩
    exact ⟨by simp, hb⟩
  · exact heldUser1 g s n c k w hf hn hz k0 k1
set_option maxHeartbeats 8000000 in
set_option maxRecDepth 100000 in
theorem markSession0 (A : Option Addr) (c : Nat) (k : Int) (w : World) :
    Calls Tryz.prog 74 #[.slice A 0 c, .int .i64 k] w fun e w' => e = .returned (.int .i64 k) ∧ Below w.heap.size w w' := by
  have HB := Aside0.mk (Below.refl w.heap.size w)
  go_enter Tryz.func74, Tryz.ntmps74
  go_wp2
  go_loopg [1, 5] 0 (fun gg v1 v5 w' => v1 = .int .i64 k ∧ v5 = .int .i64 0 ∧ Aside0 (Below w.heap.size w w'))
  case atStart => exact ⟨rfl, rfl, HB⟩
  case round =>
    clear HB
    obtain ⟨rfl, rfl, HB⟩ := hrel
    go_wp2
    go_ret
    exact ⟨rfl, HB.out⟩
theorem markSessionR {S : Nat → Prop} (A : Option Addr) (n c : Nat) (k : Int) (w : World) (h : RowA w S A n 76 10) (hz : n * 10 ≤ 1152921504606846) (k0 : 0 ≤ k) (k1 : k ≤ 1152921504606846) :
    Calls Tryz.prog 74 #[.slice A n c, .int .i64 k] w fun e w' => e = .returned (.int .i64 (k + n * 10)) ∧ RowF w' A n 76 10 (mvSession k) ∧ ButS S w w' := by
  rcases h with rfl | ⟨g, cur, rfl, hg, hc, hn⟩
  · refine (markSession0 A c k w).mono ?_
    rintro e w' ⟨rfl, hb⟩
    exact ⟨by simp, .inl rfl, ButS.of hb⟩
  · refine (markSession1 g cur.size n c k w (Filled.start hc _) hg hn hz k0 k1).mono ?_
    rintro e w' ⟨rfl, hf, hb⟩
    exact ⟨rfl, .inr ⟨g, _, rfl, hn, hf⟩, hb⟩
set_option maxHeartbeats 8000000 in
set_option maxRecDepth 100000 in
theorem heldSession0 (A : Option Addr) (c : Nat) (k : Int) (w : World) :
    Calls Tryz.prog 78 #[.slice A 0 c, .int .i64 k] w fun e w' => e = .returned (.int .i64 k) ∧ Below w.heap.size w w' := by
  have HB := Aside0.mk (Below.refl w.heap.size w)
  go_enter Tryz.func78, Tryz.ntmps78
  go_wp2
  go_loopg [1, 5] 0 (fun gg v1 v5 w' => v1 = .int .i64 k ∧ v5 = .int .i64 0 ∧ Aside0 (Below w.heap.size w w'))
  case atStart => exact ⟨rfl, rfl, HB⟩
  case round =>
    clear HB
    obtain ⟨rfl, rfl, HB⟩ := hrel
    go_wp2
    go_ret
    exact ⟨rfl, HB.out⟩
theorem heldSessionR (A : Option Addr) (n c : Nat) (k : Int) (w : World) (h : RowF w A n 76 10 (mvSession k)) (hz : n * 10 ≤ 1152921504606846) (k0 : 0 ≤ k) (k1 : k ≤ 1152921504606846) :
    Calls Tryz.prog 78 #[.slice A n c, .int .i64 k] w fun e w' => e = .returned (.int .i64 (k + n * 10)) ∧ Below w.heap.size w w' := by
  rcases h with rfl | ⟨g, s, rfl, hn, hf⟩
  · refine (heldSession0 A c k w).mono ?_
    rintro e w' ⟨rfl, hb⟩
    exact ⟨by simp, hb⟩
  · exact heldSession1 g s n c k w hf hn hz k0 k1
set_option maxHeartbeats 8000000 in
set_option maxRecDepth 100000 in
theorem markFail0 (A : Option Addr) (c : Nat) (k : Int) (w : World) :
    Calls Tryz.prog 75 #[.slice A 0 c, .int .i64 k] w fun e w' => e = .returned (.int .i64 k) ∧ Below w.heap.size w w' := by
  have HB := Aside0.mk (Below.refl w.heap.size w)
  go_enter Tryz.func75, Tryz.ntmps75
  go_wp2
  go_loopg [1, 5] 0 (fun gg v1 v5 w' => v1 = .int .i64 k ∧ v5 = .int .i64 0 ∧ Aside0 (Below w.heap.size w w'))
  case atStart => exact ⟨rfl, rfl, HB⟩
  case round =>
    clear HB
    obtain ⟨rfl, rfl, HB⟩ := hrel
    go_wp2
    go_ret
    exact ⟨rfl, HB.out⟩
theorem markFailR {S : Nat → Prop} (A : Option Addr) (n c : Nat) (k : Int) (w : World) (h : RowA w S A n 81 3) (hz : n * 3 ≤ 1152921504606846) (k0 : 0 ≤ k) (k1 : k ≤ 1152921504606846) :
    Calls Tryz.prog 75 #[.slice A n c, .int .i64 k] w fun e w' => e = .returned (.int .i64 (k + n * 3)) ∧ RowF w' A n 81 3 (mvFail k) ∧ ButS S w w' := by
  rcases h with rfl | ⟨g, cur, rfl, hg, hc, hn⟩
  · refine (markFail0 A c k w).mono ?_
    rintro e w' ⟨rfl, hb⟩
    exact ⟨by simp, .inl rfl, ButS.of hb⟩
  · refine (markFail1 g cur.size n c k w (Filled.start hc _) hg hn hz k0 k1).mono ?_
    rintro e w' ⟨rfl, hf, hb⟩
    exact ⟨rfl, .inr ⟨g, _, rfl, hn, hf⟩, hb⟩
set_option maxHeartbeats 8000000 in
set_option maxRecDepth 100000 in
theorem heldFail0 (A : Option Addr) (c : Nat) (k : Int) (w : World) :
    Calls Tryz.prog 79 #[.slice A 0 c, .int .i64 k] w fun e w' => e = .returned (.int .i64 k) ∧ Below w.heap.size w w' := by
  have HB := Aside0.mk (Below.refl w.heap.size w)
  go_enter Tryz.func79, Tryz.ntmps79
  go_wp2
  go_loopg [1, 5] 0 (fun gg v1 v5 w' => v1 = .int .i64 k ∧ v5 = .int .i64 0 ∧ Aside0 (Below w.heap.size w w'))
  case atStart => exact ⟨rfl, rfl, HB⟩
  case round =>
    clear HB
    obtain ⟨rfl, rfl, HB⟩ := hrel
    go_wp2
    go_ret
    exact ⟨rfl, HB.out⟩
theorem heldFailR (A : Option Addr) (n c : Nat) (k : Int) (w : World) (h : RowF w A n 81 3 (mvFail k)) (hz : n * 3 ≤ 1152921504606846) (k0 : 0 ≤ k) (k1 : k ≤ 1152921504606846) :
    Calls Tryz.prog 79 #[.slice A n c, .int .i64 k] w fun e w' => e = .returned (.int .i64 (k + n * 3)) ∧ Below w.heap.size w w' := by
  rcases h with rfl | ⟨g, s, rfl, hn, hf⟩
  · refine (heldFail0 A c k w).mono ?_
    rintro e w' ⟨rfl, hb⟩
    exact ⟨by simp, hb⟩
  · exact heldFail1 g s n c k w hf hn hz k0 k1
set_option maxHeartbeats 8000000 in
set_option maxRecDepth 100000 in
theorem markRecord0 (A : Option Addr) (c : Nat) (k : Int) (w : World) :
    Calls Tryz.prog 76 #[.slice A 0 c, .int .i64 k] w fun e w' => e = .returned (.int .i64 k) ∧ Below w.heap.size w w' := by
  have HB := Aside0.mk (Below.refl w.heap.size w)
  go_enter Tryz.func76, Tryz.ntmps76
  go_wp2
  go_loopg [1, 5] 0 (fun gg v1 v5 w' => v1 = .int .i64 k ∧ v5 = .int .i64 0 ∧ Aside0 (Below w.heap.size w w'))
  case atStart => exact ⟨rfl, rfl, HB⟩
  case round =>
    clear HB
    obtain ⟨rfl, rfl, HB⟩ := hrel
    go_wp2
    go_ret
    exact ⟨rfl, HB.out⟩
theorem markRecordR {S : Nat → Prop} (A : Option Addr) (n c : Nat) (k : Int) (w : World) (h : RowA w S A n 83 5) (hz : n * 5 ≤ 1152921504606846) (k0 : 0 ≤ k) (k1 : k ≤ 1152921504606846) :
    Calls Tryz.prog 76 #[.slice A n c, .int .i64 k] w fun e w' => e = .returned (.int .i64 (k + n * 5)) ∧ RowF w' A n 83 5 (mvRecord k) ∧ ButS S w w' := by
  rcases h with rfl | ⟨g, cur, rfl, hg, hc, hn⟩
  · refine (markRecord0 A c k w).mono ?_
    rintro e w' ⟨rfl, hb⟩
    exact ⟨by simp, .inl rfl, ButS.of hb⟩
  · refine (markRecord1 g cur.size n c k w (Filled.start hc _) hg hn hz k0 k1).mono ?_
    rintro e w' ⟨rfl, hf, hb⟩
    exact ⟨rfl, .inr ⟨g, _, rfl, hn, hf⟩, hb⟩
set_option maxHeartbeats 8000000 in
set_option maxRecDepth 100000 in
theorem heldRecord0 (A : Option Addr) (c : Nat) (k : Int) (w : World) :
    Calls Tryz.prog 80 #[.slice A 0 c, .int .i64 k] w fun e w' => e = .returned (.int .i64 k) ∧ Below w.heap.size w w' := by
  have HB := Aside0.mk (Below.refl w.heap.size w)
  go_enter Tryz.func80, Tryz.ntmps80
  go_wp2
  go_loopg [1, 5] 0 (fun gg v1 v5 w' => v1 = .int .i64 k ∧ v5 = .int .i64 0 ∧ Aside0 (Below w.heap.size w w'))
  case atStart => exact ⟨rfl, rfl, HB⟩
  case round =>
    clear HB
    obtain ⟨rfl, rfl, HB⟩ := hrel
    go_wp2
    go_ret
    exact ⟨rfl, HB.out⟩
theorem heldRecordR (A : Option Addr) (n c : Nat) (k : Int) (w : World) (h : RowF w A n 83 5 (mvRecord k)) (hz : n * 5 ≤ 1152921504606846) (k0 : 0 ≤ k) (k1 : k ≤ 1152921504606846) :
    Calls Tryz.prog 80 #[.slice A n c, .int .i64 k] w fun e w' => e = .returned (.int .i64 (k + n * 5)) ∧ Below w.heap.size w w' := by
  rcases h with rfl | ⟨g, s, rfl, hn, hf⟩
  · refine (heldRecord0 A c k w).mono ?_
    rintro e w' ⟨rfl, hb⟩
    exact ⟨by simp, hb⟩
  · exact heldRecord1 g s n c k w hf hn hz k0 k1
set_option maxHeartbeats 8000000 in
set_option maxRecDepth 100000 in
theorem markPlace0 (A : Option Addr) (c : Nat) (k : Int) (w : World) :
    Calls Tryz.prog 71 #[.slice A 0 c, .int .i64 k] w fun e w' => e = .returned (.int .i64 k) ∧ Below w.heap.size w w' := by
  have HB := Aside0.mk (Below.refl w.heap.size w)
  go_enter Tryz.func71, Tryz.ntmps71
  go_wp2
  go_loopg [1, 5] 0 (fun gg v1 v5 w' => v1 = .int .i64 k ∧ v5 = .int .i64 0 ∧ Aside0 (Below w.heap.size w w'))
  case atStart => exact ⟨rfl, rfl, HB⟩
  case round =>
    clear HB
    obtain ⟨rfl, rfl, HB⟩ := hrel
    go_wp2
    go_ret
    exact ⟨rfl, HB.out⟩
theorem markPlaceR {S : Nat → Prop} (A : Option Addr) (n c : Nat) (k : Int) (w : World) (h : RowA w S A n 140 4) (hz : n * 4 ≤ 1152921504606846) (k0 : 0 ≤ k) (k1 : k ≤ 1152921504606846) :
    Calls Tryz.prog 71 #[.slice A n c, .int .i64 k] w fun e w' => e = .returned (.int .i64 (k + n * 4)) ∧ RowF w' A n 140 4 (mvPlace k) ∧ ButS S w w' := by
  rcases h with rfl | ⟨g, cur, rfl, hg, hc, hn⟩
  · refine (markPlace0 A c k w).mono ?_
    rintro e w' ⟨rfl, hb⟩
    exact ⟨by simp, .inl rfl, ButS.of hb⟩
  · refine (markPlace1 g cur.size n c k w (Filled.start hc _) hg hn hz k0 k1).mono ?_
    rintro e w' ⟨rfl, hf, hb⟩
    exact ⟨rfl, .inr ⟨g, _, rfl, hn, hf⟩, hb⟩
set_option maxHeartbeats 8000000 in
set_option maxRecDepth 100000 in
theorem markRule0 (A : Option Addr) (c : Nat) (k : Int) (w : World) :
    Calls Tryz.prog 128 #[.slice A 0 c, .int .i64 k] w fun e w' => e = .returned (.int .i64 k) ∧ Below w.heap.size w w' := by
  have HB := Aside0.mk (Below.refl w.heap.size w)
  go_enter Tryz.func128, Tryz.ntmps128
  go_wp2
  go_loopg [1, 5] 0 (fun gg v1 v5 w' => v1 = .int .i64 k ∧ v5 = .int .i64 0 ∧ Aside0 (Below w.heap.size w w'))
  case atStart => exact ⟨rfl, rfl, HB⟩
  case round =>
    clear HB
    obtain ⟨rfl, rfl, HB⟩ := hrel
    go_wp2
    go_ret
    exact ⟨rfl, HB.out⟩
theorem markRuleR {S : Nat → Prop} (A : Option Addr) (n c : Nat) (k : Int) (w : World) (h : RowA w S A n 183 6) (hz : n * 6 ≤ 1152921504606846) (k0 : 0 ≤ k) (k1 : k ≤ 1152921504606846) :
    Calls Tryz.prog 128 #[.slice A n c, .int .i64 k] w fun e w' => e = .returned (.int .i64 (k + n * 6)) ∧ RowF w' A n 183 6 (mvRule k) ∧ ButS S w w' := by
  rcases h with rfl | ⟨g, cur, rfl, hg, hc, hn⟩
  · refine (markRule0 A c k w).mono ?_
    rintro e w' ⟨rfl, hb⟩
    exact ⟨by simp, .inl rfl, ButS.of hb⟩
  · refine (markRule1 g cur.size n c k w (Filled.start hc _) hg hn hz k0 k1).mono ?_
    rintro e w' ⟨rfl, hf, hb⟩
    exact ⟨rfl, .inr ⟨g, _, rfl, hn, hf⟩, hb⟩
set_option maxHeartbeats 8000000 in
set_option maxRecDepth 100000 in
theorem markG1 {S : Nat → Prop} (B0 B1 B2 B3 : Option Addr) (n0 n1 n2 n3 d0 d1 d2 d3 : Nat) (nx k : Int) (w : World) (h0 : RowA w S B0 n0 92 6) (h1 : RowA w S B1 n1 76 10) (h2 : RowA w S B2 n2 81 3) (h3 : RowA w S B3 n3 83 5) (hS : ∀ b, S b → b < w.heap.size) (z0 : n0 ≤ 1048576) (z1 : n1 ≤ 1048576) (z2 : n2 ≤ 1048576) (z3 : n3 ≤ 1048576) (k0 : 0 ≤ k) (k1 : k ≤ 1125899906842624) :
    Calls Tryz.prog 18 #[.agg #[.slice B0 n0 d0, .slice B1 n1 d1, .slice B2 n2 d2, .slice B3 n3 d3, .int .i64 nx], .int .i64 k] w fun e w' => e = .returned (.int .i64 (k + n0 * 6 + n1 * 10 + n2 * 3 + n3 * 5)) ∧ RowF w' B0 n0 92 6 (mvUser (k)) ∧ RowF w' B1 n1 76 10 (mvSession (k + n0 * 6)) ∧ RowF w' B2 n2 81 3 (mvFail (k + n0 * 6 + n1 * 10)) ∧ RowF w' B3 n3 83 5 (mvRecord (k + n0 * 6 + n1 * 10 + n2 * 3)) ∧ ButS S w w' := by
  have hu := Tryz.underlying48
  have HR0 := Aside0.mk h0.typed
  clear h0
  have HR1 := Aside0.mk h1.typed
  clear h1
  have HR2 := Aside0.mk h2.typed
  clear h2
  have HR3 := Aside0.mk h3.typed
  clear h3
  have HS := Aside0.mk hS
  clear hS
  have HT := Aside0.mk (ButS.refl S w)
  go_enter Tryz.func18, Tryz.ntmps18
  go_wp2_with (first
    | (go_at_call 73; go_loud (refine (markUserR (S := fun b => S b ∧ TypeAt w b 92) B0 n0 _ _ _ (HR0.out.but (ButS.of (S := fun _ => False) (below_alloc (Below.refl _ _) _))) (by omega) (by omega) (by omega)).mono ?_; rintro e w2 ⟨rfl, hf, hb⟩; have HF0 := Aside0.mk hf; clear hf; have n_ := Aside0.mk (blk_but (g := w.heap.size) (o := .cells #[.slice B0 n0 d0, .slice B1 n1 d1, .slice B2 n2 d2, .slice B3 n3 d3, .int .i64 nx] 48 (0, 0)) (by first | exact HX.out | exact blk_new _ _) hb (fun h => Nat.lt_irrefl _ (HS.out _ h.1))); (try clear HX); have HX := n_; clear n_; have n_ := Aside0.mk ((HT.out.trans (ButS.of (below_alloc (Below.refl _ _) _))).trans (hb.mono (fun b h => h.1))); clear HT; have HT := n_; clear n_ hb; (try clear cx hzx); have cx := blk_cell HX.out; have hzx := blk_lt HX.out))
    | (go_at_call 74; go_loud (refine (markSessionR (S := fun b => S b ∧ TypeAt w b 76) B1 n1 _ _ _ (HR1.out.but HT.out) (by omega) (by omega) (by omega)).mono ?_; rintro e w2 ⟨rfl, hf, hb⟩; have HF1 := Aside0.mk hf; clear hf; have n_ := Aside0.mk (blk_but (g := w.heap.size) (o := .cells #[.slice B0 n0 d0, .slice B1 n1 d1, .slice B2 n2 d2, .slice B3 n3 d3, .int .i64 nx] 48 (0, 0)) (by first | exact HX.out | exact blk_new _ _) hb (fun h => Nat.lt_irrefl _ (HS.out _ h.1))); (try clear HX); have HX := n_; clear n_; have n_ := Aside0.mk (HF0.out.but hb (fun b h1 h2 => absurd ((h1.2.but HT.out).ne h2) (by decide))); clear HF0; have HF0 := n_; clear n_; have n_ := Aside0.mk (HT.out.trans (hb.mono (fun b h => h.1))); clear HT; have HT := n_; clear n_ hb; (try clear cx hzx); have cx := blk_cell HX.out; have hzx := blk_lt HX.out))
    | (go_at_call 75; go_loud (refine (markFailR (S := fun b => S b ∧ TypeAt w b 81) B2 n2 _ _ _ (HR2.out.but HT.out) (by omega) (by omega) (by omega)).mono ?_; rintro e w2 ⟨rfl, hf, hb⟩; have HF2 := Aside0.mk hf; clear hf; have n_ := Aside0.mk (blk_but (g := w.heap.size) (o := .cells #[.slice B0 n0 d0, .slice B1 n1 d1, .slice B2 n2 d2, .slice B3 n3 d3, .int .i64 nx] 48 (0, 0)) (by first | exact HX.out | exact blk_new _ _) hb (fun h => Nat.lt_irrefl _ (HS.out _ h.1))); (try clear HX); have HX := n_; clear n_; have n_ := Aside0.mk (HF0.out.but hb (fun b h1 h2 => absurd ((h1.2.but HT.out).ne h2) (by decide))); clear HF0; have HF0 := n_; clear n_; have n_ := Aside0.mk (HF1.out.but hb (fun b h1 h2 => absurd ((h1.2.but HT.out).ne h2) (by decide))); clear HF1; have HF1 := n_; clear n_; have n_ := Aside0.mk (HT.out.trans (hb.mono (fun b h => h.1))); clear HT; have HT := n_; clear n_ hb; (try clear cx hzx); have cx := blk_cell HX.out; have hzx := blk_lt HX.out))
    | (go_at_call 76; go_loud (refine (markRecordR (S := fun b => S b ∧ TypeAt w b 83) B3 n3 _ _ _ (HR3.out.but HT.out) (by omega) (by omega) (by omega)).mono ?_; rintro e w2 ⟨rfl, hf, hb⟩; have HF3 := Aside0.mk hf; clear hf; have n_ := Aside0.mk (blk_but (g := w.heap.size) (o := .cells #[.slice B0 n0 d0, .slice B1 n1 d1, .slice B2 n2 d2, .slice B3 n3 d3, .int .i64 nx] 48 (0, 0)) (by first | exact HX.out | exact blk_new _ _) hb (fun h => Nat.lt_irrefl _ (HS.out _ h.1))); (try clear HX); have HX := n_; clear n_; have n_ := Aside0.mk (HF0.out.but hb (fun b h1 h2 => absurd ((h1.2.but HT.out).ne h2) (by decide))); clear HF0; have HF0 := n_; clear n_; have n_ := Aside0.mk (HF1.out.but hb (fun b h1 h2 => absurd ((h1.2.but HT.out).ne h2) (by decide))); clear HF1; have HF1 := n_; clear n_; have n_ := Aside0.mk (HF2.out.but hb (fun b h1 h2 => absurd ((h1.2.but HT.out).ne h2) (by decide))); clear HF2; have HF2 := n_; clear n_; have n_ := Aside0.mk (HT.out.trans (hb.mono (fun b h => h.1))); clear HT; have HT := n_; clear n_ hb; (try clear cx hzx); have cx := blk_cell HX.out; have hzx := blk_lt HX.out)))
  go_ret
  exact ⟨rfl, HF0.out, HF1.out, HF2.out, HF3.out, HT.out⟩
set_option maxHeartbeats 8000000 in
set_option maxRecDepth 100000 in
theorem heldG1 (B0 B1 B2 B3 : Option Addr) (n0 n1 n2 n3 d0 d1 d2 d3 : Nat) (nx k : Int) (w : World) (h0 : RowF w B0 n0 92 6 (mvUser (k))) (h1 : RowF w B1 n1 76 10 (mvSession (k + n0 * 6))) (h2 : RowF w B2 n2 81 3 (mvFail (k + n0 * 6 + n1 * 10))) (h3 : RowF w B3 n3 83 5 (mvRecord (k + n0 * 6 + n1 * 10 + n2 * 3))) (z0 : n0 ≤ 1048576) (z1 : n1 ≤ 1048576) (z2 : n2 ≤ 1048576) (z3 : n3 ≤ 1048576) (k0 : 0 ≤ k) (k1 : k ≤ 1125899906842624) :
    Calls Tryz.prog 19 #[.agg #[.slice B0 n0 d0, .slice B1 n1 d1, .slice B2 n2 d2, .slice B3 n3 d3, .int .i64 nx], .int .i64 k] w fun e w' => e = .returned (.int .i64 (k + n0 * 6 + n1 * 10 + n2 * 3 + n3 * 5)) ∧ Below w.heap.size w w' := by
  have hu := Tryz.underlying48
  have HR0 := Aside0.mk h0
  clear h0
  have HR1 := Aside0.mk h1
  clear h1
  have HR2 := Aside0.mk h2
  clear h2
  have HR3 := Aside0.mk h3
  clear h3
  have HB := Aside0.mk (Below.refl w.heap.size w)
  have HP := Aside0.mk True.intro
  go_enter Tryz.func19, Tryz.ntmps19
  go_wp2_with (first
    | (go_at_call 77; go_loud (refine (heldUserR B0 n0 _ _ _ (HR0.out.below (w := w) (by repeat' (with_reducible first | exact HB.out | apply below_alloc | apply below_drew1 | refine below_set ?_ (by omega)))) (by omega) (by omega) (by omega)).mono ?_; rintro e w2 ⟨rfl, hb⟩; have n_ := Aside0.mk (below_step (w := w) (by repeat' (with_reducible first | exact HB.out | apply below_alloc | apply below_drew1 | refine below_set ?_ (by omega))) hb); clear HB; have HB := n_; clear n_; have n_ := Aside0.mk (blk_below (g := w.heap.size) (o := .cells #[.slice B0 n0 d0, .slice B1 n1 d1, .slice B2 n2 d2, .slice B3 n3 d3, .int .i64 nx] 48 (0, 0)) (by repeat' (with_reducible first | exact HX.out | exact blk_new _ _ | refine blk_alloc ?_ _ | refine blk_drew ?_ | refine blk_far ?_ (by dsimp only; omega) _)) hb); (try clear HX); have HX := n_; clear n_; obtain ⟨hc, hf⟩ := bcell hb; have hz : w.heap.size < w2.heap.size := blk_lt HX.out; clear hb))
    | (go_at_call 78; go_loud (refine (heldSessionR B1 n1 _ _ _ (HR1.out.below (w := w) (by repeat' (with_reducible first | exact HB.out | apply below_alloc | apply below_drew1 | refine below_set ?_ (by omega)))) (by omega) (by omega) (by omega)).mono ?_; rintro e w2 ⟨rfl, hb⟩; have n_ := Aside0.mk (below_step (w := w) (by repeat' (with_reducible first | exact HB.out | apply below_alloc | apply below_drew1 | refine below_set ?_ (by omega))) hb); clear HB; have HB := n_; clear n_; have n_ := Aside0.mk (blk_below (g := w.heap.size) (o := .cells #[.slice B0 n0 d0, .slice B1 n1 d1, .slice B2 n2 d2, .slice B3 n3 d3, .int .i64 nx] 48 (0, 0)) (by repeat' (with_reducible first | exact HX.out | exact blk_new _ _ | refine blk_alloc ?_ _ | refine blk_drew ?_ | refine blk_far ?_ (by dsimp only; omega) _)) hb); (try clear HX); have HX := n_; clear n_; obtain ⟨hc, hf⟩ := bcell hb; have hz : w.heap.size < w2.heap.size := blk_lt HX.out; clear hb))
    | (go_at_call 79; go_loud (refine (heldFailR B2 n2 _ _ _ (HR2.out.below (w := w) (by repeat' (with_reducible first | exact HB.out | apply below_alloc | apply below_drew1 | refine below_set ?_ (by omega)))) (by omega) (by omega) (by omega)).mono ?_; rintro e w2 ⟨rfl, hb⟩; have n_ := Aside0.mk (below_step (w := w) (by repeat' (with_reducible first | exact HB.out | apply below_alloc | apply below_drew1 | refine below_set ?_ (by omega))) hb); clear HB; have HB := n_; clear n_; have n_ := Aside0.mk (blk_below (g := w.heap.size) (o := .cells #[.slice B0 n0 d0, .slice B1 n1 d1, .slice B2 n2 d2, .slice B3 n3 d3, .int .i64 nx] 48 (0, 0)) (by repeat' (with_reducible first | exact HX.out | exact blk_new _ _ | refine blk_alloc ?_ _ | refine blk_drew ?_ | refine blk_far ?_ (by dsimp only; omega) _)) hb); (try clear HX); have HX := n_; clear n_; obtain ⟨hc, hf⟩ := bcell hb; have hz : w.heap.size < w2.heap.size := blk_lt HX.out; clear hb))
    | (go_at_call 80; go_loud (refine (heldRecordR B3 n3 _ _ _ (HR3.out.below (w := w) (by repeat' (with_reducible first | exact HB.out | apply below_alloc | apply below_drew1 | refine below_set ?_ (by omega)))) (by omega) (by omega) (by omega)).mono ?_; rintro e w2 ⟨rfl, hb⟩; have n_ := Aside0.mk (below_step (w := w) (by repeat' (with_reducible first | exact HB.out | apply below_alloc | apply below_drew1 | refine below_set ?_ (by omega))) hb); clear HB; have HB := n_; clear n_; have n_ := Aside0.mk (blk_below (g := w.heap.size) (o := .cells #[.slice B0 n0 d0, .slice B1 n1 d1, .slice B2 n2 d2, .slice B3 n3 d3, .int .i64 nx] 48 (0, 0)) (by repeat' (with_reducible first | exact HX.out | exact blk_new _ _ | refine blk_alloc ?_ _ | refine blk_drew ?_ | refine blk_far ?_ (by dsimp only; omega) _)) hb); (try clear HX); have HX := n_; clear n_; obtain ⟨hc, hf⟩ := bcell hb; have hz : w.heap.size < w2.heap.size := blk_lt HX.out; clear hb)))
  go_ret
  exact ⟨rfl, HB.out⟩
end
end Go.Proofs.YtkklokkldgkacaaGreat.X
