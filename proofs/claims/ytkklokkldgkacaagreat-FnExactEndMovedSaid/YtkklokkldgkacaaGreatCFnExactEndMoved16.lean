/- Texts that the row of FnExactEndMoved stands on: functions of the program and of the reference, each as a Lean function with the same answers, and the plain lemmas. Conditions: none beside those that each theorem names. -/
import Derived.Test.YtkklokkldgkacaaGreatCFnExactEndMoved15
namespace Go.Proofs.YtkklokkldgkacaaGreat.X
open Go.RowKit Go.Proofs.YtkklokkldgkacaaGreatW.PrintWords Go.Proofs.YtkklokkldgkacaaGreatW.PrintLast Go.Proofs.YtkklokkldgkacaaGreatW.PrintMore
attribute [local go_sem] max2_int min2_int max_two min_two max_three min_three max_four min_four   -- for this text's walks alone
set_option linter.unusedVariables false
set_option linter.unusedSimpArgs false
section
-- NEEDS laws.eqConfig laws.eqIntS laws.markText
def mvInt (k : Int) (p : Nat) : Value := .int .i64 (k + p)
set_option maxHeartbeats 8000000 in
set_option maxRecDepth 100000 in
theorem markInt1 {S : Nat → Prop} (g s n c : Nat) (k : Int) (w : World) (HX : Filled w g 3 s (mvInt k) 0) (hg : S g) (hn : n ≤ s) (hz : n ≤ 1152921504606846) (k0 : 0 ≤ k) (k1 : k ≤ 1152921504606846) :
    Calls Tryz.prog 23 #[.slice (some ⟨g, 0, none⟩) n c, .int .i64 k] w fun e w' => e = .returned (.int .i64 (k + n)) ∧ Filled w' g 3 s (mvInt k) n ∧ ButS S w w' := by
  have HX := Aside0.mk HX
  have HG := Aside0.mk hg
  have HT := Aside0.mk (ButS.refl S w)
  clear hg
  go_enter Tryz.func23, Tryz.ntmps23
  go_wp2
  go_loopg [1, 5] n (fun gg v1 v5 w' => ∃ i : Int, v1 = .int .i64 (k + i) ∧ v5 = .int .i64 i ∧ 0 ≤ i ∧ i ≤ n ∧ n - i ≤ gg ∧ Aside0 (Filled w' g 3 s (mvInt k) i.toNat) ∧ Aside0 (ButS S w w'))
  case atStart => exact ⟨0, by rw [Int.add_zero], rfl, by omega, by omega, by omega, HX, HT⟩
  case round =>
    clear HX HT
    obtain ⟨i, rfl, rfl, hi0, hi, hgg, HX, HT⟩ := hrel
    by_cases hlt : i < n
    · have hm : i.toNat + 1 ≤ s := by omega
      have hxx := Aside0.mk (show mvInt k i.toNat = .int .i64 (k + i) by unfold mvInt; rw [Int.toNat_of_nonneg hi0])
      go_wp2_with (first
        | ((with_reducible refine gate_store rfl ?_); go_loud (refine raw_fill (p := i.toNat) rfl rfl _ _ _ rfl HX.out HG.out rfl (by first | rfl | (simp; done) | (simp; omega) | omega) (by rw [hxx.out]; rfl) (by rw [hxx.out]; rfl) (by rw [hxx.out]; rfl) (by kernel_rfl) (by omega) ?_; intro w3 hf hb; clear HX; have HX := Aside0.mk hf; have n_ := Aside0.mk (HT.out.trans hb); clear HT; have HT := n_; clear n_ hf hb)))
      go_roundg (n - (i + 1)).toNat
      case measure => omega
      case rel => exact ⟨i + 1, by congr 1; omega, rfl, by omega, by omega, by omega, ⟨by rw [show (i + 1).toNat = i.toNat + 1 by omega]; exact HX.out⟩, HT⟩
    · obtain rfl : i = n := by omega
      go_wp2
      go_ret
      exact ⟨rfl, by rw [Int.toNat_natCast] at HX; exact HX.out, HT.out⟩
set_option maxHeartbeats 8000000 in
set_option maxRecDepth 100000 in
theorem heldInt1 (g s n c : Nat) (k : Int) (w : World) (HX : Filled w g 3 s (mvInt k) n) (hn : n ≤ s) (hz : n ≤ 1152921504606846) (k0 : 0 ≤ k) (k1 : k ≤ 1152921504606846) :
    Calls Tryz.prog 24 #[.slice (some ⟨g, 0, none⟩) n c, .int .i64 k] w fun e w' => e = .returned (.int .i64 (k + n)) ∧ Below w.heap.size w w' := by
  have HX := Aside0.mk HX
  have HB := Aside0.mk (Below.refl w.heap.size w)
  go_enter Tryz.func24, Tryz.ntmps24
  go_wp2
  go_loopg [1, 5] n (fun gg v1 v5 w' => ∃ i : Int, v1 = .int .i64 (k + i) ∧ v5 = .int .i64 i ∧ 0 ≤ i ∧ i ≤ n ∧ n - i ≤ gg ∧ Aside0 (Below w.heap.size w w'))
  case atStart => exact ⟨0, by rw [Int.add_zero], rfl, by omega, by omega, by omega, HB⟩
  case round =>
    clear HB
    obtain ⟨i, rfl, rfl, hi0, hi, hgg, HB⟩ := hrel
    by_cases hlt : i < n
    · have hxx := Aside0.mk (show mvInt k i.toNat = .int .i64 (k + i) by unfold mvInt; rw [Int.toNat_of_nonneg hi0])
      have r0 := ((HX.out.below HB.out).cell i.toNat (by omega)).trans (congrArg some hxx.out)
      go_wp2
      clear r0
      go_roundg (n - (i + 1)).toNat
      case measure => omega
      case rel => exact ⟨i + 1, by congr 1; omega, rfl, by omega, by omega, by omega, HB⟩
    · obtain rfl : i = n := by omega
      go_wp2
      go_ret
      exact ⟨rfl, HB.out⟩
set_option maxHeartbeats 8000000 in
set_option maxRecDepth 100000 in
theorem markInt0 (A : Option Addr) (c : Nat) (k : Int) (w : World) :
    Calls Tryz.prog 23 #[.slice A 0 c, .int .i64 k] w fun e w' => e = .returned (.int .i64 k) ∧ Below w.heap.size w w' := by
  have HB := Aside0.mk (Below.refl w.heap.size w)
  go_enter Tryz.func23, Tryz.ntmps23
  go_wp2
  go_loopg [1, 5] 0 (fun gg v1 v5 w' => v1 = .int .i64 k ∧ v5 = .int .i64 0 ∧ Aside0 (Below w.heap.size w w'))
  case atStart => exact ⟨rfl, rfl, HB⟩
  case round =>
    clear HB
    obtain ⟨rfl, rfl, HB⟩ := hrel
    go_wp2
    go_ret
    exact ⟨rfl, HB.out⟩
set_option maxHeartbeats 8000000 in
set_option maxRecDepth 100000 in
theorem heldInt0 (A : Option Addr) (c : Nat) (k : Int) (w : World) :
    Calls Tryz.prog 24 #[.slice A 0 c, .int .i64 k] w fun e w' => e = .returned (.int .i64 k) ∧ Below w.heap.size w w' := by
  have HB := Aside0.mk (Below.refl w.heap.size w)
  go_enter Tryz.func24, Tryz.ntmps24
  go_wp2
  go_loopg [1, 5] 0 (fun gg v1 v5 w' => v1 = .int .i64 k ∧ v5 = .int .i64 0 ∧ Aside0 (Below w.heap.size w w'))
  case atStart => exact ⟨rfl, rfl, HB⟩
  case round =>
    clear HB
    obtain ⟨rfl, rfl, HB⟩ := hrel
    go_wp2
    go_ret
    exact ⟨rfl, HB.out⟩
theorem markIntR {S : Nat → Prop} (A : Option Addr) (n c : Nat) (k : Int) (w : World) (h : RowA w S A n 3 1) (hz : n ≤ 1152921504606846) (k0 : 0 ≤ k) (k1 : k ≤ 1152921504606846) :
    Calls Tryz.prog 23 #[.slice A n c, .int .i64 k] w fun e w' => e = .returned (.int .i64 (k + n)) ∧ RowF w' A n 3 1 (mvInt k) ∧ ButS S w w' := by
  rcases h with rfl | ⟨g, cur, rfl, hg, hc, hn⟩
  · refine (markInt0 A c k w).mono ?_
    rintro e w' ⟨rfl, hb⟩
    exact ⟨by simp, .inl rfl, ButS.of hb⟩
  · refine (markInt1 g cur.size n c k w (Filled.start hc _) hg (by omega) hz k0 k1).mono ?_
    rintro e w' ⟨rfl, hf, hb⟩
    exact ⟨rfl, .inr ⟨g, _, rfl, hn, by rw [Nat.mul_one]; exact hf⟩, hb⟩
theorem heldIntR (A : Option Addr) (n c : Nat) (k : Int) (w : World) (h : RowF w A n 3 1 (mvInt k)) (hz : n ≤ 1152921504606846) (k0 : 0 ≤ k) (k1 : k ≤ 1152921504606846) :
    Calls Tryz.prog 24 #[.slice A n c, .int .i64 k] w fun e w' => e = .returned (.int .i64 (k + n)) ∧ Below w.heap.size w w' := by
  rcases h with rfl | ⟨g, s, rfl, hn, hf⟩
  · refine (heldInt0 A c k w).mono ?_
    rintro e w' ⟨rfl, hb⟩
    exact ⟨by simp, hb⟩
  · rw [Nat.mul_one] at hf hn
    exact heldInt1 g s n c k w hf hn hz k0 k1
theorem eqInt_l0 (l : List Int) (hl : l.length ≤ 1048577) : ∀ (n : Nat) (i : Int), 0 ≤ i → (l.length : Int) - i ≤ n → laws_eqIntS.l0 (n + 1) l l i = some true := by
  intro n
  induction n with
  | zero =>
    intro i h0 h1
    rw [laws_eqIntS.l0]
    rw [if_neg (by omega)]
  | succ n ih =>
    intro i h0 h1
    rw [laws_eqIntS.l0]
    split
    · rename_i hlt
      rw [if_pos rfl, show wrap64 (i + 1) = i + 1 from by rw [wrap64]; omega]
      exact ih (i + 1) (by omega) (by omega)
    · rfl
theorem eqIntR (l : List Int) (A0 A1 : Option Addr) (c0 c1 : Nat) (w : World) (h0 : Kd.C (Kd.int .i64) w A0 l.length l) (m0 : l.length ≤ c0) (h1 : Kd.C (Kd.int .i64) w A1 l.length l) (m1 : l.length ≤ c1) (hl : l.length ≤ 1048577) :
    Calls Tryz.prog 22 #[.slice A0 l.length c0, .slice A1 l.length c1] w fun e w' => e = .returned (.bool true) ∧ Below w.heap.size w w' := by
  refine (laws_eqIntS.calls (l.length + 1) A0 c0 l A1 c1 l true w h0 m0 h1 m1 (by rw [laws_eqIntS.f, if_pos rfl]; exact eqInt_l0 l hl l.length 0 (Int.le_refl _) (by omega))).mono ?_
  rintro e w2 ⟨rfl, hd⟩
  exact ⟨rfl, hd.below⟩
end
section
-- NEEDS laws.eqConfig laws.szConfig laws.toConfig laws.eqIntS laws.markText
theorem AllOut.len {P : Prop} {q r : GV} {cz : S76 → Int} {now c : Int} {ids : List Int} (h : AllOut P q cz now r ids c) (hq : q.Len) : r.Len ∧ ids.length ≤ 1048576 := by
  rcases h with ⟨_, _, rfl, rfl⟩ | ⟨_, ⟨S, R, J, h, rfl, rfl⟩, _⟩
  · exact ⟨⟨Nat.zero_le _, Nat.zero_le _, Nat.zero_le _, Nat.zero_le _⟩, Nat.zero_le _⟩
  · have q2 := endF_len h hq.2.2.2
    simp only [List.length_nil, Nat.zero_add] at q2
    exact ⟨⟨hq.1, Nat.le_trans q2.1 hq.2.1, hq.2.2.1, q2.2.1⟩, Nat.le_trans q2.2.2 hq.2.1⟩
theorem MovOut.len {P : Prop} {q r : GV} {mac : ByteArray} {ip now c : Int} {ids : List Int} (h : MovOut P q mac ip now r ids c) (hq : q.Len) : r.Len ∧ ids.length ≤ 1048576 := by
  rcases h with ⟨_, rfl, rfl, _⟩ | ⟨_, h⟩
  · exact ⟨⟨Nat.zero_le _, Nat.zero_le _, Nat.zero_le _, Nat.zero_le _⟩, Nat.zero_le _⟩
  · exact h.len hq
structure JVI where
  v1 : Value
  v2 : Value
  g : Nat
  q : GV
  c : Int
  O0 : Option Addr
  O1 : Option Addr
  O2 : Option Addr
  O3 : Option Addr
  p0 : Nat
  p1 : Nat
  p2 : Nat
  p3 : Nat
  h : Nat
  ids : List Int
  J : Option Addr
  ci : Nat
def MarkedI (w : World) (A : Option Addr) (n : Nat) (m m2 : Int) : Prop := RowF w A n 3 1 (mvInt m) ∧ m2 = m + n
theorem MarkedI.I {w W : World} {A : Option Addr} {n : Nat} {m m2 : Int} (h : MarkedI w A n m m2) (hb : Below w.heap.size w W) : MarkedI W A n m m2 := ⟨h.1.below hb, h.2⟩
theorem MarkedG.but {w W : World} {B0 B1 B2 B3 : Option Addr} {n0 n1 n2 n3 : Nat} {m : Int} {S : Nat → Prop} (h : MarkedG w B0 B1 B2 B3 n0 n1 n2 n3 m) (hb : ButS S w W) (hs : ∀ b, S b → TypeAt w b 3) : MarkedG W B0 B1 B2 B3 n0 n1 n2 n3 m :=
  ⟨h.1.but hb (fun b h1 h2 => absurd ((hs b h1).ne h2) (by decide)), h.2.1.but hb (fun b h1 h2 => absurd ((hs b h1).ne h2) (by decide)), h.2.2.1.but hb (fun b h1 h2 => absurd ((hs b h1).ne h2) (by decide)), h.2.2.2.1.but hb (fun b h1 h2 => absurd ((hs b h1).ne h2) (by decide)), h.2.2.2.2⟩
theorem markIM (n : Nat) (A : Option Addr) (c : Nat) (m : Int) (w : World) {lo hi : Nat} (h : RowA w (Ivl lo hi) A n 3 1) (hz : n ≤ 1048576) (k0 : 0 ≤ m) (k1 : m ≤ 70368744177664) :
    Calls Tryz.prog 23 #[.slice A n c, .int .i64 m] w fun e w' => ∃ m2 : Int, e = .returned (.int .i64 m2) ∧ MarkedI w' A n m m2 ∧ decide (m2 < 0) = false ∧ ButS (fun b => Ivl lo hi b ∧ TypeAt w b 3) w w' := by
  refine (markIntR A n c m w h.typed (by omega) k0 (by omega)).mono ?_
  rintro e w2 ⟨rfl, hf, hb⟩
  exact ⟨_, rfl, ⟨hf, rfl⟩, by rw [decide_eq_false_iff_not]; omega, hb⟩
theorem heldIM (n : Nat) (A : Option Addr) (c : Nat) (m m2 : Int) (w : World) (h : MarkedI w A n m m2) (hz : n ≤ 1048576) (k0 : 0 ≤ m) (k1 : m ≤ 70368744177664) :
    Calls Tryz.prog 24 #[.slice A n c, .int .i64 m] w fun e w' => e = .returned (.int .i64 m2) ∧ Below w.heap.size w w' := by
  obtain ⟨hf, rfl⟩ := h
  exact heldIntR A n c m w hf (by omega) k0 (by omega)
end
end Go.Proofs.YtkklokkldgkacaaGreat.X
