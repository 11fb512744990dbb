/- Texts that the row of FnExactEndMoved stands on: functions of the program and of the reference, each as a Lean function with the same answers, and the plain lemmas. Conditions: none beside those that each theorem names. -/
import Derived.Test.YtkklokkldgkacaaGreatCFnExactEndMoved4
namespace Go.Proofs.YtkklokkldgkacaaGreat.X
open Go.RowKit Go.Proofs.YtkklokkldgkacaaGreatW.PrintWords Go.Proofs.YtkklokkldgkacaaGreatW.PrintLast Go.Proofs.YtkklokkldgkacaaGreatW.PrintMore
attribute [local go_sem] max2_int min2_int max_two min_two max_three min_three max_four min_four   -- for this text's walks alone
set_option linter.unusedVariables false
set_option linter.unusedSimpArgs false
section
-- NEEDS impl.ConfigOK laws.eqConfig spec.ConfigOK
def IsI {α : Type} (P : α → Prop) (l : List α) (z : α) (w : World) (e : Ending) (w' : World) : Prop := ∃ r : Int, e = .returned (.int .i64 r) ∧ Below w.heap.size w w' ∧ ((r = -1 ∧ ∀ x ∈ l, ¬ P x) ∨ (0 ≤ r ∧ r < l.length ∧ P (l.getD r.toNat z) ∧ ∀ j : Int, 0 ≤ j → j < r → ¬ P (l.getD j.toNat z)))
set_option maxHeartbeats 8000000 in
set_option maxRecDepth 100000 in
theorem indexPlace (g : FuncId) (lb : Array Value) (eg : ∀ args w, (callFunc g args).run Tryz.prog w = .ok (.enter g args) w) (P : S140 → Prop) (A0 : Option Addr) (c0 : Nat) (l : List S140) (w : World) (zl : l.length ≤ 1152921504606846976)
    (hp : ∀ (W : World) (x : S140), x ∈ l → Below w.heap.size w W → Calls Tryz.prog g (#[.agg #[.int .i64 x.f0.f0, .int .i64 x.f0.f1, .int .i64 x.f1.f0, .int .i64 x.f1.f1]] ++ lb) W (IsB (P x) W)) (hr0 : Kd.C k140 w A0 l.length l) :
    Calls Tryz.prog 137 #[.slice A0 l.length c0, .func (.func g) #[] lb] w (IsI P l z140 w) := by
  have hu := Tryz.underlying140
  have H0 := Aside0.mk hr0
  have H1 := Aside0.mk hp
  clear hr0 hp
  have HB := Aside0.mk (Below.refl w.heap.size w)
  go_enter Tryz.func137, Tryz.ntmps137
  go_wp2
  go_loopg [5, 8] l.length (fun gg _ v w' => ∃ i : Int, v = .int .i64 i ∧ 0 ≤ i ∧ i ≤ l.length ∧ l.length - i ≤ gg ∧ Aside0 (Below w.heap.size w w') ∧ Aside0 (∀ j : Int, 0 ≤ j → j < i → ¬ P (l.getD j.toNat z140)))
  case atStart => exact ⟨0, rfl, Int.le_refl _, by omega, by omega, HB, ⟨fun j h0 h1 => by omega⟩⟩
  case round =>
    clear HB
    obtain ⟨i, rfl, hi0, hi, hgg, HB, HA⟩ := hrel
    by_cases hlt : i < l.length
    · obtain ⟨ad, eA, hrow⟩ := at_T140 (Kd.C_below H0.out HB.out) i hi0 hlt
      subst eA
      have HC := Aside0.mk (H1.out wr (rd_T140 l i) (rdmem hi0 hlt) HB.out)
      go_wp2_with (refine HC.out.mono ?_; rintro e w2 (⟨rfl, hr, hb⟩ | ⟨rfl, hr, hb⟩) <;> (have HP := Aside0.mk hr; clear hr; have HB2 := Aside0.mk (below_step HB.out hb); clear hb))
      · go_ret
        exact ⟨i, rfl, HB2.out, .inr ⟨hi0, hlt, HP.out, HA.out⟩⟩
      · go_roundg (l.length - (i + 1)).toNat
        case measure => omega
        case rel => exact ⟨i + 1, rfl, by omega, by omega, by omega, HB2, ⟨fun j h0 h1 => by
          by_cases hj : j < i
          · exact HA.out j h0 hj
          · obtain rfl : j = i := by omega
            exact HP.out⟩⟩
    · obtain rfl : i = l.length := by omega
      go_wp2
      go_ret
      exact ⟨-1, rfl, HB.out, .inl ⟨rfl, all_of rfl HA.out⟩⟩
set_option maxHeartbeats 8000000 in
set_option maxRecDepth 100000 in
theorem containsPlace (g : FuncId) (lb : Array Value) (eg : ∀ args w, (callFunc g args).run Tryz.prog w = .ok (.enter g args) w) (P : S140 → Prop) (A0 : Option Addr) (c0 : Nat) (l : List S140) (w : World) (zl : l.length ≤ 1152921504606846976)
    (hp : ∀ (W : World) (x : S140), x ∈ l → Below w.heap.size w W → Calls Tryz.prog g (#[.agg #[.int .i64 x.f0.f0, .int .i64 x.f0.f1, .int .i64 x.f1.f0, .int .i64 x.f1.f1]] ++ lb) W (IsB (P x) W)) (hr0 : Kd.C k140 w A0 l.length l) :
    Calls Tryz.prog 104 #[.slice A0 l.length c0, .func (.func g) #[] lb] w (IsB (∃ x ∈ l, P x) w) := by
  have HC := indexPlace g lb eg P A0 c0 l w zl hp hr0
  clear hp hr0
  have ei := enters_ Tryz.func137 (by kernel_rfl) rfl
  go_enter Tryz.func104, Tryz.ntmps104
  go_wp2_with (refine HC.mono ?_; rintro e w6 ⟨r, rfl, hb, hr⟩; have HR := Aside0.mk hr; have HB := Aside0.mk hb; clear hr hb)
  go_ret
  refine IsB.of rfl ?_ HB.out
  rcases HR.out with ⟨h1, h2⟩ | ⟨h1, h2, h3, _⟩
  · exact ⟨fun h => absurd (of_decide_eq_true h) (by omega), fun ⟨x, hx, hp⟩ => absurd hp (h2 x hx)⟩
  · exact ⟨fun _ => ⟨_, rdmem h1 h2, h3⟩, fun _ => decide_eq_true h1⟩
set_option maxHeartbeats 8000000 in
set_option maxRecDepth 100000 in
theorem indexRule (g : FuncId) (lb : Array Value) (eg : ∀ args w, (callFunc g args).run Tryz.prog w = .ok (.enter g args) w) (P : S183 → Prop) (A0 : Option Addr) (c0 : Nat) (l : List S183) (w : World) (zl : l.length ≤ 1152921504606846976)
    (hp : ∀ (W : World) (x : S183), x ∈ l → Below w.heap.size w W → Calls Tryz.prog g (#[.agg #[.int .i64 x.f0, .int .i64 x.f1.f0, .int .i64 x.f1.f1, .int .i64 x.f2.f0, .int .i64 x.f2.f1, .bool x.f3]] ++ lb) W (IsB (P x) W)) (hr0 : Kd.C k183 w A0 l.length l) :
    Calls Tryz.prog 146 #[.slice A0 l.length c0, .func (.func g) #[] lb] w (IsI P l z183 w) := by
  have hu := Tryz.underlying183
  have H0 := Aside0.mk hr0
  have H1 := Aside0.mk hp
  clear hr0 hp
  have HB := Aside0.mk (Below.refl w.heap.size w)
  go_enter Tryz.func146, Tryz.ntmps146
  go_wp2
  go_loopg [5, 8] l.length (fun gg _ v w' => ∃ i : Int, v = .int .i64 i ∧ 0 ≤ i ∧ i ≤ l.length ∧ l.length - i ≤ gg ∧ Aside0 (Below w.heap.size w w') ∧ Aside0 (∀ j : Int, 0 ≤ j → j < i → ¬ P (l.getD j.toNat z183)))
  case atStart => exact ⟨0, rfl, Int.le_refl _, by omega, by omega, HB, ⟨fun j h0 h1 => by omega⟩⟩
  case round =>
    clear HB
    obtain ⟨i, rfl, hi0, hi, hgg, HB, HA⟩ := hrel
    by_cases hlt : i < l.length
    · obtain ⟨ad, eA, hrow⟩ := at_T183 (Kd.C_below H0.out HB.out) i hi0 hlt
      subst eA
      have HC := Aside0.mk (H1.out wr (rd_T183 l i) (rdmem hi0 hlt) HB.out)
      go_wp2_with (refine HC.out.mono ?_; rintro e w2 (⟨rfl, hr, hb⟩ | ⟨rfl, hr, hb⟩) <;> (have HP := Aside0.mk hr; clear hr; have HB2 := Aside0.mk (below_step HB.out hb); clear hb))
      · go_ret
        exact ⟨i, rfl, HB2.out, .inr ⟨hi0, hlt, HP.out, HA.out⟩⟩
      · go_roundg (l.length - (i + 1)).toNat
        case measure => omega
        case rel => exact ⟨i + 1, rfl, by omega, by omega, by omega, HB2, ⟨fun j h0 h1 => by
          by_cases hj : j < i
          · exact HA.out j h0 hj
          · obtain rfl : j = i := by omega
            exact HP.out⟩⟩
    · obtain rfl : i = l.length := by omega
      go_wp2
      go_ret
      exact ⟨-1, rfl, HB.out, .inl ⟨rfl, all_of rfl HA.out⟩⟩
set_option maxHeartbeats 8000000 in
set_option maxRecDepth 100000 in
theorem containsRule (g : FuncId) (lb : Array Value) (eg : ∀ args w, (callFunc g args).run Tryz.prog w = .ok (.enter g args) w) (P : S183 → Prop) (A0 : Option Addr) (c0 : Nat) (l : List S183) (w : World) (zl : l.length ≤ 1152921504606846976)
    (hp : ∀ (W : World) (x : S183), x ∈ l → Below w.heap.size w W → Calls Tryz.prog g (#[.agg #[.int .i64 x.f0, .int .i64 x.f1.f0, .int .i64 x.f1.f1, .int .i64 x.f2.f0, .int .i64 x.f2.f1, .bool x.f3]] ++ lb) W (IsB (P x) W)) (hr0 : Kd.C k183 w A0 l.length l) :
    Calls Tryz.prog 138 #[.slice A0 l.length c0, .func (.func g) #[] lb] w (IsB (∃ x ∈ l, P x) w) := by
  have HC := indexRule g lb eg P A0 c0 l w zl hp hr0
  clear hp hr0
  have ei := enters_ Tryz.func146 (by kernel_rfl) rfl
  go_enter Tryz.func138, Tryz.ntmps138
  go_wp2_with (refine HC.mono ?_; rintro e w6 ⟨r, rfl, hb, hr⟩; have HR := Aside0.mk hr; have HB := Aside0.mk hb; clear hr hb)
  go_ret
  refine IsB.of rfl ?_ HB.out
  rcases HR.out with ⟨h1, h2⟩ | ⟨h1, h2, h3, _⟩
  · exact ⟨fun h => absurd (of_decide_eq_true h) (by omega), fun ⟨x, hx, hp⟩ => absurd hp (h2 x hx)⟩
  · exact ⟨fun _ => ⟨_, rdmem h1 h2, h3⟩, fun _ => decide_eq_true h1⟩
set_option maxHeartbeats 8000000 in
set_option maxRecDepth 100000 in
theorem indexSession (g : FuncId) (lb : Array Value) (eg : ∀ args w, (callFunc g args).run Tryz.prog w = .ok (.enter g args) w) (P : S76 → Prop) (A0 : Option Addr) (c0 : Nat) (l : List S76) (w : World) (zl : l.length ≤ 1152921504606846976)
    (hp : ∀ (W : World) (x : S76), x ∈ l → Below w.heap.size w W → Calls Tryz.prog g (#[.agg #[.int .i64 x.f0, .int .i64 x.f1, .string x.f2, .int .i64 x.f3, .int .i64 x.f4, .int .i64 x.f5, .int .i64 x.f6, .int .i64 x.f7, .int .i64 x.f8, .int .i64 x.f9]] ++ lb) W (IsB (P x) W)) (hr0 : Kd.C k76 w A0 l.length l) :
    Calls Tryz.prog 112 #[.slice A0 l.length c0, .func (.func g) #[] lb] w (IsI P l z76 w) := by
  have hu := Tryz.underlying76
  have H0 := Aside0.mk hr0
  have H1 := Aside0.mk hp
  clear hr0 hp
  have HB := Aside0.mk (Below.refl w.heap.size w)
  go_enter Tryz.func112, Tryz.ntmps112
  go_wp2
  go_loopg [5, 8] l.length (fun gg _ v w' => ∃ i : Int, v = .int .i64 i ∧ 0 ≤ i ∧ i ≤ l.length ∧ l.length - i ≤ gg ∧ Aside0 (Below w.heap.size w w') ∧ Aside0 (∀ j : Int, 0 ≤ j → j < i → ¬ P (l.getD j.toNat z76)))
  case atStart => exact ⟨0, rfl, Int.le_refl _, by omega, by omega, HB, ⟨fun j h0 h1 => by omega⟩⟩
  case round =>
    clear HB
    obtain ⟨i, rfl, hi0, hi, hgg, HB, HA⟩ := hrel
    by_cases hlt : i < l.length
    · obtain ⟨ad, eA, hrow⟩ := at_T76 (Kd.C_below H0.out HB.out) i hi0 hlt
      subst eA
      have HC := Aside0.mk (H1.out wr (rd_T76 l i) (rdmem hi0 hlt) HB.out)
      go_wp2_with (refine HC.out.mono ?_; rintro e w2 (⟨rfl, hr, hb⟩ | ⟨rfl, hr, hb⟩) <;> (have HP := Aside0.mk hr; clear hr; have HB2 := Aside0.mk (below_step HB.out hb); clear hb))
      · go_ret
        exact ⟨i, rfl, HB2.out, .inr ⟨hi0, hlt, HP.out, HA.out⟩⟩
      · go_roundg (l.length - (i + 1)).toNat
        case measure => omega
        case rel => exact ⟨i + 1, rfl, by omega, by omega, by omega, HB2, ⟨fun j h0 h1 => by
          by_cases hj : j < i
          · exact HA.out j h0 hj
          · obtain rfl : j = i := by omega
            exact HP.out⟩⟩
    · obtain rfl : i = l.length := by omega
      go_wp2
      go_ret
      exact ⟨-1, rfl, HB.out, .inl ⟨rfl, all_of rfl HA.out⟩⟩
set_option maxHeartbeats 8000000 in
set_option maxRecDepth 100000 in
theorem containsSession (g : FuncId) (lb : Array Value) (eg : ∀ args w, (callFunc g args).run Tryz.prog w = .ok (.enter g args) w) (P : S76 → Prop) (A0 : Option Addr) (c0 : Nat) (l : List S76) (w : World) (zl : l.length ≤ 1152921504606846976)
    (hp : ∀ (W : World) (x : S76), x ∈ l → Below w.heap.size w W → Calls Tryz.prog g (#[.agg #[.int .i64 x.f0, .int .i64 x.f1, .string x.f2, .int .i64 x.f3, .int .i64 x.f4, .int .i64 x.f5, .int .i64 x.f6, .int .i64 x.f7, .int .i64 x.f8, .int .i64 x.f9]] ++ lb) W (IsB (P x) W)) (hr0 : Kd.C k76 w A0 l.length l) :
    Calls Tryz.prog 49 #[.slice A0 l.length c0, .func (.func g) #[] lb] w (IsB (∃ x ∈ l, P x) w) := by
  have HC := indexSession g lb eg P A0 c0 l w zl hp hr0
  clear hp hr0
  have ei := enters_ Tryz.func112 (by kernel_rfl) rfl
  go_enter Tryz.func49, Tryz.ntmps49
  go_wp2_with (refine HC.mono ?_; rintro e w6 ⟨r, rfl, hb, hr⟩; have HR := Aside0.mk hr; have HB := Aside0.mk hb; clear hr hb)
  go_ret
  refine IsB.of rfl ?_ HB.out
  rcases HR.out with ⟨h1, h2⟩ | ⟨h1, h2, h3, _⟩
  · exact ⟨fun h => absurd (of_decide_eq_true h) (by omega), fun ⟨x, hx, hp⟩ => absurd hp (h2 x hx)⟩
  · exact ⟨fun _ => ⟨_, rdmem h1 h2, h3⟩, fun _ => decide_eq_true h1⟩
set_option maxHeartbeats 8000000 in
set_option maxRecDepth 100000 in
theorem indexRecord (g : FuncId) (lb : Array Value) (eg : ∀ args w, (callFunc g args).run Tryz.prog w = .ok (.enter g args) w) (P : S83 → Prop) (A0 : Option Addr) (c0 : Nat) (l : List S83) (w : World) (zl : l.length ≤ 1152921504606846976)
    (hp : ∀ (W : World) (x : S83), x ∈ l → Below w.heap.size w W → Calls Tryz.prog g (#[.agg #[.int .i64 x.f0, .int .i64 x.f1, .int .i64 x.f2, .int .i64 x.f3, .bool x.f4]] ++ lb) W (IsB (P x) W)) (hr0 : Kd.C k83 w A0 l.length l) :
    Calls Tryz.prog 114 #[.slice A0 l.length c0, .func (.func g) #[] lb] w (IsI P l z83 w) := by
  have hu := Tryz.underlying83
  have H0 := Aside0.mk hr0
  have H1 := Aside0.mk hp
  clear hr0 hp
  have HB := Aside0.mk (Below.refl w.heap.size w)
  go_enter Tryz.func114, Tryz.ntmps114
  go_wp2
  go_loopg [5, 8] l.length (fun gg _ v w' => ∃ i : Int, v = .int .i64 i ∧ 0 ≤ i ∧ i ≤ l.length ∧ l.length - i ≤ gg ∧ Aside0 (Below w.heap.size w w') ∧ Aside0 (∀ j : Int, 0 ≤ j → j < i → ¬ P (l.getD j.toNat z83)))
  case atStart => exact ⟨0, rfl, Int.le_refl _, by omega, by omega, HB, ⟨fun j h0 h1 => by omega⟩⟩
  case round =>
    clear HB
    obtain ⟨i, rfl, hi0, hi, hgg, HB, HA⟩ := hrel
    by_cases hlt : i < l.length
    · obtain ⟨ad, eA, hrow⟩ := at_T83 (Kd.C_below H0.out HB.out) i hi0 hlt
      subst eA
      have HC := Aside0.mk (H1.out wr (rd_T83 l i) (rdmem hi0 hlt) HB.out)
      go_wp2_with (refine HC.out.mono ?_; rintro e w2 (⟨rfl, hr, hb⟩ | ⟨rfl, hr, hb⟩) <;> (have HP := Aside0.mk hr; clear hr; have HB2 := Aside0.mk (below_step HB.out hb); clear hb))
      · go_ret
        exact ⟨i, rfl, HB2.out, .inr ⟨hi0, hlt, HP.out, HA.out⟩⟩
      · go_roundg (l.length - (i + 1)).toNat
        case measure => omega
        case rel => exact ⟨i + 1, rfl, by omega, by omega, by omega, HB2, ⟨fun j h0 h1 => by
          by_cases hj : j < i
          · exact HA.out j h0 hj
          · obtain rfl : j = i := by omega
            exact HP.out⟩⟩
    · obtain rfl : i = l.length := by omega
      go_wp2
      go_ret
      exact ⟨-1, rfl, HB.out, .inl ⟨rfl, all_of rfl HA.out⟩⟩
set_option maxHeartbeats 8000000 in
set_option maxRecDepth 100000 in
theorem containsRecord (g : FuncId) (lb : Array Value) (eg : ∀ args w, (callFunc g args).run Tryz.prog w = .ok (.enter g args) w) (P : S83 → Prop) (A0 : Option Addr) (c0 : Nat) (l : List S83) (w : World) (zl : l.length ≤ 1152921504606846976)
    (hp : ∀ (W : World) (x : S83), x ∈ l → Below w.heap.size w W → Calls Tryz.prog g (#[.agg #[.int .i64 x.f0, .int .i64 x.f1, .int .i64 x.f2, .int .i64 x.f3, .bool x.f4]] ++ lb) W (IsB (P x) W)) (hr0 : Kd.C k83 w A0 l.length l) :
    Calls Tryz.prog 53 #[.slice A0 l.length c0, .func (.func g) #[] lb] w (IsB (∃ x ∈ l, P x) w) := by
  have HC := indexRecord g lb eg P A0 c0 l w zl hp hr0
  clear hp hr0
  have ei := enters_ Tryz.func114 (by kernel_rfl) rfl
  go_enter Tryz.func53, Tryz.ntmps53
  go_wp2_with (refine HC.mono ?_; rintro e w6 ⟨r, rfl, hb, hr⟩; have HR := Aside0.mk hr; have HB := Aside0.mk hb; clear hr hb)
  go_ret
  refine IsB.of rfl ?_ HB.out
  rcases HR.out with ⟨h1, h2⟩ | ⟨h1, h2, h3, _⟩
  · exact ⟨fun h => absurd (of_decide_eq_true h) (by omega), fun ⟨x, hx, hp⟩ => absurd hp (h2 x hx)⟩
  · exact ⟨fun _ => ⟨_, rdmem h1 h2, h3⟩, fun _ => decide_eq_true h1⟩
set_option maxHeartbeats 8000000 in
set_option maxRecDepth 100000 in
theorem iInY (a b c : Int) (w : World) (h1 : b ≤ a) (h2 : a ≤ c) : Calls Tryz.prog 47 #[.int .i64 a, .int .i64 b, .int .i64 c] w fun e w' => e = .returned (.bool true) ∧ w' = w := by
  have b1 : decide (b ≤ a) = true := decide_eq_true h1
  go_enter Tryz.func47, Tryz.ntmps47
  go_wp2
  go_ret
  exact ⟨by simp [h2], rfl⟩
set_option maxHeartbeats 8000000 in
set_option maxRecDepth 100000 in
theorem iInN (a b c : Int) (w : World) (h : ¬ (b ≤ a ∧ a ≤ c)) : Calls Tryz.prog 47 #[.int .i64 a, .int .i64 b, .int .i64 c] w fun e w' => e = .returned (.bool false) ∧ w' = w := by
  rcases dec_em (b ≤ a) with ⟨k1, b1⟩ | ⟨k1, b1⟩
  · have b2 : decide (a ≤ c) = false := decide_eq_false (by omega)
    have b3 : ¬ a ≤ c := by omega
    clear h
    go_enter Tryz.func47, Tryz.ntmps47
    go_wp2
    go_ret
    exact ⟨by simp [b3], rfl⟩
  · clear h
    go_enter Tryz.func47, Tryz.ntmps47
    go_wp2
    go_ret
    exact ⟨rfl, rfl⟩
theorem IsB.ofQ {P : Prop} {f : FuncId} {args : Array Value} {w : World} (hy : P → Calls Tryz.prog f args w fun e w' => e = .returned (.bool true) ∧ w' = w) (hn : ¬ P → Calls Tryz.prog f args w fun e w' => e = .returned (.bool false) ∧ w' = w) : Calls Tryz.prog f args w (IsB P w) := by
  rcases Classical.em P with k | k
  · exact (hy k).mono fun e w' h => .inl ⟨h.1, k, by rw [h.2]; exact Below.refl _ _⟩
  · exact (hn k).mono fun e w' h => .inr ⟨h.1, k, by rw [h.2]; exact Below.refl _ _⟩
theorem iIn1 (a b c : Int) (w : World) : Calls Tryz.prog 47 #[.int .i64 a, .int .i64 b, .int .i64 c] w (IsB (b ≤ a ∧ a ≤ c) w) := IsB.ofQ (fun h => iInY _ _ _ _ h.1 h.2) (fun h => iInN _ _ _ _ h)
set_option maxHeartbeats 8000000 in
set_option maxRecDepth 100000 in
theorem iIpY (a : Int) (w : World) (h : 0 ≤ a ∧ a ≤ 4294967295) : Calls Tryz.prog 101 #[.int .i64 a] w fun e w' => e = .returned (.bool true) ∧ w' = w := by
  have H := Aside0.mk h
  clear h
  go_enter Tryz.func101, Tryz.ntmps101
  go_wp2_with (go_at_call 47; refine (iInY _ _ _ _ H.out.1 H.out.2).mono ?_; rintro e w2 ⟨rfl, rfl⟩)
  go_ret
  exact ⟨rfl, rfl⟩
set_option maxHeartbeats 8000000 in
set_option maxRecDepth 100000 in
theorem iIpN (a : Int) (w : World) (h : ¬ (0 ≤ a ∧ a ≤ 4294967295)) : Calls Tryz.prog 101 #[.int .i64 a] w fun e w' => e = .returned (.bool false) ∧ w' = w := by
  have H := Aside0.mk h
  clear h
  go_enter Tryz.func101, Tryz.ntmps101
  go_wp2_with (go_at_call 47; refine (iInN _ _ _ _ H.out).mono ?_; rintro e w2 ⟨rfl, rfl⟩)
  go_ret
  exact ⟨rfl, rfl⟩
theorem iIp1 (a : Int) (w : World) : Calls Tryz.prog 101 #[.int .i64 a] w (IsB (0 ≤ a ∧ a ≤ 4294967295) w) := IsB.ofQ (iIpY _ _) (iIpN _ _)
set_option maxHeartbeats 8000000 in
set_option maxRecDepth 100000 in
theorem iMac1 (a : ByteArray) (w : World) (z : a.size ≤ 1152921504606846976) : Calls Tryz.prog 103 #[.string a] w (IsB (a.size = 6) w) := by
  go_enter Tryz.func103, Tryz.ntmps103
  go_wp2
  go_ret
  exact IsB.of rfl (by rw [beq_iff_eq]; omega) (Below.refl _ _)
theorem iName1 (a : ByteArray) (w : World) : Calls Tryz.prog 141 #[.string a] w (IsB (NameP a) w) := (impl_NameOK.calls (a.size + 2) a (nameb a) w (impl_Name_ev a _ (Nat.le_refl _))).mono fun e w' h => IsB.of h.1 Iff.rfl (drawn_below h.2)
set_option maxHeartbeats 8000000 in
set_option maxRecDepth 100000 in
theorem iNet1 (ip b : Int) (w : World) : Calls Tryz.prog 100 #[.agg #[.int .i64 ip, .int .i64 b]] w (IsB (NetP ip b) w) := by
  have hu := Tryz.underlying37
  rcases Classical.em (0 ≤ ip ∧ ip ≤ 4294967295) with k1 | k1
  · have K1 := Aside0.mk k1
    clear k1
    rcases Classical.em (0 ≤ b ∧ b ≤ 32) with k2 | k2
    · obtain ⟨k3, k4⟩ := k2
      have hw := i64id (n := 32 - b) (by omega) (by omega)
      go_enter Tryz.func100, Tryz.ntmps100
      go_wp2
      go_quiet ((first | (go_at_call 101; exact Calls.quiet_of_same (iIpY _ _ K1.out)) | (go_at_call 47; exact Calls.quiet_of_same (iInY _ _ _ _ k3 k4))))
      go_wp2
      go_ret
      exact IsB.of rfl (by rw [beq_iff_eq]; exact ⟨fun h => ⟨K1.out, ⟨k3, k4⟩, h⟩, fun h => h.2.2⟩) (pw_below_drewN (below_alloc (Below.refl _ _) _) _)
    · have K2 := Aside0.mk k2
      clear k2
      go_enter Tryz.func100, Tryz.ntmps100
      go_wp2
      go_quiet ((first | (go_at_call 101; exact Calls.quiet_of_same (iIpY _ _ K1.out)) | (go_at_call 47; exact Calls.quiet_of_same (iInN _ _ _ _ K2.out))))
      go_wp2
      go_ret
      exact .inr ⟨rfl, fun h => K2.out h.2.1, pw_below_drewN (below_alloc (Below.refl _ _) _) _⟩
  · have K1 := Aside0.mk k1
    clear k1
    go_enter Tryz.func100, Tryz.ntmps100
    go_wp2
    go_quiet ((first | (go_at_call 101; exact Calls.quiet_of_same (iIpN _ _ K1.out))))
    go_wp2
    go_ret
    exact .inr ⟨rfl, fun h => K1.out h.1, pw_below_drewN (below_alloc (Below.refl _ _) _) _⟩
set_option maxHeartbeats 8000000 in
set_option maxRecDepth 100000 in
theorem iHas1 (ip b a : Int) (w : World) (k0 : 0 ≤ b) (k1 : b ≤ 32) : Calls Tryz.prog 102 #[.agg #[.int .i64 ip, .int .i64 b], .int .i64 a] w (IsB (HasP ip b a) w) := by
  have hu := Tryz.underlying37
  have hw := i64id (n := 32 - b) (by omega) (by omega)
  go_enter Tryz.func102, Tryz.ntmps102
  go_wp2
  go_quiet (fail)
  go_wp2
  go_ret
  exact IsB.of rfl (by rw [beq_iff_eq]; exact Iff.rfl) (pw_below_drewN (below_alloc (Below.refl _ _) _) _)
set_option maxHeartbeats 8000000 in
set_option maxRecDepth 100000 in
theorem iRange1 (a b : Int) (w : World) : Calls Tryz.prog 106 #[.agg #[.int .i64 a, .int .i64 b]] w (IsB (RangeP a b) w) := by
  have hu := Tryz.underlying138
  have HB := Aside0.mk (Below.refl w.heap.size w)
  have HP := Aside0.mk True.intro
  go_enter Tryz.func106, Tryz.ntmps106
  go_wp2_with (first
    | (go_at_call 47; refine (iIn1 _ _ _ _).mono ?_; rintro e w2 (⟨rfl, hr, hb⟩ | ⟨rfl, hr, hb⟩) <;> (have n_ := Aside0.mk (And.intro hr HP.out); clear HP hr; have HP := n_; clear n_; have n_ := Aside0.mk (below_step (w := w) (by repeat' (with_reducible first | exact HB.out | apply below_alloc | apply below_drew1 | refine below_set ?_ (by omega))) hb); clear HB; have HB := n_; clear n_; have n_ := Aside0.mk (blk_below (g := w.heap.size) (o := .cells #[.int .i64 a, .int .i64 b] 138 (0, 0)) (by repeat' (with_reducible first | exact HX.out | exact blk_new _ _ | refine blk_alloc ?_ _ | refine blk_drew ?_ | refine blk_far ?_ (by dsimp only; omega) _)) hb); (try clear HX); have HX := n_; clear n_; obtain ⟨hc, hf⟩ := bcell hb; have hz : w.heap.size < w2.heap.size := blk_lt HX.out; clear hb)))
  all_goals go_ret
  · have h1 := HP.out.1
    refine IsB.of rfl ?_ HB.out
    unfold RangeP
    simp only [decide_eq_true_eq]
    omega
  · exact .inr ⟨rfl, fun h => HP.out.1 (by unfold RangeP at h; omega), HB.out⟩
theorem contains4b (k : Nat) (p : Int) : slices_Contains_int_int.f (k + 5) [0, 1, 6, 17] p = some (decide (p = 0 ∨ p = 1 ∨ p = 6 ∨ p = 17)) := by
  have w1 : wrap64 (0 + 1) = 1 := by rw [wrap_id (by omega) (by omega)]; rfl
  have w2 : wrap64 (1 + 1) = 2 := by rw [wrap_id (by omega) (by omega)]; rfl
  have w3 : wrap64 (2 + 1) = 3 := by rw [wrap_id (by omega) (by omega)]; rfl
  have w4 : wrap64 (3 + 1) = 4 := by rw [wrap_id (by omega) (by omega)]; rfl
  have r0 : rd [0, 1, 6, 17] 0 = 0 := by decide
  have r1 : rd [0, 1, 6, 17] 1 = 1 := by decide
  have r2 : rd [0, 1, 6, 17] 2 = 6 := by decide
  have r3 : rd [0, 1, 6, 17] 3 = 17 := by decide
  have l : ((([0, 1, 6, 17] : List Int).length : Nat) : Int) = 4 := by decide
  simp only [slices_Contains_int_int.f, slices_Index_int_int.f, slices_Index_int_int.l0, l, w1, w2, w3, w4, r0, r1, r2, r3]
  by_cases h0 : p = 0
  · simp [h0]
  by_cases h1 : p = 1
  · simp [h1]
  by_cases h2 : p = 6
  · simp [h2]
  by_cases h3 : p = 17
  · simp [h3]
  simp [h0, h1, h2, h3]
theorem iProto1 (p : Int) (w : World) (g : Nat) (h : w.heap[g]? = some (.cells #[.int .i64 0, .int .i64 1, .int .i64 6, .int .i64 17] 3 (0, 0))) : Calls Tryz.prog 147 #[.slice (some ⟨g, 0, none⟩) 4 4, .int .i64 p] w (IsB (p = 0 ∨ p = 1 ∨ p = 6 ∨ p = 17) w) := by
  refine (slices_Contains_int_int.calls 5 (some ⟨g, 0, none⟩) 4 [0, 1, 6, 17] p _ w ⟨rfl, by decide, fun _ => ⟨_, rfl, fun j q hq => ⟨[.int .i64 q], rfl, rfl, fun i u hu => ?_⟩⟩⟩ (by decide) (contains4b 0 p)).mono fun e w' h => IsB.of h.1 (by rw [decide_eq_true_eq]) (drawn_below h.2)
  have hi : i = 0 := by
    have := (List.getElem?_eq_some_iff.1 hu).1
    simp at this
    exact this
  subst hi
  have hu' : Value.int .i64 q = u := by simpa using hu
  subst hu'
  rw [show (Kd.int .i64).sz = 1 from rfl, Nat.add_zero, Nat.mul_one]
  rw [add_plain, blk_cell h]
  match j, hq with
  | 0, hq => cases hq; rfl
  | 1, hq => cases hq; rfl
  | 2, hq => cases hq; rfl
  | 3, hq => cases hq; rfl
  | j + 4, hq => simp at hq
theorem blk_new1 (w : World) (a b : Obj) : ((w.alloc a).alloc b).heap[w.heap.size + 1]? = some b := by
  have h := blk_new (w.alloc a) b
  rwa [show (w.alloc a).heap.size = w.heap.size + 1 from Array.size_push ..] at h
set_option maxHeartbeats 8000000 in
set_option maxRecDepth 100000 in
theorem iRule1 (x : S183) (w : World) : Calls Tryz.prog 140 #[.agg #[.int .i64 x.f0, .int .i64 x.f1.f0, .int .i64 x.f1.f1, .int .i64 x.f2.f0, .int .i64 x.f2.f1, .bool x.f3]] w (IsB (RuleP x) w) := by
  have hu := Tryz.underlying183
  have HB := Aside0.mk (Below.refl w.heap.size w)
  have HP := Aside0.mk True.intro
  go_enter Tryz.func140, Tryz.ntmps140
  go_wp2_with (first
    | (go_at_call 147; refine (iProto1 _ _ _ (blk_new1 _ _ _)).mono ?_; rintro e w2 (⟨rfl, hr, hb⟩ | ⟨rfl, hr, hb⟩) <;> (have n_ := Aside0.mk (And.intro hr HP.out); clear HP hr; have HP := n_; clear n_; have n_ := Aside0.mk (below_step (w := w) (by repeat' (with_reducible first | exact HB.out | apply below_alloc | apply below_drew1 | refine below_set ?_ (by omega))) hb); clear HB; have HB := n_; clear n_; have n_ := Aside0.mk (blk_below (g := w.heap.size) (o := .cells #[.int .i64 x.f0, .int .i64 x.f1.f0, .int .i64 x.f1.f1, .int .i64 x.f2.f0, .int .i64 x.f2.f1, .bool x.f3] 183 (0, 0)) (by repeat' (with_reducible first | exact HX.out | exact blk_new _ _ | refine blk_alloc ?_ _ | refine blk_drew ?_ | refine blk_far ?_ (by dsimp only; omega) _)) hb); (try clear HX); have HX := n_; clear n_; obtain ⟨hc, hf⟩ := bcell hb; have hz : w.heap.size < w2.heap.size := blk_lt HX.out; clear hb))
    | (go_at_call 100; refine (iNet1 _ _ _).mono ?_; rintro e w2 (⟨rfl, hr, hb⟩ | ⟨rfl, hr, hb⟩) <;> (have n_ := Aside0.mk (And.intro hr HP.out); clear HP hr; have HP := n_; clear n_; have n_ := Aside0.mk (below_step (w := w) (by repeat' (with_reducible first | exact HB.out | apply below_alloc | apply below_drew1 | refine below_set ?_ (by omega))) hb); clear HB; have HB := n_; clear n_; have n_ := Aside0.mk (blk_below (g := w.heap.size) (o := .cells #[.int .i64 x.f0, .int .i64 x.f1.f0, .int .i64 x.f1.f1, .int .i64 x.f2.f0, .int .i64 x.f2.f1, .bool x.f3] 183 (0, 0)) (by repeat' (with_reducible first | exact HX.out | exact blk_new _ _ | refine blk_alloc ?_ _ | refine blk_drew ?_ | refine blk_far ?_ (by dsimp only; omega) _)) hb); (try clear HX); have HX := n_; clear n_; obtain ⟨hc, hf⟩ := bcell hb; have hz : w.heap.size < w2.heap.size := blk_lt HX.out; clear hb))
    | (go_at_call 106; refine (iRange1 _ _ _).mono ?_; rintro e w2 (⟨rfl, hr, hb⟩ | ⟨rfl, hr, hb⟩) <;> (have n_ := Aside0.mk (And.intro hr HP.out); clear HP hr; have HP := n_; clear n_; have n_ := Aside0.mk (below_step (w := w) (by repeat' (with_reducible first | exact HB.out | apply below_alloc | apply below_drew1 | refine below_set ?_ (by omega))) hb); clear HB; have HB := n_; clear n_; have n_ := Aside0.mk (blk_below (g := w.heap.size) (o := .cells #[.int .i64 x.f0, .int .i64 x.f1.f0, .int .i64 x.f1.f1, .int .i64 x.f2.f0, .int .i64 x.f2.f1, .bool x.f3] 183 (0, 0)) (by repeat' (with_reducible first | exact HX.out | exact blk_new _ _ | refine blk_alloc ?_ _ | refine blk_drew ?_ | refine blk_far ?_ (by dsimp only; omega) _)) hb); (try clear HX); have HX := n_; clear n_; obtain ⟨hc, hf⟩ := bcell hb; have hz : w.heap.size < w2.heap.size := blk_lt HX.out; clear hb)))
  all_goals go_ret
  all_goals first
    | exact .inl ⟨rfl, ⟨HP.out.2.2.1, HP.out.2.1, HP.out.1⟩, HB.out⟩
    | exact .inr ⟨rfl, fun h => HP.out.1 h.2.2, HB.out⟩
    | exact .inr ⟨rfl, fun h => HP.out.1 h.2.1, HB.out⟩
    | exact .inr ⟨rfl, fun h => HP.out.1 h.1, HB.out⟩
set_option maxHeartbeats 8000000 in
set_option maxRecDepth 100000 in
theorem iShort1 (a : ByteArray) (w : World) (z : a.size ≤ 1152921504606846976) : Calls Tryz.prog 108 #[.string a] w (IsB (NameP a ∧ a.size ≤ 8) w) := by
  have HB := Aside0.mk (Below.refl w.heap.size w)
  have HP := Aside0.mk True.intro
  go_enter Tryz.func108, Tryz.ntmps108
  go_wp2_with (first
    | (go_at_call 141; refine (iName1 _ _).mono ?_; rintro e w2 (⟨rfl, hr, hb⟩ | ⟨rfl, hr, hb⟩) <;> (have n_ := Aside0.mk (And.intro hr HP.out); clear HP hr; have HP := n_; clear n_; have n_ := Aside0.mk (below_step (w := w) (by repeat' (with_reducible first | exact HB.out | apply below_alloc | apply below_drew1 | refine below_set ?_ (by omega))) hb); clear HB; have HB := n_; clear n_; clear hb)))
  · go_ret
    refine IsB.of rfl ?_ HB.out
    have h1 := HP.out.1
    simp only [decide_eq_true_eq]
    exact ⟨fun h => ⟨h1, by omega⟩, fun h => by omega⟩
  · go_ret
    exact .inr ⟨rfl, fun h => HP.out.1 h.1, HB.out⟩
set_option maxHeartbeats 8000000 in
set_option maxRecDepth 100000 in
theorem iRuleN (x : S183) (w : World) : Calls Tryz.prog 139 #[.agg #[.int .i64 x.f0, .int .i64 x.f1.f0, .int .i64 x.f1.f1, .int .i64 x.f2.f0, .int .i64 x.f2.f1, .bool x.f3]] w (IsB (¬ RuleP x) w) := by
  have hu := Tryz.underlying183
  have HB := Aside0.mk (Below.refl w.heap.size w)
  have HP := Aside0.mk True.intro
  go_enter Tryz.func139, Tryz.ntmps139
  go_wp2_with (first
    | (go_at_call 140; refine (iRule1 x _).mono ?_; rintro e w2 (⟨rfl, hr, hb⟩ | ⟨rfl, hr, hb⟩) <;> (have n_ := Aside0.mk (And.intro hr HP.out); clear HP hr; have HP := n_; clear n_; have n_ := Aside0.mk (below_step (w := w) (by repeat' (with_reducible first | exact HB.out | apply below_alloc | apply below_drew1 | refine below_set ?_ (by omega))) hb); clear HB; have HB := n_; clear n_; have n_ := Aside0.mk (blk_below (g := w.heap.size) (o := .cells #[.int .i64 x.f0, .int .i64 x.f1.f0, .int .i64 x.f1.f1, .int .i64 x.f2.f0, .int .i64 x.f2.f1, .bool x.f3] 183 (0, 0)) (by repeat' (with_reducible first | exact HX.out | exact blk_new _ _ | refine blk_alloc ?_ _ | refine blk_drew ?_ | refine blk_far ?_ (by dsimp only; omega) _)) hb); (try clear HX); have HX := n_; clear n_; obtain ⟨hc, hf⟩ := bcell hb; have hz : w.heap.size < w2.heap.size := blk_lt HX.out; clear hb)))
  · go_ret
    exact .inr ⟨rfl, fun h => h HP.out.1, HB.out⟩
  · go_ret
    exact .inl ⟨rfl, HP.out.1, HB.out⟩
set_option maxHeartbeats 8000000 in
set_option maxRecDepth 100000 in
theorem iPlaceN (x : S140) (w : World) : Calls Tryz.prog 105 #[.agg #[.int .i64 x.f0.f0, .int .i64 x.f0.f1, .int .i64 x.f1.f0, .int .i64 x.f1.f1]] w (IsB (¬ PlaceP x) w) := by
  have hu := Tryz.underlying140
  have HB := Aside0.mk (Below.refl w.heap.size w)
  have HP := Aside0.mk True.intro
  go_enter Tryz.func105, Tryz.ntmps105
  go_wp2_with (first
    | (go_at_call 100; refine (iNet1 _ _ _).mono ?_; rintro e w2 (⟨rfl, hr, hb⟩ | ⟨rfl, hr, hb⟩) <;> (have n_ := Aside0.mk (And.intro hr HP.out); clear HP hr; have HP := n_; clear n_; have n_ := Aside0.mk (below_step (w := w) (by repeat' (with_reducible first | exact HB.out | apply below_alloc | apply below_drew1 | refine below_set ?_ (by omega))) hb); clear HB; have HB := n_; clear n_; have n_ := Aside0.mk (blk_below (g := w.heap.size) (o := .cells #[.int .i64 x.f0.f0, .int .i64 x.f0.f1, .int .i64 x.f1.f0, .int .i64 x.f1.f1] 140 (0, 0)) (by repeat' (with_reducible first | exact HX.out | exact blk_new _ _ | refine blk_alloc ?_ _ | refine blk_drew ?_ | refine blk_far ?_ (by dsimp only; omega) _)) hb); (try clear HX); have HX := n_; clear n_; obtain ⟨hc, hf⟩ := bcell hb; have hz : w.heap.size < w2.heap.size := blk_lt HX.out; clear hb))
    | (go_at_call 106; refine (iRange1 _ _ _).mono ?_; rintro e w2 (⟨rfl, hr, hb⟩ | ⟨rfl, hr, hb⟩) <;> (have n_ := Aside0.mk (And.intro hr HP.out); clear HP hr; have HP := n_; clear n_; have n_ := Aside0.mk (below_step (w := w) (by repeat' (with_reducible first | exact HB.out | apply below_alloc | apply below_drew1 | refine below_set ?_ (by omega))) hb); clear HB; have HB := n_; clear n_; have n_ := Aside0.mk (blk_below (g := w.heap.size) (o := .cells #[.int .i64 x.f0.f0, .int .i64 x.f0.f1, .int .i64 x.f1.f0, .int .i64 x.f1.f1] 140 (0, 0)) (by repeat' (with_reducible first | exact HX.out | exact blk_new _ _ | refine blk_alloc ?_ _ | refine blk_drew ?_ | refine blk_far ?_ (by dsimp only; omega) _)) hb); (try clear HX); have HX := n_; clear n_; obtain ⟨hc, hf⟩ := bcell hb; have hz : w.heap.size < w2.heap.size := blk_lt HX.out; clear hb)))
  all_goals go_ret
  all_goals first
    | exact .inr ⟨rfl, fun h => h ⟨HP.out.2.1, HP.out.1⟩, HB.out⟩
    | exact .inl ⟨rfl, fun h => HP.out.1 h.2, HB.out⟩
    | exact .inl ⟨rfl, fun h => HP.out.1 h.1, HB.out⟩
set_option maxHeartbeats 8000000 in
set_option maxRecDepth 100000 in
theorem iRole1 (x0 : ByteArray) (A1 : Option Addr) (c1 : Nat) (l : List S183) (q m z : Int) (w : World) (h : Kd.C k183 w A1 l.length l) (zl : l.length ≤ 1152921504606846976) (z0 : x0.size ≤ 1152921504606846976) : Calls Tryz.prog 107 #[.agg #[.string x0, .slice A1 l.length c1, .int .i64 q, .int .i64 m, .int .i64 z]] w (IsB (RoleP ⟨x0, l, q, m, z⟩) w) := by
  have hu := Tryz.underlying145
  have H0 := Aside0.mk h
  clear h
  have eg := enters_ Tryz.func139 (by kernel_rfl) rfl
  have HB := Aside0.mk (Below.refl w.heap.size w)
  have HP := Aside0.mk True.intro
  rcases dec_em (8 < (l.length : Int)) with ⟨k2, b2⟩ | ⟨k2, b2⟩
  all_goals go_enter Tryz.func107, Tryz.ntmps107
  all_goals go_wp2_with (first
   | (go_at_call 108; refine (iShort1 _ _ z0).mono ?_; rintro e w2 (⟨rfl, hr, hb⟩ | ⟨rfl, hr, hb⟩) <;> (have n_ := Aside0.mk (And.intro hr HP.out); clear HP hr; have HP := n_; clear n_; have n_ := Aside0.mk (below_step (w := w) (by repeat' (with_reducible first | exact HB.out | apply below_alloc | apply below_drew1 | refine below_set ?_ (by omega))) hb); clear HB; have HB := n_; clear n_; have n_ := Aside0.mk (blk_below (g := w.heap.size) (o := .cells #[.string x0, .slice A1 l.length c1, .int .i64 q, .int .i64 m, .int .i64 z] 145 (0, 0)) (by repeat' (with_reducible first | exact HX.out | exact blk_new _ _ | refine blk_alloc ?_ _ | refine blk_drew ?_ | refine blk_far ?_ (by dsimp only; omega) _)) hb); (try clear HX); have HX := n_; clear n_; obtain ⟨hc, hf⟩ := bcell hb; have hz : w.heap.size < w2.heap.size := blk_lt HX.out; clear hb))
   | (go_at_call 47; refine (iIn1 _ _ _ _).mono ?_; rintro e w2 (⟨rfl, hr, hb⟩ | ⟨rfl, hr, hb⟩) <;> (have n_ := Aside0.mk (And.intro hr HP.out); clear HP hr; have HP := n_; clear n_; have n_ := Aside0.mk (below_step (w := w) (by repeat' (with_reducible first | exact HB.out | apply below_alloc | apply below_drew1 | refine below_set ?_ (by omega))) hb); clear HB; have HB := n_; clear n_; have n_ := Aside0.mk (blk_below (g := w.heap.size) (o := .cells #[.string x0, .slice A1 l.length c1, .int .i64 q, .int .i64 m, .int .i64 z] 145 (0, 0)) (by repeat' (with_reducible first | exact HX.out | exact blk_new _ _ | refine blk_alloc ?_ _ | refine blk_drew ?_ | refine blk_far ?_ (by dsimp only; omega) _)) hb); (try clear HX); have HX := n_; clear n_; obtain ⟨hc, hf⟩ := bcell hb; have hz : w.heap.size < w2.heap.size := blk_lt HX.out; clear hb))
   | (go_at_call 138; refine (containsRule 139 #[] eg (fun r => ¬ RuleP r) A1 c1 l _ zl (fun W x _ _ => iRuleN x W) (Kd.C_below H0.out (by repeat' (with_reducible first | exact HB.out | apply below_alloc | apply below_drew1 | refine below_set ?_ (by omega))))).mono ?_; rintro e w2 (⟨rfl, hr, hb⟩ | ⟨rfl, hr, hb⟩) <;> (have n_ := Aside0.mk (And.intro hr HP.out); clear HP hr; have HP := n_; clear n_; have n_ := Aside0.mk (below_step (w := w) (by repeat' (with_reducible first | exact HB.out | apply below_alloc | apply below_drew1 | refine below_set ?_ (by omega))) hb); clear HB; have HB := n_; clear n_; have n_ := Aside0.mk (blk_below (g := w.heap.size) (o := .cells #[.string x0, .slice A1 l.length c1, .int .i64 q, .int .i64 m, .int .i64 z] 145 (0, 0)) (by repeat' (with_reducible first | exact HX.out | exact blk_new _ _ | refine blk_alloc ?_ _ | refine blk_drew ?_ | refine blk_far ?_ (by dsimp only; omega) _)) hb); (try clear HX); have HX := n_; clear n_; obtain ⟨hc, hf⟩ := bcell hb; have hz : w.heap.size < w2.heap.size := blk_lt HX.out; clear hb)))
  all_goals go_ret
  all_goals first
    | exact .inl ⟨rfl, ⟨HP.out.2.2.2.2.1.1, HP.out.2.2.2.2.1.2, by dsimp only; omega, HP.out.2.2.1, HP.out.2.1, HP.out.1, fun r hr => Classical.byContradiction fun hn => HP.out.2.2.2.1 ⟨r, hr, hn⟩⟩, HB.out⟩
    | exact .inr ⟨rfl, by rintro ⟨p1, p2, p3, p4, p5, p6, p7⟩; dsimp only at *; first | exact HP.out.1 ⟨p1, p2⟩ | exact HP.out.1 p4 | exact HP.out.1 p5 | exact HP.out.1 p6 | omega | (obtain ⟨r, hr, hn⟩ := HP.out.1; exact hn (p7 r hr)), HB.out⟩
end
section
-- NEEDS laws.eqConfig
attribute [local go_sem] str_geq str_lss
theorem beq_emS (a b : ByteArray) : ((a.toList == b.toList) = true ∧ Aside0 (a.toList = b.toList)) ∨ ((a.toList == b.toList) = false ∧ Aside0 (a.toList ≠ b.toList)) := by
  by_cases h : a.toList = b.toList
  · exact .inl ⟨beq_iff_eq.2 h, ⟨h⟩⟩
  · exact .inr ⟨beq_eq_false_iff_ne.2 h, ⟨h⟩⟩
def HasRole (l : List S145) (nm : ByteArray) (x : S145) : Prop := x.f0.toList = nm.toList
def UserP (l : List S145) (u : S92) : Prop := (NameP u.f0 ∧ u.f0.size ≤ 8) ∧ u.f1.size ≤ 40 ∧ u.f2.size = 32 ∧ (∃ r ∈ l, HasRole l u.f3 r) ∧ (0 ≤ u.f4 ∧ u.f4 ≤ 1000000) ∧ (0 ≤ u.f5 ∧ u.f5 ≤ 1000)
def UpP (us : List S92) (i : Int) : Prop := 0 < i → Op.bytesLess (rd_T92 us (i - 1)).f0.toList (rd_T92 us i).f0.toList = true
def UsersP (l : List S145) (us : List S92) : Prop := us.length ≤ 6 ∧ (∀ x ∈ us, UserP l x) ∧ (∀ i : Int, 0 ≤ i → i < us.length → UpP us i)
set_option maxHeartbeats 8000000 in
set_option maxRecDepth 100000 in
theorem sName8 (a : ByteArray) (w : World) (z : a.size ≤ 1152921504606846976) : Calls Tryz.prog 92 #[.string a] w (IsB (NameP a ∧ a.size ≤ 8) w) := by
  have HB := Aside0.mk (Below.refl w.heap.size w)
  have HP := Aside0.mk True.intro
  go_enter Tryz.func92, Tryz.ntmps92
  go_wp2_with (first
    | (go_at_call 133; refine (sName1 _ _).mono ?_; rintro e w2 (⟨rfl, hr, hb⟩ | ⟨rfl, hr, hb⟩) <;> (have n_ := Aside0.mk (And.intro hr HP.out); clear HP hr; have HP := n_; clear n_; have n_ := Aside0.mk (below_step (w := w) (by repeat' (with_reducible first | exact HB.out | apply below_alloc | apply below_drew1 | refine below_set ?_ (by omega))) hb); clear HB; have HB := n_; clear n_; clear hb)))
  · go_ret
    refine IsB.of rfl ?_ HB.out
    have h1 := HP.out.1
    simp only [decide_eq_true_eq]
    exact ⟨fun h => ⟨h1, by omega⟩, fun h => by omega⟩
  · go_ret
    exact .inr ⟨rfl, fun h => HP.out.1 h.1, HB.out⟩
set_option maxHeartbeats 8000000 in
set_option maxRecDepth 100000 in
theorem sRoleIx (ip b gate : Int) (gm wm : ByteArray) (res : Int) (A6 : Option Addr) (c6 : Nat) (g : List S140) (A7 : Option Addr) (c7 : Nat) (l : List S145) (nm : ByteArray) (w : World) (hl : Kd.C k145 w A7 l.length l) (zl : l.length ≤ 1152921504606846976) : Calls Tryz.prog 93 #[.agg #[.int .i64 ip, .int .i64 b, .int .i64 gate, .string gm, .string wm, .int .i64 res, .slice A6 g.length c6, .slice A7 l.length c7], .string nm] w (IsI (HasRole l nm) l z145 w) := by
  have hu := Tryz.underlying41
  have H0 := Aside0.mk hl
  clear hl
  go_enter Tryz.func93, Tryz.ntmps93
  go_wp2
  go_loopg [5] l.length (fun gg v w' => ∃ i : Int, v = .int .i64 i ∧ 0 ≤ i ∧ i ≤ l.length ∧ l.length - i ≤ gg ∧ Aside0 (Below w.heap.size w w') ∧ Aside0 (w'.heap[w.heap.size]? = some (.cells #[.int .i64 ip, .int .i64 b, .int .i64 gate, .string gm, .string wm, .int .i64 res, .slice A6 g.length c6, .slice A7 l.length c7] 41 (0, 0))) ∧ Aside0 (∀ j : Int, 0 ≤ j → j < i → ¬ HasRole l nm (l.getD j.toNat z145)))
  case atStart => exact ⟨0, rfl, Int.le_refl _, by omega, by omega, ⟨below_alloc (Below.refl _ _) _⟩, ⟨blk_new _ _⟩, ⟨fun j h0 h1 => by omega⟩⟩
  case round =>
    obtain ⟨i, rfl, hi0, hi, hgg, HB, HX, HA⟩ := hrel
    have hx := blk_cell HX.out
    by_cases hlt : i < l.length
    · obtain ⟨ad, aA, aC, eA, r0, _⟩ := at_T145 (Kd.C_below H0.out HB.out) i hi0 hlt
      subst eA
      rcases beq_emS (rd_T145 l i).f0 nm with ⟨b0, k0⟩ | ⟨b0, k0⟩
      · go_wp2
        go_ret
        exact ⟨i, rfl, HB.out, .inr ⟨hi0, hlt, k0.out, HA.out⟩⟩
      · go_wp2
        clear hx
        go_roundg (l.length - (i + 1)).toNat
        case measure => omega
        case rel => exact ⟨i + 1, rfl, by omega, by omega, by omega, HB, HX, ⟨fun j h0 h1 => by
          by_cases hj : j < i
          · exact HA.out j h0 hj
          · obtain rfl : j = i := by omega
            exact k0.out⟩⟩
    · obtain rfl : i = l.length := by omega
      go_wp2
      go_ret
      exact ⟨-1, rfl, HB.out, .inl ⟨rfl, all_of rfl HA.out⟩⟩
end
section
-- NEEDS laws.eqConfig
def NoRole (l : List S145) (nm : ByteArray) : Prop := ∀ x ∈ l, ¬ HasRole l nm x
set_option maxHeartbeats 8000000 in
set_option maxRecDepth 100000 in
theorem iRolePtr (ip b gate : Int) (gm wm : ByteArray) (res : Int) (A6 : Option Addr) (c6 : Nat) (g : List S140) (A7 : Option Addr) (c7 : Nat) (l : List S145) (gc : Nat) (nm : ByteArray) (w : World) (hx : w.heap[gc]? = some (.cells #[.int .i64 ip, .int .i64 b, .int .i64 gate, .string gm, .string wm, .int .i64 res, .slice A6 g.length c6, .slice A7 l.length c7] 41 (0, 0))) (hl : Kd.C k145 w A7 l.length l) (zl : l.length ≤ 1152921504606846976) : Calls Tryz.prog 110 #[.pointer (some ⟨gc, 0, none⟩), .string nm] w fun e w' => ∃ p, e = .returned (.pointer p) ∧ Below w.heap.size w w' ∧ ((p = none ∧ NoRole l nm) ∨ ∃ ad r, A7 = some ad ∧ 0 ≤ r ∧ r < (l.length : Int) ∧ p = some (ad.add (r.toNat * 5)) ∧ HasRole l nm (rd_T145 l r) ∧ ∀ j : Int, 0 ≤ j → j < r → ¬ HasRole l nm (rd_T145 l j)) := by
  have hu := Tryz.underlying41
  have hc := blk_cell hx
  have H0 := Aside0.mk (And.intro hl hx)
  clear hl hx
  go_enter Tryz.func110, Tryz.ntmps110
  go_wp2
  clear hc
  go_loopg [11] l.length (fun gg v w' => ∃ i : Int, v = .int .i64 i ∧ 0 ≤ i ∧ i ≤ l.length ∧ l.length - i ≤ gg ∧ Aside0 (Below w.heap.size w w') ∧ Aside0 (∀ j : Int, 0 ≤ j → j < i → ¬ HasRole l nm (rd_T145 l j)))
  case atStart => exact ⟨0, rfl, Int.le_refl _, by omega, by omega, ⟨Below.refl _ _⟩, ⟨fun j h0 h1 => by omega⟩⟩
  case round =>
    obtain ⟨i, rfl, hi0, hi, hgg, HB, HA⟩ := hrel
    have hx := blk_cell ((HB.out.block gc (blk_lt H0.out.2)).trans H0.out.2)
    by_cases hlt : i < l.length
    · obtain ⟨ad, aA, aC, eA, r0, _⟩ := at_T145 (Kd.C_below H0.out.1 HB.out) i hi0 hlt
      subst eA
      rcases beq_emS (rd_T145 l i).f0 nm with ⟨b0, k0⟩ | ⟨b0, k0⟩
      · go_wp2
        go_ret
        exact ⟨_, rfl, HB.out, .inr ⟨ad, i, rfl, hi0, hlt, rfl, k0.out, HA.out⟩⟩
      · go_wp2
        clear hx
        go_roundg (l.length - (i + 1)).toNat
        case measure => omega
        case rel => exact ⟨i + 1, rfl, by omega, by omega, by omega, HB, ⟨fun j h0 h1 => by
          by_cases hj : j < i
          · exact HA.out j h0 hj
          · obtain rfl : j = i := by omega
            exact k0.out⟩⟩
    · obtain rfl : i = l.length := by omega
      go_wp2
      go_ret
      have hno : NoRole l nm := fun x hx => (all_of (P := fun x => ¬ HasRole l nm x) (z := z145) rfl HA.out) x hx
      exact ⟨none, rfl, HB.out, .inl ⟨rfl, hno⟩⟩
set_option maxHeartbeats 8000000 in
set_option maxRecDepth 100000 in
theorem iHash1 (a : ByteArray) (w : World) (z : a.size ≤ 1152921504606846976) : Calls Tryz.prog 109 #[.string a] w (IsB (a.size = 32) w) := by
  go_enter Tryz.func109, Tryz.ntmps109
  go_wp2
  go_ret
  exact IsB.of rfl (by rw [beq_iff_eq]; omega) (Below.refl _ _)
set_option maxHeartbeats 8000000 in
set_option maxRecDepth 100000 in
theorem iUNum1 (a b : Int) (w : World) : Calls Tryz.prog 111 #[.int .i64 a, .int .i64 b] w (IsB ((0 ≤ a ∧ a ≤ 1000000) ∧ (0 ≤ b ∧ b ≤ 1000)) w) := by
  have HB := Aside0.mk (Below.refl w.heap.size w)
  have HP := Aside0.mk True.intro
  go_enter Tryz.func111, Tryz.ntmps111
  go_wp2_with (first
    | (go_at_call 47; refine (iIn1 _ _ _ _).mono ?_; rintro e w2 (⟨rfl, hr, hb⟩ | ⟨rfl, hr, hb⟩) <;> (have n_ := Aside0.mk (And.intro hr HP.out); clear HP hr; have HP := n_; clear n_; have n_ := Aside0.mk (below_step (w := w) (by repeat' (with_reducible first | exact HB.out | apply below_alloc | apply below_drew1 | refine below_set ?_ (by omega))) hb); clear HB; have HB := n_; clear n_; clear hb)))
  all_goals go_ret
  · exact .inl ⟨rfl, ⟨HP.out.2.1, HP.out.1⟩, HB.out⟩
  · exact .inr ⟨rfl, fun h => HP.out.1 h.2, HB.out⟩
  · exact .inr ⟨rfl, fun h => HP.out.1 h.1, HB.out⟩
set_option maxHeartbeats 8000000 in
set_option maxRecDepth 100000 in
theorem iTime1 (a : Int) (w : World) : Calls Tryz.prog 113 #[.int .i64 a] w (IsB (0 ≤ a ∧ a ≤ 100000) w) := by
  have HB := Aside0.mk (Below.refl w.heap.size w)
  have HP := Aside0.mk True.intro
  go_enter Tryz.func113, Tryz.ntmps113
  go_wp2_with (first
    | (go_at_call 47; refine (iIn1 _ _ _ _).mono ?_; rintro e w2 (⟨rfl, hr, hb⟩ | ⟨rfl, hr, hb⟩) <;> (have n_ := Aside0.mk (And.intro hr HP.out); clear HP hr; have HP := n_; clear n_; have n_ := Aside0.mk (below_step (w := w) (by repeat' (with_reducible first | exact HB.out | apply below_alloc | apply below_drew1 | refine below_set ?_ (by omega))) hb); clear HB; have HB := n_; clear n_; clear hb)))
  · go_ret
    exact .inl ⟨rfl, HP.out.1, HB.out⟩
  · go_ret
    exact .inr ⟨rfl, HP.out.1, HB.out⟩
def FailP (x : S81) : Prop := x.f0.size = 6 ∧ (0 ≤ x.f1 ∧ x.f1 ≤ 2) ∧ (0 ≤ x.f2 ∧ x.f2 ≤ 100010)
set_option maxHeartbeats 8000000 in
set_option maxRecDepth 100000 in
theorem iFail1 (x : S81) (w : World) (z : x.f0.size ≤ 1152921504606846976) : Calls Tryz.prog 52 #[.agg #[.string x.f0, .int .i64 x.f1, .int .i64 x.f2]] w (IsB (FailP x) w) := by
  have hu := Tryz.underlying81
  have HB := Aside0.mk (Below.refl w.heap.size w)
  have HP := Aside0.mk True.intro
  go_enter Tryz.func52, Tryz.ntmps52
  go_wp2_with (first
    | (go_at_call 103; refine (iMac1 _ _ z).mono ?_; rintro e w2 (⟨rfl, hr, hb⟩ | ⟨rfl, hr, hb⟩) <;> (have n_ := Aside0.mk (And.intro hr HP.out); clear HP hr; have HP := n_; clear n_; have n_ := Aside0.mk (below_step (w := w) (by repeat' (with_reducible first | exact HB.out | apply below_alloc | apply below_drew1 | refine below_set ?_ (by omega))) hb); clear HB; have HB := n_; clear n_; have n_ := Aside0.mk (blk_below (g := w.heap.size) (o := .cells #[.string x.f0, .int .i64 x.f1, .int .i64 x.f2] 81 (0, 0)) (by repeat' (with_reducible first | exact HX.out | exact blk_new _ _ | refine blk_alloc ?_ _ | refine blk_drew ?_ | refine blk_far ?_ (by dsimp only; omega) _)) hb); (try clear HX); have HX := n_; clear n_; obtain ⟨hc, hf⟩ := bcell hb; have hz : w.heap.size < w2.heap.size := blk_lt HX.out; clear hb))
    | (go_at_call 47; refine (iIn1 _ _ _ _).mono ?_; rintro e w2 (⟨rfl, hr, hb⟩ | ⟨rfl, hr, hb⟩) <;> (have n_ := Aside0.mk (And.intro hr HP.out); clear HP hr; have HP := n_; clear n_; have n_ := Aside0.mk (below_step (w := w) (by repeat' (with_reducible first | exact HB.out | apply below_alloc | apply below_drew1 | refine below_set ?_ (by omega))) hb); clear HB; have HB := n_; clear n_; have n_ := Aside0.mk (blk_below (g := w.heap.size) (o := .cells #[.string x.f0, .int .i64 x.f1, .int .i64 x.f2] 81 (0, 0)) (by repeat' (with_reducible first | exact HX.out | exact blk_new _ _ | refine blk_alloc ?_ _ | refine blk_drew ?_ | refine blk_far ?_ (by dsimp only; omega) _)) hb); (try clear HX); have HX := n_; clear n_; obtain ⟨hc, hf⟩ := bcell hb; have hz : w.heap.size < w2.heap.size := blk_lt HX.out; clear hb)))
  all_goals go_ret
  all_goals first
    | exact .inl ⟨rfl, ⟨HP.out.2.2.1, HP.out.2.1, HP.out.1⟩, HB.out⟩
    | exact .inr ⟨rfl, fun h => HP.out.1 h.2.2, HB.out⟩
    | exact .inr ⟨rfl, fun h => HP.out.1 h.2.1, HB.out⟩
    | exact .inr ⟨rfl, fun h => HP.out.1 h.1, HB.out⟩
set_option maxHeartbeats 8000000 in
set_option maxRecDepth 100000 in
theorem iUser1 (ip b gate : Int) (gm wm : ByteArray) (res : Int) (A6 : Option Addr) (c6 : Nat) (g : List S140) (A7 : Option Addr) (c7 : Nat) (l : List S145) (gc : Nat) (u : S92) (w : World) (hx : w.heap[gc]? = some (.cells #[.int .i64 ip, .int .i64 b, .int .i64 gate, .string gm, .string wm, .int .i64 res, .slice A6 g.length c6, .slice A7 l.length c7] 41 (0, 0))) (hl : Kd.C k145 w A7 l.length l) (zl : l.length ≤ 1152921504606846976) (z0 : u.f0.size ≤ 1152921504606846976) (z1 : u.f1.size ≤ 1152921504606846976) (z2 : u.f2.size ≤ 1152921504606846976) : Calls Tryz.prog 48 #[.pointer (some ⟨gc, 0, none⟩), .agg #[.string u.f0, .string u.f1, .string u.f2, .string u.f3, .int .i64 u.f4, .int .i64 u.f5]] w (IsB (UserP l u) w) := by
  have hu := Tryz.underlying92
  have H0 := Aside0.mk (And.intro hl hx)
  clear hl hx
  have HB := Aside0.mk (Below.refl w.heap.size w)
  have HP := Aside0.mk True.intro
  rcases dec_em ((u.f1.size : Int) ≤ 40) with ⟨k1, b1⟩ | ⟨k1, b1⟩
  all_goals go_enter Tryz.func48, Tryz.ntmps48
  all_goals go_wp2_with (first
   | (go_at_call 108; refine (iShort1 _ _ z0).mono ?_; rintro e w2 (⟨rfl, hr, hb⟩ | ⟨rfl, hr, hb⟩) <;> (have n_ := Aside0.mk (And.intro hr HP.out); clear HP hr; have HP := n_; clear n_; have n_ := Aside0.mk (below_step (w := w) (by repeat' (with_reducible first | exact HB.out | apply below_alloc | apply below_drew1 | refine below_set ?_ (by omega))) hb); clear HB; have HB := n_; clear n_; have n_ := Aside0.mk (blk_below (g := w.heap.size) (o := .cells #[.string u.f0, .string u.f1, .string u.f2, .string u.f3, .int .i64 u.f4, .int .i64 u.f5] 92 (0, 0)) (by repeat' (with_reducible first | exact HX.out | exact blk_new _ _ | refine blk_alloc ?_ _ | refine blk_drew ?_ | refine blk_far ?_ (by dsimp only; omega) _)) hb); (try clear HX); have HX := n_; clear n_; obtain ⟨hc, hf⟩ := bcell hb; have hz : w.heap.size < w2.heap.size := blk_lt HX.out; clear hb))
   | (go_at_call 109; refine (iHash1 _ _ z2).mono ?_; rintro e w2 (⟨rfl, hr, hb⟩ | ⟨rfl, hr, hb⟩) <;> (have n_ := Aside0.mk (And.intro hr HP.out); clear HP hr; have HP := n_; clear n_; have n_ := Aside0.mk (below_step (w := w) (by repeat' (with_reducible first | exact HB.out | apply below_alloc | apply below_drew1 | refine below_set ?_ (by omega))) hb); clear HB; have HB := n_; clear n_; have n_ := Aside0.mk (blk_below (g := w.heap.size) (o := .cells #[.string u.f0, .string u.f1, .string u.f2, .string u.f3, .int .i64 u.f4, .int .i64 u.f5] 92 (0, 0)) (by repeat' (with_reducible first | exact HX.out | exact blk_new _ _ | refine blk_alloc ?_ _ | refine blk_drew ?_ | refine blk_far ?_ (by dsimp only; omega) _)) hb); (try clear HX); have HX := n_; clear n_; obtain ⟨hc, hf⟩ := bcell hb; have hz : w.heap.size < w2.heap.size := blk_lt HX.out; clear hb))
   | (go_at_call 110; refine (iRolePtr ip b gate gm wm res A6 c6 g A7 c7 l gc u.f3 _ ((Below.block (w := w) (by repeat' (with_reducible first | exact HB.out | apply below_alloc | apply below_drew1 | refine below_set ?_ (by omega))) gc (blk_lt H0.out.2)).trans H0.out.2) (Kd.C_below H0.out.1 (by repeat' (with_reducible first | exact HB.out | apply below_alloc | apply below_drew1 | refine below_set ?_ (by omega)))) zl).mono ?_; rintro e w2 ⟨p, rfl, hb, ⟨rfl, hr0⟩ | ⟨ad2, r2, hA2, h02, h12, rfl, hp2, hq2⟩⟩; (have hr : ¬ ∃ x ∈ l, HasRole l u.f3 x := fun h => by obtain ⟨x, h1, h2⟩ := h; exact hr0 x h1 h2); rotate_left; (have hr : ∃ x ∈ l, HasRole l u.f3 x := ⟨_, rdmem h02 h12, hp2⟩; clear hA2 h02 h12 hp2 hq2); all_goals (have n_ := Aside0.mk (And.intro hr HP.out); clear HP hr; have HP := n_; clear n_; have n_ := Aside0.mk (below_step (w := w) (by repeat' (with_reducible first | exact HB.out | apply below_alloc | apply below_drew1 | refine below_set ?_ (by omega))) hb); clear HB; have HB := n_; clear n_; have n_ := Aside0.mk (blk_below (g := w.heap.size) (o := .cells #[.string u.f0, .string u.f1, .string u.f2, .string u.f3, .int .i64 u.f4, .int .i64 u.f5] 92 (0, 0)) (by repeat' (with_reducible first | exact HX.out | exact blk_new _ _ | refine blk_alloc ?_ _ | refine blk_drew ?_ | refine blk_far ?_ (by dsimp only; omega) _)) hb); (try clear HX); have HX := n_; clear n_; obtain ⟨hc, hf⟩ := bcell hb; have hz : w.heap.size < w2.heap.size := blk_lt HX.out; clear hb))
   | (go_at_call 111; refine (iUNum1 _ _ _).mono ?_; rintro e w2 (⟨rfl, hr, hb⟩ | ⟨rfl, hr, hb⟩) <;> (have n_ := Aside0.mk (And.intro hr HP.out); clear HP hr; have HP := n_; clear n_; have n_ := Aside0.mk (below_step (w := w) (by repeat' (with_reducible first | exact HB.out | apply below_alloc | apply below_drew1 | refine below_set ?_ (by omega))) hb); clear HB; have HB := n_; clear n_; have n_ := Aside0.mk (blk_below (g := w.heap.size) (o := .cells #[.string u.f0, .string u.f1, .string u.f2, .string u.f3, .int .i64 u.f4, .int .i64 u.f5] 92 (0, 0)) (by repeat' (with_reducible first | exact HX.out | exact blk_new _ _ | refine blk_alloc ?_ _ | refine blk_drew ?_ | refine blk_far ?_ (by dsimp only; omega) _)) hb); (try clear HX); have HX := n_; clear n_; obtain ⟨hc, hf⟩ := bcell hb; have hz : w.heap.size < w2.heap.size := blk_lt HX.out; clear hb)))
  all_goals go_ret
  all_goals first
    | exact .inl ⟨rfl, ⟨HP.out.2.2.2.1, by omega, HP.out.2.2.1, HP.out.2.1, HP.out.1.1, HP.out.1.2⟩, HB.out⟩
    | exact .inr ⟨rfl, fun h => HP.out.1 h.1, HB.out⟩
    | exact .inr ⟨rfl, fun h => HP.out.1 h.2.2.1, HB.out⟩
    | exact .inr ⟨rfl, fun h => HP.out.1 h.2.2.2.1, HB.out⟩
    | exact .inr ⟨rfl, fun h => HP.out.1 h.2.2.2.2, HB.out⟩
    | exact .inr ⟨rfl, fun h => by have := h.2.1; omega, HB.out⟩
end
section
-- NEEDS laws.eqConfig
def SessionP (ip b nx : Int) (nu : Nat) (s : S76) : Prop := (1 ≤ s.f0 ∧ s.f0 ≤ nx - 1) ∧ (0 ≤ s.f1 ∧ s.f1 ≤ (nu : Int) - 1) ∧ s.f2.size = 6 ∧ (0 ≤ s.f3 ∧ s.f3 ≤ 4294967295) ∧ HasP ip b s.f3 ∧ (0 ≤ s.f4 ∧ s.f4 ≤ 100000) ∧ (s.f4 ≤ s.f5 ∧ s.f5 ≤ 100000) ∧ (1 ≤ s.f7 ∧ s.f7 ≤ 1000000) ∧ (0 ≤ s.f6 ∧ s.f6 ≤ s.f7) ∧ (s.f4 ≤ s.f8 ∧ s.f8 ≤ 101000) ∧ (1 ≤ s.f9 ∧ s.f9 ≤ 1000)
def RecordP (nx : Int) (r : S83) : Prop := (1 ≤ r.f0 ∧ r.f0 ≤ nx - 1) ∧ (0 ≤ r.f1 ∧ r.f1 ≤ 100000) ∧ (0 ≤ r.f3 ∧ r.f3 ≤ 1000000) ∧ (r.f4 = true → 1 ≤ r.f2 ∧ r.f2 ≤ 6) ∧ (r.f4 = false → r.f2 = 0 ∧ r.f3 = 0)
set_option maxHeartbeats 8000000 in
set_option maxRecDepth 100000 in
theorem iSession1 (ip b gate : Int) (gm wm : ByteArray) (res : Int) (A6 : Option Addr) (c6 : Nat) (g : List S140) (A7 : Option Addr) (c7 : Nat) (l : List S145) (B0 B1 B2 B3 : Option Addr) (d0 d1 d2 d3 : Nat) (us : List S92) (ss : List S76) (fs : List S81) (rs : List S83) (nx : Int) (gc gg : Nat) (s : S76) (w : World) (hx : w.heap[gc]? = some (.cells #[.int .i64 ip, .int .i64 b, .int .i64 gate, .string gm, .string wm, .int .i64 res, .slice A6 g.length c6, .slice A7 l.length c7] 41 (0, 0))) (hy : w.heap[gg]? = some (.cells #[.slice B0 us.length d0, .slice B1 ss.length d1, .slice B2 fs.length d2, .slice B3 rs.length d3, .int .i64 nx] 48 (0, 0))) (n0 : 1 ≤ nx) (n1 : nx ≤ 10000) (zu : us.length ≤ 1152921504606846976) (kb0 : 0 ≤ b) (kb1 : b ≤ 32) (z2 : s.f2.size ≤ 1152921504606846976) : Calls Tryz.prog 51 #[.pointer (some ⟨gc, 0, none⟩), .pointer (some ⟨gg, 0, none⟩), .agg #[.int .i64 s.f0, .int .i64 s.f1, .string s.f2, .int .i64 s.f3, .int .i64 s.f4, .int .i64 s.f5, .int .i64 s.f6, .int .i64 s.f7, .int .i64 s.f8, .int .i64 s.f9]] w (IsB (SessionP ip b nx us.length s) w) := by
  have hu := Tryz.underlying76
  have hu2 := Tryz.underlying41
  have hu3 := Tryz.underlying48
  have H0 := Aside0.mk (And.intro hx hy)
  clear hx hy
  have hw1 : IntKind.i64.wrap (nx - 1) = nx - 1 := i64id (by omega) (by omega)
  have hw2 : IntKind.i64.wrap ((us.length : Int) - 1) = (us.length : Int) - 1 := i64id (by omega) (by omega)
  go_enter Tryz.func51, Tryz.ntmps51
  go_wp2
  have HB := Aside0.mk (below_alloc (Below.refl w.heap.size w) (.cells #[.int .i64 s.f0, .int .i64 s.f1, .string s.f2, .int .i64 s.f3, .int .i64 s.f4, .int .i64 s.f5, .int .i64 s.f6, .int .i64 s.f7, .int .i64 s.f8, .int .i64 s.f9] 76 (0, 0)))
  have HX := Aside0.mk (blk_new w (.cells #[.int .i64 s.f0, .int .i64 s.f1, .string s.f2, .int .i64 s.f3, .int .i64 s.f4, .int .i64 s.f5, .int .i64 s.f6, .int .i64 s.f7, .int .i64 s.f8, .int .i64 s.f9] 76 (0, 0)))
  have hg2 := blk_below H0.out.2 HB.out
  have hc2 := blk_below H0.out.1 HB.out
  generalize hW : w.alloc (.cells #[.int .i64 s.f0, .int .i64 s.f1, .string s.f2, .int .i64 s.f3, .int .i64 s.f4, .int .i64 s.f5, .int .i64 s.f6, .int .i64 s.f7, .int .i64 s.f8, .int .i64 s.f9] 76 (0, 0)) = W0 at *
  clear hW
  rcases Classical.em (1 ≤ s.f0 ∧ s.f0 ≤ nx - 1) with k1 | k1 <;> (have K1 := Aside0.mk k1; clear k1)
  rotate_left
  · refine qS (fun w' => w'.cell? ⟨w.heap.size, 0, none⟩ = some (.int .i64 s.f0) ∧ w'.cell? ⟨w.heap.size, 1, none⟩ = some (.int .i64 s.f1) ∧ w'.cell? ⟨w.heap.size, 2, none⟩ = some (.string s.f2) ∧ w'.cell? ⟨w.heap.size, 3, none⟩ = some (.int .i64 s.f3) ∧ w'.cell? ⟨w.heap.size, 4, none⟩ = some (.int .i64 s.f4) ∧ w'.cell? ⟨w.heap.size, 5, none⟩ = some (.int .i64 s.f5) ∧ w'.cell? ⟨w.heap.size, 6, none⟩ = some (.int .i64 s.f6) ∧ w'.cell? ⟨w.heap.size, 7, none⟩ = some (.int .i64 s.f7) ∧ w'.cell? ⟨w.heap.size, 8, none⟩ = some (.int .i64 s.f8) ∧ w'.cell? ⟨w.heap.size, 9, none⟩ = some (.int .i64 s.f9) ∧ w'.cell? ⟨gg, 0, none⟩ = some (.slice B0 us.length d0) ∧ w'.cell? ⟨gg, 4, none⟩ = some (.int .i64 nx) ∧ w'.cell? ⟨gc, 0, none⟩ = some (.int .i64 ip) ∧ w'.cell? ⟨gc, 1, none⟩ = some (.int .i64 b)) 39 ⟨blk_cell HX.out 0, blk_cell HX.out 1, blk_cell HX.out 2, blk_cell HX.out 3, blk_cell HX.out 4, blk_cell HX.out 5, blk_cell HX.out 6, blk_cell HX.out 7, blk_cell HX.out 8, blk_cell HX.out 9, blk_cell hg2 0, blk_cell hg2 4, blk_cell hc2 0, blk_cell hc2 1⟩ (fun hs => ?_)
    have n_ := Aside0.mk (below_drew1 HB.out)
    clear HB
    have HB := n_
    clear n_
    have n_ := Aside0.mk (blk_drew HX.out)
    clear HX
    have HX := n_
    clear n_
    refine qP 0 8 ?_
    refine qP 2 10 ?_
    refine qP 3 11 ?_
    refine qP 4 12 ?_
    refine qT 1 9 hs ?_
    refine qT 5 13 hs ?_
    refine qP 6 14 ?_
    refine q1 7 15 (fun K hK => ?_)
    refine qC Tryz.func47 _ ?_
    refine (iIn1 _ _ _ _).mono ?_
    intro e w2 h2
    obtain ⟨rfl, hb⟩ := h2.no K1.out
    have n_ := Aside0.mk (below_step HB.out hb)
    clear HB
    have HB := n_
    clear n_
    have n_ := Aside0.mk (blk_below HX.out hb)
    clear HX
    have HX := n_
    clear n_
    refine ⟨_, rfl, hK.out _ _ ⟨pw_cell_below hb hs.1, pw_cell_below hb hs.2.1, pw_cell_below hb hs.2.2.1, pw_cell_below hb hs.2.2.2.1, pw_cell_below hb hs.2.2.2.2.1, pw_cell_below hb hs.2.2.2.2.2.1, pw_cell_below hb hs.2.2.2.2.2.2.1, pw_cell_below hb hs.2.2.2.2.2.2.2.1, pw_cell_below hb hs.2.2.2.2.2.2.2.2.1, pw_cell_below hb hs.2.2.2.2.2.2.2.2.2.1, pw_cell_below hb hs.2.2.2.2.2.2.2.2.2.2.1, pw_cell_below hb hs.2.2.2.2.2.2.2.2.2.2.2.1, pw_cell_below hb hs.2.2.2.2.2.2.2.2.2.2.2.2.1, pw_cell_below hb hs.2.2.2.2.2.2.2.2.2.2.2.2.2⟩ (fun hs2 => ?_)⟩
    clear hK K hs hb
    have hs := hs2
    clear hs2
    refine qN ?_
    refine qP 8 16 ?_
    refine qU 9 17 ?_
    refine qU 10 18 ?_
    refine qU 11 19 ?_
    refine qU 12 20 ?_
    refine qU 13 21 ?_
    refine qU 14 22 ?_
    refine qU 15 23 ?_
    refine qU 16 24 ?_
    refine qU 17 25 ?_
    refine qP 18 26 ?_
    refine qP 19 27 ?_
    refine qU 20 28 ?_
    refine qU 21 29 ?_
    refine qU 22 30 ?_
    refine qP 23 31 ?_
    refine qP 24 32 ?_
    refine qU 25 33 ?_
    refine qU 26 34 ?_
    refine qU 27 35 ?_
    refine qP 28 36 ?_
    refine qP 29 37 ?_
    refine qU 30 38 ?_
    refine qU 31 39 ?_
    refine qU 32 40 ?_
    refine qU 33 41 ?_
    refine qU 34 42 ?_
    refine qU 35 43 ?_
    refine qU 36 44 ?_
    refine qP 37 45 ?_
    refine qP 38 7 ?_
    refine qD ?_
    clear hs
    clear hg2 hc2 hw1 hw2
    go_wp2
    go_ret
    exact .inr ⟨rfl, fun h => K1.out h.1, HB.out⟩
  rcases Classical.em (0 ≤ s.f1 ∧ s.f1 ≤ (us.length : Int) - 1) with k2 | k2 <;> (have K2 := Aside0.mk k2; clear k2)
  rotate_left
  · refine qS (fun w' => w'.cell? ⟨w.heap.size, 0, none⟩ = some (.int .i64 s.f0) ∧ w'.cell? ⟨w.heap.size, 1, none⟩ = some (.int .i64 s.f1) ∧ w'.cell? ⟨w.heap.size, 2, none⟩ = some (.string s.f2) ∧ w'.cell? ⟨w.heap.size, 3, none⟩ = some (.int .i64 s.f3) ∧ w'.cell? ⟨w.heap.size, 4, none⟩ = some (.int .i64 s.f4) ∧ w'.cell? ⟨w.heap.size, 5, none⟩ = some (.int .i64 s.f5) ∧ w'.cell? ⟨w.heap.size, 6, none⟩ = some (.int .i64 s.f6) ∧ w'.cell? ⟨w.heap.size, 7, none⟩ = some (.int .i64 s.f7) ∧ w'.cell? ⟨w.heap.size, 8, none⟩ = some (.int .i64 s.f8) ∧ w'.cell? ⟨w.heap.size, 9, none⟩ = some (.int .i64 s.f9) ∧ w'.cell? ⟨gg, 0, none⟩ = some (.slice B0 us.length d0) ∧ w'.cell? ⟨gg, 4, none⟩ = some (.int .i64 nx) ∧ w'.cell? ⟨gc, 0, none⟩ = some (.int .i64 ip) ∧ w'.cell? ⟨gc, 1, none⟩ = some (.int .i64 b)) 39 ⟨blk_cell HX.out 0, blk_cell HX.out 1, blk_cell HX.out 2, blk_cell HX.out 3, blk_cell HX.out 4, blk_cell HX.out 5, blk_cell HX.out 6, blk_cell HX.out 7, blk_cell HX.out 8, blk_cell HX.out 9, blk_cell hg2 0, blk_cell hg2 4, blk_cell hc2 0, blk_cell hc2 1⟩ (fun hs => ?_)
    have n_ := Aside0.mk (below_drew1 HB.out)
    clear HB
    have HB := n_
    clear n_
    have n_ := Aside0.mk (blk_drew HX.out)
    clear HX
    have HX := n_
    clear n_
    refine qP 0 8 ?_
    refine qP 2 10 ?_
    refine qP 3 11 ?_
    refine qP 4 12 ?_
    refine qT 1 9 hs ?_
    refine qT 5 13 hs ?_
    refine qP 6 14 ?_
    refine q1 7 15 (fun K hK => ?_)
    refine qC Tryz.func47 _ ?_
    refine (iIn1 _ _ _ _).mono ?_
    intro e w2 h2
    obtain ⟨rfl, hb⟩ := h2.yes K1.out
    have n_ := Aside0.mk (below_step HB.out hb)
    clear HB
    have HB := n_
    clear n_
    have n_ := Aside0.mk (blk_below HX.out hb)
    clear HX
    have HX := n_
    clear n_
    refine ⟨_, rfl, hK.out _ _ ⟨pw_cell_below hb hs.1, pw_cell_below hb hs.2.1, pw_cell_below hb hs.2.2.1, pw_cell_below hb hs.2.2.2.1, pw_cell_below hb hs.2.2.2.2.1, pw_cell_below hb hs.2.2.2.2.2.1, pw_cell_below hb hs.2.2.2.2.2.2.1, pw_cell_below hb hs.2.2.2.2.2.2.2.1, pw_cell_below hb hs.2.2.2.2.2.2.2.2.1, pw_cell_below hb hs.2.2.2.2.2.2.2.2.2.1, pw_cell_below hb hs.2.2.2.2.2.2.2.2.2.2.1, pw_cell_below hb hs.2.2.2.2.2.2.2.2.2.2.2.1, pw_cell_below hb hs.2.2.2.2.2.2.2.2.2.2.2.2.1, pw_cell_below hb hs.2.2.2.2.2.2.2.2.2.2.2.2.2⟩ (fun hs2 => ?_)⟩
    clear hK K hs hb
    have hs := hs2
    clear hs2
    refine qN ?_
    refine qP 8 16 ?_
    refine qP 9 17 ?_
    refine qP 11 19 ?_
    refine qP 12 20 ?_
    refine qP 13 21 ?_
    refine qT 10 18 hs ?_
    refine qT 14 22 hs ?_
    refine qP 15 23 ?_
    refine qP 16 24 ?_
    refine q1 17 25 (fun K hK => ?_)
    refine qC Tryz.func47 _ ?_
    refine (iIn1 _ _ _ _).mono ?_
    intro e w2 h2
    obtain ⟨rfl, hb⟩ := h2.no K2.out
    have n_ := Aside0.mk (below_step HB.out hb)
    clear HB
    have HB := n_
    clear n_
    have n_ := Aside0.mk (blk_below HX.out hb)
    clear HX
    have HX := n_
    clear n_
    refine ⟨_, rfl, hK.out _ _ ⟨pw_cell_below hb hs.1, pw_cell_below hb hs.2.1, pw_cell_below hb hs.2.2.1, pw_cell_below hb hs.2.2.2.1, pw_cell_below hb hs.2.2.2.2.1, pw_cell_below hb hs.2.2.2.2.2.1, pw_cell_below hb hs.2.2.2.2.2.2.1, pw_cell_below hb hs.2.2.2.2.2.2.2.1, pw_cell_below hb hs.2.2.2.2.2.2.2.2.1, pw_cell_below hb hs.2.2.2.2.2.2.2.2.2.1, pw_cell_below hb hs.2.2.2.2.2.2.2.2.2.2.1, pw_cell_below hb hs.2.2.2.2.2.2.2.2.2.2.2.1, pw_cell_below hb hs.2.2.2.2.2.2.2.2.2.2.2.2.1, pw_cell_below hb hs.2.2.2.2.2.2.2.2.2.2.2.2.2⟩ (fun hs2 => ?_)⟩
    clear hK K hs hb
    have hs := hs2
    clear hs2
    refine qN ?_
    refine qP 18 26 ?_
    refine qP 19 27 ?_
    refine qU 20 28 ?_
    refine qU 21 29 ?_
    refine qU 22 30 ?_
    refine qP 23 31 ?_
    refine qP 24 32 ?_
    refine qU 25 33 ?_
    refine qU 26 34 ?_
    refine qU 27 35 ?_
    refine qP 28 36 ?_
    refine qP 29 37 ?_
    refine qU 30 38 ?_
    refine qU 31 39 ?_
    refine qU 32 40 ?_
    refine qU 33 41 ?_
    refine qU 34 42 ?_
    refine qU 35 43 ?_
    refine qU 36 44 ?_
    refine qP 37 45 ?_
    refine qP 38 7 ?_
    refine qD ?_
    clear hs
    clear hg2 hc2 hw1 hw2
    go_wp2
    go_ret
    exact .inr ⟨rfl, fun h => K2.out h.2.1, HB.out⟩
  rcases Classical.em (s.f2.size = 6) with k3 | k3 <;> (have K3 := Aside0.mk k3; clear k3)
  rotate_left
  · refine qS (fun w' => w'.cell? ⟨w.heap.size, 0, none⟩ = some (.int .i64 s.f0) ∧ w'.cell? ⟨w.heap.size, 1, none⟩ = some (.int .i64 s.f1) ∧ w'.cell? ⟨w.heap.size, 2, none⟩ = some (.string s.f2) ∧ w'.cell? ⟨w.heap.size, 3, none⟩ = some (.int .i64 s.f3) ∧ w'.cell? ⟨w.heap.size, 4, none⟩ = some (.int .i64 s.f4) ∧ w'.cell? ⟨w.heap.size, 5, none⟩ = some (.int .i64 s.f5) ∧ w'.cell? ⟨w.heap.size, 6, none⟩ = some (.int .i64 s.f6) ∧ w'.cell? ⟨w.heap.size, 7, none⟩ = some (.int .i64 s.f7) ∧ w'.cell? ⟨w.heap.size, 8, none⟩ = some (.int .i64 s.f8) ∧ w'.cell? ⟨w.heap.size, 9, none⟩ = some (.int .i64 s.f9) ∧ w'.cell? ⟨gg, 0, none⟩ = some (.slice B0 us.length d0) ∧ w'.cell? ⟨gg, 4, none⟩ = some (.int .i64 nx) ∧ w'.cell? ⟨gc, 0, none⟩ = some (.int .i64 ip) ∧ w'.cell? ⟨gc, 1, none⟩ = some (.int .i64 b)) 39 ⟨blk_cell HX.out 0, blk_cell HX.out 1, blk_cell HX.out 2, blk_cell HX.out 3, blk_cell HX.out 4, blk_cell HX.out 5, blk_cell HX.out 6, blk_cell HX.out 7, blk_cell HX.out 8, blk_cell HX.out 9, blk_cell hg2 0, blk_cell hg2 4, blk_cell hc2 0, blk_cell hc2 1⟩ (fun hs => ?_)
    have n_ := Aside0.mk (below_drew1 HB.out)
    clear HB
    have HB := n_
    clear n_
    have n_ := Aside0.mk (blk_drew HX.out)
    clear HX
    have HX := n_
    clear n_
    refine qP 0 8 ?_
    refine qP 2 10 ?_
    refine qP 3 11 ?_
    refine qP 4 12 ?_
    refine qT 1 9 hs ?_
    refine qT 5 13 hs ?_
    refine qP 6 14 ?_
    refine q1 7 15 (fun K hK => ?_)
    refine qC Tryz.func47 _ ?_
    refine (iIn1 _ _ _ _).mono ?_
    intro e w2 h2
    obtain ⟨rfl, hb⟩ := h2.yes K1.out
    have n_ := Aside0.mk (below_step HB.out hb)
    clear HB
    have HB := n_
    clear n_
    have n_ := Aside0.mk (blk_below HX.out hb)
    clear HX
    have HX := n_
    clear n_
    refine ⟨_, rfl, hK.out _ _ ⟨pw_cell_below hb hs.1, pw_cell_below hb hs.2.1, pw_cell_below hb hs.2.2.1, pw_cell_below hb hs.2.2.2.1, pw_cell_below hb hs.2.2.2.2.1, pw_cell_below hb hs.2.2.2.2.2.1, pw_cell_below hb hs.2.2.2.2.2.2.1, pw_cell_below hb hs.2.2.2.2.2.2.2.1, pw_cell_below hb hs.2.2.2.2.2.2.2.2.1, pw_cell_below hb hs.2.2.2.2.2.2.2.2.2.1, pw_cell_below hb hs.2.2.2.2.2.2.2.2.2.2.1, pw_cell_below hb hs.2.2.2.2.2.2.2.2.2.2.2.1, pw_cell_below hb hs.2.2.2.2.2.2.2.2.2.2.2.2.1, pw_cell_below hb hs.2.2.2.2.2.2.2.2.2.2.2.2.2⟩ (fun hs2 => ?_)⟩
    clear hK K hs hb
    have hs := hs2
    clear hs2
    refine qN ?_
    refine qP 8 16 ?_
    refine qP 9 17 ?_
    refine qP 11 19 ?_
    refine qP 12 20 ?_
    refine qP 13 21 ?_
    refine qT 10 18 hs ?_
    refine qT 14 22 hs ?_
    refine qP 15 23 ?_
    refine qP 16 24 ?_
    refine q1 17 25 (fun K hK => ?_)
    refine qC Tryz.func47 _ ?_
    refine (iIn1 _ _ _ _).mono ?_
    intro e w2 h2
    obtain ⟨rfl, hb⟩ := h2.yes K2.out
    have n_ := Aside0.mk (below_step HB.out hb)
    clear HB
    have HB := n_
    clear n_
    have n_ := Aside0.mk (blk_below HX.out hb)
    clear HX
    have HX := n_
    clear n_
    refine ⟨_, rfl, hK.out _ _ ⟨pw_cell_below hb hs.1, pw_cell_below hb hs.2.1, pw_cell_below hb hs.2.2.1, pw_cell_below hb hs.2.2.2.1, pw_cell_below hb hs.2.2.2.2.1, pw_cell_below hb hs.2.2.2.2.2.1, pw_cell_below hb hs.2.2.2.2.2.2.1, pw_cell_below hb hs.2.2.2.2.2.2.2.1, pw_cell_below hb hs.2.2.2.2.2.2.2.2.1, pw_cell_below hb hs.2.2.2.2.2.2.2.2.2.1, pw_cell_below hb hs.2.2.2.2.2.2.2.2.2.2.1, pw_cell_below hb hs.2.2.2.2.2.2.2.2.2.2.2.1, pw_cell_below hb hs.2.2.2.2.2.2.2.2.2.2.2.2.1, pw_cell_below hb hs.2.2.2.2.2.2.2.2.2.2.2.2.2⟩ (fun hs2 => ?_)⟩
    clear hK K hs hb
    have hs := hs2
    clear hs2
    refine qN ?_
    refine qP 18 26 ?_
    refine qP 19 27 ?_
    refine qP 20 28 ?_
    refine qT 21 29 hs ?_
    refine q1 22 30 (fun K hK => ?_)
    refine qC Tryz.func103 _ ?_
    refine (iMac1 _ _ z2).mono ?_
    intro e w2 h2
    obtain ⟨rfl, hb⟩ := h2.no K3.out
    have n_ := Aside0.mk (below_step HB.out hb)
    clear HB
    have HB := n_
    clear n_
    have n_ := Aside0.mk (blk_below HX.out hb)
    clear HX
    have HX := n_
    clear n_
    refine ⟨_, rfl, hK.out _ _ ⟨pw_cell_below hb hs.1, pw_cell_below hb hs.2.1, pw_cell_below hb hs.2.2.1, pw_cell_below hb hs.2.2.2.1, pw_cell_below hb hs.2.2.2.2.1, pw_cell_below hb hs.2.2.2.2.2.1, pw_cell_below hb hs.2.2.2.2.2.2.1, pw_cell_below hb hs.2.2.2.2.2.2.2.1, pw_cell_below hb hs.2.2.2.2.2.2.2.2.1, pw_cell_below hb hs.2.2.2.2.2.2.2.2.2.1, pw_cell_below hb hs.2.2.2.2.2.2.2.2.2.2.1, pw_cell_below hb hs.2.2.2.2.2.2.2.2.2.2.2.1, pw_cell_below hb hs.2.2.2.2.2.2.2.2.2.2.2.2.1, pw_cell_below hb hs.2.2.2.2.2.2.2.2.2.2.2.2.2⟩ (fun hs2 => ?_)⟩
    clear hK K hs hb
    have hs := hs2
    clear hs2
    refine qN ?_
    refine qP 23 31 ?_
    refine qP 24 32 ?_
    refine qU 25 33 ?_
    refine qU 26 34 ?_
    refine qU 27 35 ?_
    refine qP 28 36 ?_
    refine qP 29 37 ?_
    refine qU 30 38 ?_
    refine qU 31 39 ?_
    refine qU 32 40 ?_
    refine qU 33 41 ?_
    refine qU 34 42 ?_
    refine qU 35 43 ?_
    refine qU 36 44 ?_
    refine qP 37 45 ?_
    refine qP 38 7 ?_
    refine qD ?_
    clear hs
    clear hg2 hc2 hw1 hw2
    go_wp2
    go_ret
    exact .inr ⟨rfl, fun h => K3.out h.2.2.1, HB.out⟩
  rcases Classical.em (0 ≤ s.f3 ∧ s.f3 ≤ 4294967295) with k4 | k4 <;> (have K4 := Aside0.mk k4; clear k4)
  rotate_left
  · refine qS (fun w' => w'.cell? ⟨w.heap.size, 0, none⟩ = some (.int .i64 s.f0) ∧ w'.cell? ⟨w.heap.size, 1, none⟩ = some (.int .i64 s.f1) ∧ w'.cell? ⟨w.heap.size, 2, none⟩ = some (.string s.f2) ∧ w'.cell? ⟨w.heap.size, 3, none⟩ = some (.int .i64 s.f3) ∧ w'.cell? ⟨w.heap.size, 4, none⟩ = some (.int .i64 s.f4) ∧ w'.cell? ⟨w.heap.size, 5, none⟩ = some (.int .i64 s.f5) ∧ w'.cell? ⟨w.heap.size, 6, none⟩ = some (.int .i64 s.f6) ∧ w'.cell? ⟨w.heap.size, 7, none⟩ = some (.int .i64 s.f7) ∧ w'.cell? ⟨w.heap.size, 8, none⟩ = some (.int .i64 s.f8) ∧ w'.cell? ⟨w.heap.size, 9, none⟩ = some (.int .i64 s.f9) ∧ w'.cell? ⟨gg, 0, none⟩ = some (.slice B0 us.length d0) ∧ w'.cell? ⟨gg, 4, none⟩ = some (.int .i64 nx) ∧ w'.cell? ⟨gc, 0, none⟩ = some (.int .i64 ip) ∧ w'.cell? ⟨gc, 1, none⟩ = some (.int .i64 b)) 39 ⟨blk_cell HX.out 0, blk_cell HX.out 1, blk_cell HX.out 2, blk_cell HX.out 3, blk_cell HX.out 4, blk_cell HX.out 5, blk_cell HX.out 6, blk_cell HX.out 7, blk_cell HX.out 8, blk_cell HX.out 9, blk_cell hg2 0, blk_cell hg2 4, blk_cell hc2 0, blk_cell hc2 1⟩ (fun hs => ?_)
    have n_ := Aside0.mk (below_drew1 HB.out)
    clear HB
    have HB := n_
    clear n_
    have n_ := Aside0.mk (blk_drew HX.out)
    clear HX
    have HX := n_
    clear n_
    refine qP 0 8 ?_
    refine qP 2 10 ?_
    refine qP 3 11 ?_
    refine qP 4 12 ?_
    refine qT 1 9 hs ?_
    refine qT 5 13 hs ?_
    refine qP 6 14 ?_
    refine q1 7 15 (fun K hK => ?_)
    refine qC Tryz.func47 _ ?_
    refine (iIn1 _ _ _ _).mono ?_
    intro e w2 h2
    obtain ⟨rfl, hb⟩ := h2.yes K1.out
    have n_ := Aside0.mk (below_step HB.out hb)
    clear HB
    have HB := n_
    clear n_
    have n_ := Aside0.mk (blk_below HX.out hb)
    clear HX
    have HX := n_
    clear n_
    refine ⟨_, rfl, hK.out _ _ ⟨pw_cell_below hb hs.1, pw_cell_below hb hs.2.1, pw_cell_below hb hs.2.2.1, pw_cell_below hb hs.2.2.2.1, pw_cell_below hb hs.2.2.2.2.1, pw_cell_below hb hs.2.2.2.2.2.1, pw_cell_below hb hs.2.2.2.2.2.2.1, pw_cell_below hb hs.2.2.2.2.2.2.2.1, pw_cell_below hb hs.2.2.2.2.2.2.2.2.1, pw_cell_below hb hs.2.2.2.2.2.2.2.2.2.1, pw_cell_below hb hs.2.2.2.2.2.2.2.2.2.2.1, pw_cell_below hb hs.2.2.2.2.2.2.2.2.2.2.2.1, pw_cell_below hb hs.2.2.2.2.2.2.2.2.2.2.2.2.1, pw_cell_below hb hs.2.2.2.2.2.2.2.2.2.2.2.2.2⟩ (fun hs2 => ?_)⟩
    clear hK K hs hb
    have hs := hs2
    clear hs2
    refine qN ?_
    refine qP 8 16 ?_
    refine qP 9 17 ?_
    refine qP 11 19 ?_
    refine qP 12 20 ?_
    refine qP 13 21 ?_
    refine qT 10 18 hs ?_
    refine qT 14 22 hs ?_
    refine qP 15 23 ?_
    refine qP 16 24 ?_
    refine q1 17 25 (fun K hK => ?_)
    refine qC Tryz.func47 _ ?_
    refine (iIn1 _ _ _ _).mono ?_
    intro e w2 h2
    obtain ⟨rfl, hb⟩ := h2.yes K2.out
    have n_ := Aside0.mk (below_step HB.out hb)
    clear HB
    have HB := n_
    clear n_
    have n_ := Aside0.mk (blk_below HX.out hb)
    clear HX
    have HX := n_
    clear n_
    refine ⟨_, rfl, hK.out _ _ ⟨pw_cell_below hb hs.1, pw_cell_below hb hs.2.1, pw_cell_below hb hs.2.2.1, pw_cell_below hb hs.2.2.2.1, pw_cell_below hb hs.2.2.2.2.1, pw_cell_below hb hs.2.2.2.2.2.1, pw_cell_below hb hs.2.2.2.2.2.2.1, pw_cell_below hb hs.2.2.2.2.2.2.2.1, pw_cell_below hb hs.2.2.2.2.2.2.2.2.1, pw_cell_below hb hs.2.2.2.2.2.2.2.2.2.1, pw_cell_below hb hs.2.2.2.2.2.2.2.2.2.2.1, pw_cell_below hb hs.2.2.2.2.2.2.2.2.2.2.2.1, pw_cell_below hb hs.2.2.2.2.2.2.2.2.2.2.2.2.1, pw_cell_below hb hs.2.2.2.2.2.2.2.2.2.2.2.2.2⟩ (fun hs2 => ?_)⟩
    clear hK K hs hb
    have hs := hs2
    clear hs2
    refine qN ?_
    refine qP 18 26 ?_
    refine qP 19 27 ?_
    refine qP 20 28 ?_
    refine qT 21 29 hs ?_
    refine q1 22 30 (fun K hK => ?_)
    refine qC Tryz.func103 _ ?_
    refine (iMac1 _ _ z2).mono ?_
    intro e w2 h2
    obtain ⟨rfl, hb⟩ := h2.yes K3.out
    have n_ := Aside0.mk (below_step HB.out hb)
    clear HB
    have HB := n_
    clear n_
    have n_ := Aside0.mk (blk_below HX.out hb)
    clear HX
    have HX := n_
    clear n_
    refine ⟨_, rfl, hK.out _ _ ⟨pw_cell_below hb hs.1, pw_cell_below hb hs.2.1, pw_cell_below hb hs.2.2.1, pw_cell_below hb hs.2.2.2.1, pw_cell_below hb hs.2.2.2.2.1, pw_cell_below hb hs.2.2.2.2.2.1, pw_cell_below hb hs.2.2.2.2.2.2.1, pw_cell_below hb hs.2.2.2.2.2.2.2.1, pw_cell_below hb hs.2.2.2.2.2.2.2.2.1, pw_cell_below hb hs.2.2.2.2.2.2.2.2.2.1, pw_cell_below hb hs.2.2.2.2.2.2.2.2.2.2.1, pw_cell_below hb hs.2.2.2.2.2.2.2.2.2.2.2.1, pw_cell_below hb hs.2.2.2.2.2.2.2.2.2.2.2.2.1, pw_cell_below hb hs.2.2.2.2.2.2.2.2.2.2.2.2.2⟩ (fun hs2 => ?_)⟩
    clear hK K hs hb
    have hs := hs2
    clear hs2
    refine qN ?_
    refine qP 23 31 ?_
    refine qP 24 32 ?_
    refine qP 25 33 ?_
    refine qT 26 34 hs ?_
    refine q1 27 35 (fun K hK => ?_)
    refine qC Tryz.func101 _ ?_
    refine (iIp1 _ _).mono ?_
    intro e w2 h2
    obtain ⟨rfl, hb⟩ := h2.no K4.out
    have n_ := Aside0.mk (below_step HB.out hb)
    clear HB
    have HB := n_
    clear n_
    have n_ := Aside0.mk (blk_below HX.out hb)
    clear HX
    have HX := n_
    clear n_
    refine ⟨_, rfl, hK.out _ _ ⟨pw_cell_below hb hs.1, pw_cell_below hb hs.2.1, pw_cell_below hb hs.2.2.1, pw_cell_below hb hs.2.2.2.1, pw_cell_below hb hs.2.2.2.2.1, pw_cell_below hb hs.2.2.2.2.2.1, pw_cell_below hb hs.2.2.2.2.2.2.1, pw_cell_below hb hs.2.2.2.2.2.2.2.1, pw_cell_below hb hs.2.2.2.2.2.2.2.2.1, pw_cell_below hb hs.2.2.2.2.2.2.2.2.2.1, pw_cell_below hb hs.2.2.2.2.2.2.2.2.2.2.1, pw_cell_below hb hs.2.2.2.2.2.2.2.2.2.2.2.1, pw_cell_below hb hs.2.2.2.2.2.2.2.2.2.2.2.2.1, pw_cell_below hb hs.2.2.2.2.2.2.2.2.2.2.2.2.2⟩ (fun hs2 => ?_)⟩
    clear hK K hs hb
    have hs := hs2
    clear hs2
    refine qN ?_
    refine qP 28 36 ?_
    refine qP 29 37 ?_
    refine qU 30 38 ?_
    refine qU 31 39 ?_
    refine qU 32 40 ?_
    refine qU 33 41 ?_
    refine qU 34 42 ?_
    refine qU 35 43 ?_
    refine qU 36 44 ?_
    refine qP 37 45 ?_
    refine qP 38 7 ?_
    refine qD ?_
    clear hs
    clear hg2 hc2 hw1 hw2
    go_wp2
    go_ret
    exact .inr ⟨rfl, fun h => K4.out h.2.2.2.1, HB.out⟩
  rcases Classical.em (HasP ip b s.f3) with k5 | k5 <;> (have K5 := Aside0.mk k5; clear k5)
  rotate_left
  · refine qS (fun w' => w'.cell? ⟨w.heap.size, 0, none⟩ = some (.int .i64 s.f0) ∧ w'.cell? ⟨w.heap.size, 1, none⟩ = some (.int .i64 s.f1) ∧ w'.cell? ⟨w.heap.size, 2, none⟩ = some (.string s.f2) ∧ w'.cell? ⟨w.heap.size, 3, none⟩ = some (.int .i64 s.f3) ∧ w'.cell? ⟨w.heap.size, 4, none⟩ = some (.int .i64 s.f4) ∧ w'.cell? ⟨w.heap.size, 5, none⟩ = some (.int .i64 s.f5) ∧ w'.cell? ⟨w.heap.size, 6, none⟩ = some (.int .i64 s.f6) ∧ w'.cell? ⟨w.heap.size, 7, none⟩ = some (.int .i64 s.f7) ∧ w'.cell? ⟨w.heap.size, 8, none⟩ = some (.int .i64 s.f8) ∧ w'.cell? ⟨w.heap.size, 9, none⟩ = some (.int .i64 s.f9) ∧ w'.cell? ⟨gg, 0, none⟩ = some (.slice B0 us.length d0) ∧ w'.cell? ⟨gg, 4, none⟩ = some (.int .i64 nx) ∧ w'.cell? ⟨gc, 0, none⟩ = some (.int .i64 ip) ∧ w'.cell? ⟨gc, 1, none⟩ = some (.int .i64 b)) 39 ⟨blk_cell HX.out 0, blk_cell HX.out 1, blk_cell HX.out 2, blk_cell HX.out 3, blk_cell HX.out 4, blk_cell HX.out 5, blk_cell HX.out 6, blk_cell HX.out 7, blk_cell HX.out 8, blk_cell HX.out 9, blk_cell hg2 0, blk_cell hg2 4, blk_cell hc2 0, blk_cell hc2 1⟩ (fun hs => ?_)
    have n_ := Aside0.mk (below_drew1 HB.out)
    clear HB
    have HB := n_
    clear n_
    have n_ := Aside0.mk (blk_drew HX.out)
    clear HX
    have HX := n_
    clear n_
    refine qP 0 8 ?_
    refine qP 2 10 ?_
    refine qP 3 11 ?_
    refine qP 4 12 ?_
    refine qT 1 9 hs ?_
    refine qT 5 13 hs ?_
    refine qP 6 14 ?_
    refine q1 7 15 (fun K hK => ?_)
    refine qC Tryz.func47 _ ?_
    refine (iIn1 _ _ _ _).mono ?_
    intro e w2 h2
    obtain ⟨rfl, hb⟩ := h2.yes K1.out
    have n_ := Aside0.mk (below_step HB.out hb)
    clear HB
    have HB := n_
    clear n_
    have n_ := Aside0.mk (blk_below HX.out hb)
    clear HX
    have HX := n_
    clear n_
    refine ⟨_, rfl, hK.out _ _ ⟨pw_cell_below hb hs.1, pw_cell_below hb hs.2.1, pw_cell_below hb hs.2.2.1, pw_cell_below hb hs.2.2.2.1, pw_cell_below hb hs.2.2.2.2.1, pw_cell_below hb hs.2.2.2.2.2.1, pw_cell_below hb hs.2.2.2.2.2.2.1, pw_cell_below hb hs.2.2.2.2.2.2.2.1, pw_cell_below hb hs.2.2.2.2.2.2.2.2.1, pw_cell_below hb hs.2.2.2.2.2.2.2.2.2.1, pw_cell_below hb hs.2.2.2.2.2.2.2.2.2.2.1, pw_cell_below hb hs.2.2.2.2.2.2.2.2.2.2.2.1, pw_cell_below hb hs.2.2.2.2.2.2.2.2.2.2.2.2.1, pw_cell_below hb hs.2.2.2.2.2.2.2.2.2.2.2.2.2⟩ (fun hs2 => ?_)⟩
    clear hK K hs hb
    have hs := hs2
    clear hs2
    refine qN ?_
    refine qP 8 16 ?_
    refine qP 9 17 ?_
    refine qP 11 19 ?_
    refine qP 12 20 ?_
    refine qP 13 21 ?_
    refine qT 10 18 hs ?_
    refine qT 14 22 hs ?_
    refine qP 15 23 ?_
    refine qP 16 24 ?_
    refine q1 17 25 (fun K hK => ?_)
    refine qC Tryz.func47 _ ?_
    refine (iIn1 _ _ _ _).mono ?_
    intro e w2 h2
    obtain ⟨rfl, hb⟩ := h2.yes K2.out
    have n_ := Aside0.mk (below_step HB.out hb)
    clear HB
    have HB := n_
    clear n_
    have n_ := Aside0.mk (blk_below HX.out hb)
    clear HX
    have HX := n_
    clear n_
    refine ⟨_, rfl, hK.out _ _ ⟨pw_cell_below hb hs.1, pw_cell_below hb hs.2.1, pw_cell_below hb hs.2.2.1, pw_cell_below hb hs.2.2.2.1, pw_cell_below hb hs.2.2.2.2.1, pw_cell_below hb hs.2.2.2.2.2.1, pw_cell_below hb hs.2.2.2.2.2.2.1, pw_cell_below hb hs.2.2.2.2.2.2.2.1, pw_cell_below hb hs.2.2.2.2.2.2.2.2.1, pw_cell_below hb hs.2.2.2.2.2.2.2.2.2.1, pw_cell_below hb hs.2.2.2.2.2.2.2.2.2.2.1, pw_cell_below hb hs.2.2.2.2.2.2.2.2.2.2.2.1, pw_cell_below hb hs.2.2.2.2.2.2.2.2.2.2.2.2.1, pw_cell_below hb hs.2.2.2.2.2.2.2.2.2.2.2.2.2⟩ (fun hs2 => ?_)⟩
    clear hK K hs hb
    have hs := hs2
    clear hs2
    refine qN ?_
    refine qP 18 26 ?_
    refine qP 19 27 ?_
    refine qP 20 28 ?_
    refine qT 21 29 hs ?_
    refine q1 22 30 (fun K hK => ?_)
    refine qC Tryz.func103 _ ?_
    refine (iMac1 _ _ z2).mono ?_
    intro e w2 h2
    obtain ⟨rfl, hb⟩ := h2.yes K3.out
    have n_ := Aside0.mk (below_step HB.out hb)
    clear HB
    have HB := n_
    clear n_
    have n_ := Aside0.mk (blk_below HX.out hb)
    clear HX
    have HX := n_
    clear n_
    refine ⟨_, rfl, hK.out _ _ ⟨pw_cell_below hb hs.1, pw_cell_below hb hs.2.1, pw_cell_below hb hs.2.2.1, pw_cell_below hb hs.2.2.2.1, pw_cell_below hb hs.2.2.2.2.1, pw_cell_below hb hs.2.2.2.2.2.1, pw_cell_below hb hs.2.2.2.2.2.2.1, pw_cell_below hb hs.2.2.2.2.2.2.2.1, pw_cell_below hb hs.2.2.2.2.2.2.2.2.1, pw_cell_below hb hs.2.2.2.2.2.2.2.2.2.1, pw_cell_below hb hs.2.2.2.2.2.2.2.2.2.2.1, pw_cell_below hb hs.2.2.2.2.2.2.2.2.2.2.2.1, pw_cell_below hb hs.2.2.2.2.2.2.2.2.2.2.2.2.1, pw_cell_below hb hs.2.2.2.2.2.2.2.2.2.2.2.2.2⟩ (fun hs2 => ?_)⟩
    clear hK K hs hb
    have hs := hs2
    clear hs2
    refine qN ?_
    refine qP 23 31 ?_
    refine qP 24 32 ?_
    refine qP 25 33 ?_
    refine qT 26 34 hs ?_
    refine q1 27 35 (fun K hK => ?_)
    refine qC Tryz.func101 _ ?_
    refine (iIp1 _ _).mono ?_
    intro e w2 h2
    obtain ⟨rfl, hb⟩ := h2.yes K4.out
    have n_ := Aside0.mk (below_step HB.out hb)
    clear HB
    have HB := n_
    clear n_
    have n_ := Aside0.mk (blk_below HX.out hb)
    clear HX
    have HX := n_
    clear n_
    refine ⟨_, rfl, hK.out _ _ ⟨pw_cell_below hb hs.1, pw_cell_below hb hs.2.1, pw_cell_below hb hs.2.2.1, pw_cell_below hb hs.2.2.2.1, pw_cell_below hb hs.2.2.2.2.1, pw_cell_below hb hs.2.2.2.2.2.1, pw_cell_below hb hs.2.2.2.2.2.2.1, pw_cell_below hb hs.2.2.2.2.2.2.2.1, pw_cell_below hb hs.2.2.2.2.2.2.2.2.1, pw_cell_below hb hs.2.2.2.2.2.2.2.2.2.1, pw_cell_below hb hs.2.2.2.2.2.2.2.2.2.2.1, pw_cell_below hb hs.2.2.2.2.2.2.2.2.2.2.2.1, pw_cell_below hb hs.2.2.2.2.2.2.2.2.2.2.2.2.1, pw_cell_below hb hs.2.2.2.2.2.2.2.2.2.2.2.2.2⟩ (fun hs2 => ?_)⟩
    clear hK K hs hb
    have hs := hs2
    clear hs2
    refine qN ?_
    refine qP 28 36 ?_
    refine qP 29 37 ?_
    refine qP 30 38 ?_
    refine qP 31 39 ?_
    refine qP 32 40 ?_
    refine qP 34 42 ?_
    refine qT 33 41 hs ?_
    refine qT 35 43 hs ?_
    refine q1 36 44 (fun K hK => ?_)
    refine qC Tryz.func102 _ ?_
    refine (iHas1 _ _ _ _ kb0 kb1).mono ?_
    intro e w2 h2
    obtain ⟨rfl, hb⟩ := h2.no K5.out
    have n_ := Aside0.mk (below_step HB.out hb)
    clear HB
    have HB := n_
    clear n_
    have n_ := Aside0.mk (blk_below HX.out hb)
    clear HX
    have HX := n_
    clear n_
    refine ⟨_, rfl, hK.out _ _ ⟨pw_cell_below hb hs.1, pw_cell_below hb hs.2.1, pw_cell_below hb hs.2.2.1, pw_cell_below hb hs.2.2.2.1, pw_cell_below hb hs.2.2.2.2.1, pw_cell_below hb hs.2.2.2.2.2.1, pw_cell_below hb hs.2.2.2.2.2.2.1, pw_cell_below hb hs.2.2.2.2.2.2.2.1, pw_cell_below hb hs.2.2.2.2.2.2.2.2.1, pw_cell_below hb hs.2.2.2.2.2.2.2.2.2.1, pw_cell_below hb hs.2.2.2.2.2.2.2.2.2.2.1, pw_cell_below hb hs.2.2.2.2.2.2.2.2.2.2.2.1, pw_cell_below hb hs.2.2.2.2.2.2.2.2.2.2.2.2.1, pw_cell_below hb hs.2.2.2.2.2.2.2.2.2.2.2.2.2⟩ (fun hs2 => ?_)⟩
    clear hK K hs hb
    have hs := hs2
    clear hs2
    refine qN ?_
    refine qP 37 45 ?_
    refine qP 38 7 ?_
    refine qD ?_
    clear hs
    clear hg2 hc2 hw1 hw2
    go_wp2
    go_ret
    exact .inr ⟨rfl, fun h => K5.out h.2.2.2.2.1, HB.out⟩
  refine qS (fun w' => w'.cell? ⟨w.heap.size, 0, none⟩ = some (.int .i64 s.f0) ∧ w'.cell? ⟨w.heap.size, 1, none⟩ = some (.int .i64 s.f1) ∧ w'.cell? ⟨w.heap.size, 2, none⟩ = some (.string s.f2) ∧ w'.cell? ⟨w.heap.size, 3, none⟩ = some (.int .i64 s.f3) ∧ w'.cell? ⟨w.heap.size, 4, none⟩ = some (.int .i64 s.f4) ∧ w'.cell? ⟨w.heap.size, 5, none⟩ = some (.int .i64 s.f5) ∧ w'.cell? ⟨w.heap.size, 6, none⟩ = some (.int .i64 s.f6) ∧ w'.cell? ⟨w.heap.size, 7, none⟩ = some (.int .i64 s.f7) ∧ w'.cell? ⟨w.heap.size, 8, none⟩ = some (.int .i64 s.f8) ∧ w'.cell? ⟨w.heap.size, 9, none⟩ = some (.int .i64 s.f9) ∧ w'.cell? ⟨gg, 0, none⟩ = some (.slice B0 us.length d0) ∧ w'.cell? ⟨gg, 4, none⟩ = some (.int .i64 nx) ∧ w'.cell? ⟨gc, 0, none⟩ = some (.int .i64 ip) ∧ w'.cell? ⟨gc, 1, none⟩ = some (.int .i64 b)) 39 ⟨blk_cell HX.out 0, blk_cell HX.out 1, blk_cell HX.out 2, blk_cell HX.out 3, blk_cell HX.out 4, blk_cell HX.out 5, blk_cell HX.out 6, blk_cell HX.out 7, blk_cell HX.out 8, blk_cell HX.out 9, blk_cell hg2 0, blk_cell hg2 4, blk_cell hc2 0, blk_cell hc2 1⟩ (fun hs => ?_)
  have n_ := Aside0.mk (below_drew1 HB.out)
  clear HB
  have HB := n_
  clear n_
  have n_ := Aside0.mk (blk_drew HX.out)
  clear HX
  have HX := n_
  clear n_
  refine qP 0 8 ?_
  refine qP 2 10 ?_
  refine qP 3 11 ?_
  refine qP 4 12 ?_
  refine qT 1 9 hs ?_
  refine qT 5 13 hs ?_
  refine qP 6 14 ?_
  refine q1 7 15 (fun K hK => ?_)
  refine qC Tryz.func47 _ ?_
  refine (iIn1 _ _ _ _).mono ?_
  intro e w2 h2
  obtain ⟨rfl, hb⟩ := h2.yes K1.out
  have n_ := Aside0.mk (below_step HB.out hb)
  clear HB
  have HB := n_
  clear n_
  have n_ := Aside0.mk (blk_below HX.out hb)
  clear HX
  have HX := n_
  clear n_
  refine ⟨_, rfl, hK.out _ _ ⟨pw_cell_below hb hs.1, pw_cell_below hb hs.2.1, pw_cell_below hb hs.2.2.1, pw_cell_below hb hs.2.2.2.1, pw_cell_below hb hs.2.2.2.2.1, pw_cell_below hb hs.2.2.2.2.2.1, pw_cell_below hb hs.2.2.2.2.2.2.1, pw_cell_below hb hs.2.2.2.2.2.2.2.1, pw_cell_below hb hs.2.2.2.2.2.2.2.2.1, pw_cell_below hb hs.2.2.2.2.2.2.2.2.2.1, pw_cell_below hb hs.2.2.2.2.2.2.2.2.2.2.1, pw_cell_below hb hs.2.2.2.2.2.2.2.2.2.2.2.1, pw_cell_below hb hs.2.2.2.2.2.2.2.2.2.2.2.2.1, pw_cell_below hb hs.2.2.2.2.2.2.2.2.2.2.2.2.2⟩ (fun hs2 => ?_)⟩
  clear hK K hs hb
  have hs := hs2
  clear hs2
  refine qN ?_
  refine qP 8 16 ?_
  refine qP 9 17 ?_
  refine qP 11 19 ?_
  refine qP 12 20 ?_
  refine qP 13 21 ?_
  refine qT 10 18 hs ?_
  refine qT 14 22 hs ?_
  refine qP 15 23 ?_
  refine qP 16 24 ?_
  refine q1 17 25 (fun K hK => ?_)
  refine qC Tryz.func47 _ ?_
  refine (iIn1 _ _ _ _).mono ?_
  intro e w2 h2
  obtain ⟨rfl, hb⟩ := h2.yes K2.out
  have n_ := Aside0.mk (below_step HB.out hb)
  clear HB
  have HB := n_
  clear n_
  have n_ := Aside0.mk (blk_below HX.out hb)
  clear HX
  have HX := n_
  clear n_
  refine ⟨_, rfl, hK.out _ _ ⟨pw_cell_below hb hs.1, pw_cell_below hb hs.2.1, pw_cell_below hb hs.2.2.1, pw_cell_below hb hs.2.2.2.1, pw_cell_below hb hs.2.2.2.2.1, pw_cell_below hb hs.2.2.2.2.2.1, pw_cell_below hb hs.2.2.2.2.2.2.1, pw_cell_below hb hs.2.2.2.2.2.2.2.1, pw_cell_below hb hs.2.2.2.2.2.2.2.2.1, pw_cell_below hb hs.2.2.2.2.2.2.2.2.2.1, pw_cell_below hb hs.2.2.2.2.2.2.2.2.2.2.1, pw_cell_below hb hs.2.2.2.2.2.2.2.2.2.2.2.1, pw_cell_below hb hs.2.2.2.2.2.2.2.2.2.2.2.2.1, pw_cell_below hb hs.2.2.2.2.2.2.2.2.2.2.2.2.2⟩ (fun hs2 => ?_)⟩
  clear hK K hs hb
  have hs := hs2
  clear hs2
  refine qN ?_
  refine qP 18 26 ?_
  refine qP 19 27 ?_
  refine qP 20 28 ?_
  refine qT 21 29 hs ?_
  refine q1 22 30 (fun K hK => ?_)
  refine qC Tryz.func103 _ ?_
  refine (iMac1 _ _ z2).mono ?_
  intro e w2 h2
  obtain ⟨rfl, hb⟩ := h2.yes K3.out
  have n_ := Aside0.mk (below_step HB.out hb)
  clear HB
  have HB := n_
  clear n_
  have n_ := Aside0.mk (blk_below HX.out hb)
  clear HX
  have HX := n_
  clear n_
  refine ⟨_, rfl, hK.out _ _ ⟨pw_cell_below hb hs.1, pw_cell_below hb hs.2.1, pw_cell_below hb hs.2.2.1, pw_cell_below hb hs.2.2.2.1, pw_cell_below hb hs.2.2.2.2.1, pw_cell_below hb hs.2.2.2.2.2.1, pw_cell_below hb hs.2.2.2.2.2.2.1, pw_cell_below hb hs.2.2.2.2.2.2.2.1, pw_cell_below hb hs.2.2.2.2.2.2.2.2.1, pw_cell_below hb hs.2.2.2.2.2.2.2.2.2.1, pw_cell_below hb hs.2.2.2.2.2.2.2.2.2.2.1, pw_cell_below hb hs.2.2.2.2.2.2.2.2.2.2.2.1, pw_cell_below hb hs.2.2.2.2.2.2.2.2.2.2.2.2.1, pw_cell_below hb hs.2.2.2.2.2.2.2.2.2.2.2.2.2⟩ (fun hs2 => ?_)⟩
  clear hK K hs hb
  have hs := hs2
  clear hs2
  refine qN ?_
  refine qP 23 31 ?_
  refine qP 24 32 ?_
  refine qP 25 33 ?_
  refine qT 26 34 hs ?_
  refine q1 27 35 (fun K hK => ?_)
  refine qC Tryz.func101 _ ?_
  refine (iIp1 _ _).mono ?_
  intro e w2 h2
  obtain ⟨rfl, hb⟩ := h2.yes K4.out
  have n_ := Aside0.mk (below_step HB.out hb)
  clear HB
  have HB := n_
  clear n_
  have n_ := Aside0.mk (blk_below HX.out hb)
  clear HX
  have HX := n_
  clear n_
  refine ⟨_, rfl, hK.out _ _ ⟨pw_cell_below hb hs.1, pw_cell_below hb hs.2.1, pw_cell_below hb hs.2.2.1, pw_cell_below hb hs.2.2.2.1, pw_cell_below hb hs.2.2.2.2.1, pw_cell_below hb hs.2.2.2.2.2.1, pw_cell_below hb hs.2.2.2.2.2.2.1, pw_cell_below hb hs.2.2.2.2.2.2.2.1, pw_cell_below hb hs.2.2.2.2.2.2.2.2.1, pw_cell_below hb hs.2.2.2.2.2.2.2.2.2.1, pw_cell_below hb hs.2.2.2.2.2.2.2.2.2.2.1, pw_cell_below hb hs.2.2.2.2.2.2.2.2.2.2.2.1, pw_cell_below hb hs.2.2.2.2.2.2.2.2.2.2.2.2.1, pw_cell_below hb hs.2.2.2.2.2.2.2.2.2.2.2.2.2⟩ (fun hs2 => ?_)⟩
  clear hK K hs hb
  have hs := hs2
  clear hs2
  refine qN ?_
  refine qP 28 36 ?_
  refine qP 29 37 ?_
  refine qP 30 38 ?_
  refine qP 31 39 ?_
  refine qP 32 40 ?_
  refine qP 34 42 ?_
  refine qT 33 41 hs ?_
  refine qT 35 43 hs ?_
  refine q1 36 44 (fun K hK => ?_)
  refine qC Tryz.func102 _ ?_
  refine (iHas1 _ _ _ _ kb0 kb1).mono ?_
  intro e w2 h2
  obtain ⟨rfl, hb⟩ := h2.yes K5.out
  have n_ := Aside0.mk (below_step HB.out hb)
  clear HB
  have HB := n_
  clear n_
  have n_ := Aside0.mk (blk_below HX.out hb)
  clear HX
  have HX := n_
  clear n_
  refine ⟨_, rfl, hK.out _ _ ⟨pw_cell_below hb hs.1, pw_cell_below hb hs.2.1, pw_cell_below hb hs.2.2.1, pw_cell_below hb hs.2.2.2.1, pw_cell_below hb hs.2.2.2.2.1, pw_cell_below hb hs.2.2.2.2.2.1, pw_cell_below hb hs.2.2.2.2.2.2.1, pw_cell_below hb hs.2.2.2.2.2.2.2.1, pw_cell_below hb hs.2.2.2.2.2.2.2.2.1, pw_cell_below hb hs.2.2.2.2.2.2.2.2.2.1, pw_cell_below hb hs.2.2.2.2.2.2.2.2.2.2.1, pw_cell_below hb hs.2.2.2.2.2.2.2.2.2.2.2.1, pw_cell_below hb hs.2.2.2.2.2.2.2.2.2.2.2.2.1, pw_cell_below hb hs.2.2.2.2.2.2.2.2.2.2.2.2.2⟩ (fun hs2 => ?_)⟩
  clear hK K hs hb
  have hs := hs2
  clear hs2
  refine qN ?_
  refine qP 37 45 ?_
  refine qP 38 7 ?_
  refine qD ?_
  clear hs
  clear hg2 hc2 hw1 hw2
  have HP := Aside0.mk True.intro
  have hx := blk_cell HX.out
  have hzr := blk_lt HX.out
  go_wp2_with (first
    | (go_at_call 113; refine (iTime1 _ _).mono ?_; rintro e w2 (⟨rfl, hr, hb⟩ | ⟨rfl, hr, hb⟩) <;> (have n_ := Aside0.mk (And.intro hr HP.out); clear HP hr; have HP := n_; clear n_; have n_ := Aside0.mk (below_step (w := w) (by repeat' (with_reducible first | exact HB.out | apply below_alloc | apply below_drew1 | refine below_set ?_ (by omega))) hb); clear HB; have HB := n_; clear n_; have n_ := Aside0.mk (blk_below (g := w.heap.size) (o := .cells #[.int .i64 s.f0, .int .i64 s.f1, .string s.f2, .int .i64 s.f3, .int .i64 s.f4, .int .i64 s.f5, .int .i64 s.f6, .int .i64 s.f7, .int .i64 s.f8, .int .i64 s.f9] 76 (0, 0)) (by repeat' (with_reducible first | exact HX.out | exact blk_new _ _ | refine blk_alloc ?_ _ | refine blk_drew ?_ | refine blk_far ?_ (by dsimp only; omega) _)) hb); (try clear HX); have HX := n_; clear n_; obtain ⟨hc, hf⟩ := bcell hb; have hz : w.heap.size < w2.heap.size := blk_lt HX.out; clear hb))
    | (go_at_call 47; refine (iIn1 _ _ _ _).mono ?_; rintro e w2 (⟨rfl, hr, hb⟩ | ⟨rfl, hr, hb⟩) <;> (have n_ := Aside0.mk (And.intro hr HP.out); clear HP hr; have HP := n_; clear n_; have n_ := Aside0.mk (below_step (w := w) (by repeat' (with_reducible first | exact HB.out | apply below_alloc | apply below_drew1 | refine below_set ?_ (by omega))) hb); clear HB; have HB := n_; clear n_; have n_ := Aside0.mk (blk_below (g := w.heap.size) (o := .cells #[.int .i64 s.f0, .int .i64 s.f1, .string s.f2, .int .i64 s.f3, .int .i64 s.f4, .int .i64 s.f5, .int .i64 s.f6, .int .i64 s.f7, .int .i64 s.f8, .int .i64 s.f9] 76 (0, 0)) (by repeat' (with_reducible first | exact HX.out | exact blk_new _ _ | refine blk_alloc ?_ _ | refine blk_drew ?_ | refine blk_far ?_ (by dsimp only; omega) _)) hb); (try clear HX); have HX := n_; clear n_; obtain ⟨hc, hf⟩ := bcell hb; have hz : w.heap.size < w2.heap.size := blk_lt HX.out; clear hb)))
  all_goals go_ret
  all_goals first
    | exact .inl ⟨rfl, ⟨K1.out, K2.out, K3.out, K4.out, K5.out, HP.out.2.2.2.2.2.1, HP.out.2.2.2.2.1, HP.out.2.2.2.1, HP.out.2.2.1, HP.out.2.1, HP.out.1⟩, HB.out⟩
    | exact .inr ⟨rfl, by rintro ⟨p1, p2, p3, p4, p5, p6, p7, p8, p9, p10, p11⟩; first | exact HP.out.1 p6 | exact HP.out.1 p7 | exact HP.out.1 p8 | exact HP.out.1 p9 | exact HP.out.1 p10 | exact HP.out.1 p11, HB.out⟩
end
end Go.Proofs.YtkklokkldgkacaaGreat.X
