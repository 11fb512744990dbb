/- Texts that the row of FnExactInGarden stands on: functions of the program and of the reference, each as a Lean function with the same answers, and the plain lemmas. Conditions: none beside those that each theorem names. -/
import Derived.Test.YtiemmhhjiplnlaaCFnExactInGarden3
namespace Go.Proofs.Ytiemmhhjiplnlaa.X
open Go.RowKit Go.Proofs.YtiemmhhjiplnlaaW.PrintWords Go.Proofs.YtiemmhhjiplnlaaW.PrintLast Go.Proofs.YtiemmhhjiplnlaaW.PrintMore
attribute [local go_sem] max2_int min2_int max_two min_two max_three min_three max_four min_four   -- for this text's walks alone
set_option linter.unusedVariables false
set_option linter.unusedSimpArgs false
open Go.Proofs.YtiemmhhjiplnlaaW.PrintWords renaming blk_drewN -> bDn
open Go.Proofs.YtiemmhhjiplnlaaW.PrintWords renaming blk_drew -> bDr
open Go.Proofs.YtiemmhhjiplnlaaW.PrintWords renaming blk_alloc -> bAl
open Go.Proofs.YtiemmhhjiplnlaaW.PrintWords renaming blk_frozen -> bFr
open Go.Proofs.YtiemmhhjiplnlaaW.PrintWords renaming blk_cell -> bCe
open Go.Proofs.YtiemmhhjiplnlaaW.PrintWords.Aside0 renaming mk -> aMk
open Go.World renaming block_lt_of_cell? -> wLt
open Go.Proofs.YtiemmhhjiplnlaaW.PrintWords renaming pw_below_drewN -> bwN
open Go.Proofs.YtiemmhhjiplnlaaW.PrintWords renaming below_drew1 -> bw1
open Go.Proofs.YtiemmhhjiplnlaaW.PrintWords renaming below_alloc -> bwA
section
/-! ### impl_isLetter: function 97 -/
def impl_isLetter.f (a0 : Int) : Option (Bool):=if a0 ≥ 97 then (if a0 ≤ 122 then (some true) else (if a0 ≥ 65 then (if a0 ≤ 90 then (some true) else (some (a0 == 95))) else (some (a0 == 95)))) else (if a0 ≥ 65 then (if a0 ≤ 90 then (some true) else (some (a0 == 95))) else (some (a0 == 95)))
set_option maxHeartbeats 8000000 in
set_option maxRecDepth 100000 in
theorem impl_isLetter.calls (a0 : Int) (r : Bool) (w : World) (h : impl_isLetter.f a0 = some r) :
  Calls Try.prog 97 #[.int .u8 a0] w fun e w' => e = .returned (.bool r) ∧ Drawn0 w w':=by
 have H : (if a0 ≥ 97 then (if a0 ≤ 122 then (some true) else (if a0 ≥ 65 then (if a0 ≤ 90 then (some true) else (some (a0 == 95))) else (some (a0 == 95)))) else (if a0 ≥ 65 then (if a0 ≤ 90 then (some true) else (some (a0 == 95))) else (some (a0 == 95)))) = some r:=h
 clear h
 by_cases c2 : a0 ≥ 97
 ·rw [if_pos c2] at H
  have c2b0 : decide (97 ≤ a0) = true:=decide_eq_true c2
  clear c2
  by_cases c3 : a0 ≤ 122
  ·rw [if_pos c3] at H
   have c3b0 : decide (a0 ≤ 122) = true:=decide_eq_true c3
   clear c3
   obtain rfl:=Option.some.inj H
   go_enter Try.func97,Try.ntmps97
   go_wp2
   go_ret
   exact ⟨by first | rfl|(simp;done)|(simp [*];done)|(simp [ne_nil_b];done)|(simp [ne_nil_b, *];done),by repeat (first|exact Drawn0.refl _|apply Drawn0.step)⟩
  ·rw [if_neg c3] at H
   have c3b0 : decide (a0 ≤ 122) = false:=decide_eq_false c3
   clear c3
   by_cases c4 : a0 ≥ 65
   ·rw [if_pos c4] at H
    have c4b0 : decide (65 ≤ a0) = true:=decide_eq_true c4
    clear c4
    by_cases c5 : a0 ≤ 90
    ·rw [if_pos c5] at H
     have c5b0 : decide (a0 ≤ 90) = true:=decide_eq_true c5
     clear c5
     obtain rfl:=Option.some.inj H
     go_enter Try.func97,Try.ntmps97
     go_wp2
     go_ret
     exact ⟨by first | rfl|(simp;done)|(simp [*];done)|(simp [ne_nil_b];done)|(simp [ne_nil_b, *];done),by repeat (first|exact Drawn0.refl _|apply Drawn0.step)⟩
    ·rw [if_neg c5] at H
     have c5b0 : decide (a0 ≤ 90) = false:=decide_eq_false c5
     clear c5
     obtain rfl:=Option.some.inj H
     go_enter Try.func97,Try.ntmps97
     go_wp2
     go_ret
     exact ⟨by first | rfl|(simp;done)|(simp [*];done)|(simp [ne_nil_b];done)|(simp [ne_nil_b, *];done),by repeat (first|exact Drawn0.refl _|apply Drawn0.step)⟩
   ·rw [if_neg c4] at H
    have c4b0 : decide (65 ≤ a0) = false:=decide_eq_false c4
    clear c4
    obtain rfl:=Option.some.inj H
    go_enter Try.func97,Try.ntmps97
    go_wp2
    go_ret
    exact ⟨by first | rfl|(simp;done)|(simp [*];done)|(simp [ne_nil_b];done)|(simp [ne_nil_b, *];done),by repeat (first|exact Drawn0.refl _|apply Drawn0.step)⟩
 ·rw [if_neg c2] at H
  have c2b0 : decide (97 ≤ a0) = false:=decide_eq_false c2
  clear c2
  by_cases c6 : a0 ≥ 65
  ·rw [if_pos c6] at H
   have c6b0 : decide (65 ≤ a0) = true:=decide_eq_true c6
   clear c6
   by_cases c7 : a0 ≤ 90
   ·rw [if_pos c7] at H
    have c7b0 : decide (a0 ≤ 90) = true:=decide_eq_true c7
    clear c7
    obtain rfl:=Option.some.inj H
    go_enter Try.func97,Try.ntmps97
    go_wp2
    go_ret
    exact ⟨by first | rfl|(simp;done)|(simp [*];done)|(simp [ne_nil_b];done)|(simp [ne_nil_b, *];done),by repeat (first|exact Drawn0.refl _|apply Drawn0.step)⟩
   ·rw [if_neg c7] at H
    have c7b0 : decide (a0 ≤ 90) = false:=decide_eq_false c7
    clear c7
    obtain rfl:=Option.some.inj H
    go_enter Try.func97,Try.ntmps97
    go_wp2
    go_ret
    exact ⟨by first | rfl|(simp;done)|(simp [*];done)|(simp [ne_nil_b];done)|(simp [ne_nil_b, *];done),by repeat (first|exact Drawn0.refl _|apply Drawn0.step)⟩
  ·rw [if_neg c6] at H
   have c6b0 : decide (65 ≤ a0) = false:=decide_eq_false c6
   clear c6
   obtain rfl:=Option.some.inj H
   go_enter Try.func97,Try.ntmps97
   go_wp2
   go_ret
   exact ⟨by first | rfl|(simp;done)|(simp [*];done)|(simp [ne_nil_b];done)|(simp [ne_nil_b, *];done),by repeat (first|exact Drawn0.refl _|apply Drawn0.step)⟩
end
section
/-! ### impl_NameOK: function 84 -/
mutual
def impl_NameOK.j0 : Nat → ByteArray → Bool → Option (Bool)
 | 0,_,_ => none
 | k + 1,x0,x12 => if x12 = true then (some false) else (impl_NameOK.l0 k x0 (x0.size : Int) 0)
def impl_NameOK.l0 : Nat → ByteArray → Int → Int → Option (Bool)
 | 0,_,_,_ => none
 | k + 1,x0,x14,x15 => if x15 < x14 then (if 0 ≤ x15 then (if x15 < (x0.size : Int) then ((impl_isLetter.f (bt x0 x15)).bind fun t255 => (if t255 = true then (impl_NameOK.l0 k x0 x14 (wrap64 (x15 + 1))) else ((impl_isDigit.f (bt x0 x15)).bind fun t256 => (if t256 = true then (impl_NameOK.l0 k x0 x14 (wrap64 (x15 + 1))) else (some false))))) else (none)) else (none)) else (some true)
end
def impl_NameOK.f (k : Nat) (a0 : ByteArray) : Option (Bool):=(impl_within.f (a0.size : Int) 1 40).bind fun t253 => (if t253 = true then (if 0 < (a0.size : Int) then ((impl_isDigit.f (bt a0 0)).bind fun t254 => (impl_NameOK.j0 k a0 t254)) else (none)) else (impl_NameOK.j0 k a0 true))
theorem impl_NameOK.mono_l : ∀ k,(∀ y0 y1,LeO (impl_NameOK.j0 k y0 y1) (impl_NameOK.j0 (k + 1) y0 y1)) ∧ (∀ y0 y1 y2,LeO (impl_NameOK.l0 k y0 y1 y2) (impl_NameOK.l0 (k + 1) y0 y1 y2))
 | 0 => ⟨fun _ _ r h => by simp [impl_NameOK.j0] at h,fun _ _ _ r h => by simp [impl_NameOK.l0] at h⟩
 | k + 1 => by
  obtain ⟨ih0,ih1⟩:=impl_NameOK.mono_l k
  refine ⟨?_,?_⟩
  ·intro y0 y1
   unfold impl_NameOK.j0
   repeat' first
   | (with_reducible exact ih0 _ _)
   | (with_reducible exact ih1 _ _ _)
   | (with_reducible exact LeO.refl _)
   | (with_reducible exact LeO.none _)
   | (with_reducible refine LeO.ite ?_ ?_)
   | (with_reducible refine LeO.bind ?_ (fun _ => ?_))
   | exact ih0 _ _
   | exact ih1 _ _ _
   | exact LeO.none _
   | refine LeO.ite ?_ ?_
   | refine LeO.bind ?_ (fun _ => ?_)
  ·intro y0 y1 y2
   unfold impl_NameOK.l0
   repeat' first
   | (with_reducible exact ih0 _ _)
   | (with_reducible exact ih1 _ _ _)
   | (with_reducible exact LeO.refl _)
   | (with_reducible exact LeO.none _)
   | (with_reducible refine LeO.ite ?_ ?_)
   | (with_reducible refine LeO.bind ?_ (fun _ => ?_))
   | exact ih0 _ _
   | exact ih1 _ _ _
   | exact LeO.none _
   | refine LeO.ite ?_ ?_
   | refine LeO.bind ?_ (fun _ => ?_)
theorem impl_NameOK.mono : ∀ a0 k,LeO (impl_NameOK.f k a0) (impl_NameOK.f (k + 1) a0):=by
 intro a0 k
 obtain ⟨ih0,ih1⟩:=impl_NameOK.mono_l k
 unfold impl_NameOK.f
 repeat' first
   | (with_reducible exact ih0 _ _)
   | (with_reducible exact ih1 _ _ _)
   | (with_reducible exact LeO.refl _)
   | (with_reducible exact LeO.none _)
   | (with_reducible refine LeO.ite ?_ ?_)
   | (with_reducible refine LeO.bind ?_ (fun _ => ?_))
   | exact ih0 _ _
   | exact ih1 _ _ _
   | exact LeO.none _
   | refine LeO.ite ?_ ?_
   | refine LeO.bind ?_ (fun _ => ?_)
set_option maxHeartbeats 8000000 in
set_option maxRecDepth 100000 in
theorem impl_NameOK.calls (k : Nat) (a0 : ByteArray) (r : Bool) (w : World) (h : impl_NameOK.f k a0 = some r) :
  Calls Try.prog 84 #[.string a0] w fun e w' => e = .returned (.bool r) ∧ Drawn0 w w':=by
 have H : ((impl_within.f (a0.size : Int) 1 40).bind fun t253 => (if t253 = true then (if 0 < (a0.size : Int) then ((impl_isDigit.f (bt a0 0)).bind fun t254 => (impl_NameOK.j0 k a0 t254)) else (none)) else (impl_NameOK.j0 k a0 true))) = some r:=h
 clear h
 have HC2:=aMk H
 clear H
 go_enter Try.func84,Try.ntmps84
 go_upto_region 1 with (fail)
 go_cut [12] (fun v12 wc => ∃ (kq : Nat) (x12_1 : Bool),v12 = .bool x12_1 ∧ Aside0 (impl_NameOK.j0 kq a0 x12_1 = some r) ∧ Aside0 (kq ≤ k) ∧ Drawn0 w wc)
 case first =>
  have H:=HC2.out
  clear HC2
  replace H:=Option.bind_eq_some_iff.mp H
  obtain ⟨t253,A30,H⟩:=H
  replace H : (if t253 = true then (if 0 < (a0.size : Int) then ((impl_isDigit.f (bt a0 0)).bind fun t254 => (impl_NameOK.j0 k a0 t254)) else (none)) else (impl_NameOK.j0 k a0 true)) = some r:=H
  have A3:=aMk A30
  clear A30
  by_cases c4 : t253 = true
  ·subst c4
   have H1 : (if 0 < (a0.size : Int) then ((impl_isDigit.f (bt a0 0)).bind fun t254 => (impl_NameOK.j0 k a0 t254)) else (none)) = some r:=by rw [if_pos rfl] at H;exact H
   clear H
   have H:=H1
   clear H1
   by_cases c5 : 0 < (a0.size : Int)
   ·rw [if_pos c5] at H
    have c5b0 : decide (0 < (a0.size : Int)) = true:=decide_eq_true c5
    have c5b1 : decide (0 < a0.size) = true:=decide_eq_true (by omega)
    clear c5
    (first|rw [c5b0]|(simp only [i64_w,i32_w];rw [c5b0]) | skip)
    replace H:=Option.bind_eq_some_iff.mp H
    obtain ⟨t254,A70,H⟩:=H
    replace H : (impl_NameOK.j0 k a0 t254) = some r:=H
    have A7:=aMk A70
    clear A70
    have H':=aMk H
    clear H
    go_wp2_with (first|((with_reducible refine gate_callee (f:=60) rfl ?_);refine gLs 6 Try.func60 #[.int .i64 (a0.size : Int),.int .i64 1,.int .i64 40] ?_;(with_reducible refine (impl_within.calls (a0.size : Int) 1 40 true _ A3.out).mono ?_);rintro e w' ⟨rfl,⟨nd,rfl⟩⟩;refine ⟨_,rfl,?_⟩;have p6 : 0 ≤ (0 : Int):=(by omega);have q6 : 0 < a0.size:=(by have : (0 : Int) < (a0.size : Int):=of_decide_eq_true (by first|(with_reducible assumption) | assumption);omega);have hx6 : ∀ h : 0 < a0.size,((a0[0]'h).toNat : Int) = bt a0 0:=bt_at a0 0;clear p6;have qi6 : (0 < (a0.size : Int)) = True:=eq_true (of_decide_eq_true (by first|(with_reducible assumption) | assumption));replace q6:=eq_true q6)|(go_at_call 96;(with_reducible refine (impl_isDigit.calls (bt a0 0) t254 _ A7.out).mono ?_);rintro e w' ⟨rfl,⟨nd,rfl⟩⟩))
    go_meet
    case rel => exact ⟨_,(t254),(by first | rfl|(simp;done)|(simp [*];done)|(simp [ne_nil_b];done)|(simp [ne_nil_b, *];done)),H',⟨by first | omega|exact Nat.le_refl _⟩,by repeat (first|exact Drawn0.refl _|apply Drawn0.step)⟩
   ·rw [if_neg c5] at H
    exact absurd H (by simp)
  ·replace c4:=Bool.eq_false_iff.mpr c4
   subst c4
   have H1 : (impl_NameOK.j0 k a0 true) = some r:=by rw [if_neg (show ¬ (false = true) by decide)] at H;exact H
   clear H
   have H:=H1
   clear H1
   have H':=aMk H
   clear H
   go_wp2_with (first|((with_reducible refine gate_callee (f:=60) rfl ?_);refine gLs 6 Try.func60 #[.int .i64 (a0.size : Int),.int .i64 1,.int .i64 40] ?_;(with_reducible refine (impl_within.calls (a0.size : Int) 1 40 false _ A3.out).mono ?_);rintro e w' ⟨rfl,⟨nd,rfl⟩⟩;refine ⟨_,rfl,?_⟩))
   go_meet
   case rel => exact ⟨_,(true),(by first | rfl|(simp;done)|(simp [*];done)|(simp [ne_nil_b];done)|(simp [ne_nil_b, *];done)),H',⟨by first | omega|exact Nat.le_refl _⟩,by repeat (first|exact Drawn0.refl _|apply Drawn0.step)⟩
 case rest =>
  clear HC2
  try clear p2
  try clear c4
  try clear c5
  try clear c5b0
  try clear c5b1
  try clear c6
  try clear p6
  try clear q6
  try clear hx6
  try clear qi6
  try clear p6
  try clear q6
  obtain ⟨kq,x12_1,rfl,HA,HJ1,⟨mc1,rfl⟩⟩:=hcut
  cases kq with
  | zero => exact absurd HA.out (by simp [impl_NameOK.j0])
  | succ kj1 =>
   have H:=HA.out
   clear HA
   simp only [impl_NameOK.j0] at H
   by_cases c8 : x12_1 = true
   ·subst c8
    have H1 : (some false) = some r:=by rw [if_pos rfl] at H;exact H
    clear H
    have H:=H1
    clear H1
    obtain rfl:=Option.some.inj H
    go_wp2
    go_ret
    exact ⟨by first | rfl|(simp;done)|(simp [*];done)|(simp [ne_nil_b];done)|(simp [ne_nil_b, *];done),by repeat (first|exact Drawn0.refl _|apply Drawn0.step)⟩
   ·replace c8:=Bool.eq_false_iff.mpr c8
    subst c8
    have H1 : (impl_NameOK.l0 kj1 a0 (a0.size : Int) 0) = some r:=by rw [if_neg (show ¬ (false = true) by decide)] at H;exact H
    clear H
    have H:=H1
    clear H1
    have H':=aMk H
    clear H
    go_wp2
    go_loopg [15] kj1 (fun kq v15 w' => ∃ (x15_2 : Int),v15 = .int .i64 x15_2 ∧ Aside0 (impl_NameOK.l0 kq a0 (a0.size : Int) x15_2 = some r) ∧ Aside0 (kq ≤ kj1) ∧ Drawn0 w w')
    case atStart => exact ⟨(0),(by first | rfl|(simp;done)|(simp [*];done)|(simp [ne_nil_b];done)|(simp [ne_nil_b, *];done)),H',⟨Nat.le_refl _⟩,by repeat (first|exact Drawn0.refl _|apply Drawn0.step)⟩
    case round =>
     clear H'
     try clear c1
     try clear p2
     try clear c4
     try clear c5
     try clear c5b0
     try clear c5b1
     try clear c6
     try clear p6
     try clear q6
     try clear hx6
     try clear qi6
     try clear c8
     try clear p2
     try clear p6
     try clear q6
     obtain ⟨x15_2,rfl,HA,HK2,⟨m2,rfl⟩⟩:=hrel
     cases gk with
     | zero => exact absurd HA.out (by simp [impl_NameOK.l0])
     | succ k2 =>
      have H:=HA.out
      clear HA
      simp only [impl_NameOK.l0] at H
      by_cases c9 : x15_2 < (a0.size : Int)
      ·rw [if_pos c9] at H
       have c9b0 : decide (x15_2 < (a0.size : Int)) = true:=decide_eq_true c9
       clear c9
       by_cases c10 : 0 ≤ x15_2
       ·rw [if_pos c10] at H
        have c10b0 : decide (0 ≤ x15_2) = true:=decide_eq_true c10
        clear c10
        by_cases c11 : x15_2 < (a0.size : Int)
        ·rw [if_pos c11] at H
         have c11b0 : decide (x15_2 < (a0.size : Int)) = true:=decide_eq_true c11
         clear c11
         replace H:=Option.bind_eq_some_iff.mp H
         obtain ⟨t255,A130,H⟩:=H
         replace H : (if t255 = true then (impl_NameOK.l0 k2 a0 (a0.size : Int) (wrap64 (x15_2 + 1))) else ((impl_isDigit.f (bt a0 x15_2)).bind fun t256 => (if t256 = true then (impl_NameOK.l0 k2 a0 (a0.size : Int) (wrap64 (x15_2 + 1))) else (some false)))) = some r:=H
         have A13:=aMk A130
         clear A130
         by_cases c14 : t255 = true
         ·subst c14
          have H1 : (impl_NameOK.l0 k2 a0 (a0.size : Int) (wrap64 (x15_2 + 1))) = some r:=by rw [if_pos rfl] at H;exact H
          clear H
          have H:=H1
          clear H1
          have H':=aMk H
          clear H
          have p12 : 0 ≤ (x15_2 : Int):=of_decide_eq_true (by first|(with_reducible assumption) | assumption)
          have q12 : x15_2 < (a0.size : Int):=of_decide_eq_true (by first|(with_reducible assumption) | assumption)
          have hx12:=bt_at a0 x15_2
          replace p12:=eq_true p12
          replace q12:=eq_true q12
          go_wp2_with (first|((with_reducible refine gate_callee (f:=97) rfl ?_);refine gLs 21 Try.func97 #[.int .u8 (bt a0 x15_2)] ?_;(with_reducible refine (impl_isLetter.calls (bt a0 x15_2) true _ A13.out).mono ?_);rintro e w' ⟨rfl,⟨nd,rfl⟩⟩;refine ⟨_,rfl,?_⟩))
          go_roundg k2
          case measure => have:=HJ1.out;have:=HK2.out;omega
          case rel => exact ⟨(wrap64 (x15_2 + 1)),(by first | rfl|(simp;done)|(simp [*];done)|(simp [ne_nil_b];done)|(simp [ne_nil_b, *];done)),H',⟨by have:=HJ1.out;have:=HK2.out;omega⟩,by repeat (first|exact Drawn0.refl _|apply Drawn0.step)⟩
         ·replace c14:=Bool.eq_false_iff.mpr c14
          subst c14
          have H1 : ((impl_isDigit.f (bt a0 x15_2)).bind fun t256 => (if t256 = true then (impl_NameOK.l0 k2 a0 (a0.size : Int) (wrap64 (x15_2 + 1))) else (some false))) = some r:=by rw [if_neg (show ¬ (false = true) by decide)] at H;exact H
          clear H
          have H:=H1
          clear H1
          replace H:=Option.bind_eq_some_iff.mp H
          obtain ⟨t256,A160,H⟩:=H
          replace H : (if t256 = true then (impl_NameOK.l0 k2 a0 (a0.size : Int) (wrap64 (x15_2 + 1))) else (some false)) = some r:=H
          have A16:=aMk A160
          clear A160
          by_cases c17 : t256 = true
          ·subst c17
           have H1 : (impl_NameOK.l0 k2 a0 (a0.size : Int) (wrap64 (x15_2 + 1))) = some r:=by rw [if_pos rfl] at H;exact H
           clear H
           have H:=H1
           clear H1
           have H':=aMk H
           clear H
           have p12 : 0 ≤ (x15_2 : Int):=of_decide_eq_true (by first|(with_reducible assumption) | assumption)
           have q12 : x15_2 < (a0.size : Int):=of_decide_eq_true (by first|(with_reducible assumption) | assumption)
           have hx12:=bt_at a0 x15_2
           replace p12:=eq_true p12
           replace q12:=eq_true q12
           go_wp2_with (first|((with_reducible refine gate_callee (f:=97) rfl ?_);refine gLs 21 Try.func97 #[.int .u8 (bt a0 x15_2)] ?_;(with_reducible refine (impl_isLetter.calls (bt a0 x15_2) false _ A13.out).mono ?_);rintro e w' ⟨rfl,⟨nd,rfl⟩⟩;refine ⟨_,rfl,?_⟩;have p15 : 0 ≤ (x15_2 : Int):=of_decide_eq_true (by first|(with_reducible assumption) | assumption);have q15 : x15_2 < (a0.size : Int):=of_decide_eq_true (by first|(with_reducible assumption) | assumption);have hx15:=bt_at a0 x15_2;replace p15:=eq_true p15;replace q15:=eq_true q15)|(go_at_call 96;(with_reducible refine (impl_isDigit.calls (bt a0 x15_2) true _ A16.out).mono ?_);rintro e w' ⟨rfl,⟨nd,rfl⟩⟩))
           go_roundg k2
           case measure => have:=HJ1.out;have:=HK2.out;omega
           case rel => exact ⟨(wrap64 (x15_2 + 1)),(by first | rfl|(simp;done)|(simp [*];done)|(simp [ne_nil_b];done)|(simp [ne_nil_b, *];done)),H',⟨by have:=HJ1.out;have:=HK2.out;omega⟩,by repeat (first|exact Drawn0.refl _|apply Drawn0.step)⟩
          ·replace c17:=Bool.eq_false_iff.mpr c17
           subst c17
           have H1 : (some false) = some r:=by rw [if_neg (show ¬ (false = true) by decide)] at H;exact H
           clear H
           have H:=H1
           clear H1
           obtain rfl:=Option.some.inj H
           have p12 : 0 ≤ (x15_2 : Int):=of_decide_eq_true (by first|(with_reducible assumption) | assumption)
           have q12 : x15_2 < (a0.size : Int):=of_decide_eq_true (by first|(with_reducible assumption) | assumption)
           have hx12:=bt_at a0 x15_2
           replace p12:=eq_true p12
           replace q12:=eq_true q12
           go_wp2_with (first|((with_reducible refine gate_callee (f:=97) rfl ?_);refine gLs 21 Try.func97 #[.int .u8 (bt a0 x15_2)] ?_;(with_reducible refine (impl_isLetter.calls (bt a0 x15_2) false _ A13.out).mono ?_);rintro e w' ⟨rfl,⟨nd,rfl⟩⟩;refine ⟨_,rfl,?_⟩;have p15 : 0 ≤ (x15_2 : Int):=of_decide_eq_true (by first|(with_reducible assumption) | assumption);have q15 : x15_2 < (a0.size : Int):=of_decide_eq_true (by first|(with_reducible assumption) | assumption);have hx15:=bt_at a0 x15_2;replace p15:=eq_true p15;replace q15:=eq_true q15)|(go_at_call 96;(with_reducible refine (impl_isDigit.calls (bt a0 x15_2) false _ A16.out).mono ?_);rintro e w' ⟨rfl,⟨nd,rfl⟩⟩))
           go_ret
           exact ⟨by first | rfl|(simp;done)|(simp [*];done)|(simp [ne_nil_b];done)|(simp [ne_nil_b, *];done),by repeat (first|exact Drawn0.refl _|apply Drawn0.step)⟩
        ·rw [if_neg c11] at H
         exact absurd H (by simp)
       ·rw [if_neg c10] at H
        exact absurd H (by simp)
      ·rw [if_neg c9] at H
       have c9b0 : decide (x15_2 < (a0.size : Int)) = false:=decide_eq_false c9
       clear c9
       obtain rfl:=Option.some.inj H
       go_wp2
       go_ret
       exact ⟨by first | rfl|(simp;done)|(simp [*];done)|(simp [ne_nil_b];done)|(simp [ne_nil_b, *];done),by repeat (first|exact Drawn0.refl _|apply Drawn0.step)⟩
end
section
/-! ### impl_shortName: function 57 -/
def impl_shortName.f (k : Nat) (a0 : ByteArray) : Option (Bool):=(impl_NameOK.f k a0).bind fun t257 => (if t257 = true then (some (decide ((a0.size : Int) ≤ 8))) else (some false))
theorem impl_shortName.mono : ∀ a0 k,LeO (impl_shortName.f k a0) (impl_shortName.f (k + 1) a0):=by
 intro a0 k
 unfold impl_shortName.f
 repeat' first
   | (with_reducible exact impl_NameOK.mono ..)
   | (with_reducible exact LeO.refl _)
   | (with_reducible exact LeO.none _)
   | (with_reducible refine LeO.ite ?_ ?_)
   | (with_reducible refine LeO.bind ?_ (fun _ => ?_))
   | exact impl_NameOK.mono ..
   | exact LeO.none _
   | refine LeO.ite ?_ ?_
   | refine LeO.bind ?_ (fun _ => ?_)
set_option maxHeartbeats 8000000 in
set_option maxRecDepth 100000 in
theorem impl_shortName.calls (k : Nat) (a0 : ByteArray) (r : Bool) (w : World) (h : impl_shortName.f k a0 = some r) :
  Calls Try.prog 57 #[.string a0] w fun e w' => e = .returned (.bool r) ∧ Drawn0 w w':=by
 have H : ((impl_NameOK.f k a0).bind fun t257 => (if t257 = true then (some (decide ((a0.size : Int) ≤ 8))) else (some false))) = some r:=h
 clear h
 replace H:=Option.bind_eq_some_iff.mp H
 obtain ⟨t257,A20,H⟩:=H
 replace H : (if t257 = true then (some (decide ((a0.size : Int) ≤ 8))) else (some false)) = some r:=H
 have A2:=aMk A20
 clear A20
 by_cases c3 : t257 = true
 ·subst c3
  have H1 : (some (decide ((a0.size : Int) ≤ 8))) = some r:=by rw [if_pos rfl] at H;exact H
  clear H
  have H:=H1
  clear H1
  obtain rfl:=Option.some.inj H
  go_enter Try.func57,Try.ntmps57
  go_wp2_with (first|((with_reducible refine gate_callee (f:=84) rfl ?_);refine gLs 4 Try.func84 #[.string a0] ?_;(with_reducible refine (impl_NameOK.calls k a0 true _ A2.out).mono ?_);rintro e w' ⟨rfl,⟨nd,rfl⟩⟩;refine ⟨_,rfl,?_⟩))
  go_ret
  exact ⟨by first | rfl|(simp;done)|(simp [*];done)|(simp [ne_nil_b];done)|(simp [ne_nil_b, *];done),by repeat (first|exact Drawn0.refl _|apply Drawn0.step)⟩
 ·replace c3:=Bool.eq_false_iff.mpr c3
  subst c3
  have H1 : (some false) = some r:=by rw [if_neg (show ¬ (false = true) by decide)] at H;exact H
  clear H
  have H:=H1
  clear H1
  obtain rfl:=Option.some.inj H
  go_enter Try.func57,Try.ntmps57
  go_wp2_with (first|((with_reducible refine gate_callee (f:=84) rfl ?_);refine gLs 4 Try.func84 #[.string a0] ?_;(with_reducible refine (impl_NameOK.calls k a0 false _ A2.out).mono ?_);rintro e w' ⟨rfl,⟨nd,rfl⟩⟩;refine ⟨_,rfl,?_⟩))
  go_ret
  exact ⟨by first | rfl|(simp;done)|(simp [*];done)|(simp [ne_nil_b];done)|(simp [ne_nil_b, *];done),by repeat (first|exact Drawn0.refl _|apply Drawn0.step)⟩
end
section
/-! ### impl_isAddress: function 42 -/
def impl_isAddress.f (a0 : Int) : Option (Bool):=(impl_within.f a0 0 4294967295).bind fun t113 => (some t113)
set_option maxHeartbeats 8000000 in
set_option maxRecDepth 100000 in
theorem impl_isAddress.calls (a0 : Int) (r : Bool) (w : World) (h : impl_isAddress.f a0 = some r) :
  Calls Try.prog 42 #[.int .i64 a0] w fun e w' => e = .returned (.bool r) ∧ Drawn0 w w':=by
 have H : ((impl_within.f a0 0 4294967295).bind fun t113 => (some t113)) = some r:=h
 clear h
 replace H:=Option.bind_eq_some_iff.mp H
 obtain ⟨t113,A20,H⟩:=H
 replace H : (some t113) = some r:=H
 have A2:=aMk A20
 clear A20
 obtain rfl:=Option.some.inj H
 go_enter Try.func42,Try.ntmps42
 go_wp2_with (first|((with_reducible refine gate_callee (f:=60) rfl ?_);refine gLs 4 Try.func60 #[.int .i64 a0,.int .i64 0,.int .i64 4294967295] ?_;(with_reducible refine (impl_within.calls a0 0 4294967295 t113 _ A2.out).mono ?_);rintro e w' ⟨rfl,⟨nd,rfl⟩⟩;refine ⟨_,rfl,?_⟩))
 go_ret
 exact ⟨by first | rfl|(simp;done)|(simp [*];done)|(simp [ne_nil_b];done)|(simp [ne_nil_b, *];done),by repeat (first|exact Drawn0.refl _|apply Drawn0.step)⟩
end
section
/-! ### impl_NetOK: function 41 -/
def impl_NetOK.f (a0_0 : Int) (a0_1 : Int) : Option (Bool):=(impl_isAddress.f a0_0).bind fun t115 => (if t115 = true then ((impl_within.f a0_1 0 32).bind fun t116 => (if t116 = true then (if 0 ≤ (wrap64 (32 - a0_1)) then (some ((Go.bits .and .i64 a0_0 (wrap64 ((shl .i64 1 (wrap64 (32 - a0_1))) - 1))) == 0)) else (none)) else (some false))) else (some false))
set_option maxHeartbeats 8000000 in
set_option maxRecDepth 100000 in
theorem impl_NetOK.calls (a0_0 : Int) (a0_1 : Int) (r : Bool) (w : World) (h : impl_NetOK.f a0_0 a0_1 = some r) :
  Calls Try.prog 41 #[.agg #[.int .i64 a0_0,.int .i64 a0_1]] w fun e w' => e = .returned (.bool r) ∧ Below w.heap.size w w':=by
 have hu26:=Try.underlying26
 have HB:=aMk (Below.refl w.heap.size w)
 have H : ((impl_isAddress.f a0_0).bind fun t115 => (if t115 = true then ((impl_within.f a0_1 0 32).bind fun t116 => (if t116 = true then (if 0 ≤ (wrap64 (32 - a0_1)) then (some ((Go.bits .and .i64 a0_0 (wrap64 ((shl .i64 1 (wrap64 (32 - a0_1))) - 1))) == 0)) else (none)) else (some false))) else (some false))) = some r:=h
 clear h
 replace H:=Option.bind_eq_some_iff.mp H
 obtain ⟨t115,A20,H⟩:=H
 replace H : (if t115 = true then ((impl_within.f a0_1 0 32).bind fun t116 => (if t116 = true then (if 0 ≤ (wrap64 (32 - a0_1)) then (some ((Go.bits .and .i64 a0_0 (wrap64 ((shl .i64 1 (wrap64 (32 - a0_1))) - 1))) == 0)) else (none)) else (some false))) else (some false)) = some r:=H
 have A2:=aMk A20
 clear A20
 by_cases c3 : t115 = true
 ·subst c3
  have H1 : ((impl_within.f a0_1 0 32).bind fun t116 => (if t116 = true then (if 0 ≤ (wrap64 (32 - a0_1)) then (some ((Go.bits .and .i64 a0_0 (wrap64 ((shl .i64 1 (wrap64 (32 - a0_1))) - 1))) == 0)) else (none)) else (some false))) = some r:=by rw [if_pos rfl] at H;exact H
  clear H
  have H:=H1
  clear H1
  replace H:=Option.bind_eq_some_iff.mp H
  obtain ⟨t116,A40,H⟩:=H
  replace H : (if t116 = true then (if 0 ≤ (wrap64 (32 - a0_1)) then (some ((Go.bits .and .i64 a0_0 (wrap64 ((shl .i64 1 (wrap64 (32 - a0_1))) - 1))) == 0)) else (none)) else (some false)) = some r:=H
  have A4:=aMk A40
  clear A40
  by_cases c5 : t116 = true
  ·subst c5
   have H1 : (if 0 ≤ (wrap64 (32 - a0_1)) then (some ((Go.bits .and .i64 a0_0 (wrap64 ((shl .i64 1 (wrap64 (32 - a0_1))) - 1))) == 0)) else (none)) = some r:=by rw [if_pos rfl] at H;exact H
   clear H
   have H:=H1
   clear H1
   obtain ⟨ji6,hji6⟩ : ∃ j_ : Int,(wrap64 (32 - a0_1)) = j_:=⟨_,rfl⟩
   replace H : (if 0 ≤ (ji6) then (some ((Go.bits .and .i64 a0_0 (wrap64 ((shl .i64 1 (ji6)) - 1))) == 0)) else (none)) = some r:=by first|(rw [hji6] at H;exact H)|(simp only [hji6] at H ⊢;exact H)
   (try rw [hji6] at A2)
   (try rw [hji6] at A4)
   have hji6w : (IntKind.i64.wrap (32 - a0_1)) = ji6:=(i64_w _).trans hji6
   by_cases c7 : 0 ≤ (ji6)
   ·rw [if_pos c7] at H
    have c7b0:=eq_true c7
    have c7b1 : decide (0 ≤ (ji6)) = true:=decide_eq_true c7
    clear c7
    obtain ⟨ji8,hji8⟩ : ∃ j_ : Int,(shl .i64 1 (ji6)) = j_:=⟨_,rfl⟩
    replace H : (some ((Go.bits .and .i64 a0_0 (wrap64 ((ji8) - 1))) == 0)) = some r:=by first|(rw [hji8] at H;exact H)|(simp only [hji8] at H ⊢;exact H)
    (try rw [hji8] at A2)
    (try rw [hji8] at A4)
    have hji8_ : (IntKind.i64.wrap (1 * 2 ^ min (ji6).toNat 64)) = ji8:=hji8
    have hji8z : (ji6) ≤ 64 → (IntKind.i64.wrap (1 * 2 ^ (ji6).toNat)) = ji8:=shl_small hji8
    have hji8u : (IntKind.i64.wrap (2 ^ min (ji6).toNat 64)) = ji8:=by have h_:=hji8_;rw [Int.one_mul] at h_;exact h_
    have hji8v : (ji6) ≤ 64 → (IntKind.i64.wrap (2 ^ (ji6).toNat)) = ji8:=fun hle_ => by have h_:=hji8z hle_;rw [Int.one_mul] at h_;exact h_
    have hji8y : (wrap64 (1 * 2 ^ min (ji6).toNat 64)) = ji8:=(i64_w _).symm.trans hji8_
    have hji8x : (ji6) ≤ 64 → (wrap64 (1 * 2 ^ (ji6).toNat)) = ji8:=fun h_ => (i64_w _).symm.trans (hji8z h_)
    obtain rfl:=Option.some.inj H
    go_enter Try.func41,Try.ntmps41
    go_wp2_with (first|((with_reducible refine gate_dst (N:=1) rfl ?_);refine bxE (N:=1) (cs:=#[.int .i64 a0_0,.int .i64 a0_1]) (t:=26) ?_;intro gb114 hg w9 hbox hb;have n0_:=aMk (bSt hb);have n1_:=aMk (hbox);have n2_:=aMk ((by rw [hg];exact bSz : w.heap.size ≤ gb114));have n3_:=aMk ((by rw [hg];exact bSz : w.heap.size ≤ gb114));clear HB;have HB:=n0_;have BK114:=n1_;have GW114:=n2_;have GE114:=n3_;clear n0_ n1_ n2_ n3_;clear hb hbox hg;obtain ⟨hcz10_0,hcz10_1,hfz10_0,hfz10_1⟩:=bC2 BK114.out)|(go_at_call 42;(with_reducible refine (impl_isAddress.calls a0_0 true _ A2.out).mono ?_);rintro e w' ⟨rfl,⟨nd,rfl⟩⟩;(try first|exact ⟨rfl,_,World.drewN_drewN _ _ _⟩|exact ⟨rfl,_,Eq.trans (World.drewN_drewN _ _ _) (congrArg (World.drewN _) (Nat.add_assoc _ _ _))⟩))|(go_at_call 60;(with_reducible refine (impl_within.calls a0_1 0 32 true _ A4.out).mono ?_);rintro e w' ⟨rfl,⟨nd,rfl⟩⟩;(try first|exact ⟨rfl,_,World.drewN_drewN _ _ _⟩|exact ⟨rfl,_,Eq.trans (World.drewN_drewN _ _ _) (congrArg (World.drewN _) (Nat.add_assoc _ _ _))⟩)))
    repeat (go_quiet (first|((with_reducible refine gate_dst (N:=1) rfl ?_);refine bxE (N:=1) (cs:=#[.int .i64 a0_0,.int .i64 a0_1]) (t:=26) ?_;intro gb114 hg w9 hbox hb;have n0_:=aMk (bSt hb);have n1_:=aMk (hbox);have n2_:=aMk ((by rw [hg];exact bSz : w.heap.size ≤ gb114));have n3_:=aMk ((by rw [hg];exact bSz : w.heap.size ≤ gb114));clear HB;have HB:=n0_;have BK114:=n1_;have GW114:=n2_;have GE114:=n3_;clear n0_ n1_ n2_ n3_;clear hb hbox hg;obtain ⟨hcz10_0,hcz10_1,hfz10_0,hfz10_1⟩:=bC2 BK114.out)|(go_at_call 42;(with_reducible refine (impl_isAddress.calls a0_0 true _ A2.out).mono ?_);rintro e w' ⟨rfl,⟨nd,rfl⟩⟩;(try first|exact ⟨rfl,_,World.drewN_drewN _ _ _⟩|exact ⟨rfl,_,Eq.trans (World.drewN_drewN _ _ _) (congrArg (World.drewN _) (Nat.add_assoc _ _ _))⟩))|(go_at_call 60;(with_reducible refine (impl_within.calls a0_1 0 32 true _ A4.out).mono ?_);rintro e w' ⟨rfl,⟨nd,rfl⟩⟩;(try first|exact ⟨rfl,_,World.drewN_drewN _ _ _⟩|exact ⟨rfl,_,Eq.trans (World.drewN_drewN _ _ _) (congrArg (World.drewN _) (Nat.add_assoc _ _ _))⟩)));try go_wp2_with (first|((with_reducible refine gate_dst (N:=1) rfl ?_);refine bxE (N:=1) (cs:=#[.int .i64 a0_0,.int .i64 a0_1]) (t:=26) ?_;intro gb114 hg w9 hbox hb;have n0_:=aMk (bSt hb);have n1_:=aMk (hbox);have n2_:=aMk ((by rw [hg];exact bSz : w.heap.size ≤ gb114));have n3_:=aMk ((by rw [hg];exact bSz : w.heap.size ≤ gb114));clear HB;have HB:=n0_;have BK114:=n1_;have GW114:=n2_;have GE114:=n3_;clear n0_ n1_ n2_ n3_;clear hb hbox hg;obtain ⟨hcz10_0,hcz10_1,hfz10_0,hfz10_1⟩:=bC2 BK114.out)|(go_at_call 42;(with_reducible refine (impl_isAddress.calls a0_0 true _ A2.out).mono ?_);rintro e w' ⟨rfl,⟨nd,rfl⟩⟩;(try first|exact ⟨rfl,_,World.drewN_drewN _ _ _⟩|exact ⟨rfl,_,Eq.trans (World.drewN_drewN _ _ _) (congrArg (World.drewN _) (Nat.add_assoc _ _ _))⟩))|(go_at_call 60;(with_reducible refine (impl_within.calls a0_1 0 32 true _ A4.out).mono ?_);rintro e w' ⟨rfl,⟨nd,rfl⟩⟩;(try first|exact ⟨rfl,_,World.drewN_drewN _ _ _⟩|exact ⟨rfl,_,Eq.trans (World.drewN_drewN _ _ _) (congrArg (World.drewN _) (Nat.add_assoc _ _ _))⟩))))
    go_ret
    exact ⟨by first | rfl|(simp [errW_none,errW_some] <;> rfl)|(simp only [← hji6,← hji8];first | rfl|(simp [errW_none,errW_some] <;> rfl))|(simp [*,errW_none,errW_some] <;> rfl),by repeat (first|(with_reducible first|exact HB.out|apply bwA|apply bwN|apply bw1|refine below_set ?_ GE114.out)|exact HB.out)⟩
   ·rw [if_neg c7] at H
    exact absurd H (by simp)
  ·replace c5:=Bool.eq_false_iff.mpr c5
   subst c5
   have H1 : (some false) = some r:=by rw [if_neg (show ¬ (false = true) by decide)] at H;exact H
   clear H
   have H:=H1
   clear H1
   obtain rfl:=Option.some.inj H
   go_enter Try.func41,Try.ntmps41
   go_wp2_with (first|((with_reducible refine gate_dst (N:=1) rfl ?_);refine bxE (N:=1) (cs:=#[.int .i64 a0_0,.int .i64 a0_1]) (t:=26) ?_;intro gb114 hg w11 hbox hb;have n0_:=aMk (bSt hb);have n1_:=aMk (hbox);have n2_:=aMk ((by rw [hg];exact bSz : w.heap.size ≤ gb114));have n3_:=aMk ((by rw [hg];exact bSz : w.heap.size ≤ gb114));clear HB;have HB:=n0_;have BK114:=n1_;have GW114:=n2_;have GE114:=n3_;clear n0_ n1_ n2_ n3_;clear hb hbox hg;obtain ⟨hcz12_0,hcz12_1,hfz12_0,hfz12_1⟩:=bC2 BK114.out)|(go_at_call 42;(with_reducible refine (impl_isAddress.calls a0_0 true _ A2.out).mono ?_);rintro e w' ⟨rfl,⟨nd,rfl⟩⟩;(try first|exact ⟨rfl,_,World.drewN_drewN _ _ _⟩|exact ⟨rfl,_,Eq.trans (World.drewN_drewN _ _ _) (congrArg (World.drewN _) (Nat.add_assoc _ _ _))⟩))|(go_at_call 60;(with_reducible refine (impl_within.calls a0_1 0 32 false _ A4.out).mono ?_);rintro e w' ⟨rfl,⟨nd,rfl⟩⟩;(try first|exact ⟨rfl,_,World.drewN_drewN _ _ _⟩|exact ⟨rfl,_,Eq.trans (World.drewN_drewN _ _ _) (congrArg (World.drewN _) (Nat.add_assoc _ _ _))⟩)))
   repeat (go_quiet (first|((with_reducible refine gate_dst (N:=1) rfl ?_);refine bxE (N:=1) (cs:=#[.int .i64 a0_0,.int .i64 a0_1]) (t:=26) ?_;intro gb114 hg w11 hbox hb;have n0_:=aMk (bSt hb);have n1_:=aMk (hbox);have n2_:=aMk ((by rw [hg];exact bSz : w.heap.size ≤ gb114));have n3_:=aMk ((by rw [hg];exact bSz : w.heap.size ≤ gb114));clear HB;have HB:=n0_;have BK114:=n1_;have GW114:=n2_;have GE114:=n3_;clear n0_ n1_ n2_ n3_;clear hb hbox hg;obtain ⟨hcz12_0,hcz12_1,hfz12_0,hfz12_1⟩:=bC2 BK114.out)|(go_at_call 42;(with_reducible refine (impl_isAddress.calls a0_0 true _ A2.out).mono ?_);rintro e w' ⟨rfl,⟨nd,rfl⟩⟩;(try first|exact ⟨rfl,_,World.drewN_drewN _ _ _⟩|exact ⟨rfl,_,Eq.trans (World.drewN_drewN _ _ _) (congrArg (World.drewN _) (Nat.add_assoc _ _ _))⟩))|(go_at_call 60;(with_reducible refine (impl_within.calls a0_1 0 32 false _ A4.out).mono ?_);rintro e w' ⟨rfl,⟨nd,rfl⟩⟩;(try first|exact ⟨rfl,_,World.drewN_drewN _ _ _⟩|exact ⟨rfl,_,Eq.trans (World.drewN_drewN _ _ _) (congrArg (World.drewN _) (Nat.add_assoc _ _ _))⟩)));try go_wp2_with (first|((with_reducible refine gate_dst (N:=1) rfl ?_);refine bxE (N:=1) (cs:=#[.int .i64 a0_0,.int .i64 a0_1]) (t:=26) ?_;intro gb114 hg w11 hbox hb;have n0_:=aMk (bSt hb);have n1_:=aMk (hbox);have n2_:=aMk ((by rw [hg];exact bSz : w.heap.size ≤ gb114));have n3_:=aMk ((by rw [hg];exact bSz : w.heap.size ≤ gb114));clear HB;have HB:=n0_;have BK114:=n1_;have GW114:=n2_;have GE114:=n3_;clear n0_ n1_ n2_ n3_;clear hb hbox hg;obtain ⟨hcz12_0,hcz12_1,hfz12_0,hfz12_1⟩:=bC2 BK114.out)|(go_at_call 42;(with_reducible refine (impl_isAddress.calls a0_0 true _ A2.out).mono ?_);rintro e w' ⟨rfl,⟨nd,rfl⟩⟩;(try first|exact ⟨rfl,_,World.drewN_drewN _ _ _⟩|exact ⟨rfl,_,Eq.trans (World.drewN_drewN _ _ _) (congrArg (World.drewN _) (Nat.add_assoc _ _ _))⟩))|(go_at_call 60;(with_reducible refine (impl_within.calls a0_1 0 32 false _ A4.out).mono ?_);rintro e w' ⟨rfl,⟨nd,rfl⟩⟩;(try first|exact ⟨rfl,_,World.drewN_drewN _ _ _⟩|exact ⟨rfl,_,Eq.trans (World.drewN_drewN _ _ _) (congrArg (World.drewN _) (Nat.add_assoc _ _ _))⟩))))
   go_ret
   exact ⟨eRf,by repeat (first|(with_reducible first|exact HB.out|apply bwA|apply bwN|apply bw1|refine below_set ?_ GE114.out)|exact HB.out)⟩
 ·replace c3:=Bool.eq_false_iff.mpr c3
  subst c3
  have H1 : (some false) = some r:=by rw [if_neg (show ¬ (false = true) by decide)] at H;exact H
  clear H
  have H:=H1
  clear H1
  obtain rfl:=Option.some.inj H
  go_enter Try.func41,Try.ntmps41
  go_wp2_with (first|((with_reducible refine gate_dst (N:=1) rfl ?_);refine bxE (N:=1) (cs:=#[.int .i64 a0_0,.int .i64 a0_1]) (t:=26) ?_;intro gb114 hg w13 hbox hb;have n0_:=aMk (bSt hb);have n1_:=aMk (hbox);have n2_:=aMk ((by rw [hg];exact bSz : w.heap.size ≤ gb114));have n3_:=aMk ((by rw [hg];exact bSz : w.heap.size ≤ gb114));clear HB;have HB:=n0_;have BK114:=n1_;have GW114:=n2_;have GE114:=n3_;clear n0_ n1_ n2_ n3_;clear hb hbox hg;obtain ⟨hcz14_0,hcz14_1,hfz14_0,hfz14_1⟩:=bC2 BK114.out)|(go_at_call 42;(with_reducible refine (impl_isAddress.calls a0_0 false _ A2.out).mono ?_);rintro e w' ⟨rfl,⟨nd,rfl⟩⟩;(try first|exact ⟨rfl,_,World.drewN_drewN _ _ _⟩|exact ⟨rfl,_,Eq.trans (World.drewN_drewN _ _ _) (congrArg (World.drewN _) (Nat.add_assoc _ _ _))⟩)))
  repeat (go_quiet (first|((with_reducible refine gate_dst (N:=1) rfl ?_);refine bxE (N:=1) (cs:=#[.int .i64 a0_0,.int .i64 a0_1]) (t:=26) ?_;intro gb114 hg w13 hbox hb;have n0_:=aMk (bSt hb);have n1_:=aMk (hbox);have n2_:=aMk ((by rw [hg];exact bSz : w.heap.size ≤ gb114));have n3_:=aMk ((by rw [hg];exact bSz : w.heap.size ≤ gb114));clear HB;have HB:=n0_;have BK114:=n1_;have GW114:=n2_;have GE114:=n3_;clear n0_ n1_ n2_ n3_;clear hb hbox hg;obtain ⟨hcz14_0,hcz14_1,hfz14_0,hfz14_1⟩:=bC2 BK114.out)|(go_at_call 42;(with_reducible refine (impl_isAddress.calls a0_0 false _ A2.out).mono ?_);rintro e w' ⟨rfl,⟨nd,rfl⟩⟩;(try first|exact ⟨rfl,_,World.drewN_drewN _ _ _⟩|exact ⟨rfl,_,Eq.trans (World.drewN_drewN _ _ _) (congrArg (World.drewN _) (Nat.add_assoc _ _ _))⟩)));try go_wp2_with (first|((with_reducible refine gate_dst (N:=1) rfl ?_);refine bxE (N:=1) (cs:=#[.int .i64 a0_0,.int .i64 a0_1]) (t:=26) ?_;intro gb114 hg w13 hbox hb;have n0_:=aMk (bSt hb);have n1_:=aMk (hbox);have n2_:=aMk ((by rw [hg];exact bSz : w.heap.size ≤ gb114));have n3_:=aMk ((by rw [hg];exact bSz : w.heap.size ≤ gb114));clear HB;have HB:=n0_;have BK114:=n1_;have GW114:=n2_;have GE114:=n3_;clear n0_ n1_ n2_ n3_;clear hb hbox hg;obtain ⟨hcz14_0,hcz14_1,hfz14_0,hfz14_1⟩:=bC2 BK114.out)|(go_at_call 42;(with_reducible refine (impl_isAddress.calls a0_0 false _ A2.out).mono ?_);rintro e w' ⟨rfl,⟨nd,rfl⟩⟩;(try first|exact ⟨rfl,_,World.drewN_drewN _ _ _⟩|exact ⟨rfl,_,Eq.trans (World.drewN_drewN _ _ _) (congrArg (World.drewN _) (Nat.add_assoc _ _ _))⟩))))
  go_ret
  exact ⟨eRf,by repeat (first|(with_reducible first|exact HB.out|apply bwA|apply bwN|apply bw1|refine below_set ?_ GE114.out)|exact HB.out)⟩
end
section
/-! ### slices_Index_int_int: function 81 -/
def slices_Index_int_int.l0 : Nat → List Int → Int → Int → Int → Option (Int)
 | 0,_,_,_,_ => none
 | k + 1,x0,x1,x7,x8 => if x8 < x7 then (if 0 ≤ x8 then (if x8 < (x0.length : Int) then (if x1 = (rd x0 x8) then (some x8) else (slices_Index_int_int.l0 k x0 x1 x7 (wrap64 (x8 + 1)))) else (none)) else (none)) else (some (-1))
def slices_Index_int_int.f (k : Nat) (l0 : List Int) (a1 : Int) : Option (Int):=slices_Index_int_int.l0 k l0 a1 (l0.length : Int) 0
theorem slices_Index_int_int.mono_l : ∀ k,(∀ y0 y1 y2 y3,LeO (slices_Index_int_int.l0 k y0 y1 y2 y3) (slices_Index_int_int.l0 (k + 1) y0 y1 y2 y3))
 | 0 => fun _ _ _ _ r h => by simp [slices_Index_int_int.l0] at h
 | k + 1 => by
  have ih0:=slices_Index_int_int.mono_l k
  ·intro y0 y1 y2 y3
   unfold slices_Index_int_int.l0
   repeat' first
   | (with_reducible exact ih0 _ _ _ _)
   | (with_reducible exact LeO.refl _)
   | (with_reducible exact LeO.none _)
   | (with_reducible refine LeO.ite ?_ ?_)
   | (with_reducible refine LeO.bind ?_ (fun _ => ?_))
   | exact ih0 _ _ _ _
   | exact LeO.none _
   | refine LeO.ite ?_ ?_
   | refine LeO.bind ?_ (fun _ => ?_)
theorem slices_Index_int_int.mono : ∀ a0 a1 k,LeO (slices_Index_int_int.f k a0 a1) (slices_Index_int_int.f (k + 1) a0 a1):=by
 intro a0 a1 k
 have ih0:=slices_Index_int_int.mono_l k
 unfold slices_Index_int_int.f
 repeat' first
   | (with_reducible exact ih0 _ _ _ _)
   | (with_reducible exact LeO.refl _)
   | (with_reducible exact LeO.none _)
   | (with_reducible refine LeO.ite ?_ ?_)
   | (with_reducible refine LeO.bind ?_ (fun _ => ?_))
   | exact ih0 _ _ _ _
   | exact LeO.none _
   | refine LeO.ite ?_ ?_
   | refine LeO.bind ?_ (fun _ => ?_)
set_option maxHeartbeats 8000000 in
set_option maxRecDepth 100000 in
theorem slices_Index_int_int.calls (k : Nat) (A0 : Option Addr) (c0 : Nat) (l0 : List Int) (a1 : Int) (r : Int) (w : World) (hr0 : Kd.C (Kd.int .i64) w A0 l0.length l0) (hc0 : l0.length ≤ c0) (h : slices_Index_int_int.f k l0 a1 = some r) :
  Calls Try.prog 81 #[.slice A0 l0.length c0,.int .i64 a1] w fun e w' => e = .returned (.int .i64 r) ∧ Drawn0 w w':=by
 have HR0:=aMk hr0
 have HC0:=aMk hc0
 clear hr0 hc0
 have H : (slices_Index_int_int.l0 k l0 a1 (l0.length : Int) 0) = some r:=h
 clear h
 have H':=aMk H
 clear H
 go_enter Try.func81,Try.ntmps81
 go_wp2
 go_loopg [8] k (fun kq v8 w' => ∃ (x8_1 : Int),v8 = .int .i64 x8_1 ∧ Aside0 (slices_Index_int_int.l0 kq l0 a1 (l0.length : Int) x8_1 = some r) ∧ Aside0 (kq ≤ k) ∧ Drawn0 w w')
 case atStart => exact ⟨(0),(by first | rfl|(simp;done)|(simp [*];done)|(simp [ne_nil_b];done)|(simp [ne_nil_b, *];done)),H',⟨Nat.le_refl _⟩,by repeat (first|exact Drawn0.refl _|apply Drawn0.step)⟩
 case round =>
  clear H'
  try clear p2
  obtain ⟨x8_1,rfl,HA,HK1,⟨m1,rfl⟩⟩:=hrel
  cases gk with
  | zero => exact absurd HA.out (by simp [slices_Index_int_int.l0])
  | succ k1 =>
   have H:=HA.out
   clear HA
   simp only [slices_Index_int_int.l0] at H
   by_cases c3 : x8_1 < (l0.length : Int)
   ·rw [if_pos c3] at H
    have c3b0 : decide (x8_1 < (l0.length : Int)) = true:=decide_eq_true c3
    clear c3
    by_cases c4 : 0 ≤ x8_1
    ·rw [if_pos c4] at H
     have c4b0 : decide (0 ≤ x8_1) = true:=decide_eq_true c4
     clear c4
     by_cases c5 : x8_1 < (l0.length : Int)
     ·rw [if_pos c5] at H
      have c5b0 : decide (x8_1 < (l0.length : Int)) = true:=decide_eq_true c5
      clear c5
      by_cases c6 : a1 = (rd l0 x8_1)
      ·rw [if_pos c6] at H
       have c6b0 : (a1 == (rd l0 x8_1)) = true:=beq_iff_eq.mpr c6
       have c6b1 : (a1 != (rd l0 x8_1)) = false:=bne_eq_false_iff_eq.mpr c6
       clear c6
       obtain rfl:=Option.some.inj H
       have p153 : 0 ≤ (x8_1 : Int):=of_decide_eq_true (by first|(with_reducible assumption) | assumption)
       have q153 : x8_1 < (l0.length : Int):=of_decide_eq_true (by first|(with_reducible assumption) | assumption)
       obtain ⟨ad153,e153,hx153_0⟩:=Kd.at_int HR0.out x8_1 p153 q153
       cases e153
       replace p153:=eq_true p153
       replace q153:=eq_true q153
       go_wp2
       go_ret
       exact ⟨by first | rfl|(simp;done)|(simp [*];done)|(simp [ne_nil_b];done)|(simp [ne_nil_b, *];done),by repeat (first|exact Drawn0.refl _|apply Drawn0.step)⟩
      ·rw [if_neg c6] at H
       have c6b0 : (a1 == (rd l0 x8_1)) = false:=beq_eq_false_iff_ne.mpr c6
       have c6b1 : (a1 != (rd l0 x8_1)) = true:=bne_iff_ne.mpr c6
       have H':=aMk H
       clear H
       have p153 : 0 ≤ (x8_1 : Int):=of_decide_eq_true (by first|(with_reducible assumption) | assumption)
       have q153 : x8_1 < (l0.length : Int):=of_decide_eq_true (by first|(with_reducible assumption) | assumption)
       obtain ⟨ad153,e153,hx153_0⟩:=Kd.at_int HR0.out x8_1 p153 q153
       cases e153
       replace p153:=eq_true p153
       replace q153:=eq_true q153
       go_wp2
       go_roundg k1
       case measure => have:=HK1.out;omega
       case rel => exact ⟨(wrap64 (x8_1 + 1)),(by first | rfl|(simp;done)|(simp [*];done)|(simp [ne_nil_b];done)|(simp [ne_nil_b, *];done)),H',⟨by have:=HK1.out;omega⟩,by repeat (first|exact Drawn0.refl _|apply Drawn0.step)⟩
     ·rw [if_neg c5] at H
      exact absurd H (by simp)
    ·rw [if_neg c4] at H
     exact absurd H (by simp)
   ·rw [if_neg c3] at H
    have c3b0 : decide (x8_1 < (l0.length : Int)) = false:=decide_eq_false c3
    clear c3
    obtain rfl:=Option.some.inj H
    go_wp2
    go_ret
    exact ⟨by first | rfl|(simp;done)|(simp [*];done)|(simp [ne_nil_b];done)|(simp [ne_nil_b, *];done),by repeat (first|exact Drawn0.refl _|apply Drawn0.step)⟩
end
section
/-! ### slices_Contains_int_int: function 46 -/
def slices_Contains_int_int.f (k : Nat) (l0 : List Int) (a1 : Int) : Option (Bool):=(slices_Index_int_int.f k l0 a1).bind fun t154 => (some (decide (t154 ≥ 0)))
theorem slices_Contains_int_int.mono : ∀ a0 a1 k,LeO (slices_Contains_int_int.f k a0 a1) (slices_Contains_int_int.f (k + 1) a0 a1):=by
 intro a0 a1 k
 unfold slices_Contains_int_int.f
 repeat' first
   | (with_reducible exact slices_Index_int_int.mono ..)
   | (with_reducible exact LeO.refl _)
   | (with_reducible exact LeO.none _)
   | (with_reducible refine LeO.ite ?_ ?_)
   | (with_reducible refine LeO.bind ?_ (fun _ => ?_))
   | exact slices_Index_int_int.mono ..
   | exact LeO.none _
   | refine LeO.ite ?_ ?_
   | refine LeO.bind ?_ (fun _ => ?_)
set_option maxHeartbeats 8000000 in
set_option maxRecDepth 100000 in
theorem slices_Contains_int_int.calls (k : Nat) (A0 : Option Addr) (c0 : Nat) (l0 : List Int) (a1 : Int) (r : Bool) (w : World) (hr0 : Kd.C (Kd.int .i64) w A0 l0.length l0) (hc0 : l0.length ≤ c0) (h : slices_Contains_int_int.f k l0 a1 = some r) :
  Calls Try.prog 46 #[.slice A0 l0.length c0,.int .i64 a1] w fun e w' => e = .returned (.bool r) ∧ Drawn0 w w':=by
 have HR0:=aMk hr0
 have HC0:=aMk hc0
 clear hr0 hc0
 have H : ((slices_Index_int_int.f k l0 a1).bind fun t154 => (some (decide (t154 ≥ 0)))) = some r:=h
 clear h
 replace H:=Option.bind_eq_some_iff.mp H
 obtain ⟨t154,A30,H⟩:=H
 replace H : (some (decide (t154 ≥ 0))) = some r:=H
 have A3:=aMk A30
 clear A30
 obtain rfl:=Option.some.inj H
 go_enter Try.func46,Try.ntmps46
 go_wp2_with (first|((with_reducible refine gate_callee (f:=81) rfl ?_);refine gLs 7 Try.func81 #[.slice A0 l0.length c0,.int .i64 a1] ?_;(with_reducible refine (slices_Index_int_int.calls k _ _ l0 a1 t154 _ ?side1 ?side2 A3.out).mono ?_);(case side1 => repeat (first|exact HR0.out|(with_reducible refine Kd.C_alloc ?_ _)|(with_reducible refine Kd.C_drewN ?_ _)|(with_reducible refine Kd.C_drew ?_)));(case side2 => exact HC0.out);rintro e w' ⟨rfl,⟨nd,rfl⟩⟩;refine ⟨_,rfl,?_⟩))
 go_ret
 exact ⟨by first | rfl|(simp;done)|(simp [*];done)|(simp [ne_nil_b];done)|(simp [ne_nil_b, *];done),by repeat (first|exact Drawn0.refl _|apply Drawn0.step)⟩
end
section
/-! ### impl_rangeOK: function 47 -/
def impl_rangeOK.f (a0_0 : Int) (a0_1 : Int) : Option (Bool):=(impl_within.f a0_0 0 a0_1).bind fun t156 => (if t156 = true then (some (decide (a0_1 ≤ 65535))) else (some false))
set_option maxHeartbeats 8000000 in
set_option maxRecDepth 100000 in
theorem impl_rangeOK.calls (a0_0 : Int) (a0_1 : Int) (r : Bool) (w : World) (h : impl_rangeOK.f a0_0 a0_1 = some r) :
  Calls Try.prog 47 #[.agg #[.int .i64 a0_0,.int .i64 a0_1]] w fun e w' => e = .returned (.bool r) ∧ Below w.heap.size w w':=by
 have hu34:=Try.underlying34
 have HB:=aMk (Below.refl w.heap.size w)
 have H : ((impl_within.f a0_0 0 a0_1).bind fun t156 => (if t156 = true then (some (decide (a0_1 ≤ 65535))) else (some false))) = some r:=h
 clear h
 replace H:=Option.bind_eq_some_iff.mp H
 obtain ⟨t156,A20,H⟩:=H
 replace H : (if t156 = true then (some (decide (a0_1 ≤ 65535))) else (some false)) = some r:=H
 have A2:=aMk A20
 clear A20
 by_cases c3 : t156 = true
 ·subst c3
  have H1 : (some (decide (a0_1 ≤ 65535))) = some r:=by rw [if_pos rfl] at H;exact H
  clear H
  have H:=H1
  clear H1
  obtain rfl:=Option.some.inj H
  go_enter Try.func47,Try.ntmps47
  go_wp2_with (first|((with_reducible refine gate_dst (N:=1) rfl ?_);refine bxE (N:=1) (cs:=#[.int .i64 a0_0,.int .i64 a0_1]) (t:=34) ?_;intro gb155 hg w4 hbox hb;have n0_:=aMk (bSt hb);have n1_:=aMk (hbox);have n2_:=aMk ((by rw [hg];exact bSz : w.heap.size ≤ gb155));have n3_:=aMk ((by rw [hg];exact bSz : w.heap.size ≤ gb155));clear HB;have HB:=n0_;have BK155:=n1_;have GW155:=n2_;have GE155:=n3_;clear n0_ n1_ n2_ n3_;clear hb hbox hg;obtain ⟨hcz5_0,hcz5_1,hfz5_0,hfz5_1⟩:=bC2 BK155.out)|((with_reducible refine gate_callee (f:=60) rfl ?_);refine gLs 7 Try.func60 #[.int .i64 a0_0,.int .i64 0,.int .i64 a0_1] ?_;(with_reducible refine (impl_within.calls a0_0 0 a0_1 true _ A2.out).mono ?_);rintro e w' ⟨rfl,⟨nd,rfl⟩⟩;refine ⟨_,rfl,?_⟩))
  go_ret
  exact ⟨eRf,by repeat (first|(with_reducible first|exact HB.out|apply bwA|apply bwN|apply bw1|refine below_set ?_ GE155.out)|exact HB.out)⟩
 ·replace c3:=Bool.eq_false_iff.mpr c3
  subst c3
  have H1 : (some false) = some r:=by rw [if_neg (show ¬ (false = true) by decide)] at H;exact H
  clear H
  have H:=H1
  clear H1
  obtain rfl:=Option.some.inj H
  go_enter Try.func47,Try.ntmps47
  go_wp2_with (first|((with_reducible refine gate_dst (N:=1) rfl ?_);refine bxE (N:=1) (cs:=#[.int .i64 a0_0,.int .i64 a0_1]) (t:=34) ?_;intro gb155 hg w6 hbox hb;have n0_:=aMk (bSt hb);have n1_:=aMk (hbox);have n2_:=aMk ((by rw [hg];exact bSz : w.heap.size ≤ gb155));have n3_:=aMk ((by rw [hg];exact bSz : w.heap.size ≤ gb155));clear HB;have HB:=n0_;have BK155:=n1_;have GW155:=n2_;have GE155:=n3_;clear n0_ n1_ n2_ n3_;clear hb hbox hg;obtain ⟨hcz7_0,hcz7_1,hfz7_0,hfz7_1⟩:=bC2 BK155.out)|((with_reducible refine gate_callee (f:=60) rfl ?_);refine gLs 7 Try.func60 #[.int .i64 a0_0,.int .i64 0,.int .i64 a0_1] ?_;(with_reducible refine (impl_within.calls a0_0 0 a0_1 false _ A2.out).mono ?_);rintro e w' ⟨rfl,⟨nd,rfl⟩⟩;refine ⟨_,rfl,?_⟩))
  go_ret
  exact ⟨eRf,by repeat (first|(with_reducible first|exact HB.out|apply bwA|apply bwN|apply bw1|refine below_set ?_ GE155.out)|exact HB.out)⟩
end
section
/-! ### impl_RuleOK: function 16 -/
def impl_RuleOK.f (k : Nat) (a0_0 : Int) (a0_1 : Int) (a0_2 : Int) (a0_3 : Int) (a0_4 : Int) (a0_5 : Bool) : Option (Bool):=(slices_Contains_int_int.f k (([0,1,6,17] : List Int)) a0_0).bind fun t161 => (if t161 = true then ((impl_NetOK.f a0_1 a0_2).bind fun t162 => (if t162 = true then ((impl_rangeOK.f a0_3 a0_4).bind fun t163 => (some t163)) else (some false))) else (some false))
theorem impl_RuleOK.mono : ∀ a0 a1 a2 a3 a4 a5 k,LeO (impl_RuleOK.f k a0 a1 a2 a3 a4 a5) (impl_RuleOK.f (k + 1) a0 a1 a2 a3 a4 a5):=by
 intro a0 a1 a2 a3 a4 a5 k
 unfold impl_RuleOK.f
 repeat' first
   | (with_reducible exact slices_Contains_int_int.mono ..)
   | (with_reducible exact LeO.refl _)
   | (with_reducible exact LeO.none _)
   | (with_reducible refine LeO.ite ?_ ?_)
   | (with_reducible refine LeO.bind ?_ (fun _ => ?_))
   | exact slices_Contains_int_int.mono ..
   | exact LeO.none _
   | refine LeO.ite ?_ ?_
   | refine LeO.bind ?_ (fun _ => ?_)
set_option maxHeartbeats 8000000 in
set_option maxRecDepth 100000 in
theorem impl_RuleOK.calls (k : Nat) (a0_0 : Int) (a0_1 : Int) (a0_2 : Int) (a0_3 : Int) (a0_4 : Int) (a0_5 : Bool) (r : Bool) (w : World) (h : impl_RuleOK.f k a0_0 a0_1 a0_2 a0_3 a0_4 a0_5 = some r) :
  Calls Try.prog 16 #[.agg #[.int .i64 a0_0,.int .i64 a0_1,.int .i64 a0_2,.int .i64 a0_3,.int .i64 a0_4,.bool a0_5]] w fun e w' => e = .returned (.bool r) ∧ Below w.heap.size w w':=by
 have hu36:=Try.underlying36
 have hu26:=Try.underlying26
 have hu34:=Try.underlying34
 have HB:=aMk (Below.refl w.heap.size w)
 have H : ((slices_Contains_int_int.f k (([0,1,6,17] : List Int)) a0_0).bind fun t161 => (if t161 = true then ((impl_NetOK.f a0_1 a0_2).bind fun t162 => (if t162 = true then ((impl_rangeOK.f a0_3 a0_4).bind fun t163 => (some t163)) else (some false))) else (some false))) = some r:=h
 clear h
 obtain ⟨y158,hy158⟩ : ∃ y_ : List Int,y_ = (([0,1,6,17] : List Int)):=⟨_,rfl⟩
 replace H : ((slices_Contains_int_int.f k y158 a0_0).bind fun t161 => (if t161 = true then ((impl_NetOK.f a0_1 a0_2).bind fun t162 => (if t162 = true then ((impl_rangeOK.f a0_3 a0_4).bind fun t163 => (some t163)) else (some false))) else (some false))) = some r:=by first|(rw [hy158];with_reducible exact H)|(have H2_:=(Option.bind_some _ _).symm.trans H;rw [hy158];with_reducible exact H2_)|(have H2_:=(Option.bind_some _ _).symm.trans H;with_reducible exact H2_) | with_reducible exact H|(rw [hy158];exact H)|exact H
 have Ny158:=aMk hy158
 clear hy158
 replace H:=Option.bind_eq_some_iff.mp H
 obtain ⟨t161,A20,H⟩:=H
 replace H : (if t161 = true then ((impl_NetOK.f a0_1 a0_2).bind fun t162 => (if t162 = true then ((impl_rangeOK.f a0_3 a0_4).bind fun t163 => (some t163)) else (some false))) else (some false)) = some r:=H
 have A2:=aMk A20
 clear A20
 by_cases c3 : t161 = true
 ·subst c3
  have H1 : ((impl_NetOK.f a0_1 a0_2).bind fun t162 => (if t162 = true then ((impl_rangeOK.f a0_3 a0_4).bind fun t163 => (some t163)) else (some false))) = some r:=by rw [if_pos rfl] at H;exact H
  clear H
  have H:=H1
  clear H1
  replace H:=Option.bind_eq_some_iff.mp H
  obtain ⟨t162,A40,H⟩:=H
  replace H : (if t162 = true then ((impl_rangeOK.f a0_3 a0_4).bind fun t163 => (some t163)) else (some false)) = some r:=H
  have A4:=aMk A40
  clear A40
  by_cases c5 : t162 = true
  ·subst c5
   have H1 : ((impl_rangeOK.f a0_3 a0_4).bind fun t163 => (some t163)) = some r:=by rw [if_pos rfl] at H;exact H
   clear H
   have H:=H1
   clear H1
   replace H:=Option.bind_eq_some_iff.mp H
   obtain ⟨t163,A60,H⟩:=H
   replace H : (some t163) = some r:=H
   have A6:=aMk A60
   clear A60
   obtain rfl:=Option.some.inj H
   go_enter Try.func16,Try.ntmps16
   go_wp2_with (first|((with_reducible refine gate_dst (N:=1) rfl ?_);refine bxE (N:=1) (cs:=#[.int .i64 a0_0,.int .i64 a0_1,.int .i64 a0_2,.int .i64 a0_3,.int .i64 a0_4,.bool a0_5]) (t:=36) ?_;intro gb157 hg w7 hbox hb;have n0_:=aMk (bSt hb);have n1_:=aMk (hbox);have n2_:=aMk ((by rw [hg];exact bSz : w.heap.size ≤ gb157));have n3_:=aMk ((by rw [hg];exact bSz : w.heap.size ≤ gb157));clear HB;have HB:=n0_;have BK157:=n1_;have GW157:=n2_;have GE157:=n3_;clear n0_ n1_ n2_ n3_;clear hb hbox hg)|((with_reducible refine gate_dst (N:=3) rfl ?_);refine Kd.R_lit (Kd.int .i64) _ 3 ?hg (N:=3) ?hd (xs:=([0,1,6,17] : List Int)) (inner:=[.int .i64 0,.int .i64 1,.int .i64 6,.int .i64 17]) (ok:=fun _ => True) (okp:=fun _ => True) ?hr ?hp (fun _ hk => hk) trivial (Below.refl _ _) (Nat.le_refl _) (by simp) ?_;(case hd => rfl);(case hg => rfl);(case hr => first|(go_simp;done)|(go_simp;rfl));(case hp => exact (Reps.one (show Kd.M (Kd.int .i64) _ _ _ 0 [.int .i64 0] from rfl) (Reps.one (show Kd.M (Kd.int .i64) _ _ _ 1 [.int .i64 1] from rfl) (Reps.one (show Kd.M (Kd.int .i64) _ _ _ 6 [.int .i64 6] from rfl) (Reps.one (show Kd.M (Kd.int .i64) _ _ _ 17 [.int .i64 17] from rfl) (Reps.none _ _))))));intro v159 w8 ho9 hb hg_ hnew_;clear hg_ hnew_;(first|rw [← Ny158.out] at ho9|(simp only [Int.reduceToNat] at ho9;rw [← Ny158.out] at ho9));have n0_:=aMk (Kd.R_lower ho9 (below_size (by repeat (first|(with_reducible first|exact HB.out|apply bwA|apply bwN|apply bw1|refine below_set ?_ GE157.out)|exact HB.out))));have n1_:=aMk (bkB BK157.out hb);have n2_:=aMk (below_step (by repeat (first|(with_reducible first|exact HB.out|apply bwA|apply bwN|apply bw1|refine below_set ?_ GE157.out)|exact HB.out)) hb);clear BK157;clear HB;have HO160:=n0_;have BK157:=n1_;have HB:=n2_;clear n0_ n1_ n2_;clear hb ho9;obtain ⟨hcz10_0,hcz10_1,hcz10_2,hcz10_3,hcz10_4,hcz10_5,hfz10_0,hfz10_1,hfz10_2,hfz10_3,hfz10_4,hfz10_5⟩:=bC6 BK157.out;obtain ⟨Ao11,co11,eo11⟩:=Kd.R_slice HO160.out;subst eo11)|((with_reducible refine gate_callee (f:=46) rfl ?_);refine gLs 6 Try.func46 #[.slice Ao11 y158.length co11,.int .i64 a0_0] ?_;(with_reducible refine (slices_Contains_int_int.calls k _ _ y158 a0_0 true _ ?side1 ?side2 A2.out).mono ?_);(case side1 => repeat (first|exact (Kd.R_reads' HO160.out).2.2|(with_reducible refine Kd.C_alloc ?_ _)|(with_reducible refine Kd.C_drewN ?_ _)|(with_reducible refine Kd.C_drew ?_)));(case side2 => exact (Kd.R_reads' HO160.out).2.1);rintro e w' ⟨rfl,⟨nd,rfl⟩⟩;refine ⟨_,rfl,?_⟩)|(go_at_call 41;(with_reducible refine (impl_NetOK.calls a0_1 a0_2 true _ A4.out).mono ?_);rintro e w12 ⟨rfl,hb⟩;have n0_:=aMk (Kd.R_below (by (with_reducible repeat (first|apply Kd.R_alloc|apply Kd.R_drewN|apply Kd.R_drew));exact HO160.out) hb);have n1_:=aMk (bkB BK157.out hb);have n2_:=aMk (below_step (by repeat (first|(with_reducible first|exact HB.out|apply bwA|apply bwN|apply bw1|refine below_set ?_ GE157.out)|exact HB.out)) hb);clear HO160;clear BK157;clear HB;have HO160:=n0_;have BK157:=n1_;have HB:=n2_;clear n0_ n1_ n2_;(try clear hb);(try clear hb2);(try clear hk);(try clear hi);obtain ⟨hcz13_0,hcz13_1,hcz13_2,hcz13_3,hcz13_4,hcz13_5,hfz13_0,hfz13_1,hfz13_2,hfz13_3,hfz13_4,hfz13_5⟩:=bC6 BK157.out)|(go_at_call 47;(with_reducible refine (impl_rangeOK.calls a0_3 a0_4 t163 _ A6.out).mono ?_);rintro e w14 ⟨rfl,hb⟩;have n0_:=aMk (Kd.R_below (by (with_reducible repeat (first|apply Kd.R_alloc|apply Kd.R_drewN|apply Kd.R_drew));exact HO160.out) hb);have n1_:=aMk (bkB BK157.out hb);have n2_:=aMk (below_step (by repeat (first|(with_reducible first|exact HB.out|apply bwA|apply bwN|apply bw1|refine below_set ?_ GE157.out)|exact HB.out)) hb);clear HO160;clear BK157;clear HB;have HO160:=n0_;have BK157:=n1_;have HB:=n2_;clear n0_ n1_ n2_;(try clear hb);(try clear hb2);(try clear hk);(try clear hi)))
   go_ret
   exact ⟨eRf,by repeat (first|(with_reducible first|exact HB.out|apply bwA|apply bwN|apply bw1|refine below_set ?_ GE157.out)|exact HB.out)⟩
  ·replace c5:=Bool.eq_false_iff.mpr c5
   subst c5
   have H1 : (some false) = some r:=by rw [if_neg (show ¬ (false = true) by decide)] at H;exact H
   clear H
   have H:=H1
   clear H1
   obtain rfl:=Option.some.inj H
   go_enter Try.func16,Try.ntmps16
   go_wp2_with (first|((with_reducible refine gate_dst (N:=1) rfl ?_);refine bxE (N:=1) (cs:=#[.int .i64 a0_0,.int .i64 a0_1,.int .i64 a0_2,.int .i64 a0_3,.int .i64 a0_4,.bool a0_5]) (t:=36) ?_;intro gb157 hg w15 hbox hb;have n0_:=aMk (bSt hb);have n1_:=aMk (hbox);have n2_:=aMk ((by rw [hg];exact bSz : w.heap.size ≤ gb157));have n3_:=aMk ((by rw [hg];exact bSz : w.heap.size ≤ gb157));clear HB;have HB:=n0_;have BK157:=n1_;have GW157:=n2_;have GE157:=n3_;clear n0_ n1_ n2_ n3_;clear hb hbox hg)|((with_reducible refine gate_dst (N:=3) rfl ?_);refine Kd.R_lit (Kd.int .i64) _ 3 ?hg (N:=3) ?hd (xs:=([0,1,6,17] : List Int)) (inner:=[.int .i64 0,.int .i64 1,.int .i64 6,.int .i64 17]) (ok:=fun _ => True) (okp:=fun _ => True) ?hr ?hp (fun _ hk => hk) trivial (Below.refl _ _) (Nat.le_refl _) (by simp) ?_;(case hd => rfl);(case hg => rfl);(case hr => first|(go_simp;done)|(go_simp;rfl));(case hp => exact (Reps.one (show Kd.M (Kd.int .i64) _ _ _ 0 [.int .i64 0] from rfl) (Reps.one (show Kd.M (Kd.int .i64) _ _ _ 1 [.int .i64 1] from rfl) (Reps.one (show Kd.M (Kd.int .i64) _ _ _ 6 [.int .i64 6] from rfl) (Reps.one (show Kd.M (Kd.int .i64) _ _ _ 17 [.int .i64 17] from rfl) (Reps.none _ _))))));intro v159 w16 ho17 hb hg_ hnew_;clear hg_ hnew_;(first|rw [← Ny158.out] at ho17|(simp only [Int.reduceToNat] at ho17;rw [← Ny158.out] at ho17));have n0_:=aMk (Kd.R_lower ho17 (below_size (by repeat (first|(with_reducible first|exact HB.out|apply bwA|apply bwN|apply bw1|refine below_set ?_ GE157.out)|exact HB.out))));have n1_:=aMk (bkB BK157.out hb);have n2_:=aMk (below_step (by repeat (first|(with_reducible first|exact HB.out|apply bwA|apply bwN|apply bw1|refine below_set ?_ GE157.out)|exact HB.out)) hb);clear BK157;clear HB;have HO160:=n0_;have BK157:=n1_;have HB:=n2_;clear n0_ n1_ n2_;clear hb ho17;obtain ⟨hcz18_0,hcz18_1,hcz18_2,hcz18_3,hcz18_4,hcz18_5,hfz18_0,hfz18_1,hfz18_2,hfz18_3,hfz18_4,hfz18_5⟩:=bC6 BK157.out;obtain ⟨Ao19,co19,eo19⟩:=Kd.R_slice HO160.out;subst eo19)|((with_reducible refine gate_callee (f:=46) rfl ?_);refine gLs 6 Try.func46 #[.slice Ao19 y158.length co19,.int .i64 a0_0] ?_;(with_reducible refine (slices_Contains_int_int.calls k _ _ y158 a0_0 true _ ?side1 ?side2 A2.out).mono ?_);(case side1 => repeat (first|exact (Kd.R_reads' HO160.out).2.2|(with_reducible refine Kd.C_alloc ?_ _)|(with_reducible refine Kd.C_drewN ?_ _)|(with_reducible refine Kd.C_drew ?_)));(case side2 => exact (Kd.R_reads' HO160.out).2.1);rintro e w' ⟨rfl,⟨nd,rfl⟩⟩;refine ⟨_,rfl,?_⟩)|(go_at_call 41;(with_reducible refine (impl_NetOK.calls a0_1 a0_2 false _ A4.out).mono ?_);rintro e w20 ⟨rfl,hb⟩;have n0_:=aMk (Kd.R_below (by (with_reducible repeat (first|apply Kd.R_alloc|apply Kd.R_drewN|apply Kd.R_drew));exact HO160.out) hb);have n1_:=aMk (bkB BK157.out hb);have n2_:=aMk (below_step (by repeat (first|(with_reducible first|exact HB.out|apply bwA|apply bwN|apply bw1|refine below_set ?_ GE157.out)|exact HB.out)) hb);clear HO160;clear BK157;clear HB;have HO160:=n0_;have BK157:=n1_;have HB:=n2_;clear n0_ n1_ n2_;(try clear hb);(try clear hb2);(try clear hk);(try clear hi)))
   go_ret
   exact ⟨eRf,by repeat (first|(with_reducible first|exact HB.out|apply bwA|apply bwN|apply bw1|refine below_set ?_ GE157.out)|exact HB.out)⟩
 ·replace c3:=Bool.eq_false_iff.mpr c3
  subst c3
  have H1 : (some false) = some r:=by rw [if_neg (show ¬ (false = true) by decide)] at H;exact H
  clear H
  have H:=H1
  clear H1
  obtain rfl:=Option.some.inj H
  go_enter Try.func16,Try.ntmps16
  go_wp2_with (first|((with_reducible refine gate_dst (N:=1) rfl ?_);refine bxE (N:=1) (cs:=#[.int .i64 a0_0,.int .i64 a0_1,.int .i64 a0_2,.int .i64 a0_3,.int .i64 a0_4,.bool a0_5]) (t:=36) ?_;intro gb157 hg w21 hbox hb;have n0_:=aMk (bSt hb);have n1_:=aMk (hbox);have n2_:=aMk ((by rw [hg];exact bSz : w.heap.size ≤ gb157));have n3_:=aMk ((by rw [hg];exact bSz : w.heap.size ≤ gb157));clear HB;have HB:=n0_;have BK157:=n1_;have GW157:=n2_;have GE157:=n3_;clear n0_ n1_ n2_ n3_;clear hb hbox hg)|((with_reducible refine gate_dst (N:=3) rfl ?_);refine Kd.R_lit (Kd.int .i64) _ 3 ?hg (N:=3) ?hd (xs:=([0,1,6,17] : List Int)) (inner:=[.int .i64 0,.int .i64 1,.int .i64 6,.int .i64 17]) (ok:=fun _ => True) (okp:=fun _ => True) ?hr ?hp (fun _ hk => hk) trivial (Below.refl _ _) (Nat.le_refl _) (by simp) ?_;(case hd => rfl);(case hg => rfl);(case hr => first|(go_simp;done)|(go_simp;rfl));(case hp => exact (Reps.one (show Kd.M (Kd.int .i64) _ _ _ 0 [.int .i64 0] from rfl) (Reps.one (show Kd.M (Kd.int .i64) _ _ _ 1 [.int .i64 1] from rfl) (Reps.one (show Kd.M (Kd.int .i64) _ _ _ 6 [.int .i64 6] from rfl) (Reps.one (show Kd.M (Kd.int .i64) _ _ _ 17 [.int .i64 17] from rfl) (Reps.none _ _))))));intro v159 w22 ho23 hb hg_ hnew_;clear hg_ hnew_;(first|rw [← Ny158.out] at ho23|(simp only [Int.reduceToNat] at ho23;rw [← Ny158.out] at ho23));have n0_:=aMk (Kd.R_lower ho23 (below_size (by repeat (first|(with_reducible first|exact HB.out|apply bwA|apply bwN|apply bw1|refine below_set ?_ GE157.out)|exact HB.out))));have n1_:=aMk (bkB BK157.out hb);have n2_:=aMk (below_step (by repeat (first|(with_reducible first|exact HB.out|apply bwA|apply bwN|apply bw1|refine below_set ?_ GE157.out)|exact HB.out)) hb);clear BK157;clear HB;have HO160:=n0_;have BK157:=n1_;have HB:=n2_;clear n0_ n1_ n2_;clear hb ho23;obtain ⟨hcz24_0,hcz24_1,hcz24_2,hcz24_3,hcz24_4,hcz24_5,hfz24_0,hfz24_1,hfz24_2,hfz24_3,hfz24_4,hfz24_5⟩:=bC6 BK157.out;obtain ⟨Ao25,co25,eo25⟩:=Kd.R_slice HO160.out;subst eo25)|((with_reducible refine gate_callee (f:=46) rfl ?_);refine gLs 6 Try.func46 #[.slice Ao25 y158.length co25,.int .i64 a0_0] ?_;(with_reducible refine (slices_Contains_int_int.calls k _ _ y158 a0_0 false _ ?side1 ?side2 A2.out).mono ?_);(case side1 => repeat (first|exact (Kd.R_reads' HO160.out).2.2|(with_reducible refine Kd.C_alloc ?_ _)|(with_reducible refine Kd.C_drewN ?_ _)|(with_reducible refine Kd.C_drew ?_)));(case side2 => exact (Kd.R_reads' HO160.out).2.1);rintro e w' ⟨rfl,⟨nd,rfl⟩⟩;refine ⟨_,rfl,?_⟩))
  go_ret
  exact ⟨eRf,by repeat (first|(with_reducible first|exact HB.out|apply bwA|apply bwN|apply bw1|refine below_set ?_ GE157.out)|exact HB.out)⟩
end
section
/-! ### impl_RoleOK_1: function 59 -/
def impl_RoleOK_1.f (k : Nat) (a0_0 : Int) (a0_1 : Int) (a0_2 : Int) (a0_3 : Int) (a0_4 : Int) (a0_5 : Bool) : Option (Bool):=(impl_RuleOK.f k a0_0 a0_1 a0_2 a0_3 a0_4 a0_5).bind fun t259 => (some (!t259))
theorem impl_RoleOK_1.mono : ∀ a0 a1 a2 a3 a4 a5 k,LeO (impl_RoleOK_1.f k a0 a1 a2 a3 a4 a5) (impl_RoleOK_1.f (k + 1) a0 a1 a2 a3 a4 a5):=by
 intro a0 a1 a2 a3 a4 a5 k
 unfold impl_RoleOK_1.f
 repeat' first
   | (with_reducible exact impl_RuleOK.mono ..)
   | (with_reducible exact LeO.refl _)
   | (with_reducible exact LeO.none _)
   | (with_reducible refine LeO.ite ?_ ?_)
   | (with_reducible refine LeO.bind ?_ (fun _ => ?_))
   | exact impl_RuleOK.mono ..
   | exact LeO.none _
   | refine LeO.ite ?_ ?_
   | refine LeO.bind ?_ (fun _ => ?_)
set_option maxHeartbeats 8000000 in
set_option maxRecDepth 100000 in
theorem impl_RoleOK_1.calls (k : Nat) (a0_0 : Int) (a0_1 : Int) (a0_2 : Int) (a0_3 : Int) (a0_4 : Int) (a0_5 : Bool) (r : Bool) (w : World) (h : impl_RoleOK_1.f k a0_0 a0_1 a0_2 a0_3 a0_4 a0_5 = some r) :
  Calls Try.prog 59 #[.agg #[.int .i64 a0_0,.int .i64 a0_1,.int .i64 a0_2,.int .i64 a0_3,.int .i64 a0_4,.bool a0_5]] w fun e w' => e = .returned (.bool r) ∧ Below w.heap.size w w':=by
 have hu36:=Try.underlying36
 have HB:=aMk (Below.refl w.heap.size w)
 have H : ((impl_RuleOK.f k a0_0 a0_1 a0_2 a0_3 a0_4 a0_5).bind fun t259 => (some (!t259))) = some r:=h
 clear h
 replace H:=Option.bind_eq_some_iff.mp H
 obtain ⟨t259,A20,H⟩:=H
 replace H : (some (!t259)) = some r:=H
 have A2:=aMk A20
 clear A20
 obtain rfl:=Option.some.inj H
 go_enter Try.func59,Try.ntmps59
 go_wp2_with (first|((with_reducible refine gate_dst (N:=1) rfl ?_);refine bxE (N:=1) (cs:=#[.int .i64 a0_0,.int .i64 a0_1,.int .i64 a0_2,.int .i64 a0_3,.int .i64 a0_4,.bool a0_5]) (t:=36) ?_;intro gb258 hg w3 hbox hb;have n0_:=aMk (bSt hb);have n1_:=aMk (hbox);have n2_:=aMk ((by rw [hg];exact bSz : w.heap.size ≤ gb258));have n3_:=aMk ((by rw [hg];exact bSz : w.heap.size ≤ gb258));clear HB;have HB:=n0_;have BK258:=n1_;have GW258:=n2_;have GE258:=n3_;clear n0_ n1_ n2_ n3_;clear hb hbox hg;obtain ⟨hcz4_0,hcz4_1,hcz4_2,hcz4_3,hcz4_4,hcz4_5,hfz4_0,hfz4_1,hfz4_2,hfz4_3,hfz4_4,hfz4_5⟩:=bC6 BK258.out)|((with_reducible refine gate_callee (f:=16) rfl ?_);refine gLs 4 Try.func16 #[.agg #[.int .i64 a0_0,.int .i64 a0_1,.int .i64 a0_2,.int .i64 a0_3,.int .i64 a0_4,.bool a0_5]] ?_;(with_reducible refine (impl_RuleOK.calls k a0_0 a0_1 a0_2 a0_3 a0_4 a0_5 t259 _ A2.out).mono ?_);rintro e w5 ⟨rfl,hb⟩;refine ⟨_,rfl,?_⟩;have n0_:=aMk (bkB BK258.out hb);have n1_:=aMk (below_step (by repeat (first|(with_reducible first|exact HB.out|apply bwA|apply bwN|apply bw1|refine below_set ?_ GE258.out)|exact HB.out)) hb);clear BK258;clear HB;have BK258:=n0_;have HB:=n1_;clear n0_ n1_;(try clear hb);(try clear hb2);(try clear hk);(try clear hi)))
 go_ret
 exact ⟨eRf,by repeat (first|(with_reducible first|exact HB.out|apply bwA|apply bwN|apply bw1|refine below_set ?_ GE258.out)|exact HB.out)⟩
end
section
/-! ### impl_Rule_85: function 85 -/
def idxP36 (p : S36 → Option Bool) (l : List S36) : Nat → Int → Option Int
 | 0,_ => none
 | k + 1,i => if i < (l.length : Int) then (if 0 ≤ i then ((p (rd_T36 l i)).bind fun t => (if t = true then some i else idxP36 p l k (wrap64 (i + 1)))) else none) else some (-1)
theorem idxP36_mono (p q : S36 → Option Bool) (hpq : ∀ x,LeO (p x) (q x)) (l : List S36) : ∀ k i,LeO (idxP36 p l k i) (idxP36 q l (k + 1) i)
 | 0,i => fun r h => by simp [idxP36] at h
 | k + 1,i => by
  have ih:=idxP36_mono p q hpq l k
  rw [idxP36,idxP36]
  refine LeO.ite (LeO.ite (LeO.bind (hpq _) (fun t => LeO.ite (LeO.refl _) (ih _))) (LeO.refl _)) (LeO.refl _)
set_option maxHeartbeats 8000000 in
set_option maxRecDepth 100000 in
theorem indexFunc36 (g : FuncId) (lb : Array Value) (eg : ∀ args w,(callFunc g args).run Try.prog w = .ok (.enter g args) w) (p : S36 → Option Bool) (k : Nat) (A0 : Option Addr) (c0 : Nat) (l0 : List S36) (r : Int) (w : World)
  (hp : ∀ (W : World) (x : S36) (b : Bool),Below w.heap.size w W → p x = some b → Calls Try.prog g (#[.agg #[.int .i64 x.f0,.int .i64 x.f1.f0,.int .i64 x.f1.f1,.int .i64 x.f2.f0,.int .i64 x.f2.f1,.bool x.f3]] ++ lb) W fun e w' => e = .returned (.bool b) ∧ Below w.heap.size w w')
  (hr0 : Kd.C k36 w A0 l0.length l0) (h : idxP36 p l0 k 0 = some r) :
  Calls Try.prog 85 #[.slice A0 l0.length c0,.func (.func g) #[] lb] w fun e w' => e = .returned (.int .i64 r) ∧ Below w.heap.size w w':=by
 have hu36:=Try.underlying36
 have HR0:=aMk hr0
 have HP:=aMk hp
 clear hr0 hp
 have HB:=aMk (Below.refl w.heap.size w)
 have H':=aMk h
 clear h
 go_enter Try.func85,Try.ntmps85
 go_wp2
 go_loopg [5,8] k (fun kq _ v8 w' => ∃ (x : Int),v8 = .int .i64 x ∧ Aside0 (idxP36 p l0 kq x = some r) ∧ Aside0 (kq ≤ k) ∧ Aside0 (Below w.heap.size w w'))
 case atStart => exact ⟨0,rfl,H',⟨Nat.le_refl _⟩,HB⟩
 case round =>
  clear H'
  obtain ⟨x,rfl,HA,HK1,HB⟩:=hrel
  cases gk with
  | zero => exact absurd HA.out (by simp [idxP36])
  | succ k1 =>
   have H:=HA.out
   clear HA
   simp only [idxP36] at H
   by_cases c2 : x < (l0.length : Int)
   ·rw [if_pos c2] at H
    have c2b0 : decide (x < (l0.length : Int)) = true:=decide_eq_true c2
    clear c2
    by_cases c3 : 0 ≤ x
    ·rw [if_pos c3] at H
     have c3b0 : decide (0 ≤ x) = true:=decide_eq_true c3
     clear c3
     replace H:=Option.bind_eq_some_iff.mp H
     obtain ⟨t,A40,H⟩:=H
     have p179 : 0 ≤ (x : Int):=of_decide_eq_true (by first|(with_reducible assumption) | assumption)
     have q179 : x < (l0.length : Int):=of_decide_eq_true (by first|(with_reducible assumption) | assumption)
     obtain ⟨ad179,e179,hx0,hx1,hx2,hx3,hx4,hx5⟩:=at_T36 HR0.out x p179 q179
     cases e179
     replace hx0:=bXc HB.out hx0
     replace hx1:=bXc HB.out hx1
     replace hx2:=bXc HB.out hx2
     replace hx3:=bXc HB.out hx3
     replace hx4:=bXc HB.out hx4
     replace hx5:=bXc HB.out hx5
     replace p179:=eq_true p179
     replace q179:=eq_true q179
     have HC:=aMk (HP.out _ _ _ HB.out A40)
     clear A40
     cases t
     ·have H1 : idxP36 p l0 k1 (wrap64 (x + 1)) = some r:=by simpa using H
      clear H
      have H':=aMk H1
      clear H1
      go_wp2_with (refine HC.out.mono ?_;rintro e w6 ⟨rfl,hb⟩;clear HB;have HB:=aMk hb;clear hb)
      go_roundg k1
      case measure => have:=HK1.out;omega
      case rel => exact ⟨_,rfl,H',⟨by have:=HK1.out;omega⟩,HB⟩
     ·obtain rfl : x = r:=by simpa using H
      clear H
      go_wp2_with (refine HC.out.mono ?_;rintro e w6 ⟨rfl,hb⟩;clear HB;have HB:=aMk hb;clear hb)
      go_ret
      exact ⟨rfl,HB.out⟩
    ·rw [if_neg c3] at H
     exact absurd H (by simp)
   ·rw [if_neg c2] at H
    have c2b0 : decide (x < (l0.length : Int)) = false:=decide_eq_false c2
    clear c2
    obtain rfl:=Option.some.inj H
    go_wp2
    go_ret
    exact ⟨eRf,HB.out⟩
end
section
/-! ### impl_Rule_58: function 58 -/
set_option maxHeartbeats 8000000 in
set_option maxRecDepth 100000 in
theorem containsFunc36 (g : FuncId) (lb : Array Value) (eg : ∀ args w,(callFunc g args).run Try.prog w = .ok (.enter g args) w) (p : S36 → Option Bool) (k : Nat) (A0 : Option Addr) (c0 : Nat) (l0 : List S36) (r : Int) (w : World)
  (hp : ∀ (W : World) (x : S36) (b : Bool),Below w.heap.size w W → p x = some b → Calls Try.prog g (#[.agg #[.int .i64 x.f0,.int .i64 x.f1.f0,.int .i64 x.f1.f1,.int .i64 x.f2.f0,.int .i64 x.f2.f1,.bool x.f3]] ++ lb) W fun e w' => e = .returned (.bool b) ∧ Below w.heap.size w w')
  (hr0 : Kd.C k36 w A0 l0.length l0) (h : idxP36 p l0 k 0 = some r) :
  Calls Try.prog 58 #[.slice A0 l0.length c0,.func (.func g) #[] lb] w fun e w' => e = .returned (.bool (decide (0 ≤ r))) ∧ Below w.heap.size w w':=by
 have HC:=indexFunc36 g lb eg p k A0 c0 l0 r w hp hr0 h
 clear hp hr0 h
 have ei:=enters_ Try.func85 (by kernel_rfl) rfl
 go_enter Try.func58,Try.ntmps58
 go_wp2_with (refine HC.mono ?_;rintro e w6 ⟨rfl,hb⟩)
 go_ret
 exact ⟨eRf,hb⟩
def impl_Rule_58.f (k : Nat) (l0 : List S36) : Option Bool:=(idxP36 (fun x => impl_RoleOK_1.f k x.f0 x.f1.f0 x.f1.f1 x.f2.f0 x.f2.f1 x.f3) l0 k 0).bind fun t => some (decide (0 ≤ t))
theorem impl_Rule_58.mono : ∀ l0 k,LeO (impl_Rule_58.f k l0) (impl_Rule_58.f (k + 1) l0):=fun l0 k => LeO.bind (idxP36_mono _ _ (fun x => by exact impl_RoleOK_1.mono x.f0 x.f1.f0 x.f1.f1 x.f2.f0 x.f2.f1 x.f3 k) l0 k 0) (fun _ => LeO.refl _)
theorem impl_Rule_58.calls (k : Nat) (A0 : Option Addr) (c0 : Nat) (l0 : List S36) (r : Bool) (w : World) (hr0 : Kd.C k36 w A0 l0.length l0) (hc0 : l0.length ≤ c0) (h : impl_Rule_58.f k l0 = some r) :
  Calls Try.prog 58 #[.slice A0 l0.length c0,.func (.func 59) #[] #[]] w fun e w' => e = .returned (.bool r) ∧ Below w.heap.size w w':=by
 obtain ⟨t,h1,h2⟩:=Option.bind_eq_some_iff.mp h
 obtain rfl:=Option.some.inj h2
 exact containsFunc36 59 #[] (enters_ Try.func59 (by kernel_rfl) rfl) _ k A0 c0 l0 t w (fun W x b hb hx => (impl_RoleOK_1.calls k x.f0 x.f1.f0 x.f1.f1 x.f2.f0 x.f2.f1 x.f3 b W hx).mono fun e w' h => ⟨h.1,below_step hb h.2⟩) hr0 h1
end
section
/-! ### impl_RoleOK: function 25 -/
def impl_RoleOK.j0 : Nat → Bool → ByteArray → List (S36) → Int → Int → Int → Option (Bool)
 | 0,_,_,_,_,_,_ => none
 | k + 1,x17,x261000,x261001,x261002,x261003,x261004 => if x17 = true then (some false) else ((impl_within.f x261002 1 1000000).bind fun t263 => (if t263 = true then ((impl_within.f x261003 1 1000).bind fun t264 => (if t264 = true then ((impl_within.f x261004 1 1000).bind fun t265 => (some t265)) else (some false))) else (some false)))
def impl_RoleOK.f (k : Nat) (a0_0 : ByteArray) (l0_1 : List (S36)) (a0_2 : Int) (a0_3 : Int) (a0_4 : Int) : Option (Bool):=(impl_shortName.f k a0_0).bind fun t261 => (if t261 = true then (if (l0_1.length : Int) > 8 then (impl_RoleOK.j0 k true a0_0 l0_1 a0_2 a0_3 a0_4) else ((impl_Rule_58.f k l0_1).bind fun t262 => (impl_RoleOK.j0 k t262 a0_0 l0_1 a0_2 a0_3 a0_4))) else (impl_RoleOK.j0 k true a0_0 l0_1 a0_2 a0_3 a0_4))
theorem impl_RoleOK.mono_l : ∀ k,(∀ y0 y1 y2 y3 y4 y5,LeO (impl_RoleOK.j0 k y0 y1 y2 y3 y4 y5) (impl_RoleOK.j0 (k + 1) y0 y1 y2 y3 y4 y5))
 | 0 => fun _ _ _ _ _ _ r h => by simp [impl_RoleOK.j0] at h
 | k + 1 => by
  have ih0:=impl_RoleOK.mono_l k
  ·intro y0 y1 y2 y3 y4 y5
   unfold impl_RoleOK.j0
   repeat' first
   | (with_reducible exact ih0 _ _ _ _ _ _)
   | (with_reducible exact impl_Rule_58.mono ..)
   | (with_reducible exact impl_shortName.mono ..)
   | (with_reducible exact LeO.refl _)
   | (with_reducible exact LeO.none _)
   | (with_reducible refine LeO.ite ?_ ?_)
   | (with_reducible refine LeO.bind ?_ (fun _ => ?_))
   | exact ih0 _ _ _ _ _ _
   | exact impl_Rule_58.mono ..
   | exact impl_shortName.mono ..
   | exact LeO.none _
   | refine LeO.ite ?_ ?_
   | refine LeO.bind ?_ (fun _ => ?_)
theorem impl_RoleOK.mono : ∀ a0 a1 a2 a3 a4 k,LeO (impl_RoleOK.f k a0 a1 a2 a3 a4) (impl_RoleOK.f (k + 1) a0 a1 a2 a3 a4):=by
 intro a0 a1 a2 a3 a4 k
 have ih0:=impl_RoleOK.mono_l k
 unfold impl_RoleOK.f
 repeat' first
   | (with_reducible exact ih0 _ _ _ _ _ _)
   | (with_reducible exact impl_Rule_58.mono ..)
   | (with_reducible exact impl_shortName.mono ..)
   | (with_reducible exact LeO.refl _)
   | (with_reducible exact LeO.none _)
   | (with_reducible refine LeO.ite ?_ ?_)
   | (with_reducible refine LeO.bind ?_ (fun _ => ?_))
   | exact ih0 _ _ _ _ _ _
   | exact impl_Rule_58.mono ..
   | exact impl_shortName.mono ..
   | exact LeO.none _
   | refine LeO.ite ?_ ?_
   | refine LeO.bind ?_ (fun _ => ?_)
set_option maxHeartbeats 8000000 in
set_option maxRecDepth 100000 in
theorem impl_RoleOK.calls (k : Nat) (a0_0 : ByteArray) (A0_1 : Option Addr) (c0_1 : Nat) (l0_1 : List (S36)) (a0_2 : Int) (a0_3 : Int) (a0_4 : Int) (r : Bool) (w : World) (hr0_1 : Kd.C k36 w A0_1 l0_1.length l0_1) (hc0_1 : l0_1.length ≤ c0_1) (h : impl_RoleOK.f k a0_0 l0_1 a0_2 a0_3 a0_4 = some r) :
  Calls Try.prog 25 #[.agg #[.string a0_0,.slice A0_1 l0_1.length c0_1,.int .i64 a0_2,.int .i64 a0_3,.int .i64 a0_4]] w fun e w' => e = .returned (.bool r) ∧ Below w.heap.size w w':=by
 have hu54:=Try.underlying54
 have HR0_1:=aMk hr0_1
 have HC0_1:=aMk hc0_1
 clear hr0_1 hc0_1
 have HB:=aMk (Below.refl w.heap.size w)
 have H : ((impl_shortName.f k a0_0).bind fun t261 => (if t261 = true then (if (l0_1.length : Int) > 8 then (impl_RoleOK.j0 k true a0_0 l0_1 a0_2 a0_3 a0_4) else ((impl_Rule_58.f k l0_1).bind fun t262 => (impl_RoleOK.j0 k t262 a0_0 l0_1 a0_2 a0_3 a0_4))) else (impl_RoleOK.j0 k true a0_0 l0_1 a0_2 a0_3 a0_4))) = some r:=h
 clear h
 have HC2:=aMk H
 clear H
 go_enter Try.func25,Try.ntmps25
 go_upto_region 1 with (first|((with_reducible refine gate_dst (N:=1) rfl ?_);(try (refine gate_guard (by rfl) ?_;dsimp only));refine bxE (N:=1) (cs:=#[.string a0_0,.slice A0_1 l0_1.length c0_1,.int .i64 a0_2,.int .i64 a0_3,.int .i64 a0_4]) (t:=54) ?_;intro gb260 hg w3 hbox hb;have n0_:=aMk (bSt hb);have n1_:=aMk (hbox);have n2_:=aMk ((by rw [hg];exact bSz : w.heap.size ≤ gb260));have n3_:=aMk ((by rw [hg];exact bSz : w.heap.size ≤ gb260));clear HB;have HB:=n0_;have BK260:=n1_;have GW260:=n2_;have GE260:=n3_;clear n0_ n1_ n2_ n3_;clear hb hbox hg))
 (try simp only [Act.put,List.setIfInBounds_toArray,List.set_cons_zero,List.set_cons_succ])
 go_cut [17] (fun v17 wc => ∃ (kq : Nat) (x17_1 : Bool),v17 = .bool x17_1 ∧ Aside0 (impl_RoleOK.j0 kq x17_1 a0_0 l0_1 a0_2 a0_3 a0_4 = some r) ∧ Aside0 (kq ≤ k) ∧ Aside0 (wc.heap[gb260]? = some (.cells #[.string a0_0,(.slice A0_1 l0_1.length c0_1),.int .i64 a0_2,.int .i64 a0_3,.int .i64 a0_4] 54 (0,0))) ∧ Aside0 (Below w.heap.size w wc))
 case first =>
  have H:=HC2.out
  clear HC2
  replace H:=Option.bind_eq_some_iff.mp H
  obtain ⟨t261,A40,H⟩:=H
  replace H : (if t261 = true then (if (l0_1.length : Int) > 8 then (impl_RoleOK.j0 k true a0_0 l0_1 a0_2 a0_3 a0_4) else ((impl_Rule_58.f k l0_1).bind fun t262 => (impl_RoleOK.j0 k t262 a0_0 l0_1 a0_2 a0_3 a0_4))) else (impl_RoleOK.j0 k true a0_0 l0_1 a0_2 a0_3 a0_4)) = some r:=H
  have A4:=aMk A40
  clear A40
  by_cases c5 : t261 = true
  ·subst c5
   have H1 : (if (l0_1.length : Int) > 8 then (impl_RoleOK.j0 k true a0_0 l0_1 a0_2 a0_3 a0_4) else ((impl_Rule_58.f k l0_1).bind fun t262 => (impl_RoleOK.j0 k t262 a0_0 l0_1 a0_2 a0_3 a0_4))) = some r:=by rw [if_pos rfl] at H;exact H
   clear H
   have H:=H1
   clear H1
   by_cases c6 : (l0_1.length : Int) > 8
   ·rw [if_pos c6] at H
    have c6b0 : decide (8 < (l0_1.length : Int)) = true:=decide_eq_true c6
    have c6b1 : decide (8 < l0_1.length) = true:=decide_eq_true (by omega)
    clear c6
    (first|rw [c6b0]|(simp only [i64_w,i32_w];rw [c6b0]) | skip)
    have H':=aMk H
    clear H
    obtain ⟨hcz7_0,hcz7_1,hcz7_2,hcz7_3,hcz7_4,hfz7_0,hfz7_1,hfz7_2,hfz7_3,hfz7_4⟩:=bC5 BK260.out
    go_wp2_with (first|((with_reducible refine gate_callee (f:=57) rfl ?_);refine gLs 5 Try.func57 #[.string a0_0] ?_;(with_reducible refine (impl_shortName.calls k a0_0 true _ A4.out).mono ?_);rintro e w' ⟨rfl,⟨nd,rfl⟩⟩;refine ⟨_,rfl,?_⟩))
    go_meet
    case rel => exact ⟨_,(true),(by first | rfl|(simp;done)|(simp [*];done)|(simp [ne_nil_b];done)|(simp [ne_nil_b, *];done)),H',⟨by first | omega|exact Nat.le_refl _⟩,⟨by (with_reducible repeat (first|refine bDn ?_ _|refine bDr ?_|refine bAl ?_ _));exact BK260.out⟩,⟨by repeat (first|(with_reducible first|exact HB.out|apply bwA|apply bwN|apply bw1|refine below_set ?_ GE260.out)|exact HB.out)⟩⟩
   ·rw [if_neg c6] at H
    have c6b0 : decide (8 < (l0_1.length : Int)) = false:=decide_eq_false c6
    have c6b1 : decide (8 < l0_1.length) = false:=decide_eq_false (by omega)
    clear c6
    (first|rw [c6b0]|(simp only [i64_w,i32_w];rw [c6b0]) | skip)
    replace H:=Option.bind_eq_some_iff.mp H
    obtain ⟨t262,A80,H⟩:=H
    replace H : (impl_RoleOK.j0 k t262 a0_0 l0_1 a0_2 a0_3 a0_4) = some r:=H
    have A8:=aMk A80
    clear A80
    have H':=aMk H
    clear H
    obtain ⟨hcz9_0,hcz9_1,hcz9_2,hcz9_3,hcz9_4,hfz9_0,hfz9_1,hfz9_2,hfz9_3,hfz9_4⟩:=bC5 BK260.out
    go_wp2_with (first|((with_reducible refine gate_callee (f:=57) rfl ?_);refine gLs 5 Try.func57 #[.string a0_0] ?_;(with_reducible refine (impl_shortName.calls k a0_0 true _ A4.out).mono ?_);rintro e w' ⟨rfl,⟨nd,rfl⟩⟩;refine ⟨_,rfl,?_⟩)|(go_at_call 58;(with_reducible refine (impl_Rule_58.calls k _ _ l0_1 t262 _ ?side1 ?side2 A8.out).mono ?_);(case side1 => repeat (first|exact (Kd.C_below HR0_1.out (by repeat (first|(with_reducible first|exact HB.out|apply bwA|apply bwN|apply bw1|refine below_set ?_ GE260.out)|exact HB.out)))|(with_reducible refine Kd.C_alloc ?_ _)|(with_reducible refine Kd.C_drewN ?_ _)|(with_reducible refine Kd.C_drew ?_)));(case side2 => exact HC0_1.out);rintro e w10 ⟨rfl,hb⟩;have n0_:=aMk (bkB BK260.out hb);have n1_:=aMk (below_step (by repeat (first|(with_reducible first|exact HB.out|apply bwA|apply bwN|apply bw1|refine below_set ?_ GE260.out)|exact HB.out)) hb);clear BK260;clear HB;have BK260:=n0_;have HB:=n1_;clear n0_ n1_;(try clear hb);(try clear hb2);(try clear hk);(try clear hi)))
    go_meet
    case rel => exact ⟨_,(t262),(by first | rfl|(simp;done)|(simp [*];done)|(simp [ne_nil_b];done)|(simp [ne_nil_b, *];done)),H',⟨by first | omega|exact Nat.le_refl _⟩,⟨by (with_reducible repeat (first|refine bDn ?_ _|refine bDr ?_|refine bAl ?_ _));exact BK260.out⟩,⟨by repeat (first|(with_reducible first|exact HB.out|apply bwA|apply bwN|apply bw1|refine below_set ?_ GE260.out)|exact HB.out)⟩⟩
  ·replace c5:=Bool.eq_false_iff.mpr c5
   subst c5
   have H1 : (impl_RoleOK.j0 k true a0_0 l0_1 a0_2 a0_3 a0_4) = some r:=by rw [if_neg (show ¬ (false = true) by decide)] at H;exact H
   clear H
   have H:=H1
   clear H1
   have H':=aMk H
   clear H
   obtain ⟨hcz11_0,hcz11_1,hcz11_2,hcz11_3,hcz11_4,hfz11_0,hfz11_1,hfz11_2,hfz11_3,hfz11_4⟩:=bC5 BK260.out
   go_wp2_with (first|((with_reducible refine gate_callee (f:=57) rfl ?_);refine gLs 5 Try.func57 #[.string a0_0] ?_;(with_reducible refine (impl_shortName.calls k a0_0 false _ A4.out).mono ?_);rintro e w' ⟨rfl,⟨nd,rfl⟩⟩;refine ⟨_,rfl,?_⟩))
   go_meet
   case rel => exact ⟨_,(true),(by first | rfl|(simp;done)|(simp [*];done)|(simp [ne_nil_b];done)|(simp [ne_nil_b, *];done)),H',⟨by first | omega|exact Nat.le_refl _⟩,⟨by (with_reducible repeat (first|refine bDn ?_ _|refine bDr ?_|refine bAl ?_ _));exact BK260.out⟩,⟨by repeat (first|(with_reducible first|exact HB.out|apply bwA|apply bwN|apply bw1|refine below_set ?_ GE260.out)|exact HB.out)⟩⟩
 case rest =>
  clear HC2
  try clear c2
  try clear p2
  try clear c5
  try clear c6
  try clear c6b0
  try clear c6b1
  try clear hcz11_0
  try clear hcz11_1
  try clear hcz11_2
  try clear hcz11_3
  try clear hcz11_4
  try clear hcz7_0
  try clear hcz7_1
  try clear hcz7_2
  try clear hcz7_3
  try clear hcz7_4
  try clear hcz9_0
  try clear hcz9_1
  try clear hcz9_2
  try clear hcz9_3
  try clear hcz9_4
  try clear hfz11_0
  try clear hfz11_1
  try clear hfz11_2
  try clear hfz11_3
  try clear hfz11_4
  try clear hfz7_0
  try clear hfz7_1
  try clear hfz7_2
  try clear hfz7_3
  try clear hfz7_4
  try clear hfz9_0
  try clear hfz9_1
  try clear hfz9_2
  try clear hfz9_3
  try clear hfz9_4
  obtain ⟨kq,x17_1,rfl,HA,HJ1,BK260,HB⟩:=hcut
  cases kq with
  | zero => exact absurd HA.out (by simp [impl_RoleOK.j0])
  | succ kj1 =>
   have H:=HA.out
   clear HA
   simp only [impl_RoleOK.j0] at H
   by_cases c12 : x17_1 = true
   ·subst c12
    have H1 : (some false) = some r:=by rw [if_pos rfl] at H;exact H
    clear H
    have H:=H1
    clear H1
    obtain rfl:=Option.some.inj H
    go_wp2
    go_ret
    exact ⟨eRf,by repeat (first|(with_reducible first|exact HB.out|apply bwA|apply bwN|apply bw1|refine below_set ?_ GE260.out)|exact HB.out)⟩
   ·replace c12:=Bool.eq_false_iff.mpr c12
    subst c12
    have H1 : ((impl_within.f a0_2 1 1000000).bind fun t263 => (if t263 = true then ((impl_within.f a0_3 1 1000).bind fun t264 => (if t264 = true then ((impl_within.f a0_4 1 1000).bind fun t265 => (some t265)) else (some false))) else (some false))) = some r:=by rw [if_neg (show ¬ (false = true) by decide)] at H;exact H
    clear H
    have H:=H1
    clear H1
    replace H:=Option.bind_eq_some_iff.mp H
    obtain ⟨t263,A130,H⟩:=H
    replace H : (if t263 = true then ((impl_within.f a0_3 1 1000).bind fun t264 => (if t264 = true then ((impl_within.f a0_4 1 1000).bind fun t265 => (some t265)) else (some false))) else (some false)) = some r:=H
    have A13:=aMk A130
    clear A130
    by_cases c14 : t263 = true
    ·subst c14
     have H1 : ((impl_within.f a0_3 1 1000).bind fun t264 => (if t264 = true then ((impl_within.f a0_4 1 1000).bind fun t265 => (some t265)) else (some false))) = some r:=by rw [if_pos rfl] at H;exact H
     clear H
     have H:=H1
     clear H1
     replace H:=Option.bind_eq_some_iff.mp H
     obtain ⟨t264,A150,H⟩:=H
     replace H : (if t264 = true then ((impl_within.f a0_4 1 1000).bind fun t265 => (some t265)) else (some false)) = some r:=H
     have A15:=aMk A150
     clear A150
     by_cases c16 : t264 = true
     ·subst c16
      have H1 : ((impl_within.f a0_4 1 1000).bind fun t265 => (some t265)) = some r:=by rw [if_pos rfl] at H;exact H
      clear H
      have H:=H1
      clear H1
      replace H:=Option.bind_eq_some_iff.mp H
      obtain ⟨t265,A170,H⟩:=H
      replace H : (some t265) = some r:=H
      have A17:=aMk A170
      clear A170
      obtain rfl:=Option.some.inj H
      obtain ⟨hcz18_0,hcz18_1,hcz18_2,hcz18_3,hcz18_4,hfz18_0,hfz18_1,hfz18_2,hfz18_3,hfz18_4⟩:=bC5 BK260.out
      go_wp2_with (first|((with_reducible refine gate_callee (f:=60) rfl ?_);refine gLs 20 Try.func60 #[.int .i64 a0_2,.int .i64 1,.int .i64 1000000] ?_;(with_reducible refine (impl_within.calls a0_2 1 1000000 true _ A13.out).mono ?_);rintro e w' ⟨rfl,⟨nd,rfl⟩⟩;refine ⟨_,rfl,?_⟩)|(go_at_call 60;(with_reducible refine (impl_within.calls a0_3 1 1000 true _ A15.out).mono ?_);rintro e w' ⟨rfl,⟨nd,rfl⟩⟩)|(go_at_call 60;(with_reducible refine (impl_within.calls a0_4 1 1000 t265 _ A17.out).mono ?_);rintro e w' ⟨rfl,⟨nd,rfl⟩⟩))
      go_ret
      exact ⟨eRf,by repeat (first|(with_reducible first|exact HB.out|apply bwA|apply bwN|apply bw1|refine below_set ?_ GE260.out)|exact HB.out)⟩
     ·replace c16:=Bool.eq_false_iff.mpr c16
      subst c16
      have H1 : (some false) = some r:=by rw [if_neg (show ¬ (false = true) by decide)] at H;exact H
      clear H
      have H:=H1
      clear H1
      obtain rfl:=Option.some.inj H
      obtain ⟨hcz19_0,hcz19_1,hcz19_2,hcz19_3,hcz19_4,hfz19_0,hfz19_1,hfz19_2,hfz19_3,hfz19_4⟩:=bC5 BK260.out
      go_wp2_with (first|((with_reducible refine gate_callee (f:=60) rfl ?_);refine gLs 20 Try.func60 #[.int .i64 a0_2,.int .i64 1,.int .i64 1000000] ?_;(with_reducible refine (impl_within.calls a0_2 1 1000000 true _ A13.out).mono ?_);rintro e w' ⟨rfl,⟨nd,rfl⟩⟩;refine ⟨_,rfl,?_⟩)|(go_at_call 60;(with_reducible refine (impl_within.calls a0_3 1 1000 false _ A15.out).mono ?_);rintro e w' ⟨rfl,⟨nd,rfl⟩⟩))
      go_ret
      exact ⟨eRf,by repeat (first|(with_reducible first|exact HB.out|apply bwA|apply bwN|apply bw1|refine below_set ?_ GE260.out)|exact HB.out)⟩
    ·replace c14:=Bool.eq_false_iff.mpr c14
     subst c14
     have H1 : (some false) = some r:=by rw [if_neg (show ¬ (false = true) by decide)] at H;exact H
     clear H
     have H:=H1
     clear H1
     obtain rfl:=Option.some.inj H
     obtain ⟨hcz20_0,hcz20_1,hcz20_2,hcz20_3,hcz20_4,hfz20_0,hfz20_1,hfz20_2,hfz20_3,hfz20_4⟩:=bC5 BK260.out
     go_wp2_with (first|((with_reducible refine gate_callee (f:=60) rfl ?_);refine gLs 20 Try.func60 #[.int .i64 a0_2,.int .i64 1,.int .i64 1000000] ?_;(with_reducible refine (impl_within.calls a0_2 1 1000000 false _ A13.out).mono ?_);rintro e w' ⟨rfl,⟨nd,rfl⟩⟩;refine ⟨_,rfl,?_⟩))
     go_ret
     exact ⟨eRf,by repeat (first|(with_reducible first|exact HB.out|apply bwA|apply bwN|apply bw1|refine below_set ?_ GE260.out)|exact HB.out)⟩
end
section
/-! ### impl_Net_has: function 43 -/
def impl_Net_has.f (a0_0 : Int) (a0_1 : Int) (a1 : Int) : Option (Bool):=if 0 ≤ (wrap64 (32 - a0_1)) then (some ((shr .i64 a0_0 (wrap64 (32 - a0_1))) == (shr .i64 a1 (wrap64 (32 - a0_1))))) else (none)
set_option maxHeartbeats 8000000 in
set_option maxRecDepth 100000 in
theorem impl_Net_has.calls (a0_0 : Int) (a0_1 : Int) (a1 : Int) (r : Bool) (w : World) (h : impl_Net_has.f a0_0 a0_1 a1 = some r) :
  Calls Try.prog 43 #[.agg #[.int .i64 a0_0,.int .i64 a0_1],.int .i64 a1] w fun e w' => e = .returned (.bool r) ∧ Below w.heap.size w w':=by
 have hu26:=Try.underlying26
 have HB:=aMk (Below.refl w.heap.size w)
 have H : (if 0 ≤ (wrap64 (32 - a0_1)) then (some ((shr .i64 a0_0 (wrap64 (32 - a0_1))) == (shr .i64 a1 (wrap64 (32 - a0_1))))) else (none)) = some r:=h
 clear h
 obtain ⟨ji3,hji3⟩ : ∃ j_ : Int,(wrap64 (32 - a0_1)) = j_:=⟨_,rfl⟩
 replace H : (if 0 ≤ (ji3) then (some ((shr .i64 a0_0 (ji3)) == (shr .i64 a1 (ji3)))) else (none)) = some r:=by first|(rw [hji3] at H;exact H)|(simp only [hji3] at H ⊢;exact H)
 have hji3w : (IntKind.i64.wrap (32 - a0_1)) = ji3:=(i64_w _).trans hji3
 by_cases c4 : 0 ≤ (ji3)
 ·rw [if_pos c4] at H
  have c4b0:=eq_true c4
  have c4b1 : decide (0 ≤ (ji3)) = true:=decide_eq_true c4
  clear c4
  obtain ⟨ji5,hji5⟩ : ∃ j_ : Int,(shr .i64 a0_0 (ji3)) = j_:=⟨_,rfl⟩
  replace H : (some ((ji5) == (shr .i64 a1 (ji3)))) = some r:=by first|(rw [hji5] at H;exact H)|(simp only [hji5] at H ⊢;exact H)
  have hji5_ : (a0_0 / 2 ^ min (ji3).toNat 64) = ji5:=hji5
  have hji5z : (ji3) ≤ 64 → (a0_0 / 2 ^ (ji3).toNat) = ji5:=shr_small hji5
  have c6b0:=eq_true (of_decide_eq_true (by first|(with_reducible assumption) | assumption) : 0 ≤ (ji3))
  obtain ⟨ji7,hji7⟩ : ∃ j_ : Int,(shr .i64 a1 (ji3)) = j_:=⟨_,rfl⟩
  replace H : (some ((ji5) == (ji7))) = some r:=by first|(rw [hji7] at H;exact H)|(simp only [hji7] at H ⊢;exact H)
  have hji7_ : (a1 / 2 ^ min (ji3).toNat 64) = ji7:=hji7
  have hji7z : (ji3) ≤ 64 → (a1 / 2 ^ (ji3).toNat) = ji7:=shr_small hji7
  obtain rfl:=Option.some.inj H
  go_enter Try.func43,Try.ntmps43
  go_wp2_with (first|((with_reducible refine gate_dst (N:=2) rfl ?_);refine bxE (N:=2) (cs:=#[.int .i64 a0_0,.int .i64 a0_1]) (t:=26) ?_;intro gb117 hg w8 hbox hb;have n0_:=aMk (bSt hb);have n1_:=aMk (hbox);have n2_:=aMk ((by rw [hg];exact bSz : w.heap.size ≤ gb117));have n3_:=aMk ((by rw [hg];exact bSz : w.heap.size ≤ gb117));clear HB;have HB:=n0_;have BK117:=n1_;have GW117:=n2_;have GE117:=n3_;clear n0_ n1_ n2_ n3_;clear hb hbox hg;obtain ⟨hcz9_0,hcz9_1,hfz9_0,hfz9_1⟩:=bC2 BK117.out))
  repeat (go_quiet (first|((with_reducible refine gate_dst (N:=2) rfl ?_);refine bxE (N:=2) (cs:=#[.int .i64 a0_0,.int .i64 a0_1]) (t:=26) ?_;intro gb117 hg w8 hbox hb;have n0_:=aMk (bSt hb);have n1_:=aMk (hbox);have n2_:=aMk ((by rw [hg];exact bSz : w.heap.size ≤ gb117));have n3_:=aMk ((by rw [hg];exact bSz : w.heap.size ≤ gb117));clear HB;have HB:=n0_;have BK117:=n1_;have GW117:=n2_;have GE117:=n3_;clear n0_ n1_ n2_ n3_;clear hb hbox hg;obtain ⟨hcz9_0,hcz9_1,hfz9_0,hfz9_1⟩:=bC2 BK117.out));try go_wp2_with (first|((with_reducible refine gate_dst (N:=2) rfl ?_);refine bxE (N:=2) (cs:=#[.int .i64 a0_0,.int .i64 a0_1]) (t:=26) ?_;intro gb117 hg w8 hbox hb;have n0_:=aMk (bSt hb);have n1_:=aMk (hbox);have n2_:=aMk ((by rw [hg];exact bSz : w.heap.size ≤ gb117));have n3_:=aMk ((by rw [hg];exact bSz : w.heap.size ≤ gb117));clear HB;have HB:=n0_;have BK117:=n1_;have GW117:=n2_;have GE117:=n3_;clear n0_ n1_ n2_ n3_;clear hb hbox hg;obtain ⟨hcz9_0,hcz9_1,hfz9_0,hfz9_1⟩:=bC2 BK117.out)))
  go_ret
  exact ⟨by first | rfl|(simp [errW_none,errW_some] <;> rfl)|(simp only [← hji3,← hji5,← hji7];first | rfl|(simp [errW_none,errW_some] <;> rfl))|(simp [*,errW_none,errW_some] <;> rfl),by repeat (first|(with_reducible first|exact HB.out|apply bwA|apply bwN|apply bw1|refine below_set ?_ GE117.out)|exact HB.out)⟩
 ·rw [if_neg c4] at H
  exact absurd H (by simp)
end
section
/-! ### impl_macOK: function 73 -/
def impl_macOK.f (a0 : ByteArray) : Option (Bool):=some ((a0.size : Int) == 6)
set_option maxHeartbeats 8000000 in
set_option maxRecDepth 100000 in
theorem impl_macOK.calls (a0 : ByteArray) (r : Bool) (w : World) (h : impl_macOK.f a0 = some r) :
  Calls Try.prog 73 #[.string a0] w fun e w' => e = .returned (.bool r) ∧ Drawn0 w w':=by
 have H : (some ((a0.size : Int) == 6)) = some r:=h
 clear h
 obtain rfl:=Option.some.inj H
 go_enter Try.func73,Try.ntmps73
 go_wp2
 go_ret
 exact ⟨by first | rfl|(simp;done)|(simp [*];done)|(simp [ne_nil_b];done)|(simp [ne_nil_b, *];done),by repeat (first|exact Drawn0.refl _|apply Drawn0.step)⟩
end
section
/-! ### impl_ConfigOK_1: function 75 -/
def impl_ConfigOK_1.f (a0_0 : Int) (a0_1 : Int) (a0_2 : Int) (a0_3 : Int) : Option (Bool):=(impl_NetOK.f a0_0 a0_1).bind fun t469 => (if t469 = true then ((impl_rangeOK.f a0_2 a0_3).bind fun t470 => (some (!t470))) else (some true))
set_option maxHeartbeats 8000000 in
set_option maxRecDepth 100000 in
theorem impl_ConfigOK_1.calls (a0_0 : Int) (a0_1 : Int) (a0_2 : Int) (a0_3 : Int) (r : Bool) (w : World) (h : impl_ConfigOK_1.f a0_0 a0_1 a0_2 a0_3 = some r) :
  Calls Try.prog 75 #[.agg #[.int .i64 a0_0,.int .i64 a0_1,.int .i64 a0_2,.int .i64 a0_3]] w fun e w' => e = .returned (.bool r) ∧ Below w.heap.size w w':=by
 have hu100:=Try.underlying100
 have hu26:=Try.underlying26
 have hu34:=Try.underlying34
 have HB:=aMk (Below.refl w.heap.size w)
 have H : ((impl_NetOK.f a0_0 a0_1).bind fun t469 => (if t469 = true then ((impl_rangeOK.f a0_2 a0_3).bind fun t470 => (some (!t470))) else (some true))) = some r:=h
 clear h
 replace H:=Option.bind_eq_some_iff.mp H
 obtain ⟨t469,A20,H⟩:=H
 replace H : (if t469 = true then ((impl_rangeOK.f a0_2 a0_3).bind fun t470 => (some (!t470))) else (some true)) = some r:=H
 have A2:=aMk A20
 clear A20
 by_cases c3 : t469 = true
 ·subst c3
  have H1 : ((impl_rangeOK.f a0_2 a0_3).bind fun t470 => (some (!t470))) = some r:=by rw [if_pos rfl] at H;exact H
  clear H
  have H:=H1
  clear H1
  replace H:=Option.bind_eq_some_iff.mp H
  obtain ⟨t470,A40,H⟩:=H
  replace H : (some (!t470)) = some r:=H
  have A4:=aMk A40
  clear A40
  obtain rfl:=Option.some.inj H
  go_enter Try.func75,Try.ntmps75
  go_wp2_with (first|((with_reducible refine gate_dst (N:=1) rfl ?_);refine bxE (N:=1) (cs:=#[.int .i64 a0_0,.int .i64 a0_1,.int .i64 a0_2,.int .i64 a0_3]) (t:=100) ?_;intro gb468 hg w5 hbox hb;have n0_:=aMk (bSt hb);have n1_:=aMk (hbox);have n2_:=aMk ((by rw [hg];exact bSz : w.heap.size ≤ gb468));have n3_:=aMk ((by rw [hg];exact bSz : w.heap.size ≤ gb468));clear HB;have HB:=n0_;have BK468:=n1_;have GW468:=n2_;have GE468:=n3_;clear n0_ n1_ n2_ n3_;clear hb hbox hg;obtain ⟨hcz6_0,hcz6_1,hcz6_2,hcz6_3,hfz6_0,hfz6_1,hfz6_2,hfz6_3⟩:=bC4 BK468.out)|((with_reducible refine gate_callee (f:=41) rfl ?_);refine gLs 5 Try.func41 #[.agg #[.int .i64 a0_0,.int .i64 a0_1]] ?_;(with_reducible refine (impl_NetOK.calls a0_0 a0_1 true _ A2.out).mono ?_);rintro e w7 ⟨rfl,hb⟩;refine ⟨_,rfl,?_⟩;have n0_:=aMk (bkB BK468.out hb);have n1_:=aMk (below_step (by repeat (first|(with_reducible first|exact HB.out|apply bwA|apply bwN|apply bw1|refine below_set ?_ GE468.out)|exact HB.out)) hb);clear BK468;clear HB;have BK468:=n0_;have HB:=n1_;clear n0_ n1_;(try clear hb);(try clear hb2);(try clear hk);(try clear hi);obtain ⟨hcz8_0,hcz8_1,hcz8_2,hcz8_3,hfz8_0,hfz8_1,hfz8_2,hfz8_3⟩:=bC4 BK468.out)|(go_at_call 47;(with_reducible refine (impl_rangeOK.calls a0_2 a0_3 t470 _ A4.out).mono ?_);rintro e w9 ⟨rfl,hb⟩;have n0_:=aMk (bkB BK468.out hb);have n1_:=aMk (below_step (by repeat (first|(with_reducible first|exact HB.out|apply bwA|apply bwN|apply bw1|refine below_set ?_ GE468.out)|exact HB.out)) hb);clear BK468;clear HB;have BK468:=n0_;have HB:=n1_;clear n0_ n1_;(try clear hb);(try clear hb2);(try clear hk);(try clear hi)))
  go_ret
  exact ⟨eRf,by repeat (first|(with_reducible first|exact HB.out|apply bwA|apply bwN|apply bw1|refine below_set ?_ GE468.out)|exact HB.out)⟩
 ·replace c3:=Bool.eq_false_iff.mpr c3
  subst c3
  have H1 : (some true) = some r:=by rw [if_neg (show ¬ (false = true) by decide)] at H;exact H
  clear H
  have H:=H1
  clear H1
  obtain rfl:=Option.some.inj H
  go_enter Try.func75,Try.ntmps75
  go_wp2_with (first|((with_reducible refine gate_dst (N:=1) rfl ?_);refine bxE (N:=1) (cs:=#[.int .i64 a0_0,.int .i64 a0_1,.int .i64 a0_2,.int .i64 a0_3]) (t:=100) ?_;intro gb468 hg w10 hbox hb;have n0_:=aMk (bSt hb);have n1_:=aMk (hbox);have n2_:=aMk ((by rw [hg];exact bSz : w.heap.size ≤ gb468));have n3_:=aMk ((by rw [hg];exact bSz : w.heap.size ≤ gb468));clear HB;have HB:=n0_;have BK468:=n1_;have GW468:=n2_;have GE468:=n3_;clear n0_ n1_ n2_ n3_;clear hb hbox hg;obtain ⟨hcz11_0,hcz11_1,hcz11_2,hcz11_3,hfz11_0,hfz11_1,hfz11_2,hfz11_3⟩:=bC4 BK468.out)|((with_reducible refine gate_callee (f:=41) rfl ?_);refine gLs 5 Try.func41 #[.agg #[.int .i64 a0_0,.int .i64 a0_1]] ?_;(with_reducible refine (impl_NetOK.calls a0_0 a0_1 false _ A2.out).mono ?_);rintro e w12 ⟨rfl,hb⟩;refine ⟨_,rfl,?_⟩;have n0_:=aMk (bkB BK468.out hb);have n1_:=aMk (below_step (by repeat (first|(with_reducible first|exact HB.out|apply bwA|apply bwN|apply bw1|refine below_set ?_ GE468.out)|exact HB.out)) hb);clear BK468;clear HB;have BK468:=n0_;have HB:=n1_;clear n0_ n1_;(try clear hb);(try clear hb2);(try clear hk);(try clear hi)))
  go_ret
  exact ⟨eRf,by repeat (first|(with_reducible first|exact HB.out|apply bwA|apply bwN|apply bw1|refine below_set ?_ GE468.out)|exact HB.out)⟩
end
section
/-! ### impl_Place_91: function 91 -/
def idxP100 (p : S100 → Option Bool) (l : List S100) : Nat → Int → Option Int
 | 0,_ => none
 | k + 1,i => if i < (l.length : Int) then (if 0 ≤ i then ((p (rd_T100 l i)).bind fun t => (if t = true then some i else idxP100 p l k (wrap64 (i + 1)))) else none) else some (-1)
theorem idxP100_mono (p q : S100 → Option Bool) (hpq : ∀ x,LeO (p x) (q x)) (l : List S100) : ∀ k i,LeO (idxP100 p l k i) (idxP100 q l (k + 1) i)
 | 0,i => fun r h => by simp [idxP100] at h
 | k + 1,i => by
  have ih:=idxP100_mono p q hpq l k
  rw [idxP100,idxP100]
  refine LeO.ite (LeO.ite (LeO.bind (hpq _) (fun t => LeO.ite (LeO.refl _) (ih _))) (LeO.refl _)) (LeO.refl _)
set_option maxHeartbeats 8000000 in
set_option maxRecDepth 100000 in
theorem indexFunc100 (g : FuncId) (lb : Array Value) (eg : ∀ args w,(callFunc g args).run Try.prog w = .ok (.enter g args) w) (p : S100 → Option Bool) (k : Nat) (A0 : Option Addr) (c0 : Nat) (l0 : List S100) (r : Int) (w : World)
  (hp : ∀ (W : World) (x : S100) (b : Bool),Below w.heap.size w W → p x = some b → Calls Try.prog g (#[.agg #[.int .i64 x.f0.f0,.int .i64 x.f0.f1,.int .i64 x.f1.f0,.int .i64 x.f1.f1]] ++ lb) W fun e w' => e = .returned (.bool b) ∧ Below w.heap.size w w')
  (hr0 : Kd.C k100 w A0 l0.length l0) (h : idxP100 p l0 k 0 = some r) :
  Calls Try.prog 91 #[.slice A0 l0.length c0,.func (.func g) #[] lb] w fun e w' => e = .returned (.int .i64 r) ∧ Below w.heap.size w w':=by
 have hu100:=Try.underlying100
 have HR0:=aMk hr0
 have HP:=aMk hp
 clear hr0 hp
 have HB:=aMk (Below.refl w.heap.size w)
 have H':=aMk h
 clear h
 go_enter Try.func91,Try.ntmps91
 go_wp2
 go_loopg [5,8] k (fun kq _ v8 w' => ∃ (x : Int),v8 = .int .i64 x ∧ Aside0 (idxP100 p l0 kq x = some r) ∧ Aside0 (kq ≤ k) ∧ Aside0 (Below w.heap.size w w'))
 case atStart => exact ⟨0,rfl,H',⟨Nat.le_refl _⟩,HB⟩
 case round =>
  clear H'
  obtain ⟨x,rfl,HA,HK1,HB⟩:=hrel
  cases gk with
  | zero => exact absurd HA.out (by simp [idxP100])
  | succ k1 =>
   have H:=HA.out
   clear HA
   simp only [idxP100] at H
   by_cases c2 : x < (l0.length : Int)
   ·rw [if_pos c2] at H
    have c2b0 : decide (x < (l0.length : Int)) = true:=decide_eq_true c2
    clear c2
    by_cases c3 : 0 ≤ x
    ·rw [if_pos c3] at H
     have c3b0 : decide (0 ≤ x) = true:=decide_eq_true c3
     clear c3
     replace H:=Option.bind_eq_some_iff.mp H
     obtain ⟨t,A40,H⟩:=H
     have p179 : 0 ≤ (x : Int):=of_decide_eq_true (by first|(with_reducible assumption) | assumption)
     have q179 : x < (l0.length : Int):=of_decide_eq_true (by first|(with_reducible assumption) | assumption)
     obtain ⟨ad179,e179,hx0,hx1,hx2,hx3⟩:=at_T100 HR0.out x p179 q179
     cases e179
     replace hx0:=bXc HB.out hx0
     replace hx1:=bXc HB.out hx1
     replace hx2:=bXc HB.out hx2
     replace hx3:=bXc HB.out hx3
     replace p179:=eq_true p179
     replace q179:=eq_true q179
     have HC:=aMk (HP.out _ _ _ HB.out A40)
     clear A40
     cases t
     ·have H1 : idxP100 p l0 k1 (wrap64 (x + 1)) = some r:=by simpa using H
      clear H
      have H':=aMk H1
      clear H1
      go_wp2_with (refine HC.out.mono ?_;rintro e w6 ⟨rfl,hb⟩;clear HB;have HB:=aMk hb;clear hb)
      go_roundg k1
      case measure => have:=HK1.out;omega
      case rel => exact ⟨_,rfl,H',⟨by have:=HK1.out;omega⟩,HB⟩
     ·obtain rfl : x = r:=by simpa using H
      clear H
      go_wp2_with (refine HC.out.mono ?_;rintro e w6 ⟨rfl,hb⟩;clear HB;have HB:=aMk hb;clear hb)
      go_ret
      exact ⟨rfl,HB.out⟩
    ·rw [if_neg c3] at H
     exact absurd H (by simp)
   ·rw [if_neg c2] at H
    have c2b0 : decide (x < (l0.length : Int)) = false:=decide_eq_false c2
    clear c2
    obtain rfl:=Option.some.inj H
    go_wp2
    go_ret
    exact ⟨eRf,HB.out⟩
end
section
/-! ### impl_Place_74: function 74 -/
set_option maxHeartbeats 8000000 in
set_option maxRecDepth 100000 in
theorem containsFunc100 (g : FuncId) (lb : Array Value) (eg : ∀ args w,(callFunc g args).run Try.prog w = .ok (.enter g args) w) (p : S100 → Option Bool) (k : Nat) (A0 : Option Addr) (c0 : Nat) (l0 : List S100) (r : Int) (w : World)
  (hp : ∀ (W : World) (x : S100) (b : Bool),Below w.heap.size w W → p x = some b → Calls Try.prog g (#[.agg #[.int .i64 x.f0.f0,.int .i64 x.f0.f1,.int .i64 x.f1.f0,.int .i64 x.f1.f1]] ++ lb) W fun e w' => e = .returned (.bool b) ∧ Below w.heap.size w w')
  (hr0 : Kd.C k100 w A0 l0.length l0) (h : idxP100 p l0 k 0 = some r) :
  Calls Try.prog 74 #[.slice A0 l0.length c0,.func (.func g) #[] lb] w fun e w' => e = .returned (.bool (decide (0 ≤ r))) ∧ Below w.heap.size w w':=by
 have HC:=indexFunc100 g lb eg p k A0 c0 l0 r w hp hr0 h
 clear hp hr0 h
 have ei:=enters_ Try.func91 (by kernel_rfl) rfl
 go_enter Try.func74,Try.ntmps74
 go_wp2_with (refine HC.mono ?_;rintro e w6 ⟨rfl,hb⟩)
 go_ret
 exact ⟨eRf,hb⟩
def impl_Place_74.f (k : Nat) (l0 : List S100) : Option Bool:=(idxP100 (fun x => impl_ConfigOK_1.f x.f0.f0 x.f0.f1 x.f1.f0 x.f1.f1) l0 k 0).bind fun t => some (decide (0 ≤ t))
theorem impl_Place_74.mono : ∀ l0 k,LeO (impl_Place_74.f k l0) (impl_Place_74.f (k + 1) l0):=fun l0 k => LeO.bind (idxP100_mono _ _ (fun x => by exact LeO.refl _) l0 k 0) (fun _ => LeO.refl _)
theorem impl_Place_74.calls (k : Nat) (A0 : Option Addr) (c0 : Nat) (l0 : List S100) (r : Bool) (w : World) (hr0 : Kd.C k100 w A0 l0.length l0) (hc0 : l0.length ≤ c0) (h : impl_Place_74.f k l0 = some r) :
  Calls Try.prog 74 #[.slice A0 l0.length c0,.func (.func 75) #[] #[]] w fun e w' => e = .returned (.bool r) ∧ Below w.heap.size w w':=by
 obtain ⟨t,h1,h2⟩:=Option.bind_eq_some_iff.mp h
 obtain rfl:=Option.some.inj h2
 exact containsFunc100 75 #[] (enters_ Try.func75 (by kernel_rfl) rfl) _ k A0 c0 l0 t w (fun W x b hb hx => (impl_ConfigOK_1.calls x.f0.f0 x.f0.f1 x.f1.f0 x.f1.f1 b W hx).mono fun e w' h => ⟨h.1,below_step hb h.2⟩) hr0 h1
end
section
attribute [local go_sem] str_geq str_lss
/-! ### impl_ConfigOK: function 34 -/
mutual
def impl_ConfigOK.j0 : Nat → Bool → Int → Int → Int → ByteArray → ByteArray → Int → List (S100) → List (S54) → Option (Bool)
 | 0,_,_,_,_,_,_,_,_,_ => none
 | k + 1,x3,x472000,x472001,x472002,x472003,x472004,x472005,x472006,x472007 => if x3 = true then ((impl_macOK.f x472003).bind fun t477 => (if t477 = true then ((impl_macOK.f x472004).bind fun t478 => (if t478 = true then (if (x472006.length : Int) > 8 then (impl_ConfigOK.j1 k true x472000 x472001 x472002 x472003 x472004 x472005 x472006 x472007) else ((impl_within.f (x472007.length : Int) 1 4).bind fun t479 => (impl_ConfigOK.j1 k (!t479) x472000 x472001 x472002 x472003 x472004 x472005 x472006 x472007))) else (impl_ConfigOK.j1 k true x472000 x472001 x472002 x472003 x472004 x472005 x472006 x472007))) else (impl_ConfigOK.j1 k true x472000 x472001 x472002 x472003 x472004 x472005 x472006 x472007))) else (impl_ConfigOK.j1 k true x472000 x472001 x472002 x472003 x472004 x472005 x472006 x472007)
def impl_ConfigOK.j1 : Nat → Bool → Int → Int → Int → ByteArray → ByteArray → Int → List (S100) → List (S54) → Option (Bool)
 | 0,_,_,_,_,_,_,_,_,_ => none
 | k + 1,x60,x472000,x472001,x472002,x472003,x472004,x472005,x472006,x472007 => if x60 = true then (some false) else ((impl_Place_74.f k x472006).bind fun t480 => (if t480 = true then (some false) else (impl_ConfigOK.l0 k x472007 (x472007.length : Int) 0 x472000 x472001 x472002 x472003 x472004 x472005 x472006 x472007)))
def impl_ConfigOK.l0 : Nat → List (S54) → Int → Int → Int → Int → Int → ByteArray → ByteArray → Int → List (S100) → List (S54) → Option (Bool)
 | 0,_,_,_,_,_,_,_,_,_,_,_ => none
 | k + 1,x65,x66,x67,x472000,x472001,x472002,x472003,x472004,x472005,x472006,x472007 => if x67 < x66 then (if 0 ≤ x67 then (if x67 < (x65.length : Int) then ((impl_RoleOK.f k ((rd_T54 x65 x67).f0) ((rd_T54 x65 x67).f1) ((rd_T54 x65 x67).f2) ((rd_T54 x65 x67).f3) ((rd_T54 x65 x67).f4)).bind fun t483 => (if t483 = true then (if x67 > 0 then (if 0 ≤ (wrap64 (x67 - 1)) then (if (wrap64 (x67 - 1)) < (x472007.length : Int) then (if ((Op.bytesLess (((rd_T54 x472007 (wrap64 (x67 - 1))).f0).toList) (((rd_T54 x65 x67).f0).toList)) = true) then (impl_ConfigOK.l0 k x65 x66 (wrap64 (x67 + 1)) x472000 x472001 x472002 x472003 x472004 x472005 x472006 x472007) else (some false)) else (none)) else (none)) else (impl_ConfigOK.l0 k x65 x66 (wrap64 (x67 + 1)) x472000 x472001 x472002 x472003 x472004 x472005 x472006 x472007)) else (some false))) else (none)) else (none)) else (some true)
end
def impl_ConfigOK.f (k : Nat) (a0_0 : Int) (a0_1 : Int) (a0_2 : Int) (a0_3 : ByteArray) (a0_4 : ByteArray) (a0_5 : Int) (l0_6 : List (S100)) (l0_7 : List (S54)) : Option (Bool):=(impl_NetOK.f a0_0 a0_1).bind fun t472 => (if t472 = true then ((impl_isAddress.f a0_2).bind fun t473 => (if t473 = true then ((impl_Net_has.f a0_0 a0_1 a0_2).bind fun t474 => (if t474 = true then ((impl_isAddress.f a0_5).bind fun t475 => (if t475 = true then ((impl_Net_has.f a0_0 a0_1 a0_5).bind fun t476 => (impl_ConfigOK.j0 k (!t476) a0_0 a0_1 a0_2 a0_3 a0_4 a0_5 l0_6 l0_7)) else (impl_ConfigOK.j0 k false a0_0 a0_1 a0_2 a0_3 a0_4 a0_5 l0_6 l0_7))) else (impl_ConfigOK.j0 k false a0_0 a0_1 a0_2 a0_3 a0_4 a0_5 l0_6 l0_7))) else (impl_ConfigOK.j0 k false a0_0 a0_1 a0_2 a0_3 a0_4 a0_5 l0_6 l0_7))) else (impl_ConfigOK.j0 k false a0_0 a0_1 a0_2 a0_3 a0_4 a0_5 l0_6 l0_7))
theorem impl_ConfigOK.mono_l : ∀ k,(∀ y0 y1 y2 y3 y4 y5 y6 y7 y8,LeO (impl_ConfigOK.j0 k y0 y1 y2 y3 y4 y5 y6 y7 y8) (impl_ConfigOK.j0 (k + 1) y0 y1 y2 y3 y4 y5 y6 y7 y8)) ∧ (∀ y0 y1 y2 y3 y4 y5 y6 y7 y8,LeO (impl_ConfigOK.j1 k y0 y1 y2 y3 y4 y5 y6 y7 y8) (impl_ConfigOK.j1 (k + 1) y0 y1 y2 y3 y4 y5 y6 y7 y8)) ∧ (∀ y0 y1 y2 y3 y4 y5 y6 y7 y8 y9 y10,LeO (impl_ConfigOK.l0 k y0 y1 y2 y3 y4 y5 y6 y7 y8 y9 y10) (impl_ConfigOK.l0 (k + 1) y0 y1 y2 y3 y4 y5 y6 y7 y8 y9 y10))
 | 0 => ⟨fun _ _ _ _ _ _ _ _ _ r h => by simp [impl_ConfigOK.j0] at h,fun _ _ _ _ _ _ _ _ _ r h => by simp [impl_ConfigOK.j1] at h,fun _ _ _ _ _ _ _ _ _ _ _ r h => by simp [impl_ConfigOK.l0] at h⟩
 | k + 1 => by
  obtain ⟨ih0,ih1,ih2⟩:=impl_ConfigOK.mono_l k
  refine ⟨?_,?_,?_⟩
  ·intro y0 y1 y2 y3 y4 y5 y6 y7 y8
   unfold impl_ConfigOK.j0
   repeat' first
   | (with_reducible exact ih0 _ _ _ _ _ _ _ _ _)
   | (with_reducible exact ih1 _ _ _ _ _ _ _ _ _)
   | (with_reducible exact ih2 _ _ _ _ _ _ _ _ _ _ _)
   | (with_reducible exact impl_Place_74.mono ..)
   | (with_reducible exact impl_RoleOK.mono ..)
   | (with_reducible exact LeO.refl _)
   | (with_reducible exact LeO.none _)
   | (with_reducible refine LeO.ite ?_ ?_)
   | (with_reducible refine LeO.bind ?_ (fun _ => ?_))
   | exact ih0 _ _ _ _ _ _ _ _ _
   | exact ih1 _ _ _ _ _ _ _ _ _
   | exact ih2 _ _ _ _ _ _ _ _ _ _ _
   | exact impl_Place_74.mono ..
   | exact impl_RoleOK.mono ..
   | exact LeO.none _
   | refine LeO.ite ?_ ?_
   | refine LeO.bind ?_ (fun _ => ?_)
  ·intro y0 y1 y2 y3 y4 y5 y6 y7 y8
   unfold impl_ConfigOK.j1
   repeat' first
   | (with_reducible exact ih0 _ _ _ _ _ _ _ _ _)
   | (with_reducible exact ih1 _ _ _ _ _ _ _ _ _)
   | (with_reducible exact ih2 _ _ _ _ _ _ _ _ _ _ _)
   | (with_reducible exact impl_Place_74.mono ..)
   | (with_reducible exact impl_RoleOK.mono ..)
   | (with_reducible exact LeO.refl _)
   | (with_reducible exact LeO.none _)
   | (with_reducible refine LeO.ite ?_ ?_)
   | (with_reducible refine LeO.bind ?_ (fun _ => ?_))
   | exact ih0 _ _ _ _ _ _ _ _ _
   | exact ih1 _ _ _ _ _ _ _ _ _
   | exact ih2 _ _ _ _ _ _ _ _ _ _ _
   | exact impl_Place_74.mono ..
   | exact impl_RoleOK.mono ..
   | exact LeO.none _
   | refine LeO.ite ?_ ?_
   | refine LeO.bind ?_ (fun _ => ?_)
  ·intro y0 y1 y2 y3 y4 y5 y6 y7 y8 y9 y10
   unfold impl_ConfigOK.l0
   repeat' first
   | (with_reducible exact ih0 _ _ _ _ _ _ _ _ _)
   | (with_reducible exact ih1 _ _ _ _ _ _ _ _ _)
   | (with_reducible exact ih2 _ _ _ _ _ _ _ _ _ _ _)
   | (with_reducible exact impl_Place_74.mono ..)
   | (with_reducible exact impl_RoleOK.mono ..)
   | (with_reducible exact LeO.refl _)
   | (with_reducible exact LeO.none _)
   | (with_reducible refine LeO.ite ?_ ?_)
   | (with_reducible refine LeO.bind ?_ (fun _ => ?_))
   | exact ih0 _ _ _ _ _ _ _ _ _
   | exact ih1 _ _ _ _ _ _ _ _ _
   | exact ih2 _ _ _ _ _ _ _ _ _ _ _
   | exact impl_Place_74.mono ..
   | exact impl_RoleOK.mono ..
   | exact LeO.none _
   | refine LeO.ite ?_ ?_
   | refine LeO.bind ?_ (fun _ => ?_)
theorem impl_ConfigOK.mono : ∀ a0 a1 a2 a3 a4 a5 a6 a7 k,LeO (impl_ConfigOK.f k a0 a1 a2 a3 a4 a5 a6 a7) (impl_ConfigOK.f (k + 1) a0 a1 a2 a3 a4 a5 a6 a7):=by
 intro a0 a1 a2 a3 a4 a5 a6 a7 k
 obtain ⟨ih0,ih1,ih2⟩:=impl_ConfigOK.mono_l k
 unfold impl_ConfigOK.f
 repeat' first
   | (with_reducible exact ih0 _ _ _ _ _ _ _ _ _)
   | (with_reducible exact ih1 _ _ _ _ _ _ _ _ _)
   | (with_reducible exact ih2 _ _ _ _ _ _ _ _ _ _ _)
   | (with_reducible exact impl_Place_74.mono ..)
   | (with_reducible exact impl_RoleOK.mono ..)
   | (with_reducible exact LeO.refl _)
   | (with_reducible exact LeO.none _)
   | (with_reducible refine LeO.ite ?_ ?_)
   | (with_reducible refine LeO.bind ?_ (fun _ => ?_))
   | exact ih0 _ _ _ _ _ _ _ _ _
   | exact ih1 _ _ _ _ _ _ _ _ _
   | exact ih2 _ _ _ _ _ _ _ _ _ _ _
   | exact impl_Place_74.mono ..
   | exact impl_RoleOK.mono ..
   | exact LeO.none _
   | refine LeO.ite ?_ ?_
   | refine LeO.bind ?_ (fun _ => ?_)
def impl_ConfigOK.T9 : Bool × List (List Nat × List Nat):=(true,[([],[]),([0],[0]),([1],[1]),([2,1],[2]),([3],[3]),([4,3],[3,4]),([5,3,3],[3,5]),([6],[6]),([7,6],[6,7]),([6],[6]),([9,6],[6,9]),([8,10,6],[6,8,10]),([11,6],[6,11]),([12,6],[6,12]),([6],[6]),([14,6],[6,14]),([13,15,6],[6,13,15]),([6,16,3],[3,6,16]),([3,17],[3,17])])
def impl_ConfigOK.B9 : List Nat:=[0,1,3,7,15,31,63,127,255,127,639,2047,4095,8191,127,16511,65535,131071,262143]
theorem impl_ConfigOK.tab9 : rtab .any (opsOf Try.f34 9) = impl_ConfigOK.T9:=by kernel_rfl
theorem impl_ConfigOK.bits9 : waitsOk impl_ConfigOK.T9.2 impl_ConfigOK.B9 = true:=by kernel_rfl
set_option maxHeartbeats 8000000 in
set_option maxRecDepth 100000 in
theorem impl_ConfigOK.calls (k : Nat) (a0_0 : Int) (a0_1 : Int) (a0_2 : Int) (a0_3 : ByteArray) (a0_4 : ByteArray) (a0_5 : Int) (A0_6 : Option Addr) (c0_6 : Nat) (l0_6 : List (S100)) (A0_7 : Option Addr) (c0_7 : Nat) (l0_7 : List (S54)) (r : Bool) (w : World) (hr0_6 : Kd.C k100 w A0_6 l0_6.length l0_6) (hc0_6 : l0_6.length ≤ c0_6) (hr0_7 : Kd.C k54 w A0_7 l0_7.length l0_7) (hc0_7 : l0_7.length ≤ c0_7) (h : impl_ConfigOK.f k a0_0 a0_1 a0_2 a0_3 a0_4 a0_5 l0_6 l0_7 = some r) :
  Calls Try.prog 34 #[.agg #[.int .i64 a0_0,.int .i64 a0_1,.int .i64 a0_2,.string a0_3,.string a0_4,.int .i64 a0_5,.slice A0_6 l0_6.length c0_6,.slice A0_7 l0_7.length c0_7]] w fun e w' => e = .returned (.bool r) ∧ Below w.heap.size w w':=by
 have hu70:=Try.underlying70
 have hu26:=Try.underlying26
 have hu54:=Try.underlying54
 have HR0_6:=aMk hr0_6
 have HC0_6:=aMk hc0_6
 clear hr0_6 hc0_6
 have HR0_7:=aMk hr0_7
 have HC0_7:=aMk hc0_7
 clear hr0_7 hc0_7
 have HB:=aMk (Below.refl w.heap.size w)
 have H : ((impl_NetOK.f a0_0 a0_1).bind fun t472 => (if t472 = true then ((impl_isAddress.f a0_2).bind fun t473 => (if t473 = true then ((impl_Net_has.f a0_0 a0_1 a0_2).bind fun t474 => (if t474 = true then ((impl_isAddress.f a0_5).bind fun t475 => (if t475 = true then ((impl_Net_has.f a0_0 a0_1 a0_5).bind fun t476 => (impl_ConfigOK.j0 k (!t476) a0_0 a0_1 a0_2 a0_3 a0_4 a0_5 l0_6 l0_7)) else (impl_ConfigOK.j0 k false a0_0 a0_1 a0_2 a0_3 a0_4 a0_5 l0_6 l0_7))) else (impl_ConfigOK.j0 k false a0_0 a0_1 a0_2 a0_3 a0_4 a0_5 l0_6 l0_7))) else (impl_ConfigOK.j0 k false a0_0 a0_1 a0_2 a0_3 a0_4 a0_5 l0_6 l0_7))) else (impl_ConfigOK.j0 k false a0_0 a0_1 a0_2 a0_3 a0_4 a0_5 l0_6 l0_7))) = some r:=h
 clear h
 have HC2:=aMk H
 clear H
 go_enter Try.func34,Try.ntmps34
 go_upto_region 1 with (first|((with_reducible refine gate_dst (N:=1) rfl ?_);(try (refine gate_guard (by rfl) ?_;dsimp only));refine bxE (N:=1) (cs:=#[.int .i64 a0_0,.int .i64 a0_1,.int .i64 a0_2,.string a0_3,.string a0_4,.int .i64 a0_5,.slice A0_6 l0_6.length c0_6,.slice A0_7 l0_7.length c0_7]) (t:=70) ?_;intro gb471 hg w3 hbox hb;have n0_:=aMk (bSt hb);have n1_:=aMk (hbox);have n2_:=aMk ((by rw [hg];exact bSz : w.heap.size ≤ gb471));have n3_:=aMk ((by rw [hg];exact bSz : w.heap.size ≤ gb471));clear HB;have HB:=n0_;have BK471:=n1_;have GW471:=n2_;have GE471:=n3_;clear n0_ n1_ n2_ n3_;clear hb hbox hg))
 (try simp only [Act.put,List.setIfInBounds_toArray,List.set_cons_zero,List.set_cons_succ])
 go_cut [3] (fun v3 wc => ∃ (kq : Nat) (x3_1 : Bool),v3 = .bool x3_1 ∧ Aside0 (impl_ConfigOK.j0 kq x3_1 a0_0 a0_1 a0_2 a0_3 a0_4 a0_5 l0_6 l0_7 = some r) ∧ Aside0 (kq ≤ k) ∧ Aside0 (wc.heap[gb471]? = some (.cells #[.int .i64 a0_0,.int .i64 a0_1,.int .i64 a0_2,.string a0_3,.string a0_4,.int .i64 a0_5,(.slice A0_6 l0_6.length c0_6),(.slice A0_7 l0_7.length c0_7)] 70 (0,0))) ∧ Aside0 (Below w.heap.size w wc))
 case first =>
  have H:=HC2.out
  clear HC2
  replace H:=Option.bind_eq_some_iff.mp H
  obtain ⟨t472,A40,H⟩:=H
  replace H : (if t472 = true then ((impl_isAddress.f a0_2).bind fun t473 => (if t473 = true then ((impl_Net_has.f a0_0 a0_1 a0_2).bind fun t474 => (if t474 = true then ((impl_isAddress.f a0_5).bind fun t475 => (if t475 = true then ((impl_Net_has.f a0_0 a0_1 a0_5).bind fun t476 => (impl_ConfigOK.j0 k (!t476) a0_0 a0_1 a0_2 a0_3 a0_4 a0_5 l0_6 l0_7)) else (impl_ConfigOK.j0 k false a0_0 a0_1 a0_2 a0_3 a0_4 a0_5 l0_6 l0_7))) else (impl_ConfigOK.j0 k false a0_0 a0_1 a0_2 a0_3 a0_4 a0_5 l0_6 l0_7))) else (impl_ConfigOK.j0 k false a0_0 a0_1 a0_2 a0_3 a0_4 a0_5 l0_6 l0_7))) else (impl_ConfigOK.j0 k false a0_0 a0_1 a0_2 a0_3 a0_4 a0_5 l0_6 l0_7)) = some r:=H
  have A4:=aMk A40
  clear A40
  by_cases c5 : t472 = true
  ·subst c5
   have H1 : ((impl_isAddress.f a0_2).bind fun t473 => (if t473 = true then ((impl_Net_has.f a0_0 a0_1 a0_2).bind fun t474 => (if t474 = true then ((impl_isAddress.f a0_5).bind fun t475 => (if t475 = true then ((impl_Net_has.f a0_0 a0_1 a0_5).bind fun t476 => (impl_ConfigOK.j0 k (!t476) a0_0 a0_1 a0_2 a0_3 a0_4 a0_5 l0_6 l0_7)) else (impl_ConfigOK.j0 k false a0_0 a0_1 a0_2 a0_3 a0_4 a0_5 l0_6 l0_7))) else (impl_ConfigOK.j0 k false a0_0 a0_1 a0_2 a0_3 a0_4 a0_5 l0_6 l0_7))) else (impl_ConfigOK.j0 k false a0_0 a0_1 a0_2 a0_3 a0_4 a0_5 l0_6 l0_7))) = some r:=by rw [if_pos rfl] at H;exact H
   clear H
   have H:=H1
   clear H1
   replace H:=Option.bind_eq_some_iff.mp H
   obtain ⟨t473,A60,H⟩:=H
   replace H : (if t473 = true then ((impl_Net_has.f a0_0 a0_1 a0_2).bind fun t474 => (if t474 = true then ((impl_isAddress.f a0_5).bind fun t475 => (if t475 = true then ((impl_Net_has.f a0_0 a0_1 a0_5).bind fun t476 => (impl_ConfigOK.j0 k (!t476) a0_0 a0_1 a0_2 a0_3 a0_4 a0_5 l0_6 l0_7)) else (impl_ConfigOK.j0 k false a0_0 a0_1 a0_2 a0_3 a0_4 a0_5 l0_6 l0_7))) else (impl_ConfigOK.j0 k false a0_0 a0_1 a0_2 a0_3 a0_4 a0_5 l0_6 l0_7))) else (impl_ConfigOK.j0 k false a0_0 a0_1 a0_2 a0_3 a0_4 a0_5 l0_6 l0_7)) = some r:=H
   have A6:=aMk A60
   clear A60
   by_cases c7 : t473 = true
   ·subst c7
    have H1 : ((impl_Net_has.f a0_0 a0_1 a0_2).bind fun t474 => (if t474 = true then ((impl_isAddress.f a0_5).bind fun t475 => (if t475 = true then ((impl_Net_has.f a0_0 a0_1 a0_5).bind fun t476 => (impl_ConfigOK.j0 k (!t476) a0_0 a0_1 a0_2 a0_3 a0_4 a0_5 l0_6 l0_7)) else (impl_ConfigOK.j0 k false a0_0 a0_1 a0_2 a0_3 a0_4 a0_5 l0_6 l0_7))) else (impl_ConfigOK.j0 k false a0_0 a0_1 a0_2 a0_3 a0_4 a0_5 l0_6 l0_7))) = some r:=by rw [if_pos rfl] at H;exact H
    clear H
    have H:=H1
    clear H1
    replace H:=Option.bind_eq_some_iff.mp H
    obtain ⟨t474,A80,H⟩:=H
    replace H : (if t474 = true then ((impl_isAddress.f a0_5).bind fun t475 => (if t475 = true then ((impl_Net_has.f a0_0 a0_1 a0_5).bind fun t476 => (impl_ConfigOK.j0 k (!t476) a0_0 a0_1 a0_2 a0_3 a0_4 a0_5 l0_6 l0_7)) else (impl_ConfigOK.j0 k false a0_0 a0_1 a0_2 a0_3 a0_4 a0_5 l0_6 l0_7))) else (impl_ConfigOK.j0 k false a0_0 a0_1 a0_2 a0_3 a0_4 a0_5 l0_6 l0_7)) = some r:=H
    have A8:=aMk A80
    clear A80
    by_cases c9 : t474 = true
    ·subst c9
     have H1 : ((impl_isAddress.f a0_5).bind fun t475 => (if t475 = true then ((impl_Net_has.f a0_0 a0_1 a0_5).bind fun t476 => (impl_ConfigOK.j0 k (!t476) a0_0 a0_1 a0_2 a0_3 a0_4 a0_5 l0_6 l0_7)) else (impl_ConfigOK.j0 k false a0_0 a0_1 a0_2 a0_3 a0_4 a0_5 l0_6 l0_7))) = some r:=by rw [if_pos rfl] at H;exact H
     clear H
     have H:=H1
     clear H1
     replace H:=Option.bind_eq_some_iff.mp H
     obtain ⟨t475,A100,H⟩:=H
     replace H : (if t475 = true then ((impl_Net_has.f a0_0 a0_1 a0_5).bind fun t476 => (impl_ConfigOK.j0 k (!t476) a0_0 a0_1 a0_2 a0_3 a0_4 a0_5 l0_6 l0_7)) else (impl_ConfigOK.j0 k false a0_0 a0_1 a0_2 a0_3 a0_4 a0_5 l0_6 l0_7)) = some r:=H
     have A10:=aMk A100
     clear A100
     by_cases c11 : t475 = true
     ·subst c11
      have H1 : ((impl_Net_has.f a0_0 a0_1 a0_5).bind fun t476 => (impl_ConfigOK.j0 k (!t476) a0_0 a0_1 a0_2 a0_3 a0_4 a0_5 l0_6 l0_7)) = some r:=by rw [if_pos rfl] at H;exact H
      clear H
      have H:=H1
      clear H1
      replace H:=Option.bind_eq_some_iff.mp H
      obtain ⟨t476,A120,H⟩:=H
      replace H : (impl_ConfigOK.j0 k (!t476) a0_0 a0_1 a0_2 a0_3 a0_4 a0_5 l0_6 l0_7) = some r:=H
      have A12:=aMk A120
      clear A120
      have H':=aMk H
      clear H
      obtain ⟨hcz13_0,hcz13_1,hcz13_2,hcz13_3,hcz13_4,hcz13_5,hcz13_6,hcz13_7,hfz13_0,hfz13_1,hfz13_2,hfz13_3,hfz13_4,hfz13_5,hfz13_6,hfz13_7⟩:=bC8 BK471.out
      go_wp2_with (first|((with_reducible refine gate_callee (f:=41) rfl ?_);refine gLs 8 Try.func41 #[.agg #[.int .i64 a0_0,.int .i64 a0_1]] ?_;(with_reducible refine (impl_NetOK.calls a0_0 a0_1 true _ A4.out).mono ?_);rintro e w14 ⟨rfl,hb⟩;refine ⟨_,rfl,?_⟩;have n0_:=aMk (bkB BK471.out hb);have n1_:=aMk (below_step (by repeat (first|(with_reducible first|exact HB.out|apply bwA|apply bwN|apply bw1|refine below_set ?_ GE471.out)|exact HB.out)) hb);clear BK471;clear HB;have BK471:=n0_;have HB:=n1_;clear n0_ n1_;(try clear hb);(try clear hb2);(try clear hk);(try clear hi);obtain ⟨hcz15_0,hcz15_1,hcz15_2,hcz15_3,hcz15_4,hcz15_5,hcz15_6,hcz15_7,hfz15_0,hfz15_1,hfz15_2,hfz15_3,hfz15_4,hfz15_5,hfz15_6,hfz15_7⟩:=bC8 BK471.out)|(go_at_call 42;(with_reducible refine (impl_isAddress.calls a0_2 true _ A6.out).mono ?_);rintro e w' ⟨rfl,⟨nd,rfl⟩⟩)|(go_at_call 43;(with_reducible refine (impl_Net_has.calls a0_0 a0_1 a0_2 true _ A8.out).mono ?_);rintro e w16 ⟨rfl,hb⟩;have n0_:=aMk (bkB BK471.out hb);have n1_:=aMk (below_step (by repeat (first|(with_reducible first|exact HB.out|apply bwA|apply bwN|apply bw1|refine below_set ?_ GE471.out)|exact HB.out)) hb);clear BK471;clear HB;have BK471:=n0_;have HB:=n1_;clear n0_ n1_;(try clear hb);(try clear hb2);(try clear hk);(try clear hi);obtain ⟨hcz17_0,hcz17_1,hcz17_2,hcz17_3,hcz17_4,hcz17_5,hcz17_6,hcz17_7,hfz17_0,hfz17_1,hfz17_2,hfz17_3,hfz17_4,hfz17_5,hfz17_6,hfz17_7⟩:=bC8 BK471.out)|(go_at_call 42;(with_reducible refine (impl_isAddress.calls a0_5 true _ A10.out).mono ?_);rintro e w' ⟨rfl,⟨nd,rfl⟩⟩)|(go_at_call 43;(with_reducible refine (impl_Net_has.calls a0_0 a0_1 a0_5 t476 _ A12.out).mono ?_);rintro e w18 ⟨rfl,hb⟩;have n0_:=aMk (bkB BK471.out hb);have n1_:=aMk (below_step (by repeat (first|(with_reducible first|exact HB.out|apply bwA|apply bwN|apply bw1|refine below_set ?_ GE471.out)|exact HB.out)) hb);clear BK471;clear HB;have BK471:=n0_;have HB:=n1_;clear n0_ n1_;(try clear hb);(try clear hb2);(try clear hk);(try clear hi)))
      go_meet
      case rel => exact ⟨_,(!t476),(by first | rfl|(simp;done)|(simp [*];done)|(simp [ne_nil_b];done)|(simp [ne_nil_b, *];done)),H',⟨by first | omega|exact Nat.le_refl _⟩,⟨by (with_reducible repeat (first|refine bDn ?_ _|refine bDr ?_|refine bAl ?_ _));exact BK471.out⟩,⟨by repeat (first|(with_reducible first|exact HB.out|apply bwA|apply bwN|apply bw1|refine below_set ?_ GE471.out)|exact HB.out)⟩⟩
     ·replace c11:=Bool.eq_false_iff.mpr c11
      subst c11
      have H1 : (impl_ConfigOK.j0 k false a0_0 a0_1 a0_2 a0_3 a0_4 a0_5 l0_6 l0_7) = some r:=by rw [if_neg (show ¬ (false = true) by decide)] at H;exact H
      clear H
      have H:=H1
      clear H1
      have H':=aMk H
      clear H
      obtain ⟨hcz19_0,hcz19_1,hcz19_2,hcz19_3,hcz19_4,hcz19_5,hcz19_6,hcz19_7,hfz19_0,hfz19_1,hfz19_2,hfz19_3,hfz19_4,hfz19_5,hfz19_6,hfz19_7⟩:=bC8 BK471.out
      go_wp2_with (first|((with_reducible refine gate_callee (f:=41) rfl ?_);refine gLs 8 Try.func41 #[.agg #[.int .i64 a0_0,.int .i64 a0_1]] ?_;(with_reducible refine (impl_NetOK.calls a0_0 a0_1 true _ A4.out).mono ?_);rintro e w20 ⟨rfl,hb⟩;refine ⟨_,rfl,?_⟩;have n0_:=aMk (bkB BK471.out hb);have n1_:=aMk (below_step (by repeat (first|(with_reducible first|exact HB.out|apply bwA|apply bwN|apply bw1|refine below_set ?_ GE471.out)|exact HB.out)) hb);clear BK471;clear HB;have BK471:=n0_;have HB:=n1_;clear n0_ n1_;(try clear hb);(try clear hb2);(try clear hk);(try clear hi);obtain ⟨hcz21_0,hcz21_1,hcz21_2,hcz21_3,hcz21_4,hcz21_5,hcz21_6,hcz21_7,hfz21_0,hfz21_1,hfz21_2,hfz21_3,hfz21_4,hfz21_5,hfz21_6,hfz21_7⟩:=bC8 BK471.out)|(go_at_call 42;(with_reducible refine (impl_isAddress.calls a0_2 true _ A6.out).mono ?_);rintro e w' ⟨rfl,⟨nd,rfl⟩⟩)|(go_at_call 43;(with_reducible refine (impl_Net_has.calls a0_0 a0_1 a0_2 true _ A8.out).mono ?_);rintro e w22 ⟨rfl,hb⟩;have n0_:=aMk (bkB BK471.out hb);have n1_:=aMk (below_step (by repeat (first|(with_reducible first|exact HB.out|apply bwA|apply bwN|apply bw1|refine below_set ?_ GE471.out)|exact HB.out)) hb);clear BK471;clear HB;have BK471:=n0_;have HB:=n1_;clear n0_ n1_;(try clear hb);(try clear hb2);(try clear hk);(try clear hi);obtain ⟨hcz23_0,hcz23_1,hcz23_2,hcz23_3,hcz23_4,hcz23_5,hcz23_6,hcz23_7,hfz23_0,hfz23_1,hfz23_2,hfz23_3,hfz23_4,hfz23_5,hfz23_6,hfz23_7⟩:=bC8 BK471.out)|(go_at_call 42;(with_reducible refine (impl_isAddress.calls a0_5 false _ A10.out).mono ?_);rintro e w' ⟨rfl,⟨nd,rfl⟩⟩))
      go_meet
      case rel => exact ⟨_,(false),(by first | rfl|(simp;done)|(simp [*];done)|(simp [ne_nil_b];done)|(simp [ne_nil_b, *];done)),H',⟨by first | omega|exact Nat.le_refl _⟩,⟨by (with_reducible repeat (first|refine bDn ?_ _|refine bDr ?_|refine bAl ?_ _));exact BK471.out⟩,⟨by repeat (first|(with_reducible first|exact HB.out|apply bwA|apply bwN|apply bw1|refine below_set ?_ GE471.out)|exact HB.out)⟩⟩
    ·replace c9:=Bool.eq_false_iff.mpr c9
     subst c9
     have H1 : (impl_ConfigOK.j0 k false a0_0 a0_1 a0_2 a0_3 a0_4 a0_5 l0_6 l0_7) = some r:=by rw [if_neg (show ¬ (false = true) by decide)] at H;exact H
     clear H
     have H:=H1
     clear H1
     have H':=aMk H
     clear H
     obtain ⟨hcz24_0,hcz24_1,hcz24_2,hcz24_3,hcz24_4,hcz24_5,hcz24_6,hcz24_7,hfz24_0,hfz24_1,hfz24_2,hfz24_3,hfz24_4,hfz24_5,hfz24_6,hfz24_7⟩:=bC8 BK471.out
     go_wp2_with (first|((with_reducible refine gate_callee (f:=41) rfl ?_);refine gLs 8 Try.func41 #[.agg #[.int .i64 a0_0,.int .i64 a0_1]] ?_;(with_reducible refine (impl_NetOK.calls a0_0 a0_1 true _ A4.out).mono ?_);rintro e w25 ⟨rfl,hb⟩;refine ⟨_,rfl,?_⟩;have n0_:=aMk (bkB BK471.out hb);have n1_:=aMk (below_step (by repeat (first|(with_reducible first|exact HB.out|apply bwA|apply bwN|apply bw1|refine below_set ?_ GE471.out)|exact HB.out)) hb);clear BK471;clear HB;have BK471:=n0_;have HB:=n1_;clear n0_ n1_;(try clear hb);(try clear hb2);(try clear hk);(try clear hi);obtain ⟨hcz26_0,hcz26_1,hcz26_2,hcz26_3,hcz26_4,hcz26_5,hcz26_6,hcz26_7,hfz26_0,hfz26_1,hfz26_2,hfz26_3,hfz26_4,hfz26_5,hfz26_6,hfz26_7⟩:=bC8 BK471.out)|(go_at_call 42;(with_reducible refine (impl_isAddress.calls a0_2 true _ A6.out).mono ?_);rintro e w' ⟨rfl,⟨nd,rfl⟩⟩)|(go_at_call 43;(with_reducible refine (impl_Net_has.calls a0_0 a0_1 a0_2 false _ A8.out).mono ?_);rintro e w27 ⟨rfl,hb⟩;have n0_:=aMk (bkB BK471.out hb);have n1_:=aMk (below_step (by repeat (first|(with_reducible first|exact HB.out|apply bwA|apply bwN|apply bw1|refine below_set ?_ GE471.out)|exact HB.out)) hb);clear BK471;clear HB;have BK471:=n0_;have HB:=n1_;clear n0_ n1_;(try clear hb);(try clear hb2);(try clear hk);(try clear hi)))
     go_meet
     case rel => exact ⟨_,(false),(by first | rfl|(simp;done)|(simp [*];done)|(simp [ne_nil_b];done)|(simp [ne_nil_b, *];done)),H',⟨by first | omega|exact Nat.le_refl _⟩,⟨by (with_reducible repeat (first|refine bDn ?_ _|refine bDr ?_|refine bAl ?_ _));exact BK471.out⟩,⟨by repeat (first|(with_reducible first|exact HB.out|apply bwA|apply bwN|apply bw1|refine below_set ?_ GE471.out)|exact HB.out)⟩⟩
   ·replace c7:=Bool.eq_false_iff.mpr c7
    subst c7
    have H1 : (impl_ConfigOK.j0 k false a0_0 a0_1 a0_2 a0_3 a0_4 a0_5 l0_6 l0_7) = some r:=by rw [if_neg (show ¬ (false = true) by decide)] at H;exact H
    clear H
    have H:=H1
    clear H1
    have H':=aMk H
    clear H
    obtain ⟨hcz28_0,hcz28_1,hcz28_2,hcz28_3,hcz28_4,hcz28_5,hcz28_6,hcz28_7,hfz28_0,hfz28_1,hfz28_2,hfz28_3,hfz28_4,hfz28_5,hfz28_6,hfz28_7⟩:=bC8 BK471.out
    go_wp2_with (first|((with_reducible refine gate_callee (f:=41) rfl ?_);refine gLs 8 Try.func41 #[.agg #[.int .i64 a0_0,.int .i64 a0_1]] ?_;(with_reducible refine (impl_NetOK.calls a0_0 a0_1 true _ A4.out).mono ?_);rintro e w29 ⟨rfl,hb⟩;refine ⟨_,rfl,?_⟩;have n0_:=aMk (bkB BK471.out hb);have n1_:=aMk (below_step (by repeat (first|(with_reducible first|exact HB.out|apply bwA|apply bwN|apply bw1|refine below_set ?_ GE471.out)|exact HB.out)) hb);clear BK471;clear HB;have BK471:=n0_;have HB:=n1_;clear n0_ n1_;(try clear hb);(try clear hb2);(try clear hk);(try clear hi);obtain ⟨hcz30_0,hcz30_1,hcz30_2,hcz30_3,hcz30_4,hcz30_5,hcz30_6,hcz30_7,hfz30_0,hfz30_1,hfz30_2,hfz30_3,hfz30_4,hfz30_5,hfz30_6,hfz30_7⟩:=bC8 BK471.out)|(go_at_call 42;(with_reducible refine (impl_isAddress.calls a0_2 false _ A6.out).mono ?_);rintro e w' ⟨rfl,⟨nd,rfl⟩⟩))
    go_meet
    case rel => exact ⟨_,(false),(by first | rfl|(simp;done)|(simp [*];done)|(simp [ne_nil_b];done)|(simp [ne_nil_b, *];done)),H',⟨by first | omega|exact Nat.le_refl _⟩,⟨by (with_reducible repeat (first|refine bDn ?_ _|refine bDr ?_|refine bAl ?_ _));exact BK471.out⟩,⟨by repeat (first|(with_reducible first|exact HB.out|apply bwA|apply bwN|apply bw1|refine below_set ?_ GE471.out)|exact HB.out)⟩⟩
  ·replace c5:=Bool.eq_false_iff.mpr c5
   subst c5
   have H1 : (impl_ConfigOK.j0 k false a0_0 a0_1 a0_2 a0_3 a0_4 a0_5 l0_6 l0_7) = some r:=by rw [if_neg (show ¬ (false = true) by decide)] at H;exact H
   clear H
   have H:=H1
   clear H1
   have H':=aMk H
   clear H
   obtain ⟨hcz31_0,hcz31_1,hcz31_2,hcz31_3,hcz31_4,hcz31_5,hcz31_6,hcz31_7,hfz31_0,hfz31_1,hfz31_2,hfz31_3,hfz31_4,hfz31_5,hfz31_6,hfz31_7⟩:=bC8 BK471.out
   go_wp2_with (first|((with_reducible refine gate_callee (f:=41) rfl ?_);refine gLs 8 Try.func41 #[.agg #[.int .i64 a0_0,.int .i64 a0_1]] ?_;(with_reducible refine (impl_NetOK.calls a0_0 a0_1 false _ A4.out).mono ?_);rintro e w32 ⟨rfl,hb⟩;refine ⟨_,rfl,?_⟩;have n0_:=aMk (bkB BK471.out hb);have n1_:=aMk (below_step (by repeat (first|(with_reducible first|exact HB.out|apply bwA|apply bwN|apply bw1|refine below_set ?_ GE471.out)|exact HB.out)) hb);clear BK471;clear HB;have BK471:=n0_;have HB:=n1_;clear n0_ n1_;(try clear hb);(try clear hb2);(try clear hk);(try clear hi)))
   go_meet
   case rel => exact ⟨_,(false),(by first | rfl|(simp;done)|(simp [*];done)|(simp [ne_nil_b];done)|(simp [ne_nil_b, *];done)),H',⟨by first | omega|exact Nat.le_refl _⟩,⟨by (with_reducible repeat (first|refine bDn ?_ _|refine bDr ?_|refine bAl ?_ _));exact BK471.out⟩,⟨by repeat (first|(with_reducible first|exact HB.out|apply bwA|apply bwN|apply bw1|refine below_set ?_ GE471.out)|exact HB.out)⟩⟩
 case rest =>
  clear HC2
  try clear c1
  try clear p2
  try clear c3
  try clear c4
  try clear c5
  try clear c7
  try clear c9
  try clear c11
  try clear hcz13_0
  try clear hcz13_1
  try clear hcz13_2
  try clear hcz13_3
  try clear hcz13_4
  try clear hcz13_5
  try clear hcz13_6
  try clear hcz13_7
  try clear hcz15_0
  try clear hcz15_1
  try clear hcz15_2
  try clear hcz15_3
  try clear hcz15_4
  try clear hcz15_5
  try clear hcz15_6
  try clear hcz15_7
  try clear hcz17_0
  try clear hcz17_1
  try clear hcz17_2
  try clear hcz17_3
  try clear hcz17_4
  try clear hcz17_5
  try clear hcz17_6
  try clear hcz17_7
  try clear hcz19_0
  try clear hcz19_1
  try clear hcz19_2
  try clear hcz19_3
  try clear hcz19_4
  try clear hcz19_5
  try clear hcz19_6
  try clear hcz19_7
  try clear hcz21_0
  try clear hcz21_1
  try clear hcz21_2
  try clear hcz21_3
  try clear hcz21_4
  try clear hcz21_5
  try clear hcz21_6
  try clear hcz21_7
  try clear hcz23_0
  try clear hcz23_1
  try clear hcz23_2
  try clear hcz23_3
  try clear hcz23_4
  try clear hcz23_5
  try clear hcz23_6
  try clear hcz23_7
  try clear hcz24_0
  try clear hcz24_1
  try clear hcz24_2
  try clear hcz24_3
  try clear hcz24_4
  try clear hcz24_5
  try clear hcz24_6
  try clear hcz24_7
  try clear hcz26_0
  try clear hcz26_1
  try clear hcz26_2
  try clear hcz26_3
  try clear hcz26_4
  try clear hcz26_5
  try clear hcz26_6
  try clear hcz26_7
  try clear hcz28_0
  try clear hcz28_1
  try clear hcz28_2
  try clear hcz28_3
  try clear hcz28_4
  try clear hcz28_5
  try clear hcz28_6
  try clear hcz28_7
  try clear hcz30_0
  try clear hcz30_1
  try clear hcz30_2
  try clear hcz30_3
  try clear hcz30_4
  try clear hcz30_5
  try clear hcz30_6
  try clear hcz30_7
  try clear hcz31_0
  try clear hcz31_1
  try clear hcz31_2
  try clear hcz31_3
  try clear hcz31_4
  try clear hcz31_5
  try clear hcz31_6
  try clear hcz31_7
  try clear hfz13_0
  try clear hfz13_1
  try clear hfz13_2
  try clear hfz13_3
  try clear hfz13_4
  try clear hfz13_5
  try clear hfz13_6
  try clear hfz13_7
  try clear hfz15_0
  try clear hfz15_1
  try clear hfz15_2
  try clear hfz15_3
  try clear hfz15_4
  try clear hfz15_5
  try clear hfz15_6
  try clear hfz15_7
  try clear hfz17_0
  try clear hfz17_1
  try clear hfz17_2
  try clear hfz17_3
  try clear hfz17_4
  try clear hfz17_5
  try clear hfz17_6
  try clear hfz17_7
  try clear hfz19_0
  try clear hfz19_1
  try clear hfz19_2
  try clear hfz19_3
  try clear hfz19_4
  try clear hfz19_5
  try clear hfz19_6
  try clear hfz19_7
  try clear hfz21_0
  try clear hfz21_1
  try clear hfz21_2
  try clear hfz21_3
  try clear hfz21_4
  try clear hfz21_5
  try clear hfz21_6
  try clear hfz21_7
  try clear hfz23_0
  try clear hfz23_1
  try clear hfz23_2
  try clear hfz23_3
  try clear hfz23_4
  try clear hfz23_5
  try clear hfz23_6
  try clear hfz23_7
  try clear hfz24_0
  try clear hfz24_1
  try clear hfz24_2
  try clear hfz24_3
  try clear hfz24_4
  try clear hfz24_5
  try clear hfz24_6
  try clear hfz24_7
  try clear hfz26_0
  try clear hfz26_1
  try clear hfz26_2
  try clear hfz26_3
  try clear hfz26_4
  try clear hfz26_5
  try clear hfz26_6
  try clear hfz26_7
  try clear hfz28_0
  try clear hfz28_1
  try clear hfz28_2
  try clear hfz28_3
  try clear hfz28_4
  try clear hfz28_5
  try clear hfz28_6
  try clear hfz28_7
  try clear hfz30_0
  try clear hfz30_1
  try clear hfz30_2
  try clear hfz30_3
  try clear hfz30_4
  try clear hfz30_5
  try clear hfz30_6
  try clear hfz30_7
  try clear hfz31_0
  try clear hfz31_1
  try clear hfz31_2
  try clear hfz31_3
  try clear hfz31_4
  try clear hfz31_5
  try clear hfz31_6
  try clear hfz31_7
  obtain ⟨kq,x3_1,rfl,HA,HJ1,BK471,HB⟩:=hcut
  cases kq with
  | zero => exact absurd HA.out (by simp [impl_ConfigOK.j0])
  | succ kj1 =>
   have H:=HA.out
   clear HA
   simp only [impl_ConfigOK.j0] at H
   have HC33:=aMk H
   clear H
   go_upto_region 2 with (fail)
   go_cut [60] (fun v60 wc => ∃ (kq : Nat) (x60_32 : Bool),v60 = .bool x60_32 ∧ Aside0 (impl_ConfigOK.j1 kq x60_32 a0_0 a0_1 a0_2 a0_3 a0_4 a0_5 l0_6 l0_7 = some r) ∧ Aside0 (kq ≤ kj1) ∧ Aside0 (wc.heap[gb471]? = some (.cells #[.int .i64 a0_0,.int .i64 a0_1,.int .i64 a0_2,.string a0_3,.string a0_4,.int .i64 a0_5,(.slice A0_6 l0_6.length c0_6),(.slice A0_7 l0_7.length c0_7)] 70 (0,0))) ∧ Aside0 (Below w.heap.size w wc))
   case first =>
    have H:=HC33.out
    clear HC33
    by_cases c34 : x3_1 = true
    ·subst c34
     have H1 : ((impl_macOK.f a0_3).bind fun t477 => (if t477 = true then ((impl_macOK.f a0_4).bind fun t478 => (if t478 = true then (if (l0_6.length : Int) > 8 then (impl_ConfigOK.j1 kj1 true a0_0 a0_1 a0_2 a0_3 a0_4 a0_5 l0_6 l0_7) else ((impl_within.f (l0_7.length : Int) 1 4).bind fun t479 => (impl_ConfigOK.j1 kj1 (!t479) a0_0 a0_1 a0_2 a0_3 a0_4 a0_5 l0_6 l0_7))) else (impl_ConfigOK.j1 kj1 true a0_0 a0_1 a0_2 a0_3 a0_4 a0_5 l0_6 l0_7))) else (impl_ConfigOK.j1 kj1 true a0_0 a0_1 a0_2 a0_3 a0_4 a0_5 l0_6 l0_7))) = some r:=by rw [if_pos rfl] at H;exact H
     clear H
     have H:=H1
     clear H1
     replace H:=Option.bind_eq_some_iff.mp H
     obtain ⟨t477,A350,H⟩:=H
     replace H : (if t477 = true then ((impl_macOK.f a0_4).bind fun t478 => (if t478 = true then (if (l0_6.length : Int) > 8 then (impl_ConfigOK.j1 kj1 true a0_0 a0_1 a0_2 a0_3 a0_4 a0_5 l0_6 l0_7) else ((impl_within.f (l0_7.length : Int) 1 4).bind fun t479 => (impl_ConfigOK.j1 kj1 (!t479) a0_0 a0_1 a0_2 a0_3 a0_4 a0_5 l0_6 l0_7))) else (impl_ConfigOK.j1 kj1 true a0_0 a0_1 a0_2 a0_3 a0_4 a0_5 l0_6 l0_7))) else (impl_ConfigOK.j1 kj1 true a0_0 a0_1 a0_2 a0_3 a0_4 a0_5 l0_6 l0_7)) = some r:=H
     have A35:=aMk A350
     clear A350
     by_cases c36 : t477 = true
     ·subst c36
      have H1 : ((impl_macOK.f a0_4).bind fun t478 => (if t478 = true then (if (l0_6.length : Int) > 8 then (impl_ConfigOK.j1 kj1 true a0_0 a0_1 a0_2 a0_3 a0_4 a0_5 l0_6 l0_7) else ((impl_within.f (l0_7.length : Int) 1 4).bind fun t479 => (impl_ConfigOK.j1 kj1 (!t479) a0_0 a0_1 a0_2 a0_3 a0_4 a0_5 l0_6 l0_7))) else (impl_ConfigOK.j1 kj1 true a0_0 a0_1 a0_2 a0_3 a0_4 a0_5 l0_6 l0_7))) = some r:=by rw [if_pos rfl] at H;exact H
      clear H
      have H:=H1
      clear H1
      replace H:=Option.bind_eq_some_iff.mp H
      obtain ⟨t478,A370,H⟩:=H
      replace H : (if t478 = true then (if (l0_6.length : Int) > 8 then (impl_ConfigOK.j1 kj1 true a0_0 a0_1 a0_2 a0_3 a0_4 a0_5 l0_6 l0_7) else ((impl_within.f (l0_7.length : Int) 1 4).bind fun t479 => (impl_ConfigOK.j1 kj1 (!t479) a0_0 a0_1 a0_2 a0_3 a0_4 a0_5 l0_6 l0_7))) else (impl_ConfigOK.j1 kj1 true a0_0 a0_1 a0_2 a0_3 a0_4 a0_5 l0_6 l0_7)) = some r:=H
      have A37:=aMk A370
      clear A370
      by_cases c38 : t478 = true
      ·subst c38
       have H1 : (if (l0_6.length : Int) > 8 then (impl_ConfigOK.j1 kj1 true a0_0 a0_1 a0_2 a0_3 a0_4 a0_5 l0_6 l0_7) else ((impl_within.f (l0_7.length : Int) 1 4).bind fun t479 => (impl_ConfigOK.j1 kj1 (!t479) a0_0 a0_1 a0_2 a0_3 a0_4 a0_5 l0_6 l0_7))) = some r:=by rw [if_pos rfl] at H;exact H
       clear H
       have H:=H1
       clear H1
       by_cases c39 : (l0_6.length : Int) > 8
       ·rw [if_pos c39] at H
        have c39b0 : decide (8 < (l0_6.length : Int)) = true:=decide_eq_true c39
        have c39b1 : decide (8 < l0_6.length) = true:=decide_eq_true (by omega)
        clear c39
        (first|rw [c39b0]|(simp only [i64_w,i32_w];rw [c39b0]) | skip)
        have H':=aMk H
        clear H
        obtain ⟨hcz40_0,hcz40_1,hcz40_2,hcz40_3,hcz40_4,hcz40_5,hcz40_6,hcz40_7,hfz40_0,hfz40_1,hfz40_2,hfz40_3,hfz40_4,hfz40_5,hfz40_6,hfz40_7⟩:=bC8 BK471.out
        go_wp2_with (first|(go_at_call 73;(with_reducible refine (impl_macOK.calls a0_3 true _ A35.out).mono ?_);rintro e w' ⟨rfl,⟨nd,rfl⟩⟩)|(go_at_call 73;(with_reducible refine (impl_macOK.calls a0_4 true _ A37.out).mono ?_);rintro e w' ⟨rfl,⟨nd,rfl⟩⟩))
        go_meet
        case rel => exact ⟨_,(true),(by first | rfl|(simp;done)|(simp [*];done)|(simp [ne_nil_b];done)|(simp [ne_nil_b, *];done)),H',⟨by have:=HJ1.out;first | omega|exact Nat.le_refl _⟩,⟨by (with_reducible repeat (first|refine bDn ?_ _|refine bDr ?_|refine bAl ?_ _));exact BK471.out⟩,⟨by repeat (first|(with_reducible first|exact HB.out|apply bwA|apply bwN|apply bw1|refine below_set ?_ GE471.out)|exact HB.out)⟩⟩
       ·rw [if_neg c39] at H
        have c39b0 : decide (8 < (l0_6.length : Int)) = false:=decide_eq_false c39
        have c39b1 : decide (8 < l0_6.length) = false:=decide_eq_false (by omega)
        clear c39
        (first|rw [c39b0]|(simp only [i64_w,i32_w];rw [c39b0]) | skip)
        replace H:=Option.bind_eq_some_iff.mp H
        obtain ⟨t479,A410,H⟩:=H
        replace H : (impl_ConfigOK.j1 kj1 (!t479) a0_0 a0_1 a0_2 a0_3 a0_4 a0_5 l0_6 l0_7) = some r:=H
        have A41:=aMk A410
        clear A410
        have H':=aMk H
        clear H
        obtain ⟨hcz42_0,hcz42_1,hcz42_2,hcz42_3,hcz42_4,hcz42_5,hcz42_6,hcz42_7,hfz42_0,hfz42_1,hfz42_2,hfz42_3,hfz42_4,hfz42_5,hfz42_6,hfz42_7⟩:=bC8 BK471.out
        go_wp2_with (first|(go_at_call 73;(with_reducible refine (impl_macOK.calls a0_3 true _ A35.out).mono ?_);rintro e w' ⟨rfl,⟨nd,rfl⟩⟩)|(go_at_call 73;(with_reducible refine (impl_macOK.calls a0_4 true _ A37.out).mono ?_);rintro e w' ⟨rfl,⟨nd,rfl⟩⟩)|(go_at_call 60;(with_reducible refine (impl_within.calls (l0_7.length : Int) 1 4 t479 _ A41.out).mono ?_);rintro e w' ⟨rfl,⟨nd,rfl⟩⟩))
        go_meet
        case rel => exact ⟨_,(!t479),(by first | rfl|(simp;done)|(simp [*];done)|(simp [ne_nil_b];done)|(simp [ne_nil_b, *];done)),H',⟨by have:=HJ1.out;first | omega|exact Nat.le_refl _⟩,⟨by (with_reducible repeat (first|refine bDn ?_ _|refine bDr ?_|refine bAl ?_ _));exact BK471.out⟩,⟨by repeat (first|(with_reducible first|exact HB.out|apply bwA|apply bwN|apply bw1|refine below_set ?_ GE471.out)|exact HB.out)⟩⟩
      ·replace c38:=Bool.eq_false_iff.mpr c38
       subst c38
       have H1 : (impl_ConfigOK.j1 kj1 true a0_0 a0_1 a0_2 a0_3 a0_4 a0_5 l0_6 l0_7) = some r:=by rw [if_neg (show ¬ (false = true) by decide)] at H;exact H
       clear H
       have H:=H1
       clear H1
       have H':=aMk H
       clear H
       obtain ⟨hcz43_0,hcz43_1,hcz43_2,hcz43_3,hcz43_4,hcz43_5,hcz43_6,hcz43_7,hfz43_0,hfz43_1,hfz43_2,hfz43_3,hfz43_4,hfz43_5,hfz43_6,hfz43_7⟩:=bC8 BK471.out
       go_wp2_with (first|(go_at_call 73;(with_reducible refine (impl_macOK.calls a0_3 true _ A35.out).mono ?_);rintro e w' ⟨rfl,⟨nd,rfl⟩⟩)|(go_at_call 73;(with_reducible refine (impl_macOK.calls a0_4 false _ A37.out).mono ?_);rintro e w' ⟨rfl,⟨nd,rfl⟩⟩))
       go_meet
       case rel => exact ⟨_,(true),(by first | rfl|(simp;done)|(simp [*];done)|(simp [ne_nil_b];done)|(simp [ne_nil_b, *];done)),H',⟨by have:=HJ1.out;first | omega|exact Nat.le_refl _⟩,⟨by (with_reducible repeat (first|refine bDn ?_ _|refine bDr ?_|refine bAl ?_ _));exact BK471.out⟩,⟨by repeat (first|(with_reducible first|exact HB.out|apply bwA|apply bwN|apply bw1|refine below_set ?_ GE471.out)|exact HB.out)⟩⟩
     ·replace c36:=Bool.eq_false_iff.mpr c36
      subst c36
      have H1 : (impl_ConfigOK.j1 kj1 true a0_0 a0_1 a0_2 a0_3 a0_4 a0_5 l0_6 l0_7) = some r:=by rw [if_neg (show ¬ (false = true) by decide)] at H;exact H
      clear H
      have H:=H1
      clear H1
      have H':=aMk H
      clear H
      obtain ⟨hcz44_0,hcz44_1,hcz44_2,hcz44_3,hcz44_4,hcz44_5,hcz44_6,hcz44_7,hfz44_0,hfz44_1,hfz44_2,hfz44_3,hfz44_4,hfz44_5,hfz44_6,hfz44_7⟩:=bC8 BK471.out
      go_wp2_with (first|(go_at_call 73;(with_reducible refine (impl_macOK.calls a0_3 false _ A35.out).mono ?_);rintro e w' ⟨rfl,⟨nd,rfl⟩⟩))
      go_meet
      case rel => exact ⟨_,(true),(by first | rfl|(simp;done)|(simp [*];done)|(simp [ne_nil_b];done)|(simp [ne_nil_b, *];done)),H',⟨by have:=HJ1.out;first | omega|exact Nat.le_refl _⟩,⟨by (with_reducible repeat (first|refine bDn ?_ _|refine bDr ?_|refine bAl ?_ _));exact BK471.out⟩,⟨by repeat (first|(with_reducible first|exact HB.out|apply bwA|apply bwN|apply bw1|refine below_set ?_ GE471.out)|exact HB.out)⟩⟩
    ·replace c34:=Bool.eq_false_iff.mpr c34
     subst c34
     have H1 : (impl_ConfigOK.j1 kj1 true a0_0 a0_1 a0_2 a0_3 a0_4 a0_5 l0_6 l0_7) = some r:=by rw [if_neg (show ¬ (false = true) by decide)] at H;exact H
     clear H
     have H:=H1
     clear H1
     have H':=aMk H
     clear H
     go_wp2
     go_meet
     case rel => exact ⟨_,(true),(by first | rfl|(simp;done)|(simp [*];done)|(simp [ne_nil_b];done)|(simp [ne_nil_b, *];done)),H',⟨by have:=HJ1.out;first | omega|exact Nat.le_refl _⟩,⟨by (with_reducible repeat (first|refine bDn ?_ _|refine bDr ?_|refine bAl ?_ _));exact BK471.out⟩,⟨by repeat (first|(with_reducible first|exact HB.out|apply bwA|apply bwN|apply bw1|refine below_set ?_ GE471.out)|exact HB.out)⟩⟩
   case rest =>
    clear HC33
    try clear c1
    try clear p2
    try clear c3
    try clear c4
    try clear c5
    try clear c7
    try clear c9
    try clear c11
    try clear c34
    try clear c36
    try clear c38
    try clear c39
    try clear c39b0
    try clear c39b1
    try clear c41
    try clear hcz13_0
    try clear hcz13_1
    try clear hcz13_2
    try clear hcz13_3
    try clear hcz13_4
    try clear hcz13_5
    try clear hcz13_6
    try clear hcz13_7
    try clear hcz15_0
    try clear hcz15_1
    try clear hcz15_2
    try clear hcz15_3
    try clear hcz15_4
    try clear hcz15_5
    try clear hcz15_6
    try clear hcz15_7
    try clear hcz17_0
    try clear hcz17_1
    try clear hcz17_2
    try clear hcz17_3
    try clear hcz17_4
    try clear hcz17_5
    try clear hcz17_6
    try clear hcz17_7
    try clear hcz19_0
    try clear hcz19_1
    try clear hcz19_2
    try clear hcz19_3
    try clear hcz19_4
    try clear hcz19_5
    try clear hcz19_6
    try clear hcz19_7
    try clear hcz21_0
    try clear hcz21_1
    try clear hcz21_2
    try clear hcz21_3
    try clear hcz21_4
    try clear hcz21_5
    try clear hcz21_6
    try clear hcz21_7
    try clear hcz23_0
    try clear hcz23_1
    try clear hcz23_2
    try clear hcz23_3
    try clear hcz23_4
    try clear hcz23_5
    try clear hcz23_6
    try clear hcz23_7
    try clear hcz24_0
    try clear hcz24_1
    try clear hcz24_2
    try clear hcz24_3
    try clear hcz24_4
    try clear hcz24_5
    try clear hcz24_6
    try clear hcz24_7
    try clear hcz26_0
    try clear hcz26_1
    try clear hcz26_2
    try clear hcz26_3
    try clear hcz26_4
    try clear hcz26_5
    try clear hcz26_6
    try clear hcz26_7
    try clear hcz28_0
    try clear hcz28_1
    try clear hcz28_2
    try clear hcz28_3
    try clear hcz28_4
    try clear hcz28_5
    try clear hcz28_6
    try clear hcz28_7
    try clear hcz30_0
    try clear hcz30_1
    try clear hcz30_2
    try clear hcz30_3
    try clear hcz30_4
    try clear hcz30_5
    try clear hcz30_6
    try clear hcz30_7
    try clear hcz31_0
    try clear hcz31_1
    try clear hcz31_2
    try clear hcz31_3
    try clear hcz31_4
    try clear hcz31_5
    try clear hcz31_6
    try clear hcz31_7
    try clear hcz40_0
    try clear hcz40_1
    try clear hcz40_2
    try clear hcz40_3
    try clear hcz40_4
    try clear hcz40_5
    try clear hcz40_6
    try clear hcz40_7
    try clear hcz42_0
    try clear hcz42_1
    try clear hcz42_2
    try clear hcz42_3
    try clear hcz42_4
    try clear hcz42_5
    try clear hcz42_6
    try clear hcz42_7
    try clear hcz43_0
    try clear hcz43_1
    try clear hcz43_2
    try clear hcz43_3
    try clear hcz43_4
    try clear hcz43_5
    try clear hcz43_6
    try clear hcz43_7
    try clear hcz44_0
    try clear hcz44_1
    try clear hcz44_2
    try clear hcz44_3
    try clear hcz44_4
    try clear hcz44_5
    try clear hcz44_6
    try clear hcz44_7
    try clear hfz13_0
    try clear hfz13_1
    try clear hfz13_2
    try clear hfz13_3
    try clear hfz13_4
    try clear hfz13_5
    try clear hfz13_6
    try clear hfz13_7
    try clear hfz15_0
    try clear hfz15_1
    try clear hfz15_2
    try clear hfz15_3
    try clear hfz15_4
    try clear hfz15_5
    try clear hfz15_6
    try clear hfz15_7
    try clear hfz17_0
    try clear hfz17_1
    try clear hfz17_2
    try clear hfz17_3
    try clear hfz17_4
    try clear hfz17_5
    try clear hfz17_6
    try clear hfz17_7
    try clear hfz19_0
    try clear hfz19_1
    try clear hfz19_2
    try clear hfz19_3
    try clear hfz19_4
    try clear hfz19_5
    try clear hfz19_6
    try clear hfz19_7
    try clear hfz21_0
    try clear hfz21_1
    try clear hfz21_2
    try clear hfz21_3
    try clear hfz21_4
    try clear hfz21_5
    try clear hfz21_6
    try clear hfz21_7
    try clear hfz23_0
    try clear hfz23_1
    try clear hfz23_2
    try clear hfz23_3
    try clear hfz23_4
    try clear hfz23_5
    try clear hfz23_6
    try clear hfz23_7
    try clear hfz24_0
    try clear hfz24_1
    try clear hfz24_2
    try clear hfz24_3
    try clear hfz24_4
    try clear hfz24_5
    try clear hfz24_6
    try clear hfz24_7
    try clear hfz26_0
    try clear hfz26_1
    try clear hfz26_2
    try clear hfz26_3
    try clear hfz26_4
    try clear hfz26_5
    try clear hfz26_6
    try clear hfz26_7
    try clear hfz28_0
    try clear hfz28_1
    try clear hfz28_2
    try clear hfz28_3
    try clear hfz28_4
    try clear hfz28_5
    try clear hfz28_6
    try clear hfz28_7
    try clear hfz30_0
    try clear hfz30_1
    try clear hfz30_2
    try clear hfz30_3
    try clear hfz30_4
    try clear hfz30_5
    try clear hfz30_6
    try clear hfz30_7
    try clear hfz31_0
    try clear hfz31_1
    try clear hfz31_2
    try clear hfz31_3
    try clear hfz31_4
    try clear hfz31_5
    try clear hfz31_6
    try clear hfz31_7
    try clear hfz40_0
    try clear hfz40_1
    try clear hfz40_2
    try clear hfz40_3
    try clear hfz40_4
    try clear hfz40_5
    try clear hfz40_6
    try clear hfz40_7
    try clear hfz42_0
    try clear hfz42_1
    try clear hfz42_2
    try clear hfz42_3
    try clear hfz42_4
    try clear hfz42_5
    try clear hfz42_6
    try clear hfz42_7
    try clear hfz43_0
    try clear hfz43_1
    try clear hfz43_2
    try clear hfz43_3
    try clear hfz43_4
    try clear hfz43_5
    try clear hfz43_6
    try clear hfz43_7
    try clear hfz44_0
    try clear hfz44_1
    try clear hfz44_2
    try clear hfz44_3
    try clear hfz44_4
    try clear hfz44_5
    try clear hfz44_6
    try clear hfz44_7
    try clear p2
    obtain ⟨kq,x60_32,rfl,HA,HJ32,BK471,HB⟩:=hcut
    cases kq with
    | zero => exact absurd HA.out (by simp [impl_ConfigOK.j1])
    | succ kj32 =>
     have H:=HA.out
     clear HA
     simp only [impl_ConfigOK.j1] at H
     by_cases c45 : x60_32 = true
     ·subst c45
      have H1 : (some false) = some r:=by rw [if_pos rfl] at H;exact H
      clear H
      have H:=H1
      clear H1
      obtain rfl:=Option.some.inj H
      go_wp2
      go_ret
      exact ⟨eRf,by repeat (first|(with_reducible first|exact HB.out|apply bwA|apply bwN|apply bw1|refine below_set ?_ GE471.out)|exact HB.out)⟩
     ·replace c45:=Bool.eq_false_iff.mpr c45
      subst c45
      have H1 : ((impl_Place_74.f kj32 l0_6).bind fun t480 => (if t480 = true then (some false) else (impl_ConfigOK.l0 kj32 l0_7 (l0_7.length : Int) 0 a0_0 a0_1 a0_2 a0_3 a0_4 a0_5 l0_6 l0_7))) = some r:=by rw [if_neg (show ¬ (false = true) by decide)] at H;exact H
      clear H
      have H:=H1
      clear H1
      replace H:=Option.bind_eq_some_iff.mp H
      obtain ⟨t480,A460,H⟩:=H
      replace H : (if t480 = true then (some false) else (impl_ConfigOK.l0 kj32 l0_7 (l0_7.length : Int) 0 a0_0 a0_1 a0_2 a0_3 a0_4 a0_5 l0_6 l0_7)) = some r:=H
      have A46:=aMk A460
      clear A460
      by_cases c47 : t480 = true
      ·subst c47
       have H1 : (some false) = some r:=by rw [if_pos rfl] at H;exact H
       clear H
       have H:=H1
       clear H1
       obtain rfl:=Option.some.inj H
       obtain ⟨hcz48_0,hcz48_1,hcz48_2,hcz48_3,hcz48_4,hcz48_5,hcz48_6,hcz48_7,hfz48_0,hfz48_1,hfz48_2,hfz48_3,hfz48_4,hfz48_5,hfz48_6,hfz48_7⟩:=bC8 BK471.out
       go_wp2_with (first|((with_reducible refine gate_callee (f:=74) rfl ?_);refine gLs 63 Try.func74 #[.slice A0_6 l0_6.length c0_6,.func (.func 75) #[] #[]] ?_;(with_reducible refine (impl_Place_74.calls kj32 _ _ l0_6 true _ ?side1 ?side2 A46.out).mono ?_);(case side1 => repeat (first|exact (Kd.C_below HR0_6.out HB.out)|(with_reducible refine Kd.C_alloc ?_ _)|(with_reducible refine Kd.C_drewN ?_ _)|(with_reducible refine Kd.C_drew ?_)));(case side2 => exact HC0_6.out);rintro e w49 ⟨rfl,hb⟩;refine ⟨_,rfl,?_⟩;have n0_:=aMk (bkB BK471.out hb);have n1_:=aMk (below_step (by repeat (first|(with_reducible first|exact HB.out|apply bwA|apply bwN|apply bw1|refine below_set ?_ GE471.out)|exact HB.out)) hb);clear BK471;clear HB;have BK471:=n0_;have HB:=n1_;clear n0_ n1_;(try clear hb);(try clear hb2);(try clear hk);(try clear hi)))
       go_ret
       exact ⟨eRf,by repeat (first|(with_reducible first|exact HB.out|apply bwA|apply bwN|apply bw1|refine below_set ?_ GE471.out)|exact HB.out)⟩
      ·replace c47:=Bool.eq_false_iff.mpr c47
       subst c47
       have H1 : (impl_ConfigOK.l0 kj32 l0_7 (l0_7.length : Int) 0 a0_0 a0_1 a0_2 a0_3 a0_4 a0_5 l0_6 l0_7) = some r:=by rw [if_neg (show ¬ (false = true) by decide)] at H;exact H
       clear H
       have H:=H1
       clear H1
       have H':=aMk H
       clear H
       obtain ⟨hcz50_0,hcz50_1,hcz50_2,hcz50_3,hcz50_4,hcz50_5,hcz50_6,hcz50_7,hfz50_0,hfz50_1,hfz50_2,hfz50_3,hfz50_4,hfz50_5,hfz50_6,hfz50_7⟩:=bC8 BK471.out
       go_wp2_with (first|((with_reducible refine gate_callee (f:=74) rfl ?_);refine gLs 63 Try.func74 #[.slice A0_6 l0_6.length c0_6,.func (.func 75) #[] #[]] ?_;(with_reducible refine (impl_Place_74.calls kj32 _ _ l0_6 false _ ?side1 ?side2 A46.out).mono ?_);(case side1 => repeat (first|exact (Kd.C_below HR0_6.out HB.out)|(with_reducible refine Kd.C_alloc ?_ _)|(with_reducible refine Kd.C_drewN ?_ _)|(with_reducible refine Kd.C_drew ?_)));(case side2 => exact HC0_6.out);rintro e w51 ⟨rfl,hb⟩;refine ⟨_,rfl,?_⟩;have n0_:=aMk (bkB BK471.out hb);have n1_:=aMk (below_step (by repeat (first|(with_reducible first|exact HB.out|apply bwA|apply bwN|apply bw1|refine below_set ?_ GE471.out)|exact HB.out)) hb);clear BK471;clear HB;have BK471:=n0_;have HB:=n1_;clear n0_ n1_;(try clear hb);(try clear hb2);(try clear hk);(try clear hi);obtain ⟨hcz52_0,hcz52_1,hcz52_2,hcz52_3,hcz52_4,hcz52_5,hcz52_6,hcz52_7,hfz52_0,hfz52_1,hfz52_2,hfz52_3,hfz52_4,hfz52_5,hfz52_6,hfz52_7⟩:=bC8 BK471.out))
       go_loopg [67] kj32 (fun kq v67 w' => ∃ (x67_3 : Int),v67 = .int .i64 x67_3 ∧ Aside0 (impl_ConfigOK.l0 kq l0_7 (l0_7.length : Int) x67_3 a0_0 a0_1 a0_2 a0_3 a0_4 a0_5 l0_6 l0_7 = some r) ∧ Aside0 (kq ≤ kj32) ∧ Aside0 (w'.heap[gb471]? = some (.cells #[.int .i64 a0_0,.int .i64 a0_1,.int .i64 a0_2,.string a0_3,.string a0_4,.int .i64 a0_5,(.slice A0_6 l0_6.length c0_6),(.slice A0_7 l0_7.length c0_7)] 70 (0,0))) ∧ Aside0 (Below w.heap.size w w'))
       case atStart => exact ⟨(0),(by first | rfl|(simp;done)|(simp [*];done)|(simp [ne_nil_b];done)|(simp [ne_nil_b, *];done)),H',⟨Nat.le_refl _⟩,⟨by (with_reducible repeat (first|refine bDn ?_ _|refine bDr ?_|refine bAl ?_ _));exact BK471.out⟩,⟨by repeat (first|(with_reducible first|exact HB.out|apply bwA|apply bwN|apply bw1|refine below_set ?_ GE471.out)|exact HB.out)⟩⟩
       case round =>
        clear H'
        try clear c1
        try clear p2
        try clear c3
        try clear c4
        try clear c5
        try clear c7
        try clear c9
        try clear c11
        try clear c34
        try clear c36
        try clear c38
        try clear c39
        try clear c39b0
        try clear c39b1
        try clear c41
        try clear c45
        try clear c47
        try clear hcz13_0
        try clear hcz13_1
        try clear hcz13_2
        try clear hcz13_3
        try clear hcz13_4
        try clear hcz13_5
        try clear hcz13_6
        try clear hcz13_7
        try clear hcz15_0
        try clear hcz15_1
        try clear hcz15_2
        try clear hcz15_3
        try clear hcz15_4
        try clear hcz15_5
        try clear hcz15_6
        try clear hcz15_7
        try clear hcz17_0
        try clear hcz17_1
        try clear hcz17_2
        try clear hcz17_3
        try clear hcz17_4
        try clear hcz17_5
        try clear hcz17_6
        try clear hcz17_7
        try clear hcz19_0
        try clear hcz19_1
        try clear hcz19_2
        try clear hcz19_3
        try clear hcz19_4
        try clear hcz19_5
        try clear hcz19_6
        try clear hcz19_7
        try clear hcz21_0
        try clear hcz21_1
        try clear hcz21_2
        try clear hcz21_3
        try clear hcz21_4
        try clear hcz21_5
        try clear hcz21_6
        try clear hcz21_7
        try clear hcz23_0
        try clear hcz23_1
        try clear hcz23_2
        try clear hcz23_3
        try clear hcz23_4
        try clear hcz23_5
        try clear hcz23_6
        try clear hcz23_7
        try clear hcz24_0
        try clear hcz24_1
        try clear hcz24_2
        try clear hcz24_3
        try clear hcz24_4
        try clear hcz24_5
        try clear hcz24_6
        try clear hcz24_7
        try clear hcz26_0
        try clear hcz26_1
        try clear hcz26_2
        try clear hcz26_3
        try clear hcz26_4
        try clear hcz26_5
        try clear hcz26_6
        try clear hcz26_7
        try clear hcz28_0
        try clear hcz28_1
        try clear hcz28_2
        try clear hcz28_3
        try clear hcz28_4
        try clear hcz28_5
        try clear hcz28_6
        try clear hcz28_7
        try clear hcz30_0
        try clear hcz30_1
        try clear hcz30_2
        try clear hcz30_3
        try clear hcz30_4
        try clear hcz30_5
        try clear hcz30_6
        try clear hcz30_7
        try clear hcz31_0
        try clear hcz31_1
        try clear hcz31_2
        try clear hcz31_3
        try clear hcz31_4
        try clear hcz31_5
        try clear hcz31_6
        try clear hcz31_7
        try clear hcz40_0
        try clear hcz40_1
        try clear hcz40_2
        try clear hcz40_3
        try clear hcz40_4
        try clear hcz40_5
        try clear hcz40_6
        try clear hcz40_7
        try clear hcz42_0
        try clear hcz42_1
        try clear hcz42_2
        try clear hcz42_3
        try clear hcz42_4
        try clear hcz42_5
        try clear hcz42_6
        try clear hcz42_7
        try clear hcz43_0
        try clear hcz43_1
        try clear hcz43_2
        try clear hcz43_3
        try clear hcz43_4
        try clear hcz43_5
        try clear hcz43_6
        try clear hcz43_7
        try clear hcz44_0
        try clear hcz44_1
        try clear hcz44_2
        try clear hcz44_3
        try clear hcz44_4
        try clear hcz44_5
        try clear hcz44_6
        try clear hcz44_7
        try clear hcz48_0
        try clear hcz48_1
        try clear hcz48_2
        try clear hcz48_3
        try clear hcz48_4
        try clear hcz48_5
        try clear hcz48_6
        try clear hcz48_7
        try clear hcz50_0
        try clear hcz50_1
        try clear hcz50_2
        try clear hcz50_3
        try clear hcz50_4
        try clear hcz50_5
        try clear hcz50_6
        try clear hcz50_7
        try clear hcz52_0
        try clear hcz52_1
        try clear hcz52_2
        try clear hcz52_3
        try clear hcz52_4
        try clear hcz52_5
        try clear hcz52_6
        try clear hcz52_7
        try clear hfz13_0
        try clear hfz13_1
        try clear hfz13_2
        try clear hfz13_3
        try clear hfz13_4
        try clear hfz13_5
        try clear hfz13_6
        try clear hfz13_7
        try clear hfz15_0
        try clear hfz15_1
        try clear hfz15_2
        try clear hfz15_3
        try clear hfz15_4
        try clear hfz15_5
        try clear hfz15_6
        try clear hfz15_7
        try clear hfz17_0
        try clear hfz17_1
        try clear hfz17_2
        try clear hfz17_3
        try clear hfz17_4
        try clear hfz17_5
        try clear hfz17_6
        try clear hfz17_7
        try clear hfz19_0
        try clear hfz19_1
        try clear hfz19_2
        try clear hfz19_3
        try clear hfz19_4
        try clear hfz19_5
        try clear hfz19_6
        try clear hfz19_7
        try clear hfz21_0
        try clear hfz21_1
        try clear hfz21_2
        try clear hfz21_3
        try clear hfz21_4
        try clear hfz21_5
        try clear hfz21_6
        try clear hfz21_7
        try clear hfz23_0
        try clear hfz23_1
        try clear hfz23_2
        try clear hfz23_3
        try clear hfz23_4
        try clear hfz23_5
        try clear hfz23_6
        try clear hfz23_7
        try clear hfz24_0
        try clear hfz24_1
        try clear hfz24_2
        try clear hfz24_3
        try clear hfz24_4
        try clear hfz24_5
        try clear hfz24_6
        try clear hfz24_7
        try clear hfz26_0
        try clear hfz26_1
        try clear hfz26_2
        try clear hfz26_3
        try clear hfz26_4
        try clear hfz26_5
        try clear hfz26_6
        try clear hfz26_7
        try clear hfz28_0
        try clear hfz28_1
        try clear hfz28_2
        try clear hfz28_3
        try clear hfz28_4
        try clear hfz28_5
        try clear hfz28_6
        try clear hfz28_7
        try clear hfz30_0
        try clear hfz30_1
        try clear hfz30_2
        try clear hfz30_3
        try clear hfz30_4
        try clear hfz30_5
        try clear hfz30_6
        try clear hfz30_7
        try clear hfz31_0
        try clear hfz31_1
        try clear hfz31_2
        try clear hfz31_3
        try clear hfz31_4
        try clear hfz31_5
        try clear hfz31_6
        try clear hfz31_7
        try clear hfz40_0
        try clear hfz40_1
        try clear hfz40_2
        try clear hfz40_3
        try clear hfz40_4
        try clear hfz40_5
        try clear hfz40_6
        try clear hfz40_7
        try clear hfz42_0
        try clear hfz42_1
        try clear hfz42_2
        try clear hfz42_3
        try clear hfz42_4
        try clear hfz42_5
        try clear hfz42_6
        try clear hfz42_7
        try clear hfz43_0
        try clear hfz43_1
        try clear hfz43_2
        try clear hfz43_3
        try clear hfz43_4
        try clear hfz43_5
        try clear hfz43_6
        try clear hfz43_7
        try clear hfz44_0
        try clear hfz44_1
        try clear hfz44_2
        try clear hfz44_3
        try clear hfz44_4
        try clear hfz44_5
        try clear hfz44_6
        try clear hfz44_7
        try clear hfz48_0
        try clear hfz48_1
        try clear hfz48_2
        try clear hfz48_3
        try clear hfz48_4
        try clear hfz48_5
        try clear hfz48_6
        try clear hfz48_7
        try clear hfz50_0
        try clear hfz50_1
        try clear hfz50_2
        try clear hfz50_3
        try clear hfz50_4
        try clear hfz50_5
        try clear hfz50_6
        try clear hfz50_7
        try clear hfz52_0
        try clear hfz52_1
        try clear hfz52_2
        try clear hfz52_3
        try clear hfz52_4
        try clear hfz52_5
        try clear hfz52_6
        try clear hfz52_7
        try clear p2
        obtain ⟨x67_3,rfl,HA,HK3,BK471,HB⟩:=hrel
        cases gk with
        | zero => exact absurd HA.out (by simp [impl_ConfigOK.l0])
        | succ k3 =>
         have H:=HA.out
         clear HA
         simp only [impl_ConfigOK.l0] at H
         by_cases c53 : x67_3 < (l0_7.length : Int)
         ·rw [if_pos c53] at H
          have c53b0 : decide (x67_3 < (l0_7.length : Int)) = true:=decide_eq_true c53
          clear c53
          by_cases c54 : 0 ≤ x67_3
          ·rw [if_pos c54] at H
           have c54b0 : decide (0 ≤ x67_3) = true:=decide_eq_true c54
           clear c54
           by_cases c55 : x67_3 < (l0_7.length : Int)
           ·rw [if_pos c55] at H
            have c55b0 : decide (x67_3 < (l0_7.length : Int)) = true:=decide_eq_true c55
            clear c55
            replace H:=Option.bind_eq_some_iff.mp H
            obtain ⟨t483,A560,H⟩:=H
            replace H : (if t483 = true then (if x67_3 > 0 then (if 0 ≤ (wrap64 (x67_3 - 1)) then (if (wrap64 (x67_3 - 1)) < (l0_7.length : Int) then (if ((Op.bytesLess (((rd_T54 l0_7 (wrap64 (x67_3 - 1))).f0).toList) (((rd_T54 l0_7 x67_3).f0).toList)) = true) then (impl_ConfigOK.l0 k3 l0_7 (l0_7.length : Int) (wrap64 (x67_3 + 1)) a0_0 a0_1 a0_2 a0_3 a0_4 a0_5 l0_6 l0_7) else (some false)) else (none)) else (none)) else (impl_ConfigOK.l0 k3 l0_7 (l0_7.length : Int) (wrap64 (x67_3 + 1)) a0_0 a0_1 a0_2 a0_3 a0_4 a0_5 l0_6 l0_7)) else (some false)) = some r:=H
            have A56:=aMk A560
            clear A560
            by_cases c57 : t483 = true
            ·subst c57
             have H1 : (if x67_3 > 0 then (if 0 ≤ (wrap64 (x67_3 - 1)) then (if (wrap64 (x67_3 - 1)) < (l0_7.length : Int) then (if ((Op.bytesLess (((rd_T54 l0_7 (wrap64 (x67_3 - 1))).f0).toList) (((rd_T54 l0_7 x67_3).f0).toList)) = true) then (impl_ConfigOK.l0 k3 l0_7 (l0_7.length : Int) (wrap64 (x67_3 + 1)) a0_0 a0_1 a0_2 a0_3 a0_4 a0_5 l0_6 l0_7) else (some false)) else (none)) else (none)) else (impl_ConfigOK.l0 k3 l0_7 (l0_7.length : Int) (wrap64 (x67_3 + 1)) a0_0 a0_1 a0_2 a0_3 a0_4 a0_5 l0_6 l0_7)) = some r:=by rw [if_pos rfl] at H;exact H
             clear H
             have H:=H1
             clear H1
             by_cases c58 : x67_3 > 0
             ·rw [if_pos c58] at H
              have c58b0 : decide (0 < x67_3) = true:=decide_eq_true c58
              clear c58
              obtain ⟨ji59,hji59⟩ : ∃ j_ : Int,(wrap64 (x67_3 - 1)) = j_:=⟨_,rfl⟩
              replace H : (if 0 ≤ (ji59) then (if (ji59) < (l0_7.length : Int) then (if ((Op.bytesLess (((rd_T54 l0_7 (ji59)).f0).toList) (((rd_T54 l0_7 x67_3).f0).toList)) = true) then (impl_ConfigOK.l0 k3 l0_7 (l0_7.length : Int) (wrap64 (x67_3 + 1)) a0_0 a0_1 a0_2 a0_3 a0_4 a0_5 l0_6 l0_7) else (some false)) else (none)) else (none)) = some r:=by first|(rw [hji59] at H;exact H)|(simp only [hji59] at H ⊢;exact H)
              (try rw [hji59] at A56)
              have hji59w : (IntKind.i64.wrap (x67_3 - 1)) = ji59:=(i64_w _).trans hji59
              by_cases c60 : 0 ≤ (ji59)
              ·rw [if_pos c60] at H
               have c60b0 : decide (0 ≤ (ji59)) = true:=decide_eq_true c60
               clear c60
               by_cases c61 : (ji59) < (l0_7.length : Int)
               ·rw [if_pos c61] at H
                have c61b0 : decide ((ji59) < (l0_7.length : Int)) = true:=decide_eq_true c61
                clear c61
                by_cases c62 : ((Op.bytesLess (((rd_T54 l0_7 (ji59)).f0).toList) (((rd_T54 l0_7 x67_3).f0).toList)) = true)
                ·rw [if_pos c62] at H
                 have c62b0 : (Op.bytesLess (((rd_T54 l0_7 (ji59)).f0).toList) (((rd_T54 l0_7 x67_3).f0).toList)) = true:=c62
                 clear c62
                 have H':=aMk H
                 clear H
                 have p481 : 0 ≤ (x67_3 : Int):=of_decide_eq_true (by first|(with_reducible assumption) | assumption)
                 have q481 : x67_3 < (l0_7.length : Int):=of_decide_eq_true (by first|(with_reducible assumption) | assumption)
                 obtain ⟨ad481,A481_1,c481_1,e481,hx481_0,hx481_1,hx481_2,hx481_3,hx481_4,hl481_1,hi481_1⟩:=at_T54 HR0_7.out x67_3 p481 q481
                 cases e481
                 replace hx481_0:=bXc HB.out hx481_0
                 replace hx481_1:=bXc HB.out hx481_1
                 replace hx481_2:=bXc HB.out hx481_2
                 replace hx481_3:=bXc HB.out hx481_3
                 replace hx481_4:=bXc HB.out hx481_4
                 have HR481_1:=aMk hi481_1
                 have HC481_1:=aMk hl481_1
                 clear hi481_1 hl481_1
                 replace p481:=eq_true p481
                 replace q481:=eq_true q481
                 try go_wp2_with (first|((with_reducible refine gate_dst (N:=5) rfl ?_);(try (refine gate_guard (by rfl) ?_;dsimp only));refine bxE (N:=5) (cs:=#[.string (⟨#[]⟩ : ByteArray),.slice none 0 0,.int .i64 0,.int .i64 0,.int .i64 0]) (t:=54) ?_;intro gb482 hg w63 hbox hb;have n0_:=aMk (bkB BK471.out hb);have n1_:=aMk (below_step (by repeat (first|(with_reducible first|exact HB.out|apply bwA|apply bwN|apply bw1|refine below_set ?_ GE471.out)|exact HB.out)) hb);have n2_:=aMk (hbox);have n3_:=aMk ((by rw [hg];exact (below_size (by repeat (first|(with_reducible first|exact HB.out|apply bwA|apply bwN|apply bw1|refine below_set ?_ GE471.out)|exact HB.out))) : w.heap.size ≤ gb482));have n4_:=aMk ((by rw [hg];exact (below_size (by repeat (first|(with_reducible first|exact HB.out|apply bwA|apply bwN|apply bw1|refine below_set ?_ GE471.out)|exact HB.out))) : w.heap.size ≤ gb482));have n5_:=aMk ((bkL BK471.out hg : gb471 ≠ gb482));have n6_:=aMk ((bkG BK471.out hg : gb482 ≠ gb471));clear BK471;clear HB;have BK471:=n0_;have HB:=n1_;have BK482:=n2_;have GW482:=n3_;have GE482:=n4_;have NB471_482:=n5_;have NB482_471:=n6_;clear n0_ n1_ n2_ n3_ n4_ n5_ n6_;clear hb hbox hg;have hnb64:=NB482_471.out;have hnc64:=NB471_482.out;obtain ⟨hcz65_0,hcz65_1,hcz65_2,hcz65_3,hcz65_4,hfz65_0,hfz65_1,hfz65_2,hfz65_3,hfz65_4⟩:=bC5 BK482.out))
                 have n0_ : Aside0 ((((((w63.setCell ⟨gb482,0,none⟩ (.string ((rd_T54 l0_7 x67_3).f0))).setCell ⟨gb482,1,none⟩ (.slice A481_1 ((rd_T54 l0_7 x67_3).f1).length c481_1)).setCell ⟨gb482,2,none⟩ (.int .i64 ((rd_T54 l0_7 x67_3).f2))).setCell ⟨gb482,3,none⟩ (.int .i64 ((rd_T54 l0_7 x67_3).f3))).setCell ⟨gb482,4,none⟩ (.int .i64 ((rd_T54 l0_7 x67_3).f4))).heap[gb471]? = some (.cells #[.int .i64 a0_0,.int .i64 a0_1,.int .i64 a0_2,.string a0_3,.string a0_4,.int .i64 a0_5,.slice A0_6 l0_6.length c0_6,.slice (some ad481) l0_7.length c0_7] 70 (0,0))):=⟨by (with_reducible repeat (first|refine bDn ?_ _|refine bDr ?_|refine bAl ?_ _));refine blk_far ?_ NB471_482.out _;(with_reducible repeat (first|refine bDn ?_ _|refine bDr ?_|refine bAl ?_ _));refine blk_far ?_ NB471_482.out _;(with_reducible repeat (first|refine bDn ?_ _|refine bDr ?_|refine bAl ?_ _));refine blk_far ?_ NB471_482.out _;(with_reducible repeat (first|refine bDn ?_ _|refine bDr ?_|refine bAl ?_ _));refine blk_far ?_ NB471_482.out _;(with_reducible repeat (first|refine bDn ?_ _|refine bDr ?_|refine bAl ?_ _));refine blk_far ?_ NB471_482.out _;(with_reducible repeat (first|refine bDn ?_ _|refine bDr ?_|refine bAl ?_ _));exact BK471.out⟩
                 have n1_ : Aside0 ((((((w63.setCell ⟨gb482,0,none⟩ (.string ((rd_T54 l0_7 x67_3).f0))).setCell ⟨gb482,1,none⟩ (.slice A481_1 ((rd_T54 l0_7 x67_3).f1).length c481_1)).setCell ⟨gb482,2,none⟩ (.int .i64 ((rd_T54 l0_7 x67_3).f2))).setCell ⟨gb482,3,none⟩ (.int .i64 ((rd_T54 l0_7 x67_3).f3))).setCell ⟨gb482,4,none⟩ (.int .i64 ((rd_T54 l0_7 x67_3).f4))).heap[gb482]? = some (.cells #[.string ((rd_T54 l0_7 x67_3).f0),.slice A481_1 ((rd_T54 l0_7 x67_3).f1).length c481_1,.int .i64 ((rd_T54 l0_7 x67_3).f2),.int .i64 ((rd_T54 l0_7 x67_3).f3),.int .i64 ((rd_T54 l0_7 x67_3).f4)] 54 (0,0))):=⟨by (with_reducible repeat (first|refine bDn ?_ _|refine bDr ?_|refine bAl ?_ _));refine blk_put (cs:=#[.string ((rd_T54 l0_7 x67_3).f0),.slice A481_1 ((rd_T54 l0_7 x67_3).f1).length c481_1,.int .i64 ((rd_T54 l0_7 x67_3).f2),.int .i64 ((rd_T54 l0_7 x67_3).f3),.int .i64 0]) ?_ 4 _ rfl;(with_reducible repeat (first|refine bDn ?_ _|refine bDr ?_|refine bAl ?_ _));refine blk_put (cs:=#[.string ((rd_T54 l0_7 x67_3).f0),.slice A481_1 ((rd_T54 l0_7 x67_3).f1).length c481_1,.int .i64 ((rd_T54 l0_7 x67_3).f2),.int .i64 0,.int .i64 0]) ?_ 3 _ rfl;(with_reducible repeat (first|refine bDn ?_ _|refine bDr ?_|refine bAl ?_ _));refine blk_put (cs:=#[.string ((rd_T54 l0_7 x67_3).f0),.slice A481_1 ((rd_T54 l0_7 x67_3).f1).length c481_1,.int .i64 0,.int .i64 0,.int .i64 0]) ?_ 2 _ rfl;(with_reducible repeat (first|refine bDn ?_ _|refine bDr ?_|refine bAl ?_ _));refine blk_put (cs:=#[.string ((rd_T54 l0_7 x67_3).f0),.slice none 0 0,.int .i64 0,.int .i64 0,.int .i64 0]) ?_ 1 _ rfl;(with_reducible repeat (first|refine bDn ?_ _|refine bDr ?_|refine bAl ?_ _));refine blk_put (cs:=#[.string (⟨#[]⟩ : ByteArray),.slice none 0 0,.int .i64 0,.int .i64 0,.int .i64 0]) ?_ 0 _ rfl;(with_reducible repeat (first|refine bDn ?_ _|refine bDr ?_|refine bAl ?_ _));exact BK482.out⟩
                 have n2_ : Aside0 (Below w.heap.size w (((((w63.setCell ⟨gb482,0,none⟩ (.string ((rd_T54 l0_7 x67_3).f0))).setCell ⟨gb482,1,none⟩ (.slice A481_1 ((rd_T54 l0_7 x67_3).f1).length c481_1)).setCell ⟨gb482,2,none⟩ (.int .i64 ((rd_T54 l0_7 x67_3).f2))).setCell ⟨gb482,3,none⟩ (.int .i64 ((rd_T54 l0_7 x67_3).f3))).setCell ⟨gb482,4,none⟩ (.int .i64 ((rd_T54 l0_7 x67_3).f4)))):=⟨by repeat (first|(with_reducible first|exact HB.out|apply bwA|apply bwN|apply bw1|refine below_set ?_ GE471.out|refine below_set ?_ GE482.out)|exact HB.out)⟩
                 (try clear BK471)
                 (try clear BK482)
                 (try clear HB)
                 generalize (((((w63.setCell ⟨gb482,0,none⟩ (.string ((rd_T54 l0_7 x67_3).f0))).setCell ⟨gb482,1,none⟩ (.slice A481_1 ((rd_T54 l0_7 x67_3).f1).length c481_1)).setCell ⟨gb482,2,none⟩ (.int .i64 ((rd_T54 l0_7 x67_3).f2))).setCell ⟨gb482,3,none⟩ (.int .i64 ((rd_T54 l0_7 x67_3).f3))).setCell ⟨gb482,4,none⟩ (.int .i64 ((rd_T54 l0_7 x67_3).f4))) = w66 at n0_ n1_ n2_ ⊢
                 have BK471:=n0_
                 have BK482:=n1_
                 have HB:=n2_
                 clear n0_ n1_ n2_
                 have n0_:=aMk (bDr BK471.out)
                 have n1_:=aMk (bDr BK482.out)
                 have n2_:=aMk (bw1 HB.out)
                 clear BK471
                 clear BK482
                 clear HB
                 have BK471:=n0_
                 have BK482:=n1_
                 have HB:=n2_
                 clear n0_ n1_ n2_
                 have p484 : 0 ≤ ((ji59) : Int):=of_decide_eq_true (by first|(with_reducible assumption) | assumption)
                 have q484 : (ji59) < (l0_7.length : Int):=of_decide_eq_true (by first|(with_reducible assumption) | assumption)
                 obtain ⟨ad484,A484_1,c484_1,e484,hx484_0,hx484_1,hx484_2,hx484_3,hx484_4,hl484_1,hi484_1⟩:=at_T54 HR0_7.out (ji59) p484 q484
                 have hw484_4:=hx484_4
                 have hw484_3:=hx484_3
                 have hw484_2:=hx484_2
                 have hw484_1:=hx484_1
                 have hw484_0:=hx484_0
                 obtain rfl : ad481 = ad484:=(by injection e484)
                 replace hx484_0:=bXc HB.out hx484_0
                 replace hx484_1:=bXc HB.out hx484_1
                 replace hx484_2:=bXc HB.out hx484_2
                 replace hx484_3:=bXc HB.out hx484_3
                 replace hx484_4:=bXc HB.out hx484_4
                 have HR484_1:=aMk hi484_1
                 have HC484_1:=aMk hl484_1
                 clear hi484_1 hl484_1
                 replace p484:=eq_true p484
                 replace q484:=eq_true q484
                 refine start_ (n:=19) (S:=fun w' => w'.cell? ⟨gb482,0,none⟩ = some (.string ((rd_T54 l0_7 x67_3).f0)) ∧ w'.cell? ⟨gb482,1,none⟩ = some (.slice A481_1 ((rd_T54 l0_7 x67_3).f1).length c481_1) ∧ w'.cell? ⟨gb482,2,none⟩ = some (.int .i64 ((rd_T54 l0_7 x67_3).f2)) ∧ w'.cell? ⟨gb482,3,none⟩ = some (.int .i64 ((rd_T54 l0_7 x67_3).f3)) ∧ w'.cell? ⟨gb482,4,none⟩ = some (.int .i64 ((rd_T54 l0_7 x67_3).f4)) ∧ w'.cell? ⟨gb471,0,none⟩ = some (.int .i64 a0_0) ∧ w'.cell? ⟨gb471,1,none⟩ = some (.int .i64 a0_1) ∧ w'.cell? ⟨gb471,2,none⟩ = some (.int .i64 a0_2) ∧ w'.cell? ⟨gb471,3,none⟩ = some (.string a0_3) ∧ w'.cell? ⟨gb471,4,none⟩ = some (.string a0_4) ∧ w'.cell? ⟨gb471,5,none⟩ = some (.int .i64 a0_5) ∧ w'.cell? ⟨gb471,6,none⟩ = some (.slice A0_6 l0_6.length c0_6) ∧ w'.cell? ⟨gb471,7,none⟩ = some (.slice (some ad481) l0_7.length c0_7) ∧ w'.cell? (ad481.add (((ji59)).toNat * 5)) = some (.string ((rd_T54 l0_7 (ji59)).f0)) ∧ w'.cell? ⟨(ad481.add (((ji59)).toNat * 5)).block,(ad481.add (((ji59)).toNat * 5)).off + 1,none⟩ = some (.slice A484_1 ((rd_T54 l0_7 (ji59)).f1).length c484_1) ∧ w'.cell? ⟨(ad481.add (((ji59)).toNat * 5)).block,(ad481.add (((ji59)).toNat * 5)).off + 2,none⟩ = some (.int .i64 ((rd_T54 l0_7 (ji59)).f2)) ∧ w'.cell? ⟨(ad481.add (((ji59)).toNat * 5)).block,(ad481.add (((ji59)).toNat * 5)).off + 3,none⟩ = some (.int .i64 ((rd_T54 l0_7 (ji59)).f3)) ∧ w'.cell? ⟨(ad481.add (((ji59)).toNat * 5)).block,(ad481.add (((ji59)).toNat * 5)).off + 4,none⟩ = some (.int .i64 ((rd_T54 l0_7 (ji59)).f4))) (ds:=[]) #[false,false,false,false,false,false,false,false,false,false,false,false,false,false,false,false,false,false,false] (by kernel_rfl) rfl rfl ⟨(bCe BK482.out 0).trans rfl,(bCe BK482.out 1).trans rfl,(bCe BK482.out 2).trans rfl,(bCe BK482.out 3).trans rfl,(bCe BK482.out 4).trans rfl,(bCe BK471.out 0).trans rfl,(bCe BK471.out 1).trans rfl,(bCe BK471.out 2).trans rfl,(bCe BK471.out 3).trans rfl,(bCe BK471.out 4).trans rfl,(bCe BK471.out 5).trans rfl,(bCe BK471.out 6).trans rfl,(bCe BK471.out 7).trans rfl,((HB.out.cell (wLt w _ hw484_0)).trans hw484_0),((HB.out.cell (wLt w _ hw484_1)).trans hw484_1),((HB.out.cell (wLt w _ hw484_2)).trans hw484_2),((HB.out.cell (wLt w _ hw484_3)).trans hw484_3),((HB.out.cell (wLt w _ hw484_4)).trans hw484_4)⟩ (fun hHeld => ?_);refine with_tabW impl_ConfigOK.tab9 impl_ConfigOK.bits9 (fun HT_ HW_ => ?_)
                 generalize w66.drew = w67 at BK471 BK482 HB HR484_1 hx484_0 hx484_1 hx484_2 hx484_3 hx484_4 hHeld ⊢
                 refine take_ (i:=0) (N:=some 72) (v:=?_) (a':=?_) #[true,false,false,false,false,false,false,false,false,false,false,false,false,false,false,false,false,false,false] rfl rfl (take_ofW HT_.out HW_.out (by kernel_rfl)) (fun _ _ _ h => h) (Or.inl ⟨by rfl,?_⟩) hHeld ?_ ?_
                 rotate_left
                 ·rintro w' ⟨s0,s1,s2,s3,s4,s5,s6,s7,s8,s9,s10,s11,s12,s13,s14,s15,s16,s17⟩
                  go_simp
                  with_reducible rfl
                 rotate_left
                 ·simp only [Act.put,List.setIfInBounds_toArray,List.set_cons_zero,List.set_cons_succ,i64_w,i32_w]
                  rfl
                 refine one_ (i:=1) (N:=some 73) #[true,true,false,false,false,false,false,false,false,false,false,false,false,false,false,false,false,false,false] rfl rfl (one_of HT_.out (by kernel_rfl)) (by decide) (fun K hK => ?_)
                 refine goes_ Try.func25 (by kernel_rfl) rfl #[.agg #[.string ((rd_T54 l0_7 x67_3).f0),.slice A481_1 ((rd_T54 l0_7 x67_3).f1).length c481_1,.int .i64 ((rd_T54 l0_7 x67_3).f2),.int .i64 ((rd_T54 l0_7 x67_3).f3),.int .i64 ((rd_T54 l0_7 x67_3).f4)]] (by rfl) rfl rfl (by (try simp only [List.map_toArray,List.map_cons,List.map_nil]);first | done | rfl|(simp only [List.length_drop,List.length_take];rfl)) ?_
                 with_reducible refine (impl_RoleOK.calls k3 ((rd_T54 l0_7 x67_3).f0) _ _ ((rd_T54 l0_7 x67_3).f1) ((rd_T54 l0_7 x67_3).f2) ((rd_T54 l0_7 x67_3).f3) ((rd_T54 l0_7 x67_3).f4) true _ ?side1 ?side2 A56.out).mono ?_
                 (case side1 => repeat (first|exact (Kd.C_below HR481_1.out HB.out)|(with_reducible refine Kd.C_alloc ?_ _)|(with_reducible refine Kd.C_drewN ?_ _)|(with_reducible refine Kd.C_drew ?_)))
                 (case side2 => exact HC481_1.out)
                 rintro e w68 ⟨rfl,hb⟩
                 refine ⟨_,rfl,?_⟩
                 have n0_:=aMk (bkB BK471.out hb)
                 have n1_:=aMk (bkB BK482.out hb)
                 have n2_:=aMk (below_step (by repeat (first|(with_reducible first|exact HB.out|apply bwA|apply bwN|apply bw1|refine below_set ?_ GE471.out|refine below_set ?_ GE482.out)|exact HB.out)) hb)
                 clear BK471
                 clear BK482
                 clear HB
                 have BK471:=n0_
                 have BK482:=n1_
                 have HB:=n2_
                 clear n0_ n1_ n2_
                 (try clear hb)
                 (try clear hb2)
                 (try clear hk)
                 (try clear hi)
                 refine hK.out _ _ ⟨(bCe BK482.out 0).trans rfl,(bCe BK482.out 1).trans rfl,(bCe BK482.out 2).trans rfl,(bCe BK482.out 3).trans rfl,(bCe BK482.out 4).trans rfl,(bCe BK471.out 0).trans rfl,(bCe BK471.out 1).trans rfl,(bCe BK471.out 2).trans rfl,(bCe BK471.out 3).trans rfl,(bCe BK471.out 4).trans rfl,(bCe BK471.out 5).trans rfl,(bCe BK471.out 6).trans rfl,(bCe BK471.out 7).trans rfl,((HB.out.cell (wLt w _ hw484_0)).trans hw484_0),((HB.out.cell (wLt w _ hw484_1)).trans hw484_1),((HB.out.cell (wLt w _ hw484_2)).trans hw484_2),((HB.out.cell (wLt w _ hw484_3)).trans hw484_3),((HB.out.cell (wLt w _ hw484_4)).trans hw484_4)⟩ (fun hHeld => ?_)
                 clear hK K
                 refine norm_ (a':=?_) ?_ ?_
                 rotate_left
                 ·show Act.put _ (some 73) _ = _
                  simp only [Act.put,List.setIfInBounds_toArray,List.set_cons_zero,List.set_cons_succ,i64_w,i32_w]
                  rfl
                 refine pure_ (i:=2) (N:=some 74) (v:=?_) (a':=?_) #[true,true,true,false,false,false,false,false,false,false,false,false,false,false,false,false,false,false,false] rfl rfl (any_of HT_.out (by kernel_rfl)) (fun _ _ _ h => h) (Or.inl ⟨by rfl,?_⟩) ?_ ?_
                 rotate_left
                 ·intro w'
                  go_simp
                  with_reducible rfl
                 rotate_left
                 ·simp only [Act.put,List.setIfInBounds_toArray,List.set_cons_zero,List.set_cons_succ,i64_w,i32_w]
                  rfl
                 refine pure_ (i:=3) (N:=some 75) (v:=?_) (a':=?_) #[true,true,true,true,false,false,false,false,false,false,false,false,false,false,false,false,false,false,false] rfl rfl (any_of HT_.out (by kernel_rfl)) (fun _ _ _ h => h) (Or.inl ⟨by rfl,?_⟩) ?_ ?_
                 rotate_left
                 ·intro w'
                  go_simp
                  with_reducible rfl
                 rotate_left
                 ·simp only [Act.put,List.setIfInBounds_toArray,List.set_cons_zero,List.set_cons_succ,i64_w,i32_w]
                  rfl
                 refine pure_ (i:=4) (N:=some 76) (v:=?_) (a':=?_) #[true,true,true,true,true,false,false,false,false,false,false,false,false,false,false,false,false,false,false] rfl rfl (any_of HT_.out (by kernel_rfl)) (fun _ _ _ h => h) (Or.inl ⟨by rfl,?_⟩) ?_ ?_
                 rotate_left
                 ·intro w'
                  go_simp
                  with_reducible rfl
                 rotate_left
                 ·simp only [Act.put,List.setIfInBounds_toArray,List.set_cons_zero,List.set_cons_succ,i64_w,i32_w]
                  rfl
                 refine pure_ (i:=5) (N:=some 77) (v:=?_) (a':=?_) #[true,true,true,true,true,true,false,false,false,false,false,false,false,false,false,false,false,false,false] rfl rfl (any_of HT_.out (by kernel_rfl)) (fun _ _ _ h => h) (Or.inl ⟨by rfl,?_⟩) ?_ ?_
                 rotate_left
                 ·intro w'
                  go_simp
                  with_reducible rfl
                 rotate_left
                 ·simp only [Act.put,List.setIfInBounds_toArray,List.set_cons_zero,List.set_cons_succ,i64_w,i32_w]
                  rfl
                 refine pure_ (i:=6) (N:=some 78) (v:=?_) (a':=?_) #[true,true,true,true,true,true,true,false,false,false,false,false,false,false,false,false,false,false,false] rfl rfl (any_of HT_.out (by kernel_rfl)) (fun _ _ _ h => h) (Or.inl ⟨by rfl,?_⟩) ?_ ?_
                 rotate_left
                 ·intro w'
                  go_simp
                  with_reducible rfl
                 rotate_left
                 ·simp only [Act.put,List.setIfInBounds_toArray,List.set_cons_zero,List.set_cons_succ,i64_w,i32_w]
                  rfl
                 refine pure_ (i:=7) (N:=some 79) (v:=?_) (a':=?_) #[true,true,true,true,true,true,true,true,false,false,false,false,false,false,false,false,false,false,false] rfl rfl (any_of HT_.out (by kernel_rfl)) (fun _ _ _ h => h) (Or.inl ⟨by rfl,?_⟩) ?_ ?_
                 rotate_left
                 ·intro w'
                  go_simp
                  with_reducible rfl
                 rotate_left
                 ·simp only [Act.put,List.setIfInBounds_toArray,List.set_cons_zero,List.set_cons_succ,i64_w,i32_w]
                  rfl
                 refine pure_ (i:=9) (N:=some 81) (v:=?_) (a':=?_) #[true,true,true,true,true,true,true,true,false,true,false,false,false,false,false,false,false,false,false] rfl rfl (any_of HT_.out (by kernel_rfl)) (fun _ _ _ h => h) (Or.inl ⟨by rfl,?_⟩) ?_ ?_
                 rotate_left
                 ·intro w'
                  go_simp
                  with_reducible rfl
                 rotate_left
                 ·simp only [Act.put,List.setIfInBounds_toArray,List.set_cons_zero,List.set_cons_succ,i64_w,i32_w]
                  rfl
                 refine pure_ (i:=10) (N:=some 82) (v:=?_) (a':=?_) #[true,true,true,true,true,true,true,true,false,true,true,false,false,false,false,false,false,false,false] rfl rfl (any_of HT_.out (by kernel_rfl)) (fun _ _ _ h => h) (Or.inl ⟨by rfl,?_⟩) ?_ ?_
                 rotate_left
                 ·intro w'
                  go_simp
                  with_reducible rfl
                 rotate_left
                 ·simp only [Act.put,List.setIfInBounds_toArray,List.set_cons_zero,List.set_cons_succ,i64_w,i32_w]
                  rfl
                 refine pure_ (i:=14) (N:=some 86) (v:=?_) (a':=?_) #[true,true,true,true,true,true,true,true,false,true,true,false,false,false,true,false,false,false,false] rfl rfl (any_of HT_.out (by kernel_rfl)) (fun _ _ _ h => h) (Or.inl ⟨by rfl,?_⟩) ?_ ?_
                 rotate_left
                 ·intro w'
                  go_simp
                  with_reducible rfl
                 rotate_left
                 ·simp only [Act.put,List.setIfInBounds_toArray,List.set_cons_zero,List.set_cons_succ,i64_w,i32_w]
                  rfl
                 refine take_ (i:=8) (N:=some 80) (v:=?_) (a':=?_) #[true,true,true,true,true,true,true,true,true,true,true,false,false,false,true,false,false,false,false] rfl rfl (take_ofW HT_.out HW_.out (by kernel_rfl)) (fun _ _ _ h => h) (Or.inl ⟨by rfl,?_⟩) hHeld ?_ ?_
                 rotate_left
                 ·rintro w' ⟨s0,s1,s2,s3,s4,s5,s6,s7,s8,s9,s10,s11,s12,s13,s14,s15,s16,s17⟩
                  go_simp
                  with_reducible rfl
                 rotate_left
                 ·simp only [Act.put,List.setIfInBounds_toArray,List.set_cons_zero,List.set_cons_succ,i64_w,i32_w]
                  rfl
                 refine pure_ (i:=11) (N:=some 83) (v:=?_) (a':=?_) #[true,true,true,true,true,true,true,true,true,true,true,true,false,false,true,false,false,false,false] rfl rfl (any_of HT_.out (by kernel_rfl)) (fun _ _ _ h => h) (Or.inl ⟨by rfl,?_⟩) ?_ ?_
                 rotate_left
                 ·intro w'
                  go_simp
                  with_reducible rfl
                 rotate_left
                 ·simp only [Act.put,List.setIfInBounds_toArray,List.set_cons_zero,List.set_cons_succ,i64_w,i32_w]
                  rfl
                 refine pure_ (i:=12) (N:=some 84) (v:=?_) (a':=?_) #[true,true,true,true,true,true,true,true,true,true,true,true,true,false,true,false,false,false,false] rfl rfl (any_of HT_.out (by kernel_rfl)) (fun _ _ _ h => h) (Or.inl ⟨by rfl,?_⟩) ?_ ?_
                 rotate_left
                 ·intro w'
                  go_simp
                  with_reducible rfl
                 rotate_left
                 ·simp only [Act.put,List.setIfInBounds_toArray,List.set_cons_zero,List.set_cons_succ,i64_w,i32_w]
                  rfl
                 refine take_ (i:=13) (N:=some 85) (v:=?_) (a':=?_) #[true,true,true,true,true,true,true,true,true,true,true,true,true,true,true,false,false,false,false] rfl rfl (take_ofW HT_.out HW_.out (by kernel_rfl)) (fun _ _ _ h => h) (Or.inl ⟨by rfl,?_⟩) hHeld ?_ ?_
                 rotate_left
                 ·rintro w' ⟨s0,s1,s2,s3,s4,s5,s6,s7,s8,s9,s10,s11,s12,s13,s14,s15,s16,s17⟩
                  go_simp
                  with_reducible rfl
                 rotate_left
                 ·simp only [Act.put,List.setIfInBounds_toArray,List.set_cons_zero,List.set_cons_succ,i64_w,i32_w]
                  rfl
                 refine take_ (i:=15) (N:=some 87) (v:=?_) (a':=?_) #[true,true,true,true,true,true,true,true,true,true,true,true,true,true,true,true,false,false,false] rfl rfl (take_ofW HT_.out HW_.out (by kernel_rfl)) (fun _ _ _ h => h) (Or.inl ⟨by rfl,?_⟩) hHeld ?_ ?_
                 rotate_left
                 ·rintro w' ⟨s0,s1,s2,s3,s4,s5,s6,s7,s8,s9,s10,s11,s12,s13,s14,s15,s16,s17⟩
                  go_simp
                  with_reducible rfl
                 rotate_left
                 ·simp only [Act.put,List.setIfInBounds_toArray,List.set_cons_zero,List.set_cons_succ,i64_w,i32_w]
                  rfl
                 refine pure_ (i:=16) (N:=some 88) (v:=?_) (a':=?_) #[true,true,true,true,true,true,true,true,true,true,true,true,true,true,true,true,true,false,false] rfl rfl (any_of HT_.out (by kernel_rfl)) (fun _ _ _ h => h) (Or.inl ⟨by rfl,?_⟩) ?_ ?_
                 rotate_left
                 ·intro w'
                  go_simp
                  with_reducible rfl
                 rotate_left
                 ·simp only [Act.put,List.setIfInBounds_toArray,List.set_cons_zero,List.set_cons_succ,i64_w,i32_w]
                  rfl
                 refine pure_ (i:=17) (N:=some 89) (v:=?_) (a':=?_) #[true,true,true,true,true,true,true,true,true,true,true,true,true,true,true,true,true,true,false] rfl rfl (any_of HT_.out (by kernel_rfl)) (fun _ _ _ h => h) (Or.inl ⟨by rfl,?_⟩) ?_ ?_
                 rotate_left
                 ·intro w'
                  go_simp
                  with_reducible rfl
                 rotate_left
                 ·simp only [Act.put,List.setIfInBounds_toArray,List.set_cons_zero,List.set_cons_succ,i64_w,i32_w]
                  rfl
                 refine pure_ (i:=18) (N:=some 90) (v:=?_) (a':=?_) #[true,true,true,true,true,true,true,true,true,true,true,true,true,true,true,true,true,true,true] rfl rfl (any_of HT_.out (by kernel_rfl)) (fun _ _ _ h => h) (Or.inl ⟨by rfl,?_⟩) ?_ ?_
                 rotate_left
                 ·intro w'
                  go_simp
                  with_reducible rfl
                 rotate_left
                 ·simp only [Act.put,List.setIfInBounds_toArray,List.set_cons_zero,List.set_cons_succ,i64_w,i32_w]
                  rfl
                 refine done_ (done_of HT_.out (by kernel_rfl)) ?_
                 try go_wp2
                 go_roundg k3
                 case measure => have:=HJ1.out;have:=HJ32.out;have:=HK3.out;omega
                 case rel => exact ⟨(wrap64 (x67_3 + 1)),(by first | rfl|(simp;done)|(simp [*];done)|(simp [ne_nil_b];done)|(simp [ne_nil_b, *];done)),H',⟨by have:=HJ1.out;have:=HJ32.out;have:=HK3.out;omega⟩,⟨by (with_reducible repeat (first|refine bDn ?_ _|refine bDr ?_|refine bAl ?_ _));exact BK471.out⟩,⟨by repeat (first|(with_reducible first|exact HB.out|apply bwA|apply bwN|apply bw1|refine below_set ?_ GE471.out|refine below_set ?_ GE482.out)|exact HB.out)⟩⟩
                ·rw [if_neg c62] at H
                 have c62b0 : (Op.bytesLess (((rd_T54 l0_7 (ji59)).f0).toList) (((rd_T54 l0_7 x67_3).f0).toList)) = false:=by simpa using c62
                 clear c62
                 obtain rfl:=Option.some.inj H
                 have p481 : 0 ≤ (x67_3 : Int):=of_decide_eq_true (by first|(with_reducible assumption) | assumption)
                 have q481 : x67_3 < (l0_7.length : Int):=of_decide_eq_true (by first|(with_reducible assumption) | assumption)
                 obtain ⟨ad481,A481_1,c481_1,e481,hx481_0,hx481_1,hx481_2,hx481_3,hx481_4,hl481_1,hi481_1⟩:=at_T54 HR0_7.out x67_3 p481 q481
                 cases e481
                 replace hx481_0:=bXc HB.out hx481_0
                 replace hx481_1:=bXc HB.out hx481_1
                 replace hx481_2:=bXc HB.out hx481_2
                 replace hx481_3:=bXc HB.out hx481_3
                 replace hx481_4:=bXc HB.out hx481_4
                 have HR481_1:=aMk hi481_1
                 have HC481_1:=aMk hl481_1
                 clear hi481_1 hl481_1
                 replace p481:=eq_true p481
                 replace q481:=eq_true q481
                 try go_wp2_with (first|((with_reducible refine gate_dst (N:=5) rfl ?_);(try (refine gate_guard (by rfl) ?_;dsimp only));refine bxE (N:=5) (cs:=#[.string (⟨#[]⟩ : ByteArray),.slice none 0 0,.int .i64 0,.int .i64 0,.int .i64 0]) (t:=54) ?_;intro gb482 hg w69 hbox hb;have n0_:=aMk (bkB BK471.out hb);have n1_:=aMk (below_step (by repeat (first|(with_reducible first|exact HB.out|apply bwA|apply bwN|apply bw1|refine below_set ?_ GE471.out)|exact HB.out)) hb);have n2_:=aMk (hbox);have n3_:=aMk ((by rw [hg];exact (below_size (by repeat (first|(with_reducible first|exact HB.out|apply bwA|apply bwN|apply bw1|refine below_set ?_ GE471.out)|exact HB.out))) : w.heap.size ≤ gb482));have n4_:=aMk ((by rw [hg];exact (below_size (by repeat (first|(with_reducible first|exact HB.out|apply bwA|apply bwN|apply bw1|refine below_set ?_ GE471.out)|exact HB.out))) : w.heap.size ≤ gb482));have n5_:=aMk ((bkL BK471.out hg : gb471 ≠ gb482));have n6_:=aMk ((bkG BK471.out hg : gb482 ≠ gb471));clear BK471;clear HB;have BK471:=n0_;have HB:=n1_;have BK482:=n2_;have GW482:=n3_;have GE482:=n4_;have NB471_482:=n5_;have NB482_471:=n6_;clear n0_ n1_ n2_ n3_ n4_ n5_ n6_;clear hb hbox hg;have hnb70:=NB482_471.out;have hnc70:=NB471_482.out;obtain ⟨hcz71_0,hcz71_1,hcz71_2,hcz71_3,hcz71_4,hfz71_0,hfz71_1,hfz71_2,hfz71_3,hfz71_4⟩:=bC5 BK482.out))
                 have n0_ : Aside0 ((((((w69.setCell ⟨gb482,0,none⟩ (.string ((rd_T54 l0_7 x67_3).f0))).setCell ⟨gb482,1,none⟩ (.slice A481_1 ((rd_T54 l0_7 x67_3).f1).length c481_1)).setCell ⟨gb482,2,none⟩ (.int .i64 ((rd_T54 l0_7 x67_3).f2))).setCell ⟨gb482,3,none⟩ (.int .i64 ((rd_T54 l0_7 x67_3).f3))).setCell ⟨gb482,4,none⟩ (.int .i64 ((rd_T54 l0_7 x67_3).f4))).heap[gb471]? = some (.cells #[.int .i64 a0_0,.int .i64 a0_1,.int .i64 a0_2,.string a0_3,.string a0_4,.int .i64 a0_5,.slice A0_6 l0_6.length c0_6,.slice (some ad481) l0_7.length c0_7] 70 (0,0))):=⟨by (with_reducible repeat (first|refine bDn ?_ _|refine bDr ?_|refine bAl ?_ _));refine blk_far ?_ NB471_482.out _;(with_reducible repeat (first|refine bDn ?_ _|refine bDr ?_|refine bAl ?_ _));refine blk_far ?_ NB471_482.out _;(with_reducible repeat (first|refine bDn ?_ _|refine bDr ?_|refine bAl ?_ _));refine blk_far ?_ NB471_482.out _;(with_reducible repeat (first|refine bDn ?_ _|refine bDr ?_|refine bAl ?_ _));refine blk_far ?_ NB471_482.out _;(with_reducible repeat (first|refine bDn ?_ _|refine bDr ?_|refine bAl ?_ _));refine blk_far ?_ NB471_482.out _;(with_reducible repeat (first|refine bDn ?_ _|refine bDr ?_|refine bAl ?_ _));exact BK471.out⟩
                 have n1_ : Aside0 ((((((w69.setCell ⟨gb482,0,none⟩ (.string ((rd_T54 l0_7 x67_3).f0))).setCell ⟨gb482,1,none⟩ (.slice A481_1 ((rd_T54 l0_7 x67_3).f1).length c481_1)).setCell ⟨gb482,2,none⟩ (.int .i64 ((rd_T54 l0_7 x67_3).f2))).setCell ⟨gb482,3,none⟩ (.int .i64 ((rd_T54 l0_7 x67_3).f3))).setCell ⟨gb482,4,none⟩ (.int .i64 ((rd_T54 l0_7 x67_3).f4))).heap[gb482]? = some (.cells #[.string ((rd_T54 l0_7 x67_3).f0),.slice A481_1 ((rd_T54 l0_7 x67_3).f1).length c481_1,.int .i64 ((rd_T54 l0_7 x67_3).f2),.int .i64 ((rd_T54 l0_7 x67_3).f3),.int .i64 ((rd_T54 l0_7 x67_3).f4)] 54 (0,0))):=⟨by (with_reducible repeat (first|refine bDn ?_ _|refine bDr ?_|refine bAl ?_ _));refine blk_put (cs:=#[.string ((rd_T54 l0_7 x67_3).f0),.slice A481_1 ((rd_T54 l0_7 x67_3).f1).length c481_1,.int .i64 ((rd_T54 l0_7 x67_3).f2),.int .i64 ((rd_T54 l0_7 x67_3).f3),.int .i64 0]) ?_ 4 _ rfl;(with_reducible repeat (first|refine bDn ?_ _|refine bDr ?_|refine bAl ?_ _));refine blk_put (cs:=#[.string ((rd_T54 l0_7 x67_3).f0),.slice A481_1 ((rd_T54 l0_7 x67_3).f1).length c481_1,.int .i64 ((rd_T54 l0_7 x67_3).f2),.int .i64 0,.int .i64 0]) ?_ 3 _ rfl;(with_reducible repeat (first|refine bDn ?_ _|refine bDr ?_|refine bAl ?_ _));refine blk_put (cs:=#[.string ((rd_T54 l0_7 x67_3).f0),.slice A481_1 ((rd_T54 l0_7 x67_3).f1).length c481_1,.int .i64 0,.int .i64 0,.int .i64 0]) ?_ 2 _ rfl;(with_reducible repeat (first|refine bDn ?_ _|refine bDr ?_|refine bAl ?_ _));refine blk_put (cs:=#[.string ((rd_T54 l0_7 x67_3).f0),.slice none 0 0,.int .i64 0,.int .i64 0,.int .i64 0]) ?_ 1 _ rfl;(with_reducible repeat (first|refine bDn ?_ _|refine bDr ?_|refine bAl ?_ _));refine blk_put (cs:=#[.string (⟨#[]⟩ : ByteArray),.slice none 0 0,.int .i64 0,.int .i64 0,.int .i64 0]) ?_ 0 _ rfl;(with_reducible repeat (first|refine bDn ?_ _|refine bDr ?_|refine bAl ?_ _));exact BK482.out⟩
                 have n2_ : Aside0 (Below w.heap.size w (((((w69.setCell ⟨gb482,0,none⟩ (.string ((rd_T54 l0_7 x67_3).f0))).setCell ⟨gb482,1,none⟩ (.slice A481_1 ((rd_T54 l0_7 x67_3).f1).length c481_1)).setCell ⟨gb482,2,none⟩ (.int .i64 ((rd_T54 l0_7 x67_3).f2))).setCell ⟨gb482,3,none⟩ (.int .i64 ((rd_T54 l0_7 x67_3).f3))).setCell ⟨gb482,4,none⟩ (.int .i64 ((rd_T54 l0_7 x67_3).f4)))):=⟨by repeat (first|(with_reducible first|exact HB.out|apply bwA|apply bwN|apply bw1|refine below_set ?_ GE471.out|refine below_set ?_ GE482.out)|exact HB.out)⟩
                 (try clear BK471)
                 (try clear BK482)
                 (try clear HB)
                 generalize (((((w69.setCell ⟨gb482,0,none⟩ (.string ((rd_T54 l0_7 x67_3).f0))).setCell ⟨gb482,1,none⟩ (.slice A481_1 ((rd_T54 l0_7 x67_3).f1).length c481_1)).setCell ⟨gb482,2,none⟩ (.int .i64 ((rd_T54 l0_7 x67_3).f2))).setCell ⟨gb482,3,none⟩ (.int .i64 ((rd_T54 l0_7 x67_3).f3))).setCell ⟨gb482,4,none⟩ (.int .i64 ((rd_T54 l0_7 x67_3).f4))) = w72 at n0_ n1_ n2_ ⊢
                 have BK471:=n0_
                 have BK482:=n1_
                 have HB:=n2_
                 clear n0_ n1_ n2_
                 have n0_:=aMk (bDr BK471.out)
                 have n1_:=aMk (bDr BK482.out)
                 have n2_:=aMk (bw1 HB.out)
                 clear BK471
                 clear BK482
                 clear HB
                 have BK471:=n0_
                 have BK482:=n1_
                 have HB:=n2_
                 clear n0_ n1_ n2_
                 have p484 : 0 ≤ ((ji59) : Int):=of_decide_eq_true (by first|(with_reducible assumption) | assumption)
                 have q484 : (ji59) < (l0_7.length : Int):=of_decide_eq_true (by first|(with_reducible assumption) | assumption)
                 obtain ⟨ad484,A484_1,c484_1,e484,hx484_0,hx484_1,hx484_2,hx484_3,hx484_4,hl484_1,hi484_1⟩:=at_T54 HR0_7.out (ji59) p484 q484
                 have hw484_4:=hx484_4
                 have hw484_3:=hx484_3
                 have hw484_2:=hx484_2
                 have hw484_1:=hx484_1
                 have hw484_0:=hx484_0
                 obtain rfl : ad481 = ad484:=(by injection e484)
                 replace hx484_0:=bXc HB.out hx484_0
                 replace hx484_1:=bXc HB.out hx484_1
                 replace hx484_2:=bXc HB.out hx484_2
                 replace hx484_3:=bXc HB.out hx484_3
                 replace hx484_4:=bXc HB.out hx484_4
                 have HR484_1:=aMk hi484_1
                 have HC484_1:=aMk hl484_1
                 clear hi484_1 hl484_1
                 replace p484:=eq_true p484
                 replace q484:=eq_true q484
                 refine start_ (n:=19) (S:=fun w' => w'.cell? ⟨gb482,0,none⟩ = some (.string ((rd_T54 l0_7 x67_3).f0)) ∧ w'.cell? ⟨gb482,1,none⟩ = some (.slice A481_1 ((rd_T54 l0_7 x67_3).f1).length c481_1) ∧ w'.cell? ⟨gb482,2,none⟩ = some (.int .i64 ((rd_T54 l0_7 x67_3).f2)) ∧ w'.cell? ⟨gb482,3,none⟩ = some (.int .i64 ((rd_T54 l0_7 x67_3).f3)) ∧ w'.cell? ⟨gb482,4,none⟩ = some (.int .i64 ((rd_T54 l0_7 x67_3).f4)) ∧ w'.cell? ⟨gb471,0,none⟩ = some (.int .i64 a0_0) ∧ w'.cell? ⟨gb471,1,none⟩ = some (.int .i64 a0_1) ∧ w'.cell? ⟨gb471,2,none⟩ = some (.int .i64 a0_2) ∧ w'.cell? ⟨gb471,3,none⟩ = some (.string a0_3) ∧ w'.cell? ⟨gb471,4,none⟩ = some (.string a0_4) ∧ w'.cell? ⟨gb471,5,none⟩ = some (.int .i64 a0_5) ∧ w'.cell? ⟨gb471,6,none⟩ = some (.slice A0_6 l0_6.length c0_6) ∧ w'.cell? ⟨gb471,7,none⟩ = some (.slice (some ad481) l0_7.length c0_7) ∧ w'.cell? (ad481.add (((ji59)).toNat * 5)) = some (.string ((rd_T54 l0_7 (ji59)).f0)) ∧ w'.cell? ⟨(ad481.add (((ji59)).toNat * 5)).block,(ad481.add (((ji59)).toNat * 5)).off + 1,none⟩ = some (.slice A484_1 ((rd_T54 l0_7 (ji59)).f1).length c484_1) ∧ w'.cell? ⟨(ad481.add (((ji59)).toNat * 5)).block,(ad481.add (((ji59)).toNat * 5)).off + 2,none⟩ = some (.int .i64 ((rd_T54 l0_7 (ji59)).f2)) ∧ w'.cell? ⟨(ad481.add (((ji59)).toNat * 5)).block,(ad481.add (((ji59)).toNat * 5)).off + 3,none⟩ = some (.int .i64 ((rd_T54 l0_7 (ji59)).f3)) ∧ w'.cell? ⟨(ad481.add (((ji59)).toNat * 5)).block,(ad481.add (((ji59)).toNat * 5)).off + 4,none⟩ = some (.int .i64 ((rd_T54 l0_7 (ji59)).f4))) (ds:=[]) #[false,false,false,false,false,false,false,false,false,false,false,false,false,false,false,false,false,false,false] (by kernel_rfl) rfl rfl ⟨(bCe BK482.out 0).trans rfl,(bCe BK482.out 1).trans rfl,(bCe BK482.out 2).trans rfl,(bCe BK482.out 3).trans rfl,(bCe BK482.out 4).trans rfl,(bCe BK471.out 0).trans rfl,(bCe BK471.out 1).trans rfl,(bCe BK471.out 2).trans rfl,(bCe BK471.out 3).trans rfl,(bCe BK471.out 4).trans rfl,(bCe BK471.out 5).trans rfl,(bCe BK471.out 6).trans rfl,(bCe BK471.out 7).trans rfl,((HB.out.cell (wLt w _ hw484_0)).trans hw484_0),((HB.out.cell (wLt w _ hw484_1)).trans hw484_1),((HB.out.cell (wLt w _ hw484_2)).trans hw484_2),((HB.out.cell (wLt w _ hw484_3)).trans hw484_3),((HB.out.cell (wLt w _ hw484_4)).trans hw484_4)⟩ (fun hHeld => ?_);refine with_tabW impl_ConfigOK.tab9 impl_ConfigOK.bits9 (fun HT_ HW_ => ?_)
                 generalize w72.drew = w73 at BK471 BK482 HB HR484_1 hx484_0 hx484_1 hx484_2 hx484_3 hx484_4 hHeld ⊢
                 refine take_ (i:=0) (N:=some 72) (v:=?_) (a':=?_) #[true,false,false,false,false,false,false,false,false,false,false,false,false,false,false,false,false,false,false] rfl rfl (take_ofW HT_.out HW_.out (by kernel_rfl)) (fun _ _ _ h => h) (Or.inl ⟨by rfl,?_⟩) hHeld ?_ ?_
                 rotate_left
                 ·rintro w' ⟨s0,s1,s2,s3,s4,s5,s6,s7,s8,s9,s10,s11,s12,s13,s14,s15,s16,s17⟩
                  go_simp
                  with_reducible rfl
                 rotate_left
                 ·simp only [Act.put,List.setIfInBounds_toArray,List.set_cons_zero,List.set_cons_succ,i64_w,i32_w]
                  rfl
                 refine one_ (i:=1) (N:=some 73) #[true,true,false,false,false,false,false,false,false,false,false,false,false,false,false,false,false,false,false] rfl rfl (one_of HT_.out (by kernel_rfl)) (by decide) (fun K hK => ?_)
                 refine goes_ Try.func25 (by kernel_rfl) rfl #[.agg #[.string ((rd_T54 l0_7 x67_3).f0),.slice A481_1 ((rd_T54 l0_7 x67_3).f1).length c481_1,.int .i64 ((rd_T54 l0_7 x67_3).f2),.int .i64 ((rd_T54 l0_7 x67_3).f3),.int .i64 ((rd_T54 l0_7 x67_3).f4)]] (by rfl) rfl rfl (by (try simp only [List.map_toArray,List.map_cons,List.map_nil]);first | done | rfl|(simp only [List.length_drop,List.length_take];rfl)) ?_
                 with_reducible refine (impl_RoleOK.calls k3 ((rd_T54 l0_7 x67_3).f0) _ _ ((rd_T54 l0_7 x67_3).f1) ((rd_T54 l0_7 x67_3).f2) ((rd_T54 l0_7 x67_3).f3) ((rd_T54 l0_7 x67_3).f4) true _ ?side1 ?side2 A56.out).mono ?_
                 (case side1 => repeat (first|exact (Kd.C_below HR481_1.out HB.out)|(with_reducible refine Kd.C_alloc ?_ _)|(with_reducible refine Kd.C_drewN ?_ _)|(with_reducible refine Kd.C_drew ?_)))
                 (case side2 => exact HC481_1.out)
                 rintro e w74 ⟨rfl,hb⟩
                 refine ⟨_,rfl,?_⟩
                 have n0_:=aMk (bkB BK471.out hb)
                 have n1_:=aMk (bkB BK482.out hb)
                 have n2_:=aMk (below_step (by repeat (first|(with_reducible first|exact HB.out|apply bwA|apply bwN|apply bw1|refine below_set ?_ GE471.out|refine below_set ?_ GE482.out)|exact HB.out)) hb)
                 clear BK471
                 clear BK482
                 clear HB
                 have BK471:=n0_
                 have BK482:=n1_
                 have HB:=n2_
                 clear n0_ n1_ n2_
                 (try clear hb)
                 (try clear hb2)
                 (try clear hk)
                 (try clear hi)
                 refine hK.out _ _ ⟨(bCe BK482.out 0).trans rfl,(bCe BK482.out 1).trans rfl,(bCe BK482.out 2).trans rfl,(bCe BK482.out 3).trans rfl,(bCe BK482.out 4).trans rfl,(bCe BK471.out 0).trans rfl,(bCe BK471.out 1).trans rfl,(bCe BK471.out 2).trans rfl,(bCe BK471.out 3).trans rfl,(bCe BK471.out 4).trans rfl,(bCe BK471.out 5).trans rfl,(bCe BK471.out 6).trans rfl,(bCe BK471.out 7).trans rfl,((HB.out.cell (wLt w _ hw484_0)).trans hw484_0),((HB.out.cell (wLt w _ hw484_1)).trans hw484_1),((HB.out.cell (wLt w _ hw484_2)).trans hw484_2),((HB.out.cell (wLt w _ hw484_3)).trans hw484_3),((HB.out.cell (wLt w _ hw484_4)).trans hw484_4)⟩ (fun hHeld => ?_)
                 clear hK K
                 refine norm_ (a':=?_) ?_ ?_
                 rotate_left
                 ·show Act.put _ (some 73) _ = _
                  simp only [Act.put,List.setIfInBounds_toArray,List.set_cons_zero,List.set_cons_succ,i64_w,i32_w]
                  rfl
                 refine pure_ (i:=2) (N:=some 74) (v:=?_) (a':=?_) #[true,true,true,false,false,false,false,false,false,false,false,false,false,false,false,false,false,false,false] rfl rfl (any_of HT_.out (by kernel_rfl)) (fun _ _ _ h => h) (Or.inl ⟨by rfl,?_⟩) ?_ ?_
                 rotate_left
                 ·intro w'
                  go_simp
                  with_reducible rfl
                 rotate_left
                 ·simp only [Act.put,List.setIfInBounds_toArray,List.set_cons_zero,List.set_cons_succ,i64_w,i32_w]
                  rfl
                 refine pure_ (i:=3) (N:=some 75) (v:=?_) (a':=?_) #[true,true,true,true,false,false,false,false,false,false,false,false,false,false,false,false,false,false,false] rfl rfl (any_of HT_.out (by kernel_rfl)) (fun _ _ _ h => h) (Or.inl ⟨by rfl,?_⟩) ?_ ?_
                 rotate_left
                 ·intro w'
                  go_simp
                  with_reducible rfl
                 rotate_left
                 ·simp only [Act.put,List.setIfInBounds_toArray,List.set_cons_zero,List.set_cons_succ,i64_w,i32_w]
                  rfl
                 refine pure_ (i:=4) (N:=some 76) (v:=?_) (a':=?_) #[true,true,true,true,true,false,false,false,false,false,false,false,false,false,false,false,false,false,false] rfl rfl (any_of HT_.out (by kernel_rfl)) (fun _ _ _ h => h) (Or.inl ⟨by rfl,?_⟩) ?_ ?_
                 rotate_left
                 ·intro w'
                  go_simp
                  with_reducible rfl
                 rotate_left
                 ·simp only [Act.put,List.setIfInBounds_toArray,List.set_cons_zero,List.set_cons_succ,i64_w,i32_w]
                  rfl
                 refine pure_ (i:=5) (N:=some 77) (v:=?_) (a':=?_) #[true,true,true,true,true,true,false,false,false,false,false,false,false,false,false,false,false,false,false] rfl rfl (any_of HT_.out (by kernel_rfl)) (fun _ _ _ h => h) (Or.inl ⟨by rfl,?_⟩) ?_ ?_
                 rotate_left
                 ·intro w'
                  go_simp
                  with_reducible rfl
                 rotate_left
                 ·simp only [Act.put,List.setIfInBounds_toArray,List.set_cons_zero,List.set_cons_succ,i64_w,i32_w]
                  rfl
                 refine pure_ (i:=6) (N:=some 78) (v:=?_) (a':=?_) #[true,true,true,true,true,true,true,false,false,false,false,false,false,false,false,false,false,false,false] rfl rfl (any_of HT_.out (by kernel_rfl)) (fun _ _ _ h => h) (Or.inl ⟨by rfl,?_⟩) ?_ ?_
                 rotate_left
                 ·intro w'
                  go_simp
                  with_reducible rfl
                 rotate_left
                 ·simp only [Act.put,List.setIfInBounds_toArray,List.set_cons_zero,List.set_cons_succ,i64_w,i32_w]
                  rfl
                 refine pure_ (i:=7) (N:=some 79) (v:=?_) (a':=?_) #[true,true,true,true,true,true,true,true,false,false,false,false,false,false,false,false,false,false,false] rfl rfl (any_of HT_.out (by kernel_rfl)) (fun _ _ _ h => h) (Or.inl ⟨by rfl,?_⟩) ?_ ?_
                 rotate_left
                 ·intro w'
                  go_simp
                  with_reducible rfl
                 rotate_left
                 ·simp only [Act.put,List.setIfInBounds_toArray,List.set_cons_zero,List.set_cons_succ,i64_w,i32_w]
                  rfl
                 refine pure_ (i:=9) (N:=some 81) (v:=?_) (a':=?_) #[true,true,true,true,true,true,true,true,false,true,false,false,false,false,false,false,false,false,false] rfl rfl (any_of HT_.out (by kernel_rfl)) (fun _ _ _ h => h) (Or.inl ⟨by rfl,?_⟩) ?_ ?_
                 rotate_left
                 ·intro w'
                  go_simp
                  with_reducible rfl
                 rotate_left
                 ·simp only [Act.put,List.setIfInBounds_toArray,List.set_cons_zero,List.set_cons_succ,i64_w,i32_w]
                  rfl
                 refine pure_ (i:=10) (N:=some 82) (v:=?_) (a':=?_) #[true,true,true,true,true,true,true,true,false,true,true,false,false,false,false,false,false,false,false] rfl rfl (any_of HT_.out (by kernel_rfl)) (fun _ _ _ h => h) (Or.inl ⟨by rfl,?_⟩) ?_ ?_
                 rotate_left
                 ·intro w'
                  go_simp
                  with_reducible rfl
                 rotate_left
                 ·simp only [Act.put,List.setIfInBounds_toArray,List.set_cons_zero,List.set_cons_succ,i64_w,i32_w]
                  rfl
                 refine pure_ (i:=14) (N:=some 86) (v:=?_) (a':=?_) #[true,true,true,true,true,true,true,true,false,true,true,false,false,false,true,false,false,false,false] rfl rfl (any_of HT_.out (by kernel_rfl)) (fun _ _ _ h => h) (Or.inl ⟨by rfl,?_⟩) ?_ ?_
                 rotate_left
                 ·intro w'
                  go_simp
                  with_reducible rfl
                 rotate_left
                 ·simp only [Act.put,List.setIfInBounds_toArray,List.set_cons_zero,List.set_cons_succ,i64_w,i32_w]
                  rfl
                 refine take_ (i:=8) (N:=some 80) (v:=?_) (a':=?_) #[true,true,true,true,true,true,true,true,true,true,true,false,false,false,true,false,false,false,false] rfl rfl (take_ofW HT_.out HW_.out (by kernel_rfl)) (fun _ _ _ h => h) (Or.inl ⟨by rfl,?_⟩) hHeld ?_ ?_
                 rotate_left
                 ·rintro w' ⟨s0,s1,s2,s3,s4,s5,s6,s7,s8,s9,s10,s11,s12,s13,s14,s15,s16,s17⟩
                  go_simp
                  with_reducible rfl
                 rotate_left
                 ·simp only [Act.put,List.setIfInBounds_toArray,List.set_cons_zero,List.set_cons_succ,i64_w,i32_w]
                  rfl
                 refine pure_ (i:=11) (N:=some 83) (v:=?_) (a':=?_) #[true,true,true,true,true,true,true,true,true,true,true,true,false,false,true,false,false,false,false] rfl rfl (any_of HT_.out (by kernel_rfl)) (fun _ _ _ h => h) (Or.inl ⟨by rfl,?_⟩) ?_ ?_
                 rotate_left
                 ·intro w'
                  go_simp
                  with_reducible rfl
                 rotate_left
                 ·simp only [Act.put,List.setIfInBounds_toArray,List.set_cons_zero,List.set_cons_succ,i64_w,i32_w]
                  rfl
                 refine pure_ (i:=12) (N:=some 84) (v:=?_) (a':=?_) #[true,true,true,true,true,true,true,true,true,true,true,true,true,false,true,false,false,false,false] rfl rfl (any_of HT_.out (by kernel_rfl)) (fun _ _ _ h => h) (Or.inl ⟨by rfl,?_⟩) ?_ ?_
                 rotate_left
                 ·intro w'
                  go_simp
                  with_reducible rfl
                 rotate_left
                 ·simp only [Act.put,List.setIfInBounds_toArray,List.set_cons_zero,List.set_cons_succ,i64_w,i32_w]
                  rfl
                 refine take_ (i:=13) (N:=some 85) (v:=?_) (a':=?_) #[true,true,true,true,true,true,true,true,true,true,true,true,true,true,true,false,false,false,false] rfl rfl (take_ofW HT_.out HW_.out (by kernel_rfl)) (fun _ _ _ h => h) (Or.inl ⟨by rfl,?_⟩) hHeld ?_ ?_
                 rotate_left
                 ·rintro w' ⟨s0,s1,s2,s3,s4,s5,s6,s7,s8,s9,s10,s11,s12,s13,s14,s15,s16,s17⟩
                  go_simp
                  with_reducible rfl
                 rotate_left
                 ·simp only [Act.put,List.setIfInBounds_toArray,List.set_cons_zero,List.set_cons_succ,i64_w,i32_w]
                  rfl
                 refine take_ (i:=15) (N:=some 87) (v:=?_) (a':=?_) #[true,true,true,true,true,true,true,true,true,true,true,true,true,true,true,true,false,false,false] rfl rfl (take_ofW HT_.out HW_.out (by kernel_rfl)) (fun _ _ _ h => h) (Or.inl ⟨by rfl,?_⟩) hHeld ?_ ?_
                 rotate_left
                 ·rintro w' ⟨s0,s1,s2,s3,s4,s5,s6,s7,s8,s9,s10,s11,s12,s13,s14,s15,s16,s17⟩
                  go_simp
                  with_reducible rfl
                 rotate_left
                 ·simp only [Act.put,List.setIfInBounds_toArray,List.set_cons_zero,List.set_cons_succ,i64_w,i32_w]
                  rfl
                 refine pure_ (i:=16) (N:=some 88) (v:=?_) (a':=?_) #[true,true,true,true,true,true,true,true,true,true,true,true,true,true,true,true,true,false,false] rfl rfl (any_of HT_.out (by kernel_rfl)) (fun _ _ _ h => h) (Or.inl ⟨by rfl,?_⟩) ?_ ?_
                 rotate_left
                 ·intro w'
                  go_simp
                  with_reducible rfl
                 rotate_left
                 ·simp only [Act.put,List.setIfInBounds_toArray,List.set_cons_zero,List.set_cons_succ,i64_w,i32_w]
                  rfl
                 refine pure_ (i:=17) (N:=some 89) (v:=?_) (a':=?_) #[true,true,true,true,true,true,true,true,true,true,true,true,true,true,true,true,true,true,false] rfl rfl (any_of HT_.out (by kernel_rfl)) (fun _ _ _ h => h) (Or.inl ⟨by rfl,?_⟩) ?_ ?_
                 rotate_left
                 ·intro w'
                  go_simp
                  with_reducible rfl
                 rotate_left
                 ·simp only [Act.put,List.setIfInBounds_toArray,List.set_cons_zero,List.set_cons_succ,i64_w,i32_w]
                  rfl
                 refine pure_ (i:=18) (N:=some 90) (v:=?_) (a':=?_) #[true,true,true,true,true,true,true,true,true,true,true,true,true,true,true,true,true,true,true] rfl rfl (any_of HT_.out (by kernel_rfl)) (fun _ _ _ h => h) (Or.inl ⟨by rfl,?_⟩) ?_ ?_
                 rotate_left
                 ·intro w'
                  go_simp
                  with_reducible rfl
                 rotate_left
                 ·simp only [Act.put,List.setIfInBounds_toArray,List.set_cons_zero,List.set_cons_succ,i64_w,i32_w]
                  rfl
                 refine done_ (done_of HT_.out (by kernel_rfl)) ?_
                 try go_wp2
                 go_ret
                 exact ⟨by first | rfl|(simp [errW_none,errW_some] <;> rfl)|(simp only [← hji59];first | rfl|(simp [errW_none,errW_some] <;> rfl))|(simp [*,errW_none,errW_some] <;> rfl),by repeat (first|(with_reducible first|exact HB.out|apply bwA|apply bwN|apply bw1|refine below_set ?_ GE471.out|refine below_set ?_ GE482.out)|exact HB.out)⟩
               ·rw [if_neg c61] at H
                exact absurd H (by simp)
              ·rw [if_neg c60] at H
               exact absurd H (by simp)
             ·rw [if_neg c58] at H
              have c58b0 : decide (0 < x67_3) = false:=decide_eq_false c58
              clear c58
              have H':=aMk H
              clear H
              have p481 : 0 ≤ (x67_3 : Int):=of_decide_eq_true (by first|(with_reducible assumption) | assumption)
              have q481 : x67_3 < (l0_7.length : Int):=of_decide_eq_true (by first|(with_reducible assumption) | assumption)
              obtain ⟨ad481,A481_1,c481_1,e481,hx481_0,hx481_1,hx481_2,hx481_3,hx481_4,hl481_1,hi481_1⟩:=at_T54 HR0_7.out x67_3 p481 q481
              cases e481
              replace hx481_0:=bXc HB.out hx481_0
              replace hx481_1:=bXc HB.out hx481_1
              replace hx481_2:=bXc HB.out hx481_2
              replace hx481_3:=bXc HB.out hx481_3
              replace hx481_4:=bXc HB.out hx481_4
              have HR481_1:=aMk hi481_1
              have HC481_1:=aMk hl481_1
              clear hi481_1 hl481_1
              replace p481:=eq_true p481
              replace q481:=eq_true q481
              try go_wp2_with (first|((with_reducible refine gate_dst (N:=5) rfl ?_);(try (refine gate_guard (by rfl) ?_;dsimp only));refine bxE (N:=5) (cs:=#[.string (⟨#[]⟩ : ByteArray),.slice none 0 0,.int .i64 0,.int .i64 0,.int .i64 0]) (t:=54) ?_;intro gb482 hg w75 hbox hb;have n0_:=aMk (bkB BK471.out hb);have n1_:=aMk (below_step (by repeat (first|(with_reducible first|exact HB.out|apply bwA|apply bwN|apply bw1|refine below_set ?_ GE471.out)|exact HB.out)) hb);have n2_:=aMk (hbox);have n3_:=aMk ((by rw [hg];exact (below_size (by repeat (first|(with_reducible first|exact HB.out|apply bwA|apply bwN|apply bw1|refine below_set ?_ GE471.out)|exact HB.out))) : w.heap.size ≤ gb482));have n4_:=aMk ((by rw [hg];exact (below_size (by repeat (first|(with_reducible first|exact HB.out|apply bwA|apply bwN|apply bw1|refine below_set ?_ GE471.out)|exact HB.out))) : w.heap.size ≤ gb482));have n5_:=aMk ((bkL BK471.out hg : gb471 ≠ gb482));have n6_:=aMk ((bkG BK471.out hg : gb482 ≠ gb471));clear BK471;clear HB;have BK471:=n0_;have HB:=n1_;have BK482:=n2_;have GW482:=n3_;have GE482:=n4_;have NB471_482:=n5_;have NB482_471:=n6_;clear n0_ n1_ n2_ n3_ n4_ n5_ n6_;clear hb hbox hg;have hnb76:=NB482_471.out;have hnc76:=NB471_482.out;obtain ⟨hcz77_0,hcz77_1,hcz77_2,hcz77_3,hcz77_4,hfz77_0,hfz77_1,hfz77_2,hfz77_3,hfz77_4⟩:=bC5 BK482.out))
              have n0_ : Aside0 ((((((w75.setCell ⟨gb482,0,none⟩ (.string ((rd_T54 l0_7 x67_3).f0))).setCell ⟨gb482,1,none⟩ (.slice A481_1 ((rd_T54 l0_7 x67_3).f1).length c481_1)).setCell ⟨gb482,2,none⟩ (.int .i64 ((rd_T54 l0_7 x67_3).f2))).setCell ⟨gb482,3,none⟩ (.int .i64 ((rd_T54 l0_7 x67_3).f3))).setCell ⟨gb482,4,none⟩ (.int .i64 ((rd_T54 l0_7 x67_3).f4))).heap[gb471]? = some (.cells #[.int .i64 a0_0,.int .i64 a0_1,.int .i64 a0_2,.string a0_3,.string a0_4,.int .i64 a0_5,.slice A0_6 l0_6.length c0_6,.slice (some ad481) l0_7.length c0_7] 70 (0,0))):=⟨by (with_reducible repeat (first|refine bDn ?_ _|refine bDr ?_|refine bAl ?_ _));refine blk_far ?_ NB471_482.out _;(with_reducible repeat (first|refine bDn ?_ _|refine bDr ?_|refine bAl ?_ _));refine blk_far ?_ NB471_482.out _;(with_reducible repeat (first|refine bDn ?_ _|refine bDr ?_|refine bAl ?_ _));refine blk_far ?_ NB471_482.out _;(with_reducible repeat (first|refine bDn ?_ _|refine bDr ?_|refine bAl ?_ _));refine blk_far ?_ NB471_482.out _;(with_reducible repeat (first|refine bDn ?_ _|refine bDr ?_|refine bAl ?_ _));refine blk_far ?_ NB471_482.out _;(with_reducible repeat (first|refine bDn ?_ _|refine bDr ?_|refine bAl ?_ _));exact BK471.out⟩
              have n1_ : Aside0 ((((((w75.setCell ⟨gb482,0,none⟩ (.string ((rd_T54 l0_7 x67_3).f0))).setCell ⟨gb482,1,none⟩ (.slice A481_1 ((rd_T54 l0_7 x67_3).f1).length c481_1)).setCell ⟨gb482,2,none⟩ (.int .i64 ((rd_T54 l0_7 x67_3).f2))).setCell ⟨gb482,3,none⟩ (.int .i64 ((rd_T54 l0_7 x67_3).f3))).setCell ⟨gb482,4,none⟩ (.int .i64 ((rd_T54 l0_7 x67_3).f4))).heap[gb482]? = some (.cells #[.string ((rd_T54 l0_7 x67_3).f0),.slice A481_1 ((rd_T54 l0_7 x67_3).f1).length c481_1,.int .i64 ((rd_T54 l0_7 x67_3).f2),.int .i64 ((rd_T54 l0_7 x67_3).f3),.int .i64 ((rd_T54 l0_7 x67_3).f4)] 54 (0,0))):=⟨by (with_reducible repeat (first|refine bDn ?_ _|refine bDr ?_|refine bAl ?_ _));refine blk_put (cs:=#[.string ((rd_T54 l0_7 x67_3).f0),.slice A481_1 ((rd_T54 l0_7 x67_3).f1).length c481_1,.int .i64 ((rd_T54 l0_7 x67_3).f2),.int .i64 ((rd_T54 l0_7 x67_3).f3),.int .i64 0]) ?_ 4 _ rfl;(with_reducible repeat (first|refine bDn ?_ _|refine bDr ?_|refine bAl ?_ _));refine blk_put (cs:=#[.string ((rd_T54 l0_7 x67_3).f0),.slice A481_1 ((rd_T54 l0_7 x67_3).f1).length c481_1,.int .i64 ((rd_T54 l0_7 x67_3).f2),.int .i64 0,.int .i64 0]) ?_ 3 _ rfl;(with_reducible repeat (first|refine bDn ?_ _|refine bDr ?_|refine bAl ?_ _));refine blk_put (cs:=#[.string ((rd_T54 l0_7 x67_3).f0),.slice A481_1 ((rd_T54 l0_7 x67_3).f1).length c481_1,.int .i64 0,.int .i64 0,.int .i64 0]) ?_ 2 _ rfl;(with_reducible repeat (first|refine bDn ?_ _|refine bDr ?_|refine bAl ?_ _));refine blk_put (cs:=#[.string ((rd_T54 l0_7 x67_3).f0),.slice none 0 0,.int .i64 0,.int .i64 0,.int .i64 0]) ?_ 1 _ rfl;(with_reducible repeat (first|refine bDn ?_ _|refine bDr ?_|refine bAl ?_ _));refine blk_put (cs:=#[.string (⟨#[]⟩ : ByteArray),.slice none 0 0,.int .i64 0,.int .i64 0,.int .i64 0]) ?_ 0 _ rfl;(with_reducible repeat (first|refine bDn ?_ _|refine bDr ?_|refine bAl ?_ _));exact BK482.out⟩
              have n2_ : Aside0 (Below w.heap.size w (((((w75.setCell ⟨gb482,0,none⟩ (.string ((rd_T54 l0_7 x67_3).f0))).setCell ⟨gb482,1,none⟩ (.slice A481_1 ((rd_T54 l0_7 x67_3).f1).length c481_1)).setCell ⟨gb482,2,none⟩ (.int .i64 ((rd_T54 l0_7 x67_3).f2))).setCell ⟨gb482,3,none⟩ (.int .i64 ((rd_T54 l0_7 x67_3).f3))).setCell ⟨gb482,4,none⟩ (.int .i64 ((rd_T54 l0_7 x67_3).f4)))):=⟨by repeat (first|(with_reducible first|exact HB.out|apply bwA|apply bwN|apply bw1|refine below_set ?_ GE471.out|refine below_set ?_ GE482.out)|exact HB.out)⟩
              (try clear BK471)
              (try clear BK482)
              (try clear HB)
              generalize (((((w75.setCell ⟨gb482,0,none⟩ (.string ((rd_T54 l0_7 x67_3).f0))).setCell ⟨gb482,1,none⟩ (.slice A481_1 ((rd_T54 l0_7 x67_3).f1).length c481_1)).setCell ⟨gb482,2,none⟩ (.int .i64 ((rd_T54 l0_7 x67_3).f2))).setCell ⟨gb482,3,none⟩ (.int .i64 ((rd_T54 l0_7 x67_3).f3))).setCell ⟨gb482,4,none⟩ (.int .i64 ((rd_T54 l0_7 x67_3).f4))) = w78 at n0_ n1_ n2_ ⊢
              have BK471:=n0_
              have BK482:=n1_
              have HB:=n2_
              clear n0_ n1_ n2_
              have n0_:=aMk (bDr BK471.out)
              have n1_:=aMk (bDr BK482.out)
              have n2_:=aMk (bw1 HB.out)
              clear BK471
              clear BK482
              clear HB
              have BK471:=n0_
              have BK482:=n1_
              have HB:=n2_
              clear n0_ n1_ n2_
              refine start_ (n:=19) (S:=fun w' => w'.cell? ⟨gb482,0,none⟩ = some (.string ((rd_T54 l0_7 x67_3).f0)) ∧ w'.cell? ⟨gb482,1,none⟩ = some (.slice A481_1 ((rd_T54 l0_7 x67_3).f1).length c481_1) ∧ w'.cell? ⟨gb482,2,none⟩ = some (.int .i64 ((rd_T54 l0_7 x67_3).f2)) ∧ w'.cell? ⟨gb482,3,none⟩ = some (.int .i64 ((rd_T54 l0_7 x67_3).f3)) ∧ w'.cell? ⟨gb482,4,none⟩ = some (.int .i64 ((rd_T54 l0_7 x67_3).f4))) (ds:=[]) #[false,false,false,false,false,false,false,false,false,false,false,false,false,false,false,false,false,false,false] (by kernel_rfl) rfl rfl ⟨(bCe BK482.out 0).trans rfl,(bCe BK482.out 1).trans rfl,(bCe BK482.out 2).trans rfl,(bCe BK482.out 3).trans rfl,(bCe BK482.out 4).trans rfl⟩ (fun hHeld => ?_);refine with_tabW impl_ConfigOK.tab9 impl_ConfigOK.bits9 (fun HT_ HW_ => ?_)
              generalize w78.drew = w79 at BK471 BK482 HB hHeld ⊢
              refine take_ (i:=0) (N:=some 72) (v:=?_) (a':=?_) #[true,false,false,false,false,false,false,false,false,false,false,false,false,false,false,false,false,false,false] rfl rfl (take_ofW HT_.out HW_.out (by kernel_rfl)) (fun _ _ _ h => h) (Or.inl ⟨by rfl,?_⟩) hHeld ?_ ?_
              rotate_left
              ·rintro w' ⟨s0,s1,s2,s3,s4⟩
               go_simp
               with_reducible rfl
              rotate_left
              ·simp only [Act.put,List.setIfInBounds_toArray,List.set_cons_zero,List.set_cons_succ,i64_w,i32_w]
               rfl
              refine one_ (i:=1) (N:=some 73) #[true,true,false,false,false,false,false,false,false,false,false,false,false,false,false,false,false,false,false] rfl rfl (one_of HT_.out (by kernel_rfl)) (by decide) (fun K hK => ?_)
              refine goes_ Try.func25 (by kernel_rfl) rfl #[.agg #[.string ((rd_T54 l0_7 x67_3).f0),.slice A481_1 ((rd_T54 l0_7 x67_3).f1).length c481_1,.int .i64 ((rd_T54 l0_7 x67_3).f2),.int .i64 ((rd_T54 l0_7 x67_3).f3),.int .i64 ((rd_T54 l0_7 x67_3).f4)]] (by rfl) rfl rfl (by (try simp only [List.map_toArray,List.map_cons,List.map_nil]);first | done | rfl|(simp only [List.length_drop,List.length_take];rfl)) ?_
              with_reducible refine (impl_RoleOK.calls k3 ((rd_T54 l0_7 x67_3).f0) _ _ ((rd_T54 l0_7 x67_3).f1) ((rd_T54 l0_7 x67_3).f2) ((rd_T54 l0_7 x67_3).f3) ((rd_T54 l0_7 x67_3).f4) true _ ?side1 ?side2 A56.out).mono ?_
              (case side1 => repeat (first|exact (Kd.C_below HR481_1.out HB.out)|(with_reducible refine Kd.C_alloc ?_ _)|(with_reducible refine Kd.C_drewN ?_ _)|(with_reducible refine Kd.C_drew ?_)))
              (case side2 => exact HC481_1.out)
              rintro e w80 ⟨rfl,hb⟩
              refine ⟨_,rfl,?_⟩
              have n0_:=aMk (bkB BK471.out hb)
              have n1_:=aMk (bkB BK482.out hb)
              have n2_:=aMk (below_step (by repeat (first|(with_reducible first|exact HB.out|apply bwA|apply bwN|apply bw1|refine below_set ?_ GE471.out|refine below_set ?_ GE482.out)|exact HB.out)) hb)
              clear BK471
              clear BK482
              clear HB
              have BK471:=n0_
              have BK482:=n1_
              have HB:=n2_
              clear n0_ n1_ n2_
              (try clear hb)
              (try clear hb2)
              (try clear hk)
              (try clear hi)
              refine hK.out _ _ ⟨(bCe BK482.out 0).trans rfl,(bCe BK482.out 1).trans rfl,(bCe BK482.out 2).trans rfl,(bCe BK482.out 3).trans rfl,(bCe BK482.out 4).trans rfl⟩ (fun hHeld => ?_)
              clear hK K
              refine norm_ (a':=?_) ?_ ?_
              rotate_left
              ·show Act.put _ (some 73) _ = _
               simp only [Act.put,List.setIfInBounds_toArray,List.set_cons_zero,List.set_cons_succ,i64_w,i32_w]
               rfl
              refine pure_ (i:=2) (N:=some 74) (v:=?_) (a':=?_) #[true,true,true,false,false,false,false,false,false,false,false,false,false,false,false,false,false,false,false] rfl rfl (any_of HT_.out (by kernel_rfl)) (fun _ _ _ h => h) (Or.inl ⟨by rfl,?_⟩) ?_ ?_
              rotate_left
              ·intro w'
               go_simp
               with_reducible rfl
              rotate_left
              ·simp only [Act.put,List.setIfInBounds_toArray,List.set_cons_zero,List.set_cons_succ,i64_w,i32_w]
               rfl
              refine pure_ (i:=3) (N:=some 75) (v:=?_) (a':=?_) #[true,true,true,true,false,false,false,false,false,false,false,false,false,false,false,false,false,false,false] rfl rfl (any_of HT_.out (by kernel_rfl)) (fun _ _ _ h => h) (Or.inl ⟨by rfl,?_⟩) ?_ ?_
              rotate_left
              ·intro w'
               go_simp
               with_reducible rfl
              rotate_left
              ·simp only [Act.put,List.setIfInBounds_toArray,List.set_cons_zero,List.set_cons_succ,i64_w,i32_w]
               rfl
              refine pure_ (i:=4) (N:=some 76) (v:=?_) (a':=?_) #[true,true,true,true,true,false,false,false,false,false,false,false,false,false,false,false,false,false,false] rfl rfl (any_of HT_.out (by kernel_rfl)) (fun _ _ _ h => h) (Or.inl ⟨by rfl,?_⟩) ?_ ?_
              rotate_left
              ·intro w'
               go_simp
               with_reducible rfl
              rotate_left
              ·simp only [Act.put,List.setIfInBounds_toArray,List.set_cons_zero,List.set_cons_succ,i64_w,i32_w]
               rfl
              refine pure_ (i:=5) (N:=some 77) (v:=?_) (a':=?_) #[true,true,true,true,true,true,false,false,false,false,false,false,false,false,false,false,false,false,false] rfl rfl (any_of HT_.out (by kernel_rfl)) (fun _ _ _ h => h) (Or.inl ⟨by rfl,?_⟩) ?_ ?_
              rotate_left
              ·intro w'
               go_simp
               with_reducible rfl
              rotate_left
              ·simp only [Act.put,List.setIfInBounds_toArray,List.set_cons_zero,List.set_cons_succ,i64_w,i32_w]
               rfl
              refine pure_ (i:=6) (N:=some 78) (v:=?_) (a':=?_) #[true,true,true,true,true,true,true,false,false,false,false,false,false,false,false,false,false,false,false] rfl rfl (any_of HT_.out (by kernel_rfl)) (fun _ _ _ h => h) (Or.inl ⟨by rfl,?_⟩) ?_ ?_
              rotate_left
              ·intro w'
               go_simp
               with_reducible rfl
              rotate_left
              ·simp only [Act.put,List.setIfInBounds_toArray,List.set_cons_zero,List.set_cons_succ,i64_w,i32_w]
               rfl
              refine pure_ (i:=7) (N:=some 79) (v:=undef) (a':=?_) #[true,true,true,true,true,true,true,true,false,false,false,false,false,false,false,false,false,false,false] rfl rfl (any_of HT_.out (by kernel_rfl)) (fun _ _ _ h => h) (Or.inr ⟨by rfl,rfl⟩) ?_ ?_
              rotate_left
              ·simp only [Act.put,List.setIfInBounds_toArray,List.set_cons_zero,List.set_cons_succ,i64_w,i32_w]
               rfl
              refine pure_ (i:=8) (N:=some 80) (v:=undef) (a':=?_) #[true,true,true,true,true,true,true,true,true,false,false,false,false,false,false,false,false,false,false] rfl rfl (any_of HT_.out (by kernel_rfl)) (fun _ _ _ h => h) (Or.inr ⟨by rfl,rfl⟩) ?_ ?_
              rotate_left
              ·simp only [Act.put,List.setIfInBounds_toArray,List.set_cons_zero,List.set_cons_succ,i64_w,i32_w]
               rfl
              refine pure_ (i:=9) (N:=some 81) (v:=undef) (a':=?_) #[true,true,true,true,true,true,true,true,true,true,false,false,false,false,false,false,false,false,false] rfl rfl (any_of HT_.out (by kernel_rfl)) (fun _ _ _ h => h) (Or.inr ⟨by rfl,rfl⟩) ?_ ?_
              rotate_left
              ·simp only [Act.put,List.setIfInBounds_toArray,List.set_cons_zero,List.set_cons_succ,i64_w,i32_w]
               rfl
              refine pure_ (i:=10) (N:=some 82) (v:=undef) (a':=?_) #[true,true,true,true,true,true,true,true,true,true,true,false,false,false,false,false,false,false,false] rfl rfl (any_of HT_.out (by kernel_rfl)) (fun _ _ _ h => h) (Or.inr ⟨by rfl,rfl⟩) ?_ ?_
              rotate_left
              ·simp only [Act.put,List.setIfInBounds_toArray,List.set_cons_zero,List.set_cons_succ,i64_w,i32_w]
               rfl
              refine pure_ (i:=11) (N:=some 83) (v:=undef) (a':=?_) #[true,true,true,true,true,true,true,true,true,true,true,true,false,false,false,false,false,false,false] rfl rfl (any_of HT_.out (by kernel_rfl)) (fun _ _ _ h => h) (Or.inr ⟨by rfl,rfl⟩) ?_ ?_
              rotate_left
              ·simp only [Act.put,List.setIfInBounds_toArray,List.set_cons_zero,List.set_cons_succ,i64_w,i32_w]
               rfl
              refine pure_ (i:=12) (N:=some 84) (v:=undef) (a':=?_) #[true,true,true,true,true,true,true,true,true,true,true,true,true,false,false,false,false,false,false] rfl rfl (any_of HT_.out (by kernel_rfl)) (fun _ _ _ h => h) (Or.inr ⟨by rfl,rfl⟩) ?_ ?_
              rotate_left
              ·simp only [Act.put,List.setIfInBounds_toArray,List.set_cons_zero,List.set_cons_succ,i64_w,i32_w]
               rfl
              refine pure_ (i:=13) (N:=some 85) (v:=undef) (a':=?_) #[true,true,true,true,true,true,true,true,true,true,true,true,true,true,false,false,false,false,false] rfl rfl (any_of HT_.out (by kernel_rfl)) (fun _ _ _ h => h) (Or.inr ⟨by rfl,rfl⟩) ?_ ?_
              rotate_left
              ·simp only [Act.put,List.setIfInBounds_toArray,List.set_cons_zero,List.set_cons_succ,i64_w,i32_w]
               rfl
              refine pure_ (i:=14) (N:=some 86) (v:=undef) (a':=?_) #[true,true,true,true,true,true,true,true,true,true,true,true,true,true,true,false,false,false,false] rfl rfl (any_of HT_.out (by kernel_rfl)) (fun _ _ _ h => h) (Or.inr ⟨by rfl,rfl⟩) ?_ ?_
              rotate_left
              ·simp only [Act.put,List.setIfInBounds_toArray,List.set_cons_zero,List.set_cons_succ,i64_w,i32_w]
               rfl
              refine pure_ (i:=15) (N:=some 87) (v:=undef) (a':=?_) #[true,true,true,true,true,true,true,true,true,true,true,true,true,true,true,true,false,false,false] rfl rfl (any_of HT_.out (by kernel_rfl)) (fun _ _ _ h => h) (Or.inr ⟨by rfl,rfl⟩) ?_ ?_
              rotate_left
              ·simp only [Act.put,List.setIfInBounds_toArray,List.set_cons_zero,List.set_cons_succ,i64_w,i32_w]
               rfl
              refine pure_ (i:=16) (N:=some 88) (v:=undef) (a':=?_) #[true,true,true,true,true,true,true,true,true,true,true,true,true,true,true,true,true,false,false] rfl rfl (any_of HT_.out (by kernel_rfl)) (fun _ _ _ h => h) (Or.inr ⟨by rfl,rfl⟩) ?_ ?_
              rotate_left
              ·simp only [Act.put,List.setIfInBounds_toArray,List.set_cons_zero,List.set_cons_succ,i64_w,i32_w]
               rfl
              refine pure_ (i:=17) (N:=some 89) (v:=?_) (a':=?_) #[true,true,true,true,true,true,true,true,true,true,true,true,true,true,true,true,true,true,false] rfl rfl (any_of HT_.out (by kernel_rfl)) (fun _ _ _ h => h) (Or.inl ⟨by rfl,?_⟩) ?_ ?_
              rotate_left
              ·intro w'
               go_simp
               with_reducible rfl
              rotate_left
              ·simp only [Act.put,List.setIfInBounds_toArray,List.set_cons_zero,List.set_cons_succ,i64_w,i32_w]
               rfl
              refine pure_ (i:=18) (N:=some 90) (v:=?_) (a':=?_) #[true,true,true,true,true,true,true,true,true,true,true,true,true,true,true,true,true,true,true] rfl rfl (any_of HT_.out (by kernel_rfl)) (fun _ _ _ h => h) (Or.inl ⟨by rfl,?_⟩) ?_ ?_
              rotate_left
              ·intro w'
               go_simp
               with_reducible rfl
              rotate_left
              ·simp only [Act.put,List.setIfInBounds_toArray,List.set_cons_zero,List.set_cons_succ,i64_w,i32_w]
               rfl
              refine done_ (done_of HT_.out (by kernel_rfl)) ?_
              try go_wp2
              go_roundg k3
              case measure => have:=HJ1.out;have:=HJ32.out;have:=HK3.out;omega
              case rel => exact ⟨(wrap64 (x67_3 + 1)),(by first | rfl|(simp;done)|(simp [*];done)|(simp [ne_nil_b];done)|(simp [ne_nil_b, *];done)),H',⟨by have:=HJ1.out;have:=HJ32.out;have:=HK3.out;omega⟩,⟨by (with_reducible repeat (first|refine bDn ?_ _|refine bDr ?_|refine bAl ?_ _));exact BK471.out⟩,⟨by repeat (first|(with_reducible first|exact HB.out|apply bwA|apply bwN|apply bw1|refine below_set ?_ GE471.out|refine below_set ?_ GE482.out)|exact HB.out)⟩⟩
            ·replace c57:=Bool.eq_false_iff.mpr c57
             subst c57
             have H1 : (some false) = some r:=by rw [if_neg (show ¬ (false = true) by decide)] at H;exact H
             clear H
             have H:=H1
             clear H1
             obtain rfl:=Option.some.inj H
             have p481 : 0 ≤ (x67_3 : Int):=of_decide_eq_true (by first|(with_reducible assumption) | assumption)
             have q481 : x67_3 < (l0_7.length : Int):=of_decide_eq_true (by first|(with_reducible assumption) | assumption)
             obtain ⟨ad481,A481_1,c481_1,e481,hx481_0,hx481_1,hx481_2,hx481_3,hx481_4,hl481_1,hi481_1⟩:=at_T54 HR0_7.out x67_3 p481 q481
             cases e481
             replace hx481_0:=bXc HB.out hx481_0
             replace hx481_1:=bXc HB.out hx481_1
             replace hx481_2:=bXc HB.out hx481_2
             replace hx481_3:=bXc HB.out hx481_3
             replace hx481_4:=bXc HB.out hx481_4
             have HR481_1:=aMk hi481_1
             have HC481_1:=aMk hl481_1
             clear hi481_1 hl481_1
             replace p481:=eq_true p481
             replace q481:=eq_true q481
             try go_wp2_with (first|((with_reducible refine gate_dst (N:=5) rfl ?_);(try (refine gate_guard (by rfl) ?_;dsimp only));refine bxE (N:=5) (cs:=#[.string (⟨#[]⟩ : ByteArray),.slice none 0 0,.int .i64 0,.int .i64 0,.int .i64 0]) (t:=54) ?_;intro gb482 hg w81 hbox hb;have n0_:=aMk (bkB BK471.out hb);have n1_:=aMk (below_step (by repeat (first|(with_reducible first|exact HB.out|apply bwA|apply bwN|apply bw1|refine below_set ?_ GE471.out)|exact HB.out)) hb);have n2_:=aMk (hbox);have n3_:=aMk ((by rw [hg];exact (below_size (by repeat (first|(with_reducible first|exact HB.out|apply bwA|apply bwN|apply bw1|refine below_set ?_ GE471.out)|exact HB.out))) : w.heap.size ≤ gb482));have n4_:=aMk ((by rw [hg];exact (below_size (by repeat (first|(with_reducible first|exact HB.out|apply bwA|apply bwN|apply bw1|refine below_set ?_ GE471.out)|exact HB.out))) : w.heap.size ≤ gb482));have n5_:=aMk ((bkL BK471.out hg : gb471 ≠ gb482));have n6_:=aMk ((bkG BK471.out hg : gb482 ≠ gb471));clear BK471;clear HB;have BK471:=n0_;have HB:=n1_;have BK482:=n2_;have GW482:=n3_;have GE482:=n4_;have NB471_482:=n5_;have NB482_471:=n6_;clear n0_ n1_ n2_ n3_ n4_ n5_ n6_;clear hb hbox hg;have hnb82:=NB482_471.out;have hnc82:=NB471_482.out;obtain ⟨hcz83_0,hcz83_1,hcz83_2,hcz83_3,hcz83_4,hfz83_0,hfz83_1,hfz83_2,hfz83_3,hfz83_4⟩:=bC5 BK482.out))
             have n0_ : Aside0 ((((((w81.setCell ⟨gb482,0,none⟩ (.string ((rd_T54 l0_7 x67_3).f0))).setCell ⟨gb482,1,none⟩ (.slice A481_1 ((rd_T54 l0_7 x67_3).f1).length c481_1)).setCell ⟨gb482,2,none⟩ (.int .i64 ((rd_T54 l0_7 x67_3).f2))).setCell ⟨gb482,3,none⟩ (.int .i64 ((rd_T54 l0_7 x67_3).f3))).setCell ⟨gb482,4,none⟩ (.int .i64 ((rd_T54 l0_7 x67_3).f4))).heap[gb471]? = some (.cells #[.int .i64 a0_0,.int .i64 a0_1,.int .i64 a0_2,.string a0_3,.string a0_4,.int .i64 a0_5,.slice A0_6 l0_6.length c0_6,.slice (some ad481) l0_7.length c0_7] 70 (0,0))):=⟨by (with_reducible repeat (first|refine bDn ?_ _|refine bDr ?_|refine bAl ?_ _));refine blk_far ?_ NB471_482.out _;(with_reducible repeat (first|refine bDn ?_ _|refine bDr ?_|refine bAl ?_ _));refine blk_far ?_ NB471_482.out _;(with_reducible repeat (first|refine bDn ?_ _|refine bDr ?_|refine bAl ?_ _));refine blk_far ?_ NB471_482.out _;(with_reducible repeat (first|refine bDn ?_ _|refine bDr ?_|refine bAl ?_ _));refine blk_far ?_ NB471_482.out _;(with_reducible repeat (first|refine bDn ?_ _|refine bDr ?_|refine bAl ?_ _));refine blk_far ?_ NB471_482.out _;(with_reducible repeat (first|refine bDn ?_ _|refine bDr ?_|refine bAl ?_ _));exact BK471.out⟩
             have n1_ : Aside0 ((((((w81.setCell ⟨gb482,0,none⟩ (.string ((rd_T54 l0_7 x67_3).f0))).setCell ⟨gb482,1,none⟩ (.slice A481_1 ((rd_T54 l0_7 x67_3).f1).length c481_1)).setCell ⟨gb482,2,none⟩ (.int .i64 ((rd_T54 l0_7 x67_3).f2))).setCell ⟨gb482,3,none⟩ (.int .i64 ((rd_T54 l0_7 x67_3).f3))).setCell ⟨gb482,4,none⟩ (.int .i64 ((rd_T54 l0_7 x67_3).f4))).heap[gb482]? = some (.cells #[.string ((rd_T54 l0_7 x67_3).f0),.slice A481_1 ((rd_T54 l0_7 x67_3).f1).length c481_1,.int .i64 ((rd_T54 l0_7 x67_3).f2),.int .i64 ((rd_T54 l0_7 x67_3).f3),.int .i64 ((rd_T54 l0_7 x67_3).f4)] 54 (0,0))):=⟨by (with_reducible repeat (first|refine bDn ?_ _|refine bDr ?_|refine bAl ?_ _));refine blk_put (cs:=#[.string ((rd_T54 l0_7 x67_3).f0),.slice A481_1 ((rd_T54 l0_7 x67_3).f1).length c481_1,.int .i64 ((rd_T54 l0_7 x67_3).f2),.int .i64 ((rd_T54 l0_7 x67_3).f3),.int .i64 0]) ?_ 4 _ rfl;(with_reducible repeat (first|refine bDn ?_ _|refine bDr ?_|refine bAl ?_ _));refine blk_put (cs:=#[.string ((rd_T54 l0_7 x67_3).f0),.slice A481_1 ((rd_T54 l0_7 x67_3).f1).length c481_1,.int .i64 ((rd_T54 l0_7 x67_3).f2),.int .i64 0,.int .i64 0]) ?_ 3 _ rfl;(with_reducible repeat (first|refine bDn ?_ _|refine bDr ?_|refine bAl ?_ _));refine blk_put (cs:=#[.string ((rd_T54 l0_7 x67_3).f0),.slice A481_1 ((rd_T54 l0_7 x67_3).f1).length c481_1,.int .i64 0,.int .i64 0,.int .i64 0]) ?_ 2 _ rfl;(with_reducible repeat (first|refine bDn ?_ _|refine bDr ?_|refine bAl ?_ _));refine blk_put (cs:=#[.string ((rd_T54 l0_7 x67_3).f0),.slice none 0 0,.int .i64 0,.int .i64 0,.int .i64 0]) ?_ 1 _ rfl;(with_reducible repeat (first|refine bDn ?_ _|refine bDr ?_|refine bAl ?_ _));refine blk_put (cs:=#[.string (⟨#[]⟩ : ByteArray),.slice none 0 0,.int .i64 0,.int .i64 0,.int .i64 0]) ?_ 0 _ rfl;(with_reducible repeat (first|refine bDn ?_ _|refine bDr ?_|refine bAl ?_ _));exact BK482.out⟩
             have n2_ : Aside0 (Below w.heap.size w (((((w81.setCell ⟨gb482,0,none⟩ (.string ((rd_T54 l0_7 x67_3).f0))).setCell ⟨gb482,1,none⟩ (.slice A481_1 ((rd_T54 l0_7 x67_3).f1).length c481_1)).setCell ⟨gb482,2,none⟩ (.int .i64 ((rd_T54 l0_7 x67_3).f2))).setCell ⟨gb482,3,none⟩ (.int .i64 ((rd_T54 l0_7 x67_3).f3))).setCell ⟨gb482,4,none⟩ (.int .i64 ((rd_T54 l0_7 x67_3).f4)))):=⟨by repeat (first|(with_reducible first|exact HB.out|apply bwA|apply bwN|apply bw1|refine below_set ?_ GE471.out|refine below_set ?_ GE482.out)|exact HB.out)⟩
             (try clear BK471)
             (try clear BK482)
             (try clear HB)
             generalize (((((w81.setCell ⟨gb482,0,none⟩ (.string ((rd_T54 l0_7 x67_3).f0))).setCell ⟨gb482,1,none⟩ (.slice A481_1 ((rd_T54 l0_7 x67_3).f1).length c481_1)).setCell ⟨gb482,2,none⟩ (.int .i64 ((rd_T54 l0_7 x67_3).f2))).setCell ⟨gb482,3,none⟩ (.int .i64 ((rd_T54 l0_7 x67_3).f3))).setCell ⟨gb482,4,none⟩ (.int .i64 ((rd_T54 l0_7 x67_3).f4))) = w84 at n0_ n1_ n2_ ⊢
             have BK471:=n0_
             have BK482:=n1_
             have HB:=n2_
             clear n0_ n1_ n2_
             have n0_:=aMk (bDr BK471.out)
             have n1_:=aMk (bDr BK482.out)
             have n2_:=aMk (bw1 HB.out)
             clear BK471
             clear BK482
             clear HB
             have BK471:=n0_
             have BK482:=n1_
             have HB:=n2_
             clear n0_ n1_ n2_
             refine start_ (n:=19) (S:=fun w' => w'.cell? ⟨gb482,0,none⟩ = some (.string ((rd_T54 l0_7 x67_3).f0)) ∧ w'.cell? ⟨gb482,1,none⟩ = some (.slice A481_1 ((rd_T54 l0_7 x67_3).f1).length c481_1) ∧ w'.cell? ⟨gb482,2,none⟩ = some (.int .i64 ((rd_T54 l0_7 x67_3).f2)) ∧ w'.cell? ⟨gb482,3,none⟩ = some (.int .i64 ((rd_T54 l0_7 x67_3).f3)) ∧ w'.cell? ⟨gb482,4,none⟩ = some (.int .i64 ((rd_T54 l0_7 x67_3).f4))) (ds:=[]) #[false,false,false,false,false,false,false,false,false,false,false,false,false,false,false,false,false,false,false] (by kernel_rfl) rfl rfl ⟨(bCe BK482.out 0).trans rfl,(bCe BK482.out 1).trans rfl,(bCe BK482.out 2).trans rfl,(bCe BK482.out 3).trans rfl,(bCe BK482.out 4).trans rfl⟩ (fun hHeld => ?_);refine with_tabW impl_ConfigOK.tab9 impl_ConfigOK.bits9 (fun HT_ HW_ => ?_)
             generalize w84.drew = w85 at BK471 BK482 HB hHeld ⊢
             refine take_ (i:=0) (N:=some 72) (v:=?_) (a':=?_) #[true,false,false,false,false,false,false,false,false,false,false,false,false,false,false,false,false,false,false] rfl rfl (take_ofW HT_.out HW_.out (by kernel_rfl)) (fun _ _ _ h => h) (Or.inl ⟨by rfl,?_⟩) hHeld ?_ ?_
             rotate_left
             ·rintro w' ⟨s0,s1,s2,s3,s4⟩
              go_simp
              with_reducible rfl
             rotate_left
             ·simp only [Act.put,List.setIfInBounds_toArray,List.set_cons_zero,List.set_cons_succ,i64_w,i32_w]
              rfl
             refine one_ (i:=1) (N:=some 73) #[true,true,false,false,false,false,false,false,false,false,false,false,false,false,false,false,false,false,false] rfl rfl (one_of HT_.out (by kernel_rfl)) (by decide) (fun K hK => ?_)
             refine goes_ Try.func25 (by kernel_rfl) rfl #[.agg #[.string ((rd_T54 l0_7 x67_3).f0),.slice A481_1 ((rd_T54 l0_7 x67_3).f1).length c481_1,.int .i64 ((rd_T54 l0_7 x67_3).f2),.int .i64 ((rd_T54 l0_7 x67_3).f3),.int .i64 ((rd_T54 l0_7 x67_3).f4)]] (by rfl) rfl rfl (by (try simp only [List.map_toArray,List.map_cons,List.map_nil]);first | done | rfl|(simp only [List.length_drop,List.length_take];rfl)) ?_
             with_reducible refine (impl_RoleOK.calls k3 ((rd_T54 l0_7 x67_3).f0) _ _ ((rd_T54 l0_7 x67_3).f1) ((rd_T54 l0_7 x67_3).f2) ((rd_T54 l0_7 x67_3).f3) ((rd_T54 l0_7 x67_3).f4) false _ ?side1 ?side2 A56.out).mono ?_
             (case side1 => repeat (first|exact (Kd.C_below HR481_1.out HB.out)|(with_reducible refine Kd.C_alloc ?_ _)|(with_reducible refine Kd.C_drewN ?_ _)|(with_reducible refine Kd.C_drew ?_)))
             (case side2 => exact HC481_1.out)
             rintro e w86 ⟨rfl,hb⟩
             refine ⟨_,rfl,?_⟩
             have n0_:=aMk (bkB BK471.out hb)
             have n1_:=aMk (bkB BK482.out hb)
             have n2_:=aMk (below_step (by repeat (first|(with_reducible first|exact HB.out|apply bwA|apply bwN|apply bw1|refine below_set ?_ GE471.out|refine below_set ?_ GE482.out)|exact HB.out)) hb)
             clear BK471
             clear BK482
             clear HB
             have BK471:=n0_
             have BK482:=n1_
             have HB:=n2_
             clear n0_ n1_ n2_
             (try clear hb)
             (try clear hb2)
             (try clear hk)
             (try clear hi)
             refine hK.out _ _ ⟨(bCe BK482.out 0).trans rfl,(bCe BK482.out 1).trans rfl,(bCe BK482.out 2).trans rfl,(bCe BK482.out 3).trans rfl,(bCe BK482.out 4).trans rfl⟩ (fun hHeld => ?_)
             clear hK K
             refine norm_ (a':=?_) ?_ ?_
             rotate_left
             ·show Act.put _ (some 73) _ = _
              simp only [Act.put,List.setIfInBounds_toArray,List.set_cons_zero,List.set_cons_succ,i64_w,i32_w]
              rfl
             refine pure_ (i:=2) (N:=some 74) (v:=?_) (a':=?_) #[true,true,true,false,false,false,false,false,false,false,false,false,false,false,false,false,false,false,false] rfl rfl (any_of HT_.out (by kernel_rfl)) (fun _ _ _ h => h) (Or.inl ⟨by rfl,?_⟩) ?_ ?_
             rotate_left
             ·intro w'
              go_simp
              with_reducible rfl
             rotate_left
             ·simp only [Act.put,List.setIfInBounds_toArray,List.set_cons_zero,List.set_cons_succ,i64_w,i32_w]
              rfl
             refine pure_ (i:=3) (N:=some 75) (v:=?_) (a':=?_) #[true,true,true,true,false,false,false,false,false,false,false,false,false,false,false,false,false,false,false] rfl rfl (any_of HT_.out (by kernel_rfl)) (fun _ _ _ h => h) (Or.inl ⟨by rfl,?_⟩) ?_ ?_
             rotate_left
             ·intro w'
              go_simp
              with_reducible rfl
             rotate_left
             ·simp only [Act.put,List.setIfInBounds_toArray,List.set_cons_zero,List.set_cons_succ,i64_w,i32_w]
              rfl
             refine pure_ (i:=4) (N:=some 76) (v:=undef) (a':=?_) #[true,true,true,true,true,false,false,false,false,false,false,false,false,false,false,false,false,false,false] rfl rfl (any_of HT_.out (by kernel_rfl)) (fun _ _ _ h => h) (Or.inr ⟨by rfl,rfl⟩) ?_ ?_
             rotate_left
             ·simp only [Act.put,List.setIfInBounds_toArray,List.set_cons_zero,List.set_cons_succ,i64_w,i32_w]
              rfl
             refine pure_ (i:=5) (N:=some 77) (v:=undef) (a':=?_) #[true,true,true,true,true,true,false,false,false,false,false,false,false,false,false,false,false,false,false] rfl rfl (any_of HT_.out (by kernel_rfl)) (fun _ _ _ h => h) (Or.inr ⟨by rfl,rfl⟩) ?_ ?_
             rotate_left
             ·simp only [Act.put,List.setIfInBounds_toArray,List.set_cons_zero,List.set_cons_succ,i64_w,i32_w]
              rfl
             refine pure_ (i:=6) (N:=some 78) (v:=undef) (a':=?_) #[true,true,true,true,true,true,true,false,false,false,false,false,false,false,false,false,false,false,false] rfl rfl (any_of HT_.out (by kernel_rfl)) (fun _ _ _ h => h) (Or.inr ⟨by rfl,rfl⟩) ?_ ?_
             rotate_left
             ·simp only [Act.put,List.setIfInBounds_toArray,List.set_cons_zero,List.set_cons_succ,i64_w,i32_w]
              rfl
             refine pure_ (i:=7) (N:=some 79) (v:=undef) (a':=?_) #[true,true,true,true,true,true,true,true,false,false,false,false,false,false,false,false,false,false,false] rfl rfl (any_of HT_.out (by kernel_rfl)) (fun _ _ _ h => h) (Or.inr ⟨by rfl,rfl⟩) ?_ ?_
             rotate_left
             ·simp only [Act.put,List.setIfInBounds_toArray,List.set_cons_zero,List.set_cons_succ,i64_w,i32_w]
              rfl
             refine pure_ (i:=8) (N:=some 80) (v:=undef) (a':=?_) #[true,true,true,true,true,true,true,true,true,false,false,false,false,false,false,false,false,false,false] rfl rfl (any_of HT_.out (by kernel_rfl)) (fun _ _ _ h => h) (Or.inr ⟨by rfl,rfl⟩) ?_ ?_
             rotate_left
             ·simp only [Act.put,List.setIfInBounds_toArray,List.set_cons_zero,List.set_cons_succ,i64_w,i32_w]
              rfl
             refine pure_ (i:=9) (N:=some 81) (v:=undef) (a':=?_) #[true,true,true,true,true,true,true,true,true,true,false,false,false,false,false,false,false,false,false] rfl rfl (any_of HT_.out (by kernel_rfl)) (fun _ _ _ h => h) (Or.inr ⟨by rfl,rfl⟩) ?_ ?_
             rotate_left
             ·simp only [Act.put,List.setIfInBounds_toArray,List.set_cons_zero,List.set_cons_succ,i64_w,i32_w]
              rfl
             refine pure_ (i:=10) (N:=some 82) (v:=undef) (a':=?_) #[true,true,true,true,true,true,true,true,true,true,true,false,false,false,false,false,false,false,false] rfl rfl (any_of HT_.out (by kernel_rfl)) (fun _ _ _ h => h) (Or.inr ⟨by rfl,rfl⟩) ?_ ?_
             rotate_left
             ·simp only [Act.put,List.setIfInBounds_toArray,List.set_cons_zero,List.set_cons_succ,i64_w,i32_w]
              rfl
             refine pure_ (i:=11) (N:=some 83) (v:=undef) (a':=?_) #[true,true,true,true,true,true,true,true,true,true,true,true,false,false,false,false,false,false,false] rfl rfl (any_of HT_.out (by kernel_rfl)) (fun _ _ _ h => h) (Or.inr ⟨by rfl,rfl⟩) ?_ ?_
             rotate_left
             ·simp only [Act.put,List.setIfInBounds_toArray,List.set_cons_zero,List.set_cons_succ,i64_w,i32_w]
              rfl
             refine pure_ (i:=12) (N:=some 84) (v:=undef) (a':=?_) #[true,true,true,true,true,true,true,true,true,true,true,true,true,false,false,false,false,false,false] rfl rfl (any_of HT_.out (by kernel_rfl)) (fun _ _ _ h => h) (Or.inr ⟨by rfl,rfl⟩) ?_ ?_
             rotate_left
             ·simp only [Act.put,List.setIfInBounds_toArray,List.set_cons_zero,List.set_cons_succ,i64_w,i32_w]
              rfl
             refine pure_ (i:=13) (N:=some 85) (v:=undef) (a':=?_) #[true,true,true,true,true,true,true,true,true,true,true,true,true,true,false,false,false,false,false] rfl rfl (any_of HT_.out (by kernel_rfl)) (fun _ _ _ h => h) (Or.inr ⟨by rfl,rfl⟩) ?_ ?_
             rotate_left
             ·simp only [Act.put,List.setIfInBounds_toArray,List.set_cons_zero,List.set_cons_succ,i64_w,i32_w]
              rfl
             refine pure_ (i:=14) (N:=some 86) (v:=undef) (a':=?_) #[true,true,true,true,true,true,true,true,true,true,true,true,true,true,true,false,false,false,false] rfl rfl (any_of HT_.out (by kernel_rfl)) (fun _ _ _ h => h) (Or.inr ⟨by rfl,rfl⟩) ?_ ?_
             rotate_left
             ·simp only [Act.put,List.setIfInBounds_toArray,List.set_cons_zero,List.set_cons_succ,i64_w,i32_w]
              rfl
             refine pure_ (i:=15) (N:=some 87) (v:=undef) (a':=?_) #[true,true,true,true,true,true,true,true,true,true,true,true,true,true,true,true,false,false,false] rfl rfl (any_of HT_.out (by kernel_rfl)) (fun _ _ _ h => h) (Or.inr ⟨by rfl,rfl⟩) ?_ ?_
             rotate_left
             ·simp only [Act.put,List.setIfInBounds_toArray,List.set_cons_zero,List.set_cons_succ,i64_w,i32_w]
              rfl
             refine pure_ (i:=16) (N:=some 88) (v:=undef) (a':=?_) #[true,true,true,true,true,true,true,true,true,true,true,true,true,true,true,true,true,false,false] rfl rfl (any_of HT_.out (by kernel_rfl)) (fun _ _ _ h => h) (Or.inr ⟨by rfl,rfl⟩) ?_ ?_
             rotate_left
             ·simp only [Act.put,List.setIfInBounds_toArray,List.set_cons_zero,List.set_cons_succ,i64_w,i32_w]
              rfl
             refine pure_ (i:=17) (N:=some 89) (v:=undef) (a':=?_) #[true,true,true,true,true,true,true,true,true,true,true,true,true,true,true,true,true,true,false] rfl rfl (any_of HT_.out (by kernel_rfl)) (fun _ _ _ h => h) (Or.inr ⟨by rfl,rfl⟩) ?_ ?_
             rotate_left
             ·simp only [Act.put,List.setIfInBounds_toArray,List.set_cons_zero,List.set_cons_succ,i64_w,i32_w]
              rfl
             refine pure_ (i:=18) (N:=some 90) (v:=?_) (a':=?_) #[true,true,true,true,true,true,true,true,true,true,true,true,true,true,true,true,true,true,true] rfl rfl (any_of HT_.out (by kernel_rfl)) (fun _ _ _ h => h) (Or.inl ⟨by rfl,?_⟩) ?_ ?_
             rotate_left
             ·intro w'
              go_simp
              with_reducible rfl
             rotate_left
             ·simp only [Act.put,List.setIfInBounds_toArray,List.set_cons_zero,List.set_cons_succ,i64_w,i32_w]
              rfl
             refine done_ (done_of HT_.out (by kernel_rfl)) ?_
             try go_wp2
             go_ret
             exact ⟨eRf,by repeat (first|(with_reducible first|exact HB.out|apply bwA|apply bwN|apply bw1|refine below_set ?_ GE471.out|refine below_set ?_ GE482.out)|exact HB.out)⟩
           ·rw [if_neg c55] at H
            exact absurd H (by simp)
          ·rw [if_neg c54] at H
           exact absurd H (by simp)
         ·rw [if_neg c53] at H
          have c53b0 : decide (x67_3 < (l0_7.length : Int)) = false:=decide_eq_false c53
          clear c53
          obtain rfl:=Option.some.inj H
          go_wp2
          go_ret
          exact ⟨eRf,by repeat (first|(with_reducible first|exact HB.out|apply bwA|apply bwN|apply bw1|refine below_set ?_ GE471.out)|exact HB.out)⟩
end
section
/-! ### impl_isPort: function 79 -/
def impl_isPort.f (a0 : Int) : Option (Bool):=(impl_within.f a0 0 65535).bind fun t320 => (some t320)
set_option maxHeartbeats 8000000 in
set_option maxRecDepth 100000 in
theorem impl_isPort.calls (a0 : Int) (r : Bool) (w : World) (h : impl_isPort.f a0 = some r) :
  Calls Try.prog 79 #[.int .i64 a0] w fun e w' => e = .returned (.bool r) ∧ Drawn0 w w':=by
 have H : ((impl_within.f a0 0 65535).bind fun t320 => (some t320)) = some r:=h
 clear h
 replace H:=Option.bind_eq_some_iff.mp H
 obtain ⟨t320,A20,H⟩:=H
 replace H : (some t320) = some r:=H
 have A2:=aMk A20
 clear A20
 obtain rfl:=Option.some.inj H
 go_enter Try.func79,Try.ntmps79
 go_wp2_with (first|((with_reducible refine gate_callee (f:=60) rfl ?_);refine gLs 4 Try.func60 #[.int .i64 a0,.int .i64 0,.int .i64 65535] ?_;(with_reducible refine (impl_within.calls a0 0 65535 t320 _ A2.out).mono ?_);rintro e w' ⟨rfl,⟨nd,rfl⟩⟩;refine ⟨_,rfl,?_⟩))
 go_ret
 exact ⟨by first | rfl|(simp;done)|(simp [*];done)|(simp [ne_nil_b];done)|(simp [ne_nil_b, *];done),by repeat (first|exact Drawn0.refl _|apply Drawn0.step)⟩
end
section
/-! ### impl_Range_has: function 89 -/
def impl_Range_has.f (a0_0 : Int) (a0_1 : Int) (a1 : Int) : Option (Bool):=(impl_within.f a1 a0_0 a0_1).bind fun t327 => (some t327)
set_option maxHeartbeats 8000000 in
set_option maxRecDepth 100000 in
theorem impl_Range_has.calls (a0_0 : Int) (a0_1 : Int) (a1 : Int) (r : Bool) (w : World) (h : impl_Range_has.f a0_0 a0_1 a1 = some r) :
  Calls Try.prog 89 #[.agg #[.int .i64 a0_0,.int .i64 a0_1],.int .i64 a1] w fun e w' => e = .returned (.bool r) ∧ Below w.heap.size w w':=by
 have hu34:=Try.underlying34
 have HB:=aMk (Below.refl w.heap.size w)
 have H : ((impl_within.f a1 a0_0 a0_1).bind fun t327 => (some t327)) = some r:=h
 clear h
 replace H:=Option.bind_eq_some_iff.mp H
 obtain ⟨t327,A30,H⟩:=H
 replace H : (some t327) = some r:=H
 have A3:=aMk A30
 clear A30
 obtain rfl:=Option.some.inj H
 go_enter Try.func89,Try.ntmps89
 go_wp2_with (first|((with_reducible refine gate_dst (N:=2) rfl ?_);refine bxE (N:=2) (cs:=#[.int .i64 a0_0,.int .i64 a0_1]) (t:=34) ?_;intro gb326 hg w4 hbox hb;have n0_:=aMk (bSt hb);have n1_:=aMk (hbox);have n2_:=aMk ((by rw [hg];exact bSz : w.heap.size ≤ gb326));have n3_:=aMk ((by rw [hg];exact bSz : w.heap.size ≤ gb326));clear HB;have HB:=n0_;have BK326:=n1_;have GW326:=n2_;have GE326:=n3_;clear n0_ n1_ n2_ n3_;clear hb hbox hg;obtain ⟨hcz5_0,hcz5_1,hfz5_0,hfz5_1⟩:=bC2 BK326.out)|((with_reducible refine gate_callee (f:=60) rfl ?_);refine gLs 10 Try.func60 #[.int .i64 a1,.int .i64 a0_0,.int .i64 a0_1] ?_;(with_reducible refine (impl_within.calls a1 a0_0 a0_1 t327 _ A3.out).mono ?_);rintro e w' ⟨rfl,⟨nd,rfl⟩⟩;refine ⟨_,rfl,?_⟩))
 go_ret
 exact ⟨eRf,by repeat (first|(with_reducible first|exact HB.out|apply bwA|apply bwN|apply bw1|refine below_set ?_ GE326.out)|exact HB.out)⟩
end
section
/-! ### impl_Config_inGarden_1: function 93 -/
def impl_Config_inGarden_1.f (a0_0 : Int) (a0_1 : Int) (a0_2 : Int) (a0_3 : Int) (a1 : Int) (a2 : Int) : Option (Bool):=(impl_Net_has.f a0_0 a0_1 a1).bind fun t553 => (if t553 = true then ((impl_Range_has.f a0_2 a0_3 a2).bind fun t554 => (some t554)) else (some false))
set_option maxHeartbeats 8000000 in
set_option maxRecDepth 100000 in
theorem impl_Config_inGarden_1.calls (q1 q2 : Nat) (a0_0 : Int) (a0_1 : Int) (a0_2 : Int) (a0_3 : Int) (a1 : Int) (a2 : Int) (r : Bool) (w : World) (hq1 : w.cell? ⟨q1,0,none⟩ = some (.int .i64 a1)) (hq2 : w.cell? ⟨q2,0,none⟩ = some (.int .i64 a2)) (h : impl_Config_inGarden_1.f a0_0 a0_1 a0_2 a0_3 a1 a2 = some r) :
  Calls Try.prog 93 #[.agg #[.int .i64 a0_0,.int .i64 a0_1,.int .i64 a0_2,.int .i64 a0_3],.pointer (some ⟨q1,0,none⟩),.pointer (some ⟨q2,0,none⟩)] w fun e w' => e = .returned (.bool r) ∧ Below w.heap.size w w':=by
 have HQ1:=aMk hq1
 clear hq1
 have HQ2:=aMk hq2
 clear hq2
 have hu100:=Try.underlying100
 have hu26:=Try.underlying26
 have hu34:=Try.underlying34
 have HB:=aMk (Below.refl w.heap.size w)
 have H : ((impl_Net_has.f a0_0 a0_1 a1).bind fun t553 => (if t553 = true then ((impl_Range_has.f a0_2 a0_3 a2).bind fun t554 => (some t554)) else (some false))) = some r:=h
 clear h
 replace H:=Option.bind_eq_some_iff.mp H
 obtain ⟨t553,A40,H⟩:=H
 replace H : (if t553 = true then ((impl_Range_has.f a0_2 a0_3 a2).bind fun t554 => (some t554)) else (some false)) = some r:=H
 have A4:=aMk A40
 clear A40
 by_cases c5 : t553 = true
 ·subst c5
  have H1 : ((impl_Range_has.f a0_2 a0_3 a2).bind fun t554 => (some t554)) = some r:=by rw [if_pos rfl] at H;exact H
  clear H
  have H:=H1
  clear H1
  replace H:=Option.bind_eq_some_iff.mp H
  obtain ⟨t554,A60,H⟩:=H
  replace H : (some t554) = some r:=H
  have A6:=aMk A60
  clear A60
  obtain rfl:=Option.some.inj H
  have hcq1:=HQ1.out
  have hcq2:=HQ2.out
  go_enter Try.func93,Try.ntmps93
  go_wp2_with (first|((with_reducible refine gate_dst (N:=3) rfl ?_);refine bxE (N:=3) (cs:=#[.int .i64 a0_0,.int .i64 a0_1,.int .i64 a0_2,.int .i64 a0_3]) (t:=100) ?_;intro gb552 hg w7 hbox hb;have n0_:=aMk (bSt hb);have n1_:=aMk (hbox);have n2_:=aMk ((by rw [hg];exact bSz : w.heap.size ≤ gb552));have n3_:=aMk ((by rw [hg];exact bSz : w.heap.size ≤ gb552));clear HB;have HB:=n0_;have hcq1:=(HB.out.cell (wLt w _ HQ1.out)).trans HQ1.out;have hcq2:=(HB.out.cell (wLt w _ HQ2.out)).trans HQ2.out;have BK552:=n1_;have GW552:=n2_;have GE552:=n3_;clear n0_ n1_ n2_ n3_;clear hb hbox hg;obtain ⟨hcz8_0,hcz8_1,hcz8_2,hcz8_3,hfz8_0,hfz8_1,hfz8_2,hfz8_3⟩:=bC4 BK552.out)|((with_reducible refine gate_callee (f:=43) rfl ?_);refine gLs 8 Try.func43 #[.agg #[.int .i64 a0_0,.int .i64 a0_1],.int .i64 a1] ?_;(with_reducible refine (impl_Net_has.calls a0_0 a0_1 a1 true _ A4.out).mono ?_);rintro e w9 ⟨rfl,hb⟩;refine ⟨_,rfl,?_⟩;have n0_:=aMk (bkB BK552.out hb);have n1_:=aMk (below_step (by repeat (first|(with_reducible first|exact HB.out|apply bwA|apply bwN|apply bw1|refine below_set ?_ GE552.out)|exact HB.out)) hb);clear BK552;clear HB;have BK552:=n0_;have HB:=n1_;have hcq1:=(HB.out.cell (wLt w _ HQ1.out)).trans HQ1.out;have hcq2:=(HB.out.cell (wLt w _ HQ2.out)).trans HQ2.out;clear n0_ n1_;(try clear hb);(try clear hb2);(try clear hk);(try clear hi);obtain ⟨hcz10_0,hcz10_1,hcz10_2,hcz10_3,hfz10_0,hfz10_1,hfz10_2,hfz10_3⟩:=bC4 BK552.out)|(go_at_call 89;(with_reducible refine (impl_Range_has.calls a0_2 a0_3 a2 t554 _ A6.out).mono ?_);rintro e w11 ⟨rfl,hb⟩;have n0_:=aMk (bkB BK552.out hb);have n1_:=aMk (below_step (by repeat (first|(with_reducible first|exact HB.out|apply bwA|apply bwN|apply bw1|refine below_set ?_ GE552.out)|exact HB.out)) hb);clear BK552;clear HB;have BK552:=n0_;have HB:=n1_;have hcq1:=(HB.out.cell (wLt w _ HQ1.out)).trans HQ1.out;have hcq2:=(HB.out.cell (wLt w _ HQ2.out)).trans HQ2.out;clear n0_ n1_;(try clear hb);(try clear hb2);(try clear hk);(try clear hi)))
  go_ret
  exact ⟨eRf,by repeat (first|(with_reducible first|exact HB.out|apply bwA|apply bwN|apply bw1|refine below_set ?_ GE552.out)|exact HB.out)⟩
 ·replace c5:=Bool.eq_false_iff.mpr c5
  subst c5
  have H1 : (some false) = some r:=by rw [if_neg (show ¬ (false = true) by decide)] at H;exact H
  clear H
  have H:=H1
  clear H1
  obtain rfl:=Option.some.inj H
  have hcq1:=HQ1.out
  have hcq2:=HQ2.out
  go_enter Try.func93,Try.ntmps93
  go_wp2_with (first|((with_reducible refine gate_dst (N:=3) rfl ?_);refine bxE (N:=3) (cs:=#[.int .i64 a0_0,.int .i64 a0_1,.int .i64 a0_2,.int .i64 a0_3]) (t:=100) ?_;intro gb552 hg w12 hbox hb;have n0_:=aMk (bSt hb);have n1_:=aMk (hbox);have n2_:=aMk ((by rw [hg];exact bSz : w.heap.size ≤ gb552));have n3_:=aMk ((by rw [hg];exact bSz : w.heap.size ≤ gb552));clear HB;have HB:=n0_;have hcq1:=(HB.out.cell (wLt w _ HQ1.out)).trans HQ1.out;have hcq2:=(HB.out.cell (wLt w _ HQ2.out)).trans HQ2.out;have BK552:=n1_;have GW552:=n2_;have GE552:=n3_;clear n0_ n1_ n2_ n3_;clear hb hbox hg;obtain ⟨hcz13_0,hcz13_1,hcz13_2,hcz13_3,hfz13_0,hfz13_1,hfz13_2,hfz13_3⟩:=bC4 BK552.out)|((with_reducible refine gate_callee (f:=43) rfl ?_);refine gLs 8 Try.func43 #[.agg #[.int .i64 a0_0,.int .i64 a0_1],.int .i64 a1] ?_;(with_reducible refine (impl_Net_has.calls a0_0 a0_1 a1 false _ A4.out).mono ?_);rintro e w14 ⟨rfl,hb⟩;refine ⟨_,rfl,?_⟩;have n0_:=aMk (bkB BK552.out hb);have n1_:=aMk (below_step (by repeat (first|(with_reducible first|exact HB.out|apply bwA|apply bwN|apply bw1|refine below_set ?_ GE552.out)|exact HB.out)) hb);clear BK552;clear HB;have BK552:=n0_;have HB:=n1_;have hcq1:=(HB.out.cell (wLt w _ HQ1.out)).trans HQ1.out;have hcq2:=(HB.out.cell (wLt w _ HQ2.out)).trans HQ2.out;clear n0_ n1_;(try clear hb);(try clear hb2);(try clear hk);(try clear hi)))
  go_ret
  exact ⟨eRf,by repeat (first|(with_reducible first|exact HB.out|apply bwA|apply bwN|apply bw1|refine below_set ?_ GE552.out)|exact HB.out)⟩
end
section
/-- A state of type 70 at block g of W;what its slices lead to came in by w0. -/
def IsS70 (w0 W : World) (g : Nat) (f0 : Int) (f1 : Int) (f2 : Int) (f3 : ByteArray) (f4 : ByteArray) (f5 : Int) (f6 : List (S100)) (f7 : List (S54)) : Prop:=∃ A6 c6,∃ A7 c7,W.heap[g]? = some (.cells #[.int .i64 f0,.int .i64 f1,.int .i64 f2,.string f3,.string f4,.int .i64 f5,.slice A6 f6.length c6,.slice A7 f7.length c7] 70 (0,0)) ∧ w0.heap.size ≤ g ∧ Kd.C k100 w0 A6 f6.length f6 ∧ Kd.C k54 w0 A7 f7.length f7
theorem IsS70.grown {w0 W : World} {g : Nat} {f0 : Int} {f1 : Int} {f2 : Int} {f3 : ByteArray} {f4 : ByteArray} {f5 : Int} {f6 : List (S100)} {f7 : List (S54)} {W1 : World} {row : Option Nat} (h : IsS70 w0 W g f0 f1 f2 f3 f4 f5 f6 f7) (hw : W.grownBy W1 row) (hne : some g ≠ row) : IsS70 w0 W1 g f0 f1 f2 f3 f4 f5 f6 f7:=by
 obtain ⟨A6,c6,A7,c7,hb,hg,hr6,hr7⟩:=h
 exact ⟨A6,c6,A7,c7,blk_grown hb hw hne,hg,hr6,hr7⟩
theorem IsS70.own_neN {w0 W : World} {g : Nat} {f0 : Int} {f1 : Int} {f2 : Int} {f3 : ByteArray} {f4 : ByteArray} {f5 : Int} {f6 : List (S100)} {f7 : List (S54)} {α : Type} {d : Kd α} {e : Nat} {base : Nat} {ok : Nat → Prop} {v : Value} {xs : List α} (h : IsS70 w0 W g f0 f1 f2 f3 f4 f5 f6 f7) (ho : Kd.N d e W base ok v xs) (ht : e ≠ 70) : some g ≠ v.ownBlock:=by
 obtain ⟨A6,c6,A7,c7,hb,hg,hr6,hr7⟩:=h
 exact Kd.N_ne ho hb ht
theorem IsS70.fresh {w0 W : World} {g : Nat} {f0 : Int} {f1 : Int} {f2 : Int} {f3 : ByteArray} {f4 : ByteArray} {f5 : Int} {f6 : List (S100)} {f7 : List (S54)} (h : IsS70 w0 W g f0 f1 f2 f3 f4 f5 f6 f7) : ∀ k,W.heap.size ≤ k → k ≠ g:=by
 obtain ⟨A6,c6,A7,c7,hb,hg,hr6,hr7⟩:=h
 exact Kd.freshB hb
theorem IsS70.kept {w0 W : World} {g : Nat} {f0 : Int} {f1 : Int} {f2 : Int} {f3 : ByteArray} {f4 : ByteArray} {f5 : Int} {f6 : List (S100)} {f7 : List (S54)} {W1 : World} {S : Nat → Prop} (h : IsS70 w0 W g f0 f1 f2 f3 f4 f5 f6 f7) (hk : Kept W W1 S) (hne : ¬ S g) : IsS70 w0 W1 g f0 f1 f2 f3 f4 f5 f6 f7:=by
 obtain ⟨A6,c6,A7,c7,hb,hg,hr6,hr7⟩:=h
 exact ⟨A6,c6,A7,c7,blk_kept hb hk hne,hg,hr6,hr7⟩
theorem IsS70.below {w0 W : World} {g : Nat} {f0 : Int} {f1 : Int} {f2 : Int} {f3 : ByteArray} {f4 : ByteArray} {f5 : Int} {f6 : List (S100)} {f7 : List (S54)} {W1 : World} (h : IsS70 w0 W g f0 f1 f2 f3 f4 f5 f6 f7) (hw : Below W.heap.size W W1) : IsS70 w0 W1 g f0 f1 f2 f3 f4 f5 f6 f7:=h.grown (grown_of_below hw none) (by simp)
theorem IsS70.alloc {w0 W : World} {g : Nat} {f0 : Int} {f1 : Int} {f2 : Int} {f3 : ByteArray} {f4 : ByteArray} {f5 : Int} {f6 : List (S100)} {f7 : List (S54)} (h : IsS70 w0 W g f0 f1 f2 f3 f4 f5 f6 f7) (o : Obj) : IsS70 w0 (W.alloc o) g f0 f1 f2 f3 f4 f5 f6 f7:=h.below (bwA (Below.refl _ _) o)
theorem IsS70.drewN {w0 W : World} {g : Nat} {f0 : Int} {f1 : Int} {f2 : Int} {f3 : ByteArray} {f4 : ByteArray} {f5 : Int} {f6 : List (S100)} {f7 : List (S54)} (h : IsS70 w0 W g f0 f1 f2 f3 f4 f5 f6 f7) (m : Nat) : IsS70 w0 (W.drewN m) g f0 f1 f2 f3 f4 f5 f6 f7:=h
theorem IsS70.drew {w0 W : World} {g : Nat} {f0 : Int} {f1 : Int} {f2 : Int} {f3 : ByteArray} {f4 : ByteArray} {f5 : Int} {f6 : List (S100)} {f7 : List (S54)} (h : IsS70 w0 W g f0 f1 f2 f3 f4 f5 f6 f7) : IsS70 w0 W.drew g f0 f1 f2 f3 f4 f5 f6 f7:=h
theorem IsS70.at_ {w0 W : World} {g : Nat} {f0 : Int} {f1 : Int} {f2 : Int} {f3 : ByteArray} {f4 : ByteArray} {f5 : Int} {f6 : List (S100)} {f7 : List (S54)} {w' : World} {m : Nat} (hq : W.drewN m = w') (h : IsS70 w0 W g f0 f1 f2 f3 f4 f5 f6 f7) : IsS70 w0 w' g f0 f1 f2 f3 f4 f5 f6 f7:=by subst hq;exact IsS70.drewN h m
theorem IsS70.apart {w0 W : World} {g : Nat} {f0 : Int} {f1 : Int} {f2 : Int} {f3 : ByteArray} {f4 : ByteArray} {f5 : Int} {f6 : List (S100)} {f7 : List (S54)} {α : Type} {d : Kd α} {e : Nat} {base : Nat} {ok : Nat → Prop} {v : Value} {xs : List α} (h : IsS70 w0 W g f0 f1 f2 f3 f4 f5 f6 f7) (ho : d.R e W base ok v xs) (ht : ∀ q,q ∈ e :: d.E → q ≠ 70) : d.R e W base (fun k => ok k ∧ k ≠ g) v xs:=by
 obtain ⟨A6,c6,A7,c7,hb,hg,hr6,hr7⟩:=h
 exact Kd.R_types ho hb ht
theorem IsS70.own_ne {w0 W : World} {g : Nat} {f0 : Int} {f1 : Int} {f2 : Int} {f3 : ByteArray} {f4 : ByteArray} {f5 : Int} {f6 : List (S100)} {f7 : List (S54)} {α : Type} {d : Kd α} {e : Nat} {base : Nat} {ok : Nat → Prop} {v : Value} {xs : List α} (h : IsS70 w0 W g f0 f1 f2 f3 f4 f5 f6 f7) (ho : d.R e W base ok v xs) (ht : e ≠ 70) : some g ≠ v.ownBlock:=by
 obtain ⟨A6,c6,A7,c7,hb,hg,hr6,hr7⟩:=h
 exact Kd.R_ne ho hb ht
theorem IsS70.apartQ {w0 W : World} {g : Nat} {f0 : Int} {f1 : Int} {f2 : Int} {f3 : ByteArray} {f4 : ByteArray} {f5 : Int} {f6 : List (S100)} {f7 : List (S54)} {α : Type} {d : Kd α} {e : Nat} {base : Nat} {ok : Nat → Prop} {v : Value} {xs : List α} (h : IsS70 w0 W g f0 f1 f2 f3 f4 f5 f6 f7) (ho : d.Q e W base ok v xs) (ht : ∀ q,q ∈ e :: d.E → q ≠ 70) : d.Q e W base (fun k => ok k ∧ k ≠ g) v xs:=by
 obtain ⟨A6,c6,A7,c7,hb,hg,hr6,hr7⟩:=h
 exact Kd.Q_types ho hb ht
theorem IsS70.own_neQ {w0 W : World} {g : Nat} {f0 : Int} {f1 : Int} {f2 : Int} {f3 : ByteArray} {f4 : ByteArray} {f5 : Int} {f6 : List (S100)} {f7 : List (S54)} {α : Type} {d : Kd α} {e : Nat} {base : Nat} {ok : Nat → Prop} {v : Value} {xs : List α} (h : IsS70 w0 W g f0 f1 f2 f3 f4 f5 f6 f7) (ho : d.Q e W base ok v xs) (ht : e ≠ 70) : some g ≠ v.ownBlock:=by
 obtain ⟨A6,c6,A7,c7,hb,hg,hr6,hr7⟩:=h
 exact Kd.Q_ne ho hb ht
theorem IsS70.apartS {w0 W : World} {g : Nat} {f0 : Int} {f1 : Int} {f2 : Int} {f3 : ByteArray} {f4 : ByteArray} {f5 : Int} {f6 : List (S100)} {f7 : List (S54)} {α : Type} {d : Kd α} {e : Nat} {base : Nat} {ok : Nat → Prop} {v : Value} {xs : List α} (h : IsS70 w0 W g f0 f1 f2 f3 f4 f5 f6 f7) (ho : d.S e W base ok v xs) (ht : ∀ q,q ∈ e :: d.E → q ≠ 70) : d.S e W base (fun k => ok k ∧ k ≠ g) v xs:=by
 obtain ⟨A6,c6,A7,c7,hb,hg,hr6,hr7⟩:=h
 exact Kd.S_types ho hb ht
theorem IsS70.own_neS {w0 W : World} {g : Nat} {f0 : Int} {f1 : Int} {f2 : Int} {f3 : ByteArray} {f4 : ByteArray} {f5 : Int} {f6 : List (S100)} {f7 : List (S54)} {α : Type} {d : Kd α} {e : Nat} {base : Nat} {ok : Nat → Prop} {v : Value} {xs : List α} (h : IsS70 w0 W g f0 f1 f2 f3 f4 f5 f6 f7) (ho : d.S e W base ok v xs) (ht : e ≠ 70) : some g ≠ v.ownBlock:=by
 obtain ⟨A6,c6,A7,c7,hb,hg,hr6,hr7⟩:=h
 exact Kd.S_ne ho hb ht
theorem IsS70.lt {w0 W : World} {g : Nat} {f0 : Int} {f1 : Int} {f2 : Int} {f3 : ByteArray} {f4 : ByteArray} {f5 : Int} {f6 : List (S100)} {f7 : List (S54)} (h : IsS70 w0 W g f0 f1 f2 f3 f4 f5 f6 f7) : g < W.heap.size:=by
 obtain ⟨A6,c6,A7,c7,hb,hg,hr6,hr7⟩:=h
 exact blk_lt hb
theorem IsS70.ge {w0 W : World} {g : Nat} {f0 : Int} {f1 : Int} {f2 : Int} {f3 : ByteArray} {f4 : ByteArray} {f5 : Int} {f6 : List (S100)} {f7 : List (S54)} (h : IsS70 w0 W g f0 f1 f2 f3 f4 f5 f6 f7) : w0.heap.size ≤ g:=by
 obtain ⟨A6,c6,A7,c7,hb,hg,hr6,hr7⟩:=h
 exact hg
theorem IsS70.ne_blk {w0 W : World} {g : Nat} {f0 : Int} {f1 : Int} {f2 : Int} {f3 : ByteArray} {f4 : ByteArray} {f5 : Int} {f6 : List (S100)} {f7 : List (S54)} {a : Nat} {cs : Array Value} {t : TypeId} {fr : Nat × Nat} (h : IsS70 w0 W g f0 f1 f2 f3 f4 f5 f6 f7) (hb2 : W.heap[a]? = some (.cells cs t fr)) (ht : t ≠ 70) : g ≠ a:=by
 obtain ⟨A6,c6,A7,c7,hb,hg,hr6,hr7⟩:=h
 rintro rfl
 rw [hb] at hb2
 injection hb2 with hb2
 injection hb2 with _ ht2
 exact ht ht2.symm
theorem IsS70.far {w0 W : World} {g : Nat} {f0 : Int} {f1 : Int} {f2 : Int} {f3 : ByteArray} {f4 : ByteArray} {f5 : Int} {f6 : List (S100)} {f7 : List (S54)} {p : Addr} (h : IsS70 w0 W g f0 f1 f2 f3 f4 f5 f6 f7) (hne : g ≠ p.block) (u : Value) : IsS70 w0 (W.setCell p u) g f0 f1 f2 f3 f4 f5 f6 f7:=by
 obtain ⟨A6,c6,A7,c7,hb,hg,hr6,hr7⟩:=h
 exact ⟨A6,c6,A7,c7,blk_far hb hne u,hg,hr6,hr7⟩
theorem cellS70_0 {W : World} {g : Nat} {A6 : Option Addr} {c6 : Nat} {A7 : Option Addr} {c7 : Nat} {f0 : Int} {f1 : Int} {f2 : Int} {f3 : ByteArray} {f4 : ByteArray} {f5 : Int} {f6 : List (S100)} {f7 : List (S54)} (h : W.heap[g]? = some (.cells #[.int .i64 f0,.int .i64 f1,.int .i64 f2,.string f3,.string f4,.int .i64 f5,.slice A6 f6.length c6,.slice A7 f7.length c7] 70 (0,0))) : W.cell? ⟨g,0,none⟩ = some (.int .i64 f0):=(bCe h 0).trans rfl
theorem IsS70.set_0 {w0 W : World} {g : Nat} {f0 : Int} {f1 : Int} {f2 : Int} {f3 : ByteArray} {f4 : ByteArray} {f5 : Int} {f6 : List (S100)} {f7 : List (S54)} (h : IsS70 w0 W g f0 f1 f2 f3 f4 f5 f6 f7) (x : Int) : IsS70 w0 (W.setCell ⟨g,0,none⟩ (.int .i64 x)) g x f1 f2 f3 f4 f5 f6 f7:=by
 obtain ⟨A6,c6,A7,c7,hb,hg,hr6,hr7⟩:=h
 exact ⟨A6,c6,A7,c7,by simpa using blk_set hb 0 (.int .i64 x),hg,hr6,hr7⟩
theorem cellS70_1 {W : World} {g : Nat} {A6 : Option Addr} {c6 : Nat} {A7 : Option Addr} {c7 : Nat} {f0 : Int} {f1 : Int} {f2 : Int} {f3 : ByteArray} {f4 : ByteArray} {f5 : Int} {f6 : List (S100)} {f7 : List (S54)} (h : W.heap[g]? = some (.cells #[.int .i64 f0,.int .i64 f1,.int .i64 f2,.string f3,.string f4,.int .i64 f5,.slice A6 f6.length c6,.slice A7 f7.length c7] 70 (0,0))) : W.cell? ⟨g,1,none⟩ = some (.int .i64 f1):=(bCe h 1).trans rfl
theorem IsS70.set_1 {w0 W : World} {g : Nat} {f0 : Int} {f1 : Int} {f2 : Int} {f3 : ByteArray} {f4 : ByteArray} {f5 : Int} {f6 : List (S100)} {f7 : List (S54)} (h : IsS70 w0 W g f0 f1 f2 f3 f4 f5 f6 f7) (x : Int) : IsS70 w0 (W.setCell ⟨g,1,none⟩ (.int .i64 x)) g f0 x f2 f3 f4 f5 f6 f7:=by
 obtain ⟨A6,c6,A7,c7,hb,hg,hr6,hr7⟩:=h
 exact ⟨A6,c6,A7,c7,by simpa using blk_set hb 1 (.int .i64 x),hg,hr6,hr7⟩
theorem cellS70_2 {W : World} {g : Nat} {A6 : Option Addr} {c6 : Nat} {A7 : Option Addr} {c7 : Nat} {f0 : Int} {f1 : Int} {f2 : Int} {f3 : ByteArray} {f4 : ByteArray} {f5 : Int} {f6 : List (S100)} {f7 : List (S54)} (h : W.heap[g]? = some (.cells #[.int .i64 f0,.int .i64 f1,.int .i64 f2,.string f3,.string f4,.int .i64 f5,.slice A6 f6.length c6,.slice A7 f7.length c7] 70 (0,0))) : W.cell? ⟨g,2,none⟩ = some (.int .i64 f2):=(bCe h 2).trans rfl
theorem IsS70.set_2 {w0 W : World} {g : Nat} {f0 : Int} {f1 : Int} {f2 : Int} {f3 : ByteArray} {f4 : ByteArray} {f5 : Int} {f6 : List (S100)} {f7 : List (S54)} (h : IsS70 w0 W g f0 f1 f2 f3 f4 f5 f6 f7) (x : Int) : IsS70 w0 (W.setCell ⟨g,2,none⟩ (.int .i64 x)) g f0 f1 x f3 f4 f5 f6 f7:=by
 obtain ⟨A6,c6,A7,c7,hb,hg,hr6,hr7⟩:=h
 exact ⟨A6,c6,A7,c7,by simpa using blk_set hb 2 (.int .i64 x),hg,hr6,hr7⟩
theorem cellS70_3 {W : World} {g : Nat} {A6 : Option Addr} {c6 : Nat} {A7 : Option Addr} {c7 : Nat} {f0 : Int} {f1 : Int} {f2 : Int} {f3 : ByteArray} {f4 : ByteArray} {f5 : Int} {f6 : List (S100)} {f7 : List (S54)} (h : W.heap[g]? = some (.cells #[.int .i64 f0,.int .i64 f1,.int .i64 f2,.string f3,.string f4,.int .i64 f5,.slice A6 f6.length c6,.slice A7 f7.length c7] 70 (0,0))) : W.cell? ⟨g,3,none⟩ = some (.string f3):=(bCe h 3).trans rfl
theorem IsS70.set_3 {w0 W : World} {g : Nat} {f0 : Int} {f1 : Int} {f2 : Int} {f3 : ByteArray} {f4 : ByteArray} {f5 : Int} {f6 : List (S100)} {f7 : List (S54)} (h : IsS70 w0 W g f0 f1 f2 f3 f4 f5 f6 f7) (x : ByteArray) : IsS70 w0 (W.setCell ⟨g,3,none⟩ (.string x)) g f0 f1 f2 x f4 f5 f6 f7:=by
 obtain ⟨A6,c6,A7,c7,hb,hg,hr6,hr7⟩:=h
 exact ⟨A6,c6,A7,c7,by simpa using blk_set hb 3 (.string x),hg,hr6,hr7⟩
theorem cellS70_4 {W : World} {g : Nat} {A6 : Option Addr} {c6 : Nat} {A7 : Option Addr} {c7 : Nat} {f0 : Int} {f1 : Int} {f2 : Int} {f3 : ByteArray} {f4 : ByteArray} {f5 : Int} {f6 : List (S100)} {f7 : List (S54)} (h : W.heap[g]? = some (.cells #[.int .i64 f0,.int .i64 f1,.int .i64 f2,.string f3,.string f4,.int .i64 f5,.slice A6 f6.length c6,.slice A7 f7.length c7] 70 (0,0))) : W.cell? ⟨g,4,none⟩ = some (.string f4):=(bCe h 4).trans rfl
theorem IsS70.set_4 {w0 W : World} {g : Nat} {f0 : Int} {f1 : Int} {f2 : Int} {f3 : ByteArray} {f4 : ByteArray} {f5 : Int} {f6 : List (S100)} {f7 : List (S54)} (h : IsS70 w0 W g f0 f1 f2 f3 f4 f5 f6 f7) (x : ByteArray) : IsS70 w0 (W.setCell ⟨g,4,none⟩ (.string x)) g f0 f1 f2 f3 x f5 f6 f7:=by
 obtain ⟨A6,c6,A7,c7,hb,hg,hr6,hr7⟩:=h
 exact ⟨A6,c6,A7,c7,by simpa using blk_set hb 4 (.string x),hg,hr6,hr7⟩
theorem cellS70_5 {W : World} {g : Nat} {A6 : Option Addr} {c6 : Nat} {A7 : Option Addr} {c7 : Nat} {f0 : Int} {f1 : Int} {f2 : Int} {f3 : ByteArray} {f4 : ByteArray} {f5 : Int} {f6 : List (S100)} {f7 : List (S54)} (h : W.heap[g]? = some (.cells #[.int .i64 f0,.int .i64 f1,.int .i64 f2,.string f3,.string f4,.int .i64 f5,.slice A6 f6.length c6,.slice A7 f7.length c7] 70 (0,0))) : W.cell? ⟨g,5,none⟩ = some (.int .i64 f5):=(bCe h 5).trans rfl
theorem IsS70.set_5 {w0 W : World} {g : Nat} {f0 : Int} {f1 : Int} {f2 : Int} {f3 : ByteArray} {f4 : ByteArray} {f5 : Int} {f6 : List (S100)} {f7 : List (S54)} (h : IsS70 w0 W g f0 f1 f2 f3 f4 f5 f6 f7) (x : Int) : IsS70 w0 (W.setCell ⟨g,5,none⟩ (.int .i64 x)) g f0 f1 f2 f3 f4 x f6 f7:=by
 obtain ⟨A6,c6,A7,c7,hb,hg,hr6,hr7⟩:=h
 exact ⟨A6,c6,A7,c7,by simpa using blk_set hb 5 (.int .i64 x),hg,hr6,hr7⟩
theorem cellS70_6 {W : World} {g : Nat} {A6 : Option Addr} {c6 : Nat} {A7 : Option Addr} {c7 : Nat} {f0 : Int} {f1 : Int} {f2 : Int} {f3 : ByteArray} {f4 : ByteArray} {f5 : Int} {f6 : List (S100)} {f7 : List (S54)} (h : W.heap[g]? = some (.cells #[.int .i64 f0,.int .i64 f1,.int .i64 f2,.string f3,.string f4,.int .i64 f5,.slice A6 f6.length c6,.slice A7 f7.length c7] 70 (0,0))) : W.cell? ⟨g,6,none⟩ = some (.slice A6 f6.length c6):=(bCe h 6).trans rfl
theorem cellS70_7 {W : World} {g : Nat} {A6 : Option Addr} {c6 : Nat} {A7 : Option Addr} {c7 : Nat} {f0 : Int} {f1 : Int} {f2 : Int} {f3 : ByteArray} {f4 : ByteArray} {f5 : Int} {f6 : List (S100)} {f7 : List (S54)} (h : W.heap[g]? = some (.cells #[.int .i64 f0,.int .i64 f1,.int .i64 f2,.string f3,.string f4,.int .i64 f5,.slice A6 f6.length c6,.slice A7 f7.length c7] 70 (0,0))) : W.cell? ⟨g,7,none⟩ = some (.slice A7 f7.length c7):=(bCe h 7).trans rfl
theorem IsS70.new (w0 W : World) (A6 : Option Addr) (c6 : Nat) (A7 : Option Addr) (c7 : Nat) (f0 : Int) (f1 : Int) (f2 : Int) (f3 : ByteArray) (f4 : ByteArray) (f5 : Int) (f6 : List (S100)) (f7 : List (S54)) (hB : Below w0.heap.size w0 W) (hr6 : Kd.C k100 w0 A6 f6.length f6) (hr7 : Kd.C k54 w0 A7 f7.length f7) : IsS70 w0 (W.alloc (.cells #[.int .i64 f0,.int .i64 f1,.int .i64 f2,.string f3,.string f4,.int .i64 f5,.slice A6 f6.length c6,.slice A7 f7.length c7] 70)) W.heap.size f0 f1 f2 f3 f4 f5 f6 f7:=⟨A6,c6,A7,c7,by simpa using heap_alloc_new W _,hB.size,hr6,hr7⟩
end
section
/-! ### impl_Config_inGarden: function 80 -/
-- USES 93 74
def impl_Config_inGarden.f (k : Nat) (s0_0 : Int) (s0_1 : Int) (s0_2 : Int) (s0_3 : ByteArray) (s0_4 : ByteArray) (s0_5 : Int) (s0_6 : List S100) (s0_7 : List S54) (a1 : Int) (a2 : Int) : Option (Bool):=(idxP100 (fun x => impl_Config_inGarden_1.f x.f0.f0 x.f0.f1 x.f1.f0 x.f1.f1 a1 a2) s0_6 k 0).bind fun t => some (decide (0 ≤ t))
theorem impl_Config_inGarden.mono : ∀ y0 y1 y2 y3 y4 y5 y6 y7 y8 y9 k,LeO (impl_Config_inGarden.f k y0 y1 y2 y3 y4 y5 y6 y7 y8 y9) (impl_Config_inGarden.f (k + 1) y0 y1 y2 y3 y4 y5 y6 y7 y8 y9):=fun y0 y1 y2 y3 y4 y5 y6 y7 y8 y9 k => LeO.bind (idxP100_mono _ _ (fun _ => LeO.refl _) y6 k 0) (fun _ => LeO.refl _)
set_option maxHeartbeats 8000000 in
set_option maxRecDepth 100000 in
theorem impl_Config_inGarden.calls (k : Nat) (g : Nat) (s0_0 : Int) (s0_1 : Int) (s0_2 : Int) (s0_3 : ByteArray) (s0_4 : ByteArray) (s0_5 : Int) (s0_6 : List S100) (s0_7 : List S54) (a1 : Int) (a2 : Int) (r : Bool) (w0 w : World) (hI : IsS70 w0 w g s0_0 s0_1 s0_2 s0_3 s0_4 s0_5 s0_6 s0_7) (hB : Below w0.heap.size w0 w) (h : impl_Config_inGarden.f k s0_0 s0_1 s0_2 s0_3 s0_4 s0_5 s0_6 s0_7 a1 a2 = some r) :
  Calls Try.prog 80 #[.pointer (some ⟨g,0,none⟩),.int .i64 a1,.int .i64 a2] w fun e w' => e = .returned (.bool r) ∧ IsS70 w0 w' g s0_0 s0_1 s0_2 s0_3 s0_4 s0_5 s0_6 s0_7 ∧ Below w0.heap.size w0 w' ∧ KeepBut w w' g none:=by
 have HI0:=aMk hI
 have HB0:=aMk hB
 obtain ⟨t,h1,h2⟩:=Option.bind_eq_some_iff.mp (show ((idxP100 (fun x => impl_Config_inGarden_1.f x.f0.f0 x.f0.f1 x.f1.f0 x.f1.f1 a1 a2) s0_6 k 0).bind fun t => some (decide (0 ≤ t))) = some r from h)
 obtain rfl:=Option.some.inj h2
 have HH:=aMk h1
 clear h h1 h2
 obtain ⟨A6,c6,A7,c7,hb,hg,hr6,hr7⟩:=hI
 have HBK:=aMk hb
 have HR:=aMk hr6
 clear hb hg hB hr6 hr7
 have hu70:=Try.underlying70
 have HB:=aMk (Below.refl w.heap.size w)
 go_enter Try.func80,Try.ntmps80
 go_wp2_with (first|((with_reducible refine gate_dst (N:=4) rfl ?_);refine bxE (N:=4) (cs:=#[.int .i64 a1]) (t:=3) ?_;intro gb4 hg w4 hbox hb;have n0_:=aMk (below_step HB.out hb);clear HB;have HB:=n0_;clear n0_;have BK4:=aMk hbox;clear hg hb hbox)|((with_reducible refine gate_dst (N:=5) rfl ?_);refine bxE (N:=5) (cs:=#[.int .i64 a2]) (t:=3) ?_;intro gb5 hg w5 hbox hb;have n0_:=aMk (below_step HB.out hb);clear HB;have HB:=n0_;clear n0_;have n0_:=aMk (blk_below (g:=gb4) (o:=.cells #[.int .i64 a1] 3 (0,0)) BK4.out hb);clear BK4;have BK4:=n0_;clear n0_;have BK5:=aMk hbox;clear hg hb hbox;have hcz0 : w5.cell? ⟨g,0,none⟩ = some (.int .i64 s0_0):=(bCe (blk_below (o:=.cells #[.int .i64 s0_0,.int .i64 s0_1,.int .i64 s0_2,.string s0_3,.string s0_4,.int .i64 s0_5,.slice A6 s0_6.length c6,.slice A7 s0_7.length c7] 70 (0,0)) HBK.out HB.out) 0).trans rfl;have hcz1 : w5.cell? ⟨g,1,none⟩ = some (.int .i64 s0_1):=(bCe (blk_below (o:=.cells #[.int .i64 s0_0,.int .i64 s0_1,.int .i64 s0_2,.string s0_3,.string s0_4,.int .i64 s0_5,.slice A6 s0_6.length c6,.slice A7 s0_7.length c7] 70 (0,0)) HBK.out HB.out) 1).trans rfl;have hcz2 : w5.cell? ⟨g,2,none⟩ = some (.int .i64 s0_2):=(bCe (blk_below (o:=.cells #[.int .i64 s0_0,.int .i64 s0_1,.int .i64 s0_2,.string s0_3,.string s0_4,.int .i64 s0_5,.slice A6 s0_6.length c6,.slice A7 s0_7.length c7] 70 (0,0)) HBK.out HB.out) 2).trans rfl;have hcz3 : w5.cell? ⟨g,3,none⟩ = some (.string s0_3):=(bCe (blk_below (o:=.cells #[.int .i64 s0_0,.int .i64 s0_1,.int .i64 s0_2,.string s0_3,.string s0_4,.int .i64 s0_5,.slice A6 s0_6.length c6,.slice A7 s0_7.length c7] 70 (0,0)) HBK.out HB.out) 3).trans rfl;have hcz4 : w5.cell? ⟨g,4,none⟩ = some (.string s0_4):=(bCe (blk_below (o:=.cells #[.int .i64 s0_0,.int .i64 s0_1,.int .i64 s0_2,.string s0_3,.string s0_4,.int .i64 s0_5,.slice A6 s0_6.length c6,.slice A7 s0_7.length c7] 70 (0,0)) HBK.out HB.out) 4).trans rfl;have hcz5 : w5.cell? ⟨g,5,none⟩ = some (.int .i64 s0_5):=(bCe (blk_below (o:=.cells #[.int .i64 s0_0,.int .i64 s0_1,.int .i64 s0_2,.string s0_3,.string s0_4,.int .i64 s0_5,.slice A6 s0_6.length c6,.slice A7 s0_7.length c7] 70 (0,0)) HBK.out HB.out) 5).trans rfl;have hcz6 : w5.cell? ⟨g,6,none⟩ = some (.slice A6 s0_6.length c6):=(bCe (blk_below (o:=.cells #[.int .i64 s0_0,.int .i64 s0_1,.int .i64 s0_2,.string s0_3,.string s0_4,.int .i64 s0_5,.slice A6 s0_6.length c6,.slice A7 s0_7.length c7] 70 (0,0)) HBK.out HB.out) 6).trans rfl;have hcz7 : w5.cell? ⟨g,7,none⟩ = some (.slice A7 s0_7.length c7):=(bCe (blk_below (o:=.cells #[.int .i64 s0_0,.int .i64 s0_1,.int .i64 s0_2,.string s0_3,.string s0_4,.int .i64 s0_5,.slice A6 s0_6.length c6,.slice A7 s0_7.length c7] 70 (0,0)) HBK.out HB.out) 7).trans rfl)|(refine (containsFunc100 93 #[.pointer (some ⟨gb4,0,none⟩),.pointer (some ⟨gb5,0,none⟩)] (enters_ Try.func93 (by kernel_rfl) rfl) _ k A6 c6 s0_6 t _ (fun W x b hbW hx => (impl_Config_inGarden_1.calls gb4 gb5 x.f0.f0 x.f0.f1 x.f1.f0 x.f1.f1 a1 a2 b W ((hbW.cell (wLt _ _ (bCe BK4.out 0))).trans ((bCe BK4.out 0).trans rfl)) ((hbW.cell (wLt _ _ (bCe BK5.out 0))).trans ((bCe BK5.out 0).trans rfl)) hx).mono fun e w' h => ⟨h.1,below_step hbW h.2⟩) (Kd.C_below HR.out (below_step HB0.out HB.out)) HH.out).mono ?_;rintro e w99 ⟨rfl,hb⟩;have n0_:=aMk (below_step HB.out hb);clear HB;have HB:=n0_;clear n0_ hb))
 go_ret
 exact ⟨rfl,IsS70.below HI0.out HB.out,below_step HB0.out HB.out,KeepBut.of_below HB.out g none⟩
end
end Go.Proofs.Ytiemmhhjiplnlaa.X
