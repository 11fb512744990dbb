/- Texts that the row of FnExactFlowPass stands on: functions of the program and of the reference, each as a Lean function with the same answers, and the plain lemmas. Conditions: none beside those that each theorem names. -/
import Derived.Test.YtlpkldomoniegaaCFnExactFlowPass3
namespace Go.Proofs.Ytlpkldomoniegaa.X
open Go.RowKit Go.Proofs.YtlpkldomoniegaaW.PrintWords Go.Proofs.YtlpkldomoniegaaW.PrintLast Go.Proofs.YtlpkldomoniegaaW.PrintMore
attribute [local go_sem] max2_int min2_int max_two min_two max_three min_three max_four min_four   -- for this text's walks alone
set_option linter.unusedVariables false
set_option linter.unusedSimpArgs false
open Go.Proofs.YtlpkldomoniegaaW.PrintWords renaming blk_drewN -> bDn
open Go.Proofs.YtlpkldomoniegaaW.PrintWords renaming blk_drew -> bDr
open Go.Proofs.YtlpkldomoniegaaW.PrintWords renaming blk_alloc -> bAl
open Go.Proofs.YtlpkldomoniegaaW.PrintWords renaming blk_frozen -> bFr
open Go.Proofs.YtlpkldomoniegaaW.PrintWords renaming blk_cell -> bCe
open Go.Proofs.YtlpkldomoniegaaW.PrintWords.Aside0 renaming mk -> aMk
open Go.World renaming block_lt_of_cell? -> wLt
open Go.Proofs.YtlpkldomoniegaaW.PrintWords renaming pw_below_drewN -> bwN
open Go.Proofs.YtlpkldomoniegaaW.PrintWords renaming below_drew1 -> bw1
open Go.Proofs.YtlpkldomoniegaaW.PrintWords renaming below_alloc -> bwA
section
/-! ### impl_Flow_endsOKAt: function 1077 -/
def impl_Flow_endsOKAt.f (a0_0 : Int) (a0_1 : ByteArray) (a0_2 : Int) (a0_3 : Int) (a0_4 : Int) (a0_5 : Int) (a0_6 : Int) (a0_7 : Int) (a0_8 : Int) : Option (Bool):=(impl_isProto.f a0_0).bind fun t249 => (if t249 = true then ((impl_macOK.f a0_1).bind fun t250 => (if t250 = true then ((impl_isAddress.f a0_2).bind fun t251 => (if t251 = true then ((impl_isAddress.f a0_4).bind fun t252 => (if t252 = true then ((impl_isPort.f a0_3).bind fun t253 => (if t253 = true then ((impl_isPort.f a0_5).bind fun t254 => (if t254 = true then ((impl_within.f a0_8 0 10000).bind fun t255 => (some t255)) else (some false))) else (some false))) else (some false))) else (some false))) else (some false))) else (some false))
set_option maxHeartbeats 8000000 in
set_option maxRecDepth 100000 in
theorem impl_Flow_endsOKAt.calls0 (A_ : Addr) (n_ : Nat) (a0_0 : Int) (a0_1 : ByteArray) (a0_2 : Int) (a0_3 : Int) (a0_4 : Int) (a0_5 : Int) (a0_6 : Int) (a0_7 : Int) (a0_8 : Int) (r : Bool) (w : World) (hq0 : w.cell? (A_.add n_) = some (.int .i64 a0_0)) (hq1 : w.cell? (⟨(A_.add n_).block,(A_.add n_).off + 1,none⟩) = some (.string a0_1)) (hq2 : w.cell? (⟨(A_.add n_).block,(A_.add n_).off + 2,none⟩) = some (.int .i64 a0_2)) (hq3 : w.cell? (⟨(A_.add n_).block,(A_.add n_).off + 3,none⟩) = some (.int .i64 a0_3)) (hq4 : w.cell? (⟨(A_.add n_).block,(A_.add n_).off + 4,none⟩) = some (.int .i64 a0_4)) (hq5 : w.cell? (⟨(A_.add n_).block,(A_.add n_).off + 5,none⟩) = some (.int .i64 a0_5)) (hq6 : w.cell? (⟨(A_.add n_).block,(A_.add n_).off + 6,none⟩) = some (.int .i64 a0_6)) (hq7 : w.cell? (⟨(A_.add n_).block,(A_.add n_).off + 7,none⟩) = some (.int .i64 a0_7)) (hq8 : w.cell? (⟨(A_.add n_).block,(A_.add n_).off + 8,none⟩) = some (.int .i64 a0_8)) (h : impl_Flow_endsOKAt.f a0_0 a0_1 a0_2 a0_3 a0_4 a0_5 a0_6 a0_7 a0_8 = some r) :
  Calls Try.prog 77 #[.pointer (some (A_.add n_))] w fun e w' => e = .returned (.bool r) ∧ Drawn0 w w':=by
 have HQ0:=aMk hq0
 clear hq0
 have HQ1:=aMk hq1
 clear hq1
 have HQ2:=aMk hq2
 clear hq2
 have HQ3:=aMk hq3
 clear hq3
 have HQ4:=aMk hq4
 clear hq4
 have HQ5:=aMk hq5
 clear hq5
 have HQ6:=aMk hq6
 clear hq6
 have HQ7:=aMk hq7
 clear hq7
 have HQ8:=aMk hq8
 clear hq8
 have H : ((impl_isProto.f a0_0).bind fun t249 => (if t249 = true then ((impl_macOK.f a0_1).bind fun t250 => (if t250 = true then ((impl_isAddress.f a0_2).bind fun t251 => (if t251 = true then ((impl_isAddress.f a0_4).bind fun t252 => (if t252 = true then ((impl_isPort.f a0_3).bind fun t253 => (if t253 = true then ((impl_isPort.f a0_5).bind fun t254 => (if t254 = true then ((impl_within.f a0_8 0 10000).bind fun t255 => (some t255)) else (some false))) else (some false))) else (some false))) else (some false))) else (some false))) else (some false))) = some r:=h
 clear h
 replace H:=Option.bind_eq_some_iff.mp H
 obtain ⟨t249,A20,H⟩:=H
 replace H : (if t249 = true then ((impl_macOK.f a0_1).bind fun t250 => (if t250 = true then ((impl_isAddress.f a0_2).bind fun t251 => (if t251 = true then ((impl_isAddress.f a0_4).bind fun t252 => (if t252 = true then ((impl_isPort.f a0_3).bind fun t253 => (if t253 = true then ((impl_isPort.f a0_5).bind fun t254 => (if t254 = true then ((impl_within.f a0_8 0 10000).bind fun t255 => (some t255)) else (some false))) else (some false))) else (some false))) else (some false))) else (some false))) else (some false)) = some r:=H
 have A2:=aMk A20
 clear A20
 by_cases c3 : t249 = true
 ·subst c3
  have H1 : ((impl_macOK.f a0_1).bind fun t250 => (if t250 = true then ((impl_isAddress.f a0_2).bind fun t251 => (if t251 = true then ((impl_isAddress.f a0_4).bind fun t252 => (if t252 = true then ((impl_isPort.f a0_3).bind fun t253 => (if t253 = true then ((impl_isPort.f a0_5).bind fun t254 => (if t254 = true then ((impl_within.f a0_8 0 10000).bind fun t255 => (some t255)) else (some false))) else (some false))) else (some false))) else (some false))) else (some false))) = some r:=by rw [if_pos rfl] at H;exact H
  clear H
  have H:=H1
  clear H1
  replace H:=Option.bind_eq_some_iff.mp H
  obtain ⟨t250,A40,H⟩:=H
  replace H : (if t250 = true then ((impl_isAddress.f a0_2).bind fun t251 => (if t251 = true then ((impl_isAddress.f a0_4).bind fun t252 => (if t252 = true then ((impl_isPort.f a0_3).bind fun t253 => (if t253 = true then ((impl_isPort.f a0_5).bind fun t254 => (if t254 = true then ((impl_within.f a0_8 0 10000).bind fun t255 => (some t255)) else (some false))) else (some false))) else (some false))) else (some false))) else (some false)) = some r:=H
  have A4:=aMk A40
  clear A40
  by_cases c5 : t250 = true
  ·subst c5
   have H1 : ((impl_isAddress.f a0_2).bind fun t251 => (if t251 = true then ((impl_isAddress.f a0_4).bind fun t252 => (if t252 = true then ((impl_isPort.f a0_3).bind fun t253 => (if t253 = true then ((impl_isPort.f a0_5).bind fun t254 => (if t254 = true then ((impl_within.f a0_8 0 10000).bind fun t255 => (some t255)) else (some false))) else (some false))) else (some false))) else (some false))) = some r:=by rw [if_pos rfl] at H;exact H
   clear H
   have H:=H1
   clear H1
   replace H:=Option.bind_eq_some_iff.mp H
   obtain ⟨t251,A60,H⟩:=H
   replace H : (if t251 = true then ((impl_isAddress.f a0_4).bind fun t252 => (if t252 = true then ((impl_isPort.f a0_3).bind fun t253 => (if t253 = true then ((impl_isPort.f a0_5).bind fun t254 => (if t254 = true then ((impl_within.f a0_8 0 10000).bind fun t255 => (some t255)) else (some false))) else (some false))) else (some false))) else (some false)) = some r:=H
   have A6:=aMk A60
   clear A60
   by_cases c7 : t251 = true
   ·subst c7
    have H1 : ((impl_isAddress.f a0_4).bind fun t252 => (if t252 = true then ((impl_isPort.f a0_3).bind fun t253 => (if t253 = true then ((impl_isPort.f a0_5).bind fun t254 => (if t254 = true then ((impl_within.f a0_8 0 10000).bind fun t255 => (some t255)) else (some false))) else (some false))) else (some false))) = some r:=by rw [if_pos rfl] at H;exact H
    clear H
    have H:=H1
    clear H1
    replace H:=Option.bind_eq_some_iff.mp H
    obtain ⟨t252,A80,H⟩:=H
    replace H : (if t252 = true then ((impl_isPort.f a0_3).bind fun t253 => (if t253 = true then ((impl_isPort.f a0_5).bind fun t254 => (if t254 = true then ((impl_within.f a0_8 0 10000).bind fun t255 => (some t255)) else (some false))) else (some false))) else (some false)) = some r:=H
    have A8:=aMk A80
    clear A80
    by_cases c9 : t252 = true
    ·subst c9
     have H1 : ((impl_isPort.f a0_3).bind fun t253 => (if t253 = true then ((impl_isPort.f a0_5).bind fun t254 => (if t254 = true then ((impl_within.f a0_8 0 10000).bind fun t255 => (some t255)) else (some false))) else (some false))) = some r:=by rw [if_pos rfl] at H;exact H
     clear H
     have H:=H1
     clear H1
     replace H:=Option.bind_eq_some_iff.mp H
     obtain ⟨t253,A100,H⟩:=H
     replace H : (if t253 = true then ((impl_isPort.f a0_5).bind fun t254 => (if t254 = true then ((impl_within.f a0_8 0 10000).bind fun t255 => (some t255)) else (some false))) else (some false)) = some r:=H
     have A10:=aMk A100
     clear A100
     by_cases c11 : t253 = true
     ·subst c11
      have H1 : ((impl_isPort.f a0_5).bind fun t254 => (if t254 = true then ((impl_within.f a0_8 0 10000).bind fun t255 => (some t255)) else (some false))) = some r:=by rw [if_pos rfl] at H;exact H
      clear H
      have H:=H1
      clear H1
      replace H:=Option.bind_eq_some_iff.mp H
      obtain ⟨t254,A120,H⟩:=H
      replace H : (if t254 = true then ((impl_within.f a0_8 0 10000).bind fun t255 => (some t255)) else (some false)) = some r:=H
      have A12:=aMk A120
      clear A120
      by_cases c13 : t254 = true
      ·subst c13
       have H1 : ((impl_within.f a0_8 0 10000).bind fun t255 => (some t255)) = some r:=by rw [if_pos rfl] at H;exact H
       clear H
       have H:=H1
       clear H1
       replace H:=Option.bind_eq_some_iff.mp H
       obtain ⟨t255,A140,H⟩:=H
       replace H : (some t255) = some r:=H
       have A14:=aMk A140
       clear A140
       obtain rfl:=Option.some.inj H
       have hcq0:=HQ0.out
       have hcq1:=HQ1.out
       have hcq2:=HQ2.out
       have hcq3:=HQ3.out
       have hcq4:=HQ4.out
       have hcq5:=HQ5.out
       have hcq6:=HQ6.out
       have hcq7:=HQ7.out
       have hcq8:=HQ8.out
       go_enter Try.func77,Try.ntmps77
       go_wp2_with (first|((with_reducible refine gate_callee (f:=66) rfl ?_);refine gLs 8 Try.func66 #[.int .i64 a0_0] ?_;(with_reducible refine (impl_isProto.calls a0_0 true _ A2.out).mono ?_);rintro e w' ⟨rfl,⟨nd,rfl⟩⟩;refine ⟨_,rfl,?_⟩)|(go_at_call 72;(with_reducible refine (impl_macOK.calls a0_1 true _ A4.out).mono ?_);rintro e w' ⟨rfl,⟨nd,rfl⟩⟩)|(go_at_call 61;(with_reducible refine (impl_isAddress.calls a0_2 true _ A6.out).mono ?_);rintro e w' ⟨rfl,⟨nd,rfl⟩⟩)|(go_at_call 61;(with_reducible refine (impl_isAddress.calls a0_4 true _ A8.out).mono ?_);rintro e w' ⟨rfl,⟨nd,rfl⟩⟩)|(go_at_call 73;(with_reducible refine (impl_isPort.calls a0_3 true _ A10.out).mono ?_);rintro e w' ⟨rfl,⟨nd,rfl⟩⟩)|(go_at_call 73;(with_reducible refine (impl_isPort.calls a0_5 true _ A12.out).mono ?_);rintro e w' ⟨rfl,⟨nd,rfl⟩⟩)|(go_at_call 62;(with_reducible refine (impl_within.calls a0_8 0 10000 t255 _ A14.out).mono ?_);rintro e w' ⟨rfl,⟨nd,rfl⟩⟩))
       go_ret
       exact ⟨by first | rfl|(simp;done)|(simp [*];done)|(simp [ne_nil_b];done)|(simp [ne_nil_b, *];done),by repeat (first|exact Drawn0.refl _|apply Drawn0.step)⟩
      ·replace c13:=Bool.eq_false_iff.mpr c13
       subst c13
       have H1 : (some false) = some r:=by rw [if_neg (show ¬ (false = true) by decide)] at H;exact H
       clear H
       have H:=H1
       clear H1
       obtain rfl:=Option.some.inj H
       have hcq0:=HQ0.out
       have hcq1:=HQ1.out
       have hcq2:=HQ2.out
       have hcq3:=HQ3.out
       have hcq4:=HQ4.out
       have hcq5:=HQ5.out
       have hcq6:=HQ6.out
       have hcq7:=HQ7.out
       have hcq8:=HQ8.out
       go_enter Try.func77,Try.ntmps77
       go_wp2_with (first|((with_reducible refine gate_callee (f:=66) rfl ?_);refine gLs 8 Try.func66 #[.int .i64 a0_0] ?_;(with_reducible refine (impl_isProto.calls a0_0 true _ A2.out).mono ?_);rintro e w' ⟨rfl,⟨nd,rfl⟩⟩;refine ⟨_,rfl,?_⟩)|(go_at_call 72;(with_reducible refine (impl_macOK.calls a0_1 true _ A4.out).mono ?_);rintro e w' ⟨rfl,⟨nd,rfl⟩⟩)|(go_at_call 61;(with_reducible refine (impl_isAddress.calls a0_2 true _ A6.out).mono ?_);rintro e w' ⟨rfl,⟨nd,rfl⟩⟩)|(go_at_call 61;(with_reducible refine (impl_isAddress.calls a0_4 true _ A8.out).mono ?_);rintro e w' ⟨rfl,⟨nd,rfl⟩⟩)|(go_at_call 73;(with_reducible refine (impl_isPort.calls a0_3 true _ A10.out).mono ?_);rintro e w' ⟨rfl,⟨nd,rfl⟩⟩)|(go_at_call 73;(with_reducible refine (impl_isPort.calls a0_5 false _ A12.out).mono ?_);rintro e w' ⟨rfl,⟨nd,rfl⟩⟩))
       go_ret
       exact ⟨by first | rfl|(simp;done)|(simp [*];done)|(simp [ne_nil_b];done)|(simp [ne_nil_b, *];done),by repeat (first|exact Drawn0.refl _|apply Drawn0.step)⟩
     ·replace c11:=Bool.eq_false_iff.mpr c11
      subst c11
      have H1 : (some false) = some r:=by rw [if_neg (show ¬ (false = true) by decide)] at H;exact H
      clear H
      have H:=H1
      clear H1
      obtain rfl:=Option.some.inj H
      have hcq0:=HQ0.out
      have hcq1:=HQ1.out
      have hcq2:=HQ2.out
      have hcq3:=HQ3.out
      have hcq4:=HQ4.out
      have hcq5:=HQ5.out
      have hcq6:=HQ6.out
      have hcq7:=HQ7.out
      have hcq8:=HQ8.out
      go_enter Try.func77,Try.ntmps77
      go_wp2_with (first|((with_reducible refine gate_callee (f:=66) rfl ?_);refine gLs 8 Try.func66 #[.int .i64 a0_0] ?_;(with_reducible refine (impl_isProto.calls a0_0 true _ A2.out).mono ?_);rintro e w' ⟨rfl,⟨nd,rfl⟩⟩;refine ⟨_,rfl,?_⟩)|(go_at_call 72;(with_reducible refine (impl_macOK.calls a0_1 true _ A4.out).mono ?_);rintro e w' ⟨rfl,⟨nd,rfl⟩⟩)|(go_at_call 61;(with_reducible refine (impl_isAddress.calls a0_2 true _ A6.out).mono ?_);rintro e w' ⟨rfl,⟨nd,rfl⟩⟩)|(go_at_call 61;(with_reducible refine (impl_isAddress.calls a0_4 true _ A8.out).mono ?_);rintro e w' ⟨rfl,⟨nd,rfl⟩⟩)|(go_at_call 73;(with_reducible refine (impl_isPort.calls a0_3 false _ A10.out).mono ?_);rintro e w' ⟨rfl,⟨nd,rfl⟩⟩))
      go_ret
      exact ⟨by first | rfl|(simp;done)|(simp [*];done)|(simp [ne_nil_b];done)|(simp [ne_nil_b, *];done),by repeat (first|exact Drawn0.refl _|apply Drawn0.step)⟩
    ·replace c9:=Bool.eq_false_iff.mpr c9
     subst c9
     have H1 : (some false) = some r:=by rw [if_neg (show ¬ (false = true) by decide)] at H;exact H
     clear H
     have H:=H1
     clear H1
     obtain rfl:=Option.some.inj H
     have hcq0:=HQ0.out
     have hcq1:=HQ1.out
     have hcq2:=HQ2.out
     have hcq3:=HQ3.out
     have hcq4:=HQ4.out
     have hcq5:=HQ5.out
     have hcq6:=HQ6.out
     have hcq7:=HQ7.out
     have hcq8:=HQ8.out
     go_enter Try.func77,Try.ntmps77
     go_wp2_with (first|((with_reducible refine gate_callee (f:=66) rfl ?_);refine gLs 8 Try.func66 #[.int .i64 a0_0] ?_;(with_reducible refine (impl_isProto.calls a0_0 true _ A2.out).mono ?_);rintro e w' ⟨rfl,⟨nd,rfl⟩⟩;refine ⟨_,rfl,?_⟩)|(go_at_call 72;(with_reducible refine (impl_macOK.calls a0_1 true _ A4.out).mono ?_);rintro e w' ⟨rfl,⟨nd,rfl⟩⟩)|(go_at_call 61;(with_reducible refine (impl_isAddress.calls a0_2 true _ A6.out).mono ?_);rintro e w' ⟨rfl,⟨nd,rfl⟩⟩)|(go_at_call 61;(with_reducible refine (impl_isAddress.calls a0_4 false _ A8.out).mono ?_);rintro e w' ⟨rfl,⟨nd,rfl⟩⟩))
     go_ret
     exact ⟨by first | rfl|(simp;done)|(simp [*];done)|(simp [ne_nil_b];done)|(simp [ne_nil_b, *];done),by repeat (first|exact Drawn0.refl _|apply Drawn0.step)⟩
   ·replace c7:=Bool.eq_false_iff.mpr c7
    subst c7
    have H1 : (some false) = some r:=by rw [if_neg (show ¬ (false = true) by decide)] at H;exact H
    clear H
    have H:=H1
    clear H1
    obtain rfl:=Option.some.inj H
    have hcq0:=HQ0.out
    have hcq1:=HQ1.out
    have hcq2:=HQ2.out
    have hcq3:=HQ3.out
    have hcq4:=HQ4.out
    have hcq5:=HQ5.out
    have hcq6:=HQ6.out
    have hcq7:=HQ7.out
    have hcq8:=HQ8.out
    go_enter Try.func77,Try.ntmps77
    go_wp2_with (first|((with_reducible refine gate_callee (f:=66) rfl ?_);refine gLs 8 Try.func66 #[.int .i64 a0_0] ?_;(with_reducible refine (impl_isProto.calls a0_0 true _ A2.out).mono ?_);rintro e w' ⟨rfl,⟨nd,rfl⟩⟩;refine ⟨_,rfl,?_⟩)|(go_at_call 72;(with_reducible refine (impl_macOK.calls a0_1 true _ A4.out).mono ?_);rintro e w' ⟨rfl,⟨nd,rfl⟩⟩)|(go_at_call 61;(with_reducible refine (impl_isAddress.calls a0_2 false _ A6.out).mono ?_);rintro e w' ⟨rfl,⟨nd,rfl⟩⟩))
    go_ret
    exact ⟨by first | rfl|(simp;done)|(simp [*];done)|(simp [ne_nil_b];done)|(simp [ne_nil_b, *];done),by repeat (first|exact Drawn0.refl _|apply Drawn0.step)⟩
  ·replace c5:=Bool.eq_false_iff.mpr c5
   subst c5
   have H1 : (some false) = some r:=by rw [if_neg (show ¬ (false = true) by decide)] at H;exact H
   clear H
   have H:=H1
   clear H1
   obtain rfl:=Option.some.inj H
   have hcq0:=HQ0.out
   have hcq1:=HQ1.out
   have hcq2:=HQ2.out
   have hcq3:=HQ3.out
   have hcq4:=HQ4.out
   have hcq5:=HQ5.out
   have hcq6:=HQ6.out
   have hcq7:=HQ7.out
   have hcq8:=HQ8.out
   go_enter Try.func77,Try.ntmps77
   go_wp2_with (first|((with_reducible refine gate_callee (f:=66) rfl ?_);refine gLs 8 Try.func66 #[.int .i64 a0_0] ?_;(with_reducible refine (impl_isProto.calls a0_0 true _ A2.out).mono ?_);rintro e w' ⟨rfl,⟨nd,rfl⟩⟩;refine ⟨_,rfl,?_⟩)|(go_at_call 72;(with_reducible refine (impl_macOK.calls a0_1 false _ A4.out).mono ?_);rintro e w' ⟨rfl,⟨nd,rfl⟩⟩))
   go_ret
   exact ⟨by first | rfl|(simp;done)|(simp [*];done)|(simp [ne_nil_b];done)|(simp [ne_nil_b, *];done),by repeat (first|exact Drawn0.refl _|apply Drawn0.step)⟩
 ·replace c3:=Bool.eq_false_iff.mpr c3
  subst c3
  have H1 : (some false) = some r:=by rw [if_neg (show ¬ (false = true) by decide)] at H;exact H
  clear H
  have H:=H1
  clear H1
  obtain rfl:=Option.some.inj H
  have hcq0:=HQ0.out
  have hcq1:=HQ1.out
  have hcq2:=HQ2.out
  have hcq3:=HQ3.out
  have hcq4:=HQ4.out
  have hcq5:=HQ5.out
  have hcq6:=HQ6.out
  have hcq7:=HQ7.out
  have hcq8:=HQ8.out
  go_enter Try.func77,Try.ntmps77
  go_wp2_with (first|((with_reducible refine gate_callee (f:=66) rfl ?_);refine gLs 8 Try.func66 #[.int .i64 a0_0] ?_;(with_reducible refine (impl_isProto.calls a0_0 false _ A2.out).mono ?_);rintro e w' ⟨rfl,⟨nd,rfl⟩⟩;refine ⟨_,rfl,?_⟩))
  go_ret
  exact ⟨by first | rfl|(simp;done)|(simp [*];done)|(simp [ne_nil_b];done)|(simp [ne_nil_b, *];done),by repeat (first|exact Drawn0.refl _|apply Drawn0.step)⟩
theorem impl_Flow_endsOKAt.calls (A_ : Addr) (n_ : Nat) (a0_0 : Int) (a0_1 : ByteArray) (a0_2 : Int) (a0_3 : Int) (a0_4 : Int) (a0_5 : Int) (a0_6 : Int) (a0_7 : Int) (a0_8 : Int) (r : Bool) (w : World) (hq0 : w.cell? (A_.add n_) = some (.int .i64 a0_0)) (hq1 : w.cell? (⟨(A_.add n_).block,(A_.add n_).off + 1,none⟩) = some (.string a0_1)) (hq2 : w.cell? (⟨(A_.add n_).block,(A_.add n_).off + 2,none⟩) = some (.int .i64 a0_2)) (hq3 : w.cell? (⟨(A_.add n_).block,(A_.add n_).off + 3,none⟩) = some (.int .i64 a0_3)) (hq4 : w.cell? (⟨(A_.add n_).block,(A_.add n_).off + 4,none⟩) = some (.int .i64 a0_4)) (hq5 : w.cell? (⟨(A_.add n_).block,(A_.add n_).off + 5,none⟩) = some (.int .i64 a0_5)) (hq6 : w.cell? (⟨(A_.add n_).block,(A_.add n_).off + 6,none⟩) = some (.int .i64 a0_6)) (hq7 : w.cell? (⟨(A_.add n_).block,(A_.add n_).off + 7,none⟩) = some (.int .i64 a0_7)) (hq8 : w.cell? (⟨(A_.add n_).block,(A_.add n_).off + 8,none⟩) = some (.int .i64 a0_8)) (h : impl_Flow_endsOKAt.f a0_0 a0_1 a0_2 a0_3 a0_4 a0_5 a0_6 a0_7 a0_8 = some r) :
  Calls Try.prog 77 #[.pointer (some (A_.add n_))] w fun e w' => e = .returned (.bool r) ∧ Below w.heap.size w w':=by
 refine (impl_Flow_endsOKAt.calls0 A_ n_ a0_0 a0_1 a0_2 a0_3 a0_4 a0_5 a0_6 a0_7 a0_8 r w hq0 hq1 hq2 hq3 hq4 hq5 hq6 hq7 hq8 h).mono fun e w' hh => ⟨hh.1,?_⟩
 obtain ⟨nd,hq⟩:=hh.2
 rw [hq]
 exact bwN (Below.refl _ _) nd
end
section
/-- A state of type 71 at block g of W;what its slices lead to came in by w0. -/
def IsS71 (w0 W : World) (g : Nat) (f0 : Int) (f1 : ByteArray) (f2 : Int) (f3 : Int) (f4 : Int) (f5 : Int) (f6 : Int) (f7 : Int) (f8 : Int) : Prop:=W.heap[g]? = some (.cells #[.int .i64 f0,.string f1,.int .i64 f2,.int .i64 f3,.int .i64 f4,.int .i64 f5,.int .i64 f6,.int .i64 f7,.int .i64 f8] 71 (0,0)) ∧ w0.heap.size ≤ g
theorem IsS71.grown {w0 W : World} {g : Nat} {f0 : Int} {f1 : ByteArray} {f2 : Int} {f3 : Int} {f4 : Int} {f5 : Int} {f6 : Int} {f7 : Int} {f8 : Int} {W1 : World} {row : Option Nat} (h : IsS71 w0 W g f0 f1 f2 f3 f4 f5 f6 f7 f8) (hw : W.grownBy W1 row) (hne : some g ≠ row) : IsS71 w0 W1 g f0 f1 f2 f3 f4 f5 f6 f7 f8:=by
 obtain ⟨hb,hg⟩:=h
 exact ⟨blk_grown hb hw hne,hg⟩
theorem IsS71.kept {w0 W : World} {g : Nat} {f0 : Int} {f1 : ByteArray} {f2 : Int} {f3 : Int} {f4 : Int} {f5 : Int} {f6 : Int} {f7 : Int} {f8 : Int} {W1 : World} {S : Nat → Prop} (h : IsS71 w0 W g f0 f1 f2 f3 f4 f5 f6 f7 f8) (hk : Kept W W1 S) (hne : ¬ S g) : IsS71 w0 W1 g f0 f1 f2 f3 f4 f5 f6 f7 f8:=by
 obtain ⟨hb,hg⟩:=h
 exact ⟨blk_kept hb hk hne,hg⟩
theorem IsS71.below {w0 W : World} {g : Nat} {f0 : Int} {f1 : ByteArray} {f2 : Int} {f3 : Int} {f4 : Int} {f5 : Int} {f6 : Int} {f7 : Int} {f8 : Int} {W1 : World} (h : IsS71 w0 W g f0 f1 f2 f3 f4 f5 f6 f7 f8) (hw : Below W.heap.size W W1) : IsS71 w0 W1 g f0 f1 f2 f3 f4 f5 f6 f7 f8:=h.grown (grown_of_below hw none) (by simp)
theorem IsS71.alloc {w0 W : World} {g : Nat} {f0 : Int} {f1 : ByteArray} {f2 : Int} {f3 : Int} {f4 : Int} {f5 : Int} {f6 : Int} {f7 : Int} {f8 : Int} (h : IsS71 w0 W g f0 f1 f2 f3 f4 f5 f6 f7 f8) (o : Obj) : IsS71 w0 (W.alloc o) g f0 f1 f2 f3 f4 f5 f6 f7 f8:=h.below (bwA (Below.refl _ _) o)
theorem IsS71.drewN {w0 W : World} {g : Nat} {f0 : Int} {f1 : ByteArray} {f2 : Int} {f3 : Int} {f4 : Int} {f5 : Int} {f6 : Int} {f7 : Int} {f8 : Int} (h : IsS71 w0 W g f0 f1 f2 f3 f4 f5 f6 f7 f8) (m : Nat) : IsS71 w0 (W.drewN m) g f0 f1 f2 f3 f4 f5 f6 f7 f8:=h
theorem IsS71.drew {w0 W : World} {g : Nat} {f0 : Int} {f1 : ByteArray} {f2 : Int} {f3 : Int} {f4 : Int} {f5 : Int} {f6 : Int} {f7 : Int} {f8 : Int} (h : IsS71 w0 W g f0 f1 f2 f3 f4 f5 f6 f7 f8) : IsS71 w0 W.drew g f0 f1 f2 f3 f4 f5 f6 f7 f8:=h
theorem IsS71.at_ {w0 W : World} {g : Nat} {f0 : Int} {f1 : ByteArray} {f2 : Int} {f3 : Int} {f4 : Int} {f5 : Int} {f6 : Int} {f7 : Int} {f8 : Int} {w' : World} {m : Nat} (hq : W.drewN m = w') (h : IsS71 w0 W g f0 f1 f2 f3 f4 f5 f6 f7 f8) : IsS71 w0 w' g f0 f1 f2 f3 f4 f5 f6 f7 f8:=by subst hq;exact IsS71.drewN h m
theorem IsS71.apart {w0 W : World} {g : Nat} {f0 : Int} {f1 : ByteArray} {f2 : Int} {f3 : Int} {f4 : Int} {f5 : Int} {f6 : Int} {f7 : Int} {f8 : Int} {α : Type} {d : Kd α} {e : Nat} {base : Nat} {ok : Nat → Prop} {v : Value} {xs : List α} (h : IsS71 w0 W g f0 f1 f2 f3 f4 f5 f6 f7 f8) (ho : d.R e W base ok v xs) (ht : ∀ q,q ∈ e :: d.E → q ≠ 71) : d.R e W base (fun k => ok k ∧ k ≠ g) v xs:=by
 obtain ⟨hb,hg⟩:=h
 exact Kd.R_types ho hb ht
theorem IsS71.own_ne {w0 W : World} {g : Nat} {f0 : Int} {f1 : ByteArray} {f2 : Int} {f3 : Int} {f4 : Int} {f5 : Int} {f6 : Int} {f7 : Int} {f8 : Int} {α : Type} {d : Kd α} {e : Nat} {base : Nat} {ok : Nat → Prop} {v : Value} {xs : List α} (h : IsS71 w0 W g f0 f1 f2 f3 f4 f5 f6 f7 f8) (ho : d.R e W base ok v xs) (ht : e ≠ 71) : some g ≠ v.ownBlock:=by
 obtain ⟨hb,hg⟩:=h
 exact Kd.R_ne ho hb ht
theorem IsS71.lt {w0 W : World} {g : Nat} {f0 : Int} {f1 : ByteArray} {f2 : Int} {f3 : Int} {f4 : Int} {f5 : Int} {f6 : Int} {f7 : Int} {f8 : Int} (h : IsS71 w0 W g f0 f1 f2 f3 f4 f5 f6 f7 f8) : g < W.heap.size:=by
 obtain ⟨hb,hg⟩:=h
 exact blk_lt hb
theorem IsS71.ge {w0 W : World} {g : Nat} {f0 : Int} {f1 : ByteArray} {f2 : Int} {f3 : Int} {f4 : Int} {f5 : Int} {f6 : Int} {f7 : Int} {f8 : Int} (h : IsS71 w0 W g f0 f1 f2 f3 f4 f5 f6 f7 f8) : w0.heap.size ≤ g:=by
 obtain ⟨hb,hg⟩:=h
 exact hg
theorem IsS71.far {w0 W : World} {g : Nat} {f0 : Int} {f1 : ByteArray} {f2 : Int} {f3 : Int} {f4 : Int} {f5 : Int} {f6 : Int} {f7 : Int} {f8 : Int} {p : Addr} (h : IsS71 w0 W g f0 f1 f2 f3 f4 f5 f6 f7 f8) (hne : g ≠ p.block) (u : Value) : IsS71 w0 (W.setCell p u) g f0 f1 f2 f3 f4 f5 f6 f7 f8:=by
 obtain ⟨hb,hg⟩:=h
 exact ⟨blk_far hb hne u,hg⟩
theorem cellS71_0 {W : World} {g : Nat} {f0 : Int} {f1 : ByteArray} {f2 : Int} {f3 : Int} {f4 : Int} {f5 : Int} {f6 : Int} {f7 : Int} {f8 : Int} (h : W.heap[g]? = some (.cells #[.int .i64 f0,.string f1,.int .i64 f2,.int .i64 f3,.int .i64 f4,.int .i64 f5,.int .i64 f6,.int .i64 f7,.int .i64 f8] 71 (0,0))) : W.cell? ⟨g,0,none⟩ = some (.int .i64 f0):=(bCe h 0).trans rfl
theorem IsS71.set_0 {w0 W : World} {g : Nat} {f0 : Int} {f1 : ByteArray} {f2 : Int} {f3 : Int} {f4 : Int} {f5 : Int} {f6 : Int} {f7 : Int} {f8 : Int} (h : IsS71 w0 W g f0 f1 f2 f3 f4 f5 f6 f7 f8) (x : Int) : IsS71 w0 (W.setCell ⟨g,0,none⟩ (.int .i64 x)) g x f1 f2 f3 f4 f5 f6 f7 f8:=by
 obtain ⟨hb,hg⟩:=h
 exact ⟨by simpa using blk_set hb 0 (.int .i64 x),hg⟩
theorem cellS71_1 {W : World} {g : Nat} {f0 : Int} {f1 : ByteArray} {f2 : Int} {f3 : Int} {f4 : Int} {f5 : Int} {f6 : Int} {f7 : Int} {f8 : Int} (h : W.heap[g]? = some (.cells #[.int .i64 f0,.string f1,.int .i64 f2,.int .i64 f3,.int .i64 f4,.int .i64 f5,.int .i64 f6,.int .i64 f7,.int .i64 f8] 71 (0,0))) : W.cell? ⟨g,1,none⟩ = some (.string f1):=(bCe h 1).trans rfl
theorem IsS71.set_1 {w0 W : World} {g : Nat} {f0 : Int} {f1 : ByteArray} {f2 : Int} {f3 : Int} {f4 : Int} {f5 : Int} {f6 : Int} {f7 : Int} {f8 : Int} (h : IsS71 w0 W g f0 f1 f2 f3 f4 f5 f6 f7 f8) (x : ByteArray) : IsS71 w0 (W.setCell ⟨g,1,none⟩ (.string x)) g f0 x f2 f3 f4 f5 f6 f7 f8:=by
 obtain ⟨hb,hg⟩:=h
 exact ⟨by simpa using blk_set hb 1 (.string x),hg⟩
theorem cellS71_2 {W : World} {g : Nat} {f0 : Int} {f1 : ByteArray} {f2 : Int} {f3 : Int} {f4 : Int} {f5 : Int} {f6 : Int} {f7 : Int} {f8 : Int} (h : W.heap[g]? = some (.cells #[.int .i64 f0,.string f1,.int .i64 f2,.int .i64 f3,.int .i64 f4,.int .i64 f5,.int .i64 f6,.int .i64 f7,.int .i64 f8] 71 (0,0))) : W.cell? ⟨g,2,none⟩ = some (.int .i64 f2):=(bCe h 2).trans rfl
theorem IsS71.set_2 {w0 W : World} {g : Nat} {f0 : Int} {f1 : ByteArray} {f2 : Int} {f3 : Int} {f4 : Int} {f5 : Int} {f6 : Int} {f7 : Int} {f8 : Int} (h : IsS71 w0 W g f0 f1 f2 f3 f4 f5 f6 f7 f8) (x : Int) : IsS71 w0 (W.setCell ⟨g,2,none⟩ (.int .i64 x)) g f0 f1 x f3 f4 f5 f6 f7 f8:=by
 obtain ⟨hb,hg⟩:=h
 exact ⟨by simpa using blk_set hb 2 (.int .i64 x),hg⟩
theorem cellS71_3 {W : World} {g : Nat} {f0 : Int} {f1 : ByteArray} {f2 : Int} {f3 : Int} {f4 : Int} {f5 : Int} {f6 : Int} {f7 : Int} {f8 : Int} (h : W.heap[g]? = some (.cells #[.int .i64 f0,.string f1,.int .i64 f2,.int .i64 f3,.int .i64 f4,.int .i64 f5,.int .i64 f6,.int .i64 f7,.int .i64 f8] 71 (0,0))) : W.cell? ⟨g,3,none⟩ = some (.int .i64 f3):=(bCe h 3).trans rfl
theorem IsS71.set_3 {w0 W : World} {g : Nat} {f0 : Int} {f1 : ByteArray} {f2 : Int} {f3 : Int} {f4 : Int} {f5 : Int} {f6 : Int} {f7 : Int} {f8 : Int} (h : IsS71 w0 W g f0 f1 f2 f3 f4 f5 f6 f7 f8) (x : Int) : IsS71 w0 (W.setCell ⟨g,3,none⟩ (.int .i64 x)) g f0 f1 f2 x f4 f5 f6 f7 f8:=by
 obtain ⟨hb,hg⟩:=h
 exact ⟨by simpa using blk_set hb 3 (.int .i64 x),hg⟩
theorem cellS71_4 {W : World} {g : Nat} {f0 : Int} {f1 : ByteArray} {f2 : Int} {f3 : Int} {f4 : Int} {f5 : Int} {f6 : Int} {f7 : Int} {f8 : Int} (h : W.heap[g]? = some (.cells #[.int .i64 f0,.string f1,.int .i64 f2,.int .i64 f3,.int .i64 f4,.int .i64 f5,.int .i64 f6,.int .i64 f7,.int .i64 f8] 71 (0,0))) : W.cell? ⟨g,4,none⟩ = some (.int .i64 f4):=(bCe h 4).trans rfl
theorem IsS71.set_4 {w0 W : World} {g : Nat} {f0 : Int} {f1 : ByteArray} {f2 : Int} {f3 : Int} {f4 : Int} {f5 : Int} {f6 : Int} {f7 : Int} {f8 : Int} (h : IsS71 w0 W g f0 f1 f2 f3 f4 f5 f6 f7 f8) (x : Int) : IsS71 w0 (W.setCell ⟨g,4,none⟩ (.int .i64 x)) g f0 f1 f2 f3 x f5 f6 f7 f8:=by
 obtain ⟨hb,hg⟩:=h
 exact ⟨by simpa using blk_set hb 4 (.int .i64 x),hg⟩
theorem cellS71_5 {W : World} {g : Nat} {f0 : Int} {f1 : ByteArray} {f2 : Int} {f3 : Int} {f4 : Int} {f5 : Int} {f6 : Int} {f7 : Int} {f8 : Int} (h : W.heap[g]? = some (.cells #[.int .i64 f0,.string f1,.int .i64 f2,.int .i64 f3,.int .i64 f4,.int .i64 f5,.int .i64 f6,.int .i64 f7,.int .i64 f8] 71 (0,0))) : W.cell? ⟨g,5,none⟩ = some (.int .i64 f5):=(bCe h 5).trans rfl
theorem IsS71.set_5 {w0 W : World} {g : Nat} {f0 : Int} {f1 : ByteArray} {f2 : Int} {f3 : Int} {f4 : Int} {f5 : Int} {f6 : Int} {f7 : Int} {f8 : Int} (h : IsS71 w0 W g f0 f1 f2 f3 f4 f5 f6 f7 f8) (x : Int) : IsS71 w0 (W.setCell ⟨g,5,none⟩ (.int .i64 x)) g f0 f1 f2 f3 f4 x f6 f7 f8:=by
 obtain ⟨hb,hg⟩:=h
 exact ⟨by simpa using blk_set hb 5 (.int .i64 x),hg⟩
theorem cellS71_6 {W : World} {g : Nat} {f0 : Int} {f1 : ByteArray} {f2 : Int} {f3 : Int} {f4 : Int} {f5 : Int} {f6 : Int} {f7 : Int} {f8 : Int} (h : W.heap[g]? = some (.cells #[.int .i64 f0,.string f1,.int .i64 f2,.int .i64 f3,.int .i64 f4,.int .i64 f5,.int .i64 f6,.int .i64 f7,.int .i64 f8] 71 (0,0))) : W.cell? ⟨g,6,none⟩ = some (.int .i64 f6):=(bCe h 6).trans rfl
theorem IsS71.set_6 {w0 W : World} {g : Nat} {f0 : Int} {f1 : ByteArray} {f2 : Int} {f3 : Int} {f4 : Int} {f5 : Int} {f6 : Int} {f7 : Int} {f8 : Int} (h : IsS71 w0 W g f0 f1 f2 f3 f4 f5 f6 f7 f8) (x : Int) : IsS71 w0 (W.setCell ⟨g,6,none⟩ (.int .i64 x)) g f0 f1 f2 f3 f4 f5 x f7 f8:=by
 obtain ⟨hb,hg⟩:=h
 exact ⟨by simpa using blk_set hb 6 (.int .i64 x),hg⟩
theorem cellS71_7 {W : World} {g : Nat} {f0 : Int} {f1 : ByteArray} {f2 : Int} {f3 : Int} {f4 : Int} {f5 : Int} {f6 : Int} {f7 : Int} {f8 : Int} (h : W.heap[g]? = some (.cells #[.int .i64 f0,.string f1,.int .i64 f2,.int .i64 f3,.int .i64 f4,.int .i64 f5,.int .i64 f6,.int .i64 f7,.int .i64 f8] 71 (0,0))) : W.cell? ⟨g,7,none⟩ = some (.int .i64 f7):=(bCe h 7).trans rfl
theorem IsS71.set_7 {w0 W : World} {g : Nat} {f0 : Int} {f1 : ByteArray} {f2 : Int} {f3 : Int} {f4 : Int} {f5 : Int} {f6 : Int} {f7 : Int} {f8 : Int} (h : IsS71 w0 W g f0 f1 f2 f3 f4 f5 f6 f7 f8) (x : Int) : IsS71 w0 (W.setCell ⟨g,7,none⟩ (.int .i64 x)) g f0 f1 f2 f3 f4 f5 f6 x f8:=by
 obtain ⟨hb,hg⟩:=h
 exact ⟨by simpa using blk_set hb 7 (.int .i64 x),hg⟩
theorem cellS71_8 {W : World} {g : Nat} {f0 : Int} {f1 : ByteArray} {f2 : Int} {f3 : Int} {f4 : Int} {f5 : Int} {f6 : Int} {f7 : Int} {f8 : Int} (h : W.heap[g]? = some (.cells #[.int .i64 f0,.string f1,.int .i64 f2,.int .i64 f3,.int .i64 f4,.int .i64 f5,.int .i64 f6,.int .i64 f7,.int .i64 f8] 71 (0,0))) : W.cell? ⟨g,8,none⟩ = some (.int .i64 f8):=(bCe h 8).trans rfl
theorem IsS71.set_8 {w0 W : World} {g : Nat} {f0 : Int} {f1 : ByteArray} {f2 : Int} {f3 : Int} {f4 : Int} {f5 : Int} {f6 : Int} {f7 : Int} {f8 : Int} (h : IsS71 w0 W g f0 f1 f2 f3 f4 f5 f6 f7 f8) (x : Int) : IsS71 w0 (W.setCell ⟨g,8,none⟩ (.int .i64 x)) g f0 f1 f2 f3 f4 f5 f6 f7 x:=by
 obtain ⟨hb,hg⟩:=h
 exact ⟨by simpa using blk_set hb 8 (.int .i64 x),hg⟩
theorem IsS71.new (w0 W : World) (f0 : Int) (f1 : ByteArray) (f2 : Int) (f3 : Int) (f4 : Int) (f5 : Int) (f6 : Int) (f7 : Int) (f8 : Int) (hB : Below w0.heap.size w0 W) : IsS71 w0 (W.alloc (.cells #[.int .i64 f0,.string f1,.int .i64 f2,.int .i64 f3,.int .i64 f4,.int .i64 f5,.int .i64 f6,.int .i64 f7,.int .i64 f8] 71)) W.heap.size f0 f1 f2 f3 f4 f5 f6 f7 f8:=⟨by simpa using heap_alloc_new W _,hB.size⟩
end
section
/-! ### impl_Flow_is: function 109 -/
def impl_Flow_is.f (s0_0 : Int) (s0_1 : ByteArray) (s0_2 : Int) (s0_3 : Int) (s0_4 : Int) (s0_5 : Int) (s0_6 : Int) (s0_7 : Int) (s0_8 : Int) (a1 : Int) (a2 : Int) (a3 : Int) (a4 : Int) (a5 : Int) : Option (Bool):=if s0_0 = a1 then (if s0_2 = a2 then (if s0_3 = a3 then (if s0_4 = a4 then (some (s0_5 == a5)) else (some false)) else (some false)) else (some false)) else (some false)
set_option maxHeartbeats 8000000 in
set_option maxRecDepth 100000 in
theorem impl_Flow_is.calls (g : Nat) (s0_0 : Int) (s0_1 : ByteArray) (s0_2 : Int) (s0_3 : Int) (s0_4 : Int) (s0_5 : Int) (s0_6 : Int) (s0_7 : Int) (s0_8 : Int) (a1 : Int) (a2 : Int) (a3 : Int) (a4 : Int) (a5 : Int) (r : Bool) (w0 w : World) (hI : IsS71 w0 w g s0_0 s0_1 s0_2 s0_3 s0_4 s0_5 s0_6 s0_7 s0_8) (hB : Below w0.heap.size w0 w) (h : impl_Flow_is.f s0_0 s0_1 s0_2 s0_3 s0_4 s0_5 s0_6 s0_7 s0_8 a1 a2 a3 a4 a5 = some r) :
  Calls Try.prog 109 #[.pointer (some ⟨g,0,none⟩),.int .i64 a1,.int .i64 a2,.int .i64 a3,.int .i64 a4,.int .i64 a5] w fun e w' => e = .returned (.bool r) ∧ IsS71 w0 w' g s0_0 s0_1 s0_2 s0_3 s0_4 s0_5 s0_6 s0_7 s0_8 ∧ Below w0.heap.size w0 w' ∧ KeepBut w w' g none:=by
 have HI0:=aMk hI
 have HK:=aMk (KeepBut.refl w g none)
 have HL:=aMk hB.size
 clear hI
 have HW0:=aMk hB.size
 have HB:=aMk hB
 clear hB
 have H : (if s0_0 = a1 then (if s0_2 = a2 then (if s0_3 = a3 then (if s0_4 = a4 then (some (s0_5 == a5)) else (some false)) else (some false)) else (some false)) else (some false)) = some r:=h
 clear h
 by_cases c7 : s0_0 = a1
 ·rw [if_pos c7] at H
  have c7b0 : (s0_0 == a1) = true:=beq_iff_eq.mpr c7
  have c7b1 : (s0_0 != a1) = false:=bne_eq_false_iff_eq.mpr c7
  clear c7
  by_cases c8 : s0_2 = a2
  ·rw [if_pos c8] at H
   have c8b0 : (s0_2 == a2) = true:=beq_iff_eq.mpr c8
   have c8b1 : (s0_2 != a2) = false:=bne_eq_false_iff_eq.mpr c8
   clear c8
   by_cases c9 : s0_3 = a3
   ·rw [if_pos c9] at H
    have c9b0 : (s0_3 == a3) = true:=beq_iff_eq.mpr c9
    have c9b1 : (s0_3 != a3) = false:=bne_eq_false_iff_eq.mpr c9
    clear c9
    by_cases c10 : s0_4 = a4
    ·rw [if_pos c10] at H
     have c10b0 : (s0_4 == a4) = true:=beq_iff_eq.mpr c10
     have c10b1 : (s0_4 != a4) = false:=bne_eq_false_iff_eq.mpr c10
     clear c10
     obtain rfl:=Option.some.inj H
     obtain ⟨HGz11,hgz11⟩:=HI0.out
     have hcz11_0:=cellS71_0 HGz11
     have hcz11_1:=cellS71_1 HGz11
     have hcz11_2:=cellS71_2 HGz11
     have hcz11_3:=cellS71_3 HGz11
     have hcz11_4:=cellS71_4 HGz11
     have hcz11_5:=cellS71_5 HGz11
     have hcz11_6:=cellS71_6 HGz11
     have hcz11_7:=cellS71_7 HGz11
     have hcz11_8:=cellS71_8 HGz11
     have hfz11_0:=bFr HGz11 0
     have hfz11_1:=bFr HGz11 1
     have hfz11_2:=bFr HGz11 2
     have hfz11_3:=bFr HGz11 3
     have hfz11_4:=bFr HGz11 4
     have hfz11_5:=bFr HGz11 5
     have hfz11_6:=bFr HGz11 6
     have hfz11_7:=bFr HGz11 7
     have hfz11_8:=bFr HGz11 8
     clear HGz11 hgz11
     go_enter Try.func109,Try.ntmps109
     go_wp2
     go_ret
     exact ⟨eRf,by repeat (first|(with_reducible first|exact HI0.out|apply IsS71.alloc|apply IsS71.drewN|apply IsS71.drew|apply IsS71.set_0|apply IsS71.set_1|apply IsS71.set_2|apply IsS71.set_3|apply IsS71.set_4|apply IsS71.set_5|apply IsS71.set_6|apply IsS71.set_7|apply IsS71.set_8)|exact HI0.out),by repeat (first|(with_reducible first|exact HB.out|apply bwA|apply bwN|apply bw1|refine below_set ?_ (IsS71.ge HI0.out))|exact HB.out),by repeat (first|(with_reducible first|exact HK.out|apply KeepBut.set_|apply keep_drewN|apply keep_drew|apply keep_alloc)|exact HK.out)⟩
    ·rw [if_neg c10] at H
     have c10b0 : (s0_4 == a4) = false:=beq_eq_false_iff_ne.mpr c10
     have c10b1 : (s0_4 != a4) = true:=bne_iff_ne.mpr c10
     obtain rfl:=Option.some.inj H
     obtain ⟨HGz12,hgz12⟩:=HI0.out
     have hcz12_0:=cellS71_0 HGz12
     have hcz12_1:=cellS71_1 HGz12
     have hcz12_2:=cellS71_2 HGz12
     have hcz12_3:=cellS71_3 HGz12
     have hcz12_4:=cellS71_4 HGz12
     have hcz12_5:=cellS71_5 HGz12
     have hcz12_6:=cellS71_6 HGz12
     have hcz12_7:=cellS71_7 HGz12
     have hcz12_8:=cellS71_8 HGz12
     have hfz12_0:=bFr HGz12 0
     have hfz12_1:=bFr HGz12 1
     have hfz12_2:=bFr HGz12 2
     have hfz12_3:=bFr HGz12 3
     have hfz12_4:=bFr HGz12 4
     have hfz12_5:=bFr HGz12 5
     have hfz12_6:=bFr HGz12 6
     have hfz12_7:=bFr HGz12 7
     have hfz12_8:=bFr HGz12 8
     clear HGz12 hgz12
     go_enter Try.func109,Try.ntmps109
     go_wp2
     go_ret
     exact ⟨eRf,by repeat (first|(with_reducible first|exact HI0.out|apply IsS71.alloc|apply IsS71.drewN|apply IsS71.drew|apply IsS71.set_0|apply IsS71.set_1|apply IsS71.set_2|apply IsS71.set_3|apply IsS71.set_4|apply IsS71.set_5|apply IsS71.set_6|apply IsS71.set_7|apply IsS71.set_8)|exact HI0.out),by repeat (first|(with_reducible first|exact HB.out|apply bwA|apply bwN|apply bw1|refine below_set ?_ (IsS71.ge HI0.out))|exact HB.out),by repeat (first|(with_reducible first|exact HK.out|apply KeepBut.set_|apply keep_drewN|apply keep_drew|apply keep_alloc)|exact HK.out)⟩
   ·rw [if_neg c9] at H
    have c9b0 : (s0_3 == a3) = false:=beq_eq_false_iff_ne.mpr c9
    have c9b1 : (s0_3 != a3) = true:=bne_iff_ne.mpr c9
    obtain rfl:=Option.some.inj H
    obtain ⟨HGz13,hgz13⟩:=HI0.out
    have hcz13_0:=cellS71_0 HGz13
    have hcz13_1:=cellS71_1 HGz13
    have hcz13_2:=cellS71_2 HGz13
    have hcz13_3:=cellS71_3 HGz13
    have hcz13_4:=cellS71_4 HGz13
    have hcz13_5:=cellS71_5 HGz13
    have hcz13_6:=cellS71_6 HGz13
    have hcz13_7:=cellS71_7 HGz13
    have hcz13_8:=cellS71_8 HGz13
    have hfz13_0:=bFr HGz13 0
    have hfz13_1:=bFr HGz13 1
    have hfz13_2:=bFr HGz13 2
    have hfz13_3:=bFr HGz13 3
    have hfz13_4:=bFr HGz13 4
    have hfz13_5:=bFr HGz13 5
    have hfz13_6:=bFr HGz13 6
    have hfz13_7:=bFr HGz13 7
    have hfz13_8:=bFr HGz13 8
    clear HGz13 hgz13
    go_enter Try.func109,Try.ntmps109
    go_wp2
    go_ret
    exact ⟨eRf,by repeat (first|(with_reducible first|exact HI0.out|apply IsS71.alloc|apply IsS71.drewN|apply IsS71.drew|apply IsS71.set_0|apply IsS71.set_1|apply IsS71.set_2|apply IsS71.set_3|apply IsS71.set_4|apply IsS71.set_5|apply IsS71.set_6|apply IsS71.set_7|apply IsS71.set_8)|exact HI0.out),by repeat (first|(with_reducible first|exact HB.out|apply bwA|apply bwN|apply bw1|refine below_set ?_ (IsS71.ge HI0.out))|exact HB.out),by repeat (first|(with_reducible first|exact HK.out|apply KeepBut.set_|apply keep_drewN|apply keep_drew|apply keep_alloc)|exact HK.out)⟩
  ·rw [if_neg c8] at H
   have c8b0 : (s0_2 == a2) = false:=beq_eq_false_iff_ne.mpr c8
   have c8b1 : (s0_2 != a2) = true:=bne_iff_ne.mpr c8
   obtain rfl:=Option.some.inj H
   obtain ⟨HGz14,hgz14⟩:=HI0.out
   have hcz14_0:=cellS71_0 HGz14
   have hcz14_1:=cellS71_1 HGz14
   have hcz14_2:=cellS71_2 HGz14
   have hcz14_3:=cellS71_3 HGz14
   have hcz14_4:=cellS71_4 HGz14
   have hcz14_5:=cellS71_5 HGz14
   have hcz14_6:=cellS71_6 HGz14
   have hcz14_7:=cellS71_7 HGz14
   have hcz14_8:=cellS71_8 HGz14
   have hfz14_0:=bFr HGz14 0
   have hfz14_1:=bFr HGz14 1
   have hfz14_2:=bFr HGz14 2
   have hfz14_3:=bFr HGz14 3
   have hfz14_4:=bFr HGz14 4
   have hfz14_5:=bFr HGz14 5
   have hfz14_6:=bFr HGz14 6
   have hfz14_7:=bFr HGz14 7
   have hfz14_8:=bFr HGz14 8
   clear HGz14 hgz14
   go_enter Try.func109,Try.ntmps109
   go_wp2
   go_ret
   exact ⟨eRf,by repeat (first|(with_reducible first|exact HI0.out|apply IsS71.alloc|apply IsS71.drewN|apply IsS71.drew|apply IsS71.set_0|apply IsS71.set_1|apply IsS71.set_2|apply IsS71.set_3|apply IsS71.set_4|apply IsS71.set_5|apply IsS71.set_6|apply IsS71.set_7|apply IsS71.set_8)|exact HI0.out),by repeat (first|(with_reducible first|exact HB.out|apply bwA|apply bwN|apply bw1|refine below_set ?_ (IsS71.ge HI0.out))|exact HB.out),by repeat (first|(with_reducible first|exact HK.out|apply KeepBut.set_|apply keep_drewN|apply keep_drew|apply keep_alloc)|exact HK.out)⟩
 ·rw [if_neg c7] at H
  have c7b0 : (s0_0 == a1) = false:=beq_eq_false_iff_ne.mpr c7
  have c7b1 : (s0_0 != a1) = true:=bne_iff_ne.mpr c7
  obtain rfl:=Option.some.inj H
  obtain ⟨HGz15,hgz15⟩:=HI0.out
  have hcz15_0:=cellS71_0 HGz15
  have hcz15_1:=cellS71_1 HGz15
  have hcz15_2:=cellS71_2 HGz15
  have hcz15_3:=cellS71_3 HGz15
  have hcz15_4:=cellS71_4 HGz15
  have hcz15_5:=cellS71_5 HGz15
  have hcz15_6:=cellS71_6 HGz15
  have hcz15_7:=cellS71_7 HGz15
  have hcz15_8:=cellS71_8 HGz15
  have hfz15_0:=bFr HGz15 0
  have hfz15_1:=bFr HGz15 1
  have hfz15_2:=bFr HGz15 2
  have hfz15_3:=bFr HGz15 3
  have hfz15_4:=bFr HGz15 4
  have hfz15_5:=bFr HGz15 5
  have hfz15_6:=bFr HGz15 6
  have hfz15_7:=bFr HGz15 7
  have hfz15_8:=bFr HGz15 8
  clear HGz15 hgz15
  go_enter Try.func109,Try.ntmps109
  go_wp2
  go_ret
  exact ⟨eRf,by repeat (first|(with_reducible first|exact HI0.out|apply IsS71.alloc|apply IsS71.drewN|apply IsS71.drew|apply IsS71.set_0|apply IsS71.set_1|apply IsS71.set_2|apply IsS71.set_3|apply IsS71.set_4|apply IsS71.set_5|apply IsS71.set_6|apply IsS71.set_7|apply IsS71.set_8)|exact HI0.out),by repeat (first|(with_reducible first|exact HB.out|apply bwA|apply bwN|apply bw1|refine below_set ?_ (IsS71.ge HI0.out))|exact HB.out),by repeat (first|(with_reducible first|exact HK.out|apply KeepBut.set_|apply keep_drewN|apply keep_drew|apply keep_alloc)|exact HK.out)⟩
end
section
/-! ### impl_find_1: function 108 -/
def impl_find_1.f (a0_0 : Int) (a0_1 : ByteArray) (a0_2 : Int) (a0_3 : Int) (a0_4 : Int) (a0_5 : Int) (a0_6 : Int) (a0_7 : Int) (a0_8 : Int) (a1 : Int) (a2 : Int) (a3 : Int) (a4 : Int) (a5 : Int) : Option (Bool):=(impl_Flow_is.f a0_0 a0_1 a0_2 a0_3 a0_4 a0_5 a0_6 a0_7 a0_8 a1 a2 a3 a4 a5).bind fun t257 => (some t257)
set_option maxHeartbeats 8000000 in
set_option maxRecDepth 100000 in
theorem impl_find_1.calls (q1 q2 q3 q4 q5 : Nat) (a0_0 : Int) (a0_1 : ByteArray) (a0_2 : Int) (a0_3 : Int) (a0_4 : Int) (a0_5 : Int) (a0_6 : Int) (a0_7 : Int) (a0_8 : Int) (a1 : Int) (a2 : Int) (a3 : Int) (a4 : Int) (a5 : Int) (r : Bool) (w : World) (hq1 : w.cell? ⟨q1,0,none⟩ = some (.int .i64 a1)) (hq2 : w.cell? ⟨q2,0,none⟩ = some (.int .i64 a2)) (hq3 : w.cell? ⟨q3,0,none⟩ = some (.int .i64 a3)) (hq4 : w.cell? ⟨q4,0,none⟩ = some (.int .i64 a4)) (hq5 : w.cell? ⟨q5,0,none⟩ = some (.int .i64 a5)) (h : impl_find_1.f a0_0 a0_1 a0_2 a0_3 a0_4 a0_5 a0_6 a0_7 a0_8 a1 a2 a3 a4 a5 = some r) :
  Calls Try.prog 108 #[.agg #[.int .i64 a0_0,.string a0_1,.int .i64 a0_2,.int .i64 a0_3,.int .i64 a0_4,.int .i64 a0_5,.int .i64 a0_6,.int .i64 a0_7,.int .i64 a0_8],.pointer (some ⟨q1,0,none⟩),.pointer (some ⟨q2,0,none⟩),.pointer (some ⟨q3,0,none⟩),.pointer (some ⟨q4,0,none⟩),.pointer (some ⟨q5,0,none⟩)] w fun e w' => e = .returned (.bool r) ∧ Below w.heap.size w w':=by
 have HQ1:=aMk hq1
 clear hq1
 have HQ2:=aMk hq2
 clear hq2
 have HQ3:=aMk hq3
 clear hq3
 have HQ4:=aMk hq4
 clear hq4
 have HQ5:=aMk hq5
 clear hq5
 have hu71:=Try.underlying71
 have HB:=aMk (Below.refl w.heap.size w)
 have H : ((impl_Flow_is.f a0_0 a0_1 a0_2 a0_3 a0_4 a0_5 a0_6 a0_7 a0_8 a1 a2 a3 a4 a5).bind fun t257 => (some t257)) = some r:=h
 clear h
 replace H:=Option.bind_eq_some_iff.mp H
 obtain ⟨t257,A70,H⟩:=H
 replace H : (some t257) = some r:=H
 have A7:=aMk A70
 clear A70
 obtain rfl:=Option.some.inj H
 have hcq1:=HQ1.out
 have hcq2:=HQ2.out
 have hcq3:=HQ3.out
 have hcq4:=HQ4.out
 have hcq5:=HQ5.out
 go_enter Try.func108,Try.ntmps108
 go_wp2_with (first|((with_reducible refine gate_dst (N:=6) rfl ?_);refine bxE (N:=6) (cs:=#[.int .i64 a0_0,.string a0_1,.int .i64 a0_2,.int .i64 a0_3,.int .i64 a0_4,.int .i64 a0_5,.int .i64 a0_6,.int .i64 a0_7,.int .i64 a0_8]) (t:=71) ?_;intro gb256 hg w8 hbox hb;have n0_:=aMk (bSt hb);have n1_:=aMk ((show IsS71 w w8 gb256 a0_0 a0_1 a0_2 a0_3 a0_4 a0_5 a0_6 a0_7 a0_8 from ⟨hbox,(by rw [hg];exact bSz : w.heap.size ≤ gb256)⟩));clear HB;have HB:=n0_;have hcq1:=(HB.out.cell (wLt w _ HQ1.out)).trans HQ1.out;have hcq2:=(HB.out.cell (wLt w _ HQ2.out)).trans HQ2.out;have hcq3:=(HB.out.cell (wLt w _ HQ3.out)).trans HQ3.out;have hcq4:=(HB.out.cell (wLt w _ HQ4.out)).trans HQ4.out;have hcq5:=(HB.out.cell (wLt w _ HQ5.out)).trans HQ5.out;have HI256:=n1_;clear n0_ n1_;clear hb hbox hg)|((with_reducible refine gate_callee (f:=109) rfl ?_);refine gLs 13 Try.func109 #[.pointer (some ⟨gb256,0,none⟩),.int .i64 a1,.int .i64 a2,.int .i64 a3,.int .i64 a4,.int .i64 a5] ?_;(with_reducible refine (impl_Flow_is.calls gb256 a0_0 a0_1 a0_2 a0_3 a0_4 a0_5 a0_6 a0_7 a0_8 a1 a2 a3 a4 a5 t257 w _ ?side1 ?side2 A7.out).mono ?_);(case side1 => repeat (first|(with_reducible first|exact HI256.out|apply IsS71.alloc|apply IsS71.drewN|apply IsS71.drew|apply IsS71.set_0|apply IsS71.set_1|apply IsS71.set_2|apply IsS71.set_3|apply IsS71.set_4|apply IsS71.set_5|apply IsS71.set_6|apply IsS71.set_7|apply IsS71.set_8)|exact HI256.out));(case side2 => repeat (first|(with_reducible first|exact HB.out|apply bwA|apply bwN|apply bw1|refine below_set ?_ (IsS71.ge HI256.out))|exact HB.out));rintro e w9 ⟨rfl,hi,hb,hk⟩;refine ⟨_,rfl,?_⟩;have n0_:=aMk (hb);have n1_:=aMk (hi);clear HB;clear HI256;have HB:=n0_;have hcq1:=(HB.out.cell (wLt w _ HQ1.out)).trans HQ1.out;have hcq2:=(HB.out.cell (wLt w _ HQ2.out)).trans HQ2.out;have hcq3:=(HB.out.cell (wLt w _ HQ3.out)).trans HQ3.out;have hcq4:=(HB.out.cell (wLt w _ HQ4.out)).trans HQ4.out;have hcq5:=(HB.out.cell (wLt w _ HQ5.out)).trans HQ5.out;have HI256:=n1_;clear n0_ n1_;(try clear hb);(try clear hb2);(try clear hk);(try clear hi)))
 go_ret
 exact ⟨eRf,by repeat (first|(with_reducible first|exact HB.out|apply bwA|apply bwN|apply bw1|refine below_set ?_ (IsS71.ge HI256.out))|exact HB.out)⟩
end
section
/-! ### impl_find_2: function 110 -/
def impl_find_2.f (a0_0 : Int) (a0_1 : ByteArray) (a0_2 : Int) (a0_3 : Int) (a0_4 : Int) (a0_5 : Int) (a0_6 : Int) (a0_7 : Int) (a0_8 : Int) (a1 : Int) (a2 : Int) (a3 : Int) (a4 : Int) (a5 : Int) : Option (Bool):=(impl_Flow_is.f a0_0 a0_1 a0_2 a0_3 a0_4 a0_5 a0_6 a0_7 a0_8 a1 a2 a3 a4 a5).bind fun t259 => (some t259)
set_option maxHeartbeats 8000000 in
set_option maxRecDepth 100000 in
theorem impl_find_2.calls (q1 q2 q3 q4 q5 : Nat) (a0_0 : Int) (a0_1 : ByteArray) (a0_2 : Int) (a0_3 : Int) (a0_4 : Int) (a0_5 : Int) (a0_6 : Int) (a0_7 : Int) (a0_8 : Int) (a1 : Int) (a2 : Int) (a3 : Int) (a4 : Int) (a5 : Int) (r : Bool) (w : World) (hq1 : w.cell? ⟨q1,0,none⟩ = some (.int .i64 a1)) (hq2 : w.cell? ⟨q2,0,none⟩ = some (.int .i64 a2)) (hq3 : w.cell? ⟨q3,0,none⟩ = some (.int .i64 a3)) (hq4 : w.cell? ⟨q4,0,none⟩ = some (.int .i64 a4)) (hq5 : w.cell? ⟨q5,0,none⟩ = some (.int .i64 a5)) (h : impl_find_2.f a0_0 a0_1 a0_2 a0_3 a0_4 a0_5 a0_6 a0_7 a0_8 a1 a2 a3 a4 a5 = some r) :
  Calls Try.prog 110 #[.agg #[.int .i64 a0_0,.string a0_1,.int .i64 a0_2,.int .i64 a0_3,.int .i64 a0_4,.int .i64 a0_5,.int .i64 a0_6,.int .i64 a0_7,.int .i64 a0_8],.pointer (some ⟨q1,0,none⟩),.pointer (some ⟨q2,0,none⟩),.pointer (some ⟨q3,0,none⟩),.pointer (some ⟨q4,0,none⟩),.pointer (some ⟨q5,0,none⟩)] w fun e w' => e = .returned (.bool r) ∧ Below w.heap.size w w':=by
 have HQ1:=aMk hq1
 clear hq1
 have HQ2:=aMk hq2
 clear hq2
 have HQ3:=aMk hq3
 clear hq3
 have HQ4:=aMk hq4
 clear hq4
 have HQ5:=aMk hq5
 clear hq5
 have hu71:=Try.underlying71
 have HB:=aMk (Below.refl w.heap.size w)
 have H : ((impl_Flow_is.f a0_0 a0_1 a0_2 a0_3 a0_4 a0_5 a0_6 a0_7 a0_8 a1 a2 a3 a4 a5).bind fun t259 => (some t259)) = some r:=h
 clear h
 replace H:=Option.bind_eq_some_iff.mp H
 obtain ⟨t259,A70,H⟩:=H
 replace H : (some t259) = some r:=H
 have A7:=aMk A70
 clear A70
 obtain rfl:=Option.some.inj H
 have hcq1:=HQ1.out
 have hcq2:=HQ2.out
 have hcq3:=HQ3.out
 have hcq4:=HQ4.out
 have hcq5:=HQ5.out
 go_enter Try.func110,Try.ntmps110
 go_wp2_with (first|((with_reducible refine gate_dst (N:=6) rfl ?_);refine bxE (N:=6) (cs:=#[.int .i64 a0_0,.string a0_1,.int .i64 a0_2,.int .i64 a0_3,.int .i64 a0_4,.int .i64 a0_5,.int .i64 a0_6,.int .i64 a0_7,.int .i64 a0_8]) (t:=71) ?_;intro gb258 hg w8 hbox hb;have n0_:=aMk (bSt hb);have n1_:=aMk ((show IsS71 w w8 gb258 a0_0 a0_1 a0_2 a0_3 a0_4 a0_5 a0_6 a0_7 a0_8 from ⟨hbox,(by rw [hg];exact bSz : w.heap.size ≤ gb258)⟩));clear HB;have HB:=n0_;have hcq1:=(HB.out.cell (wLt w _ HQ1.out)).trans HQ1.out;have hcq2:=(HB.out.cell (wLt w _ HQ2.out)).trans HQ2.out;have hcq3:=(HB.out.cell (wLt w _ HQ3.out)).trans HQ3.out;have hcq4:=(HB.out.cell (wLt w _ HQ4.out)).trans HQ4.out;have hcq5:=(HB.out.cell (wLt w _ HQ5.out)).trans HQ5.out;have HI258:=n1_;clear n0_ n1_;clear hb hbox hg)|((with_reducible refine gate_callee (f:=109) rfl ?_);refine gLs 13 Try.func109 #[.pointer (some ⟨gb258,0,none⟩),.int .i64 a1,.int .i64 a2,.int .i64 a3,.int .i64 a4,.int .i64 a5] ?_;(with_reducible refine (impl_Flow_is.calls gb258 a0_0 a0_1 a0_2 a0_3 a0_4 a0_5 a0_6 a0_7 a0_8 a1 a2 a3 a4 a5 t259 w _ ?side1 ?side2 A7.out).mono ?_);(case side1 => repeat (first|(with_reducible first|exact HI258.out|apply IsS71.alloc|apply IsS71.drewN|apply IsS71.drew|apply IsS71.set_0|apply IsS71.set_1|apply IsS71.set_2|apply IsS71.set_3|apply IsS71.set_4|apply IsS71.set_5|apply IsS71.set_6|apply IsS71.set_7|apply IsS71.set_8)|exact HI258.out));(case side2 => repeat (first|(with_reducible first|exact HB.out|apply bwA|apply bwN|apply bw1|refine below_set ?_ (IsS71.ge HI258.out))|exact HB.out));rintro e w9 ⟨rfl,hi,hb,hk⟩;refine ⟨_,rfl,?_⟩;have n0_:=aMk (hb);have n1_:=aMk (hi);clear HB;clear HI258;have HB:=n0_;have hcq1:=(HB.out.cell (wLt w _ HQ1.out)).trans HQ1.out;have hcq2:=(HB.out.cell (wLt w _ HQ2.out)).trans HQ2.out;have hcq3:=(HB.out.cell (wLt w _ HQ3.out)).trans HQ3.out;have hcq4:=(HB.out.cell (wLt w _ HQ4.out)).trans HQ4.out;have hcq5:=(HB.out.cell (wLt w _ HQ5.out)).trans HQ5.out;have HI258:=n1_;clear n0_ n1_;(try clear hb);(try clear hb2);(try clear hk);(try clear hi)))
 go_ret
 exact ⟨eRf,by repeat (first|(with_reducible first|exact HB.out|apply bwA|apply bwN|apply bw1|refine below_set ?_ (IsS71.ge HI258.out))|exact HB.out)⟩
end
section
/-! ### impl_find: function 78 -/
-- USES 108 110 107
def impl_find.f (k : Nat) (l0 : List S71) (a1 : Int) (a2 : Int) (a3 : Int) (a4 : Int) (a5 : Int) : Option (Int × Bool):=(idxP71 (fun x => impl_find_1.f x.f0 x.f1 x.f2 x.f3 x.f4 x.f5 x.f6 x.f7 x.f8 a1 a2 a3 a4 a5) l0 k 0).bind fun t => if t ≥ 0 then some (t,false) else (idxP71 (fun x => impl_find_2.f x.f0 x.f1 x.f2 x.f3 x.f4 x.f5 x.f6 x.f7 x.f8 a1 a4 a5 a2 a3) l0 k 0).bind fun u => some (u,decide (u ≥ 0))
theorem impl_find.mono : ∀ y0 y1 y2 y3 y4 y5 k,LeO (impl_find.f k y0 y1 y2 y3 y4 y5) (impl_find.f (k + 1) y0 y1 y2 y3 y4 y5):=fun l _ _ _ _ _ k => LeO.bind (idxP71_mono _ _ (fun _ => LeO.refl _) l k 0) (fun _ => LeO.ite (LeO.refl _) (LeO.bind (idxP71_mono _ _ (fun _ => LeO.refl _) l k 0) (fun _ => LeO.refl _)))
set_option maxHeartbeats 8000000 in
set_option maxRecDepth 100000 in
theorem impl_find.calls (k : Nat) (A0 : Option Addr) (c0 : Nat) (l0 : List S71) (a1 : Int) (a2 : Int) (a3 : Int) (a4 : Int) (a5 : Int) (r1 : Int) (r2 : Bool) (w : World) (hr0 : Kd.C k71 w A0 l0.length l0) (hc0 : l0.length ≤ c0) (h : impl_find.f k l0 a1 a2 a3 a4 a5 = some (r1,r2)) :
  Calls Try.prog 78 #[.slice A0 l0.length c0,.int .i64 a1,.int .i64 a2,.int .i64 a3,.int .i64 a4,.int .i64 a5] w fun e w' => e = .returned (.tuple #[.int .i64 r1,.bool r2]) ∧ Below w.heap.size w w':=by
 have HR:=aMk hr0
 clear hr0 hc0
 have HB:=aMk (Below.refl w.heap.size w)
 obtain ⟨t,h1,h2⟩:=Option.bind_eq_some_iff.mp (show ((idxP71 (fun x => impl_find_1.f x.f0 x.f1 x.f2 x.f3 x.f4 x.f5 x.f6 x.f7 x.f8 a1 a2 a3 a4 a5) l0 k 0).bind fun t => if t ≥ 0 then some (t,false) else (idxP71 (fun x => impl_find_2.f x.f0 x.f1 x.f2 x.f3 x.f4 x.f5 x.f6 x.f7 x.f8 a1 a4 a5 a2 a3) l0 k 0).bind fun u => some (u,decide (u ≥ 0))) = some (r1,r2) from h)
 clear h
 have H1:=aMk h1
 clear h1
 by_cases c : t ≥ 0
 ·rw [if_pos c] at h2
  have cb0 : decide (0 ≤ t) = true:=decide_eq_true c
  simp only [Option.some.injEq,Prod.mk.injEq] at h2
  obtain ⟨rfl,rfl⟩:=h2
  go_enter Try.func78,Try.ntmps78
  go_wp2_with (first|((with_reducible refine gate_dst (N:=7) rfl ?_);refine bxE (N:=7) (cs:=#[.int .i64 a1]) (t:=3) ?_;intro gb7 hg w7 hbox hb;have n0_:=aMk (below_step HB.out hb);clear HB;have HB:=n0_;clear n0_;have BK7:=aMk hbox;clear hg hb hbox)|((with_reducible refine gate_dst (N:=8) rfl ?_);refine bxE (N:=8) (cs:=#[.int .i64 a2]) (t:=3) ?_;intro gb8 hg w8 hbox hb;have n0_:=aMk (below_step HB.out hb);clear HB;have HB:=n0_;clear n0_;have n0_:=aMk (blk_below (g:=gb7) (o:=.cells #[.int .i64 a1] 3 (0,0)) BK7.out hb);clear BK7;have BK7:=n0_;clear n0_;have BK8:=aMk hbox;clear hg hb hbox)|((with_reducible refine gate_dst (N:=9) rfl ?_);refine bxE (N:=9) (cs:=#[.int .i64 a3]) (t:=3) ?_;intro gb9 hg w9 hbox hb;have n0_:=aMk (below_step HB.out hb);clear HB;have HB:=n0_;clear n0_;have n0_:=aMk (blk_below (g:=gb7) (o:=.cells #[.int .i64 a1] 3 (0,0)) BK7.out hb);clear BK7;have BK7:=n0_;clear n0_;have n0_:=aMk (blk_below (g:=gb8) (o:=.cells #[.int .i64 a2] 3 (0,0)) BK8.out hb);clear BK8;have BK8:=n0_;clear n0_;have BK9:=aMk hbox;clear hg hb hbox)|((with_reducible refine gate_dst (N:=10) rfl ?_);refine bxE (N:=10) (cs:=#[.int .i64 a4]) (t:=3) ?_;intro gb10 hg w10 hbox hb;have n0_:=aMk (below_step HB.out hb);clear HB;have HB:=n0_;clear n0_;have n0_:=aMk (blk_below (g:=gb7) (o:=.cells #[.int .i64 a1] 3 (0,0)) BK7.out hb);clear BK7;have BK7:=n0_;clear n0_;have n0_:=aMk (blk_below (g:=gb8) (o:=.cells #[.int .i64 a2] 3 (0,0)) BK8.out hb);clear BK8;have BK8:=n0_;clear n0_;have n0_:=aMk (blk_below (g:=gb9) (o:=.cells #[.int .i64 a3] 3 (0,0)) BK9.out hb);clear BK9;have BK9:=n0_;clear n0_;have BK10:=aMk hbox;clear hg hb hbox)|((with_reducible refine gate_dst (N:=11) rfl ?_);refine bxE (N:=11) (cs:=#[.int .i64 a5]) (t:=3) ?_;intro gb11 hg w11 hbox hb;have n0_:=aMk (below_step HB.out hb);clear HB;have HB:=n0_;clear n0_;have n0_:=aMk (blk_below (g:=gb7) (o:=.cells #[.int .i64 a1] 3 (0,0)) BK7.out hb);clear BK7;have BK7:=n0_;clear n0_;have n0_:=aMk (blk_below (g:=gb8) (o:=.cells #[.int .i64 a2] 3 (0,0)) BK8.out hb);clear BK8;have BK8:=n0_;clear n0_;have n0_:=aMk (blk_below (g:=gb9) (o:=.cells #[.int .i64 a3] 3 (0,0)) BK9.out hb);clear BK9;have BK9:=n0_;clear n0_;have n0_:=aMk (blk_below (g:=gb10) (o:=.cells #[.int .i64 a4] 3 (0,0)) BK10.out hb);clear BK10;have BK10:=n0_;clear n0_;have BK11:=aMk hbox;clear hg hb hbox)|(have h1_:=H1.out;clear H1;refine (indexFunc71 108 #[.pointer (some ⟨gb7,0,none⟩),.pointer (some ⟨gb8,0,none⟩),.pointer (some ⟨gb9,0,none⟩),.pointer (some ⟨gb10,0,none⟩),.pointer (some ⟨gb11,0,none⟩)] (enters_ Try.func108 (by kernel_rfl) rfl) _ k A0 c0 l0 t _ (fun W x b hbW hx => (impl_find_1.calls gb7 gb8 gb9 gb10 gb11 x.f0 x.f1 x.f2 x.f3 x.f4 x.f5 x.f6 x.f7 x.f8 a1 a2 a3 a4 a5 b W ((hbW.cell (wLt _ _ (bCe BK7.out 0))).trans ((bCe BK7.out 0).trans rfl)) ((hbW.cell (wLt _ _ (bCe BK8.out 0))).trans ((bCe BK8.out 0).trans rfl)) ((hbW.cell (wLt _ _ (bCe BK9.out 0))).trans ((bCe BK9.out 0).trans rfl)) ((hbW.cell (wLt _ _ (bCe BK10.out 0))).trans ((bCe BK10.out 0).trans rfl)) ((hbW.cell (wLt _ _ (bCe BK11.out 0))).trans ((bCe BK11.out 0).trans rfl)) hx).mono fun e w' h => ⟨h.1,below_step hbW h.2⟩) (Kd.C_below HR.out (by repeat first|exact HB.out|apply bwA|apply bwN|apply bw1)) h1_).mono ?_;clear h1_;rintro e w12 ⟨rfl,hb⟩;have n0_:=aMk (bSt hb);clear HB;have HB:=n0_;clear n0_;have n0_:=aMk (bkB BK7.out hb);clear BK7;have BK7:=n0_;clear n0_;have n0_:=aMk (bkB BK8.out hb);clear BK8;have BK8:=n0_;clear n0_;have n0_:=aMk (bkB BK9.out hb);clear BK9;have BK9:=n0_;clear n0_;have n0_:=aMk (bkB BK10.out hb);clear BK10;have BK10:=n0_;clear n0_;have n0_:=aMk (bkB BK11.out hb);clear BK11;have BK11:=n0_;clear n0_;clear hb))
  go_ret2
  exact ⟨rfl,by repeat (first|(with_reducible first|exact HB.out|apply bwA|apply bwN|apply bw1)|exact HB.out)⟩
 ·rw [if_neg c] at h2
  have cb0 : decide (0 ≤ t) = false:=decide_eq_false c
  obtain ⟨u,h3,h4⟩:=Option.bind_eq_some_iff.mp h2
  simp only [Option.some.injEq,Prod.mk.injEq] at h4
  obtain ⟨rfl,rfl⟩:=h4
  have H3:=aMk h3
  clear h2 h3
  go_enter Try.func78,Try.ntmps78
  go_wp2_with (first|((with_reducible refine gate_dst (N:=7) rfl ?_);refine bxE (N:=7) (cs:=#[.int .i64 a1]) (t:=3) ?_;intro gb7 hg w7 hbox hb;have n0_:=aMk (below_step HB.out hb);clear HB;have HB:=n0_;clear n0_;have BK7:=aMk hbox;clear hg hb hbox)|((with_reducible refine gate_dst (N:=8) rfl ?_);refine bxE (N:=8) (cs:=#[.int .i64 a2]) (t:=3) ?_;intro gb8 hg w8 hbox hb;have n0_:=aMk (below_step HB.out hb);clear HB;have HB:=n0_;clear n0_;have n0_:=aMk (blk_below (g:=gb7) (o:=.cells #[.int .i64 a1] 3 (0,0)) BK7.out hb);clear BK7;have BK7:=n0_;clear n0_;have BK8:=aMk hbox;clear hg hb hbox)|((with_reducible refine gate_dst (N:=9) rfl ?_);refine bxE (N:=9) (cs:=#[.int .i64 a3]) (t:=3) ?_;intro gb9 hg w9 hbox hb;have n0_:=aMk (below_step HB.out hb);clear HB;have HB:=n0_;clear n0_;have n0_:=aMk (blk_below (g:=gb7) (o:=.cells #[.int .i64 a1] 3 (0,0)) BK7.out hb);clear BK7;have BK7:=n0_;clear n0_;have n0_:=aMk (blk_below (g:=gb8) (o:=.cells #[.int .i64 a2] 3 (0,0)) BK8.out hb);clear BK8;have BK8:=n0_;clear n0_;have BK9:=aMk hbox;clear hg hb hbox)|((with_reducible refine gate_dst (N:=10) rfl ?_);refine bxE (N:=10) (cs:=#[.int .i64 a4]) (t:=3) ?_;intro gb10 hg w10 hbox hb;have n0_:=aMk (below_step HB.out hb);clear HB;have HB:=n0_;clear n0_;have n0_:=aMk (blk_below (g:=gb7) (o:=.cells #[.int .i64 a1] 3 (0,0)) BK7.out hb);clear BK7;have BK7:=n0_;clear n0_;have n0_:=aMk (blk_below (g:=gb8) (o:=.cells #[.int .i64 a2] 3 (0,0)) BK8.out hb);clear BK8;have BK8:=n0_;clear n0_;have n0_:=aMk (blk_below (g:=gb9) (o:=.cells #[.int .i64 a3] 3 (0,0)) BK9.out hb);clear BK9;have BK9:=n0_;clear n0_;have BK10:=aMk hbox;clear hg hb hbox)|((with_reducible refine gate_dst (N:=11) rfl ?_);refine bxE (N:=11) (cs:=#[.int .i64 a5]) (t:=3) ?_;intro gb11 hg w11 hbox hb;have n0_:=aMk (below_step HB.out hb);clear HB;have HB:=n0_;clear n0_;have n0_:=aMk (blk_below (g:=gb7) (o:=.cells #[.int .i64 a1] 3 (0,0)) BK7.out hb);clear BK7;have BK7:=n0_;clear n0_;have n0_:=aMk (blk_below (g:=gb8) (o:=.cells #[.int .i64 a2] 3 (0,0)) BK8.out hb);clear BK8;have BK8:=n0_;clear n0_;have n0_:=aMk (blk_below (g:=gb9) (o:=.cells #[.int .i64 a3] 3 (0,0)) BK9.out hb);clear BK9;have BK9:=n0_;clear n0_;have n0_:=aMk (blk_below (g:=gb10) (o:=.cells #[.int .i64 a4] 3 (0,0)) BK10.out hb);clear BK10;have BK10:=n0_;clear n0_;have BK11:=aMk hbox;clear hg hb hbox)|(have h1_:=H1.out;clear H1;refine (indexFunc71 108 #[.pointer (some ⟨gb7,0,none⟩),.pointer (some ⟨gb8,0,none⟩),.pointer (some ⟨gb9,0,none⟩),.pointer (some ⟨gb10,0,none⟩),.pointer (some ⟨gb11,0,none⟩)] (enters_ Try.func108 (by kernel_rfl) rfl) _ k A0 c0 l0 t _ (fun W x b hbW hx => (impl_find_1.calls gb7 gb8 gb9 gb10 gb11 x.f0 x.f1 x.f2 x.f3 x.f4 x.f5 x.f6 x.f7 x.f8 a1 a2 a3 a4 a5 b W ((hbW.cell (wLt _ _ (bCe BK7.out 0))).trans ((bCe BK7.out 0).trans rfl)) ((hbW.cell (wLt _ _ (bCe BK8.out 0))).trans ((bCe BK8.out 0).trans rfl)) ((hbW.cell (wLt _ _ (bCe BK9.out 0))).trans ((bCe BK9.out 0).trans rfl)) ((hbW.cell (wLt _ _ (bCe BK10.out 0))).trans ((bCe BK10.out 0).trans rfl)) ((hbW.cell (wLt _ _ (bCe BK11.out 0))).trans ((bCe BK11.out 0).trans rfl)) hx).mono fun e w' h => ⟨h.1,below_step hbW h.2⟩) (Kd.C_below HR.out (by repeat first|exact HB.out|apply bwA|apply bwN|apply bw1)) h1_).mono ?_;clear h1_;rintro e w12 ⟨rfl,hb⟩;have n0_:=aMk (bSt hb);clear HB;have HB:=n0_;clear n0_;have n0_:=aMk (bkB BK7.out hb);clear BK7;have BK7:=n0_;clear n0_;have n0_:=aMk (bkB BK8.out hb);clear BK8;have BK8:=n0_;clear n0_;have n0_:=aMk (bkB BK9.out hb);clear BK9;have BK9:=n0_;clear n0_;have n0_:=aMk (bkB BK10.out hb);clear BK10;have BK10:=n0_;clear n0_;have n0_:=aMk (bkB BK11.out hb);clear BK11;have BK11:=n0_;clear n0_;clear hb)|(have h1_:=H3.out;clear H3;refine (indexFunc71 110 #[.pointer (some ⟨gb7,0,none⟩),.pointer (some ⟨gb10,0,none⟩),.pointer (some ⟨gb11,0,none⟩),.pointer (some ⟨gb8,0,none⟩),.pointer (some ⟨gb9,0,none⟩)] (enters_ Try.func110 (by kernel_rfl) rfl) _ k A0 c0 l0 u _ (fun W x b hbW hx => (impl_find_2.calls gb7 gb10 gb11 gb8 gb9 x.f0 x.f1 x.f2 x.f3 x.f4 x.f5 x.f6 x.f7 x.f8 a1 a4 a5 a2 a3 b W ((hbW.cell (wLt _ _ (bCe BK7.out 0))).trans ((bCe BK7.out 0).trans rfl)) ((hbW.cell (wLt _ _ (bCe BK10.out 0))).trans ((bCe BK10.out 0).trans rfl)) ((hbW.cell (wLt _ _ (bCe BK11.out 0))).trans ((bCe BK11.out 0).trans rfl)) ((hbW.cell (wLt _ _ (bCe BK8.out 0))).trans ((bCe BK8.out 0).trans rfl)) ((hbW.cell (wLt _ _ (bCe BK9.out 0))).trans ((bCe BK9.out 0).trans rfl)) hx).mono fun e w' h => ⟨h.1,below_step hbW h.2⟩) (Kd.C_below HR.out (by repeat first|exact HB.out|apply bwA|apply bwN|apply bw1)) h1_).mono ?_;clear h1_;rintro e w13 ⟨rfl,hb⟩;have n0_:=aMk (bSt hb);clear HB;have HB:=n0_;clear n0_;have n0_:=aMk (bkB BK7.out hb);clear BK7;have BK7:=n0_;clear n0_;have n0_:=aMk (bkB BK8.out hb);clear BK8;have BK8:=n0_;clear n0_;have n0_:=aMk (bkB BK9.out hb);clear BK9;have BK9:=n0_;clear n0_;have n0_:=aMk (bkB BK10.out hb);clear BK10;have BK10:=n0_;clear n0_;have n0_:=aMk (bkB BK11.out hb);clear BK11;have BK11:=n0_;clear n0_;clear hb))
  go_ret2
  exact ⟨rfl,by repeat (first|(with_reducible first|exact HB.out|apply bwA|apply bwN|apply bw1)|exact HB.out)⟩
end
section
/-! ### impl_FlowsOK: function 29 -/
mutual
def impl_FlowsOK.l0 : Nat → List (S71) → Int → Int → Option (Bool)
 | 0,_,_,_ => none
 | k + 1,x0,x11,x12 => if x12 < x11 then (if 0 ≤ x12 then (if x12 < (x0.length : Int) then ((impl_Flow_endsOKAt.f ((rd_T71 x0 x12).f0) ((rd_T71 x0 x12).f1) ((rd_T71 x0 x12).f2) ((rd_T71 x0 x12).f3) ((rd_T71 x0 x12).f4) ((rd_T71 x0 x12).f5) ((rd_T71 x0 x12).f6) ((rd_T71 x0 x12).f7) ((rd_T71 x0 x12).f8)).bind fun t262 => (if t262 = true then ((impl_within.f ((rd_T71 x0 x12).f6) 1 3).bind fun t264 => (if t264 = true then ((impl_within.f ((rd_T71 x0 x12).f7) 0 100100).bind fun t266 => (impl_FlowsOK.j1 k x0 x12 x11 x12 (!t266))) else (impl_FlowsOK.j1 k x0 x12 x11 x12 true))) else (impl_FlowsOK.j1 k x0 x12 x11 x12 true))) else (none)) else (none)) else (some true)
def impl_FlowsOK.j1 : Nat → List (S71) → Int → Int → Int → Bool → Option (Bool)
 | 0,_,_,_,_,_ => none
 | k + 1,x0,x3,x11,x12,x36 => if x36 = true then (some false) else (if 0 ≤ x3 then (if x3 ≤ (x0.length : Int) then (if x3 < (x0.length : Int) then ((impl_find.f k (x0.take (x3 : Int).toNat) ((rd_T71 x0 x3).f0) ((rd_T71 x0 x3).f2) ((rd_T71 x0 x3).f3) ((rd_T71 x0 x3).f4) ((rd_T71 x0 x3).f5)).bind fun bt276 => (if bt276.1 ≥ 0 then (some false) else (impl_FlowsOK.l0 k x0 x11 (wrap64 (x12 + 1))))) else (none)) else (none)) else (none))
end
def impl_FlowsOK.f (k : Nat) (l0 : List (S71)) : Option (Bool):=if (l0.length : Int) > 8 then (some false) else (impl_FlowsOK.l0 k l0 (l0.length : Int) 0)
theorem impl_FlowsOK.mono_l : ∀ k,(∀ y0 y1 y2,LeO (impl_FlowsOK.l0 k y0 y1 y2) (impl_FlowsOK.l0 (k + 1) y0 y1 y2)) ∧ (∀ y0 y1 y2 y3 y4,LeO (impl_FlowsOK.j1 k y0 y1 y2 y3 y4) (impl_FlowsOK.j1 (k + 1) y0 y1 y2 y3 y4))
 | 0 => ⟨fun _ _ _ r h => by simp [impl_FlowsOK.l0] at h,fun _ _ _ _ _ r h => by simp [impl_FlowsOK.j1] at h⟩
 | k + 1 => by
  obtain ⟨ih0,ih1⟩:=impl_FlowsOK.mono_l k
  refine ⟨?_,?_⟩
  ·intro y0 y1 y2
   unfold impl_FlowsOK.l0
   repeat' first
   | (with_reducible exact ih0 _ _ _)
   | (with_reducible exact ih1 _ _ _ _ _)
   | (with_reducible exact impl_find.mono ..)
   | (with_reducible exact LeO.refl _)
   | (with_reducible exact LeO.none _)
   | (with_reducible refine LeO.ite ?_ ?_)
   | (with_reducible refine LeO.bind ?_ (fun _ => ?_))
   | exact ih0 _ _ _
   | exact ih1 _ _ _ _ _
   | exact impl_find.mono ..
   | exact LeO.none _
   | refine LeO.ite ?_ ?_
   | refine LeO.bind ?_ (fun _ => ?_)
  ·intro y0 y1 y2 y3 y4
   unfold impl_FlowsOK.j1
   repeat' first
   | (with_reducible exact ih0 _ _ _)
   | (with_reducible exact ih1 _ _ _ _ _)
   | (with_reducible exact impl_find.mono ..)
   | (with_reducible exact LeO.refl _)
   | (with_reducible exact LeO.none _)
   | (with_reducible refine LeO.ite ?_ ?_)
   | (with_reducible refine LeO.bind ?_ (fun _ => ?_))
   | exact ih0 _ _ _
   | exact ih1 _ _ _ _ _
   | exact impl_find.mono ..
   | exact LeO.none _
   | refine LeO.ite ?_ ?_
   | refine LeO.bind ?_ (fun _ => ?_)
theorem impl_FlowsOK.mono : ∀ a0 k,LeO (impl_FlowsOK.f k a0) (impl_FlowsOK.f (k + 1) a0):=by
 intro a0 k
 obtain ⟨ih0,ih1⟩:=impl_FlowsOK.mono_l k
 unfold impl_FlowsOK.f
 repeat' first
   | (with_reducible exact ih0 _ _ _)
   | (with_reducible exact ih1 _ _ _ _ _)
   | (with_reducible exact impl_find.mono ..)
   | (with_reducible exact LeO.refl _)
   | (with_reducible exact LeO.none _)
   | (with_reducible refine LeO.ite ?_ ?_)
   | (with_reducible refine LeO.bind ?_ (fun _ => ?_))
   | exact ih0 _ _ _
   | exact ih1 _ _ _ _ _
   | exact impl_find.mono ..
   | exact LeO.none _
   | refine LeO.ite ?_ ?_
   | refine LeO.bind ?_ (fun _ => ?_)
def impl_FlowsOK.T9 : Bool × List (List Nat × List Nat):=(true,[([],[]),([],[]),([0,1],[0,1]),([],[]),([3],[3]),([4],[4]),([5],[5]),([],[]),([7],[7]),([8],[8]),([9],[9]),([],[]),([11],[11]),([12],[12]),([13],[13]),([],[]),([15],[15]),([16],[16]),([17],[17]),([],[]),([19],[19]),([20],[20]),([21],[21]),([2,6,10,14,18,22],[2,6,10,14,18,22]),([23],[23]),([24],[24]),([24],[24]),([25,23,0,1,2,3,4,5,6,7,8,9,10,11,12,13,14,15,16,17,18,19,20,21,22,23,24,25],[25]),([26,27,0,1,2,3,4,5,6,7,8,9,10,11,12,13,14,15,16,17,18,19,20,21,22,23,24,25,26,27],[26])])
def impl_FlowsOK.B9 : List Nat:=[0,0,3,0,8,24,56,0,128,384,896,0,2048,6144,14336,0,32768,98304,229376,0,524288,1572864,3670016,8388607,16777215,33554431,33554431,67108863,268435455]
theorem impl_FlowsOK.tab9 : rtab .any (opsOf Try.f29 9) = impl_FlowsOK.T9:=by kernel_rfl
theorem impl_FlowsOK.bits9 : waitsOk impl_FlowsOK.T9.2 impl_FlowsOK.B9 = true:=by kernel_rfl
set_option maxHeartbeats 8000000 in
set_option maxRecDepth 100000 in
theorem impl_FlowsOK.calls (k : Nat) (A0 : Option Addr) (c0 : Nat) (l0 : List (S71)) (r : Bool) (w : World) (hr0 : Kd.C k71 w A0 l0.length l0) (hc0 : l0.length ≤ c0) (h : impl_FlowsOK.f k l0 = some r) :
  Calls Try.prog 29 #[.slice A0 l0.length c0] w fun e w' => e = .returned (.bool r) ∧ Below w.heap.size w w':=by
 have HR0:=aMk hr0
 have HC0:=aMk hc0
 clear hr0 hc0
 have HB:=aMk (Below.refl w.heap.size w)
 have H : (if (l0.length : Int) > 8 then (some false) else (impl_FlowsOK.l0 k l0 (l0.length : Int) 0)) = some r:=h
 clear h
 by_cases c2 : (l0.length : Int) > 8
 ·rw [if_pos c2] at H
  have c2b0 : decide (8 < (l0.length : Int)) = true:=decide_eq_true c2
  have c2b1 : decide (8 < l0.length) = true:=decide_eq_true (by omega)
  clear c2
  obtain rfl:=Option.some.inj H
  go_enter Try.func29,Try.ntmps29
  go_wp2
  go_ret
  exact ⟨eRf,by repeat (first|(with_reducible first|exact HB.out|apply bwA|apply bwN|apply bw1)|exact HB.out)⟩
 ·rw [if_neg c2] at H
  have c2b0 : decide (8 < (l0.length : Int)) = false:=decide_eq_false c2
  have c2b1 : decide (8 < l0.length) = false:=decide_eq_false (by omega)
  clear c2
  have H':=aMk H
  clear H
  go_enter Try.func29,Try.ntmps29
  go_wp2
  go_loopg [12] k (fun kq v12 w' => ∃ (x12_1 : Int),v12 = .int .i64 x12_1 ∧ Aside0 (impl_FlowsOK.l0 kq l0 (l0.length : Int) x12_1 = some r) ∧ Aside0 (kq ≤ k) ∧ Aside0 (Below w.heap.size w w'))
  case atStart => exact ⟨(0),(by first | rfl|(simp;done)|(simp [*];done)|(simp [ne_nil_b];done)|(simp [ne_nil_b, *];done)),H',⟨Nat.le_refl _⟩,⟨by repeat (first|(with_reducible first|exact HB.out|apply bwA|apply bwN|apply bw1)|exact HB.out)⟩⟩
  case round =>
   clear H'
   try clear c2
   try clear c2b0
   try clear c2b1
   try clear p2
   obtain ⟨x12_1,rfl,HA,HK1,HB⟩:=hrel
   cases gk with
   | zero => exact absurd HA.out (by simp [impl_FlowsOK.l0])
   | succ k1 =>
    have H:=HA.out
    clear HA
    simp only [impl_FlowsOK.l0] at H
    by_cases c3 : x12_1 < (l0.length : Int)
    ·rw [if_pos c3] at H
     have c3b0 : decide (x12_1 < (l0.length : Int)) = true:=decide_eq_true c3
     clear c3
     by_cases c4 : 0 ≤ x12_1
     ·rw [if_pos c4] at H
      have c4b0 : decide (0 ≤ x12_1) = true:=decide_eq_true c4
      clear c4
      by_cases c5 : x12_1 < (l0.length : Int)
      ·rw [if_pos c5] at H
       have c5b0 : decide (x12_1 < (l0.length : Int)) = true:=decide_eq_true c5
       clear c5
       have HC6:=aMk H
       clear H
       have p260 : 0 ≤ (x12_1 : Int):=of_decide_eq_true (by first|(with_reducible assumption) | assumption)
       have q260 : x12_1 < (l0.length : Int):=of_decide_eq_true (by first|(with_reducible assumption) | assumption)
       obtain ⟨ad260,e260,hx260_0,hx260_1,hx260_2,hx260_3,hx260_4,hx260_5,hx260_6,hx260_7,hx260_8⟩:=at_T71 HR0.out x12_1 p260 q260
       cases e260
       replace hx260_0:=bXc HB.out hx260_0
       replace hx260_1:=bXc HB.out hx260_1
       replace hx260_2:=bXc HB.out hx260_2
       replace hx260_3:=bXc HB.out hx260_3
       replace hx260_4:=bXc HB.out hx260_4
       replace hx260_5:=bXc HB.out hx260_5
       replace hx260_6:=bXc HB.out hx260_6
       replace hx260_7:=bXc HB.out hx260_7
       replace hx260_8:=bXc HB.out hx260_8
       replace p260:=eq_true p260
       replace q260:=eq_true q260
       go_upto_region 7 with (fail)
       go_cut [36] (fun v36 wc => ∃ (kq : Nat) (x36_5 : Bool),v36 = .bool x36_5 ∧ Aside0 (impl_FlowsOK.j1 kq l0 x12_1 (l0.length : Int) x12_1 x36_5 = some r) ∧ Aside0 (kq ≤ k1) ∧ Aside0 (Below w.heap.size w wc))
       case first =>
        have H:=HC6.out
        clear HC6
        replace H:=Option.bind_eq_some_iff.mp H
        obtain ⟨t262,A70,H⟩:=H
        replace H : (if t262 = true then ((impl_within.f ((rd_T71 l0 x12_1).f6) 1 3).bind fun t264 => (if t264 = true then ((impl_within.f ((rd_T71 l0 x12_1).f7) 0 100100).bind fun t266 => (impl_FlowsOK.j1 k1 l0 x12_1 (l0.length : Int) x12_1 (!t266))) else (impl_FlowsOK.j1 k1 l0 x12_1 (l0.length : Int) x12_1 true))) else (impl_FlowsOK.j1 k1 l0 x12_1 (l0.length : Int) x12_1 true)) = some r:=H
        have A7:=aMk A70
        clear A70
        by_cases c8 : t262 = true
        ·subst c8
         have H1 : ((impl_within.f ((rd_T71 l0 x12_1).f6) 1 3).bind fun t264 => (if t264 = true then ((impl_within.f ((rd_T71 l0 x12_1).f7) 0 100100).bind fun t266 => (impl_FlowsOK.j1 k1 l0 x12_1 (l0.length : Int) x12_1 (!t266))) else (impl_FlowsOK.j1 k1 l0 x12_1 (l0.length : Int) x12_1 true))) = some r:=by rw [if_pos rfl] at H;exact H
         clear H
         have H:=H1
         clear H1
         replace H:=Option.bind_eq_some_iff.mp H
         obtain ⟨t264,A90,H⟩:=H
         replace H : (if t264 = true then ((impl_within.f ((rd_T71 l0 x12_1).f7) 0 100100).bind fun t266 => (impl_FlowsOK.j1 k1 l0 x12_1 (l0.length : Int) x12_1 (!t266))) else (impl_FlowsOK.j1 k1 l0 x12_1 (l0.length : Int) x12_1 true)) = some r:=H
         have A9:=aMk A90
         clear A90
         by_cases c10 : t264 = true
         ·subst c10
          have H1 : ((impl_within.f ((rd_T71 l0 x12_1).f7) 0 100100).bind fun t266 => (impl_FlowsOK.j1 k1 l0 x12_1 (l0.length : Int) x12_1 (!t266))) = some r:=by rw [if_pos rfl] at H;exact H
          clear H
          have H:=H1
          clear H1
          replace H:=Option.bind_eq_some_iff.mp H
          obtain ⟨t266,A110,H⟩:=H
          replace H : (impl_FlowsOK.j1 k1 l0 x12_1 (l0.length : Int) x12_1 (!t266)) = some r:=H
          have A11:=aMk A110
          clear A110
          have H':=aMk H
          clear H
          have p261 : 0 ≤ (x12_1 : Int):=of_decide_eq_true (by first|(with_reducible assumption) | assumption)
          have q261 : x12_1 < (l0.length : Int):=of_decide_eq_true (by first|(with_reducible assumption) | assumption)
          obtain ⟨ad261,e261,hx261_0,hx261_1,hx261_2,hx261_3,hx261_4,hx261_5,hx261_6,hx261_7,hx261_8⟩:=at_T71 HR0.out x12_1 p261 q261
          obtain rfl : ad260 = ad261:=(by injection e261)
          replace hx261_0:=bXc HB.out hx261_0
          replace hx261_1:=bXc HB.out hx261_1
          replace hx261_2:=bXc HB.out hx261_2
          replace hx261_3:=bXc HB.out hx261_3
          replace hx261_4:=bXc HB.out hx261_4
          replace hx261_5:=bXc HB.out hx261_5
          replace hx261_6:=bXc HB.out hx261_6
          replace hx261_7:=bXc HB.out hx261_7
          replace hx261_8:=bXc HB.out hx261_8
          replace p261:=eq_true p261
          replace q261:=eq_true q261
          go_wp2_with (first|((with_reducible refine gate_callee (f:=77) rfl ?_);refine gLs 19 Try.func77 #[.pointer (some (ad260.add ((x12_1 : Int).toNat * 9)))] ?_;(with_reducible refine (impl_Flow_endsOKAt.calls ad260 ((x12_1 : Int).toNat * 9) ((rd_T71 l0 x12_1).f0) ((rd_T71 l0 x12_1).f1) ((rd_T71 l0 x12_1).f2) ((rd_T71 l0 x12_1).f3) ((rd_T71 l0 x12_1).f4) ((rd_T71 l0 x12_1).f5) ((rd_T71 l0 x12_1).f6) ((rd_T71 l0 x12_1).f7) ((rd_T71 l0 x12_1).f8) true _ hx260_0 hx260_1 hx260_2 hx260_3 hx260_4 hx260_5 hx260_6 hx260_7 hx260_8 A7.out).mono ?_);rintro e w12 ⟨rfl,hb⟩;refine ⟨_,rfl,?_⟩;have n0_:=aMk (bSt hb);clear HB;have HB:=n0_;clear n0_;(try clear hb);(try clear hb2);(try clear hk);(try clear hi);have p263 : 0 ≤ (x12_1 : Int):=of_decide_eq_true (by first|(with_reducible assumption) | assumption);have q263 : x12_1 < (l0.length : Int):=of_decide_eq_true (by first|(with_reducible assumption) | assumption);obtain ⟨ad263,e263,hx263_0,hx263_1,hx263_2,hx263_3,hx263_4,hx263_5,hx263_6,hx263_7,hx263_8⟩:=at_T71 HR0.out x12_1 p263 q263;obtain rfl : ad260 = ad263:=(by injection e263);replace hx263_0:=bXc HB.out hx263_0;replace hx263_1:=bXc HB.out hx263_1;replace hx263_2:=bXc HB.out hx263_2;replace hx263_3:=bXc HB.out hx263_3;replace hx263_4:=bXc HB.out hx263_4;replace hx263_5:=bXc HB.out hx263_5;replace hx263_6:=bXc HB.out hx263_6;replace hx263_7:=bXc HB.out hx263_7;replace hx263_8:=bXc HB.out hx263_8;replace p263:=eq_true p263;replace q263:=eq_true q263)|(go_at_call 62;(with_reducible refine (impl_within.calls ((rd_T71 l0 x12_1).f6) 1 3 true _ A9.out).mono ?_);rintro e w' ⟨rfl,⟨nd,rfl⟩⟩;have p265 : 0 ≤ (x12_1 : Int):=of_decide_eq_true (by first|(with_reducible assumption) | assumption);have q265 : x12_1 < (l0.length : Int):=of_decide_eq_true (by first|(with_reducible assumption) | assumption);obtain ⟨ad265,e265,hx265_0,hx265_1,hx265_2,hx265_3,hx265_4,hx265_5,hx265_6,hx265_7,hx265_8⟩:=at_T71 HR0.out x12_1 p265 q265;obtain rfl : ad260 = ad265:=(by injection e265);replace hx265_0:=bXc HB.out hx265_0;replace hx265_1:=bXc HB.out hx265_1;replace hx265_2:=bXc HB.out hx265_2;replace hx265_3:=bXc HB.out hx265_3;replace hx265_4:=bXc HB.out hx265_4;replace hx265_5:=bXc HB.out hx265_5;replace hx265_6:=bXc HB.out hx265_6;replace hx265_7:=bXc HB.out hx265_7;replace hx265_8:=bXc HB.out hx265_8;replace p265:=eq_true p265;replace q265:=eq_true q265)|(go_at_call 62;(with_reducible refine (impl_within.calls ((rd_T71 l0 x12_1).f7) 0 100100 t266 _ A11.out).mono ?_);rintro e w' ⟨rfl,⟨nd,rfl⟩⟩))
          go_meet
          case rel => exact ⟨_,(!t266),(by first | rfl|(simp;done)|(simp [*];done)|(simp [ne_nil_b];done)|(simp [ne_nil_b, *];done)),H',⟨by have:=HK1.out;first | omega|exact Nat.le_refl _⟩,⟨by repeat (first|(with_reducible first|exact HB.out|apply bwA|apply bwN|apply bw1)|exact HB.out)⟩⟩
         ·replace c10:=Bool.eq_false_iff.mpr c10
          subst c10
          have H1 : (impl_FlowsOK.j1 k1 l0 x12_1 (l0.length : Int) x12_1 true) = some r:=by rw [if_neg (show ¬ (false = true) by decide)] at H;exact H
          clear H
          have H:=H1
          clear H1
          have H':=aMk H
          clear H
          have p261 : 0 ≤ (x12_1 : Int):=of_decide_eq_true (by first|(with_reducible assumption) | assumption)
          have q261 : x12_1 < (l0.length : Int):=of_decide_eq_true (by first|(with_reducible assumption) | assumption)
          obtain ⟨ad261,e261,hx261_0,hx261_1,hx261_2,hx261_3,hx261_4,hx261_5,hx261_6,hx261_7,hx261_8⟩:=at_T71 HR0.out x12_1 p261 q261
          obtain rfl : ad260 = ad261:=(by injection e261)
          replace hx261_0:=bXc HB.out hx261_0
          replace hx261_1:=bXc HB.out hx261_1
          replace hx261_2:=bXc HB.out hx261_2
          replace hx261_3:=bXc HB.out hx261_3
          replace hx261_4:=bXc HB.out hx261_4
          replace hx261_5:=bXc HB.out hx261_5
          replace hx261_6:=bXc HB.out hx261_6
          replace hx261_7:=bXc HB.out hx261_7
          replace hx261_8:=bXc HB.out hx261_8
          replace p261:=eq_true p261
          replace q261:=eq_true q261
          go_wp2_with (first|((with_reducible refine gate_callee (f:=77) rfl ?_);refine gLs 19 Try.func77 #[.pointer (some (ad260.add ((x12_1 : Int).toNat * 9)))] ?_;(with_reducible refine (impl_Flow_endsOKAt.calls ad260 ((x12_1 : Int).toNat * 9) ((rd_T71 l0 x12_1).f0) ((rd_T71 l0 x12_1).f1) ((rd_T71 l0 x12_1).f2) ((rd_T71 l0 x12_1).f3) ((rd_T71 l0 x12_1).f4) ((rd_T71 l0 x12_1).f5) ((rd_T71 l0 x12_1).f6) ((rd_T71 l0 x12_1).f7) ((rd_T71 l0 x12_1).f8) true _ hx260_0 hx260_1 hx260_2 hx260_3 hx260_4 hx260_5 hx260_6 hx260_7 hx260_8 A7.out).mono ?_);rintro e w13 ⟨rfl,hb⟩;refine ⟨_,rfl,?_⟩;have n0_:=aMk (bSt hb);clear HB;have HB:=n0_;clear n0_;(try clear hb);(try clear hb2);(try clear hk);(try clear hi);have p263 : 0 ≤ (x12_1 : Int):=of_decide_eq_true (by first|(with_reducible assumption) | assumption);have q263 : x12_1 < (l0.length : Int):=of_decide_eq_true (by first|(with_reducible assumption) | assumption);obtain ⟨ad263,e263,hx263_0,hx263_1,hx263_2,hx263_3,hx263_4,hx263_5,hx263_6,hx263_7,hx263_8⟩:=at_T71 HR0.out x12_1 p263 q263;obtain rfl : ad260 = ad263:=(by injection e263);replace hx263_0:=bXc HB.out hx263_0;replace hx263_1:=bXc HB.out hx263_1;replace hx263_2:=bXc HB.out hx263_2;replace hx263_3:=bXc HB.out hx263_3;replace hx263_4:=bXc HB.out hx263_4;replace hx263_5:=bXc HB.out hx263_5;replace hx263_6:=bXc HB.out hx263_6;replace hx263_7:=bXc HB.out hx263_7;replace hx263_8:=bXc HB.out hx263_8;replace p263:=eq_true p263;replace q263:=eq_true q263)|(go_at_call 62;(with_reducible refine (impl_within.calls ((rd_T71 l0 x12_1).f6) 1 3 false _ A9.out).mono ?_);rintro e w' ⟨rfl,⟨nd,rfl⟩⟩))
          go_meet
          case rel => exact ⟨_,(true),(by first | rfl|(simp;done)|(simp [*];done)|(simp [ne_nil_b];done)|(simp [ne_nil_b, *];done)),H',⟨by have:=HK1.out;first | omega|exact Nat.le_refl _⟩,⟨by repeat (first|(with_reducible first|exact HB.out|apply bwA|apply bwN|apply bw1)|exact HB.out)⟩⟩
        ·replace c8:=Bool.eq_false_iff.mpr c8
         subst c8
         have H1 : (impl_FlowsOK.j1 k1 l0 x12_1 (l0.length : Int) x12_1 true) = some r:=by rw [if_neg (show ¬ (false = true) by decide)] at H;exact H
         clear H
         have H:=H1
         clear H1
         have H':=aMk H
         clear H
         have p261 : 0 ≤ (x12_1 : Int):=of_decide_eq_true (by first|(with_reducible assumption) | assumption)
         have q261 : x12_1 < (l0.length : Int):=of_decide_eq_true (by first|(with_reducible assumption) | assumption)
         obtain ⟨ad261,e261,hx261_0,hx261_1,hx261_2,hx261_3,hx261_4,hx261_5,hx261_6,hx261_7,hx261_8⟩:=at_T71 HR0.out x12_1 p261 q261
         obtain rfl : ad260 = ad261:=(by injection e261)
         replace hx261_0:=bXc HB.out hx261_0
         replace hx261_1:=bXc HB.out hx261_1
         replace hx261_2:=bXc HB.out hx261_2
         replace hx261_3:=bXc HB.out hx261_3
         replace hx261_4:=bXc HB.out hx261_4
         replace hx261_5:=bXc HB.out hx261_5
         replace hx261_6:=bXc HB.out hx261_6
         replace hx261_7:=bXc HB.out hx261_7
         replace hx261_8:=bXc HB.out hx261_8
         replace p261:=eq_true p261
         replace q261:=eq_true q261
         go_wp2_with (first|((with_reducible refine gate_callee (f:=77) rfl ?_);refine gLs 19 Try.func77 #[.pointer (some (ad260.add ((x12_1 : Int).toNat * 9)))] ?_;(with_reducible refine (impl_Flow_endsOKAt.calls ad260 ((x12_1 : Int).toNat * 9) ((rd_T71 l0 x12_1).f0) ((rd_T71 l0 x12_1).f1) ((rd_T71 l0 x12_1).f2) ((rd_T71 l0 x12_1).f3) ((rd_T71 l0 x12_1).f4) ((rd_T71 l0 x12_1).f5) ((rd_T71 l0 x12_1).f6) ((rd_T71 l0 x12_1).f7) ((rd_T71 l0 x12_1).f8) false _ hx260_0 hx260_1 hx260_2 hx260_3 hx260_4 hx260_5 hx260_6 hx260_7 hx260_8 A7.out).mono ?_);rintro e w14 ⟨rfl,hb⟩;refine ⟨_,rfl,?_⟩;have n0_:=aMk (bSt hb);clear HB;have HB:=n0_;clear n0_;(try clear hb);(try clear hb2);(try clear hk);(try clear hi)))
         go_meet
         case rel => exact ⟨_,(true),(by first | rfl|(simp;done)|(simp [*];done)|(simp [ne_nil_b];done)|(simp [ne_nil_b, *];done)),H',⟨by have:=HK1.out;first | omega|exact Nat.le_refl _⟩,⟨by repeat (first|(with_reducible first|exact HB.out|apply bwA|apply bwN|apply bw1)|exact HB.out)⟩⟩
       case rest =>
        clear HC6
        try clear c1
        try clear c2
        try clear c2b0
        try clear c2b1
        try clear p2
        try clear q2
        try clear hx2
        try clear c3
        try clear c3b0
        try clear c4
        try clear c4b0
        try clear c5
        try clear c5b0
        try clear c8
        try clear c10
        try clear hx260_0
        try clear hx260_1
        try clear hx260_2
        try clear hx260_3
        try clear hx260_4
        try clear hx260_5
        try clear hx260_6
        try clear hx260_7
        try clear hx260_8
        try clear hx261_0
        try clear hx261_1
        try clear hx261_2
        try clear hx261_3
        try clear hx261_4
        try clear hx261_5
        try clear hx261_6
        try clear hx261_7
        try clear hx261_8
        try clear hx263_0
        try clear hx263_1
        try clear hx263_2
        try clear hx263_3
        try clear hx263_4
        try clear hx263_5
        try clear hx263_6
        try clear hx263_7
        try clear hx263_8
        try clear hx265_0
        try clear hx265_1
        try clear hx265_2
        try clear hx265_3
        try clear hx265_4
        try clear hx265_5
        try clear hx265_6
        try clear hx265_7
        try clear hx265_8
        try clear p2
        try clear p260
        try clear p261
        try clear p263
        try clear p265
        try clear q260
        try clear q261
        try clear q263
        try clear q265
        obtain ⟨kq,x36_5,rfl,HA,HJ5,HB⟩:=hcut
        cases kq with
        | zero => exact absurd HA.out (by simp [impl_FlowsOK.j1])
        | succ kj5 =>
         have H:=HA.out
         clear HA
         simp only [impl_FlowsOK.j1] at H
         by_cases c15 : x36_5 = true
         ·subst c15
          have H1 : (some false) = some r:=by rw [if_pos rfl] at H;exact H
          clear H
          have H:=H1
          clear H1
          obtain rfl:=Option.some.inj H
          go_wp2
          go_ret
          exact ⟨eRf,by repeat (first|(with_reducible first|exact HB.out|apply bwA|apply bwN|apply bw1)|exact HB.out)⟩
         ·replace c15:=Bool.eq_false_iff.mpr c15
          subst c15
          have H1 : (if 0 ≤ x12_1 then (if x12_1 ≤ (l0.length : Int) then (if x12_1 < (l0.length : Int) then ((impl_find.f kj5 (l0.take (x12_1 : Int).toNat) ((rd_T71 l0 x12_1).f0) ((rd_T71 l0 x12_1).f2) ((rd_T71 l0 x12_1).f3) ((rd_T71 l0 x12_1).f4) ((rd_T71 l0 x12_1).f5)).bind fun bt276 => (if bt276.1 ≥ 0 then (some false) else (impl_FlowsOK.l0 kj5 l0 (l0.length : Int) (wrap64 (x12_1 + 1))))) else (none)) else (none)) else (none)) = some r:=by rw [if_neg (show ¬ (false = true) by decide)] at H;exact H
          clear H
          have H:=H1
          clear H1
          by_cases c16 : 0 ≤ x12_1
          ·rw [if_pos c16] at H
           have c16b0:=eq_true c16
           have c16b1 : decide (0 ≤ x12_1) = true:=decide_eq_true c16
           clear c16
           by_cases c17 : x12_1 ≤ (l0.length : Int)
           ·rw [if_pos c17] at H
            have c17b0:=eq_true c17
            have c17b1 : decide (x12_1 ≤ (l0.length : Int)) = true:=decide_eq_true c17
            clear c17
            obtain ⟨y267,hy267⟩ : ∃ y_ : List (S71),y_ = (l0.take (x12_1 : Int).toNat):=⟨_,rfl⟩
            replace H : (if x12_1 < (l0.length : Int) then ((impl_find.f kj5 y267 ((rd_T71 l0 x12_1).f0) ((rd_T71 l0 x12_1).f2) ((rd_T71 l0 x12_1).f3) ((rd_T71 l0 x12_1).f4) ((rd_T71 l0 x12_1).f5)).bind fun bt276 => (if bt276.1 ≥ 0 then (some false) else (impl_FlowsOK.l0 kj5 l0 (l0.length : Int) (wrap64 (x12_1 + 1))))) else (none)) = some r:=by first|(rw [hy267];with_reducible exact H)|(have H2_:=(Option.bind_some _ _).symm.trans H;rw [hy267];with_reducible exact H2_)|(have H2_:=(Option.bind_some _ _).symm.trans H;with_reducible exact H2_) | with_reducible exact H|(rw [hy267];exact H)|exact H
            have Ny267:=aMk hy267
            clear hy267
            by_cases c18 : x12_1 < (l0.length : Int)
            ·rw [if_pos c18] at H
             have c18b0 : decide (x12_1 < (l0.length : Int)) = true:=decide_eq_true c18
             clear c18
             replace H:=Option.bind_eq_some_iff.mp H
             obtain ⟨⟨t276,t277⟩,A190,H⟩:=H
             replace H : (if t276 ≥ 0 then (some false) else (impl_FlowsOK.l0 kj5 l0 (l0.length : Int) (wrap64 (x12_1 + 1)))) = some r:=H
             have A19:=aMk A190
             clear A190
             by_cases c20 : t276 ≥ 0
             ·rw [if_pos c20] at H
              have c20b0 : decide (0 ≤ t276) = true:=decide_eq_true c20
              clear c20
              obtain rfl:=Option.some.inj H
              try go_wp2
              have n0_:=aMk (bw1 HB.out)
              clear HB
              have HB:=n0_
              clear n0_
              have q22 : (x12_1 : Int) ≤ ((l0.length : Int) : Int):=of_decide_eq_true (by first|(with_reducible assumption) | assumption)
              obtain ⟨i022,hi022,_,hsz22,_⟩:=info_parts info71
              have hroom22 : l0.length ≤ c0:=HC0.out
              have hC22 : Kd.C k71 _ (some ad260) l0.length l0:=HR0.out
              have hcut22:=cut_to (P:=Try.prog) 40 71 .i64 Try.underlying40 hi022 (some ad260) l0.length c0 x12_1 (of_decide_eq_true (by first|(with_reducible assumption) | assumption)) q22 hroom22
              have hr22:=Kd.C_take (m:=(x12_1 : Int).toNat) hC22 (by omega)
              have hy22 : y267.length = (x12_1 : Int).toNat:=(by rw [Ny267.out,List.length_take];omega)
              rw [← Ny267.out] at hr22
              rw [← hy22] at hcut22
              have HR270:=aMk hr22
              have HC270:=aMk (show y267.length ≤ c0 from by omega)
              clear hr22 hC22 hroom22 hi022 hsz22
              have KY22:=aMk hy22
              clear hy22
              replace q22:=eq_true q22
              have p271 : 0 ≤ (x12_1 : Int):=of_decide_eq_true (by first|(with_reducible assumption) | assumption)
              have q271 : x12_1 < (l0.length : Int):=of_decide_eq_true (by first|(with_reducible assumption) | assumption)
              obtain ⟨ad271,e271,hx271_0,hx271_1,hx271_2,hx271_3,hx271_4,hx271_5,hx271_6,hx271_7,hx271_8⟩:=at_T71 HR0.out x12_1 p271 q271
              have hw271_8:=hx271_8
              have hw271_7:=hx271_7
              have hw271_6:=hx271_6
              have hw271_5:=hx271_5
              have hw271_4:=hx271_4
              have hw271_3:=hx271_3
              have hw271_2:=hx271_2
              have hw271_1:=hx271_1
              have hw271_0:=hx271_0
              obtain rfl : ad260 = ad271:=(by injection e271)
              replace hx271_0:=bXc HB.out hx271_0
              replace hx271_1:=bXc HB.out hx271_1
              replace hx271_2:=bXc HB.out hx271_2
              replace hx271_3:=bXc HB.out hx271_3
              replace hx271_4:=bXc HB.out hx271_4
              replace hx271_5:=bXc HB.out hx271_5
              replace hx271_6:=bXc HB.out hx271_6
              replace hx271_7:=bXc HB.out hx271_7
              replace hx271_8:=bXc HB.out hx271_8
              replace p271:=eq_true p271
              replace q271:=eq_true q271
              have p272 : 0 ≤ (x12_1 : Int):=of_decide_eq_true (by first|(with_reducible assumption) | assumption)
              have q272 : x12_1 < (l0.length : Int):=of_decide_eq_true (by first|(with_reducible assumption) | assumption)
              obtain ⟨ad272,e272,hx272_0,hx272_1,hx272_2,hx272_3,hx272_4,hx272_5,hx272_6,hx272_7,hx272_8⟩:=at_T71 HR0.out x12_1 p272 q272
              have hw272_8:=hx272_8
              have hw272_7:=hx272_7
              have hw272_6:=hx272_6
              have hw272_5:=hx272_5
              have hw272_4:=hx272_4
              have hw272_3:=hx272_3
              have hw272_2:=hx272_2
              have hw272_1:=hx272_1
              have hw272_0:=hx272_0
              obtain rfl : ad260 = ad272:=(by injection e272)
              replace hx272_0:=bXc HB.out hx272_0
              replace hx272_1:=bXc HB.out hx272_1
              replace hx272_2:=bXc HB.out hx272_2
              replace hx272_3:=bXc HB.out hx272_3
              replace hx272_4:=bXc HB.out hx272_4
              replace hx272_5:=bXc HB.out hx272_5
              replace hx272_6:=bXc HB.out hx272_6
              replace hx272_7:=bXc HB.out hx272_7
              replace hx272_8:=bXc HB.out hx272_8
              replace p272:=eq_true p272
              replace q272:=eq_true q272
              have p273 : 0 ≤ (x12_1 : Int):=of_decide_eq_true (by first|(with_reducible assumption) | assumption)
              have q273 : x12_1 < (l0.length : Int):=of_decide_eq_true (by first|(with_reducible assumption) | assumption)
              obtain ⟨ad273,e273,hx273_0,hx273_1,hx273_2,hx273_3,hx273_4,hx273_5,hx273_6,hx273_7,hx273_8⟩:=at_T71 HR0.out x12_1 p273 q273
              have hw273_8:=hx273_8
              have hw273_7:=hx273_7
              have hw273_6:=hx273_6
              have hw273_5:=hx273_5
              have hw273_4:=hx273_4
              have hw273_3:=hx273_3
              have hw273_2:=hx273_2
              have hw273_1:=hx273_1
              have hw273_0:=hx273_0
              obtain rfl : ad260 = ad273:=(by injection e273)
              replace hx273_0:=bXc HB.out hx273_0
              replace hx273_1:=bXc HB.out hx273_1
              replace hx273_2:=bXc HB.out hx273_2
              replace hx273_3:=bXc HB.out hx273_3
              replace hx273_4:=bXc HB.out hx273_4
              replace hx273_5:=bXc HB.out hx273_5
              replace hx273_6:=bXc HB.out hx273_6
              replace hx273_7:=bXc HB.out hx273_7
              replace hx273_8:=bXc HB.out hx273_8
              replace p273:=eq_true p273
              replace q273:=eq_true q273
              have p274 : 0 ≤ (x12_1 : Int):=of_decide_eq_true (by first|(with_reducible assumption) | assumption)
              have q274 : x12_1 < (l0.length : Int):=of_decide_eq_true (by first|(with_reducible assumption) | assumption)
              obtain ⟨ad274,e274,hx274_0,hx274_1,hx274_2,hx274_3,hx274_4,hx274_5,hx274_6,hx274_7,hx274_8⟩:=at_T71 HR0.out x12_1 p274 q274
              have hw274_8:=hx274_8
              have hw274_7:=hx274_7
              have hw274_6:=hx274_6
              have hw274_5:=hx274_5
              have hw274_4:=hx274_4
              have hw274_3:=hx274_3
              have hw274_2:=hx274_2
              have hw274_1:=hx274_1
              have hw274_0:=hx274_0
              obtain rfl : ad260 = ad274:=(by injection e274)
              replace hx274_0:=bXc HB.out hx274_0
              replace hx274_1:=bXc HB.out hx274_1
              replace hx274_2:=bXc HB.out hx274_2
              replace hx274_3:=bXc HB.out hx274_3
              replace hx274_4:=bXc HB.out hx274_4
              replace hx274_5:=bXc HB.out hx274_5
              replace hx274_6:=bXc HB.out hx274_6
              replace hx274_7:=bXc HB.out hx274_7
              replace hx274_8:=bXc HB.out hx274_8
              replace p274:=eq_true p274
              replace q274:=eq_true q274
              have p275 : 0 ≤ (x12_1 : Int):=of_decide_eq_true (by first|(with_reducible assumption) | assumption)
              have q275 : x12_1 < (l0.length : Int):=of_decide_eq_true (by first|(with_reducible assumption) | assumption)
              obtain ⟨ad275,e275,hx275_0,hx275_1,hx275_2,hx275_3,hx275_4,hx275_5,hx275_6,hx275_7,hx275_8⟩:=at_T71 HR0.out x12_1 p275 q275
              have hw275_8:=hx275_8
              have hw275_7:=hx275_7
              have hw275_6:=hx275_6
              have hw275_5:=hx275_5
              have hw275_4:=hx275_4
              have hw275_3:=hx275_3
              have hw275_2:=hx275_2
              have hw275_1:=hx275_1
              have hw275_0:=hx275_0
              obtain rfl : ad260 = ad275:=(by injection e275)
              replace hx275_0:=bXc HB.out hx275_0
              replace hx275_1:=bXc HB.out hx275_1
              replace hx275_2:=bXc HB.out hx275_2
              replace hx275_3:=bXc HB.out hx275_3
              replace hx275_4:=bXc HB.out hx275_4
              replace hx275_5:=bXc HB.out hx275_5
              replace hx275_6:=bXc HB.out hx275_6
              replace hx275_7:=bXc HB.out hx275_7
              replace hx275_8:=bXc HB.out hx275_8
              replace p275:=eq_true p275
              replace q275:=eq_true q275
              refine start_ (n:=29) (S:=fun w' => w'.cell? (ad260.add ((x12_1).toNat * 9)) = some (.int .i64 ((rd_T71 l0 x12_1).f0)) ∧ w'.cell? ⟨(ad260.add ((x12_1).toNat * 9)).block,(ad260.add ((x12_1).toNat * 9)).off + 1,none⟩ = some (.string ((rd_T71 l0 x12_1).f1)) ∧ w'.cell? ⟨(ad260.add ((x12_1).toNat * 9)).block,(ad260.add ((x12_1).toNat * 9)).off + 2,none⟩ = some (.int .i64 ((rd_T71 l0 x12_1).f2)) ∧ w'.cell? ⟨(ad260.add ((x12_1).toNat * 9)).block,(ad260.add ((x12_1).toNat * 9)).off + 3,none⟩ = some (.int .i64 ((rd_T71 l0 x12_1).f3)) ∧ w'.cell? ⟨(ad260.add ((x12_1).toNat * 9)).block,(ad260.add ((x12_1).toNat * 9)).off + 4,none⟩ = some (.int .i64 ((rd_T71 l0 x12_1).f4)) ∧ w'.cell? ⟨(ad260.add ((x12_1).toNat * 9)).block,(ad260.add ((x12_1).toNat * 9)).off + 5,none⟩ = some (.int .i64 ((rd_T71 l0 x12_1).f5)) ∧ w'.cell? ⟨(ad260.add ((x12_1).toNat * 9)).block,(ad260.add ((x12_1).toNat * 9)).off + 6,none⟩ = some (.int .i64 ((rd_T71 l0 x12_1).f6)) ∧ w'.cell? ⟨(ad260.add ((x12_1).toNat * 9)).block,(ad260.add ((x12_1).toNat * 9)).off + 7,none⟩ = some (.int .i64 ((rd_T71 l0 x12_1).f7)) ∧ w'.cell? ⟨(ad260.add ((x12_1).toNat * 9)).block,(ad260.add ((x12_1).toNat * 9)).off + 8,none⟩ = some (.int .i64 ((rd_T71 l0 x12_1).f8)) ∧ w'.cell? (ad260.add ((x12_1).toNat * 9)) = some (.int .i64 ((rd_T71 l0 x12_1).f0)) ∧ w'.cell? ⟨(ad260.add ((x12_1).toNat * 9)).block,(ad260.add ((x12_1).toNat * 9)).off + 1,none⟩ = some (.string ((rd_T71 l0 x12_1).f1)) ∧ w'.cell? ⟨(ad260.add ((x12_1).toNat * 9)).block,(ad260.add ((x12_1).toNat * 9)).off + 2,none⟩ = some (.int .i64 ((rd_T71 l0 x12_1).f2)) ∧ w'.cell? ⟨(ad260.add ((x12_1).toNat * 9)).block,(ad260.add ((x12_1).toNat * 9)).off + 3,none⟩ = some (.int .i64 ((rd_T71 l0 x12_1).f3)) ∧ w'.cell? ⟨(ad260.add ((x12_1).toNat * 9)).block,(ad260.add ((x12_1).toNat * 9)).off + 4,none⟩ = some (.int .i64 ((rd_T71 l0 x12_1).f4)) ∧ w'.cell? ⟨(ad260.add ((x12_1).toNat * 9)).block,(ad260.add ((x12_1).toNat * 9)).off + 5,none⟩ = some (.int .i64 ((rd_T71 l0 x12_1).f5)) ∧ w'.cell? ⟨(ad260.add ((x12_1).toNat * 9)).block,(ad260.add ((x12_1).toNat * 9)).off + 6,none⟩ = some (.int .i64 ((rd_T71 l0 x12_1).f6)) ∧ w'.cell? ⟨(ad260.add ((x12_1).toNat * 9)).block,(ad260.add ((x12_1).toNat * 9)).off + 7,none⟩ = some (.int .i64 ((rd_T71 l0 x12_1).f7)) ∧ w'.cell? ⟨(ad260.add ((x12_1).toNat * 9)).block,(ad260.add ((x12_1).toNat * 9)).off + 8,none⟩ = some (.int .i64 ((rd_T71 l0 x12_1).f8)) ∧ w'.cell? (ad260.add ((x12_1).toNat * 9)) = some (.int .i64 ((rd_T71 l0 x12_1).f0)) ∧ w'.cell? ⟨(ad260.add ((x12_1).toNat * 9)).block,(ad260.add ((x12_1).toNat * 9)).off + 1,none⟩ = some (.string ((rd_T71 l0 x12_1).f1)) ∧ w'.cell? ⟨(ad260.add ((x12_1).toNat * 9)).block,(ad260.add ((x12_1).toNat * 9)).off + 2,none⟩ = some (.int .i64 ((rd_T71 l0 x12_1).f2)) ∧ w'.cell? ⟨(ad260.add ((x12_1).toNat * 9)).block,(ad260.add ((x12_1).toNat * 9)).off + 3,none⟩ = some (.int .i64 ((rd_T71 l0 x12_1).f3)) ∧ w'.cell? ⟨(ad260.add ((x12_1).toNat * 9)).block,(ad260.add ((x12_1).toNat * 9)).off + 4,none⟩ = some (.int .i64 ((rd_T71 l0 x12_1).f4)) ∧ w'.cell? ⟨(ad260.add ((x12_1).toNat * 9)).block,(ad260.add ((x12_1).toNat * 9)).off + 5,none⟩ = some (.int .i64 ((rd_T71 l0 x12_1).f5)) ∧ w'.cell? ⟨(ad260.add ((x12_1).toNat * 9)).block,(ad260.add ((x12_1).toNat * 9)).off + 6,none⟩ = some (.int .i64 ((rd_T71 l0 x12_1).f6)) ∧ w'.cell? ⟨(ad260.add ((x12_1).toNat * 9)).block,(ad260.add ((x12_1).toNat * 9)).off + 7,none⟩ = some (.int .i64 ((rd_T71 l0 x12_1).f7)) ∧ w'.cell? ⟨(ad260.add ((x12_1).toNat * 9)).block,(ad260.add ((x12_1).toNat * 9)).off + 8,none⟩ = some (.int .i64 ((rd_T71 l0 x12_1).f8)) ∧ w'.cell? (ad260.add ((x12_1).toNat * 9)) = some (.int .i64 ((rd_T71 l0 x12_1).f0)) ∧ w'.cell? ⟨(ad260.add ((x12_1).toNat * 9)).block,(ad260.add ((x12_1).toNat * 9)).off + 1,none⟩ = some (.string ((rd_T71 l0 x12_1).f1)) ∧ w'.cell? ⟨(ad260.add ((x12_1).toNat * 9)).block,(ad260.add ((x12_1).toNat * 9)).off + 2,none⟩ = some (.int .i64 ((rd_T71 l0 x12_1).f2)) ∧ w'.cell? ⟨(ad260.add ((x12_1).toNat * 9)).block,(ad260.add ((x12_1).toNat * 9)).off + 3,none⟩ = some (.int .i64 ((rd_T71 l0 x12_1).f3)) ∧ w'.cell? ⟨(ad260.add ((x12_1).toNat * 9)).block,(ad260.add ((x12_1).toNat * 9)).off + 4,none⟩ = some (.int .i64 ((rd_T71 l0 x12_1).f4)) ∧ w'.cell? ⟨(ad260.add ((x12_1).toNat * 9)).block,(ad260.add ((x12_1).toNat * 9)).off + 5,none⟩ = some (.int .i64 ((rd_T71 l0 x12_1).f5)) ∧ w'.cell? ⟨(ad260.add ((x12_1).toNat * 9)).block,(ad260.add ((x12_1).toNat * 9)).off + 6,none⟩ = some (.int .i64 ((rd_T71 l0 x12_1).f6)) ∧ w'.cell? ⟨(ad260.add ((x12_1).toNat * 9)).block,(ad260.add ((x12_1).toNat * 9)).off + 7,none⟩ = some (.int .i64 ((rd_T71 l0 x12_1).f7)) ∧ w'.cell? ⟨(ad260.add ((x12_1).toNat * 9)).block,(ad260.add ((x12_1).toNat * 9)).off + 8,none⟩ = some (.int .i64 ((rd_T71 l0 x12_1).f8)) ∧ w'.cell? (ad260.add ((x12_1).toNat * 9)) = some (.int .i64 ((rd_T71 l0 x12_1).f0)) ∧ w'.cell? ⟨(ad260.add ((x12_1).toNat * 9)).block,(ad260.add ((x12_1).toNat * 9)).off + 1,none⟩ = some (.string ((rd_T71 l0 x12_1).f1)) ∧ w'.cell? ⟨(ad260.add ((x12_1).toNat * 9)).block,(ad260.add ((x12_1).toNat * 9)).off + 2,none⟩ = some (.int .i64 ((rd_T71 l0 x12_1).f2)) ∧ w'.cell? ⟨(ad260.add ((x12_1).toNat * 9)).block,(ad260.add ((x12_1).toNat * 9)).off + 3,none⟩ = some (.int .i64 ((rd_T71 l0 x12_1).f3)) ∧ w'.cell? ⟨(ad260.add ((x12_1).toNat * 9)).block,(ad260.add ((x12_1).toNat * 9)).off + 4,none⟩ = some (.int .i64 ((rd_T71 l0 x12_1).f4)) ∧ w'.cell? ⟨(ad260.add ((x12_1).toNat * 9)).block,(ad260.add ((x12_1).toNat * 9)).off + 5,none⟩ = some (.int .i64 ((rd_T71 l0 x12_1).f5)) ∧ w'.cell? ⟨(ad260.add ((x12_1).toNat * 9)).block,(ad260.add ((x12_1).toNat * 9)).off + 6,none⟩ = some (.int .i64 ((rd_T71 l0 x12_1).f6)) ∧ w'.cell? ⟨(ad260.add ((x12_1).toNat * 9)).block,(ad260.add ((x12_1).toNat * 9)).off + 7,none⟩ = some (.int .i64 ((rd_T71 l0 x12_1).f7)) ∧ w'.cell? ⟨(ad260.add ((x12_1).toNat * 9)).block,(ad260.add ((x12_1).toNat * 9)).off + 8,none⟩ = some (.int .i64 ((rd_T71 l0 x12_1).f8))) (ds:=[]) #[false,false,false,false,false,false,false,false,false,false,false,false,false,false,false,false,false,false,false,false,false,false,false,false,false,false,false,false,false] (by kernel_rfl) rfl rfl ⟨((HB.out.cell (wLt w _ hw271_0)).trans hw271_0),((HB.out.cell (wLt w _ hw271_1)).trans hw271_1),((HB.out.cell (wLt w _ hw271_2)).trans hw271_2),((HB.out.cell (wLt w _ hw271_3)).trans hw271_3),((HB.out.cell (wLt w _ hw271_4)).trans hw271_4),((HB.out.cell (wLt w _ hw271_5)).trans hw271_5),((HB.out.cell (wLt w _ hw271_6)).trans hw271_6),((HB.out.cell (wLt w _ hw271_7)).trans hw271_7),((HB.out.cell (wLt w _ hw271_8)).trans hw271_8),((HB.out.cell (wLt w _ hw272_0)).trans hw272_0),((HB.out.cell (wLt w _ hw272_1)).trans hw272_1),((HB.out.cell (wLt w _ hw272_2)).trans hw272_2),((HB.out.cell (wLt w _ hw272_3)).trans hw272_3),((HB.out.cell (wLt w _ hw272_4)).trans hw272_4),((HB.out.cell (wLt w _ hw272_5)).trans hw272_5),((HB.out.cell (wLt w _ hw272_6)).trans hw272_6),((HB.out.cell (wLt w _ hw272_7)).trans hw272_7),((HB.out.cell (wLt w _ hw272_8)).trans hw272_8),((HB.out.cell (wLt w _ hw273_0)).trans hw273_0),((HB.out.cell (wLt w _ hw273_1)).trans hw273_1),((HB.out.cell (wLt w _ hw273_2)).trans hw273_2),((HB.out.cell (wLt w _ hw273_3)).trans hw273_3),((HB.out.cell (wLt w _ hw273_4)).trans hw273_4),((HB.out.cell (wLt w _ hw273_5)).trans hw273_5),((HB.out.cell (wLt w _ hw273_6)).trans hw273_6),((HB.out.cell (wLt w _ hw273_7)).trans hw273_7),((HB.out.cell (wLt w _ hw273_8)).trans hw273_8),((HB.out.cell (wLt w _ hw274_0)).trans hw274_0),((HB.out.cell (wLt w _ hw274_1)).trans hw274_1),((HB.out.cell (wLt w _ hw274_2)).trans hw274_2),((HB.out.cell (wLt w _ hw274_3)).trans hw274_3),((HB.out.cell (wLt w _ hw274_4)).trans hw274_4),((HB.out.cell (wLt w _ hw274_5)).trans hw274_5),((HB.out.cell (wLt w _ hw274_6)).trans hw274_6),((HB.out.cell (wLt w _ hw274_7)).trans hw274_7),((HB.out.cell (wLt w _ hw274_8)).trans hw274_8),((HB.out.cell (wLt w _ hw275_0)).trans hw275_0),((HB.out.cell (wLt w _ hw275_1)).trans hw275_1),((HB.out.cell (wLt w _ hw275_2)).trans hw275_2),((HB.out.cell (wLt w _ hw275_3)).trans hw275_3),((HB.out.cell (wLt w _ hw275_4)).trans hw275_4),((HB.out.cell (wLt w _ hw275_5)).trans hw275_5),((HB.out.cell (wLt w _ hw275_6)).trans hw275_6),((HB.out.cell (wLt w _ hw275_7)).trans hw275_7),((HB.out.cell (wLt w _ hw275_8)).trans hw275_8)⟩ (fun hHeld => ?_);refine with_tabW impl_FlowsOK.tab9 impl_FlowsOK.bits9 (fun HT_ HW_ => ?_)
              generalize wc.drew = w21 at HB HR270 hx271_0 hx271_1 hx271_2 hx271_3 hx271_4 hx271_5 hx271_6 hx271_7 hx271_8 hx272_0 hx272_1 hx272_2 hx272_3 hx272_4 hx272_5 hx272_6 hx272_7 hx272_8 hx273_0 hx273_1 hx273_2 hx273_3 hx273_4 hx273_5 hx273_6 hx273_7 hx273_8 hx274_0 hx274_1 hx274_2 hx274_3 hx274_4 hx274_5 hx274_6 hx274_7 hx274_8 hx275_0 hx275_1 hx275_2 hx275_3 hx275_4 hx275_5 hx275_6 hx275_7 hx275_8 hHeld ⊢
              refine pure_ (i:=0) (N:=some 38) (v:=?_) (a':=?_) #[true,false,false,false,false,false,false,false,false,false,false,false,false,false,false,false,false,false,false,false,false,false,false,false,false,false,false,false,false] rfl rfl (any_of HT_.out (by kernel_rfl)) (fun _ _ _ h => h) (Or.inl ⟨by rfl,?_⟩) ?_ ?_
              rotate_left
              ·intro w'
               go_simp
               with_reducible rfl
              rotate_left
              ·simp only [Act.put,List.setIfInBounds_toArray,List.set_cons_zero,List.set_cons_succ,i64_w,i32_w]
               rfl
              refine pure_ (i:=1) (N:=some 39) (v:=?_) (a':=?_) #[true,true,false,false,false,false,false,false,false,false,false,false,false,false,false,false,false,false,false,false,false,false,false,false,false,false,false,false,false] rfl rfl (any_of HT_.out (by kernel_rfl)) (fun _ _ _ h => h) (Or.inl ⟨by rfl,?_⟩) ?_ ?_
              rotate_left
              ·intro w'
               go_simp
               with_reducible rfl
              rotate_left
              ·simp only [Act.put,List.setIfInBounds_toArray,List.set_cons_zero,List.set_cons_succ,i64_w,i32_w]
               rfl
              refine pure_ (i:=2) (N:=some 40) (v:=?_) (a':=?_) #[true,true,true,false,false,false,false,false,false,false,false,false,false,false,false,false,false,false,false,false,false,false,false,false,false,false,false,false,false] rfl rfl (any_of HT_.out (by kernel_rfl)) (fun _ _ _ h => h) (Or.inl ⟨by rfl,?_⟩) ?_ ?_
              rotate_left
              ·intro w'
               go_simp
               with_reducible rfl
              rotate_left
              ·simp only [Act.put,List.setIfInBounds_toArray,List.set_cons_zero,List.set_cons_succ,i64_w,i32_w]
               rfl
              refine pure_ (i:=3) (N:=some 41) (v:=?_) (a':=?_) #[true,true,true,true,false,false,false,false,false,false,false,false,false,false,false,false,false,false,false,false,false,false,false,false,false,false,false,false,false] rfl rfl (any_of HT_.out (by kernel_rfl)) (fun _ _ _ h => h) (Or.inl ⟨by rfl,?_⟩) ?_ ?_
              rotate_left
              ·intro w'
               go_simp
               with_reducible rfl
              rotate_left
              ·simp only [Act.put,List.setIfInBounds_toArray,List.set_cons_zero,List.set_cons_succ,i64_w,i32_w]
               rfl
              refine pure_ (i:=4) (N:=some 42) (v:=?_) (a':=?_) #[true,true,true,true,true,false,false,false,false,false,false,false,false,false,false,false,false,false,false,false,false,false,false,false,false,false,false,false,false] rfl rfl (any_of HT_.out (by kernel_rfl)) (fun _ _ _ h => h) (Or.inl ⟨by rfl,?_⟩) ?_ ?_
              rotate_left
              ·intro w'
               go_simp
               with_reducible rfl
              rotate_left
              ·simp only [Act.put,List.setIfInBounds_toArray,List.set_cons_zero,List.set_cons_succ,i64_w,i32_w]
               rfl
              refine pure_ (i:=5) (N:=some 43) (v:=?_) (a':=?_) #[true,true,true,true,true,true,false,false,false,false,false,false,false,false,false,false,false,false,false,false,false,false,false,false,false,false,false,false,false] rfl rfl (any_of HT_.out (by kernel_rfl)) (fun _ _ _ h => h) (Or.inl ⟨by rfl,?_⟩) ?_ ?_
              rotate_left
              ·intro w'
               go_simp
               with_reducible rfl
              rotate_left
              ·simp only [Act.put,List.setIfInBounds_toArray,List.set_cons_zero,List.set_cons_succ,i64_w,i32_w]
               rfl
              refine pure_ (i:=7) (N:=some 45) (v:=?_) (a':=?_) #[true,true,true,true,true,true,false,true,false,false,false,false,false,false,false,false,false,false,false,false,false,false,false,false,false,false,false,false,false] rfl rfl (any_of HT_.out (by kernel_rfl)) (fun _ _ _ h => h) (Or.inl ⟨by rfl,?_⟩) ?_ ?_
              rotate_left
              ·intro w'
               go_simp
               with_reducible rfl
              rotate_left
              ·simp only [Act.put,List.setIfInBounds_toArray,List.set_cons_zero,List.set_cons_succ,i64_w,i32_w]
               rfl
              refine pure_ (i:=8) (N:=some 46) (v:=?_) (a':=?_) #[true,true,true,true,true,true,false,true,true,false,false,false,false,false,false,false,false,false,false,false,false,false,false,false,false,false,false,false,false] rfl rfl (any_of HT_.out (by kernel_rfl)) (fun _ _ _ h => h) (Or.inl ⟨by rfl,?_⟩) ?_ ?_
              rotate_left
              ·intro w'
               go_simp
               with_reducible rfl
              rotate_left
              ·simp only [Act.put,List.setIfInBounds_toArray,List.set_cons_zero,List.set_cons_succ,i64_w,i32_w]
               rfl
              refine pure_ (i:=9) (N:=some 47) (v:=?_) (a':=?_) #[true,true,true,true,true,true,false,true,true,true,false,false,false,false,false,false,false,false,false,false,false,false,false,false,false,false,false,false,false] rfl rfl (any_of HT_.out (by kernel_rfl)) (fun _ _ _ h => h) (Or.inl ⟨by rfl,?_⟩) ?_ ?_
              rotate_left
              ·intro w'
               go_simp
               with_reducible rfl
              rotate_left
              ·simp only [Act.put,List.setIfInBounds_toArray,List.set_cons_zero,List.set_cons_succ,i64_w,i32_w]
               rfl
              refine pure_ (i:=11) (N:=some 49) (v:=?_) (a':=?_) #[true,true,true,true,true,true,false,true,true,true,false,true,false,false,false,false,false,false,false,false,false,false,false,false,false,false,false,false,false] rfl rfl (any_of HT_.out (by kernel_rfl)) (fun _ _ _ h => h) (Or.inl ⟨by rfl,?_⟩) ?_ ?_
              rotate_left
              ·intro w'
               go_simp
               with_reducible rfl
              rotate_left
              ·simp only [Act.put,List.setIfInBounds_toArray,List.set_cons_zero,List.set_cons_succ,i64_w,i32_w]
               rfl
              refine pure_ (i:=12) (N:=some 50) (v:=?_) (a':=?_) #[true,true,true,true,true,true,false,true,true,true,false,true,true,false,false,false,false,false,false,false,false,false,false,false,false,false,false,false,false] rfl rfl (any_of HT_.out (by kernel_rfl)) (fun _ _ _ h => h) (Or.inl ⟨by rfl,?_⟩) ?_ ?_
              rotate_left
              ·intro w'
               go_simp
               with_reducible rfl
              rotate_left
              ·simp only [Act.put,List.setIfInBounds_toArray,List.set_cons_zero,List.set_cons_succ,i64_w,i32_w]
               rfl
              refine pure_ (i:=13) (N:=some 51) (v:=?_) (a':=?_) #[true,true,true,true,true,true,false,true,true,true,false,true,true,true,false,false,false,false,false,false,false,false,false,false,false,false,false,false,false] rfl rfl (any_of HT_.out (by kernel_rfl)) (fun _ _ _ h => h) (Or.inl ⟨by rfl,?_⟩) ?_ ?_
              rotate_left
              ·intro w'
               go_simp
               with_reducible rfl
              rotate_left
              ·simp only [Act.put,List.setIfInBounds_toArray,List.set_cons_zero,List.set_cons_succ,i64_w,i32_w]
               rfl
              refine pure_ (i:=15) (N:=some 53) (v:=?_) (a':=?_) #[true,true,true,true,true,true,false,true,true,true,false,true,true,true,false,true,false,false,false,false,false,false,false,false,false,false,false,false,false] rfl rfl (any_of HT_.out (by kernel_rfl)) (fun _ _ _ h => h) (Or.inl ⟨by rfl,?_⟩) ?_ ?_
              rotate_left
              ·intro w'
               go_simp
               with_reducible rfl
              rotate_left
              ·simp only [Act.put,List.setIfInBounds_toArray,List.set_cons_zero,List.set_cons_succ,i64_w,i32_w]
               rfl
              refine pure_ (i:=16) (N:=some 54) (v:=?_) (a':=?_) #[true,true,true,true,true,true,false,true,true,true,false,true,true,true,false,true,true,false,false,false,false,false,false,false,false,false,false,false,false] rfl rfl (any_of HT_.out (by kernel_rfl)) (fun _ _ _ h => h) (Or.inl ⟨by rfl,?_⟩) ?_ ?_
              rotate_left
              ·intro w'
               go_simp
               with_reducible rfl
              rotate_left
              ·simp only [Act.put,List.setIfInBounds_toArray,List.set_cons_zero,List.set_cons_succ,i64_w,i32_w]
               rfl
              refine pure_ (i:=17) (N:=some 55) (v:=?_) (a':=?_) #[true,true,true,true,true,true,false,true,true,true,false,true,true,true,false,true,true,true,false,false,false,false,false,false,false,false,false,false,false] rfl rfl (any_of HT_.out (by kernel_rfl)) (fun _ _ _ h => h) (Or.inl ⟨by rfl,?_⟩) ?_ ?_
              rotate_left
              ·intro w'
               go_simp
               with_reducible rfl
              rotate_left
              ·simp only [Act.put,List.setIfInBounds_toArray,List.set_cons_zero,List.set_cons_succ,i64_w,i32_w]
               rfl
              refine pure_ (i:=19) (N:=some 57) (v:=?_) (a':=?_) #[true,true,true,true,true,true,false,true,true,true,false,true,true,true,false,true,true,true,false,true,false,false,false,false,false,false,false,false,false] rfl rfl (any_of HT_.out (by kernel_rfl)) (fun _ _ _ h => h) (Or.inl ⟨by rfl,?_⟩) ?_ ?_
              rotate_left
              ·intro w'
               go_simp
               with_reducible rfl
              rotate_left
              ·simp only [Act.put,List.setIfInBounds_toArray,List.set_cons_zero,List.set_cons_succ,i64_w,i32_w]
               rfl
              refine pure_ (i:=20) (N:=some 58) (v:=?_) (a':=?_) #[true,true,true,true,true,true,false,true,true,true,false,true,true,true,false,true,true,true,false,true,true,false,false,false,false,false,false,false,false] rfl rfl (any_of HT_.out (by kernel_rfl)) (fun _ _ _ h => h) (Or.inl ⟨by rfl,?_⟩) ?_ ?_
              rotate_left
              ·intro w'
               go_simp
               with_reducible rfl
              rotate_left
              ·simp only [Act.put,List.setIfInBounds_toArray,List.set_cons_zero,List.set_cons_succ,i64_w,i32_w]
               rfl
              refine pure_ (i:=21) (N:=some 59) (v:=?_) (a':=?_) #[true,true,true,true,true,true,false,true,true,true,false,true,true,true,false,true,true,true,false,true,true,true,false,false,false,false,false,false,false] rfl rfl (any_of HT_.out (by kernel_rfl)) (fun _ _ _ h => h) (Or.inl ⟨by rfl,?_⟩) ?_ ?_
              rotate_left
              ·intro w'
               go_simp
               with_reducible rfl
              rotate_left
              ·simp only [Act.put,List.setIfInBounds_toArray,List.set_cons_zero,List.set_cons_succ,i64_w,i32_w]
               rfl
              refine take_ (i:=6) (N:=some 44) (v:=?_) (a':=?_) #[true,true,true,true,true,true,true,true,true,true,false,true,true,true,false,true,true,true,false,true,true,true,false,false,false,false,false,false,false] rfl rfl (take_ofW HT_.out HW_.out (by kernel_rfl)) (fun _ _ _ h => h) (Or.inl ⟨by rfl,?_⟩) hHeld ?_ ?_
              rotate_left
              ·rintro w' ⟨s0,s1,s2,s3,s4,s5,s6,s7,s8,s9,s10,s11,s12,s13,s14,s15,s16,s17,s18,s19,s20,s21,s22,s23,s24,s25,s26,s27,s28,s29,s30,s31,s32,s33,s34,s35,s36,s37,s38,s39,s40,s41,s42,s43,s44⟩
               go_simp
               with_reducible rfl
              rotate_left
              ·simp only [Act.put,List.setIfInBounds_toArray,List.set_cons_zero,List.set_cons_succ,i64_w,i32_w]
               rfl
              refine take_ (i:=10) (N:=some 48) (v:=?_) (a':=?_) #[true,true,true,true,true,true,true,true,true,true,true,true,true,true,false,true,true,true,false,true,true,true,false,false,false,false,false,false,false] rfl rfl (take_ofW HT_.out HW_.out (by kernel_rfl)) (fun _ _ _ h => h) (Or.inl ⟨by rfl,?_⟩) hHeld ?_ ?_
              rotate_left
              ·rintro w' ⟨s0,s1,s2,s3,s4,s5,s6,s7,s8,s9,s10,s11,s12,s13,s14,s15,s16,s17,s18,s19,s20,s21,s22,s23,s24,s25,s26,s27,s28,s29,s30,s31,s32,s33,s34,s35,s36,s37,s38,s39,s40,s41,s42,s43,s44⟩
               go_simp
               with_reducible rfl
              rotate_left
              ·simp only [Act.put,List.setIfInBounds_toArray,List.set_cons_zero,List.set_cons_succ,i64_w,i32_w]
               rfl
              refine take_ (i:=14) (N:=some 52) (v:=?_) (a':=?_) #[true,true,true,true,true,true,true,true,true,true,true,true,true,true,true,true,true,true,false,true,true,true,false,false,false,false,false,false,false] rfl rfl (take_ofW HT_.out HW_.out (by kernel_rfl)) (fun _ _ _ h => h) (Or.inl ⟨by rfl,?_⟩) hHeld ?_ ?_
              rotate_left
              ·rintro w' ⟨s0,s1,s2,s3,s4,s5,s6,s7,s8,s9,s10,s11,s12,s13,s14,s15,s16,s17,s18,s19,s20,s21,s22,s23,s24,s25,s26,s27,s28,s29,s30,s31,s32,s33,s34,s35,s36,s37,s38,s39,s40,s41,s42,s43,s44⟩
               go_simp
               with_reducible rfl
              rotate_left
              ·simp only [Act.put,List.setIfInBounds_toArray,List.set_cons_zero,List.set_cons_succ,i64_w,i32_w]
               rfl
              refine take_ (i:=18) (N:=some 56) (v:=?_) (a':=?_) #[true,true,true,true,true,true,true,true,true,true,true,true,true,true,true,true,true,true,true,true,true,true,false,false,false,false,false,false,false] rfl rfl (take_ofW HT_.out HW_.out (by kernel_rfl)) (fun _ _ _ h => h) (Or.inl ⟨by rfl,?_⟩) hHeld ?_ ?_
              rotate_left
              ·rintro w' ⟨s0,s1,s2,s3,s4,s5,s6,s7,s8,s9,s10,s11,s12,s13,s14,s15,s16,s17,s18,s19,s20,s21,s22,s23,s24,s25,s26,s27,s28,s29,s30,s31,s32,s33,s34,s35,s36,s37,s38,s39,s40,s41,s42,s43,s44⟩
               go_simp
               with_reducible rfl
              rotate_left
              ·simp only [Act.put,List.setIfInBounds_toArray,List.set_cons_zero,List.set_cons_succ,i64_w,i32_w]
               rfl
              refine take_ (i:=22) (N:=some 60) (v:=?_) (a':=?_) #[true,true,true,true,true,true,true,true,true,true,true,true,true,true,true,true,true,true,true,true,true,true,true,false,false,false,false,false,false] rfl rfl (take_ofW HT_.out HW_.out (by kernel_rfl)) (fun _ _ _ h => h) (Or.inl ⟨by rfl,?_⟩) hHeld ?_ ?_
              rotate_left
              ·rintro w' ⟨s0,s1,s2,s3,s4,s5,s6,s7,s8,s9,s10,s11,s12,s13,s14,s15,s16,s17,s18,s19,s20,s21,s22,s23,s24,s25,s26,s27,s28,s29,s30,s31,s32,s33,s34,s35,s36,s37,s38,s39,s40,s41,s42,s43,s44⟩
               go_simp
               with_reducible rfl
              rotate_left
              ·simp only [Act.put,List.setIfInBounds_toArray,List.set_cons_zero,List.set_cons_succ,i64_w,i32_w]
               rfl
              refine one_ (i:=23) (N:=some 61) #[true,true,true,true,true,true,true,true,true,true,true,true,true,true,true,true,true,true,true,true,true,true,true,true,false,false,false,false,false] rfl rfl (one_of HT_.out (by kernel_rfl)) (by decide) (fun K hK => ?_)
              refine goes_ Try.func78 (by kernel_rfl) rfl #[.slice (some ad260) y267.length c0,.int .i64 ((rd_T71 l0 x12_1).f0),.int .i64 ((rd_T71 l0 x12_1).f2),.int .i64 ((rd_T71 l0 x12_1).f3),.int .i64 ((rd_T71 l0 x12_1).f4),.int .i64 ((rd_T71 l0 x12_1).f5)] (by rfl) rfl rfl (by (try simp only [List.map_toArray,List.map_cons,List.map_nil]);first | done | rfl|(simp only [List.length_drop,List.length_take];rfl)) ?_
              with_reducible refine (impl_find.calls kj5 _ _ y267 ((rd_T71 l0 x12_1).f0) ((rd_T71 l0 x12_1).f2) ((rd_T71 l0 x12_1).f3) ((rd_T71 l0 x12_1).f4) ((rd_T71 l0 x12_1).f5) t276 t277 _ ?side1 ?side2 A19.out).mono ?_
              (case side1 => repeat (first|exact (Kd.C_below HR270.out HB.out)|(with_reducible refine Kd.C_alloc ?_ _)|(with_reducible refine Kd.C_drewN ?_ _)|(with_reducible refine Kd.C_drew ?_)))
              (case side2 => exact HC270.out)
              rintro e w23 ⟨rfl,hb⟩
              refine ⟨_,rfl,?_⟩
              have n0_:=aMk (bSt hb)
              clear HB
              have HB:=n0_
              clear n0_
              (try clear hb)
              (try clear hb2)
              (try clear hk)
              (try clear hi)
              refine hK.out _ _ ⟨((HB.out.cell (wLt w _ hw271_0)).trans hw271_0),((HB.out.cell (wLt w _ hw271_1)).trans hw271_1),((HB.out.cell (wLt w _ hw271_2)).trans hw271_2),((HB.out.cell (wLt w _ hw271_3)).trans hw271_3),((HB.out.cell (wLt w _ hw271_4)).trans hw271_4),((HB.out.cell (wLt w _ hw271_5)).trans hw271_5),((HB.out.cell (wLt w _ hw271_6)).trans hw271_6),((HB.out.cell (wLt w _ hw271_7)).trans hw271_7),((HB.out.cell (wLt w _ hw271_8)).trans hw271_8),((HB.out.cell (wLt w _ hw272_0)).trans hw272_0),((HB.out.cell (wLt w _ hw272_1)).trans hw272_1),((HB.out.cell (wLt w _ hw272_2)).trans hw272_2),((HB.out.cell (wLt w _ hw272_3)).trans hw272_3),((HB.out.cell (wLt w _ hw272_4)).trans hw272_4),((HB.out.cell (wLt w _ hw272_5)).trans hw272_5),((HB.out.cell (wLt w _ hw272_6)).trans hw272_6),((HB.out.cell (wLt w _ hw272_7)).trans hw272_7),((HB.out.cell (wLt w _ hw272_8)).trans hw272_8),((HB.out.cell (wLt w _ hw273_0)).trans hw273_0),((HB.out.cell (wLt w _ hw273_1)).trans hw273_1),((HB.out.cell (wLt w _ hw273_2)).trans hw273_2),((HB.out.cell (wLt w _ hw273_3)).trans hw273_3),((HB.out.cell (wLt w _ hw273_4)).trans hw273_4),((HB.out.cell (wLt w _ hw273_5)).trans hw273_5),((HB.out.cell (wLt w _ hw273_6)).trans hw273_6),((HB.out.cell (wLt w _ hw273_7)).trans hw273_7),((HB.out.cell (wLt w _ hw273_8)).trans hw273_8),((HB.out.cell (wLt w _ hw274_0)).trans hw274_0),((HB.out.cell (wLt w _ hw274_1)).trans hw274_1),((HB.out.cell (wLt w _ hw274_2)).trans hw274_2),((HB.out.cell (wLt w _ hw274_3)).trans hw274_3),((HB.out.cell (wLt w _ hw274_4)).trans hw274_4),((HB.out.cell (wLt w _ hw274_5)).trans hw274_5),((HB.out.cell (wLt w _ hw274_6)).trans hw274_6),((HB.out.cell (wLt w _ hw274_7)).trans hw274_7),((HB.out.cell (wLt w _ hw274_8)).trans hw274_8),((HB.out.cell (wLt w _ hw275_0)).trans hw275_0),((HB.out.cell (wLt w _ hw275_1)).trans hw275_1),((HB.out.cell (wLt w _ hw275_2)).trans hw275_2),((HB.out.cell (wLt w _ hw275_3)).trans hw275_3),((HB.out.cell (wLt w _ hw275_4)).trans hw275_4),((HB.out.cell (wLt w _ hw275_5)).trans hw275_5),((HB.out.cell (wLt w _ hw275_6)).trans hw275_6),((HB.out.cell (wLt w _ hw275_7)).trans hw275_7),((HB.out.cell (wLt w _ hw275_8)).trans hw275_8)⟩ (fun hHeld => ?_)
              clear hK K
              refine norm_ (a':=?_) ?_ ?_
              rotate_left
              ·show Act.put _ (some 61) _ = _
               simp only [Act.put,List.setIfInBounds_toArray,List.set_cons_zero,List.set_cons_succ,i64_w,i32_w]
               rfl
              refine pure_ (i:=24) (N:=some 37) (v:=?_) (a':=?_) #[true,true,true,true,true,true,true,true,true,true,true,true,true,true,true,true,true,true,true,true,true,true,true,true,true,false,false,false,false] rfl rfl (any_of HT_.out (by kernel_rfl)) (fun _ _ _ h => h) (Or.inl ⟨by rfl,?_⟩) ?_ ?_
              rotate_left
              ·intro w'
               go_simp
               with_reducible rfl
              rotate_left
              ·simp only [Act.put,List.setIfInBounds_toArray,List.set_cons_zero,List.set_cons_succ,i64_w,i32_w]
               rfl
              refine pure_ (i:=25) (N:=some 62) (v:=?_) (a':=?_) #[true,true,true,true,true,true,true,true,true,true,true,true,true,true,true,true,true,true,true,true,true,true,true,true,true,true,false,false,false] rfl rfl (any_of HT_.out (by kernel_rfl)) (fun _ _ _ h => h) (Or.inl ⟨by rfl,?_⟩) ?_ ?_
              rotate_left
              ·intro w'
               go_simp
               with_reducible rfl
              rotate_left
              ·simp only [Act.put,List.setIfInBounds_toArray,List.set_cons_zero,List.set_cons_succ,i64_w,i32_w]
               rfl
              refine pure_ (i:=26) (N:=some 63) (v:=?_) (a':=?_) #[true,true,true,true,true,true,true,true,true,true,true,true,true,true,true,true,true,true,true,true,true,true,true,true,true,true,true,false,false] rfl rfl (any_of HT_.out (by kernel_rfl)) (fun _ _ _ h => h) (Or.inl ⟨by rfl,?_⟩) ?_ ?_
              rotate_left
              ·intro w'
               go_simp
               with_reducible rfl
              rotate_left
              ·simp only [Act.put,List.setIfInBounds_toArray,List.set_cons_zero,List.set_cons_succ,i64_w,i32_w]
               rfl
              refine pure_ (i:=27) (N:=some 5) (v:=?_) (a':=?_) #[true,true,true,true,true,true,true,true,true,true,true,true,true,true,true,true,true,true,true,true,true,true,true,true,true,true,true,true,false] rfl rfl (any_of HT_.out (by kernel_rfl)) (fun _ _ _ h => h) (Or.inl ⟨by rfl,?_⟩) ?_ ?_
              rotate_left
              ·intro w'
               go_simp
               with_reducible rfl
              rotate_left
              ·simp only [Act.put,List.setIfInBounds_toArray,List.set_cons_zero,List.set_cons_succ,i64_w,i32_w]
               rfl
              refine pure_ (i:=28) (N:=some 6) (v:=?_) (a':=?_) #[true,true,true,true,true,true,true,true,true,true,true,true,true,true,true,true,true,true,true,true,true,true,true,true,true,true,true,true,true] rfl rfl (any_of HT_.out (by kernel_rfl)) (fun _ _ _ h => h) (Or.inl ⟨by rfl,?_⟩) ?_ ?_
              rotate_left
              ·intro w'
               go_simp
               with_reducible rfl
              rotate_left
              ·simp only [Act.put,List.setIfInBounds_toArray,List.set_cons_zero,List.set_cons_succ,i64_w,i32_w]
               rfl
              refine done_ (done_of HT_.out (by kernel_rfl)) ?_
              try go_wp2
              go_ret
              exact ⟨eRf,by repeat (first|(with_reducible first|exact HB.out|apply bwA|apply bwN|apply bw1)|exact HB.out)⟩
             ·rw [if_neg c20] at H
              have c20b0 : decide (0 ≤ t276) = false:=decide_eq_false c20
              clear c20
              have H':=aMk H
              clear H
              try go_wp2
              have n0_:=aMk (bw1 HB.out)
              clear HB
              have HB:=n0_
              clear n0_
              have q25 : (x12_1 : Int) ≤ ((l0.length : Int) : Int):=of_decide_eq_true (by first|(with_reducible assumption) | assumption)
              obtain ⟨i025,hi025,_,hsz25,_⟩:=info_parts info71
              have hroom25 : l0.length ≤ c0:=HC0.out
              have hC25 : Kd.C k71 _ (some ad260) l0.length l0:=HR0.out
              have hcut25:=cut_to (P:=Try.prog) 40 71 .i64 Try.underlying40 hi025 (some ad260) l0.length c0 x12_1 (of_decide_eq_true (by first|(with_reducible assumption) | assumption)) q25 hroom25
              have hr25:=Kd.C_take (m:=(x12_1 : Int).toNat) hC25 (by omega)
              have hy25 : y267.length = (x12_1 : Int).toNat:=(by rw [Ny267.out,List.length_take];omega)
              rw [← Ny267.out] at hr25
              rw [← hy25] at hcut25
              have HR270:=aMk hr25
              have HC270:=aMk (show y267.length ≤ c0 from by omega)
              clear hr25 hC25 hroom25 hi025 hsz25
              have KY25:=aMk hy25
              clear hy25
              replace q25:=eq_true q25
              have p271 : 0 ≤ (x12_1 : Int):=of_decide_eq_true (by first|(with_reducible assumption) | assumption)
              have q271 : x12_1 < (l0.length : Int):=of_decide_eq_true (by first|(with_reducible assumption) | assumption)
              obtain ⟨ad271,e271,hx271_0,hx271_1,hx271_2,hx271_3,hx271_4,hx271_5,hx271_6,hx271_7,hx271_8⟩:=at_T71 HR0.out x12_1 p271 q271
              have hw271_8:=hx271_8
              have hw271_7:=hx271_7
              have hw271_6:=hx271_6
              have hw271_5:=hx271_5
              have hw271_4:=hx271_4
              have hw271_3:=hx271_3
              have hw271_2:=hx271_2
              have hw271_1:=hx271_1
              have hw271_0:=hx271_0
              obtain rfl : ad260 = ad271:=(by injection e271)
              replace hx271_0:=bXc HB.out hx271_0
              replace hx271_1:=bXc HB.out hx271_1
              replace hx271_2:=bXc HB.out hx271_2
              replace hx271_3:=bXc HB.out hx271_3
              replace hx271_4:=bXc HB.out hx271_4
              replace hx271_5:=bXc HB.out hx271_5
              replace hx271_6:=bXc HB.out hx271_6
              replace hx271_7:=bXc HB.out hx271_7
              replace hx271_8:=bXc HB.out hx271_8
              replace p271:=eq_true p271
              replace q271:=eq_true q271
              have p272 : 0 ≤ (x12_1 : Int):=of_decide_eq_true (by first|(with_reducible assumption) | assumption)
              have q272 : x12_1 < (l0.length : Int):=of_decide_eq_true (by first|(with_reducible assumption) | assumption)
              obtain ⟨ad272,e272,hx272_0,hx272_1,hx272_2,hx272_3,hx272_4,hx272_5,hx272_6,hx272_7,hx272_8⟩:=at_T71 HR0.out x12_1 p272 q272
              have hw272_8:=hx272_8
              have hw272_7:=hx272_7
              have hw272_6:=hx272_6
              have hw272_5:=hx272_5
              have hw272_4:=hx272_4
              have hw272_3:=hx272_3
              have hw272_2:=hx272_2
              have hw272_1:=hx272_1
              have hw272_0:=hx272_0
              obtain rfl : ad260 = ad272:=(by injection e272)
              replace hx272_0:=bXc HB.out hx272_0
              replace hx272_1:=bXc HB.out hx272_1
              replace hx272_2:=bXc HB.out hx272_2
              replace hx272_3:=bXc HB.out hx272_3
              replace hx272_4:=bXc HB.out hx272_4
              replace hx272_5:=bXc HB.out hx272_5
              replace hx272_6:=bXc HB.out hx272_6
              replace hx272_7:=bXc HB.out hx272_7
              replace hx272_8:=bXc HB.out hx272_8
              replace p272:=eq_true p272
              replace q272:=eq_true q272
              have p273 : 0 ≤ (x12_1 : Int):=of_decide_eq_true (by first|(with_reducible assumption) | assumption)
              have q273 : x12_1 < (l0.length : Int):=of_decide_eq_true (by first|(with_reducible assumption) | assumption)
              obtain ⟨ad273,e273,hx273_0,hx273_1,hx273_2,hx273_3,hx273_4,hx273_5,hx273_6,hx273_7,hx273_8⟩:=at_T71 HR0.out x12_1 p273 q273
              have hw273_8:=hx273_8
              have hw273_7:=hx273_7
              have hw273_6:=hx273_6
              have hw273_5:=hx273_5
              have hw273_4:=hx273_4
              have hw273_3:=hx273_3
              have hw273_2:=hx273_2
              have hw273_1:=hx273_1
              have hw273_0:=hx273_0
              obtain rfl : ad260 = ad273:=(by injection e273)
              replace hx273_0:=bXc HB.out hx273_0
              replace hx273_1:=bXc HB.out hx273_1
              replace hx273_2:=bXc HB.out hx273_2
              replace hx273_3:=bXc HB.out hx273_3
              replace hx273_4:=bXc HB.out hx273_4
              replace hx273_5:=bXc HB.out hx273_5
              replace hx273_6:=bXc HB.out hx273_6
              replace hx273_7:=bXc HB.out hx273_7
              replace hx273_8:=bXc HB.out hx273_8
              replace p273:=eq_true p273
              replace q273:=eq_true q273
              have p274 : 0 ≤ (x12_1 : Int):=of_decide_eq_true (by first|(with_reducible assumption) | assumption)
              have q274 : x12_1 < (l0.length : Int):=of_decide_eq_true (by first|(with_reducible assumption) | assumption)
              obtain ⟨ad274,e274,hx274_0,hx274_1,hx274_2,hx274_3,hx274_4,hx274_5,hx274_6,hx274_7,hx274_8⟩:=at_T71 HR0.out x12_1 p274 q274
              have hw274_8:=hx274_8
              have hw274_7:=hx274_7
              have hw274_6:=hx274_6
              have hw274_5:=hx274_5
              have hw274_4:=hx274_4
              have hw274_3:=hx274_3
              have hw274_2:=hx274_2
              have hw274_1:=hx274_1
              have hw274_0:=hx274_0
              obtain rfl : ad260 = ad274:=(by injection e274)
              replace hx274_0:=bXc HB.out hx274_0
              replace hx274_1:=bXc HB.out hx274_1
              replace hx274_2:=bXc HB.out hx274_2
              replace hx274_3:=bXc HB.out hx274_3
              replace hx274_4:=bXc HB.out hx274_4
              replace hx274_5:=bXc HB.out hx274_5
              replace hx274_6:=bXc HB.out hx274_6
              replace hx274_7:=bXc HB.out hx274_7
              replace hx274_8:=bXc HB.out hx274_8
              replace p274:=eq_true p274
              replace q274:=eq_true q274
              have p275 : 0 ≤ (x12_1 : Int):=of_decide_eq_true (by first|(with_reducible assumption) | assumption)
              have q275 : x12_1 < (l0.length : Int):=of_decide_eq_true (by first|(with_reducible assumption) | assumption)
              obtain ⟨ad275,e275,hx275_0,hx275_1,hx275_2,hx275_3,hx275_4,hx275_5,hx275_6,hx275_7,hx275_8⟩:=at_T71 HR0.out x12_1 p275 q275
              have hw275_8:=hx275_8
              have hw275_7:=hx275_7
              have hw275_6:=hx275_6
              have hw275_5:=hx275_5
              have hw275_4:=hx275_4
              have hw275_3:=hx275_3
              have hw275_2:=hx275_2
              have hw275_1:=hx275_1
              have hw275_0:=hx275_0
              obtain rfl : ad260 = ad275:=(by injection e275)
              replace hx275_0:=bXc HB.out hx275_0
              replace hx275_1:=bXc HB.out hx275_1
              replace hx275_2:=bXc HB.out hx275_2
              replace hx275_3:=bXc HB.out hx275_3
              replace hx275_4:=bXc HB.out hx275_4
              replace hx275_5:=bXc HB.out hx275_5
              replace hx275_6:=bXc HB.out hx275_6
              replace hx275_7:=bXc HB.out hx275_7
              replace hx275_8:=bXc HB.out hx275_8
              replace p275:=eq_true p275
              replace q275:=eq_true q275
              refine start_ (n:=29) (S:=fun w' => w'.cell? (ad260.add ((x12_1).toNat * 9)) = some (.int .i64 ((rd_T71 l0 x12_1).f0)) ∧ w'.cell? ⟨(ad260.add ((x12_1).toNat * 9)).block,(ad260.add ((x12_1).toNat * 9)).off + 1,none⟩ = some (.string ((rd_T71 l0 x12_1).f1)) ∧ w'.cell? ⟨(ad260.add ((x12_1).toNat * 9)).block,(ad260.add ((x12_1).toNat * 9)).off + 2,none⟩ = some (.int .i64 ((rd_T71 l0 x12_1).f2)) ∧ w'.cell? ⟨(ad260.add ((x12_1).toNat * 9)).block,(ad260.add ((x12_1).toNat * 9)).off + 3,none⟩ = some (.int .i64 ((rd_T71 l0 x12_1).f3)) ∧ w'.cell? ⟨(ad260.add ((x12_1).toNat * 9)).block,(ad260.add ((x12_1).toNat * 9)).off + 4,none⟩ = some (.int .i64 ((rd_T71 l0 x12_1).f4)) ∧ w'.cell? ⟨(ad260.add ((x12_1).toNat * 9)).block,(ad260.add ((x12_1).toNat * 9)).off + 5,none⟩ = some (.int .i64 ((rd_T71 l0 x12_1).f5)) ∧ w'.cell? ⟨(ad260.add ((x12_1).toNat * 9)).block,(ad260.add ((x12_1).toNat * 9)).off + 6,none⟩ = some (.int .i64 ((rd_T71 l0 x12_1).f6)) ∧ w'.cell? ⟨(ad260.add ((x12_1).toNat * 9)).block,(ad260.add ((x12_1).toNat * 9)).off + 7,none⟩ = some (.int .i64 ((rd_T71 l0 x12_1).f7)) ∧ w'.cell? ⟨(ad260.add ((x12_1).toNat * 9)).block,(ad260.add ((x12_1).toNat * 9)).off + 8,none⟩ = some (.int .i64 ((rd_T71 l0 x12_1).f8)) ∧ w'.cell? (ad260.add ((x12_1).toNat * 9)) = some (.int .i64 ((rd_T71 l0 x12_1).f0)) ∧ w'.cell? ⟨(ad260.add ((x12_1).toNat * 9)).block,(ad260.add ((x12_1).toNat * 9)).off + 1,none⟩ = some (.string ((rd_T71 l0 x12_1).f1)) ∧ w'.cell? ⟨(ad260.add ((x12_1).toNat * 9)).block,(ad260.add ((x12_1).toNat * 9)).off + 2,none⟩ = some (.int .i64 ((rd_T71 l0 x12_1).f2)) ∧ w'.cell? ⟨(ad260.add ((x12_1).toNat * 9)).block,(ad260.add ((x12_1).toNat * 9)).off + 3,none⟩ = some (.int .i64 ((rd_T71 l0 x12_1).f3)) ∧ w'.cell? ⟨(ad260.add ((x12_1).toNat * 9)).block,(ad260.add ((x12_1).toNat * 9)).off + 4,none⟩ = some (.int .i64 ((rd_T71 l0 x12_1).f4)) ∧ w'.cell? ⟨(ad260.add ((x12_1).toNat * 9)).block,(ad260.add ((x12_1).toNat * 9)).off + 5,none⟩ = some (.int .i64 ((rd_T71 l0 x12_1).f5)) ∧ w'.cell? ⟨(ad260.add ((x12_1).toNat * 9)).block,(ad260.add ((x12_1).toNat * 9)).off + 6,none⟩ = some (.int .i64 ((rd_T71 l0 x12_1).f6)) ∧ w'.cell? ⟨(ad260.add ((x12_1).toNat * 9)).block,(ad260.add ((x12_1).toNat * 9)).off + 7,none⟩ = some (.int .i64 ((rd_T71 l0 x12_1).f7)) ∧ w'.cell? ⟨(ad260.add ((x12_1).toNat * 9)).block,(ad260.add ((x12_1).toNat * 9)).off + 8,none⟩ = some (.int .i64 ((rd_T71 l0 x12_1).f8)) ∧ w'.cell? (ad260.add ((x12_1).toNat * 9)) = some (.int .i64 ((rd_T71 l0 x12_1).f0)) ∧ w'.cell? ⟨(ad260.add ((x12_1).toNat * 9)).block,(ad260.add ((x12_1).toNat * 9)).off + 1,none⟩ = some (.string ((rd_T71 l0 x12_1).f1)) ∧ w'.cell? ⟨(ad260.add ((x12_1).toNat * 9)).block,(ad260.add ((x12_1).toNat * 9)).off + 2,none⟩ = some (.int .i64 ((rd_T71 l0 x12_1).f2)) ∧ w'.cell? ⟨(ad260.add ((x12_1).toNat * 9)).block,(ad260.add ((x12_1).toNat * 9)).off + 3,none⟩ = some (.int .i64 ((rd_T71 l0 x12_1).f3)) ∧ w'.cell? ⟨(ad260.add ((x12_1).toNat * 9)).block,(ad260.add ((x12_1).toNat * 9)).off + 4,none⟩ = some (.int .i64 ((rd_T71 l0 x12_1).f4)) ∧ w'.cell? ⟨(ad260.add ((x12_1).toNat * 9)).block,(ad260.add ((x12_1).toNat * 9)).off + 5,none⟩ = some (.int .i64 ((rd_T71 l0 x12_1).f5)) ∧ w'.cell? ⟨(ad260.add ((x12_1).toNat * 9)).block,(ad260.add ((x12_1).toNat * 9)).off + 6,none⟩ = some (.int .i64 ((rd_T71 l0 x12_1).f6)) ∧ w'.cell? ⟨(ad260.add ((x12_1).toNat * 9)).block,(ad260.add ((x12_1).toNat * 9)).off + 7,none⟩ = some (.int .i64 ((rd_T71 l0 x12_1).f7)) ∧ w'.cell? ⟨(ad260.add ((x12_1).toNat * 9)).block,(ad260.add ((x12_1).toNat * 9)).off + 8,none⟩ = some (.int .i64 ((rd_T71 l0 x12_1).f8)) ∧ w'.cell? (ad260.add ((x12_1).toNat * 9)) = some (.int .i64 ((rd_T71 l0 x12_1).f0)) ∧ w'.cell? ⟨(ad260.add ((x12_1).toNat * 9)).block,(ad260.add ((x12_1).toNat * 9)).off + 1,none⟩ = some (.string ((rd_T71 l0 x12_1).f1)) ∧ w'.cell? ⟨(ad260.add ((x12_1).toNat * 9)).block,(ad260.add ((x12_1).toNat * 9)).off + 2,none⟩ = some (.int .i64 ((rd_T71 l0 x12_1).f2)) ∧ w'.cell? ⟨(ad260.add ((x12_1).toNat * 9)).block,(ad260.add ((x12_1).toNat * 9)).off + 3,none⟩ = some (.int .i64 ((rd_T71 l0 x12_1).f3)) ∧ w'.cell? ⟨(ad260.add ((x12_1).toNat * 9)).block,(ad260.add ((x12_1).toNat * 9)).off + 4,none⟩ = some (.int .i64 ((rd_T71 l0 x12_1).f4)) ∧ w'.cell? ⟨(ad260.add ((x12_1).toNat * 9)).block,(ad260.add ((x12_1).toNat * 9)).off + 5,none⟩ = some (.int .i64 ((rd_T71 l0 x12_1).f5)) ∧ w'.cell? ⟨(ad260.add ((x12_1).toNat * 9)).block,(ad260.add ((x12_1).toNat * 9)).off + 6,none⟩ = some (.int .i64 ((rd_T71 l0 x12_1).f6)) ∧ w'.cell? ⟨(ad260.add ((x12_1).toNat * 9)).block,(ad260.add ((x12_1).toNat * 9)).off + 7,none⟩ = some (.int .i64 ((rd_T71 l0 x12_1).f7)) ∧ w'.cell? ⟨(ad260.add ((x12_1).toNat * 9)).block,(ad260.add ((x12_1).toNat * 9)).off + 8,none⟩ = some (.int .i64 ((rd_T71 l0 x12_1).f8)) ∧ w'.cell? (ad260.add ((x12_1).toNat * 9)) = some (.int .i64 ((rd_T71 l0 x12_1).f0)) ∧ w'.cell? ⟨(ad260.add ((x12_1).toNat * 9)).block,(ad260.add ((x12_1).toNat * 9)).off + 1,none⟩ = some (.string ((rd_T71 l0 x12_1).f1)) ∧ w'.cell? ⟨(ad260.add ((x12_1).toNat * 9)).block,(ad260.add ((x12_1).toNat * 9)).off + 2,none⟩ = some (.int .i64 ((rd_T71 l0 x12_1).f2)) ∧ w'.cell? ⟨(ad260.add ((x12_1).toNat * 9)).block,(ad260.add ((x12_1).toNat * 9)).off + 3,none⟩ = some (.int .i64 ((rd_T71 l0 x12_1).f3)) ∧ w'.cell? ⟨(ad260.add ((x12_1).toNat * 9)).block,(ad260.add ((x12_1).toNat * 9)).off + 4,none⟩ = some (.int .i64 ((rd_T71 l0 x12_1).f4)) ∧ w'.cell? ⟨(ad260.add ((x12_1).toNat * 9)).block,(ad260.add ((x12_1).toNat * 9)).off + 5,none⟩ = some (.int .i64 ((rd_T71 l0 x12_1).f5)) ∧ w'.cell? ⟨(ad260.add ((x12_1).toNat * 9)).block,(ad260.add ((x12_1).toNat * 9)).off + 6,none⟩ = some (.int .i64 ((rd_T71 l0 x12_1).f6)) ∧ w'.cell? ⟨(ad260.add ((x12_1).toNat * 9)).block,(ad260.add ((x12_1).toNat * 9)).off + 7,none⟩ = some (.int .i64 ((rd_T71 l0 x12_1).f7)) ∧ w'.cell? ⟨(ad260.add ((x12_1).toNat * 9)).block,(ad260.add ((x12_1).toNat * 9)).off + 8,none⟩ = some (.int .i64 ((rd_T71 l0 x12_1).f8))) (ds:=[]) #[false,false,false,false,false,false,false,false,false,false,false,false,false,false,false,false,false,false,false,false,false,false,false,false,false,false,false,false,false] (by kernel_rfl) rfl rfl ⟨((HB.out.cell (wLt w _ hw271_0)).trans hw271_0),((HB.out.cell (wLt w _ hw271_1)).trans hw271_1),((HB.out.cell (wLt w _ hw271_2)).trans hw271_2),((HB.out.cell (wLt w _ hw271_3)).trans hw271_3),((HB.out.cell (wLt w _ hw271_4)).trans hw271_4),((HB.out.cell (wLt w _ hw271_5)).trans hw271_5),((HB.out.cell (wLt w _ hw271_6)).trans hw271_6),((HB.out.cell (wLt w _ hw271_7)).trans hw271_7),((HB.out.cell (wLt w _ hw271_8)).trans hw271_8),((HB.out.cell (wLt w _ hw272_0)).trans hw272_0),((HB.out.cell (wLt w _ hw272_1)).trans hw272_1),((HB.out.cell (wLt w _ hw272_2)).trans hw272_2),((HB.out.cell (wLt w _ hw272_3)).trans hw272_3),((HB.out.cell (wLt w _ hw272_4)).trans hw272_4),((HB.out.cell (wLt w _ hw272_5)).trans hw272_5),((HB.out.cell (wLt w _ hw272_6)).trans hw272_6),((HB.out.cell (wLt w _ hw272_7)).trans hw272_7),((HB.out.cell (wLt w _ hw272_8)).trans hw272_8),((HB.out.cell (wLt w _ hw273_0)).trans hw273_0),((HB.out.cell (wLt w _ hw273_1)).trans hw273_1),((HB.out.cell (wLt w _ hw273_2)).trans hw273_2),((HB.out.cell (wLt w _ hw273_3)).trans hw273_3),((HB.out.cell (wLt w _ hw273_4)).trans hw273_4),((HB.out.cell (wLt w _ hw273_5)).trans hw273_5),((HB.out.cell (wLt w _ hw273_6)).trans hw273_6),((HB.out.cell (wLt w _ hw273_7)).trans hw273_7),((HB.out.cell (wLt w _ hw273_8)).trans hw273_8),((HB.out.cell (wLt w _ hw274_0)).trans hw274_0),((HB.out.cell (wLt w _ hw274_1)).trans hw274_1),((HB.out.cell (wLt w _ hw274_2)).trans hw274_2),((HB.out.cell (wLt w _ hw274_3)).trans hw274_3),((HB.out.cell (wLt w _ hw274_4)).trans hw274_4),((HB.out.cell (wLt w _ hw274_5)).trans hw274_5),((HB.out.cell (wLt w _ hw274_6)).trans hw274_6),((HB.out.cell (wLt w _ hw274_7)).trans hw274_7),((HB.out.cell (wLt w _ hw274_8)).trans hw274_8),((HB.out.cell (wLt w _ hw275_0)).trans hw275_0),((HB.out.cell (wLt w _ hw275_1)).trans hw275_1),((HB.out.cell (wLt w _ hw275_2)).trans hw275_2),((HB.out.cell (wLt w _ hw275_3)).trans hw275_3),((HB.out.cell (wLt w _ hw275_4)).trans hw275_4),((HB.out.cell (wLt w _ hw275_5)).trans hw275_5),((HB.out.cell (wLt w _ hw275_6)).trans hw275_6),((HB.out.cell (wLt w _ hw275_7)).trans hw275_7),((HB.out.cell (wLt w _ hw275_8)).trans hw275_8)⟩ (fun hHeld => ?_);refine with_tabW impl_FlowsOK.tab9 impl_FlowsOK.bits9 (fun HT_ HW_ => ?_)
              generalize wc.drew = w24 at HB HR270 hx271_0 hx271_1 hx271_2 hx271_3 hx271_4 hx271_5 hx271_6 hx271_7 hx271_8 hx272_0 hx272_1 hx272_2 hx272_3 hx272_4 hx272_5 hx272_6 hx272_7 hx272_8 hx273_0 hx273_1 hx273_2 hx273_3 hx273_4 hx273_5 hx273_6 hx273_7 hx273_8 hx274_0 hx274_1 hx274_2 hx274_3 hx274_4 hx274_5 hx274_6 hx274_7 hx274_8 hx275_0 hx275_1 hx275_2 hx275_3 hx275_4 hx275_5 hx275_6 hx275_7 hx275_8 hHeld ⊢
              refine pure_ (i:=0) (N:=some 38) (v:=?_) (a':=?_) #[true,false,false,false,false,false,false,false,false,false,false,false,false,false,false,false,false,false,false,false,false,false,false,false,false,false,false,false,false] rfl rfl (any_of HT_.out (by kernel_rfl)) (fun _ _ _ h => h) (Or.inl ⟨by rfl,?_⟩) ?_ ?_
              rotate_left
              ·intro w'
               go_simp
               with_reducible rfl
              rotate_left
              ·simp only [Act.put,List.setIfInBounds_toArray,List.set_cons_zero,List.set_cons_succ,i64_w,i32_w]
               rfl
              refine pure_ (i:=1) (N:=some 39) (v:=?_) (a':=?_) #[true,true,false,false,false,false,false,false,false,false,false,false,false,false,false,false,false,false,false,false,false,false,false,false,false,false,false,false,false] rfl rfl (any_of HT_.out (by kernel_rfl)) (fun _ _ _ h => h) (Or.inl ⟨by rfl,?_⟩) ?_ ?_
              rotate_left
              ·intro w'
               go_simp
               with_reducible rfl
              rotate_left
              ·simp only [Act.put,List.setIfInBounds_toArray,List.set_cons_zero,List.set_cons_succ,i64_w,i32_w]
               rfl
              refine pure_ (i:=2) (N:=some 40) (v:=?_) (a':=?_) #[true,true,true,false,false,false,false,false,false,false,false,false,false,false,false,false,false,false,false,false,false,false,false,false,false,false,false,false,false] rfl rfl (any_of HT_.out (by kernel_rfl)) (fun _ _ _ h => h) (Or.inl ⟨by rfl,?_⟩) ?_ ?_
              rotate_left
              ·intro w'
               go_simp
               with_reducible rfl
              rotate_left
              ·simp only [Act.put,List.setIfInBounds_toArray,List.set_cons_zero,List.set_cons_succ,i64_w,i32_w]
               rfl
              refine pure_ (i:=3) (N:=some 41) (v:=?_) (a':=?_) #[true,true,true,true,false,false,false,false,false,false,false,false,false,false,false,false,false,false,false,false,false,false,false,false,false,false,false,false,false] rfl rfl (any_of HT_.out (by kernel_rfl)) (fun _ _ _ h => h) (Or.inl ⟨by rfl,?_⟩) ?_ ?_
              rotate_left
              ·intro w'
               go_simp
               with_reducible rfl
              rotate_left
              ·simp only [Act.put,List.setIfInBounds_toArray,List.set_cons_zero,List.set_cons_succ,i64_w,i32_w]
               rfl
              refine pure_ (i:=4) (N:=some 42) (v:=?_) (a':=?_) #[true,true,true,true,true,false,false,false,false,false,false,false,false,false,false,false,false,false,false,false,false,false,false,false,false,false,false,false,false] rfl rfl (any_of HT_.out (by kernel_rfl)) (fun _ _ _ h => h) (Or.inl ⟨by rfl,?_⟩) ?_ ?_
              rotate_left
              ·intro w'
               go_simp
               with_reducible rfl
              rotate_left
              ·simp only [Act.put,List.setIfInBounds_toArray,List.set_cons_zero,List.set_cons_succ,i64_w,i32_w]
               rfl
              refine pure_ (i:=5) (N:=some 43) (v:=?_) (a':=?_) #[true,true,true,true,true,true,false,false,false,false,false,false,false,false,false,false,false,false,false,false,false,false,false,false,false,false,false,false,false] rfl rfl (any_of HT_.out (by kernel_rfl)) (fun _ _ _ h => h) (Or.inl ⟨by rfl,?_⟩) ?_ ?_
              rotate_left
              ·intro w'
               go_simp
               with_reducible rfl
              rotate_left
              ·simp only [Act.put,List.setIfInBounds_toArray,List.set_cons_zero,List.set_cons_succ,i64_w,i32_w]
               rfl
              refine pure_ (i:=7) (N:=some 45) (v:=?_) (a':=?_) #[true,true,true,true,true,true,false,true,false,false,false,false,false,false,false,false,false,false,false,false,false,false,false,false,false,false,false,false,false] rfl rfl (any_of HT_.out (by kernel_rfl)) (fun _ _ _ h => h) (Or.inl ⟨by rfl,?_⟩) ?_ ?_
              rotate_left
              ·intro w'
               go_simp
               with_reducible rfl
              rotate_left
              ·simp only [Act.put,List.setIfInBounds_toArray,List.set_cons_zero,List.set_cons_succ,i64_w,i32_w]
               rfl
              refine pure_ (i:=8) (N:=some 46) (v:=?_) (a':=?_) #[true,true,true,true,true,true,false,true,true,false,false,false,false,false,false,false,false,false,false,false,false,false,false,false,false,false,false,false,false] rfl rfl (any_of HT_.out (by kernel_rfl)) (fun _ _ _ h => h) (Or.inl ⟨by rfl,?_⟩) ?_ ?_
              rotate_left
              ·intro w'
               go_simp
               with_reducible rfl
              rotate_left
              ·simp only [Act.put,List.setIfInBounds_toArray,List.set_cons_zero,List.set_cons_succ,i64_w,i32_w]
               rfl
              refine pure_ (i:=9) (N:=some 47) (v:=?_) (a':=?_) #[true,true,true,true,true,true,false,true,true,true,false,false,false,false,false,false,false,false,false,false,false,false,false,false,false,false,false,false,false] rfl rfl (any_of HT_.out (by kernel_rfl)) (fun _ _ _ h => h) (Or.inl ⟨by rfl,?_⟩) ?_ ?_
              rotate_left
              ·intro w'
               go_simp
               with_reducible rfl
              rotate_left
              ·simp only [Act.put,List.setIfInBounds_toArray,List.set_cons_zero,List.set_cons_succ,i64_w,i32_w]
               rfl
              refine pure_ (i:=11) (N:=some 49) (v:=?_) (a':=?_) #[true,true,true,true,true,true,false,true,true,true,false,true,false,false,false,false,false,false,false,false,false,false,false,false,false,false,false,false,false] rfl rfl (any_of HT_.out (by kernel_rfl)) (fun _ _ _ h => h) (Or.inl ⟨by rfl,?_⟩) ?_ ?_
              rotate_left
              ·intro w'
               go_simp
               with_reducible rfl
              rotate_left
              ·simp only [Act.put,List.setIfInBounds_toArray,List.set_cons_zero,List.set_cons_succ,i64_w,i32_w]
               rfl
              refine pure_ (i:=12) (N:=some 50) (v:=?_) (a':=?_) #[true,true,true,true,true,true,false,true,true,true,false,true,true,false,false,false,false,false,false,false,false,false,false,false,false,false,false,false,false] rfl rfl (any_of HT_.out (by kernel_rfl)) (fun _ _ _ h => h) (Or.inl ⟨by rfl,?_⟩) ?_ ?_
              rotate_left
              ·intro w'
               go_simp
               with_reducible rfl
              rotate_left
              ·simp only [Act.put,List.setIfInBounds_toArray,List.set_cons_zero,List.set_cons_succ,i64_w,i32_w]
               rfl
              refine pure_ (i:=13) (N:=some 51) (v:=?_) (a':=?_) #[true,true,true,true,true,true,false,true,true,true,false,true,true,true,false,false,false,false,false,false,false,false,false,false,false,false,false,false,false] rfl rfl (any_of HT_.out (by kernel_rfl)) (fun _ _ _ h => h) (Or.inl ⟨by rfl,?_⟩) ?_ ?_
              rotate_left
              ·intro w'
               go_simp
               with_reducible rfl
              rotate_left
              ·simp only [Act.put,List.setIfInBounds_toArray,List.set_cons_zero,List.set_cons_succ,i64_w,i32_w]
               rfl
              refine pure_ (i:=15) (N:=some 53) (v:=?_) (a':=?_) #[true,true,true,true,true,true,false,true,true,true,false,true,true,true,false,true,false,false,false,false,false,false,false,false,false,false,false,false,false] rfl rfl (any_of HT_.out (by kernel_rfl)) (fun _ _ _ h => h) (Or.inl ⟨by rfl,?_⟩) ?_ ?_
              rotate_left
              ·intro w'
               go_simp
               with_reducible rfl
              rotate_left
              ·simp only [Act.put,List.setIfInBounds_toArray,List.set_cons_zero,List.set_cons_succ,i64_w,i32_w]
               rfl
              refine pure_ (i:=16) (N:=some 54) (v:=?_) (a':=?_) #[true,true,true,true,true,true,false,true,true,true,false,true,true,true,false,true,true,false,false,false,false,false,false,false,false,false,false,false,false] rfl rfl (any_of HT_.out (by kernel_rfl)) (fun _ _ _ h => h) (Or.inl ⟨by rfl,?_⟩) ?_ ?_
              rotate_left
              ·intro w'
               go_simp
               with_reducible rfl
              rotate_left
              ·simp only [Act.put,List.setIfInBounds_toArray,List.set_cons_zero,List.set_cons_succ,i64_w,i32_w]
               rfl
              refine pure_ (i:=17) (N:=some 55) (v:=?_) (a':=?_) #[true,true,true,true,true,true,false,true,true,true,false,true,true,true,false,true,true,true,false,false,false,false,false,false,false,false,false,false,false] rfl rfl (any_of HT_.out (by kernel_rfl)) (fun _ _ _ h => h) (Or.inl ⟨by rfl,?_⟩) ?_ ?_
              rotate_left
              ·intro w'
               go_simp
               with_reducible rfl
              rotate_left
              ·simp only [Act.put,List.setIfInBounds_toArray,List.set_cons_zero,List.set_cons_succ,i64_w,i32_w]
               rfl
              refine pure_ (i:=19) (N:=some 57) (v:=?_) (a':=?_) #[true,true,true,true,true,true,false,true,true,true,false,true,true,true,false,true,true,true,false,true,false,false,false,false,false,false,false,false,false] rfl rfl (any_of HT_.out (by kernel_rfl)) (fun _ _ _ h => h) (Or.inl ⟨by rfl,?_⟩) ?_ ?_
              rotate_left
              ·intro w'
               go_simp
               with_reducible rfl
              rotate_left
              ·simp only [Act.put,List.setIfInBounds_toArray,List.set_cons_zero,List.set_cons_succ,i64_w,i32_w]
               rfl
              refine pure_ (i:=20) (N:=some 58) (v:=?_) (a':=?_) #[true,true,true,true,true,true,false,true,true,true,false,true,true,true,false,true,true,true,false,true,true,false,false,false,false,false,false,false,false] rfl rfl (any_of HT_.out (by kernel_rfl)) (fun _ _ _ h => h) (Or.inl ⟨by rfl,?_⟩) ?_ ?_
              rotate_left
              ·intro w'
               go_simp
               with_reducible rfl
              rotate_left
              ·simp only [Act.put,List.setIfInBounds_toArray,List.set_cons_zero,List.set_cons_succ,i64_w,i32_w]
               rfl
              refine pure_ (i:=21) (N:=some 59) (v:=?_) (a':=?_) #[true,true,true,true,true,true,false,true,true,true,false,true,true,true,false,true,true,true,false,true,true,true,false,false,false,false,false,false,false] rfl rfl (any_of HT_.out (by kernel_rfl)) (fun _ _ _ h => h) (Or.inl ⟨by rfl,?_⟩) ?_ ?_
              rotate_left
              ·intro w'
               go_simp
               with_reducible rfl
              rotate_left
              ·simp only [Act.put,List.setIfInBounds_toArray,List.set_cons_zero,List.set_cons_succ,i64_w,i32_w]
               rfl
              refine take_ (i:=6) (N:=some 44) (v:=?_) (a':=?_) #[true,true,true,true,true,true,true,true,true,true,false,true,true,true,false,true,true,true,false,true,true,true,false,false,false,false,false,false,false] rfl rfl (take_ofW HT_.out HW_.out (by kernel_rfl)) (fun _ _ _ h => h) (Or.inl ⟨by rfl,?_⟩) hHeld ?_ ?_
              rotate_left
              ·rintro w' ⟨s0,s1,s2,s3,s4,s5,s6,s7,s8,s9,s10,s11,s12,s13,s14,s15,s16,s17,s18,s19,s20,s21,s22,s23,s24,s25,s26,s27,s28,s29,s30,s31,s32,s33,s34,s35,s36,s37,s38,s39,s40,s41,s42,s43,s44⟩
               go_simp
               with_reducible rfl
              rotate_left
              ·simp only [Act.put,List.setIfInBounds_toArray,List.set_cons_zero,List.set_cons_succ,i64_w,i32_w]
               rfl
              refine take_ (i:=10) (N:=some 48) (v:=?_) (a':=?_) #[true,true,true,true,true,true,true,true,true,true,true,true,true,true,false,true,true,true,false,true,true,true,false,false,false,false,false,false,false] rfl rfl (take_ofW HT_.out HW_.out (by kernel_rfl)) (fun _ _ _ h => h) (Or.inl ⟨by rfl,?_⟩) hHeld ?_ ?_
              rotate_left
              ·rintro w' ⟨s0,s1,s2,s3,s4,s5,s6,s7,s8,s9,s10,s11,s12,s13,s14,s15,s16,s17,s18,s19,s20,s21,s22,s23,s24,s25,s26,s27,s28,s29,s30,s31,s32,s33,s34,s35,s36,s37,s38,s39,s40,s41,s42,s43,s44⟩
               go_simp
               with_reducible rfl
              rotate_left
              ·simp only [Act.put,List.setIfInBounds_toArray,List.set_cons_zero,List.set_cons_succ,i64_w,i32_w]
               rfl
              refine take_ (i:=14) (N:=some 52) (v:=?_) (a':=?_) #[true,true,true,true,true,true,true,true,true,true,true,true,true,true,true,true,true,true,false,true,true,true,false,false,false,false,false,false,false] rfl rfl (take_ofW HT_.out HW_.out (by kernel_rfl)) (fun _ _ _ h => h) (Or.inl ⟨by rfl,?_⟩) hHeld ?_ ?_
              rotate_left
              ·rintro w' ⟨s0,s1,s2,s3,s4,s5,s6,s7,s8,s9,s10,s11,s12,s13,s14,s15,s16,s17,s18,s19,s20,s21,s22,s23,s24,s25,s26,s27,s28,s29,s30,s31,s32,s33,s34,s35,s36,s37,s38,s39,s40,s41,s42,s43,s44⟩
               go_simp
               with_reducible rfl
              rotate_left
              ·simp only [Act.put,List.setIfInBounds_toArray,List.set_cons_zero,List.set_cons_succ,i64_w,i32_w]
               rfl
              refine take_ (i:=18) (N:=some 56) (v:=?_) (a':=?_) #[true,true,true,true,true,true,true,true,true,true,true,true,true,true,true,true,true,true,true,true,true,true,false,false,false,false,false,false,false] rfl rfl (take_ofW HT_.out HW_.out (by kernel_rfl)) (fun _ _ _ h => h) (Or.inl ⟨by rfl,?_⟩) hHeld ?_ ?_
              rotate_left
              ·rintro w' ⟨s0,s1,s2,s3,s4,s5,s6,s7,s8,s9,s10,s11,s12,s13,s14,s15,s16,s17,s18,s19,s20,s21,s22,s23,s24,s25,s26,s27,s28,s29,s30,s31,s32,s33,s34,s35,s36,s37,s38,s39,s40,s41,s42,s43,s44⟩
               go_simp
               with_reducible rfl
              rotate_left
              ·simp only [Act.put,List.setIfInBounds_toArray,List.set_cons_zero,List.set_cons_succ,i64_w,i32_w]
               rfl
              refine take_ (i:=22) (N:=some 60) (v:=?_) (a':=?_) #[true,true,true,true,true,true,true,true,true,true,true,true,true,true,true,true,true,true,true,true,true,true,true,false,false,false,false,false,false] rfl rfl (take_ofW HT_.out HW_.out (by kernel_rfl)) (fun _ _ _ h => h) (Or.inl ⟨by rfl,?_⟩) hHeld ?_ ?_
              rotate_left
              ·rintro w' ⟨s0,s1,s2,s3,s4,s5,s6,s7,s8,s9,s10,s11,s12,s13,s14,s15,s16,s17,s18,s19,s20,s21,s22,s23,s24,s25,s26,s27,s28,s29,s30,s31,s32,s33,s34,s35,s36,s37,s38,s39,s40,s41,s42,s43,s44⟩
               go_simp
               with_reducible rfl
              rotate_left
              ·simp only [Act.put,List.setIfInBounds_toArray,List.set_cons_zero,List.set_cons_succ,i64_w,i32_w]
               rfl
              refine one_ (i:=23) (N:=some 61) #[true,true,true,true,true,true,true,true,true,true,true,true,true,true,true,true,true,true,true,true,true,true,true,true,false,false,false,false,false] rfl rfl (one_of HT_.out (by kernel_rfl)) (by decide) (fun K hK => ?_)
              refine goes_ Try.func78 (by kernel_rfl) rfl #[.slice (some ad260) y267.length c0,.int .i64 ((rd_T71 l0 x12_1).f0),.int .i64 ((rd_T71 l0 x12_1).f2),.int .i64 ((rd_T71 l0 x12_1).f3),.int .i64 ((rd_T71 l0 x12_1).f4),.int .i64 ((rd_T71 l0 x12_1).f5)] (by rfl) rfl rfl (by (try simp only [List.map_toArray,List.map_cons,List.map_nil]);first | done | rfl|(simp only [List.length_drop,List.length_take];rfl)) ?_
              with_reducible refine (impl_find.calls kj5 _ _ y267 ((rd_T71 l0 x12_1).f0) ((rd_T71 l0 x12_1).f2) ((rd_T71 l0 x12_1).f3) ((rd_T71 l0 x12_1).f4) ((rd_T71 l0 x12_1).f5) t276 t277 _ ?side1 ?side2 A19.out).mono ?_
              (case side1 => repeat (first|exact (Kd.C_below HR270.out HB.out)|(with_reducible refine Kd.C_alloc ?_ _)|(with_reducible refine Kd.C_drewN ?_ _)|(with_reducible refine Kd.C_drew ?_)))
              (case side2 => exact HC270.out)
              rintro e w26 ⟨rfl,hb⟩
              refine ⟨_,rfl,?_⟩
              have n0_:=aMk (bSt hb)
              clear HB
              have HB:=n0_
              clear n0_
              (try clear hb)
              (try clear hb2)
              (try clear hk)
              (try clear hi)
              refine hK.out _ _ ⟨((HB.out.cell (wLt w _ hw271_0)).trans hw271_0),((HB.out.cell (wLt w _ hw271_1)).trans hw271_1),((HB.out.cell (wLt w _ hw271_2)).trans hw271_2),((HB.out.cell (wLt w _ hw271_3)).trans hw271_3),((HB.out.cell (wLt w _ hw271_4)).trans hw271_4),((HB.out.cell (wLt w _ hw271_5)).trans hw271_5),((HB.out.cell (wLt w _ hw271_6)).trans hw271_6),((HB.out.cell (wLt w _ hw271_7)).trans hw271_7),((HB.out.cell (wLt w _ hw271_8)).trans hw271_8),((HB.out.cell (wLt w _ hw272_0)).trans hw272_0),((HB.out.cell (wLt w _ hw272_1)).trans hw272_1),((HB.out.cell (wLt w _ hw272_2)).trans hw272_2),((HB.out.cell (wLt w _ hw272_3)).trans hw272_3),((HB.out.cell (wLt w _ hw272_4)).trans hw272_4),((HB.out.cell (wLt w _ hw272_5)).trans hw272_5),((HB.out.cell (wLt w _ hw272_6)).trans hw272_6),((HB.out.cell (wLt w _ hw272_7)).trans hw272_7),((HB.out.cell (wLt w _ hw272_8)).trans hw272_8),((HB.out.cell (wLt w _ hw273_0)).trans hw273_0),((HB.out.cell (wLt w _ hw273_1)).trans hw273_1),((HB.out.cell (wLt w _ hw273_2)).trans hw273_2),((HB.out.cell (wLt w _ hw273_3)).trans hw273_3),((HB.out.cell (wLt w _ hw273_4)).trans hw273_4),((HB.out.cell (wLt w _ hw273_5)).trans hw273_5),((HB.out.cell (wLt w _ hw273_6)).trans hw273_6),((HB.out.cell (wLt w _ hw273_7)).trans hw273_7),((HB.out.cell (wLt w _ hw273_8)).trans hw273_8),((HB.out.cell (wLt w _ hw274_0)).trans hw274_0),((HB.out.cell (wLt w _ hw274_1)).trans hw274_1),((HB.out.cell (wLt w _ hw274_2)).trans hw274_2),((HB.out.cell (wLt w _ hw274_3)).trans hw274_3),((HB.out.cell (wLt w _ hw274_4)).trans hw274_4),((HB.out.cell (wLt w _ hw274_5)).trans hw274_5),((HB.out.cell (wLt w _ hw274_6)).trans hw274_6),((HB.out.cell (wLt w _ hw274_7)).trans hw274_7),((HB.out.cell (wLt w _ hw274_8)).trans hw274_8),((HB.out.cell (wLt w _ hw275_0)).trans hw275_0),((HB.out.cell (wLt w _ hw275_1)).trans hw275_1),((HB.out.cell (wLt w _ hw275_2)).trans hw275_2),((HB.out.cell (wLt w _ hw275_3)).trans hw275_3),((HB.out.cell (wLt w _ hw275_4)).trans hw275_4),((HB.out.cell (wLt w _ hw275_5)).trans hw275_5),((HB.out.cell (wLt w _ hw275_6)).trans hw275_6),((HB.out.cell (wLt w _ hw275_7)).trans hw275_7),((HB.out.cell (wLt w _ hw275_8)).trans hw275_8)⟩ (fun hHeld => ?_)
              clear hK K
              refine norm_ (a':=?_) ?_ ?_
              rotate_left
              ·show Act.put _ (some 61) _ = _
               simp only [Act.put,List.setIfInBounds_toArray,List.set_cons_zero,List.set_cons_succ,i64_w,i32_w]
               rfl
              refine pure_ (i:=24) (N:=some 37) (v:=?_) (a':=?_) #[true,true,true,true,true,true,true,true,true,true,true,true,true,true,true,true,true,true,true,true,true,true,true,true,true,false,false,false,false] rfl rfl (any_of HT_.out (by kernel_rfl)) (fun _ _ _ h => h) (Or.inl ⟨by rfl,?_⟩) ?_ ?_
              rotate_left
              ·intro w'
               go_simp
               with_reducible rfl
              rotate_left
              ·simp only [Act.put,List.setIfInBounds_toArray,List.set_cons_zero,List.set_cons_succ,i64_w,i32_w]
               rfl
              refine pure_ (i:=25) (N:=some 62) (v:=?_) (a':=?_) #[true,true,true,true,true,true,true,true,true,true,true,true,true,true,true,true,true,true,true,true,true,true,true,true,true,true,false,false,false] rfl rfl (any_of HT_.out (by kernel_rfl)) (fun _ _ _ h => h) (Or.inl ⟨by rfl,?_⟩) ?_ ?_
              rotate_left
              ·intro w'
               go_simp
               with_reducible rfl
              rotate_left
              ·simp only [Act.put,List.setIfInBounds_toArray,List.set_cons_zero,List.set_cons_succ,i64_w,i32_w]
               rfl
              refine pure_ (i:=26) (N:=some 63) (v:=?_) (a':=?_) #[true,true,true,true,true,true,true,true,true,true,true,true,true,true,true,true,true,true,true,true,true,true,true,true,true,true,true,false,false] rfl rfl (any_of HT_.out (by kernel_rfl)) (fun _ _ _ h => h) (Or.inl ⟨by rfl,?_⟩) ?_ ?_
              rotate_left
              ·intro w'
               go_simp
               with_reducible rfl
              rotate_left
              ·simp only [Act.put,List.setIfInBounds_toArray,List.set_cons_zero,List.set_cons_succ,i64_w,i32_w]
               rfl
              refine pure_ (i:=27) (N:=some 5) (v:=?_) (a':=?_) #[true,true,true,true,true,true,true,true,true,true,true,true,true,true,true,true,true,true,true,true,true,true,true,true,true,true,true,true,false] rfl rfl (any_of HT_.out (by kernel_rfl)) (fun _ _ _ h => h) (Or.inl ⟨by rfl,?_⟩) ?_ ?_
              rotate_left
              ·intro w'
               go_simp
               with_reducible rfl
              rotate_left
              ·simp only [Act.put,List.setIfInBounds_toArray,List.set_cons_zero,List.set_cons_succ,i64_w,i32_w]
               rfl
              refine pure_ (i:=28) (N:=some 6) (v:=?_) (a':=?_) #[true,true,true,true,true,true,true,true,true,true,true,true,true,true,true,true,true,true,true,true,true,true,true,true,true,true,true,true,true] rfl rfl (any_of HT_.out (by kernel_rfl)) (fun _ _ _ h => h) (Or.inl ⟨by rfl,?_⟩) ?_ ?_
              rotate_left
              ·intro w'
               go_simp
               with_reducible rfl
              rotate_left
              ·simp only [Act.put,List.setIfInBounds_toArray,List.set_cons_zero,List.set_cons_succ,i64_w,i32_w]
               rfl
              refine done_ (done_of HT_.out (by kernel_rfl)) ?_
              try go_wp2
              go_roundg kj5
              case measure => have:=HK1.out;have:=HJ5.out;omega
              case rel => exact ⟨(wrap64 (x12_1 + 1)),(by first | rfl|(simp;done)|(simp [*];done)|(simp [ne_nil_b];done)|(simp [ne_nil_b, *];done)),H',⟨by have:=HK1.out;have:=HJ5.out;omega⟩,⟨by repeat (first|(with_reducible first|exact HB.out|apply bwA|apply bwN|apply bw1)|exact HB.out)⟩⟩
            ·rw [if_neg c18] at H
             exact absurd H (by simp)
           ·rw [if_neg c17] at H
            exact absurd H (by simp)
          ·rw [if_neg c16] at H
           exact absurd H (by simp)
      ·rw [if_neg c5] at H
       exact absurd H (by simp)
     ·rw [if_neg c4] at H
      exact absurd H (by simp)
    ·rw [if_neg c3] at H
     have c3b0 : decide (x12_1 < (l0.length : Int)) = false:=decide_eq_false c3
     clear c3
     obtain rfl:=Option.some.inj H
     go_wp2
     go_ret
     exact ⟨eRf,by repeat (first|(with_reducible first|exact HB.out|apply bwA|apply bwN|apply bw1)|exact HB.out)⟩
end
section
/-! ### impl_flowsFault: function 81 -/
def impl_flowsFault.f (k : Nat) (l0 : List (S71)) : Option (Int):=if (l0.length : Int) > 4096 then (some 2) else ((impl_FlowsOK.f k l0).bind fun t306 => (if t306 = true then (some 0) else (some 1)))
theorem impl_flowsFault.mono : ∀ a0 k,LeO (impl_flowsFault.f k a0) (impl_flowsFault.f (k + 1) a0):=by
 intro a0 k
 unfold impl_flowsFault.f
 repeat' first
   | (with_reducible exact impl_FlowsOK.mono ..)
   | (with_reducible exact LeO.refl _)
   | (with_reducible exact LeO.none _)
   | (with_reducible refine LeO.ite ?_ ?_)
   | (with_reducible refine LeO.bind ?_ (fun _ => ?_))
   | exact impl_FlowsOK.mono ..
   | exact LeO.none _
   | refine LeO.ite ?_ ?_
   | refine LeO.bind ?_ (fun _ => ?_)
set_option maxHeartbeats 8000000 in
set_option maxRecDepth 100000 in
theorem impl_flowsFault.calls (k : Nat) (A0 : Option Addr) (c0 : Nat) (l0 : List (S71)) (r : Int) (w : World) (hr0 : Kd.C k71 w A0 l0.length l0) (hc0 : l0.length ≤ c0) (h : impl_flowsFault.f k l0 = some r) :
  Calls Try.prog 81 #[.slice A0 l0.length c0] w fun e w' => e = .returned (.int .i64 r) ∧ Below w.heap.size w w':=by
 have HR0:=aMk hr0
 have HC0:=aMk hc0
 clear hr0 hc0
 have HB:=aMk (Below.refl w.heap.size w)
 have H : (if (l0.length : Int) > 4096 then (some 2) else ((impl_FlowsOK.f k l0).bind fun t306 => (if t306 = true then (some 0) else (some 1)))) = some r:=h
 clear h
 by_cases c2 : (l0.length : Int) > 4096
 ·rw [if_pos c2] at H
  have c2b0 : decide (4096 < (l0.length : Int)) = true:=decide_eq_true c2
  have c2b1 : decide (4096 < l0.length) = true:=decide_eq_true (by omega)
  clear c2
  obtain rfl:=Option.some.inj H
  go_enter Try.func81,Try.ntmps81
  go_wp2
  go_ret
  exact ⟨eRf,by repeat (first|(with_reducible first|exact HB.out|apply bwA|apply bwN|apply bw1)|exact HB.out)⟩
 ·rw [if_neg c2] at H
  have c2b0 : decide (4096 < (l0.length : Int)) = false:=decide_eq_false c2
  have c2b1 : decide (4096 < l0.length) = false:=decide_eq_false (by omega)
  clear c2
  replace H:=Option.bind_eq_some_iff.mp H
  obtain ⟨t306,A30,H⟩:=H
  replace H : (if t306 = true then (some 0) else (some 1)) = some r:=H
  have A3:=aMk A30
  clear A30
  by_cases c4 : t306 = true
  ·subst c4
   have H1 : (some 0) = some r:=by rw [if_pos rfl] at H;exact H
   clear H
   have H:=H1
   clear H1
   obtain rfl:=Option.some.inj H
   go_enter Try.func81,Try.ntmps81
   go_wp2_with (first|((with_reducible refine gate_callee (f:=29) rfl ?_);refine gLs 9 Try.func29 #[.slice A0 l0.length c0] ?_;(with_reducible refine (impl_FlowsOK.calls k _ _ l0 true _ ?side1 ?side2 A3.out).mono ?_);(case side1 => repeat (first|exact HR0.out|(with_reducible refine Kd.C_alloc ?_ _)|(with_reducible refine Kd.C_drewN ?_ _)|(with_reducible refine Kd.C_drew ?_)));(case side2 => exact HC0.out);rintro e w5 ⟨rfl,hb⟩;refine ⟨_,rfl,?_⟩;have n0_:=aMk (bSt hb);clear HB;have HB:=n0_;clear n0_;(try clear hb);(try clear hb2);(try clear hk);(try clear hi)))
   go_ret
   exact ⟨eRf,by repeat (first|(with_reducible first|exact HB.out|apply bwA|apply bwN|apply bw1)|exact HB.out)⟩
  ·replace c4:=Bool.eq_false_iff.mpr c4
   subst c4
   have H1 : (some 1) = some r:=by rw [if_neg (show ¬ (false = true) by decide)] at H;exact H
   clear H
   have H:=H1
   clear H1
   obtain rfl:=Option.some.inj H
   go_enter Try.func81,Try.ntmps81
   go_wp2_with (first|((with_reducible refine gate_callee (f:=29) rfl ?_);refine gLs 9 Try.func29 #[.slice A0 l0.length c0] ?_;(with_reducible refine (impl_FlowsOK.calls k _ _ l0 false _ ?side1 ?side2 A3.out).mono ?_);(case side1 => repeat (first|exact HR0.out|(with_reducible refine Kd.C_alloc ?_ _)|(with_reducible refine Kd.C_drewN ?_ _)|(with_reducible refine Kd.C_drew ?_)));(case side2 => exact HC0.out);rintro e w6 ⟨rfl,hb⟩;refine ⟨_,rfl,?_⟩;have n0_:=aMk (bSt hb);clear HB;have HB:=n0_;clear n0_;(try clear hb);(try clear hb2);(try clear hk);(try clear hi)))
   go_ret
   exact ⟨eRf,by repeat (first|(with_reducible first|exact HB.out|apply bwA|apply bwN|apply bw1)|exact HB.out)⟩
end
section
/-! ### impl_isTime: function 98 -/
def impl_isTime.f (a0 : Int) : Option (Bool):=(impl_within.f a0 0 100000).bind fun t1017 => (some t1017)
set_option maxHeartbeats 8000000 in
set_option maxRecDepth 100000 in
theorem impl_isTime.calls (a0 : Int) (r : Bool) (w : World) (h : impl_isTime.f a0 = some r) :
  Calls Try.prog 98 #[.int .i64 a0] w fun e w' => e = .returned (.bool r) ∧ Drawn0 w w':=by
 have H : ((impl_within.f a0 0 100000).bind fun t1017 => (some t1017)) = some r:=h
 clear h
 replace H:=Option.bind_eq_some_iff.mp H
 obtain ⟨t1017,A20,H⟩:=H
 replace H : (some t1017) = some r:=H
 have A2:=aMk A20
 clear A20
 obtain rfl:=Option.some.inj H
 go_enter Try.func98,Try.ntmps98
 go_wp2_with (first|((with_reducible refine gate_callee (f:=62) rfl ?_);refine gLs 4 Try.func62 #[.int .i64 a0,.int .i64 0,.int .i64 100000] ?_;(with_reducible refine (impl_within.calls a0 0 100000 t1017 _ A2.out).mono ?_);rintro e w' ⟨rfl,⟨nd,rfl⟩⟩;refine ⟨_,rfl,?_⟩))
 go_ret
 exact ⟨by first | rfl|(simp;done)|(simp [*];done)|(simp [ne_nil_b];done)|(simp [ne_nil_b, *];done),by repeat (first|exact Drawn0.refl _|apply Drawn0.step)⟩
end
section
/-! ### impl_FlowPass: function 56 -/
def impl_FlowPass.j0 : Nat → List (S71) → Int → Bool → Int → Int → Bool → Option ((List (S71)) × Int)
 | 0,_,_,_,_,_,_ => none
 | k + 1,x0,x1,x2,x3,x4,x33 => if x33 = true then (some (([] : List (S71)),4)) else ((impl_Flow_100.f x0).bind fun t1186 => ((impl_flowPass.f k t1186 x1 x2 x3 x4).bind fun t1189 => (some (t1189,0))))
def impl_FlowPass.f (k : Nat) (l0 : List (S71)) (a1 : Int) (a2 : Bool) (a3 : Int) (a4 : Int) : Option ((List (S71)) × Int):=(impl_flowsFault.f k l0).bind fun t1182 => (if t1182 = 0 then ((impl_within.f a1 0 (wrap64 ((l0.length : Int) - 1))).bind fun t1183 => (if t1183 = true then ((impl_within.f a3 0 31).bind fun t1184 => (if t1184 = true then ((impl_isTime.f a4).bind fun t1185 => (impl_FlowPass.j0 k l0 a1 a2 a3 a4 (!t1185))) else (impl_FlowPass.j0 k l0 a1 a2 a3 a4 true))) else (impl_FlowPass.j0 k l0 a1 a2 a3 a4 true))) else (some (([] : List (S71)),t1182)))
theorem impl_FlowPass.mono_l : ∀ k,(∀ y0 y1 y2 y3 y4 y5,LeO (impl_FlowPass.j0 k y0 y1 y2 y3 y4 y5) (impl_FlowPass.j0 (k + 1) y0 y1 y2 y3 y4 y5))
 | 0 => fun _ _ _ _ _ _ r h => by simp [impl_FlowPass.j0] at h
 | k + 1 => by
  have ih0:=impl_FlowPass.mono_l k
  ·intro y0 y1 y2 y3 y4 y5
   unfold impl_FlowPass.j0
   repeat' first
   | (with_reducible exact ih0 _ _ _ _ _ _)
   | (with_reducible exact impl_flowPass.mono ..)
   | (with_reducible exact impl_flowsFault.mono ..)
   | (with_reducible exact LeO.refl _)
   | (with_reducible exact LeO.none _)
   | (with_reducible refine LeO.ite ?_ ?_)
   | (with_reducible refine LeO.bind ?_ (fun _ => ?_))
   | exact ih0 _ _ _ _ _ _
   | exact impl_flowPass.mono ..
   | exact impl_flowsFault.mono ..
   | exact LeO.none _
   | refine LeO.ite ?_ ?_
   | refine LeO.bind ?_ (fun _ => ?_)
theorem impl_FlowPass.mono : ∀ a0 a1 a2 a3 a4 k,LeO (impl_FlowPass.f k a0 a1 a2 a3 a4) (impl_FlowPass.f (k + 1) a0 a1 a2 a3 a4):=by
 intro a0 a1 a2 a3 a4 k
 have ih0:=impl_FlowPass.mono_l k
 unfold impl_FlowPass.f
 repeat' first
   | (with_reducible exact ih0 _ _ _ _ _ _)
   | (with_reducible exact impl_flowPass.mono ..)
   | (with_reducible exact impl_flowsFault.mono ..)
   | (with_reducible exact LeO.refl _)
   | (with_reducible exact LeO.none _)
   | (with_reducible refine LeO.ite ?_ ?_)
   | (with_reducible refine LeO.bind ?_ (fun _ => ?_))
   | exact ih0 _ _ _ _ _ _
   | exact impl_flowPass.mono ..
   | exact impl_flowsFault.mono ..
   | exact LeO.none _
   | refine LeO.ite ?_ ?_
   | refine LeO.bind ?_ (fun _ => ?_)
set_option maxHeartbeats 8000000 in
set_option maxRecDepth 100000 in
theorem impl_FlowPass.calls (k : Nat) (A0 : Option Addr) (c0 : Nat) (l0 : List (S71)) (a1 : Int) (a2 : Bool) (a3 : Int) (a4 : Int) (r1 : List (S71)) (r2 : Int) (w : World) (hr0 : Kd.C k71 w A0 l0.length l0) (hc0 : l0.length ≤ c0) (h : impl_FlowPass.f k l0 a1 a2 a3 a4 = some (r1,r2)) :
  Calls Try.prog 56 #[.slice A0 l0.length c0,.int .i64 a1,.bool a2,.int .i64 a3,.int .i64 a4] w fun e w' => ∃ v0_ : Value,e = .returned (.tuple #[v0_,.int .i64 r2]) ∧ Kd.R k71 71 w' w.heap.size (fun _ => True) v0_ r1 ∧ Below w.heap.size w w':=by
 have HR0:=aMk hr0
 have HC0:=aMk hc0
 clear hr0 hc0
 have HB:=aMk (Below.refl w.heap.size w)
 have H : ((impl_flowsFault.f k l0).bind fun t1182 => (if t1182 = 0 then ((impl_within.f a1 0 (wrap64 ((l0.length : Int) - 1))).bind fun t1183 => (if t1183 = true then ((impl_within.f a3 0 31).bind fun t1184 => (if t1184 = true then ((impl_isTime.f a4).bind fun t1185 => (impl_FlowPass.j0 k l0 a1 a2 a3 a4 (!t1185))) else (impl_FlowPass.j0 k l0 a1 a2 a3 a4 true))) else (impl_FlowPass.j0 k l0 a1 a2 a3 a4 true))) else (some (([] : List (S71)),t1182)))) = some (r1,r2):=h
 clear h
 replace H:=Option.bind_eq_some_iff.mp H
 obtain ⟨t1182,A60,H⟩:=H
 replace H : (if t1182 = 0 then ((impl_within.f a1 0 (wrap64 ((l0.length : Int) - 1))).bind fun t1183 => (if t1183 = true then ((impl_within.f a3 0 31).bind fun t1184 => (if t1184 = true then ((impl_isTime.f a4).bind fun t1185 => (impl_FlowPass.j0 k l0 a1 a2 a3 a4 (!t1185))) else (impl_FlowPass.j0 k l0 a1 a2 a3 a4 true))) else (impl_FlowPass.j0 k l0 a1 a2 a3 a4 true))) else (some (([] : List (S71)),t1182))) = some (r1,r2):=H
 have A6:=aMk A60
 clear A60
 by_cases c7 : t1182 = 0
 ·rw [if_pos c7] at H
  have c7b0 : (t1182 == 0) = true:=beq_iff_eq.mpr c7
  have c7b1 : (t1182 != 0) = false:=bne_eq_false_iff_eq.mpr c7
  clear c7
  have HC8:=aMk H
  clear H
  go_enter Try.func56,Try.ntmps56
  go_upto_region 4 with (first|((with_reducible refine gate_callee (f:=81) rfl ?_);refine gLs 14 Try.func81 #[.slice A0 l0.length c0] ?_;(with_reducible refine (impl_flowsFault.calls k _ _ l0 t1182 _ ?side1 ?side2 A6.out).mono ?_);(case side1 => repeat (first|exact HR0.out|(with_reducible refine Kd.C_alloc ?_ _)|(with_reducible refine Kd.C_drewN ?_ _)|(with_reducible refine Kd.C_drew ?_)));(case side2 => exact HC0.out);rintro e w9 ⟨rfl,hb⟩;refine ⟨_,rfl,?_⟩;have n0_:=aMk (bSt hb);clear HB;have HB:=n0_;clear n0_;(try clear hb);(try clear hb2);(try clear hk);(try clear hi)))
  (try simp only [Act.put,List.setIfInBounds_toArray,List.set_cons_zero,List.set_cons_succ])
  go_cut [33] (fun v33 wc => ∃ (kq : Nat) (x33_7 : Bool),v33 = .bool x33_7 ∧ Aside0 (impl_FlowPass.j0 kq l0 a1 a2 a3 a4 x33_7 = some (r1,r2)) ∧ Aside0 (kq ≤ k) ∧ Aside0 (Below w.heap.size w wc))
  case first =>
   have H:=HC8.out
   clear HC8
   replace H:=Option.bind_eq_some_iff.mp H
   obtain ⟨t1183,A100,H⟩:=H
   replace H : (if t1183 = true then ((impl_within.f a3 0 31).bind fun t1184 => (if t1184 = true then ((impl_isTime.f a4).bind fun t1185 => (impl_FlowPass.j0 k l0 a1 a2 a3 a4 (!t1185))) else (impl_FlowPass.j0 k l0 a1 a2 a3 a4 true))) else (impl_FlowPass.j0 k l0 a1 a2 a3 a4 true)) = some (r1,r2):=H
   have A10:=aMk A100
   clear A100
   by_cases c11 : t1183 = true
   ·subst c11
    have H1 : ((impl_within.f a3 0 31).bind fun t1184 => (if t1184 = true then ((impl_isTime.f a4).bind fun t1185 => (impl_FlowPass.j0 k l0 a1 a2 a3 a4 (!t1185))) else (impl_FlowPass.j0 k l0 a1 a2 a3 a4 true))) = some (r1,r2):=by rw [if_pos rfl] at H;exact H
    clear H
    have H:=H1
    clear H1
    replace H:=Option.bind_eq_some_iff.mp H
    obtain ⟨t1184,A120,H⟩:=H
    replace H : (if t1184 = true then ((impl_isTime.f a4).bind fun t1185 => (impl_FlowPass.j0 k l0 a1 a2 a3 a4 (!t1185))) else (impl_FlowPass.j0 k l0 a1 a2 a3 a4 true)) = some (r1,r2):=H
    have A12:=aMk A120
    clear A120
    by_cases c13 : t1184 = true
    ·subst c13
     have H1 : ((impl_isTime.f a4).bind fun t1185 => (impl_FlowPass.j0 k l0 a1 a2 a3 a4 (!t1185))) = some (r1,r2):=by rw [if_pos rfl] at H;exact H
     clear H
     have H:=H1
     clear H1
     replace H:=Option.bind_eq_some_iff.mp H
     obtain ⟨t1185,A140,H⟩:=H
     replace H : (impl_FlowPass.j0 k l0 a1 a2 a3 a4 (!t1185)) = some (r1,r2):=H
     have A14:=aMk A140
     clear A140
     have H':=aMk H
     clear H
     go_wp2_with (first|((with_reducible refine gate_callee (f:=62) rfl ?_);refine gLs 22 Try.func62 #[.int .i64 a1,.int .i64 0,.int .i64 (wrap64 ((l0.length : Int) - 1))] ?_;(with_reducible refine (impl_within.calls a1 0 (wrap64 ((l0.length : Int) - 1)) true _ A10.out).mono ?_);rintro e w' ⟨rfl,⟨nd,rfl⟩⟩;refine ⟨_,rfl,?_⟩)|(go_at_call 62;(with_reducible refine (impl_within.calls a3 0 31 true _ A12.out).mono ?_);rintro e w' ⟨rfl,⟨nd,rfl⟩⟩)|(go_at_call 98;(with_reducible refine (impl_isTime.calls a4 t1185 _ A14.out).mono ?_);rintro e w' ⟨rfl,⟨nd,rfl⟩⟩))
     go_meet
     case rel => exact ⟨_,(!t1185),(by first | rfl|(simp;done)|(simp [*];done)|(simp [ne_nil_b];done)|(simp [ne_nil_b, *];done)),H',⟨by first | omega|exact Nat.le_refl _⟩,⟨by repeat (first|(with_reducible first|exact HB.out|apply bwA|apply bwN|apply bw1)|exact HB.out)⟩⟩
    ·replace c13:=Bool.eq_false_iff.mpr c13
     subst c13
     have H1 : (impl_FlowPass.j0 k l0 a1 a2 a3 a4 true) = some (r1,r2):=by rw [if_neg (show ¬ (false = true) by decide)] at H;exact H
     clear H
     have H:=H1
     clear H1
     have H':=aMk H
     clear H
     go_wp2_with (first|((with_reducible refine gate_callee (f:=62) rfl ?_);refine gLs 22 Try.func62 #[.int .i64 a1,.int .i64 0,.int .i64 (wrap64 ((l0.length : Int) - 1))] ?_;(with_reducible refine (impl_within.calls a1 0 (wrap64 ((l0.length : Int) - 1)) true _ A10.out).mono ?_);rintro e w' ⟨rfl,⟨nd,rfl⟩⟩;refine ⟨_,rfl,?_⟩)|(go_at_call 62;(with_reducible refine (impl_within.calls a3 0 31 false _ A12.out).mono ?_);rintro e w' ⟨rfl,⟨nd,rfl⟩⟩))
     go_meet
     case rel => exact ⟨_,(true),(by first | rfl|(simp;done)|(simp [*];done)|(simp [ne_nil_b];done)|(simp [ne_nil_b, *];done)),H',⟨by first | omega|exact Nat.le_refl _⟩,⟨by repeat (first|(with_reducible first|exact HB.out|apply bwA|apply bwN|apply bw1)|exact HB.out)⟩⟩
   ·replace c11:=Bool.eq_false_iff.mpr c11
    subst c11
    have H1 : (impl_FlowPass.j0 k l0 a1 a2 a3 a4 true) = some (r1,r2):=by rw [if_neg (show ¬ (false = true) by decide)] at H;exact H
    clear H
    have H:=H1
    clear H1
    have H':=aMk H
    clear H
    go_wp2_with (first|((with_reducible refine gate_callee (f:=62) rfl ?_);refine gLs 22 Try.func62 #[.int .i64 a1,.int .i64 0,.int .i64 (wrap64 ((l0.length : Int) - 1))] ?_;(with_reducible refine (impl_within.calls a1 0 (wrap64 ((l0.length : Int) - 1)) false _ A10.out).mono ?_);rintro e w' ⟨rfl,⟨nd,rfl⟩⟩;refine ⟨_,rfl,?_⟩))
    go_meet
    case rel => exact ⟨_,(true),(by first | rfl|(simp;done)|(simp [*];done)|(simp [ne_nil_b];done)|(simp [ne_nil_b, *];done)),H',⟨by first | omega|exact Nat.le_refl _⟩,⟨by repeat (first|(with_reducible first|exact HB.out|apply bwA|apply bwN|apply bw1)|exact HB.out)⟩⟩
  case rest =>
   clear HC8
   try clear c1
   try clear p2
   try clear c5
   try clear c6
   try clear p6
   try clear c7
   try clear c7b0
   try clear c7b1
   try clear c8
   try clear c11
   try clear c13
   obtain ⟨kq,x33_7,rfl,HA,HJ7,HB⟩:=hcut
   cases kq with
   | zero => exact absurd HA.out (by simp [impl_FlowPass.j0])
   | succ kj7 =>
    have H:=HA.out
    clear HA
    simp only [impl_FlowPass.j0] at H
    by_cases c15 : x33_7 = true
    ·subst c15
     have H1 : (some (([] : List (S71)),4)) = some (r1,r2):=by rw [if_pos rfl] at H;exact H
     clear H
     have H:=H1
     clear H1
     simp only [Option.some.injEq,Prod.mk.injEq] at H
     obtain ⟨rfl,rfl⟩:=H
     go_wp2
     go_ret2
     exact ⟨_,by first | rfl|(simp [errW_none,errW_some] <;> rfl)|(simp [*,errW_none,errW_some] <;> rfl),by first|exact Kd.R_nil _ _ _ _ _|exact Kd.N_nil _ _ _ _ _|exact Kd.V_nil _ _ _ _ _|exact Kd.Q_nil _ _ _ _ _|exact Kd.S_nil _ _ _ _ _,by repeat (first|(with_reducible first|exact HB.out|apply bwA|apply bwN|apply bw1)|exact HB.out)⟩
    ·replace c15:=Bool.eq_false_iff.mpr c15
     subst c15
     have H1 : ((impl_Flow_100.f l0).bind fun t1186 => ((impl_flowPass.f kj7 t1186 a1 a2 a3 a4).bind fun t1189 => (some (t1189,0)))) = some (r1,r2):=by rw [if_neg (show ¬ (false = true) by decide)] at H;exact H
     clear H
     have H:=H1
     clear H1
     replace H:=Option.bind_eq_some_iff.mp H
     obtain ⟨t1186,A160,H⟩:=H
     replace H : ((impl_flowPass.f kj7 t1186 a1 a2 a3 a4).bind fun t1189 => (some (t1189,0))) = some (r1,r2):=H
     have A16:=aMk A160
     clear A160
     replace H:=Option.bind_eq_some_iff.mp H
     obtain ⟨t1189,A170,H⟩:=H
     replace H : (some (t1189,0)) = some (r1,r2):=H
     have A17:=aMk A170
     clear A170
     simp only [Option.some.injEq,Prod.mk.injEq] at H
     obtain ⟨rfl,rfl⟩:=H
     go_wp2_with (first|((with_reducible refine gate_callee (f:=100) rfl ?_);refine gLs 35 Try.func100 #[.slice A0 l0.length c0] ?_;(with_reducible refine (impl_Flow_100.calls _ _ l0 t1186 _ ?side1 ?side2 A16.out).mono ?_);(case side1 => repeat (first|exact (Kd.C_below HR0.out HB.out)|(with_reducible refine Kd.C_alloc ?_ _)|(with_reducible refine Kd.C_drewN ?_ _)|(with_reducible refine Kd.C_drew ?_)));(case side2 => exact HC0.out);rintro e w18 ⟨v1187,rfl,ho0,hb⟩;refine ⟨_,rfl,?_⟩;have n0_:=aMk (Kd.R_lower ho0 bSz);have n1_:=aMk (bSt hb);clear HB;have HO1188:=n0_;have HB:=n1_;clear n0_ n1_;(try clear hb);(try clear hb2);(try clear hk);(try clear hi);(try clear ho0);obtain ⟨Ao19,co19,eo19⟩:=Kd.R_slice HO1188.out;subst eo19)|((with_reducible refine gate_callee (f:=102) rfl ?_);refine gLs 40 Try.func102 #[.slice Ao19 t1186.length co19,.int .i64 a1,.bool a2,.int .i64 a3,.int .i64 a4] ?_;(with_reducible refine (impl_flowPass.calls kj7 (fun k_ => some k_ = (.slice Ao19 t1186.length co19 : Value).ownBlock) (.slice Ao19 t1186.length co19) t1186 a1 a2 a3 a4 t1189 w _ ?side1 ?side2 A17.out).mono ?_);(case side1 => repeat (first|(with_reducible first|exact HB.out|apply bwA|apply bwN|apply bw1)|exact HB.out));(case side2 => exact Kd.R_tight rfl HO1188.out);rintro e w20 ⟨v1190,rfl,ho0,hb,hkp⟩;refine ⟨_,rfl,?_⟩;have n0_:=aMk (Kd.R_mono (ok':=fun k_ => True) ho0 (fun k_ hk_ => trivial));have n1_:=aMk (hb);clear HB;clear HO1188;have HO1191:=n0_;have HB:=n1_;clear n0_ n1_;(try clear hb);(try clear hkp);(try clear ho0)))
     go_ret2
     exact ⟨_,by first | rfl|(simp [errW_none,errW_some] <;> rfl)|(simp [*,errW_none,errW_some] <;> rfl),by (with_reducible repeat (first|apply Kd.R_alloc|apply Kd.R_drewN|apply Kd.R_drew));exact HO1191.out,by repeat (first|(with_reducible first|exact HB.out|apply bwA|apply bwN|apply bw1)|exact HB.out)⟩
 ·rw [if_neg c7] at H
  have c7b0 : (t1182 == 0) = false:=beq_eq_false_iff_ne.mpr c7
  have c7b1 : (t1182 != 0) = true:=bne_iff_ne.mpr c7
  simp only [Option.some.injEq,Prod.mk.injEq] at H
  obtain ⟨rfl,rfl⟩:=H
  go_enter Try.func56,Try.ntmps56
  go_wp2_with (first|((with_reducible refine gate_callee (f:=81) rfl ?_);refine gLs 14 Try.func81 #[.slice A0 l0.length c0] ?_;(with_reducible refine (impl_flowsFault.calls k _ _ l0 t1182 _ ?side1 ?side2 A6.out).mono ?_);(case side1 => repeat (first|exact HR0.out|(with_reducible refine Kd.C_alloc ?_ _)|(with_reducible refine Kd.C_drewN ?_ _)|(with_reducible refine Kd.C_drew ?_)));(case side2 => exact HC0.out);rintro e w21 ⟨rfl,hb⟩;refine ⟨_,rfl,?_⟩;have n0_:=aMk (bSt hb);clear HB;have HB:=n0_;clear n0_;(try clear hb);(try clear hb2);(try clear hk);(try clear hi)))
  go_ret2
  exact ⟨_,by first | rfl|(simp [errW_none,errW_some] <;> rfl)|(simp [*,errW_none,errW_some] <;> rfl),by first|exact Kd.R_nil _ _ _ _ _|exact Kd.N_nil _ _ _ _ _|exact Kd.V_nil _ _ _ _ _|exact Kd.Q_nil _ _ _ _ _|exact Kd.S_nil _ _ _ _ _,by repeat (first|(with_reducible first|exact HB.out|apply bwA|apply bwN|apply bw1)|exact HB.out)⟩
end
section
/-! ### laws_FnExactFlowPass: function 15 -/
mutual
def laws_FnExactFlowPass.j0 : Nat → List (S68) → Int → Bool → Int → Int → List (S71) → Int → List (S71) → List (S71) → Int → Bool → Option (Bool)
 | 0,_,_,_,_,_,_,_,_,_,_,_ => none
 | k + 1,x0,x1,x2,x3,x4,x12,x13,x14,x15,x16,x56 => if x56 = true then (some false) else ((laws_toFlowS.f k x0).bind fun t1208 => ((laws_eqFlowS.f k x14 t1208).bind fun t1211 => (if t1211 = true then ((laws_markFlowS.f k x14 1).bind fun bt1212 => (if bt1212.1 < 0 then (laws_FnExactFlowPass.j1 k x0 x1 x2 x3 x4 x12 x13 x15 true) else ((laws_eqFlowS.f k x15 x12).bind fun t1214 => (if t1214 = true then (laws_FnExactFlowPass.j1 k x0 x1 x2 x3 x4 x12 x13 x15 (x16 != x13)) else (laws_FnExactFlowPass.j1 k x0 x1 x2 x3 x4 x12 x13 x15 true))))) else (some false))))
def laws_FnExactFlowPass.j1 : Nat → List (S68) → Int → Bool → Int → Int → List (S71) → Int → List (S71) → Bool → Option (Bool)
 | 0,_,_,_,_,_,_,_,_,_ => none
 | k + 1,x0,x1,x2,x3,x4,x12,x13,x15,x77 => if x77 = true then (some false) else ((laws_markFlowS.f k x15 1).bind fun bt1215 => ((laws_heldFlowS.f k bt1215.2 1).bind fun t1217 => (if t1217 < 0 then (some false) else (if t1217 = bt1215.1 then ((laws_toFlowS.f k x0).bind fun t1218 => ((impl_FlowPass.f k t1218 x1 x2 x3 x4).bind fun bt1221 => ((laws_eqFlowS.f k bt1221.1 x12).bind fun t1225 => (if t1225 = true then (laws_FnExactFlowPass.j2 k bt1215.2 bt1215.1 (bt1221.2 != x13)) else (laws_FnExactFlowPass.j2 k bt1215.2 bt1215.1 true))))) else (some false)))))
def laws_FnExactFlowPass.j2 : Nat → List (S71) → Int → Bool → Option (Bool)
 | 0,_,_,_ => none
 | k + 1,x15,x18,x107 => if x107 = true then (some false) else ((laws_heldFlowS.f k x15 1).bind fun t1226 => (if t1226 < 0 then (some false) else (if t1226 = x18 then (some true) else (some false))))
end
def laws_FnExactFlowPass.f (k : Nat) (l0 : List (S68)) (a1 : Int) (a2 : Bool) (a3 : Int) (a4 : Int) : Option (Bool):=(laws_szFlowS.f k l0 1048576).bind fun t1192 => (if t1192 < 0 then (some true) else ((laws_toFlowS.f k l0).bind fun t1193 => ((spec_FlowPass.f k t1193 a1 a2 a3 a4).bind fun bt1196 => ((laws_toFlowS.f k l0).bind fun t1200 => ((impl_FlowPass.f k t1200 a1 a2 a3 a4).bind fun bt1203 => ((laws_eqFlowS.f k bt1203.1 bt1196.1).bind fun t1207 => (if t1207 = true then (laws_FnExactFlowPass.j0 k l0 a1 a2 a3 a4 bt1196.1 bt1196.2 t1200 bt1203.1 bt1203.2 (bt1203.2 != bt1196.2)) else (laws_FnExactFlowPass.j0 k l0 a1 a2 a3 a4 bt1196.1 bt1196.2 t1200 bt1203.1 bt1203.2 true))))))))
theorem laws_FnExactFlowPass.mono_l : ∀ k,(∀ y0 y1 y2 y3 y4 y5 y6 y7 y8 y9 y10,LeO (laws_FnExactFlowPass.j0 k y0 y1 y2 y3 y4 y5 y6 y7 y8 y9 y10) (laws_FnExactFlowPass.j0 (k + 1) y0 y1 y2 y3 y4 y5 y6 y7 y8 y9 y10)) ∧ (∀ y0 y1 y2 y3 y4 y5 y6 y7 y8,LeO (laws_FnExactFlowPass.j1 k y0 y1 y2 y3 y4 y5 y6 y7 y8) (laws_FnExactFlowPass.j1 (k + 1) y0 y1 y2 y3 y4 y5 y6 y7 y8)) ∧ (∀ y0 y1 y2,LeO (laws_FnExactFlowPass.j2 k y0 y1 y2) (laws_FnExactFlowPass.j2 (k + 1) y0 y1 y2))
 | 0 => ⟨fun _ _ _ _ _ _ _ _ _ _ _ r h => by simp [laws_FnExactFlowPass.j0] at h,fun _ _ _ _ _ _ _ _ _ r h => by simp [laws_FnExactFlowPass.j1] at h,fun _ _ _ r h => by simp [laws_FnExactFlowPass.j2] at h⟩
 | k + 1 => by
  obtain ⟨ih0,ih1,ih2⟩:=laws_FnExactFlowPass.mono_l k
  refine ⟨?_,?_,?_⟩
  ·intro y0 y1 y2 y3 y4 y5 y6 y7 y8 y9 y10
   unfold laws_FnExactFlowPass.j0
   repeat' first
   | (with_reducible exact ih0 _ _ _ _ _ _ _ _ _ _ _)
   | (with_reducible exact ih1 _ _ _ _ _ _ _ _ _)
   | (with_reducible exact ih2 _ _ _)
   | (with_reducible exact impl_FlowPass.mono ..)
   | (with_reducible exact laws_eqFlowS.mono ..)
   | (with_reducible exact laws_heldFlowS.mono ..)
   | (with_reducible exact laws_markFlowS.mono ..)
   | (with_reducible exact laws_szFlowS.mono ..)
   | (with_reducible exact laws_toFlowS.mono ..)
   | (with_reducible exact spec_FlowPass.mono ..)
   | (with_reducible exact LeO.refl _)
   | (with_reducible exact LeO.none _)
   | (with_reducible refine LeO.ite ?_ ?_)
   | (with_reducible refine LeO.bind ?_ (fun _ => ?_))
   | exact ih0 _ _ _ _ _ _ _ _ _ _ _
   | exact ih1 _ _ _ _ _ _ _ _ _
   | exact ih2 _ _ _
   | exact impl_FlowPass.mono ..
   | exact laws_eqFlowS.mono ..
   | exact laws_heldFlowS.mono ..
   | exact laws_markFlowS.mono ..
   | exact laws_szFlowS.mono ..
   | exact laws_toFlowS.mono ..
   | exact spec_FlowPass.mono ..
   | exact LeO.none _
   | refine LeO.ite ?_ ?_
   | refine LeO.bind ?_ (fun _ => ?_)
  ·intro y0 y1 y2 y3 y4 y5 y6 y7 y8
   unfold laws_FnExactFlowPass.j1
   repeat' first
   | (with_reducible exact ih0 _ _ _ _ _ _ _ _ _ _ _)
   | (with_reducible exact ih1 _ _ _ _ _ _ _ _ _)
   | (with_reducible exact ih2 _ _ _)
   | (with_reducible exact impl_FlowPass.mono ..)
   | (with_reducible exact laws_eqFlowS.mono ..)
   | (with_reducible exact laws_heldFlowS.mono ..)
   | (with_reducible exact laws_markFlowS.mono ..)
   | (with_reducible exact laws_szFlowS.mono ..)
   | (with_reducible exact laws_toFlowS.mono ..)
   | (with_reducible exact spec_FlowPass.mono ..)
   | (with_reducible exact LeO.refl _)
   | (with_reducible exact LeO.none _)
   | (with_reducible refine LeO.ite ?_ ?_)
   | (with_reducible refine LeO.bind ?_ (fun _ => ?_))
   | exact ih0 _ _ _ _ _ _ _ _ _ _ _
   | exact ih1 _ _ _ _ _ _ _ _ _
   | exact ih2 _ _ _
   | exact impl_FlowPass.mono ..
   | exact laws_eqFlowS.mono ..
   | exact laws_heldFlowS.mono ..
   | exact laws_markFlowS.mono ..
   | exact laws_szFlowS.mono ..
   | exact laws_toFlowS.mono ..
   | exact spec_FlowPass.mono ..
   | exact LeO.none _
   | refine LeO.ite ?_ ?_
   | refine LeO.bind ?_ (fun _ => ?_)
  ·intro y0 y1 y2
   unfold laws_FnExactFlowPass.j2
   repeat' first
   | (with_reducible exact ih0 _ _ _ _ _ _ _ _ _ _ _)
   | (with_reducible exact ih1 _ _ _ _ _ _ _ _ _)
   | (with_reducible exact ih2 _ _ _)
   | (with_reducible exact impl_FlowPass.mono ..)
   | (with_reducible exact laws_eqFlowS.mono ..)
   | (with_reducible exact laws_heldFlowS.mono ..)
   | (with_reducible exact laws_markFlowS.mono ..)
   | (with_reducible exact laws_szFlowS.mono ..)
   | (with_reducible exact laws_toFlowS.mono ..)
   | (with_reducible exact spec_FlowPass.mono ..)
   | (with_reducible exact LeO.refl _)
   | (with_reducible exact LeO.none _)
   | (with_reducible refine LeO.ite ?_ ?_)
   | (with_reducible refine LeO.bind ?_ (fun _ => ?_))
   | exact ih0 _ _ _ _ _ _ _ _ _ _ _
   | exact ih1 _ _ _ _ _ _ _ _ _
   | exact ih2 _ _ _
   | exact impl_FlowPass.mono ..
   | exact laws_eqFlowS.mono ..
   | exact laws_heldFlowS.mono ..
   | exact laws_markFlowS.mono ..
   | exact laws_szFlowS.mono ..
   | exact laws_toFlowS.mono ..
   | exact spec_FlowPass.mono ..
   | exact LeO.none _
   | refine LeO.ite ?_ ?_
   | refine LeO.bind ?_ (fun _ => ?_)
theorem laws_FnExactFlowPass.mono : ∀ a0 a1 a2 a3 a4 k,LeO (laws_FnExactFlowPass.f k a0 a1 a2 a3 a4) (laws_FnExactFlowPass.f (k + 1) a0 a1 a2 a3 a4):=by
 intro a0 a1 a2 a3 a4 k
 obtain ⟨ih0,ih1,ih2⟩:=laws_FnExactFlowPass.mono_l k
 unfold laws_FnExactFlowPass.f
 repeat' first
   | (with_reducible exact ih0 _ _ _ _ _ _ _ _ _ _ _)
   | (with_reducible exact ih1 _ _ _ _ _ _ _ _ _)
   | (with_reducible exact ih2 _ _ _)
   | (with_reducible exact impl_FlowPass.mono ..)
   | (with_reducible exact laws_eqFlowS.mono ..)
   | (with_reducible exact laws_heldFlowS.mono ..)
   | (with_reducible exact laws_markFlowS.mono ..)
   | (with_reducible exact laws_szFlowS.mono ..)
   | (with_reducible exact laws_toFlowS.mono ..)
   | (with_reducible exact spec_FlowPass.mono ..)
   | (with_reducible exact LeO.refl _)
   | (with_reducible exact LeO.none _)
   | (with_reducible refine LeO.ite ?_ ?_)
   | (with_reducible refine LeO.bind ?_ (fun _ => ?_))
   | exact ih0 _ _ _ _ _ _ _ _ _ _ _
   | exact ih1 _ _ _ _ _ _ _ _ _
   | exact ih2 _ _ _
   | exact impl_FlowPass.mono ..
   | exact laws_eqFlowS.mono ..
   | exact laws_heldFlowS.mono ..
   | exact laws_markFlowS.mono ..
   | exact laws_szFlowS.mono ..
   | exact laws_toFlowS.mono ..
   | exact spec_FlowPass.mono ..
   | exact LeO.none _
   | refine LeO.ite ?_ ?_
   | refine LeO.bind ?_ (fun _ => ?_)
set_option maxHeartbeats 8000000 in
set_option maxRecDepth 100000 in
theorem laws_FnExactFlowPass.calls (k : Nat) (A0 : Option Addr) (c0 : Nat) (l0 : List (S68)) (a1 : Int) (a2 : Bool) (a3 : Int) (a4 : Int) (r : Bool) (w : World) (hr0 : Kd.C k68 w A0 l0.length l0) (hc0 : l0.length ≤ c0) (h : laws_FnExactFlowPass.f k l0 a1 a2 a3 a4 = some r) :
  Calls Try.prog 15 #[.slice A0 l0.length c0,.int .i64 a1,.bool a2,.int .i64 a3,.int .i64 a4] w fun e w' => e = .returned (.bool r) ∧ Below w.heap.size w w':=by
 have HR0:=aMk hr0
 have HC0:=aMk hc0
 clear hr0 hc0
 have HB:=aMk (Below.refl w.heap.size w)
 have H : ((laws_szFlowS.f k l0 1048576).bind fun t1192 => (if t1192 < 0 then (some true) else ((laws_toFlowS.f k l0).bind fun t1193 => ((spec_FlowPass.f k t1193 a1 a2 a3 a4).bind fun bt1196 => ((laws_toFlowS.f k l0).bind fun t1200 => ((impl_FlowPass.f k t1200 a1 a2 a3 a4).bind fun bt1203 => ((laws_eqFlowS.f k bt1203.1 bt1196.1).bind fun t1207 => (if t1207 = true then (laws_FnExactFlowPass.j0 k l0 a1 a2 a3 a4 bt1196.1 bt1196.2 t1200 bt1203.1 bt1203.2 (bt1203.2 != bt1196.2)) else (laws_FnExactFlowPass.j0 k l0 a1 a2 a3 a4 bt1196.1 bt1196.2 t1200 bt1203.1 bt1203.2 true))))))))) = some r:=h
 clear h
 replace H:=Option.bind_eq_some_iff.mp H
 obtain ⟨t1192,A60,H⟩:=H
 replace H : (if t1192 < 0 then (some true) else ((laws_toFlowS.f k l0).bind fun t1193 => ((spec_FlowPass.f k t1193 a1 a2 a3 a4).bind fun bt1196 => ((laws_toFlowS.f k l0).bind fun t1200 => ((impl_FlowPass.f k t1200 a1 a2 a3 a4).bind fun bt1203 => ((laws_eqFlowS.f k bt1203.1 bt1196.1).bind fun t1207 => (if t1207 = true then (laws_FnExactFlowPass.j0 k l0 a1 a2 a3 a4 bt1196.1 bt1196.2 t1200 bt1203.1 bt1203.2 (bt1203.2 != bt1196.2)) else (laws_FnExactFlowPass.j0 k l0 a1 a2 a3 a4 bt1196.1 bt1196.2 t1200 bt1203.1 bt1203.2 true)))))))) = some r:=H
 have A6:=aMk A60
 clear A60
 by_cases c7 : t1192 < 0
 ·rw [if_pos c7] at H
  have c7b0 : decide (t1192 < 0) = true:=decide_eq_true c7
  clear c7
  obtain rfl:=Option.some.inj H
  go_enter Try.func15,Try.ntmps15
  go_wp2_with (first|((with_reducible refine gate_callee (f:=26) rfl ?_);refine gLs 24 Try.func26 #[.slice A0 l0.length c0,.int .i64 1048576] ?_;(with_reducible refine (laws_szFlowS.calls k _ _ l0 1048576 t1192 _ ?side1 ?side2 A6.out).mono ?_);(case side1 => repeat (first|exact HR0.out|(with_reducible refine Kd.C_alloc ?_ _)|(with_reducible refine Kd.C_drewN ?_ _)|(with_reducible refine Kd.C_drew ?_)));(case side2 => exact HC0.out);rintro e w8 ⟨rfl,hb⟩;refine ⟨_,rfl,?_⟩;have n0_:=aMk (bSt hb);clear HB;have HB:=n0_;clear n0_;(try clear hb);(try clear hb2);(try clear hk);(try clear hi)))
  go_ret
  exact ⟨eRf,by repeat (first|(with_reducible first|exact HB.out|apply bwA|apply bwN|apply bw1)|exact HB.out)⟩
 ·rw [if_neg c7] at H
  have c7b0 : decide (t1192 < 0) = false:=decide_eq_false c7
  clear c7
  replace H:=Option.bind_eq_some_iff.mp H
  obtain ⟨t1193,A90,H⟩:=H
  replace H : ((spec_FlowPass.f k t1193 a1 a2 a3 a4).bind fun bt1196 => ((laws_toFlowS.f k l0).bind fun t1200 => ((impl_FlowPass.f k t1200 a1 a2 a3 a4).bind fun bt1203 => ((laws_eqFlowS.f k bt1203.1 bt1196.1).bind fun t1207 => (if t1207 = true then (laws_FnExactFlowPass.j0 k l0 a1 a2 a3 a4 bt1196.1 bt1196.2 t1200 bt1203.1 bt1203.2 (bt1203.2 != bt1196.2)) else (laws_FnExactFlowPass.j0 k l0 a1 a2 a3 a4 bt1196.1 bt1196.2 t1200 bt1203.1 bt1203.2 true)))))) = some r:=H
  have A9:=aMk A90
  clear A90
  replace H:=Option.bind_eq_some_iff.mp H
  obtain ⟨⟨t1196,t1197⟩,A100,H⟩:=H
  replace H : ((laws_toFlowS.f k l0).bind fun t1200 => ((impl_FlowPass.f k t1200 a1 a2 a3 a4).bind fun bt1203 => ((laws_eqFlowS.f k bt1203.1 t1196).bind fun t1207 => (if t1207 = true then (laws_FnExactFlowPass.j0 k l0 a1 a2 a3 a4 t1196 t1197 t1200 bt1203.1 bt1203.2 (bt1203.2 != t1197)) else (laws_FnExactFlowPass.j0 k l0 a1 a2 a3 a4 t1196 t1197 t1200 bt1203.1 bt1203.2 true))))) = some r:=H
  have A10:=aMk A100
  clear A100
  replace H:=Option.bind_eq_some_iff.mp H
  obtain ⟨t1200,A110,H⟩:=H
  replace H : ((impl_FlowPass.f k t1200 a1 a2 a3 a4).bind fun bt1203 => ((laws_eqFlowS.f k bt1203.1 t1196).bind fun t1207 => (if t1207 = true then (laws_FnExactFlowPass.j0 k l0 a1 a2 a3 a4 t1196 t1197 t1200 bt1203.1 bt1203.2 (bt1203.2 != t1197)) else (laws_FnExactFlowPass.j0 k l0 a1 a2 a3 a4 t1196 t1197 t1200 bt1203.1 bt1203.2 true)))) = some r:=H
  have A11:=aMk A110
  clear A110
  replace H:=Option.bind_eq_some_iff.mp H
  obtain ⟨⟨t1203,t1204⟩,A120,H⟩:=H
  replace H : ((laws_eqFlowS.f k t1203 t1196).bind fun t1207 => (if t1207 = true then (laws_FnExactFlowPass.j0 k l0 a1 a2 a3 a4 t1196 t1197 t1200 t1203 t1204 (t1204 != t1197)) else (laws_FnExactFlowPass.j0 k l0 a1 a2 a3 a4 t1196 t1197 t1200 t1203 t1204 true))) = some r:=H
  have A12:=aMk A120
  clear A120
  have HC13:=aMk H
  clear H
  go_enter Try.func15,Try.ntmps15
  go_upto_region 8 with (first|((with_reducible refine gate_callee (f:=26) rfl ?_);refine gLs 24 Try.func26 #[.slice A0 l0.length c0,.int .i64 1048576] ?_;(with_reducible refine (laws_szFlowS.calls k _ _ l0 1048576 t1192 _ ?side1 ?side2 A6.out).mono ?_);(case side1 => repeat (first|exact HR0.out|(with_reducible refine Kd.C_alloc ?_ _)|(with_reducible refine Kd.C_drewN ?_ _)|(with_reducible refine Kd.C_drew ?_)));(case side2 => exact HC0.out);rintro e w14 ⟨rfl,hb⟩;refine ⟨_,rfl,?_⟩;have n0_:=aMk (bSt hb);clear HB;have HB:=n0_;clear n0_;(try clear hb);(try clear hb2);(try clear hk);(try clear hi))|((with_reducible refine gate_callee (f:=28) rfl ?_);refine gLs 29 Try.func28 #[.slice A0 l0.length c0] ?_;(with_reducible refine (laws_toFlowS.calls k _ _ l0 t1193 _ ?side1 ?side2 A9.out).mono ?_);(case side1 => repeat (first|exact (Kd.C_below HR0.out HB.out)|(with_reducible refine Kd.C_alloc ?_ _)|(with_reducible refine Kd.C_drewN ?_ _)|(with_reducible refine Kd.C_drew ?_)));(case side2 => exact HC0.out);rintro e w15 ⟨v1194,rfl,ho0,hb⟩;refine ⟨_,rfl,?_⟩;have n0_:=aMk (Kd.R_lower ho0 bSz);have n1_:=aMk (bSt hb);clear HB;have HO1195:=n0_;have HB:=n1_;clear n0_ n1_;(try clear hb);(try clear hb2);(try clear hk);(try clear hi);(try clear ho0);obtain ⟨Ao16,co16,eo16⟩:=Kd.R_slice HO1195.out;subst eo16)|((with_reducible refine gate_callee (f:=55) rfl ?_);refine gLs 34 Try.func55 #[.slice Ao16 t1193.length co16,.int .i64 a1,.bool a2,.int .i64 a3,.int .i64 a4] ?_;(with_reducible refine (spec_FlowPass.calls k _ _ t1193 a1 a2 a3 a4 t1196 t1197 _ ?side1 ?side2 A10.out).mono ?_);(case side1 => repeat (first|exact (Kd.R_reads' HO1195.out).2.2|(with_reducible refine Kd.C_alloc ?_ _)|(with_reducible refine Kd.C_drewN ?_ _)|(with_reducible refine Kd.C_drew ?_)));(case side2 => exact (Kd.R_reads' HO1195.out).2.1);rintro e w17 ⟨v1198,rfl,ho0,hb⟩;refine ⟨_,rfl,?_⟩;have n0_:=aMk (Kd.R_elder' (by (with_reducible repeat (first|apply Kd.R_alloc|apply Kd.R_drewN|apply Kd.R_drew));exact HO1195.out) (Kd.R_base ho0) hb);have n1_:=aMk (Kd.R_lower (Kd.R_new' ho0 (Kd.R_lt (by (with_reducible repeat (first|apply Kd.R_alloc|apply Kd.R_drewN|apply Kd.R_drew));exact HO1195.out))) bSz);have n2_:=aMk (bSt hb);clear HO1195;clear HB;have HO1195:=n0_;have HO1199:=n1_;have HB:=n2_;clear n0_ n1_ n2_;(try clear hb);(try clear hb2);(try clear hk);(try clear hi);(try clear ho0))|((with_reducible refine gate_callee (f:=28) rfl ?_);refine gLs 38 Try.func28 #[.slice A0 l0.length c0] ?_;(with_reducible refine (laws_toFlowS.calls k _ _ l0 t1200 _ ?side1 ?side2 A11.out).mono ?_);(case side1 => repeat (first|exact (Kd.C_below HR0.out HB.out)|(with_reducible refine Kd.C_alloc ?_ _)|(with_reducible refine Kd.C_drewN ?_ _)|(with_reducible refine Kd.C_drew ?_)));(case side2 => exact HC0.out);rintro e w18 ⟨v1201,rfl,ho0,hb⟩;refine ⟨_,rfl,?_⟩;have n0_:=aMk (Kd.R_elder' (by (with_reducible repeat (first|apply Kd.R_alloc|apply Kd.R_drewN|apply Kd.R_drew));exact HO1195.out) (Kd.R_base ho0) hb);have n1_:=aMk (Kd.R_elder' (by (with_reducible repeat (first|apply Kd.R_alloc|apply Kd.R_drewN|apply Kd.R_drew));exact HO1199.out) (Kd.R_base ho0) hb);have n2_:=aMk (Kd.R_lower (Kd.R_new' (Kd.R_new' ho0 (Kd.R_lt (by (with_reducible repeat (first|apply Kd.R_alloc|apply Kd.R_drewN|apply Kd.R_drew));exact HO1195.out))) (Kd.R_lt (by (with_reducible repeat (first|apply Kd.R_alloc|apply Kd.R_drewN|apply Kd.R_drew));exact HO1199.out))) bSz);have n3_:=aMk (bSt hb);clear HO1195;clear HO1199;clear HB;have HO1195:=n0_;have HO1199:=n1_;have HO1202:=n2_;have HB:=n3_;clear n0_ n1_ n2_ n3_;(try clear hb);(try clear hb2);(try clear hk);(try clear hi);(try clear ho0);obtain ⟨Ao19,co19,eo19⟩:=Kd.R_slice HO1202.out;subst eo19)|((with_reducible refine gate_callee (f:=56) rfl ?_);refine gLs 45 Try.func56 #[.slice Ao19 t1200.length co19,.int .i64 a1,.bool a2,.int .i64 a3,.int .i64 a4] ?_;(with_reducible refine (impl_FlowPass.calls k _ _ t1200 a1 a2 a3 a4 t1203 t1204 _ ?side1 ?side2 A12.out).mono ?_);(case side1 => repeat (first|exact (Kd.R_reads' HO1202.out).2.2|(with_reducible refine Kd.C_alloc ?_ _)|(with_reducible refine Kd.C_drewN ?_ _)|(with_reducible refine Kd.C_drew ?_)));(case side2 => exact (Kd.R_reads' HO1202.out).2.1);rintro e w20 ⟨v1205,rfl,ho0,hb⟩;refine ⟨_,rfl,?_⟩;have n0_:=aMk (Kd.R_elder' (by (with_reducible repeat (first|apply Kd.R_alloc|apply Kd.R_drewN|apply Kd.R_drew));exact HO1195.out) (Kd.R_base ho0) hb);have n1_:=aMk (Kd.R_elder' (by (with_reducible repeat (first|apply Kd.R_alloc|apply Kd.R_drewN|apply Kd.R_drew));exact HO1199.out) (Kd.R_base ho0) hb);have n2_:=aMk (Kd.R_elder' (by (with_reducible repeat (first|apply Kd.R_alloc|apply Kd.R_drewN|apply Kd.R_drew));exact HO1202.out) (Kd.R_base ho0) hb);have n3_:=aMk (Kd.R_lower (Kd.R_new' (Kd.R_new' (Kd.R_new' ho0 (Kd.R_lt (by (with_reducible repeat (first|apply Kd.R_alloc|apply Kd.R_drewN|apply Kd.R_drew));exact HO1195.out))) (Kd.R_lt (by (with_reducible repeat (first|apply Kd.R_alloc|apply Kd.R_drewN|apply Kd.R_drew));exact HO1199.out))) (Kd.R_lt (by (with_reducible repeat (first|apply Kd.R_alloc|apply Kd.R_drewN|apply Kd.R_drew));exact HO1202.out))) bSz);have n4_:=aMk (bSt hb);clear HO1195;clear HO1199;clear HO1202;clear HB;have HO1195:=n0_;have HO1199:=n1_;have HO1202:=n2_;have HO1206:=n3_;have HB:=n4_;clear n0_ n1_ n2_ n3_ n4_;(try clear hb);(try clear hb2);(try clear hk);(try clear hi);(try clear ho0)))
  (try simp only [Act.put,List.setIfInBounds_toArray,List.set_cons_zero,List.set_cons_succ])
  go_cut [56] (fun v56 wc => ∃ (kq : Nat) (x56_12 : Bool),v56 = .bool x56_12 ∧ Aside0 (laws_FnExactFlowPass.j0 kq l0 a1 a2 a3 a4 t1196 t1197 t1200 t1203 t1204 x56_12 = some r) ∧ Aside0 (kq ≤ k) ∧ Aside0 (Kd.R k71 71 wc w.heap.size (fun k_ => some k_ ≠ ((.slice Ao19 t1200.length co19) : Value).ownBlock ∧ some k_ ≠ (v1205 : Value).ownBlock) v1198 t1196) ∧ Aside0 (Kd.R k71 71 wc w.heap.size (fun k_ => some k_ ≠ (v1198 : Value).ownBlock ∧ some k_ ≠ (v1205 : Value).ownBlock) (.slice Ao19 t1200.length co19) t1200) ∧ Aside0 (Kd.R k71 71 wc w.heap.size (fun k_ => some k_ ≠ (v1198 : Value).ownBlock ∧ some k_ ≠ ((.slice Ao19 t1200.length co19) : Value).ownBlock) v1205 t1203) ∧ Aside0 (Below w.heap.size w wc))
  case first =>
   have H:=HC13.out
   clear HC13
   replace H:=Option.bind_eq_some_iff.mp H
   obtain ⟨t1207,A210,H⟩:=H
   replace H : (if t1207 = true then (laws_FnExactFlowPass.j0 k l0 a1 a2 a3 a4 t1196 t1197 t1200 t1203 t1204 (t1204 != t1197)) else (laws_FnExactFlowPass.j0 k l0 a1 a2 a3 a4 t1196 t1197 t1200 t1203 t1204 true)) = some r:=H
   have A21:=aMk A210
   clear A210
   by_cases c22 : t1207 = true
   ·subst c22
    have H1 : (laws_FnExactFlowPass.j0 k l0 a1 a2 a3 a4 t1196 t1197 t1200 t1203 t1204 (t1204 != t1197)) = some r:=by rw [if_pos rfl] at H;exact H
    clear H
    have H:=H1
    clear H1
    have H':=aMk H
    clear H
    obtain ⟨Ao23,co23,eo23⟩:=Kd.R_slice HO1206.out
    subst eo23
    obtain ⟨Ao24,co24,eo24⟩:=Kd.R_slice HO1199.out
    subst eo24
    go_wp2_with (first|((with_reducible refine gate_callee (f:=30) rfl ?_);refine gLs 50 Try.func30 #[.slice Ao23 t1203.length co23,.slice Ao24 t1196.length co24] ?_;(with_reducible refine (laws_eqFlowS.calls k _ _ t1203 _ _ t1196 true _ ?side1 ?side2 ?side3 ?side4 A21.out).mono ?_);(case side1 => repeat (first|exact (Kd.R_reads' HO1206.out).2.2|(with_reducible refine Kd.C_alloc ?_ _)|(with_reducible refine Kd.C_drewN ?_ _)|(with_reducible refine Kd.C_drew ?_)));(case side2 => exact (Kd.R_reads' HO1206.out).2.1);(case side3 => repeat (first|exact (Kd.R_reads' HO1199.out).2.2|(with_reducible refine Kd.C_alloc ?_ _)|(with_reducible refine Kd.C_drewN ?_ _)|(with_reducible refine Kd.C_drew ?_)));(case side4 => exact (Kd.R_reads' HO1199.out).2.1);rintro e w25 ⟨rfl,hb⟩;refine ⟨_,rfl,?_⟩;have n0_:=aMk (Kd.R_below (by (with_reducible repeat (first|apply Kd.R_alloc|apply Kd.R_drewN|apply Kd.R_drew));exact HO1195.out) hb);have n1_:=aMk (Kd.R_below (by (with_reducible repeat (first|apply Kd.R_alloc|apply Kd.R_drewN|apply Kd.R_drew));exact HO1199.out) hb);have n2_:=aMk (Kd.R_below (by (with_reducible repeat (first|apply Kd.R_alloc|apply Kd.R_drewN|apply Kd.R_drew));exact HO1202.out) hb);have n3_:=aMk (Kd.R_below (by (with_reducible repeat (first|apply Kd.R_alloc|apply Kd.R_drewN|apply Kd.R_drew));exact HO1206.out) hb);have n4_:=aMk (bSt hb);clear HO1195;clear HO1199;clear HO1202;clear HO1206;clear HB;have HO1195:=n0_;have HO1199:=n1_;have HO1202:=n2_;have HO1206:=n3_;have HB:=n4_;clear n0_ n1_ n2_ n3_ n4_;(try clear hb);(try clear hb2);(try clear hk);(try clear hi)))
    go_meet
    case rel => exact ⟨_,((t1204 != t1197)),(by first | rfl|(simp;done)|(simp [*];done)|(simp [ne_nil_b];done)|(simp [ne_nil_b, *];done)),H',⟨by first | omega|exact Nat.le_refl _⟩,⟨by (with_reducible repeat (first|apply Kd.R_alloc|apply Kd.R_drewN|apply Kd.R_drew));exact Kd.R_mono HO1199.out (fun _ hk => ⟨hk.1.2,hk.2⟩)⟩,⟨by (with_reducible repeat (first|apply Kd.R_alloc|apply Kd.R_drewN|apply Kd.R_drew));exact Kd.R_mono HO1202.out (fun _ hk => ⟨hk.1.2,hk.2⟩)⟩,⟨by (with_reducible repeat (first|apply Kd.R_alloc|apply Kd.R_drewN|apply Kd.R_drew));exact Kd.R_mono HO1206.out (fun _ hk => ⟨hk.1.2,hk.2⟩)⟩,⟨by repeat (first|(with_reducible first|exact HB.out|apply bwA|apply bwN|apply bw1)|exact HB.out)⟩⟩
   ·replace c22:=Bool.eq_false_iff.mpr c22
    subst c22
    have H1 : (laws_FnExactFlowPass.j0 k l0 a1 a2 a3 a4 t1196 t1197 t1200 t1203 t1204 true) = some r:=by rw [if_neg (show ¬ (false = true) by decide)] at H;exact H
    clear H
    have H:=H1
    clear H1
    have H':=aMk H
    clear H
    obtain ⟨Ao26,co26,eo26⟩:=Kd.R_slice HO1206.out
    subst eo26
    obtain ⟨Ao27,co27,eo27⟩:=Kd.R_slice HO1199.out
    subst eo27
    go_wp2_with (first|((with_reducible refine gate_callee (f:=30) rfl ?_);refine gLs 50 Try.func30 #[.slice Ao26 t1203.length co26,.slice Ao27 t1196.length co27] ?_;(with_reducible refine (laws_eqFlowS.calls k _ _ t1203 _ _ t1196 false _ ?side1 ?side2 ?side3 ?side4 A21.out).mono ?_);(case side1 => repeat (first|exact (Kd.R_reads' HO1206.out).2.2|(with_reducible refine Kd.C_alloc ?_ _)|(with_reducible refine Kd.C_drewN ?_ _)|(with_reducible refine Kd.C_drew ?_)));(case side2 => exact (Kd.R_reads' HO1206.out).2.1);(case side3 => repeat (first|exact (Kd.R_reads' HO1199.out).2.2|(with_reducible refine Kd.C_alloc ?_ _)|(with_reducible refine Kd.C_drewN ?_ _)|(with_reducible refine Kd.C_drew ?_)));(case side4 => exact (Kd.R_reads' HO1199.out).2.1);rintro e w28 ⟨rfl,hb⟩;refine ⟨_,rfl,?_⟩;have n0_:=aMk (Kd.R_below (by (with_reducible repeat (first|apply Kd.R_alloc|apply Kd.R_drewN|apply Kd.R_drew));exact HO1195.out) hb);have n1_:=aMk (Kd.R_below (by (with_reducible repeat (first|apply Kd.R_alloc|apply Kd.R_drewN|apply Kd.R_drew));exact HO1199.out) hb);have n2_:=aMk (Kd.R_below (by (with_reducible repeat (first|apply Kd.R_alloc|apply Kd.R_drewN|apply Kd.R_drew));exact HO1202.out) hb);have n3_:=aMk (Kd.R_below (by (with_reducible repeat (first|apply Kd.R_alloc|apply Kd.R_drewN|apply Kd.R_drew));exact HO1206.out) hb);have n4_:=aMk (bSt hb);clear HO1195;clear HO1199;clear HO1202;clear HO1206;clear HB;have HO1195:=n0_;have HO1199:=n1_;have HO1202:=n2_;have HO1206:=n3_;have HB:=n4_;clear n0_ n1_ n2_ n3_ n4_;(try clear hb);(try clear hb2);(try clear hk);(try clear hi)))
    go_meet
    case rel => exact ⟨_,(true),(by first | rfl|(simp;done)|(simp [*];done)|(simp [ne_nil_b];done)|(simp [ne_nil_b, *];done)),H',⟨by first | omega|exact Nat.le_refl _⟩,⟨by (with_reducible repeat (first|apply Kd.R_alloc|apply Kd.R_drewN|apply Kd.R_drew));exact Kd.R_mono HO1199.out (fun _ hk => ⟨hk.1.2,hk.2⟩)⟩,⟨by (with_reducible repeat (first|apply Kd.R_alloc|apply Kd.R_drewN|apply Kd.R_drew));exact Kd.R_mono HO1202.out (fun _ hk => ⟨hk.1.2,hk.2⟩)⟩,⟨by (with_reducible repeat (first|apply Kd.R_alloc|apply Kd.R_drewN|apply Kd.R_drew));exact Kd.R_mono HO1206.out (fun _ hk => ⟨hk.1.2,hk.2⟩)⟩,⟨by repeat (first|(with_reducible first|exact HB.out|apply bwA|apply bwN|apply bw1)|exact HB.out)⟩⟩
  case rest =>
   clear HC13
   try clear c1
   try clear c2
   try clear p2
   try clear c3
   try clear c5
   try clear c7
   try clear c7b0
   try clear c15
   try clear c22
   try clear c26
   try clear c28
   obtain ⟨kq,x56_12,rfl,HA,HJ12,HO_12,HO_14,HO_15,HB⟩:=hcut
   cases kq with
   | zero => exact absurd HA.out (by simp [laws_FnExactFlowPass.j0])
   | succ kj12 =>
    have H:=HA.out
    clear HA
    simp only [laws_FnExactFlowPass.j0] at H
    by_cases c29 : x56_12 = true
    ·subst c29
     have H1 : (some false) = some r:=by rw [if_pos rfl] at H;exact H
     clear H
     have H:=H1
     clear H1
     obtain rfl:=Option.some.inj H
     go_wp2
     go_ret
     exact ⟨eRf,by repeat (first|(with_reducible first|exact HB.out|apply bwA|apply bwN|apply bw1)|exact HB.out)⟩
    ·replace c29:=Bool.eq_false_iff.mpr c29
     subst c29
     have H1 : ((laws_toFlowS.f kj12 l0).bind fun t1208 => ((laws_eqFlowS.f kj12 t1200 t1208).bind fun t1211 => (if t1211 = true then ((laws_markFlowS.f kj12 t1200 1).bind fun bt1212 => (if bt1212.1 < 0 then (laws_FnExactFlowPass.j1 kj12 l0 a1 a2 a3 a4 t1196 t1197 t1203 true) else ((laws_eqFlowS.f kj12 t1203 t1196).bind fun t1214 => (if t1214 = true then (laws_FnExactFlowPass.j1 kj12 l0 a1 a2 a3 a4 t1196 t1197 t1203 (t1204 != t1197)) else (laws_FnExactFlowPass.j1 kj12 l0 a1 a2 a3 a4 t1196 t1197 t1203 true))))) else (some false)))) = some r:=by rw [if_neg (show ¬ (false = true) by decide)] at H;exact H
     clear H
     have H:=H1
     clear H1
     replace H:=Option.bind_eq_some_iff.mp H
     obtain ⟨t1208,A300,H⟩:=H
     replace H : ((laws_eqFlowS.f kj12 t1200 t1208).bind fun t1211 => (if t1211 = true then ((laws_markFlowS.f kj12 t1200 1).bind fun bt1212 => (if bt1212.1 < 0 then (laws_FnExactFlowPass.j1 kj12 l0 a1 a2 a3 a4 t1196 t1197 t1203 true) else ((laws_eqFlowS.f kj12 t1203 t1196).bind fun t1214 => (if t1214 = true then (laws_FnExactFlowPass.j1 kj12 l0 a1 a2 a3 a4 t1196 t1197 t1203 (t1204 != t1197)) else (laws_FnExactFlowPass.j1 kj12 l0 a1 a2 a3 a4 t1196 t1197 t1203 true))))) else (some false))) = some r:=H
     have A30:=aMk A300
     clear A300
     replace H:=Option.bind_eq_some_iff.mp H
     obtain ⟨t1211,A310,H⟩:=H
     replace H : (if t1211 = true then ((laws_markFlowS.f kj12 t1200 1).bind fun bt1212 => (if bt1212.1 < 0 then (laws_FnExactFlowPass.j1 kj12 l0 a1 a2 a3 a4 t1196 t1197 t1203 true) else ((laws_eqFlowS.f kj12 t1203 t1196).bind fun t1214 => (if t1214 = true then (laws_FnExactFlowPass.j1 kj12 l0 a1 a2 a3 a4 t1196 t1197 t1203 (t1204 != t1197)) else (laws_FnExactFlowPass.j1 kj12 l0 a1 a2 a3 a4 t1196 t1197 t1203 true))))) else (some false)) = some r:=H
     have A31:=aMk A310
     clear A310
     by_cases c32 : t1211 = true
     ·subst c32
      have H1 : ((laws_markFlowS.f kj12 t1200 1).bind fun bt1212 => (if bt1212.1 < 0 then (laws_FnExactFlowPass.j1 kj12 l0 a1 a2 a3 a4 t1196 t1197 t1203 true) else ((laws_eqFlowS.f kj12 t1203 t1196).bind fun t1214 => (if t1214 = true then (laws_FnExactFlowPass.j1 kj12 l0 a1 a2 a3 a4 t1196 t1197 t1203 (t1204 != t1197)) else (laws_FnExactFlowPass.j1 kj12 l0 a1 a2 a3 a4 t1196 t1197 t1203 true))))) = some r:=by rw [if_pos rfl] at H;exact H
      clear H
      have H:=H1
      clear H1
      replace H:=Option.bind_eq_some_iff.mp H
      obtain ⟨⟨t1212,t1213⟩,A330,H⟩:=H
      replace H : (if t1212 < 0 then (laws_FnExactFlowPass.j1 kj12 l0 a1 a2 a3 a4 t1196 t1197 t1203 true) else ((laws_eqFlowS.f kj12 t1203 t1196).bind fun t1214 => (if t1214 = true then (laws_FnExactFlowPass.j1 kj12 l0 a1 a2 a3 a4 t1196 t1197 t1203 (t1204 != t1197)) else (laws_FnExactFlowPass.j1 kj12 l0 a1 a2 a3 a4 t1196 t1197 t1203 true)))) = some r:=H
      have A33:=aMk A330
      clear A330
      have HC34:=aMk H
      clear H
      go_upto_region 14 with (first|((with_reducible refine gate_callee (f:=28) rfl ?_);refine gLs 59 Try.func28 #[.slice A0 l0.length c0] ?_;(with_reducible refine (laws_toFlowS.calls kj12 _ _ l0 t1208 _ ?side1 ?side2 A30.out).mono ?_);(case side1 => repeat (first|exact (Kd.C_below HR0.out HB.out)|(with_reducible refine Kd.C_alloc ?_ _)|(with_reducible refine Kd.C_drewN ?_ _)|(with_reducible refine Kd.C_drew ?_)));(case side2 => exact HC0.out);rintro e w35 ⟨v1209,rfl,ho0,hb⟩;refine ⟨_,rfl,?_⟩;have n0_:=aMk (Kd.R_elder' (by (with_reducible repeat (first|apply Kd.R_alloc|apply Kd.R_drewN|apply Kd.R_drew));exact HO_12.out) (Kd.R_base ho0) hb);have n1_:=aMk (Kd.R_elder' (by (with_reducible repeat (first|apply Kd.R_alloc|apply Kd.R_drewN|apply Kd.R_drew));exact HO_14.out) (Kd.R_base ho0) hb);have n2_:=aMk (Kd.R_elder' (by (with_reducible repeat (first|apply Kd.R_alloc|apply Kd.R_drewN|apply Kd.R_drew));exact HO_15.out) (Kd.R_base ho0) hb);have n3_:=aMk (Kd.R_lower (Kd.R_new' (Kd.R_new' (Kd.R_new' ho0 (Kd.R_lt (by (with_reducible repeat (first|apply Kd.R_alloc|apply Kd.R_drewN|apply Kd.R_drew));exact HO_12.out))) (Kd.R_lt (by (with_reducible repeat (first|apply Kd.R_alloc|apply Kd.R_drewN|apply Kd.R_drew));exact HO_14.out))) (Kd.R_lt (by (with_reducible repeat (first|apply Kd.R_alloc|apply Kd.R_drewN|apply Kd.R_drew));exact HO_15.out))) bSz);have n4_:=aMk (bSt hb);clear HO_12;clear HO_14;clear HO_15;clear HB;have HO_12:=n0_;have HO_14:=n1_;have HO_15:=n2_;have HO1210:=n3_;have HB:=n4_;clear n0_ n1_ n2_ n3_ n4_;(try clear hb);(try clear hb2);(try clear hk);(try clear hi);(try clear ho0);obtain ⟨Ao36,co36,eo36⟩:=Kd.R_slice HO1210.out;subst eo36)|((with_reducible refine gate_callee (f:=30) rfl ?_);refine gLs 60 Try.func30 #[.slice Ao19 t1200.length co19,.slice Ao36 t1208.length co36] ?_;(with_reducible refine (laws_eqFlowS.calls kj12 _ _ t1200 _ _ t1208 true _ ?side1 ?side2 ?side3 ?side4 A31.out).mono ?_);(case side1 => repeat (first|exact (Kd.R_reads' HO_14.out).2.2|(with_reducible refine Kd.C_alloc ?_ _)|(with_reducible refine Kd.C_drewN ?_ _)|(with_reducible refine Kd.C_drew ?_)));(case side2 => exact (Kd.R_reads' HO_14.out).2.1);(case side3 => repeat (first|exact (Kd.R_reads' HO1210.out).2.2|(with_reducible refine Kd.C_alloc ?_ _)|(with_reducible refine Kd.C_drewN ?_ _)|(with_reducible refine Kd.C_drew ?_)));(case side4 => exact (Kd.R_reads' HO1210.out).2.1);rintro e w37 ⟨rfl,hb⟩;refine ⟨_,rfl,?_⟩;have n0_:=aMk (Kd.R_below (by (with_reducible repeat (first|apply Kd.R_alloc|apply Kd.R_drewN|apply Kd.R_drew));exact HO_12.out) hb);have n1_:=aMk (Kd.R_below (by (with_reducible repeat (first|apply Kd.R_alloc|apply Kd.R_drewN|apply Kd.R_drew));exact HO_14.out) hb);have n2_:=aMk (Kd.R_below (by (with_reducible repeat (first|apply Kd.R_alloc|apply Kd.R_drewN|apply Kd.R_drew));exact HO_15.out) hb);have n3_:=aMk (Kd.R_below (by (with_reducible repeat (first|apply Kd.R_alloc|apply Kd.R_drewN|apply Kd.R_drew));exact HO1210.out) hb);have n4_:=aMk (bSt hb);clear HO_12;clear HO_14;clear HO_15;clear HO1210;clear HB;have HO_12:=n0_;have HO_14:=n1_;have HO_15:=n2_;have HO1210:=n3_;have HB:=n4_;clear n0_ n1_ n2_ n3_ n4_;(try clear hb);(try clear hb2);(try clear hk);(try clear hi))|((with_reducible refine gate_callee (f:=47) rfl ?_);refine gLs 64 Try.func47 #[.slice Ao19 t1200.length co19,.int .i64 1] ?_;(with_reducible refine (laws_markFlowS.calls kj12 (fun k_ => some k_ = (.slice Ao19 t1200.length co19 : Value).ownBlock) (.slice Ao19 t1200.length co19) t1200 1 t1212 t1213 w _ ?side1 ?side2 A33.out).mono ?_);(case side1 => repeat (first|(with_reducible first|exact HB.out|apply bwA|apply bwN|apply bw1)|exact HB.out));(case side2 => exact Kd.R_tight rfl HO_14.out);rintro e w38 ⟨rfl,hy0,hb,hkp⟩;refine ⟨_,rfl,?_⟩;have n0_:=aMk (Kd.R_mono (ok':=fun k_ => some k_ ≠ (.slice Ao19 t1200.length co19 : Value).ownBlock ∧ some k_ ≠ (v1205 : Value).ownBlock ∧ some k_ ≠ (.slice Ao36 t1208.length co36 : Value).ownBlock) (Kd.R_keptB (HO_12.out) hkp (fun k_ hk_ hs_ => (hk_.1.1) hs_)) (fun k_ hk_ => ⟨hk_.1.1.1,hk_.1.1.2,hk_.1.2⟩));have n1_:=aMk (Kd.R_reok rfl hy0 (fun k_ e_ => HO_14.out.1 k_ e_));have n2_:=aMk (Kd.R_mono (ok':=fun k_ => some k_ ≠ (v1198 : Value).ownBlock ∧ some k_ ≠ (.slice Ao19 t1200.length co19 : Value).ownBlock ∧ some k_ ≠ (.slice Ao36 t1208.length co36 : Value).ownBlock) (Kd.R_keptB (HO_15.out) hkp (fun k_ hk_ hs_ => (hk_.1.2) hs_)) (fun k_ hk_ => ⟨hk_.1.1.1,hk_.1.1.2,hk_.1.2⟩));have n3_:=aMk (Kd.R_mono (ok':=fun k_ => some k_ ≠ (v1198 : Value).ownBlock ∧ some k_ ≠ (.slice Ao19 t1200.length co19 : Value).ownBlock ∧ some k_ ≠ (v1205 : Value).ownBlock) (Kd.R_keptB (HO1210.out) hkp (fun k_ hk_ hs_ => (hk_.1.2) hs_)) (fun k_ hk_ => ⟨hk_.1.1.1.2,hk_.1.1.2,hk_.1.2⟩));have n4_:=aMk (hb);clear HO_12;clear HO_14;clear HO_15;clear HO1210;clear HB;have HO_12:=n0_;have HO_14:=n1_;have HO_15:=n2_;have HO1210:=n3_;have HB:=n4_;clear n0_ n1_ n2_ n3_ n4_;(try clear hb);(try clear hkp);(try clear hy0)))
      (try simp only [Act.put,List.setIfInBounds_toArray,List.set_cons_zero,List.set_cons_succ])
      go_cut [77] (fun v77 wc => ∃ (kq : Nat) (x77_33 : Bool),v77 = .bool x77_33 ∧ Aside0 (laws_FnExactFlowPass.j1 kq l0 a1 a2 a3 a4 t1196 t1197 t1203 x77_33 = some r) ∧ Aside0 (kq ≤ kj12) ∧ Aside0 (Kd.R k71 71 wc w.heap.size (fun k_ => some k_ ≠ (v1205 : Value).ownBlock) v1198 t1196) ∧ Aside0 (Kd.R k71 71 wc w.heap.size (fun k_ => some k_ ≠ (v1198 : Value).ownBlock) v1205 t1203) ∧ Aside0 (Below w.heap.size w wc))
      case first =>
       have H:=HC34.out
       clear HC34
       by_cases c39 : t1212 < 0
       ·rw [if_pos c39] at H
        have c39b0 : decide (t1212 < 0) = true:=decide_eq_true c39
        clear c39
        (first|rw [c39b0]|(simp only [i64_w,i32_w];rw [c39b0]) | skip)
        have H':=aMk H
        clear H
        go_wp2
        go_meet
        case rel => exact ⟨_,(true),(by first | rfl|(simp;done)|(simp [*];done)|(simp [ne_nil_b];done)|(simp [ne_nil_b, *];done)),H',⟨by have:=HJ12.out;first | omega|exact Nat.le_refl _⟩,⟨by (with_reducible repeat (first|apply Kd.R_alloc|apply Kd.R_drewN|apply Kd.R_drew));exact Kd.R_mono HO_12.out (fun _ hk => hk.2.1)⟩,⟨by (with_reducible repeat (first|apply Kd.R_alloc|apply Kd.R_drewN|apply Kd.R_drew));exact Kd.R_mono HO_15.out (fun _ hk => hk.1)⟩,⟨by repeat (first|(with_reducible first|exact HB.out|apply bwA|apply bwN|apply bw1)|exact HB.out)⟩⟩
       ·rw [if_neg c39] at H
        have c39b0 : decide (t1212 < 0) = false:=decide_eq_false c39
        clear c39
        (first|rw [c39b0]|(simp only [i64_w,i32_w];rw [c39b0]) | skip)
        replace H:=Option.bind_eq_some_iff.mp H
        obtain ⟨t1214,A400,H⟩:=H
        replace H : (if t1214 = true then (laws_FnExactFlowPass.j1 kj12 l0 a1 a2 a3 a4 t1196 t1197 t1203 (t1204 != t1197)) else (laws_FnExactFlowPass.j1 kj12 l0 a1 a2 a3 a4 t1196 t1197 t1203 true)) = some r:=H
        have A40:=aMk A400
        clear A400
        by_cases c41 : t1214 = true
        ·subst c41
         have H1 : (laws_FnExactFlowPass.j1 kj12 l0 a1 a2 a3 a4 t1196 t1197 t1203 (t1204 != t1197)) = some r:=by rw [if_pos rfl] at H;exact H
         clear H
         have H:=H1
         clear H1
         have H':=aMk H
         clear H
         obtain ⟨Ao42,co42,eo42⟩:=Kd.R_slice HO_15.out
         subst eo42
         obtain ⟨Ao43,co43,eo43⟩:=Kd.R_slice HO_12.out
         subst eo43
         go_wp2_with (first|(go_at_call 30;(with_reducible refine (laws_eqFlowS.calls kj12 _ _ t1203 _ _ t1196 true _ ?side1 ?side2 ?side3 ?side4 A40.out).mono ?_);(case side1 => repeat (first|exact (Kd.R_reads' HO_15.out).2.2|(with_reducible refine Kd.C_alloc ?_ _)|(with_reducible refine Kd.C_drewN ?_ _)|(with_reducible refine Kd.C_drew ?_)));(case side2 => exact (Kd.R_reads' HO_15.out).2.1);(case side3 => repeat (first|exact (Kd.R_reads' HO_12.out).2.2|(with_reducible refine Kd.C_alloc ?_ _)|(with_reducible refine Kd.C_drewN ?_ _)|(with_reducible refine Kd.C_drew ?_)));(case side4 => exact (Kd.R_reads' HO_12.out).2.1);rintro e w44 ⟨rfl,hb⟩;have n0_:=aMk (Kd.R_below (by (with_reducible repeat (first|apply Kd.R_alloc|apply Kd.R_drewN|apply Kd.R_drew));exact HO_12.out) hb);have n1_:=aMk (Kd.R_below (by (with_reducible repeat (first|apply Kd.R_alloc|apply Kd.R_drewN|apply Kd.R_drew));exact HO_14.out) hb);have n2_:=aMk (Kd.R_below (by (with_reducible repeat (first|apply Kd.R_alloc|apply Kd.R_drewN|apply Kd.R_drew));exact HO_15.out) hb);have n3_:=aMk (Kd.R_below (by (with_reducible repeat (first|apply Kd.R_alloc|apply Kd.R_drewN|apply Kd.R_drew));exact HO1210.out) hb);have n4_:=aMk (bSt hb);clear HO_12;clear HO_14;clear HO_15;clear HO1210;clear HB;have HO_12:=n0_;have HO_14:=n1_;have HO_15:=n2_;have HO1210:=n3_;have HB:=n4_;clear n0_ n1_ n2_ n3_ n4_;(try clear hb);(try clear hb2);(try clear hk);(try clear hi)))
         go_meet
         case rel => exact ⟨_,((t1204 != t1197)),(by first | rfl|(simp;done)|(simp [*];done)|(simp [ne_nil_b];done)|(simp [ne_nil_b, *];done)),H',⟨by have:=HJ12.out;first | omega|exact Nat.le_refl _⟩,⟨by (with_reducible repeat (first|apply Kd.R_alloc|apply Kd.R_drewN|apply Kd.R_drew));exact Kd.R_mono HO_12.out (fun _ hk => hk.2.1)⟩,⟨by (with_reducible repeat (first|apply Kd.R_alloc|apply Kd.R_drewN|apply Kd.R_drew));exact Kd.R_mono HO_15.out (fun _ hk => hk.1)⟩,⟨by repeat (first|(with_reducible first|exact HB.out|apply bwA|apply bwN|apply bw1)|exact HB.out)⟩⟩
        ·replace c41:=Bool.eq_false_iff.mpr c41
         subst c41
         have H1 : (laws_FnExactFlowPass.j1 kj12 l0 a1 a2 a3 a4 t1196 t1197 t1203 true) = some r:=by rw [if_neg (show ¬ (false = true) by decide)] at H;exact H
         clear H
         have H:=H1
         clear H1
         have H':=aMk H
         clear H
         obtain ⟨Ao45,co45,eo45⟩:=Kd.R_slice HO_15.out
         subst eo45
         obtain ⟨Ao46,co46,eo46⟩:=Kd.R_slice HO_12.out
         subst eo46
         go_wp2_with (first|(go_at_call 30;(with_reducible refine (laws_eqFlowS.calls kj12 _ _ t1203 _ _ t1196 false _ ?side1 ?side2 ?side3 ?side4 A40.out).mono ?_);(case side1 => repeat (first|exact (Kd.R_reads' HO_15.out).2.2|(with_reducible refine Kd.C_alloc ?_ _)|(with_reducible refine Kd.C_drewN ?_ _)|(with_reducible refine Kd.C_drew ?_)));(case side2 => exact (Kd.R_reads' HO_15.out).2.1);(case side3 => repeat (first|exact (Kd.R_reads' HO_12.out).2.2|(with_reducible refine Kd.C_alloc ?_ _)|(with_reducible refine Kd.C_drewN ?_ _)|(with_reducible refine Kd.C_drew ?_)));(case side4 => exact (Kd.R_reads' HO_12.out).2.1);rintro e w47 ⟨rfl,hb⟩;have n0_:=aMk (Kd.R_below (by (with_reducible repeat (first|apply Kd.R_alloc|apply Kd.R_drewN|apply Kd.R_drew));exact HO_12.out) hb);have n1_:=aMk (Kd.R_below (by (with_reducible repeat (first|apply Kd.R_alloc|apply Kd.R_drewN|apply Kd.R_drew));exact HO_14.out) hb);have n2_:=aMk (Kd.R_below (by (with_reducible repeat (first|apply Kd.R_alloc|apply Kd.R_drewN|apply Kd.R_drew));exact HO_15.out) hb);have n3_:=aMk (Kd.R_below (by (with_reducible repeat (first|apply Kd.R_alloc|apply Kd.R_drewN|apply Kd.R_drew));exact HO1210.out) hb);have n4_:=aMk (bSt hb);clear HO_12;clear HO_14;clear HO_15;clear HO1210;clear HB;have HO_12:=n0_;have HO_14:=n1_;have HO_15:=n2_;have HO1210:=n3_;have HB:=n4_;clear n0_ n1_ n2_ n3_ n4_;(try clear hb);(try clear hb2);(try clear hk);(try clear hi)))
         go_meet
         case rel => exact ⟨_,(true),(by first | rfl|(simp;done)|(simp [*];done)|(simp [ne_nil_b];done)|(simp [ne_nil_b, *];done)),H',⟨by have:=HJ12.out;first | omega|exact Nat.le_refl _⟩,⟨by (with_reducible repeat (first|apply Kd.R_alloc|apply Kd.R_drewN|apply Kd.R_drew));exact Kd.R_mono HO_12.out (fun _ hk => hk.2.1)⟩,⟨by (with_reducible repeat (first|apply Kd.R_alloc|apply Kd.R_drewN|apply Kd.R_drew));exact Kd.R_mono HO_15.out (fun _ hk => hk.1)⟩,⟨by repeat (first|(with_reducible first|exact HB.out|apply bwA|apply bwN|apply bw1)|exact HB.out)⟩⟩
      case rest =>
       clear HC34
       try clear c1
       try clear c2
       try clear p2
       try clear c3
       try clear c4
       try clear c5
       try clear c7
       try clear c7b0
       try clear c15
       try clear c22
       try clear c26
       try clear c28
       try clear c29
       try clear c30
       try clear c32
       try clear c39
       try clear c39b0
       try clear c41
       try clear c47
       try clear p2
       obtain ⟨kq,x77_33,rfl,HA,HJ33,HO_12,HO_15,HB⟩:=hcut
       cases kq with
       | zero => exact absurd HA.out (by simp [laws_FnExactFlowPass.j1])
       | succ kj33 =>
        have H:=HA.out
        clear HA
        simp only [laws_FnExactFlowPass.j1] at H
        by_cases c48 : x77_33 = true
        ·subst c48
         have H1 : (some false) = some r:=by rw [if_pos rfl] at H;exact H
         clear H
         have H:=H1
         clear H1
         obtain rfl:=Option.some.inj H
         go_wp2
         go_ret
         exact ⟨eRf,by repeat (first|(with_reducible first|exact HB.out|apply bwA|apply bwN|apply bw1)|exact HB.out)⟩
        ·replace c48:=Bool.eq_false_iff.mpr c48
         subst c48
         have H1 : ((laws_markFlowS.f kj33 t1203 1).bind fun bt1215 => ((laws_heldFlowS.f kj33 bt1215.2 1).bind fun t1217 => (if t1217 < 0 then (some false) else (if t1217 = bt1215.1 then ((laws_toFlowS.f kj33 l0).bind fun t1218 => ((impl_FlowPass.f kj33 t1218 a1 a2 a3 a4).bind fun bt1221 => ((laws_eqFlowS.f kj33 bt1221.1 t1196).bind fun t1225 => (if t1225 = true then (laws_FnExactFlowPass.j2 kj33 bt1215.2 bt1215.1 (bt1221.2 != t1197)) else (laws_FnExactFlowPass.j2 kj33 bt1215.2 bt1215.1 true))))) else (some false))))) = some r:=by rw [if_neg (show ¬ (false = true) by decide)] at H;exact H
         clear H
         have H:=H1
         clear H1
         replace H:=Option.bind_eq_some_iff.mp H
         obtain ⟨⟨t1215,t1216⟩,A490,H⟩:=H
         replace H : ((laws_heldFlowS.f kj33 t1216 1).bind fun t1217 => (if t1217 < 0 then (some false) else (if t1217 = t1215 then ((laws_toFlowS.f kj33 l0).bind fun t1218 => ((impl_FlowPass.f kj33 t1218 a1 a2 a3 a4).bind fun bt1221 => ((laws_eqFlowS.f kj33 bt1221.1 t1196).bind fun t1225 => (if t1225 = true then (laws_FnExactFlowPass.j2 kj33 t1216 t1215 (bt1221.2 != t1197)) else (laws_FnExactFlowPass.j2 kj33 t1216 t1215 true))))) else (some false)))) = some r:=H
         have A49:=aMk A490
         clear A490
         replace H:=Option.bind_eq_some_iff.mp H
         obtain ⟨t1217,A500,H⟩:=H
         replace H : (if t1217 < 0 then (some false) else (if t1217 = t1215 then ((laws_toFlowS.f kj33 l0).bind fun t1218 => ((impl_FlowPass.f kj33 t1218 a1 a2 a3 a4).bind fun bt1221 => ((laws_eqFlowS.f kj33 bt1221.1 t1196).bind fun t1225 => (if t1225 = true then (laws_FnExactFlowPass.j2 kj33 t1216 t1215 (bt1221.2 != t1197)) else (laws_FnExactFlowPass.j2 kj33 t1216 t1215 true))))) else (some false))) = some r:=H
         have A50:=aMk A500
         clear A500
         by_cases c51 : t1217 < 0
         ·rw [if_pos c51] at H
          have c51b0 : decide (t1217 < 0) = true:=decide_eq_true c51
          clear c51
          obtain rfl:=Option.some.inj H
          obtain ⟨Ao52,co52,eo52⟩:=Kd.R_slice HO_15.out
          subst eo52
          go_wp2_with (first|((with_reducible refine gate_callee (f:=47) rfl ?_);refine gLs 80 Try.func47 #[.slice Ao52 t1203.length co52,.int .i64 1] ?_;(with_reducible refine (laws_markFlowS.calls kj33 (fun k_ => some k_ = (.slice Ao52 t1203.length co52 : Value).ownBlock) (.slice Ao52 t1203.length co52) t1203 1 t1215 t1216 w _ ?side1 ?side2 A49.out).mono ?_);(case side1 => repeat (first|(with_reducible first|exact HB.out|apply bwA|apply bwN|apply bw1)|exact HB.out));(case side2 => exact Kd.R_tight rfl HO_15.out);rintro e w53 ⟨rfl,hy0,hb,hkp⟩;refine ⟨_,rfl,?_⟩;have n0_:=aMk (Kd.R_mono (ok':=fun k_ => some k_ ≠ (.slice Ao52 t1203.length co52 : Value).ownBlock) (Kd.R_keptB (HO_12.out) hkp (fun k_ hk_ hs_ => (hk_) hs_)) (fun k_ hk_ => hk_.1));have n1_:=aMk (Kd.R_reok rfl hy0 (fun k_ e_ => HO_15.out.1 k_ e_));have n2_:=aMk (hb);clear HO_12;clear HO_15;clear HB;have HO_12:=n0_;have HO_15:=n1_;have HB:=n2_;clear n0_ n1_ n2_;(try clear hb);(try clear hkp);(try clear hy0))|((with_reducible refine gate_callee (f:=48) rfl ?_);refine goesL_ (some 83) rfl rfl Try.func48 (by kernel_rfl) rfl #[.slice Ao52 t1216.length co52,.int .i64 1] rfl (by (try simp only [List.map_toArray,List.map_cons,List.map_nil]);first | done|(rw [show t1216.length = t1203.length from (Kd.R_reads' HO_15.out).1.symm] <;> rfl) | rfl|(simp only [List.length_drop,List.length_take];rfl)) ?_;(with_reducible refine (laws_heldFlowS.calls kj33 _ _ t1216 1 t1217 _ ?side1 ?side2 A50.out).mono ?_);(case side1 => repeat (first|exact (Kd.R_reads' HO_15.out).2.2|(with_reducible refine Kd.C_alloc ?_ _)|(with_reducible refine Kd.C_drewN ?_ _)|(with_reducible refine Kd.C_drew ?_)));(case side2 => rw [show t1216.length = t1203.length from (Kd.R_reads' HO_15.out).1.symm];exact (Kd.R_reads' HO_15.out).2.1);rintro e w54 ⟨rfl,hb⟩;refine ⟨_,rfl,?_⟩;have n0_:=aMk (Kd.R_below (by (with_reducible repeat (first|apply Kd.R_alloc|apply Kd.R_drewN|apply Kd.R_drew));exact HO_12.out) hb);have n1_:=aMk (Kd.R_below (by (with_reducible repeat (first|apply Kd.R_alloc|apply Kd.R_drewN|apply Kd.R_drew));exact HO_15.out) hb);have n2_:=aMk (bSt hb);clear HO_12;clear HO_15;clear HB;have HO_12:=n0_;have HO_15:=n1_;have HB:=n2_;clear n0_ n1_ n2_;(try clear hb);(try clear hb2);(try clear hk);(try clear hi)))
          go_ret
          exact ⟨eRf,by repeat (first|(with_reducible first|exact HB.out|apply bwA|apply bwN|apply bw1)|exact HB.out)⟩
         ·rw [if_neg c51] at H
          have c51b0 : decide (t1217 < 0) = false:=decide_eq_false c51
          clear c51
          by_cases c55 : t1217 = t1215
          ·rw [if_pos c55] at H
           have c55b0 : (t1217 == t1215) = true:=beq_iff_eq.mpr c55
           have c55b1 : (t1217 != t1215) = false:=bne_eq_false_iff_eq.mpr c55
           clear c55
           replace H:=Option.bind_eq_some_iff.mp H
           obtain ⟨t1218,A560,H⟩:=H
           replace H : ((impl_FlowPass.f kj33 t1218 a1 a2 a3 a4).bind fun bt1221 => ((laws_eqFlowS.f kj33 bt1221.1 t1196).bind fun t1225 => (if t1225 = true then (laws_FnExactFlowPass.j2 kj33 t1216 t1215 (bt1221.2 != t1197)) else (laws_FnExactFlowPass.j2 kj33 t1216 t1215 true)))) = some r:=H
           have A56:=aMk A560
           clear A560
           replace H:=Option.bind_eq_some_iff.mp H
           obtain ⟨⟨t1221,t1222⟩,A570,H⟩:=H
           replace H : ((laws_eqFlowS.f kj33 t1221 t1196).bind fun t1225 => (if t1225 = true then (laws_FnExactFlowPass.j2 kj33 t1216 t1215 (t1222 != t1197)) else (laws_FnExactFlowPass.j2 kj33 t1216 t1215 true))) = some r:=H
           have A57:=aMk A570
           clear A570
           have HC58:=aMk H
           clear H
           obtain ⟨Ao59,co59,eo59⟩:=Kd.R_slice HO_15.out
           subst eo59
           go_upto_region 25 with (first|((with_reducible refine gate_callee (f:=47) rfl ?_);refine gLs 80 Try.func47 #[.slice Ao59 t1203.length co59,.int .i64 1] ?_;(with_reducible refine (laws_markFlowS.calls kj33 (fun k_ => some k_ = (.slice Ao59 t1203.length co59 : Value).ownBlock) (.slice Ao59 t1203.length co59) t1203 1 t1215 t1216 w _ ?side1 ?side2 A49.out).mono ?_);(case side1 => repeat (first|(with_reducible first|exact HB.out|apply bwA|apply bwN|apply bw1)|exact HB.out));(case side2 => exact Kd.R_tight rfl HO_15.out);rintro e w60 ⟨rfl,hy0,hb,hkp⟩;refine ⟨_,rfl,?_⟩;have n0_:=aMk (Kd.R_mono (ok':=fun k_ => some k_ ≠ (.slice Ao59 t1203.length co59 : Value).ownBlock) (Kd.R_keptB (HO_12.out) hkp (fun k_ hk_ hs_ => (hk_) hs_)) (fun k_ hk_ => hk_.1));have n1_:=aMk (Kd.R_reok rfl hy0 (fun k_ e_ => HO_15.out.1 k_ e_));have n2_:=aMk (hb);clear HO_12;clear HO_15;clear HB;have HO_12:=n0_;have HO_15:=n1_;have HB:=n2_;clear n0_ n1_ n2_;(try clear hb);(try clear hkp);(try clear hy0))|((with_reducible refine gate_callee (f:=48) rfl ?_);refine goesL_ (some 83) rfl rfl Try.func48 (by kernel_rfl) rfl #[.slice Ao59 t1216.length co59,.int .i64 1] rfl (by (try simp only [List.map_toArray,List.map_cons,List.map_nil]);first | done|(rw [show t1216.length = t1203.length from (Kd.R_reads' HO_15.out).1.symm] <;> rfl) | rfl|(simp only [List.length_drop,List.length_take];rfl)) ?_;(with_reducible refine (laws_heldFlowS.calls kj33 _ _ t1216 1 t1217 _ ?side1 ?side2 A50.out).mono ?_);(case side1 => repeat (first|exact (Kd.R_reads' HO_15.out).2.2|(with_reducible refine Kd.C_alloc ?_ _)|(with_reducible refine Kd.C_drewN ?_ _)|(with_reducible refine Kd.C_drew ?_)));(case side2 => rw [show t1216.length = t1203.length from (Kd.R_reads' HO_15.out).1.symm];exact (Kd.R_reads' HO_15.out).2.1);rintro e w61 ⟨rfl,hb⟩;refine ⟨_,rfl,?_⟩;have n0_:=aMk (Kd.R_below (by (with_reducible repeat (first|apply Kd.R_alloc|apply Kd.R_drewN|apply Kd.R_drew));exact HO_12.out) hb);have n1_:=aMk (Kd.R_below (by (with_reducible repeat (first|apply Kd.R_alloc|apply Kd.R_drewN|apply Kd.R_drew));exact HO_15.out) hb);have n2_:=aMk (bSt hb);clear HO_12;clear HO_15;clear HB;have HO_12:=n0_;have HO_15:=n1_;have HB:=n2_;clear n0_ n1_ n2_;(try clear hb);(try clear hb2);(try clear hk);(try clear hi))|((with_reducible refine gate_callee (f:=28) rfl ?_);refine gLs 91 Try.func28 #[.slice A0 l0.length c0] ?_;(with_reducible refine (laws_toFlowS.calls kj33 _ _ l0 t1218 _ ?side1 ?side2 A56.out).mono ?_);(case side1 => repeat (first|exact (Kd.C_below HR0.out HB.out)|(with_reducible refine Kd.C_alloc ?_ _)|(with_reducible refine Kd.C_drewN ?_ _)|(with_reducible refine Kd.C_drew ?_)));(case side2 => exact HC0.out);rintro e w62 ⟨v1219,rfl,ho0,hb⟩;refine ⟨_,rfl,?_⟩;have n0_:=aMk (Kd.R_elder' (by (with_reducible repeat (first|apply Kd.R_alloc|apply Kd.R_drewN|apply Kd.R_drew));exact HO_12.out) (Kd.R_base ho0) hb);have n1_:=aMk (Kd.R_elder' (by (with_reducible repeat (first|apply Kd.R_alloc|apply Kd.R_drewN|apply Kd.R_drew));exact HO_15.out) (Kd.R_base ho0) hb);have n2_:=aMk (Kd.R_lower (Kd.R_new' (Kd.R_new' ho0 (Kd.R_lt (by (with_reducible repeat (first|apply Kd.R_alloc|apply Kd.R_drewN|apply Kd.R_drew));exact HO_12.out))) (Kd.R_lt (by (with_reducible repeat (first|apply Kd.R_alloc|apply Kd.R_drewN|apply Kd.R_drew));exact HO_15.out))) bSz);have n3_:=aMk (bSt hb);clear HO_12;clear HO_15;clear HB;have HO_12:=n0_;have HO_15:=n1_;have HO1220:=n2_;have HB:=n3_;clear n0_ n1_ n2_ n3_;(try clear hb);(try clear hb2);(try clear hk);(try clear hi);(try clear ho0);obtain ⟨Ao63,co63,eo63⟩:=Kd.R_slice HO1220.out;subst eo63)|((with_reducible refine gate_callee (f:=56) rfl ?_);refine gLs 96 Try.func56 #[.slice Ao63 t1218.length co63,.int .i64 a1,.bool a2,.int .i64 a3,.int .i64 a4] ?_;(with_reducible refine (impl_FlowPass.calls kj33 _ _ t1218 a1 a2 a3 a4 t1221 t1222 _ ?side1 ?side2 A57.out).mono ?_);(case side1 => repeat (first|exact (Kd.R_reads' HO1220.out).2.2|(with_reducible refine Kd.C_alloc ?_ _)|(with_reducible refine Kd.C_drewN ?_ _)|(with_reducible refine Kd.C_drew ?_)));(case side2 => exact (Kd.R_reads' HO1220.out).2.1);rintro e w64 ⟨v1223,rfl,ho0,hb⟩;refine ⟨_,rfl,?_⟩;have n0_:=aMk (Kd.R_elder' (by (with_reducible repeat (first|apply Kd.R_alloc|apply Kd.R_drewN|apply Kd.R_drew));exact HO_12.out) (Kd.R_base ho0) hb);have n1_:=aMk (Kd.R_elder' (by (with_reducible repeat (first|apply Kd.R_alloc|apply Kd.R_drewN|apply Kd.R_drew));exact HO_15.out) (Kd.R_base ho0) hb);have n2_:=aMk (Kd.R_elder' (by (with_reducible repeat (first|apply Kd.R_alloc|apply Kd.R_drewN|apply Kd.R_drew));exact HO1220.out) (Kd.R_base ho0) hb);have n3_:=aMk (Kd.R_lower (Kd.R_new' (Kd.R_new' (Kd.R_new' ho0 (Kd.R_lt (by (with_reducible repeat (first|apply Kd.R_alloc|apply Kd.R_drewN|apply Kd.R_drew));exact HO_12.out))) (Kd.R_lt (by (with_reducible repeat (first|apply Kd.R_alloc|apply Kd.R_drewN|apply Kd.R_drew));exact HO_15.out))) (Kd.R_lt (by (with_reducible repeat (first|apply Kd.R_alloc|apply Kd.R_drewN|apply Kd.R_drew));exact HO1220.out))) bSz);have n4_:=aMk (bSt hb);clear HO_12;clear HO_15;clear HO1220;clear HB;have HO_12:=n0_;have HO_15:=n1_;have HO1220:=n2_;have HO1224:=n3_;have HB:=n4_;clear n0_ n1_ n2_ n3_ n4_;(try clear hb);(try clear hb2);(try clear hk);(try clear hi);(try clear ho0)))
           (try simp only [Act.put,List.setIfInBounds_toArray,List.set_cons_zero,List.set_cons_succ])
           go_cut [107] (fun v107 wc => ∃ (kq : Nat) (x107_57 : Bool),v107 = .bool x107_57 ∧ Aside0 (laws_FnExactFlowPass.j2 kq t1216 t1215 x107_57 = some r) ∧ Aside0 (kq ≤ kj33) ∧ Aside0 (Kd.R k71 71 wc w.heap.size (fun _ => True) (.slice Ao59 t1203.length co59) t1216) ∧ Aside0 (Below w.heap.size w wc))
           case first =>
            have H:=HC58.out
            clear HC58
            replace H:=Option.bind_eq_some_iff.mp H
            obtain ⟨t1225,A650,H⟩:=H
            replace H : (if t1225 = true then (laws_FnExactFlowPass.j2 kj33 t1216 t1215 (t1222 != t1197)) else (laws_FnExactFlowPass.j2 kj33 t1216 t1215 true)) = some r:=H
            have A65:=aMk A650
            clear A650
            by_cases c66 : t1225 = true
            ·subst c66
             have H1 : (laws_FnExactFlowPass.j2 kj33 t1216 t1215 (t1222 != t1197)) = some r:=by rw [if_pos rfl] at H;exact H
             clear H
             have H:=H1
             clear H1
             have H':=aMk H
             clear H
             obtain ⟨Ao67,co67,eo67⟩:=Kd.R_slice HO1224.out
             subst eo67
             obtain ⟨Ao68,co68,eo68⟩:=Kd.R_slice HO_12.out
             subst eo68
             go_wp2_with (first|((with_reducible refine gate_callee (f:=30) rfl ?_);refine gLs 101 Try.func30 #[.slice Ao67 t1221.length co67,.slice Ao68 t1196.length co68] ?_;(with_reducible refine (laws_eqFlowS.calls kj33 _ _ t1221 _ _ t1196 true _ ?side1 ?side2 ?side3 ?side4 A65.out).mono ?_);(case side1 => repeat (first|exact (Kd.R_reads' HO1224.out).2.2|(with_reducible refine Kd.C_alloc ?_ _)|(with_reducible refine Kd.C_drewN ?_ _)|(with_reducible refine Kd.C_drew ?_)));(case side2 => exact (Kd.R_reads' HO1224.out).2.1);(case side3 => repeat (first|exact (Kd.R_reads' HO_12.out).2.2|(with_reducible refine Kd.C_alloc ?_ _)|(with_reducible refine Kd.C_drewN ?_ _)|(with_reducible refine Kd.C_drew ?_)));(case side4 => exact (Kd.R_reads' HO_12.out).2.1);rintro e w69 ⟨rfl,hb⟩;refine ⟨_,rfl,?_⟩;have n0_:=aMk (Kd.R_below (by (with_reducible repeat (first|apply Kd.R_alloc|apply Kd.R_drewN|apply Kd.R_drew));exact HO_12.out) hb);have n1_:=aMk (Kd.R_below (by (with_reducible repeat (first|apply Kd.R_alloc|apply Kd.R_drewN|apply Kd.R_drew));exact HO_15.out) hb);have n2_:=aMk (Kd.R_below (by (with_reducible repeat (first|apply Kd.R_alloc|apply Kd.R_drewN|apply Kd.R_drew));exact HO1220.out) hb);have n3_:=aMk (Kd.R_below (by (with_reducible repeat (first|apply Kd.R_alloc|apply Kd.R_drewN|apply Kd.R_drew));exact HO1224.out) hb);have n4_:=aMk (bSt hb);clear HO_12;clear HO_15;clear HO1220;clear HO1224;clear HB;have HO_12:=n0_;have HO_15:=n1_;have HO1220:=n2_;have HO1224:=n3_;have HB:=n4_;clear n0_ n1_ n2_ n3_ n4_;(try clear hb);(try clear hb2);(try clear hk);(try clear hi)))
             go_meet
             case rel => exact ⟨_,((t1222 != t1197)),(by first | rfl|(simp;done)|(simp [*];done)|(simp [ne_nil_b];done)|(simp [ne_nil_b, *];done)),H',⟨by have:=HJ12.out;have:=HJ33.out;first | omega|exact Nat.le_refl _⟩,⟨by (with_reducible repeat (first|apply Kd.R_alloc|apply Kd.R_drewN|apply Kd.R_drew));exact Kd.R_mono HO_15.out (fun _ hk => trivial)⟩,⟨by repeat (first|(with_reducible first|exact HB.out|apply bwA|apply bwN|apply bw1)|exact HB.out)⟩⟩
            ·replace c66:=Bool.eq_false_iff.mpr c66
             subst c66
             have H1 : (laws_FnExactFlowPass.j2 kj33 t1216 t1215 true) = some r:=by rw [if_neg (show ¬ (false = true) by decide)] at H;exact H
             clear H
             have H:=H1
             clear H1
             have H':=aMk H
             clear H
             obtain ⟨Ao70,co70,eo70⟩:=Kd.R_slice HO1224.out
             subst eo70
             obtain ⟨Ao71,co71,eo71⟩:=Kd.R_slice HO_12.out
             subst eo71
             go_wp2_with (first|((with_reducible refine gate_callee (f:=30) rfl ?_);refine gLs 101 Try.func30 #[.slice Ao70 t1221.length co70,.slice Ao71 t1196.length co71] ?_;(with_reducible refine (laws_eqFlowS.calls kj33 _ _ t1221 _ _ t1196 false _ ?side1 ?side2 ?side3 ?side4 A65.out).mono ?_);(case side1 => repeat (first|exact (Kd.R_reads' HO1224.out).2.2|(with_reducible refine Kd.C_alloc ?_ _)|(with_reducible refine Kd.C_drewN ?_ _)|(with_reducible refine Kd.C_drew ?_)));(case side2 => exact (Kd.R_reads' HO1224.out).2.1);(case side3 => repeat (first|exact (Kd.R_reads' HO_12.out).2.2|(with_reducible refine Kd.C_alloc ?_ _)|(with_reducible refine Kd.C_drewN ?_ _)|(with_reducible refine Kd.C_drew ?_)));(case side4 => exact (Kd.R_reads' HO_12.out).2.1);rintro e w72 ⟨rfl,hb⟩;refine ⟨_,rfl,?_⟩;have n0_:=aMk (Kd.R_below (by (with_reducible repeat (first|apply Kd.R_alloc|apply Kd.R_drewN|apply Kd.R_drew));exact HO_12.out) hb);have n1_:=aMk (Kd.R_below (by (with_reducible repeat (first|apply Kd.R_alloc|apply Kd.R_drewN|apply Kd.R_drew));exact HO_15.out) hb);have n2_:=aMk (Kd.R_below (by (with_reducible repeat (first|apply Kd.R_alloc|apply Kd.R_drewN|apply Kd.R_drew));exact HO1220.out) hb);have n3_:=aMk (Kd.R_below (by (with_reducible repeat (first|apply Kd.R_alloc|apply Kd.R_drewN|apply Kd.R_drew));exact HO1224.out) hb);have n4_:=aMk (bSt hb);clear HO_12;clear HO_15;clear HO1220;clear HO1224;clear HB;have HO_12:=n0_;have HO_15:=n1_;have HO1220:=n2_;have HO1224:=n3_;have HB:=n4_;clear n0_ n1_ n2_ n3_ n4_;(try clear hb);(try clear hb2);(try clear hk);(try clear hi)))
             go_meet
             case rel => exact ⟨_,(true),(by first | rfl|(simp;done)|(simp [*];done)|(simp [ne_nil_b];done)|(simp [ne_nil_b, *];done)),H',⟨by have:=HJ12.out;have:=HJ33.out;first | omega|exact Nat.le_refl _⟩,⟨by (with_reducible repeat (first|apply Kd.R_alloc|apply Kd.R_drewN|apply Kd.R_drew));exact Kd.R_mono HO_15.out (fun _ hk => trivial)⟩,⟨by repeat (first|(with_reducible first|exact HB.out|apply bwA|apply bwN|apply bw1)|exact HB.out)⟩⟩
           case rest =>
            clear HC58
            try clear c1
            try clear c2
            try clear p2
            try clear c3
            try clear c4
            try clear c5
            try clear c6
            try clear c7
            try clear c7b0
            try clear c15
            try clear c22
            try clear c26
            try clear c28
            try clear c29
            try clear c30
            try clear c32
            try clear c39
            try clear c39b0
            try clear c41
            try clear c47
            try clear c48
            try clear c51
            try clear c51b0
            try clear c55
            try clear c55b0
            try clear c55b1
            try clear c56
            try clear c66
            try clear p2
            obtain ⟨kq,x107_57,rfl,HA,HJ57,HO_15,HB⟩:=hcut
            have hl15_57:=(Kd.R_reads' HO_15.out).1
            rw [hl15_57] at HO_15
            (try simp only [hl15_57])
            cases kq with
            | zero => exact absurd HA.out (by simp [laws_FnExactFlowPass.j2])
            | succ kj57 =>
             have H:=HA.out
             clear HA
             simp only [laws_FnExactFlowPass.j2] at H
             by_cases c73 : x107_57 = true
             ·subst c73
              have H1 : (some false) = some r:=by rw [if_pos rfl] at H;exact H
              clear H
              have H:=H1
              clear H1
              obtain rfl:=Option.some.inj H
              go_wp2
              go_ret
              exact ⟨eRf,by repeat (first|(with_reducible first|exact HB.out|apply bwA|apply bwN|apply bw1)|exact HB.out)⟩
             ·replace c73:=Bool.eq_false_iff.mpr c73
              subst c73
              have H1 : ((laws_heldFlowS.f kj57 t1216 1).bind fun t1226 => (if t1226 < 0 then (some false) else (if t1226 = t1215 then (some true) else (some false)))) = some r:=by rw [if_neg (show ¬ (false = true) by decide)] at H;exact H
              clear H
              have H:=H1
              clear H1
              replace H:=Option.bind_eq_some_iff.mp H
              obtain ⟨t1226,A740,H⟩:=H
              replace H : (if t1226 < 0 then (some false) else (if t1226 = t1215 then (some true) else (some false))) = some r:=H
              have A74:=aMk A740
              clear A740
              by_cases c75 : t1226 < 0
              ·rw [if_pos c75] at H
               have c75b0 : decide (t1226 < 0) = true:=decide_eq_true c75
               clear c75
               obtain rfl:=Option.some.inj H
               go_wp2_with (first|((with_reducible refine gate_callee (f:=48) rfl ?_);refine gLs 110 Try.func48 #[.slice Ao59 t1216.length co59,.int .i64 1] ?_;(with_reducible refine (laws_heldFlowS.calls kj57 _ _ t1216 1 t1226 _ ?side1 ?side2 A74.out).mono ?_);(case side1 => repeat (first|exact (Kd.R_reads' HO_15.out).2.2|(with_reducible refine Kd.C_alloc ?_ _)|(with_reducible refine Kd.C_drewN ?_ _)|(with_reducible refine Kd.C_drew ?_)));(case side2 => exact (Kd.R_reads' HO_15.out).2.1);rintro e w76 ⟨rfl,hb⟩;refine ⟨_,rfl,?_⟩;have n0_:=aMk (Kd.R_below (by (with_reducible repeat (first|apply Kd.R_alloc|apply Kd.R_drewN|apply Kd.R_drew));exact HO_15.out) hb);have n1_:=aMk (bSt hb);clear HO_15;clear HB;have HO_15:=n0_;have HB:=n1_;clear n0_ n1_;(try clear hb);(try clear hb2);(try clear hk);(try clear hi)))
               go_ret
               exact ⟨eRf,by repeat (first|(with_reducible first|exact HB.out|apply bwA|apply bwN|apply bw1)|exact HB.out)⟩
              ·rw [if_neg c75] at H
               have c75b0 : decide (t1226 < 0) = false:=decide_eq_false c75
               clear c75
               by_cases c77 : t1226 = t1215
               ·rw [if_pos c77] at H
                have c77b0 : (t1226 == t1215) = true:=beq_iff_eq.mpr c77
                have c77b1 : (t1226 != t1215) = false:=bne_eq_false_iff_eq.mpr c77
                clear c77
                obtain rfl:=Option.some.inj H
                go_wp2_with (first|((with_reducible refine gate_callee (f:=48) rfl ?_);refine gLs 110 Try.func48 #[.slice Ao59 t1216.length co59,.int .i64 1] ?_;(with_reducible refine (laws_heldFlowS.calls kj57 _ _ t1216 1 t1226 _ ?side1 ?side2 A74.out).mono ?_);(case side1 => repeat (first|exact (Kd.R_reads' HO_15.out).2.2|(with_reducible refine Kd.C_alloc ?_ _)|(with_reducible refine Kd.C_drewN ?_ _)|(with_reducible refine Kd.C_drew ?_)));(case side2 => exact (Kd.R_reads' HO_15.out).2.1);rintro e w78 ⟨rfl,hb⟩;refine ⟨_,rfl,?_⟩;have n0_:=aMk (Kd.R_below (by (with_reducible repeat (first|apply Kd.R_alloc|apply Kd.R_drewN|apply Kd.R_drew));exact HO_15.out) hb);have n1_:=aMk (bSt hb);clear HO_15;clear HB;have HO_15:=n0_;have HB:=n1_;clear n0_ n1_;(try clear hb);(try clear hb2);(try clear hk);(try clear hi)))
                go_ret
                exact ⟨eRf,by repeat (first|(with_reducible first|exact HB.out|apply bwA|apply bwN|apply bw1)|exact HB.out)⟩
               ·rw [if_neg c77] at H
                have c77b0 : (t1226 == t1215) = false:=beq_eq_false_iff_ne.mpr c77
                have c77b1 : (t1226 != t1215) = true:=bne_iff_ne.mpr c77
                obtain rfl:=Option.some.inj H
                go_wp2_with (first|((with_reducible refine gate_callee (f:=48) rfl ?_);refine gLs 110 Try.func48 #[.slice Ao59 t1216.length co59,.int .i64 1] ?_;(with_reducible refine (laws_heldFlowS.calls kj57 _ _ t1216 1 t1226 _ ?side1 ?side2 A74.out).mono ?_);(case side1 => repeat (first|exact (Kd.R_reads' HO_15.out).2.2|(with_reducible refine Kd.C_alloc ?_ _)|(with_reducible refine Kd.C_drewN ?_ _)|(with_reducible refine Kd.C_drew ?_)));(case side2 => exact (Kd.R_reads' HO_15.out).2.1);rintro e w79 ⟨rfl,hb⟩;refine ⟨_,rfl,?_⟩;have n0_:=aMk (Kd.R_below (by (with_reducible repeat (first|apply Kd.R_alloc|apply Kd.R_drewN|apply Kd.R_drew));exact HO_15.out) hb);have n1_:=aMk (bSt hb);clear HO_15;clear HB;have HO_15:=n0_;have HB:=n1_;clear n0_ n1_;(try clear hb);(try clear hb2);(try clear hk);(try clear hi)))
                go_ret
                exact ⟨eRf,by repeat (first|(with_reducible first|exact HB.out|apply bwA|apply bwN|apply bw1)|exact HB.out)⟩
          ·rw [if_neg c55] at H
           have c55b0 : (t1217 == t1215) = false:=beq_eq_false_iff_ne.mpr c55
           have c55b1 : (t1217 != t1215) = true:=bne_iff_ne.mpr c55
           obtain rfl:=Option.some.inj H
           obtain ⟨Ao80,co80,eo80⟩:=Kd.R_slice HO_15.out
           subst eo80
           go_wp2_with (first|((with_reducible refine gate_callee (f:=47) rfl ?_);refine gLs 80 Try.func47 #[.slice Ao80 t1203.length co80,.int .i64 1] ?_;(with_reducible refine (laws_markFlowS.calls kj33 (fun k_ => some k_ = (.slice Ao80 t1203.length co80 : Value).ownBlock) (.slice Ao80 t1203.length co80) t1203 1 t1215 t1216 w _ ?side1 ?side2 A49.out).mono ?_);(case side1 => repeat (first|(with_reducible first|exact HB.out|apply bwA|apply bwN|apply bw1)|exact HB.out));(case side2 => exact Kd.R_tight rfl HO_15.out);rintro e w81 ⟨rfl,hy0,hb,hkp⟩;refine ⟨_,rfl,?_⟩;have n0_:=aMk (Kd.R_mono (ok':=fun k_ => some k_ ≠ (.slice Ao80 t1203.length co80 : Value).ownBlock) (Kd.R_keptB (HO_12.out) hkp (fun k_ hk_ hs_ => (hk_) hs_)) (fun k_ hk_ => hk_.1));have n1_:=aMk (Kd.R_reok rfl hy0 (fun k_ e_ => HO_15.out.1 k_ e_));have n2_:=aMk (hb);clear HO_12;clear HO_15;clear HB;have HO_12:=n0_;have HO_15:=n1_;have HB:=n2_;clear n0_ n1_ n2_;(try clear hb);(try clear hkp);(try clear hy0))|((with_reducible refine gate_callee (f:=48) rfl ?_);refine goesL_ (some 83) rfl rfl Try.func48 (by kernel_rfl) rfl #[.slice Ao80 t1216.length co80,.int .i64 1] rfl (by (try simp only [List.map_toArray,List.map_cons,List.map_nil]);first | done|(rw [show t1216.length = t1203.length from (Kd.R_reads' HO_15.out).1.symm] <;> rfl) | rfl|(simp only [List.length_drop,List.length_take];rfl)) ?_;(with_reducible refine (laws_heldFlowS.calls kj33 _ _ t1216 1 t1217 _ ?side1 ?side2 A50.out).mono ?_);(case side1 => repeat (first|exact (Kd.R_reads' HO_15.out).2.2|(with_reducible refine Kd.C_alloc ?_ _)|(with_reducible refine Kd.C_drewN ?_ _)|(with_reducible refine Kd.C_drew ?_)));(case side2 => rw [show t1216.length = t1203.length from (Kd.R_reads' HO_15.out).1.symm];exact (Kd.R_reads' HO_15.out).2.1);rintro e w82 ⟨rfl,hb⟩;refine ⟨_,rfl,?_⟩;have n0_:=aMk (Kd.R_below (by (with_reducible repeat (first|apply Kd.R_alloc|apply Kd.R_drewN|apply Kd.R_drew));exact HO_12.out) hb);have n1_:=aMk (Kd.R_below (by (with_reducible repeat (first|apply Kd.R_alloc|apply Kd.R_drewN|apply Kd.R_drew));exact HO_15.out) hb);have n2_:=aMk (bSt hb);clear HO_12;clear HO_15;clear HB;have HO_12:=n0_;have HO_15:=n1_;have HB:=n2_;clear n0_ n1_ n2_;(try clear hb);(try clear hb2);(try clear hk);(try clear hi)))
           go_ret
           exact ⟨eRf,by repeat (first|(with_reducible first|exact HB.out|apply bwA|apply bwN|apply bw1)|exact HB.out)⟩
     ·replace c32:=Bool.eq_false_iff.mpr c32
      subst c32
      have H1 : (some false) = some r:=by rw [if_neg (show ¬ (false = true) by decide)] at H;exact H
      clear H
      have H:=H1
      clear H1
      obtain rfl:=Option.some.inj H
      go_wp2_with (first|((with_reducible refine gate_callee (f:=28) rfl ?_);refine gLs 59 Try.func28 #[.slice A0 l0.length c0] ?_;(with_reducible refine (laws_toFlowS.calls kj12 _ _ l0 t1208 _ ?side1 ?side2 A30.out).mono ?_);(case side1 => repeat (first|exact (Kd.C_below HR0.out HB.out)|(with_reducible refine Kd.C_alloc ?_ _)|(with_reducible refine Kd.C_drewN ?_ _)|(with_reducible refine Kd.C_drew ?_)));(case side2 => exact HC0.out);rintro e w83 ⟨v1209,rfl,ho0,hb⟩;refine ⟨_,rfl,?_⟩;have n0_:=aMk (Kd.R_elder' (by (with_reducible repeat (first|apply Kd.R_alloc|apply Kd.R_drewN|apply Kd.R_drew));exact HO_12.out) (Kd.R_base ho0) hb);have n1_:=aMk (Kd.R_elder' (by (with_reducible repeat (first|apply Kd.R_alloc|apply Kd.R_drewN|apply Kd.R_drew));exact HO_14.out) (Kd.R_base ho0) hb);have n2_:=aMk (Kd.R_elder' (by (with_reducible repeat (first|apply Kd.R_alloc|apply Kd.R_drewN|apply Kd.R_drew));exact HO_15.out) (Kd.R_base ho0) hb);have n3_:=aMk (Kd.R_lower (Kd.R_new' (Kd.R_new' (Kd.R_new' ho0 (Kd.R_lt (by (with_reducible repeat (first|apply Kd.R_alloc|apply Kd.R_drewN|apply Kd.R_drew));exact HO_12.out))) (Kd.R_lt (by (with_reducible repeat (first|apply Kd.R_alloc|apply Kd.R_drewN|apply Kd.R_drew));exact HO_14.out))) (Kd.R_lt (by (with_reducible repeat (first|apply Kd.R_alloc|apply Kd.R_drewN|apply Kd.R_drew));exact HO_15.out))) bSz);have n4_:=aMk (bSt hb);clear HO_12;clear HO_14;clear HO_15;clear HB;have HO_12:=n0_;have HO_14:=n1_;have HO_15:=n2_;have HO1210:=n3_;have HB:=n4_;clear n0_ n1_ n2_ n3_ n4_;(try clear hb);(try clear hb2);(try clear hk);(try clear hi);(try clear ho0);obtain ⟨Ao84,co84,eo84⟩:=Kd.R_slice HO1210.out;subst eo84)|((with_reducible refine gate_callee (f:=30) rfl ?_);refine gLs 60 Try.func30 #[.slice Ao19 t1200.length co19,.slice Ao84 t1208.length co84] ?_;(with_reducible refine (laws_eqFlowS.calls kj12 _ _ t1200 _ _ t1208 false _ ?side1 ?side2 ?side3 ?side4 A31.out).mono ?_);(case side1 => repeat (first|exact (Kd.R_reads' HO_14.out).2.2|(with_reducible refine Kd.C_alloc ?_ _)|(with_reducible refine Kd.C_drewN ?_ _)|(with_reducible refine Kd.C_drew ?_)));(case side2 => exact (Kd.R_reads' HO_14.out).2.1);(case side3 => repeat (first|exact (Kd.R_reads' HO1210.out).2.2|(with_reducible refine Kd.C_alloc ?_ _)|(with_reducible refine Kd.C_drewN ?_ _)|(with_reducible refine Kd.C_drew ?_)));(case side4 => exact (Kd.R_reads' HO1210.out).2.1);rintro e w85 ⟨rfl,hb⟩;refine ⟨_,rfl,?_⟩;have n0_:=aMk (Kd.R_below (by (with_reducible repeat (first|apply Kd.R_alloc|apply Kd.R_drewN|apply Kd.R_drew));exact HO_12.out) hb);have n1_:=aMk (Kd.R_below (by (with_reducible repeat (first|apply Kd.R_alloc|apply Kd.R_drewN|apply Kd.R_drew));exact HO_14.out) hb);have n2_:=aMk (Kd.R_below (by (with_reducible repeat (first|apply Kd.R_alloc|apply Kd.R_drewN|apply Kd.R_drew));exact HO_15.out) hb);have n3_:=aMk (Kd.R_below (by (with_reducible repeat (first|apply Kd.R_alloc|apply Kd.R_drewN|apply Kd.R_drew));exact HO1210.out) hb);have n4_:=aMk (bSt hb);clear HO_12;clear HO_14;clear HO_15;clear HO1210;clear HB;have HO_12:=n0_;have HO_14:=n1_;have HO_15:=n2_;have HO1210:=n3_;have HB:=n4_;clear n0_ n1_ n2_ n3_ n4_;(try clear hb);(try clear hb2);(try clear hk);(try clear hi)))
      go_ret
      exact ⟨eRf,by repeat (first|(with_reducible first|exact HB.out|apply bwA|apply bwN|apply bw1)|exact HB.out)⟩
end
section
-- IMPORT Derived.SizedLaws
-- IMPORT Derived.ProofKit
-- IMPORT Derived.WalkKit
-- IMPORT Derived.OpenShut
-- IMPORT Derived.ShutString
-- IMPORT Derived.ChangeOld
-- IMPORT Derived.Below
-- IMPORT Derived.Deep.Slices
open Go.ChangeShapes Go.WideShapes Go.ChangeAt Go.Deep
/-- What reads as data of type t is a value of the kind d,and meets wf. -/
structure Opens (P : Program) (t : TypeId) {α : Type} (d : Kd α) (wf : α → Prop) : Prop where
 sz : P.cellsOf t = d.sz
 op : ∀ {H : Type} {enc : TypeId × Value → H} {w : World} {fuel : Nat} {cs : List Value} {y : DataW H × List MemPlace},DataW.trod enc P w 0 (fun _ => true) true fuel t cs = some y → (∀ n ∈ y.1.weights P t,n ≤ reachBytes) → ∃ x,d.K w x cs ∧ wf x
theorem Opens.int {P : Program} {t : TypeId} {k : IntKind} (hu : P.underlying t = some (.int k)) (hc : P.cellsOf t = 1) : Opens P t (Kd.int k) (fun n => (Lit.int k n).wf = true) :=
 ⟨hc,fun h _ => by obtain ⟨n,rfl,rfl,wf⟩:=DataW.trod_int hu h;exact ⟨n,rfl,wf⟩⟩
theorem Opens.bool {P : Program} {t : TypeId} (hu : P.underlying t = some .bool) (hc : P.cellsOf t = 1) : Opens P t Kd.bool (fun _ => True) :=
 ⟨hc,fun h _ => by obtain ⟨n,rfl,rfl⟩:=DataW.trod_bool hu h;exact ⟨n,rfl,trivial⟩⟩
theorem Opens.string {P : Program} {t : TypeId} (hu : P.underlying t = some .string) (hc : P.cellsOf t = 1) : Opens P t Kd.string (fun s => s.size ≤ 140737488351232) :=
 ⟨hc,fun h hw => by
  obtain ⟨s,rfl,rfl,_⟩:=DataW.trod_string hu h
  refine ⟨s,rfl,?_⟩
  have:=hw s.data.toList.length (by simp [DataW.weights])
  simpa [reachBytes] using this⟩
theorem weights_mem_all {H : Type} {P : Program} {e : TypeId} {n : Nat} : ∀ {l : List (DataW H)} {d : DataW H},d ∈ l → n ∈ d.weights P e → n ∈ DataW.weightsAll P e l
 | d0 :: l,d,hd,hn => by
  simp only [DataW.weightsAll,List.mem_append]
  rcases List.mem_cons.1 hd with rfl | hd
  ·exact .inl hn
  ·exact .inr (weights_mem_all hd hn)
 | [],_,hd,_ => by cases hd
theorem list_of_all {α : Type} {Q : Nat → α → Prop} (n : Nat) (h : ∀ i,i < n → ∃ x,Q i x) : ∃ xs : List α,xs.length = n ∧ ∀ j x,xs[j]? = some x → Q j x:=by
 induction n with
 | zero => exact ⟨[],rfl,fun j x h => by simp at h⟩
 | succ n ih =>
  obtain ⟨xs,hl,hx⟩:=ih (fun i hi => h i (by omega))
  obtain ⟨x,hq⟩:=h n (by omega)
  refine ⟨xs ++ [x],by simp [hl],fun j y hj => ?_⟩
  rcases Nat.lt_or_ge j xs.length with hlt | hge
  ·rw [List.getElem?_append_left hlt] at hj
   exact hx j y hj
  ·rw [List.getElem?_append_right hge] at hj
   have : j - xs.length = 0:=by
    rcases Nat.lt_or_ge (j - xs.length) 1 with h1 | h1
    ·omega
    ·rw [List.getElem?_eq_none (by simpa using h1)] at hj;cases hj
   rw [this] at hj
   simp at hj
   subst hj
   have : j = n:=by omega
   subst this
   exact hq
theorem Opens.slice {α : Type} {P : Program} {t e : TypeId} {d : Kd α} {wf : α → Prop} (hu : P.underlying t = some (.slice e)) (hc : P.cellsOf t = 1) (B : Nat) (hB : P.bytesOf e = B) (he : Opens P e d wf) :
  Opens P t (Kd.slice e d) (fun xs => xs.length * B ≤ 140737488351232 ∧ xs.length ≤ maxLen ∧ ∀ x ∈ xs,wf x) :=
 ⟨hc,fun {H enc w fuel cs y} h hw => by
  rcases open_slice hu h with ⟨rfl,rfl⟩ | ⟨a,len,cap,m,n,D,Pl,rfl,_,hl,hm,hmm,rfl,hel⟩
  ·exact ⟨[],⟨none,0,rfl,Nat.le_refl _,Kd.C_nil d w⟩,by simp,by simp,fun x hx => by cases hx⟩
  have hmc : m = cap:=by rw [hmm];rfl
  subst hmc
  have hwt : ∀ i,i < len → ∀ z ∈ (D i).weights P e,z ≤ reachBytes:=fun i hi z hz => hw z (by
   simp only [DataW.weights,hu]
   exact List.mem_cons_of_mem _ (List.mem_append_left _ (weights_mem_all (List.mem_map.2 ⟨i,List.mem_range.2 hi,rfl⟩) hz)))
  have hall : ∀ i,i < len → ∃ x : α,(∃ c,c.length = d.sz ∧ d.K w x c ∧ ∀ j u,c[j]? = some u → w.cell? (a.add (i * d.sz + j)) = some u) ∧ wf x:=by
   intro i hi
   obtain ⟨cs',hcs,htr⟩:=hel i (by omega)
   obtain ⟨x,hk,hx⟩:=he.op htr (hwt i hi)
   obtain ⟨_,hlen,hcell⟩:=World.cells?_some hcs
   refine ⟨x,⟨cs',by rw [hlen,he.sz],hk,fun j u hu' => ?_⟩,hx⟩
   have hj : j < cs'.length:=by
    rcases Nat.lt_or_ge j cs'.length with h1 | h1
    ·exact h1
    ·rw [List.getElem?_eq_none h1] at hu';cases hu'
   rw [hlen] at hj
   have hcj:=hcell j hj
   rw [hu',he.sz,Addr.add_add] at hcj
   exact hcj
  obtain ⟨xs,hxl,hxs⟩:=list_of_all (Q:=fun i x => (∃ c,c.length = d.sz ∧ d.K w x c ∧ ∀ j u,c[j]? = some u → w.cell? (a.add (i * d.sz + j)) = some u) ∧ wf x) len hall
  subst hxl
  refine ⟨xs,⟨some a,m,rfl,hl,rfl,?_,fun _ => ⟨a,rfl,fun j p hp => (hxs j p hp).1⟩⟩,?_,?_,?_⟩
  ·unfold maxLen at hm;omega
  ·have:=hw ((List.map D (List.range xs.length)).length + (List.map (fun j => D (xs.length + j)) (List.range (m - xs.length))).length) |> fun h => h
   have h1:=hw (((List.map D (List.range xs.length)).length + (List.map (fun j => D (xs.length + j)) (List.range (m - xs.length))).length) * P.bytesOf e) (by simp only [DataW.weights,hu];exact List.mem_cons_self)
   rw [hB] at h1
   simp only [List.length_map,List.length_range] at h1
   have h2 : xs.length * B ≤ (xs.length + (m - xs.length)) * B:=Nat.mul_le_mul_right _ (by omega)
   exact Nat.le_trans h2 h1
  ·omega
  ·intro x hx
   obtain ⟨j,hj,rfl⟩:=List.getElem_of_mem hx
   exact (hxs j _ (List.getElem?_eq_getElem hj)).2⟩
/-- Fields in line from cell o on. -/
structure OpensF (P : Program) (fs : List Field) (o : Nat) {α : Type} (d : Kd α) (wf : α → Prop) : Prop where
 op : ∀ {H : Type} {enc : TypeId × Value → H} {w : World} {n : Nat} {cs : List Value} {xs : List (DataW H × List MemPlace)},o + d.sz ≤ cs.length → xs.length = fs.length →
  (∀ (i : Nat) (f : Field),fs[i]? = some f → DataW.trod enc P w 0 (fun _ => true) true n f.type ((cs.drop f.offset).take (P.cellsOf f.type)) = xs[i]?) →
  (∀ z ∈ DataW.weightsEach P (fs.map (·.type)) (xs.map (·.1)),z ≤ reachBytes) → ∃ x,d.K w x ((cs.drop o).take d.sz) ∧ wf x
theorem OpensF.one {α : Type} {P : Program} {f : Field} {o : Nat} {d : Kd α} {wf : α → Prop} (ho : f.offset = o) (h : Opens P f.type d wf) : OpensF P [f] o d wf:=by
 refine ⟨fun {H enc w n cs xs} hlen hxl htr hw => ?_⟩
 match xs,hxl with
 | [y],_ =>
  have h1:=htr 0 f rfl
  rw [ho,h.sz] at h1
  exact h.op (y:=y) h1 (fun z hz => hw z (by simpa [DataW.weightsEach] using hz))
theorem OpensF.cons {α β : Type} {P : Program} {f : Field} {fs : List Field} {o : Nat} {a : Kd α} {b : Kd β} {wa : α → Prop} {wb : β → Prop} (ho : f.offset = o) (h : Opens P f.type a wa) (o' : Nat) (ho' : o + a.sz = o') (hr : OpensF P fs o' b wb) :
  OpensF P (f :: fs) o (Kd.pair a b) (fun x => wa x.1 ∧ wb x.2):=by
 refine ⟨fun {H enc w n cs xs} hlen hxl htr hw => ?_⟩
 match xs,hxl with
 | y :: ys,hxl =>
  have h1:=htr 0 f rfl
  rw [ho,h.sz] at h1
  have hsz : (Kd.pair a b).sz = a.sz + b.sz:=rfl
  rw [hsz] at hlen
  obtain ⟨x0,k0,w0⟩:=h.op (y:=y) h1 (fun z hz => hw z (by simp only [List.map_cons,DataW.weightsEach,List.mem_append];exact .inl hz))
  obtain ⟨x1,k1,w1⟩:=hr.op (n:=n) (cs:=cs) (xs:=ys) (enc:=enc) (w:=w) (by omega) (by simpa using hxl) (fun i g hg => by have:=htr (i + 1) g (by simpa using hg);simpa using this) (fun z hz => hw z (by simp only [List.map_cons,DataW.weightsEach,List.mem_append];exact .inr hz))
  refine ⟨(x0,x1),⟨(cs.drop o).take a.sz,(cs.drop o').take b.sz,?_,k0,k1⟩,w0,w1⟩
  rw [hsz,← ho',List.take_add,List.drop_drop]
theorem Opens.struct {α : Type} {P : Program} {t : TypeId} {fs : Array Field} {d : Kd α} {wf : α → Prop} (hu : P.underlying t = some (.struct fs)) (hc : P.cellsOf t = d.sz) (h : OpensF P fs.toList 0 d wf) : Opens P t d wf :=
 ⟨hc,fun {H enc w fuel cs y} ht hw => by
  obtain ⟨xs,n,rfl,rfl,hlen,hxl,htr⟩:=DataW.trod_struct hu ht
  obtain ⟨x,hk,hx⟩:=h.op (enc:=enc) (w:=w) (n:=n) (cs:=cs) (xs:=xs) (by omega) (by simpa using hxl) (fun i f hf => htr i f (by simpa using hf)) (fun z hz => hw z (by simp only [DataW.weights,hu];exact hz))
  refine ⟨x,?_,hx⟩
  rw [List.drop_zero,List.take_of_length_le (by omega)] at hk
  exact hk⟩
theorem Opens.iso {α β : Type} {P : Program} {t : TypeId} {d : Kd α} {wf : α → Prop} (f : β → α) (g : α → β) (hfg : ∀ x,f (g x) = x) (h : Opens P t d wf) : Opens P t (Kd.iso d f) (fun x => wf (f x)) :=
 ⟨h.sz,fun ht hw => by
  obtain ⟨x,hk,hx⟩:=h.op ht hw
  exact ⟨g x,by show d.K _ (f (g x)) _;rw [hfg];exact hk,by rw [hfg];exact hx⟩⟩
end
section
/-! ### spec_l07Ask: function 69 -/
def spec_l07Ask.f (a0 : Int) (a1 : Int) : Option (Bool):=(spec_l01Ip.f a0).bind fun t147 => (if t147 = true then ((spec_l02Port.f a1).bind fun t148 => (some t148)) else (some false))
set_option maxHeartbeats 8000000 in
set_option maxRecDepth 100000 in
theorem spec_l07Ask.calls (a0 : Int) (a1 : Int) (r : Bool) (w : World) (h : spec_l07Ask.f a0 a1 = some r) :
  Calls Try.prog 69 #[.int .i64 a0,.int .i64 a1] w fun e w' => e = .returned (.bool r) ∧ Drawn0 w w':=by
 have H : ((spec_l01Ip.f a0).bind fun t147 => (if t147 = true then ((spec_l02Port.f a1).bind fun t148 => (some t148)) else (some false))) = some r:=h
 clear h
 replace H:=Option.bind_eq_some_iff.mp H
 obtain ⟨t147,A30,H⟩:=H
 replace H : (if t147 = true then ((spec_l02Port.f a1).bind fun t148 => (some t148)) else (some false)) = some r:=H
 have A3:=aMk A30
 clear A30
 by_cases c4 : t147 = true
 ·subst c4
  have H1 : ((spec_l02Port.f a1).bind fun t148 => (some t148)) = some r:=by rw [if_pos rfl] at H;exact H
  clear H
  have H:=H1
  clear H1
  replace H:=Option.bind_eq_some_iff.mp H
  obtain ⟨t148,A50,H⟩:=H
  replace H : (some t148) = some r:=H
  have A5:=aMk A50
  clear A50
  obtain rfl:=Option.some.inj H
  go_enter Try.func69,Try.ntmps69
  go_wp2_with (first|((with_reducible refine gate_callee (f:=59) rfl ?_);refine gLs 6 Try.func59 #[.int .i64 a0] ?_;(with_reducible refine (spec_l01Ip.calls a0 true _ A3.out).mono ?_);rintro e w' ⟨rfl,⟨nd,rfl⟩⟩;refine ⟨_,rfl,?_⟩)|(go_at_call 105;(with_reducible refine (spec_l02Port.calls a1 t148 _ A5.out).mono ?_);rintro e w' ⟨rfl,⟨nd,rfl⟩⟩))
  go_ret
  exact ⟨by first | rfl|(simp;done)|(simp [*];done)|(simp [ne_nil_b];done)|(simp [ne_nil_b, *];done),by repeat (first|exact Drawn0.refl _|apply Drawn0.step)⟩
 ·replace c4:=Bool.eq_false_iff.mpr c4
  subst c4
  have H1 : (some false) = some r:=by rw [if_neg (show ¬ (false = true) by decide)] at H;exact H
  clear H
  have H:=H1
  clear H1
  obtain rfl:=Option.some.inj H
  go_enter Try.func69,Try.ntmps69
  go_wp2_with (first|((with_reducible refine gate_callee (f:=59) rfl ?_);refine gLs 6 Try.func59 #[.int .i64 a0] ?_;(with_reducible refine (spec_l01Ip.calls a0 false _ A3.out).mono ?_);rintro e w' ⟨rfl,⟨nd,rfl⟩⟩;refine ⟨_,rfl,?_⟩))
  go_ret
  exact ⟨by first | rfl|(simp;done)|(simp [*];done)|(simp [ne_nil_b];done)|(simp [ne_nil_b, *];done),by repeat (first|exact Drawn0.refl _|apply Drawn0.step)⟩
end
section
/-! ### spec_l09Find: function 80 -/
def spec_l09Find.l0 : Nat → List (S71) → Int → Int → Int → Int → Int → Int → Option (Int × Bool)
 | 0,_,_,_,_,_,_,_ => none
 | k + 1,x0,x1,x2,x3,x4,x5,x14 => if x14 < (x0.length : Int) then (if 0 ≤ x14 then ((spec_l09Same.f ((rd_T71 x0 x14).f0) ((rd_T71 x0 x14).f1) ((rd_T71 x0 x14).f2) ((rd_T71 x0 x14).f3) ((rd_T71 x0 x14).f4) ((rd_T71 x0 x14).f5) ((rd_T71 x0 x14).f6) ((rd_T71 x0 x14).f7) ((rd_T71 x0 x14).f8) x1 x2 x3 x4 x5).bind fun t297 => (if t297 = true then (some (x14,false)) else ((spec_l09Same.f ((rd_T71 x0 x14).f0) ((rd_T71 x0 x14).f1) ((rd_T71 x0 x14).f2) ((rd_T71 x0 x14).f3) ((rd_T71 x0 x14).f4) ((rd_T71 x0 x14).f5) ((rd_T71 x0 x14).f6) ((rd_T71 x0 x14).f7) ((rd_T71 x0 x14).f8) x1 x4 x5 x2 x3).bind fun t299 => (if t299 = true then (some (x14,true)) else (spec_l09Find.l0 k x0 x1 x2 x3 x4 x5 (wrap64 (x14 + 1))))))) else (none)) else (some ((-1),false))
def spec_l09Find.f (k : Nat) (l0 : List (S71)) (a1 : Int) (a2 : Int) (a3 : Int) (a4 : Int) (a5 : Int) : Option (Int × Bool):=spec_l09Find.l0 k l0 a1 a2 a3 a4 a5 0
theorem spec_l09Find.mono_l : ∀ k,(∀ y0 y1 y2 y3 y4 y5 y6,LeO (spec_l09Find.l0 k y0 y1 y2 y3 y4 y5 y6) (spec_l09Find.l0 (k + 1) y0 y1 y2 y3 y4 y5 y6))
 | 0 => fun _ _ _ _ _ _ _ r h => by simp [spec_l09Find.l0] at h
 | k + 1 => by
  have ih0:=spec_l09Find.mono_l k
  ·intro y0 y1 y2 y3 y4 y5 y6
   unfold spec_l09Find.l0
   repeat' first
   | (with_reducible exact ih0 _ _ _ _ _ _ _)
   | (with_reducible exact LeO.refl _)
   | (with_reducible exact LeO.none _)
   | (with_reducible refine LeO.ite ?_ ?_)
   | (with_reducible refine LeO.bind ?_ (fun _ => ?_))
   | exact ih0 _ _ _ _ _ _ _
   | exact LeO.none _
   | refine LeO.ite ?_ ?_
   | refine LeO.bind ?_ (fun _ => ?_)
theorem spec_l09Find.mono : ∀ a0 a1 a2 a3 a4 a5 k,LeO (spec_l09Find.f k a0 a1 a2 a3 a4 a5) (spec_l09Find.f (k + 1) a0 a1 a2 a3 a4 a5):=by
 intro a0 a1 a2 a3 a4 a5 k
 have ih0:=spec_l09Find.mono_l k
 unfold spec_l09Find.f
 repeat' first
   | (with_reducible exact ih0 _ _ _ _ _ _ _)
   | (with_reducible exact LeO.refl _)
   | (with_reducible exact LeO.none _)
   | (with_reducible refine LeO.ite ?_ ?_)
   | (with_reducible refine LeO.bind ?_ (fun _ => ?_))
   | exact ih0 _ _ _ _ _ _ _
   | exact LeO.none _
   | refine LeO.ite ?_ ?_
   | refine LeO.bind ?_ (fun _ => ?_)
set_option maxHeartbeats 8000000 in
set_option maxRecDepth 100000 in
theorem spec_l09Find.calls (k : Nat) (A0 : Option Addr) (c0 : Nat) (l0 : List (S71)) (a1 : Int) (a2 : Int) (a3 : Int) (a4 : Int) (a5 : Int) (r1 : Int) (r2 : Bool) (w : World) (hr0 : Kd.C k71 w A0 l0.length l0) (hc0 : l0.length ≤ c0) (h : spec_l09Find.f k l0 a1 a2 a3 a4 a5 = some (r1,r2)) :
  Calls Try.prog 80 #[.slice A0 l0.length c0,.int .i64 a1,.int .i64 a2,.int .i64 a3,.int .i64 a4,.int .i64 a5] w fun e w' => e = .returned (.tuple #[.int .i64 r1,.bool r2]) ∧ Below w.heap.size w w':=by
 have hu71:=Try.underlying71
 have HR0:=aMk hr0
 have HC0:=aMk hc0
 clear hr0 hc0
 have HB:=aMk (Below.refl w.heap.size w)
 have H : (spec_l09Find.l0 k l0 a1 a2 a3 a4 a5 0) = some (r1,r2):=h
 clear h
 have H':=aMk H
 clear H
 go_enter Try.func80,Try.ntmps80
 go_wp2
 go_loopg [14] k (fun kq v14 w' => ∃ (x14_1 : Int),v14 = .int .i64 x14_1 ∧ Aside0 (spec_l09Find.l0 kq l0 a1 a2 a3 a4 a5 x14_1 = some (r1,r2)) ∧ Aside0 (kq ≤ k) ∧ Aside0 (Below w.heap.size w w'))
 case atStart => exact ⟨(0),(by first | rfl|(simp;done)|(simp [*];done)|(simp [ne_nil_b];done)|(simp [ne_nil_b, *];done)),H',⟨Nat.le_refl _⟩,⟨by repeat (first|(with_reducible first|exact HB.out|apply bwA|apply bwN|apply bw1)|exact HB.out)⟩⟩
 case round =>
  clear H'
  try clear p2
  obtain ⟨x14_1,rfl,HA,HK1,HB⟩:=hrel
  cases gk with
  | zero => exact absurd HA.out (by simp [spec_l09Find.l0])
  | succ k1 =>
   have H:=HA.out
   clear HA
   simp only [spec_l09Find.l0] at H
   by_cases c7 : x14_1 < (l0.length : Int)
   ·rw [if_pos c7] at H
    have c7b0 : decide (x14_1 < (l0.length : Int)) = true:=decide_eq_true c7
    clear c7
    by_cases c8 : 0 ≤ x14_1
    ·rw [if_pos c8] at H
     have c8b0 : decide (0 ≤ x14_1) = true:=decide_eq_true c8
     clear c8
     replace H:=Option.bind_eq_some_iff.mp H
     obtain ⟨t297,A90,H⟩:=H
     replace H : (if t297 = true then (some (x14_1,false)) else ((spec_l09Same.f ((rd_T71 l0 x14_1).f0) ((rd_T71 l0 x14_1).f1) ((rd_T71 l0 x14_1).f2) ((rd_T71 l0 x14_1).f3) ((rd_T71 l0 x14_1).f4) ((rd_T71 l0 x14_1).f5) ((rd_T71 l0 x14_1).f6) ((rd_T71 l0 x14_1).f7) ((rd_T71 l0 x14_1).f8) a1 a4 a5 a2 a3).bind fun t299 => (if t299 = true then (some (x14_1,true)) else (spec_l09Find.l0 k1 l0 a1 a2 a3 a4 a5 (wrap64 (x14_1 + 1)))))) = some (r1,r2):=H
     have A9:=aMk A90
     clear A90
     by_cases c10 : t297 = true
     ·subst c10
      have H1 : (some (x14_1,false)) = some (r1,r2):=by rw [if_pos rfl] at H;exact H
      clear H
      have H:=H1
      clear H1
      simp only [Option.some.injEq,Prod.mk.injEq] at H
      obtain ⟨rfl,rfl⟩:=H
      have p296 : 0 ≤ (x14_1 : Int):=of_decide_eq_true (by first|(with_reducible assumption) | assumption)
      have q296 : x14_1 < (l0.length : Int):=of_decide_eq_true (by first|(with_reducible assumption) | assumption)
      obtain ⟨ad296,e296,hx296_0,hx296_1,hx296_2,hx296_3,hx296_4,hx296_5,hx296_6,hx296_7,hx296_8⟩:=at_T71 HR0.out x14_1 p296 q296
      cases e296
      replace hx296_0:=bXc HB.out hx296_0
      replace hx296_1:=bXc HB.out hx296_1
      replace hx296_2:=bXc HB.out hx296_2
      replace hx296_3:=bXc HB.out hx296_3
      replace hx296_4:=bXc HB.out hx296_4
      replace hx296_5:=bXc HB.out hx296_5
      replace hx296_6:=bXc HB.out hx296_6
      replace hx296_7:=bXc HB.out hx296_7
      replace hx296_8:=bXc HB.out hx296_8
      replace p296:=eq_true p296
      replace q296:=eq_true q296
      go_wp2_with (first|((with_reducible refine gate_callee (f:=76) rfl ?_);refine gLs 30 Try.func76 #[.agg #[.int .i64 ((rd_T71 l0 x14_1).f0),.string ((rd_T71 l0 x14_1).f1),.int .i64 ((rd_T71 l0 x14_1).f2),.int .i64 ((rd_T71 l0 x14_1).f3),.int .i64 ((rd_T71 l0 x14_1).f4),.int .i64 ((rd_T71 l0 x14_1).f5),.int .i64 ((rd_T71 l0 x14_1).f6),.int .i64 ((rd_T71 l0 x14_1).f7),.int .i64 ((rd_T71 l0 x14_1).f8)],.int .i64 a1,.int .i64 a2,.int .i64 a3,.int .i64 a4,.int .i64 a5] ?_;(with_reducible refine (spec_l09Same.calls ((rd_T71 l0 x14_1).f0) ((rd_T71 l0 x14_1).f1) ((rd_T71 l0 x14_1).f2) ((rd_T71 l0 x14_1).f3) ((rd_T71 l0 x14_1).f4) ((rd_T71 l0 x14_1).f5) ((rd_T71 l0 x14_1).f6) ((rd_T71 l0 x14_1).f7) ((rd_T71 l0 x14_1).f8) a1 a2 a3 a4 a5 true _ A9.out).mono ?_);rintro e w11 ⟨rfl,hb⟩;refine ⟨_,rfl,?_⟩;have n0_:=aMk (bSt hb);clear HB;have HB:=n0_;clear n0_;(try clear hb);(try clear hb2);(try clear hk);(try clear hi)))
      go_ret2
      exact ⟨eRf,by repeat (first|(with_reducible first|exact HB.out|apply bwA|apply bwN|apply bw1)|exact HB.out)⟩
     ·replace c10:=Bool.eq_false_iff.mpr c10
      subst c10
      have H1 : ((spec_l09Same.f ((rd_T71 l0 x14_1).f0) ((rd_T71 l0 x14_1).f1) ((rd_T71 l0 x14_1).f2) ((rd_T71 l0 x14_1).f3) ((rd_T71 l0 x14_1).f4) ((rd_T71 l0 x14_1).f5) ((rd_T71 l0 x14_1).f6) ((rd_T71 l0 x14_1).f7) ((rd_T71 l0 x14_1).f8) a1 a4 a5 a2 a3).bind fun t299 => (if t299 = true then (some (x14_1,true)) else (spec_l09Find.l0 k1 l0 a1 a2 a3 a4 a5 (wrap64 (x14_1 + 1))))) = some (r1,r2):=by rw [if_neg (show ¬ (false = true) by decide)] at H;exact H
      clear H
      have H:=H1
      clear H1
      replace H:=Option.bind_eq_some_iff.mp H
      obtain ⟨t299,A120,H⟩:=H
      replace H : (if t299 = true then (some (x14_1,true)) else (spec_l09Find.l0 k1 l0 a1 a2 a3 a4 a5 (wrap64 (x14_1 + 1)))) = some (r1,r2):=H
      have A12:=aMk A120
      clear A120
      by_cases c13 : t299 = true
      ·subst c13
       have H1 : (some (x14_1,true)) = some (r1,r2):=by rw [if_pos rfl] at H;exact H
       clear H
       have H:=H1
       clear H1
       simp only [Option.some.injEq,Prod.mk.injEq] at H
       obtain ⟨rfl,rfl⟩:=H
       have p296 : 0 ≤ (x14_1 : Int):=of_decide_eq_true (by first|(with_reducible assumption) | assumption)
       have q296 : x14_1 < (l0.length : Int):=of_decide_eq_true (by first|(with_reducible assumption) | assumption)
       obtain ⟨ad296,e296,hx296_0,hx296_1,hx296_2,hx296_3,hx296_4,hx296_5,hx296_6,hx296_7,hx296_8⟩:=at_T71 HR0.out x14_1 p296 q296
       cases e296
       replace hx296_0:=bXc HB.out hx296_0
       replace hx296_1:=bXc HB.out hx296_1
       replace hx296_2:=bXc HB.out hx296_2
       replace hx296_3:=bXc HB.out hx296_3
       replace hx296_4:=bXc HB.out hx296_4
       replace hx296_5:=bXc HB.out hx296_5
       replace hx296_6:=bXc HB.out hx296_6
       replace hx296_7:=bXc HB.out hx296_7
       replace hx296_8:=bXc HB.out hx296_8
       replace p296:=eq_true p296
       replace q296:=eq_true q296
       go_wp2_with (first|((with_reducible refine gate_callee (f:=76) rfl ?_);refine gLs 30 Try.func76 #[.agg #[.int .i64 ((rd_T71 l0 x14_1).f0),.string ((rd_T71 l0 x14_1).f1),.int .i64 ((rd_T71 l0 x14_1).f2),.int .i64 ((rd_T71 l0 x14_1).f3),.int .i64 ((rd_T71 l0 x14_1).f4),.int .i64 ((rd_T71 l0 x14_1).f5),.int .i64 ((rd_T71 l0 x14_1).f6),.int .i64 ((rd_T71 l0 x14_1).f7),.int .i64 ((rd_T71 l0 x14_1).f8)],.int .i64 a1,.int .i64 a2,.int .i64 a3,.int .i64 a4,.int .i64 a5] ?_;(with_reducible refine (spec_l09Same.calls ((rd_T71 l0 x14_1).f0) ((rd_T71 l0 x14_1).f1) ((rd_T71 l0 x14_1).f2) ((rd_T71 l0 x14_1).f3) ((rd_T71 l0 x14_1).f4) ((rd_T71 l0 x14_1).f5) ((rd_T71 l0 x14_1).f6) ((rd_T71 l0 x14_1).f7) ((rd_T71 l0 x14_1).f8) a1 a2 a3 a4 a5 false _ A9.out).mono ?_);rintro e w14 ⟨rfl,hb⟩;refine ⟨_,rfl,?_⟩;have n0_:=aMk (bSt hb);clear HB;have HB:=n0_;clear n0_;(try clear hb);(try clear hb2);(try clear hk);(try clear hi);have p298 : 0 ≤ (x14_1 : Int):=of_decide_eq_true (by first|(with_reducible assumption) | assumption);have q298 : x14_1 < (l0.length : Int):=of_decide_eq_true (by first|(with_reducible assumption) | assumption);obtain ⟨ad298,e298,hx298_0,hx298_1,hx298_2,hx298_3,hx298_4,hx298_5,hx298_6,hx298_7,hx298_8⟩:=at_T71 HR0.out x14_1 p298 q298;obtain rfl : ad296 = ad298:=(by injection e298);replace hx298_0:=bXc HB.out hx298_0;replace hx298_1:=bXc HB.out hx298_1;replace hx298_2:=bXc HB.out hx298_2;replace hx298_3:=bXc HB.out hx298_3;replace hx298_4:=bXc HB.out hx298_4;replace hx298_5:=bXc HB.out hx298_5;replace hx298_6:=bXc HB.out hx298_6;replace hx298_7:=bXc HB.out hx298_7;replace hx298_8:=bXc HB.out hx298_8;replace p298:=eq_true p298;replace q298:=eq_true q298)|((with_reducible refine gate_callee (f:=76) rfl ?_);refine gLs 41 Try.func76 #[.agg #[.int .i64 ((rd_T71 l0 x14_1).f0),.string ((rd_T71 l0 x14_1).f1),.int .i64 ((rd_T71 l0 x14_1).f2),.int .i64 ((rd_T71 l0 x14_1).f3),.int .i64 ((rd_T71 l0 x14_1).f4),.int .i64 ((rd_T71 l0 x14_1).f5),.int .i64 ((rd_T71 l0 x14_1).f6),.int .i64 ((rd_T71 l0 x14_1).f7),.int .i64 ((rd_T71 l0 x14_1).f8)],.int .i64 a1,.int .i64 a4,.int .i64 a5,.int .i64 a2,.int .i64 a3] ?_;(with_reducible refine (spec_l09Same.calls ((rd_T71 l0 x14_1).f0) ((rd_T71 l0 x14_1).f1) ((rd_T71 l0 x14_1).f2) ((rd_T71 l0 x14_1).f3) ((rd_T71 l0 x14_1).f4) ((rd_T71 l0 x14_1).f5) ((rd_T71 l0 x14_1).f6) ((rd_T71 l0 x14_1).f7) ((rd_T71 l0 x14_1).f8) a1 a4 a5 a2 a3 true _ A12.out).mono ?_);rintro e w15 ⟨rfl,hb⟩;refine ⟨_,rfl,?_⟩;have n0_:=aMk (bSt hb);clear HB;have HB:=n0_;clear n0_;(try clear hb);(try clear hb2);(try clear hk);(try clear hi)))
       go_ret2
       exact ⟨eRf,by repeat (first|(with_reducible first|exact HB.out|apply bwA|apply bwN|apply bw1)|exact HB.out)⟩
      ·replace c13:=Bool.eq_false_iff.mpr c13
       subst c13
       have H1 : (spec_l09Find.l0 k1 l0 a1 a2 a3 a4 a5 (wrap64 (x14_1 + 1))) = some (r1,r2):=by rw [if_neg (show ¬ (false = true) by decide)] at H;exact H
       clear H
       have H:=H1
       clear H1
       have H':=aMk H
       clear H
       have p296 : 0 ≤ (x14_1 : Int):=of_decide_eq_true (by first|(with_reducible assumption) | assumption)
       have q296 : x14_1 < (l0.length : Int):=of_decide_eq_true (by first|(with_reducible assumption) | assumption)
       obtain ⟨ad296,e296,hx296_0,hx296_1,hx296_2,hx296_3,hx296_4,hx296_5,hx296_6,hx296_7,hx296_8⟩:=at_T71 HR0.out x14_1 p296 q296
       cases e296
       replace hx296_0:=bXc HB.out hx296_0
       replace hx296_1:=bXc HB.out hx296_1
       replace hx296_2:=bXc HB.out hx296_2
       replace hx296_3:=bXc HB.out hx296_3
       replace hx296_4:=bXc HB.out hx296_4
       replace hx296_5:=bXc HB.out hx296_5
       replace hx296_6:=bXc HB.out hx296_6
       replace hx296_7:=bXc HB.out hx296_7
       replace hx296_8:=bXc HB.out hx296_8
       replace p296:=eq_true p296
       replace q296:=eq_true q296
       go_wp2_with (first|((with_reducible refine gate_callee (f:=76) rfl ?_);refine gLs 30 Try.func76 #[.agg #[.int .i64 ((rd_T71 l0 x14_1).f0),.string ((rd_T71 l0 x14_1).f1),.int .i64 ((rd_T71 l0 x14_1).f2),.int .i64 ((rd_T71 l0 x14_1).f3),.int .i64 ((rd_T71 l0 x14_1).f4),.int .i64 ((rd_T71 l0 x14_1).f5),.int .i64 ((rd_T71 l0 x14_1).f6),.int .i64 ((rd_T71 l0 x14_1).f7),.int .i64 ((rd_T71 l0 x14_1).f8)],.int .i64 a1,.int .i64 a2,.int .i64 a3,.int .i64 a4,.int .i64 a5] ?_;(with_reducible refine (spec_l09Same.calls ((rd_T71 l0 x14_1).f0) ((rd_T71 l0 x14_1).f1) ((rd_T71 l0 x14_1).f2) ((rd_T71 l0 x14_1).f3) ((rd_T71 l0 x14_1).f4) ((rd_T71 l0 x14_1).f5) ((rd_T71 l0 x14_1).f6) ((rd_T71 l0 x14_1).f7) ((rd_T71 l0 x14_1).f8) a1 a2 a3 a4 a5 false _ A9.out).mono ?_);rintro e w16 ⟨rfl,hb⟩;refine ⟨_,rfl,?_⟩;have n0_:=aMk (bSt hb);clear HB;have HB:=n0_;clear n0_;(try clear hb);(try clear hb2);(try clear hk);(try clear hi);have p298 : 0 ≤ (x14_1 : Int):=of_decide_eq_true (by first|(with_reducible assumption) | assumption);have q298 : x14_1 < (l0.length : Int):=of_decide_eq_true (by first|(with_reducible assumption) | assumption);obtain ⟨ad298,e298,hx298_0,hx298_1,hx298_2,hx298_3,hx298_4,hx298_5,hx298_6,hx298_7,hx298_8⟩:=at_T71 HR0.out x14_1 p298 q298;obtain rfl : ad296 = ad298:=(by injection e298);replace hx298_0:=bXc HB.out hx298_0;replace hx298_1:=bXc HB.out hx298_1;replace hx298_2:=bXc HB.out hx298_2;replace hx298_3:=bXc HB.out hx298_3;replace hx298_4:=bXc HB.out hx298_4;replace hx298_5:=bXc HB.out hx298_5;replace hx298_6:=bXc HB.out hx298_6;replace hx298_7:=bXc HB.out hx298_7;replace hx298_8:=bXc HB.out hx298_8;replace p298:=eq_true p298;replace q298:=eq_true q298)|((with_reducible refine gate_callee (f:=76) rfl ?_);refine gLs 41 Try.func76 #[.agg #[.int .i64 ((rd_T71 l0 x14_1).f0),.string ((rd_T71 l0 x14_1).f1),.int .i64 ((rd_T71 l0 x14_1).f2),.int .i64 ((rd_T71 l0 x14_1).f3),.int .i64 ((rd_T71 l0 x14_1).f4),.int .i64 ((rd_T71 l0 x14_1).f5),.int .i64 ((rd_T71 l0 x14_1).f6),.int .i64 ((rd_T71 l0 x14_1).f7),.int .i64 ((rd_T71 l0 x14_1).f8)],.int .i64 a1,.int .i64 a4,.int .i64 a5,.int .i64 a2,.int .i64 a3] ?_;(with_reducible refine (spec_l09Same.calls ((rd_T71 l0 x14_1).f0) ((rd_T71 l0 x14_1).f1) ((rd_T71 l0 x14_1).f2) ((rd_T71 l0 x14_1).f3) ((rd_T71 l0 x14_1).f4) ((rd_T71 l0 x14_1).f5) ((rd_T71 l0 x14_1).f6) ((rd_T71 l0 x14_1).f7) ((rd_T71 l0 x14_1).f8) a1 a4 a5 a2 a3 false _ A12.out).mono ?_);rintro e w17 ⟨rfl,hb⟩;refine ⟨_,rfl,?_⟩;have n0_:=aMk (bSt hb);clear HB;have HB:=n0_;clear n0_;(try clear hb);(try clear hb2);(try clear hk);(try clear hi)))
       go_roundg k1
       case measure => have:=HK1.out;omega
       case rel => exact ⟨(wrap64 (x14_1 + 1)),(by first | rfl|(simp;done)|(simp [*];done)|(simp [ne_nil_b];done)|(simp [ne_nil_b, *];done)),H',⟨by have:=HK1.out;omega⟩,⟨by repeat (first|(with_reducible first|exact HB.out|apply bwA|apply bwN|apply bw1)|exact HB.out)⟩⟩
    ·rw [if_neg c8] at H
     exact absurd H (by simp)
   ·rw [if_neg c7] at H
    have c7b0 : decide (x14_1 < (l0.length : Int)) = false:=decide_eq_false c7
    clear c7
    simp only [Option.some.injEq,Prod.mk.injEq] at H
    obtain ⟨rfl,rfl⟩:=H
    go_wp2
    go_ret2
    exact ⟨eRf,by repeat (first|(with_reducible first|exact HB.out|apply bwA|apply bwN|apply bw1)|exact HB.out)⟩
end
end Go.Proofs.Ytlpkldomoniegaa.X
