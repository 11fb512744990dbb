/- Texts that the row of FnExactFlowPass stands on: functions of the program and of the reference, each as a Lean function with the same answers, and the plain lemmas. Conditions: none beside those that each theorem names. -/
import Derived.Test.YtlpkldomoniegaaCFnExactFlowPass2
namespace Go.Proofs.Ytlpkldomoniegaa.X
open Go.RowKit Go.Proofs.YtlpkldomoniegaaW.PrintWords Go.Proofs.YtlpkldomoniegaaW.PrintLast Go.Proofs.YtlpkldomoniegaaW.PrintMore
attribute [local go_sem] max2_int min2_int max_two min_two max_three min_three max_four min_four   -- for this text's walks alone
set_option linter.unusedVariables false
set_option linter.unusedSimpArgs false
open Go.Proofs.YtlpkldomoniegaaW.PrintWords renaming blk_drewN -> bDn
open Go.Proofs.YtlpkldomoniegaaW.PrintWords renaming blk_drew -> bDr
open Go.Proofs.YtlpkldomoniegaaW.PrintWords renaming blk_alloc -> bAl
open Go.Proofs.YtlpkldomoniegaaW.PrintWords renaming blk_frozen -> bFr
open Go.Proofs.YtlpkldomoniegaaW.PrintWords renaming blk_cell -> bCe
open Go.Proofs.YtlpkldomoniegaaW.PrintWords.Aside0 renaming mk -> aMk
open Go.World renaming block_lt_of_cell? -> wLt
open Go.Proofs.YtlpkldomoniegaaW.PrintWords renaming pw_below_drewN -> bwN
open Go.Proofs.YtlpkldomoniegaaW.PrintWords renaming below_drew1 -> bw1
open Go.Proofs.YtlpkldomoniegaaW.PrintWords renaming below_alloc -> bwA
section
/-! ### spec_l09Flow: function 75 -/
def spec_l09Flow.f (a0_0 : Int) (a0_1 : ByteArray) (a0_2 : Int) (a0_3 : Int) (a0_4 : Int) (a0_5 : Int) (a0_6 : Int) (a0_7 : Int) (a0_8 : Int) : Option (Bool):=(spec_l01In.f a0_0 0 255).bind fun t208 => (if t208 = true then ((spec_l01Mac.f a0_1).bind fun t209 => (if t209 = true then ((spec_l01Ip.f a0_2).bind fun t210 => (if t210 = true then ((spec_l01Ip.f a0_4).bind fun t211 => (if t211 = true then ((spec_l02Port.f a0_3).bind fun t212 => (if t212 = true then ((spec_l02Port.f a0_5).bind fun t213 => (if t213 = true then ((spec_l01In.f a0_6 1 3).bind fun t214 => (if t214 = true then ((spec_l01In.f a0_7 0 100100).bind fun t215 => (if t215 = true then ((spec_l01In.f a0_8 0 10000).bind fun t216 => (some t216)) else (some false))) else (some false))) else (some false))) else (some false))) else (some false))) else (some false))) else (some false))) else (some false))
set_option maxHeartbeats 8000000 in
set_option maxRecDepth 100000 in
theorem spec_l09Flow.calls (a0_0 : Int) (a0_1 : ByteArray) (a0_2 : Int) (a0_3 : Int) (a0_4 : Int) (a0_5 : Int) (a0_6 : Int) (a0_7 : Int) (a0_8 : Int) (r : Bool) (w : World) (h : spec_l09Flow.f a0_0 a0_1 a0_2 a0_3 a0_4 a0_5 a0_6 a0_7 a0_8 = some r) :
  Calls Try.prog 75 #[.agg #[.int .i64 a0_0,.string a0_1,.int .i64 a0_2,.int .i64 a0_3,.int .i64 a0_4,.int .i64 a0_5,.int .i64 a0_6,.int .i64 a0_7,.int .i64 a0_8]] w fun e w' => e = .returned (.bool r) ∧ Below w.heap.size w w':=by
 have hu71:=Try.underlying71
 have HB:=aMk (Below.refl w.heap.size w)
 have H : ((spec_l01In.f a0_0 0 255).bind fun t208 => (if t208 = true then ((spec_l01Mac.f a0_1).bind fun t209 => (if t209 = true then ((spec_l01Ip.f a0_2).bind fun t210 => (if t210 = true then ((spec_l01Ip.f a0_4).bind fun t211 => (if t211 = true then ((spec_l02Port.f a0_3).bind fun t212 => (if t212 = true then ((spec_l02Port.f a0_5).bind fun t213 => (if t213 = true then ((spec_l01In.f a0_6 1 3).bind fun t214 => (if t214 = true then ((spec_l01In.f a0_7 0 100100).bind fun t215 => (if t215 = true then ((spec_l01In.f a0_8 0 10000).bind fun t216 => (some t216)) else (some false))) else (some false))) else (some false))) else (some false))) else (some false))) else (some false))) else (some false))) else (some false))) = some r:=h
 clear h
 replace H:=Option.bind_eq_some_iff.mp H
 obtain ⟨t208,A20,H⟩:=H
 replace H : (if t208 = true then ((spec_l01Mac.f a0_1).bind fun t209 => (if t209 = true then ((spec_l01Ip.f a0_2).bind fun t210 => (if t210 = true then ((spec_l01Ip.f a0_4).bind fun t211 => (if t211 = true then ((spec_l02Port.f a0_3).bind fun t212 => (if t212 = true then ((spec_l02Port.f a0_5).bind fun t213 => (if t213 = true then ((spec_l01In.f a0_6 1 3).bind fun t214 => (if t214 = true then ((spec_l01In.f a0_7 0 100100).bind fun t215 => (if t215 = true then ((spec_l01In.f a0_8 0 10000).bind fun t216 => (some t216)) else (some false))) else (some false))) else (some false))) else (some false))) else (some false))) else (some false))) else (some false))) else (some false)) = some r:=H
 have A2:=aMk A20
 clear A20
 by_cases c3 : t208 = true
 ·subst c3
  have H1 : ((spec_l01Mac.f a0_1).bind fun t209 => (if t209 = true then ((spec_l01Ip.f a0_2).bind fun t210 => (if t210 = true then ((spec_l01Ip.f a0_4).bind fun t211 => (if t211 = true then ((spec_l02Port.f a0_3).bind fun t212 => (if t212 = true then ((spec_l02Port.f a0_5).bind fun t213 => (if t213 = true then ((spec_l01In.f a0_6 1 3).bind fun t214 => (if t214 = true then ((spec_l01In.f a0_7 0 100100).bind fun t215 => (if t215 = true then ((spec_l01In.f a0_8 0 10000).bind fun t216 => (some t216)) else (some false))) else (some false))) else (some false))) else (some false))) else (some false))) else (some false))) else (some false))) = some r:=by rw [if_pos rfl] at H;exact H
  clear H
  have H:=H1
  clear H1
  replace H:=Option.bind_eq_some_iff.mp H
  obtain ⟨t209,A40,H⟩:=H
  replace H : (if t209 = true then ((spec_l01Ip.f a0_2).bind fun t210 => (if t210 = true then ((spec_l01Ip.f a0_4).bind fun t211 => (if t211 = true then ((spec_l02Port.f a0_3).bind fun t212 => (if t212 = true then ((spec_l02Port.f a0_5).bind fun t213 => (if t213 = true then ((spec_l01In.f a0_6 1 3).bind fun t214 => (if t214 = true then ((spec_l01In.f a0_7 0 100100).bind fun t215 => (if t215 = true then ((spec_l01In.f a0_8 0 10000).bind fun t216 => (some t216)) else (some false))) else (some false))) else (some false))) else (some false))) else (some false))) else (some false))) else (some false)) = some r:=H
  have A4:=aMk A40
  clear A40
  by_cases c5 : t209 = true
  ·subst c5
   have H1 : ((spec_l01Ip.f a0_2).bind fun t210 => (if t210 = true then ((spec_l01Ip.f a0_4).bind fun t211 => (if t211 = true then ((spec_l02Port.f a0_3).bind fun t212 => (if t212 = true then ((spec_l02Port.f a0_5).bind fun t213 => (if t213 = true then ((spec_l01In.f a0_6 1 3).bind fun t214 => (if t214 = true then ((spec_l01In.f a0_7 0 100100).bind fun t215 => (if t215 = true then ((spec_l01In.f a0_8 0 10000).bind fun t216 => (some t216)) else (some false))) else (some false))) else (some false))) else (some false))) else (some false))) else (some false))) = some r:=by rw [if_pos rfl] at H;exact H
   clear H
   have H:=H1
   clear H1
   replace H:=Option.bind_eq_some_iff.mp H
   obtain ⟨t210,A60,H⟩:=H
   replace H : (if t210 = true then ((spec_l01Ip.f a0_4).bind fun t211 => (if t211 = true then ((spec_l02Port.f a0_3).bind fun t212 => (if t212 = true then ((spec_l02Port.f a0_5).bind fun t213 => (if t213 = true then ((spec_l01In.f a0_6 1 3).bind fun t214 => (if t214 = true then ((spec_l01In.f a0_7 0 100100).bind fun t215 => (if t215 = true then ((spec_l01In.f a0_8 0 10000).bind fun t216 => (some t216)) else (some false))) else (some false))) else (some false))) else (some false))) else (some false))) else (some false)) = some r:=H
   have A6:=aMk A60
   clear A60
   by_cases c7 : t210 = true
   ·subst c7
    have H1 : ((spec_l01Ip.f a0_4).bind fun t211 => (if t211 = true then ((spec_l02Port.f a0_3).bind fun t212 => (if t212 = true then ((spec_l02Port.f a0_5).bind fun t213 => (if t213 = true then ((spec_l01In.f a0_6 1 3).bind fun t214 => (if t214 = true then ((spec_l01In.f a0_7 0 100100).bind fun t215 => (if t215 = true then ((spec_l01In.f a0_8 0 10000).bind fun t216 => (some t216)) else (some false))) else (some false))) else (some false))) else (some false))) else (some false))) = some r:=by rw [if_pos rfl] at H;exact H
    clear H
    have H:=H1
    clear H1
    replace H:=Option.bind_eq_some_iff.mp H
    obtain ⟨t211,A80,H⟩:=H
    replace H : (if t211 = true then ((spec_l02Port.f a0_3).bind fun t212 => (if t212 = true then ((spec_l02Port.f a0_5).bind fun t213 => (if t213 = true then ((spec_l01In.f a0_6 1 3).bind fun t214 => (if t214 = true then ((spec_l01In.f a0_7 0 100100).bind fun t215 => (if t215 = true then ((spec_l01In.f a0_8 0 10000).bind fun t216 => (some t216)) else (some false))) else (some false))) else (some false))) else (some false))) else (some false)) = some r:=H
    have A8:=aMk A80
    clear A80
    by_cases c9 : t211 = true
    ·subst c9
     have H1 : ((spec_l02Port.f a0_3).bind fun t212 => (if t212 = true then ((spec_l02Port.f a0_5).bind fun t213 => (if t213 = true then ((spec_l01In.f a0_6 1 3).bind fun t214 => (if t214 = true then ((spec_l01In.f a0_7 0 100100).bind fun t215 => (if t215 = true then ((spec_l01In.f a0_8 0 10000).bind fun t216 => (some t216)) else (some false))) else (some false))) else (some false))) else (some false))) = some r:=by rw [if_pos rfl] at H;exact H
     clear H
     have H:=H1
     clear H1
     replace H:=Option.bind_eq_some_iff.mp H
     obtain ⟨t212,A100,H⟩:=H
     replace H : (if t212 = true then ((spec_l02Port.f a0_5).bind fun t213 => (if t213 = true then ((spec_l01In.f a0_6 1 3).bind fun t214 => (if t214 = true then ((spec_l01In.f a0_7 0 100100).bind fun t215 => (if t215 = true then ((spec_l01In.f a0_8 0 10000).bind fun t216 => (some t216)) else (some false))) else (some false))) else (some false))) else (some false)) = some r:=H
     have A10:=aMk A100
     clear A100
     by_cases c11 : t212 = true
     ·subst c11
      have H1 : ((spec_l02Port.f a0_5).bind fun t213 => (if t213 = true then ((spec_l01In.f a0_6 1 3).bind fun t214 => (if t214 = true then ((spec_l01In.f a0_7 0 100100).bind fun t215 => (if t215 = true then ((spec_l01In.f a0_8 0 10000).bind fun t216 => (some t216)) else (some false))) else (some false))) else (some false))) = some r:=by rw [if_pos rfl] at H;exact H
      clear H
      have H:=H1
      clear H1
      replace H:=Option.bind_eq_some_iff.mp H
      obtain ⟨t213,A120,H⟩:=H
      replace H : (if t213 = true then ((spec_l01In.f a0_6 1 3).bind fun t214 => (if t214 = true then ((spec_l01In.f a0_7 0 100100).bind fun t215 => (if t215 = true then ((spec_l01In.f a0_8 0 10000).bind fun t216 => (some t216)) else (some false))) else (some false))) else (some false)) = some r:=H
      have A12:=aMk A120
      clear A120
      by_cases c13 : t213 = true
      ·subst c13
       have H1 : ((spec_l01In.f a0_6 1 3).bind fun t214 => (if t214 = true then ((spec_l01In.f a0_7 0 100100).bind fun t215 => (if t215 = true then ((spec_l01In.f a0_8 0 10000).bind fun t216 => (some t216)) else (some false))) else (some false))) = some r:=by rw [if_pos rfl] at H;exact H
       clear H
       have H:=H1
       clear H1
       replace H:=Option.bind_eq_some_iff.mp H
       obtain ⟨t214,A140,H⟩:=H
       replace H : (if t214 = true then ((spec_l01In.f a0_7 0 100100).bind fun t215 => (if t215 = true then ((spec_l01In.f a0_8 0 10000).bind fun t216 => (some t216)) else (some false))) else (some false)) = some r:=H
       have A14:=aMk A140
       clear A140
       by_cases c15 : t214 = true
       ·subst c15
        have H1 : ((spec_l01In.f a0_7 0 100100).bind fun t215 => (if t215 = true then ((spec_l01In.f a0_8 0 10000).bind fun t216 => (some t216)) else (some false))) = some r:=by rw [if_pos rfl] at H;exact H
        clear H
        have H:=H1
        clear H1
        replace H:=Option.bind_eq_some_iff.mp H
        obtain ⟨t215,A160,H⟩:=H
        replace H : (if t215 = true then ((spec_l01In.f a0_8 0 10000).bind fun t216 => (some t216)) else (some false)) = some r:=H
        have A16:=aMk A160
        clear A160
        by_cases c17 : t215 = true
        ·subst c17
         have H1 : ((spec_l01In.f a0_8 0 10000).bind fun t216 => (some t216)) = some r:=by rw [if_pos rfl] at H;exact H
         clear H
         have H:=H1
         clear H1
         replace H:=Option.bind_eq_some_iff.mp H
         obtain ⟨t216,A180,H⟩:=H
         replace H : (some t216) = some r:=H
         have A18:=aMk A180
         clear A180
         obtain rfl:=Option.some.inj H
         go_enter Try.func75,Try.ntmps75
         go_wp2_with (first|((with_reducible refine gate_dst (N:=1) rfl ?_);refine bxE (N:=1) (cs:=#[.int .i64 a0_0,.string a0_1,.int .i64 a0_2,.int .i64 a0_3,.int .i64 a0_4,.int .i64 a0_5,.int .i64 a0_6,.int .i64 a0_7,.int .i64 a0_8]) (t:=71) ?_;intro gb207 hg w19 hbox hb;have n0_:=aMk (bSt hb);have n1_:=aMk (hbox);have n2_:=aMk ((by rw [hg];exact bSz : w.heap.size ≤ gb207));have n3_:=aMk ((by rw [hg];exact bSz : w.heap.size ≤ gb207));clear HB;have HB:=n0_;have BK207:=n1_;have GW207:=n2_;have GE207:=n3_;clear n0_ n1_ n2_ n3_;clear hb hbox hg;obtain ⟨hcz20_0,hcz20_1,hcz20_2,hcz20_3,hcz20_4,hcz20_5,hcz20_6,hcz20_7,hcz20_8,hfz20_0,hfz20_1,hfz20_2,hfz20_3,hfz20_4,hfz20_5,hfz20_6,hfz20_7,hfz20_8⟩:=bC9 BK207.out)|((with_reducible refine gate_callee (f:=64) rfl ?_);refine gLs 5 Try.func64 #[.int .i64 a0_0,.int .i64 0,.int .i64 255] ?_;(with_reducible refine (spec_l01In.calls a0_0 0 255 true _ A2.out).mono ?_);rintro e w' ⟨rfl,⟨nd,rfl⟩⟩;refine ⟨_,rfl,?_⟩)|(go_at_call 68;(with_reducible refine (spec_l01Mac.calls a0_1 true _ A4.out).mono ?_);rintro e w' ⟨rfl,⟨nd,rfl⟩⟩)|(go_at_call 59;(with_reducible refine (spec_l01Ip.calls a0_2 true _ A6.out).mono ?_);rintro e w' ⟨rfl,⟨nd,rfl⟩⟩)|(go_at_call 59;(with_reducible refine (spec_l01Ip.calls a0_4 true _ A8.out).mono ?_);rintro e w' ⟨rfl,⟨nd,rfl⟩⟩)|(go_at_call 105;(with_reducible refine (spec_l02Port.calls a0_3 true _ A10.out).mono ?_);rintro e w' ⟨rfl,⟨nd,rfl⟩⟩)|(go_at_call 105;(with_reducible refine (spec_l02Port.calls a0_5 true _ A12.out).mono ?_);rintro e w' ⟨rfl,⟨nd,rfl⟩⟩)|(go_at_call 64;(with_reducible refine (spec_l01In.calls a0_6 1 3 true _ A14.out).mono ?_);rintro e w' ⟨rfl,⟨nd,rfl⟩⟩)|(go_at_call 64;(with_reducible refine (spec_l01In.calls a0_7 0 100100 true _ A16.out).mono ?_);rintro e w' ⟨rfl,⟨nd,rfl⟩⟩)|(go_at_call 64;(with_reducible refine (spec_l01In.calls a0_8 0 10000 t216 _ A18.out).mono ?_);rintro e w' ⟨rfl,⟨nd,rfl⟩⟩))
         go_ret
         exact ⟨eRf,by repeat (first|(with_reducible first|exact HB.out|apply bwA|apply bwN|apply bw1|refine below_set ?_ GE207.out)|exact HB.out)⟩
        ·replace c17:=Bool.eq_false_iff.mpr c17
         subst c17
         have H1 : (some false) = some r:=by rw [if_neg (show ¬ (false = true) by decide)] at H;exact H
         clear H
         have H:=H1
         clear H1
         obtain rfl:=Option.some.inj H
         go_enter Try.func75,Try.ntmps75
         go_wp2_with (first|((with_reducible refine gate_dst (N:=1) rfl ?_);refine bxE (N:=1) (cs:=#[.int .i64 a0_0,.string a0_1,.int .i64 a0_2,.int .i64 a0_3,.int .i64 a0_4,.int .i64 a0_5,.int .i64 a0_6,.int .i64 a0_7,.int .i64 a0_8]) (t:=71) ?_;intro gb207 hg w21 hbox hb;have n0_:=aMk (bSt hb);have n1_:=aMk (hbox);have n2_:=aMk ((by rw [hg];exact bSz : w.heap.size ≤ gb207));have n3_:=aMk ((by rw [hg];exact bSz : w.heap.size ≤ gb207));clear HB;have HB:=n0_;have BK207:=n1_;have GW207:=n2_;have GE207:=n3_;clear n0_ n1_ n2_ n3_;clear hb hbox hg;obtain ⟨hcz22_0,hcz22_1,hcz22_2,hcz22_3,hcz22_4,hcz22_5,hcz22_6,hcz22_7,hcz22_8,hfz22_0,hfz22_1,hfz22_2,hfz22_3,hfz22_4,hfz22_5,hfz22_6,hfz22_7,hfz22_8⟩:=bC9 BK207.out)|((with_reducible refine gate_callee (f:=64) rfl ?_);refine gLs 5 Try.func64 #[.int .i64 a0_0,.int .i64 0,.int .i64 255] ?_;(with_reducible refine (spec_l01In.calls a0_0 0 255 true _ A2.out).mono ?_);rintro e w' ⟨rfl,⟨nd,rfl⟩⟩;refine ⟨_,rfl,?_⟩)|(go_at_call 68;(with_reducible refine (spec_l01Mac.calls a0_1 true _ A4.out).mono ?_);rintro e w' ⟨rfl,⟨nd,rfl⟩⟩)|(go_at_call 59;(with_reducible refine (spec_l01Ip.calls a0_2 true _ A6.out).mono ?_);rintro e w' ⟨rfl,⟨nd,rfl⟩⟩)|(go_at_call 59;(with_reducible refine (spec_l01Ip.calls a0_4 true _ A8.out).mono ?_);rintro e w' ⟨rfl,⟨nd,rfl⟩⟩)|(go_at_call 105;(with_reducible refine (spec_l02Port.calls a0_3 true _ A10.out).mono ?_);rintro e w' ⟨rfl,⟨nd,rfl⟩⟩)|(go_at_call 105;(with_reducible refine (spec_l02Port.calls a0_5 true _ A12.out).mono ?_);rintro e w' ⟨rfl,⟨nd,rfl⟩⟩)|(go_at_call 64;(with_reducible refine (spec_l01In.calls a0_6 1 3 true _ A14.out).mono ?_);rintro e w' ⟨rfl,⟨nd,rfl⟩⟩)|(go_at_call 64;(with_reducible refine (spec_l01In.calls a0_7 0 100100 false _ A16.out).mono ?_);rintro e w' ⟨rfl,⟨nd,rfl⟩⟩))
         go_ret
         exact ⟨eRf,by repeat (first|(with_reducible first|exact HB.out|apply bwA|apply bwN|apply bw1|refine below_set ?_ GE207.out)|exact HB.out)⟩
       ·replace c15:=Bool.eq_false_iff.mpr c15
        subst c15
        have H1 : (some false) = some r:=by rw [if_neg (show ¬ (false = true) by decide)] at H;exact H
        clear H
        have H:=H1
        clear H1
        obtain rfl:=Option.some.inj H
        go_enter Try.func75,Try.ntmps75
        go_wp2_with (first|((with_reducible refine gate_dst (N:=1) rfl ?_);refine bxE (N:=1) (cs:=#[.int .i64 a0_0,.string a0_1,.int .i64 a0_2,.int .i64 a0_3,.int .i64 a0_4,.int .i64 a0_5,.int .i64 a0_6,.int .i64 a0_7,.int .i64 a0_8]) (t:=71) ?_;intro gb207 hg w23 hbox hb;have n0_:=aMk (bSt hb);have n1_:=aMk (hbox);have n2_:=aMk ((by rw [hg];exact bSz : w.heap.size ≤ gb207));have n3_:=aMk ((by rw [hg];exact bSz : w.heap.size ≤ gb207));clear HB;have HB:=n0_;have BK207:=n1_;have GW207:=n2_;have GE207:=n3_;clear n0_ n1_ n2_ n3_;clear hb hbox hg;obtain ⟨hcz24_0,hcz24_1,hcz24_2,hcz24_3,hcz24_4,hcz24_5,hcz24_6,hcz24_7,hcz24_8,hfz24_0,hfz24_1,hfz24_2,hfz24_3,hfz24_4,hfz24_5,hfz24_6,hfz24_7,hfz24_8⟩:=bC9 BK207.out)|((with_reducible refine gate_callee (f:=64) rfl ?_);refine gLs 5 Try.func64 #[.int .i64 a0_0,.int .i64 0,.int .i64 255] ?_;(with_reducible refine (spec_l01In.calls a0_0 0 255 true _ A2.out).mono ?_);rintro e w' ⟨rfl,⟨nd,rfl⟩⟩;refine ⟨_,rfl,?_⟩)|(go_at_call 68;(with_reducible refine (spec_l01Mac.calls a0_1 true _ A4.out).mono ?_);rintro e w' ⟨rfl,⟨nd,rfl⟩⟩)|(go_at_call 59;(with_reducible refine (spec_l01Ip.calls a0_2 true _ A6.out).mono ?_);rintro e w' ⟨rfl,⟨nd,rfl⟩⟩)|(go_at_call 59;(with_reducible refine (spec_l01Ip.calls a0_4 true _ A8.out).mono ?_);rintro e w' ⟨rfl,⟨nd,rfl⟩⟩)|(go_at_call 105;(with_reducible refine (spec_l02Port.calls a0_3 true _ A10.out).mono ?_);rintro e w' ⟨rfl,⟨nd,rfl⟩⟩)|(go_at_call 105;(with_reducible refine (spec_l02Port.calls a0_5 true _ A12.out).mono ?_);rintro e w' ⟨rfl,⟨nd,rfl⟩⟩)|(go_at_call 64;(with_reducible refine (spec_l01In.calls a0_6 1 3 false _ A14.out).mono ?_);rintro e w' ⟨rfl,⟨nd,rfl⟩⟩))
        go_ret
        exact ⟨eRf,by repeat (first|(with_reducible first|exact HB.out|apply bwA|apply bwN|apply bw1|refine below_set ?_ GE207.out)|exact HB.out)⟩
      ·replace c13:=Bool.eq_false_iff.mpr c13
       subst c13
       have H1 : (some false) = some r:=by rw [if_neg (show ¬ (false = true) by decide)] at H;exact H
       clear H
       have H:=H1
       clear H1
       obtain rfl:=Option.some.inj H
       go_enter Try.func75,Try.ntmps75
       go_wp2_with (first|((with_reducible refine gate_dst (N:=1) rfl ?_);refine bxE (N:=1) (cs:=#[.int .i64 a0_0,.string a0_1,.int .i64 a0_2,.int .i64 a0_3,.int .i64 a0_4,.int .i64 a0_5,.int .i64 a0_6,.int .i64 a0_7,.int .i64 a0_8]) (t:=71) ?_;intro gb207 hg w25 hbox hb;have n0_:=aMk (bSt hb);have n1_:=aMk (hbox);have n2_:=aMk ((by rw [hg];exact bSz : w.heap.size ≤ gb207));have n3_:=aMk ((by rw [hg];exact bSz : w.heap.size ≤ gb207));clear HB;have HB:=n0_;have BK207:=n1_;have GW207:=n2_;have GE207:=n3_;clear n0_ n1_ n2_ n3_;clear hb hbox hg;obtain ⟨hcz26_0,hcz26_1,hcz26_2,hcz26_3,hcz26_4,hcz26_5,hcz26_6,hcz26_7,hcz26_8,hfz26_0,hfz26_1,hfz26_2,hfz26_3,hfz26_4,hfz26_5,hfz26_6,hfz26_7,hfz26_8⟩:=bC9 BK207.out)|((with_reducible refine gate_callee (f:=64) rfl ?_);refine gLs 5 Try.func64 #[.int .i64 a0_0,.int .i64 0,.int .i64 255] ?_;(with_reducible refine (spec_l01In.calls a0_0 0 255 true _ A2.out).mono ?_);rintro e w' ⟨rfl,⟨nd,rfl⟩⟩;refine ⟨_,rfl,?_⟩)|(go_at_call 68;(with_reducible refine (spec_l01Mac.calls a0_1 true _ A4.out).mono ?_);rintro e w' ⟨rfl,⟨nd,rfl⟩⟩)|(go_at_call 59;(with_reducible refine (spec_l01Ip.calls a0_2 true _ A6.out).mono ?_);rintro e w' ⟨rfl,⟨nd,rfl⟩⟩)|(go_at_call 59;(with_reducible refine (spec_l01Ip.calls a0_4 true _ A8.out).mono ?_);rintro e w' ⟨rfl,⟨nd,rfl⟩⟩)|(go_at_call 105;(with_reducible refine (spec_l02Port.calls a0_3 true _ A10.out).mono ?_);rintro e w' ⟨rfl,⟨nd,rfl⟩⟩)|(go_at_call 105;(with_reducible refine (spec_l02Port.calls a0_5 false _ A12.out).mono ?_);rintro e w' ⟨rfl,⟨nd,rfl⟩⟩))
       go_ret
       exact ⟨eRf,by repeat (first|(with_reducible first|exact HB.out|apply bwA|apply bwN|apply bw1|refine below_set ?_ GE207.out)|exact HB.out)⟩
     ·replace c11:=Bool.eq_false_iff.mpr c11
      subst c11
      have H1 : (some false) = some r:=by rw [if_neg (show ¬ (false = true) by decide)] at H;exact H
      clear H
      have H:=H1
      clear H1
      obtain rfl:=Option.some.inj H
      go_enter Try.func75,Try.ntmps75
      go_wp2_with (first|((with_reducible refine gate_dst (N:=1) rfl ?_);refine bxE (N:=1) (cs:=#[.int .i64 a0_0,.string a0_1,.int .i64 a0_2,.int .i64 a0_3,.int .i64 a0_4,.int .i64 a0_5,.int .i64 a0_6,.int .i64 a0_7,.int .i64 a0_8]) (t:=71) ?_;intro gb207 hg w27 hbox hb;have n0_:=aMk (bSt hb);have n1_:=aMk (hbox);have n2_:=aMk ((by rw [hg];exact bSz : w.heap.size ≤ gb207));have n3_:=aMk ((by rw [hg];exact bSz : w.heap.size ≤ gb207));clear HB;have HB:=n0_;have BK207:=n1_;have GW207:=n2_;have GE207:=n3_;clear n0_ n1_ n2_ n3_;clear hb hbox hg;obtain ⟨hcz28_0,hcz28_1,hcz28_2,hcz28_3,hcz28_4,hcz28_5,hcz28_6,hcz28_7,hcz28_8,hfz28_0,hfz28_1,hfz28_2,hfz28_3,hfz28_4,hfz28_5,hfz28_6,hfz28_7,hfz28_8⟩:=bC9 BK207.out)|((with_reducible refine gate_callee (f:=64) rfl ?_);refine gLs 5 Try.func64 #[.int .i64 a0_0,.int .i64 0,.int .i64 255] ?_;(with_reducible refine (spec_l01In.calls a0_0 0 255 true _ A2.out).mono ?_);rintro e w' ⟨rfl,⟨nd,rfl⟩⟩;refine ⟨_,rfl,?_⟩)|(go_at_call 68;(with_reducible refine (spec_l01Mac.calls a0_1 true _ A4.out).mono ?_);rintro e w' ⟨rfl,⟨nd,rfl⟩⟩)|(go_at_call 59;(with_reducible refine (spec_l01Ip.calls a0_2 true _ A6.out).mono ?_);rintro e w' ⟨rfl,⟨nd,rfl⟩⟩)|(go_at_call 59;(with_reducible refine (spec_l01Ip.calls a0_4 true _ A8.out).mono ?_);rintro e w' ⟨rfl,⟨nd,rfl⟩⟩)|(go_at_call 105;(with_reducible refine (spec_l02Port.calls a0_3 false _ A10.out).mono ?_);rintro e w' ⟨rfl,⟨nd,rfl⟩⟩))
      go_ret
      exact ⟨eRf,by repeat (first|(with_reducible first|exact HB.out|apply bwA|apply bwN|apply bw1|refine below_set ?_ GE207.out)|exact HB.out)⟩
    ·replace c9:=Bool.eq_false_iff.mpr c9
     subst c9
     have H1 : (some false) = some r:=by rw [if_neg (show ¬ (false = true) by decide)] at H;exact H
     clear H
     have H:=H1
     clear H1
     obtain rfl:=Option.some.inj H
     go_enter Try.func75,Try.ntmps75
     go_wp2_with (first|((with_reducible refine gate_dst (N:=1) rfl ?_);refine bxE (N:=1) (cs:=#[.int .i64 a0_0,.string a0_1,.int .i64 a0_2,.int .i64 a0_3,.int .i64 a0_4,.int .i64 a0_5,.int .i64 a0_6,.int .i64 a0_7,.int .i64 a0_8]) (t:=71) ?_;intro gb207 hg w29 hbox hb;have n0_:=aMk (bSt hb);have n1_:=aMk (hbox);have n2_:=aMk ((by rw [hg];exact bSz : w.heap.size ≤ gb207));have n3_:=aMk ((by rw [hg];exact bSz : w.heap.size ≤ gb207));clear HB;have HB:=n0_;have BK207:=n1_;have GW207:=n2_;have GE207:=n3_;clear n0_ n1_ n2_ n3_;clear hb hbox hg;obtain ⟨hcz30_0,hcz30_1,hcz30_2,hcz30_3,hcz30_4,hcz30_5,hcz30_6,hcz30_7,hcz30_8,hfz30_0,hfz30_1,hfz30_2,hfz30_3,hfz30_4,hfz30_5,hfz30_6,hfz30_7,hfz30_8⟩:=bC9 BK207.out)|((with_reducible refine gate_callee (f:=64) rfl ?_);refine gLs 5 Try.func64 #[.int .i64 a0_0,.int .i64 0,.int .i64 255] ?_;(with_reducible refine (spec_l01In.calls a0_0 0 255 true _ A2.out).mono ?_);rintro e w' ⟨rfl,⟨nd,rfl⟩⟩;refine ⟨_,rfl,?_⟩)|(go_at_call 68;(with_reducible refine (spec_l01Mac.calls a0_1 true _ A4.out).mono ?_);rintro e w' ⟨rfl,⟨nd,rfl⟩⟩)|(go_at_call 59;(with_reducible refine (spec_l01Ip.calls a0_2 true _ A6.out).mono ?_);rintro e w' ⟨rfl,⟨nd,rfl⟩⟩)|(go_at_call 59;(with_reducible refine (spec_l01Ip.calls a0_4 false _ A8.out).mono ?_);rintro e w' ⟨rfl,⟨nd,rfl⟩⟩))
     go_ret
     exact ⟨eRf,by repeat (first|(with_reducible first|exact HB.out|apply bwA|apply bwN|apply bw1|refine below_set ?_ GE207.out)|exact HB.out)⟩
   ·replace c7:=Bool.eq_false_iff.mpr c7
    subst c7
    have H1 : (some false) = some r:=by rw [if_neg (show ¬ (false = true) by decide)] at H;exact H
    clear H
    have H:=H1
    clear H1
    obtain rfl:=Option.some.inj H
    go_enter Try.func75,Try.ntmps75
    go_wp2_with (first|((with_reducible refine gate_dst (N:=1) rfl ?_);refine bxE (N:=1) (cs:=#[.int .i64 a0_0,.string a0_1,.int .i64 a0_2,.int .i64 a0_3,.int .i64 a0_4,.int .i64 a0_5,.int .i64 a0_6,.int .i64 a0_7,.int .i64 a0_8]) (t:=71) ?_;intro gb207 hg w31 hbox hb;have n0_:=aMk (bSt hb);have n1_:=aMk (hbox);have n2_:=aMk ((by rw [hg];exact bSz : w.heap.size ≤ gb207));have n3_:=aMk ((by rw [hg];exact bSz : w.heap.size ≤ gb207));clear HB;have HB:=n0_;have BK207:=n1_;have GW207:=n2_;have GE207:=n3_;clear n0_ n1_ n2_ n3_;clear hb hbox hg;obtain ⟨hcz32_0,hcz32_1,hcz32_2,hcz32_3,hcz32_4,hcz32_5,hcz32_6,hcz32_7,hcz32_8,hfz32_0,hfz32_1,hfz32_2,hfz32_3,hfz32_4,hfz32_5,hfz32_6,hfz32_7,hfz32_8⟩:=bC9 BK207.out)|((with_reducible refine gate_callee (f:=64) rfl ?_);refine gLs 5 Try.func64 #[.int .i64 a0_0,.int .i64 0,.int .i64 255] ?_;(with_reducible refine (spec_l01In.calls a0_0 0 255 true _ A2.out).mono ?_);rintro e w' ⟨rfl,⟨nd,rfl⟩⟩;refine ⟨_,rfl,?_⟩)|(go_at_call 68;(with_reducible refine (spec_l01Mac.calls a0_1 true _ A4.out).mono ?_);rintro e w' ⟨rfl,⟨nd,rfl⟩⟩)|(go_at_call 59;(with_reducible refine (spec_l01Ip.calls a0_2 false _ A6.out).mono ?_);rintro e w' ⟨rfl,⟨nd,rfl⟩⟩))
    go_ret
    exact ⟨eRf,by repeat (first|(with_reducible first|exact HB.out|apply bwA|apply bwN|apply bw1|refine below_set ?_ GE207.out)|exact HB.out)⟩
  ·replace c5:=Bool.eq_false_iff.mpr c5
   subst c5
   have H1 : (some false) = some r:=by rw [if_neg (show ¬ (false = true) by decide)] at H;exact H
   clear H
   have H:=H1
   clear H1
   obtain rfl:=Option.some.inj H
   go_enter Try.func75,Try.ntmps75
   go_wp2_with (first|((with_reducible refine gate_dst (N:=1) rfl ?_);refine bxE (N:=1) (cs:=#[.int .i64 a0_0,.string a0_1,.int .i64 a0_2,.int .i64 a0_3,.int .i64 a0_4,.int .i64 a0_5,.int .i64 a0_6,.int .i64 a0_7,.int .i64 a0_8]) (t:=71) ?_;intro gb207 hg w33 hbox hb;have n0_:=aMk (bSt hb);have n1_:=aMk (hbox);have n2_:=aMk ((by rw [hg];exact bSz : w.heap.size ≤ gb207));have n3_:=aMk ((by rw [hg];exact bSz : w.heap.size ≤ gb207));clear HB;have HB:=n0_;have BK207:=n1_;have GW207:=n2_;have GE207:=n3_;clear n0_ n1_ n2_ n3_;clear hb hbox hg;obtain ⟨hcz34_0,hcz34_1,hcz34_2,hcz34_3,hcz34_4,hcz34_5,hcz34_6,hcz34_7,hcz34_8,hfz34_0,hfz34_1,hfz34_2,hfz34_3,hfz34_4,hfz34_5,hfz34_6,hfz34_7,hfz34_8⟩:=bC9 BK207.out)|((with_reducible refine gate_callee (f:=64) rfl ?_);refine gLs 5 Try.func64 #[.int .i64 a0_0,.int .i64 0,.int .i64 255] ?_;(with_reducible refine (spec_l01In.calls a0_0 0 255 true _ A2.out).mono ?_);rintro e w' ⟨rfl,⟨nd,rfl⟩⟩;refine ⟨_,rfl,?_⟩)|(go_at_call 68;(with_reducible refine (spec_l01Mac.calls a0_1 false _ A4.out).mono ?_);rintro e w' ⟨rfl,⟨nd,rfl⟩⟩))
   go_ret
   exact ⟨eRf,by repeat (first|(with_reducible first|exact HB.out|apply bwA|apply bwN|apply bw1|refine below_set ?_ GE207.out)|exact HB.out)⟩
 ·replace c3:=Bool.eq_false_iff.mpr c3
  subst c3
  have H1 : (some false) = some r:=by rw [if_neg (show ¬ (false = true) by decide)] at H;exact H
  clear H
  have H:=H1
  clear H1
  obtain rfl:=Option.some.inj H
  go_enter Try.func75,Try.ntmps75
  go_wp2_with (first|((with_reducible refine gate_dst (N:=1) rfl ?_);refine bxE (N:=1) (cs:=#[.int .i64 a0_0,.string a0_1,.int .i64 a0_2,.int .i64 a0_3,.int .i64 a0_4,.int .i64 a0_5,.int .i64 a0_6,.int .i64 a0_7,.int .i64 a0_8]) (t:=71) ?_;intro gb207 hg w35 hbox hb;have n0_:=aMk (bSt hb);have n1_:=aMk (hbox);have n2_:=aMk ((by rw [hg];exact bSz : w.heap.size ≤ gb207));have n3_:=aMk ((by rw [hg];exact bSz : w.heap.size ≤ gb207));clear HB;have HB:=n0_;have BK207:=n1_;have GW207:=n2_;have GE207:=n3_;clear n0_ n1_ n2_ n3_;clear hb hbox hg;obtain ⟨hcz36_0,hcz36_1,hcz36_2,hcz36_3,hcz36_4,hcz36_5,hcz36_6,hcz36_7,hcz36_8,hfz36_0,hfz36_1,hfz36_2,hfz36_3,hfz36_4,hfz36_5,hfz36_6,hfz36_7,hfz36_8⟩:=bC9 BK207.out)|((with_reducible refine gate_callee (f:=64) rfl ?_);refine gLs 5 Try.func64 #[.int .i64 a0_0,.int .i64 0,.int .i64 255] ?_;(with_reducible refine (spec_l01In.calls a0_0 0 255 false _ A2.out).mono ?_);rintro e w' ⟨rfl,⟨nd,rfl⟩⟩;refine ⟨_,rfl,?_⟩))
  go_ret
  exact ⟨eRf,by repeat (first|(with_reducible first|exact HB.out|apply bwA|apply bwN|apply bw1|refine below_set ?_ GE207.out)|exact HB.out)⟩
end
section
/-! ### spec_l09Same: function 76 -/
def spec_l09Same.f (a0_0 : Int) (a0_1 : ByteArray) (a0_2 : Int) (a0_3 : Int) (a0_4 : Int) (a0_5 : Int) (a0_6 : Int) (a0_7 : Int) (a0_8 : Int) (a1 : Int) (a2 : Int) (a3 : Int) (a4 : Int) (a5 : Int) : Option (Bool):=if a0_0 = a1 then (if a0_2 = a2 then (if a0_3 = a3 then (if a0_4 = a4 then (some (a0_5 == a5)) else (some false)) else (some false)) else (some false)) else (some false)
set_option maxHeartbeats 8000000 in
set_option maxRecDepth 100000 in
theorem spec_l09Same.calls (a0_0 : Int) (a0_1 : ByteArray) (a0_2 : Int) (a0_3 : Int) (a0_4 : Int) (a0_5 : Int) (a0_6 : Int) (a0_7 : Int) (a0_8 : Int) (a1 : Int) (a2 : Int) (a3 : Int) (a4 : Int) (a5 : Int) (r : Bool) (w : World) (h : spec_l09Same.f a0_0 a0_1 a0_2 a0_3 a0_4 a0_5 a0_6 a0_7 a0_8 a1 a2 a3 a4 a5 = some r) :
  Calls Try.prog 76 #[.agg #[.int .i64 a0_0,.string a0_1,.int .i64 a0_2,.int .i64 a0_3,.int .i64 a0_4,.int .i64 a0_5,.int .i64 a0_6,.int .i64 a0_7,.int .i64 a0_8],.int .i64 a1,.int .i64 a2,.int .i64 a3,.int .i64 a4,.int .i64 a5] w fun e w' => e = .returned (.bool r) ∧ Below w.heap.size w w':=by
 have hu71:=Try.underlying71
 have HB:=aMk (Below.refl w.heap.size w)
 have H : (if a0_0 = a1 then (if a0_2 = a2 then (if a0_3 = a3 then (if a0_4 = a4 then (some (a0_5 == a5)) else (some false)) else (some false)) else (some false)) else (some false)) = some r:=h
 clear h
 by_cases c7 : a0_0 = a1
 ·rw [if_pos c7] at H
  have c7b0 : (a0_0 == a1) = true:=beq_iff_eq.mpr c7
  have c7b1 : (a0_0 != a1) = false:=bne_eq_false_iff_eq.mpr c7
  clear c7
  by_cases c8 : a0_2 = a2
  ·rw [if_pos c8] at H
   have c8b0 : (a0_2 == a2) = true:=beq_iff_eq.mpr c8
   have c8b1 : (a0_2 != a2) = false:=bne_eq_false_iff_eq.mpr c8
   clear c8
   by_cases c9 : a0_3 = a3
   ·rw [if_pos c9] at H
    have c9b0 : (a0_3 == a3) = true:=beq_iff_eq.mpr c9
    have c9b1 : (a0_3 != a3) = false:=bne_eq_false_iff_eq.mpr c9
    clear c9
    by_cases c10 : a0_4 = a4
    ·rw [if_pos c10] at H
     have c10b0 : (a0_4 == a4) = true:=beq_iff_eq.mpr c10
     have c10b1 : (a0_4 != a4) = false:=bne_eq_false_iff_eq.mpr c10
     clear c10
     obtain rfl:=Option.some.inj H
     go_enter Try.func76,Try.ntmps76
     go_wp2_with (first|((with_reducible refine gate_dst (N:=6) rfl ?_);refine bxE (N:=6) (cs:=#[.int .i64 a0_0,.string a0_1,.int .i64 a0_2,.int .i64 a0_3,.int .i64 a0_4,.int .i64 a0_5,.int .i64 a0_6,.int .i64 a0_7,.int .i64 a0_8]) (t:=71) ?_;intro gb217 hg w11 hbox hb;have n0_:=aMk (bSt hb);have n1_:=aMk (hbox);have n2_:=aMk ((by rw [hg];exact bSz : w.heap.size ≤ gb217));have n3_:=aMk ((by rw [hg];exact bSz : w.heap.size ≤ gb217));clear HB;have HB:=n0_;have BK217:=n1_;have GW217:=n2_;have GE217:=n3_;clear n0_ n1_ n2_ n3_;clear hb hbox hg;obtain ⟨hcz12_0,hcz12_1,hcz12_2,hcz12_3,hcz12_4,hcz12_5,hcz12_6,hcz12_7,hcz12_8,hfz12_0,hfz12_1,hfz12_2,hfz12_3,hfz12_4,hfz12_5,hfz12_6,hfz12_7,hfz12_8⟩:=bC9 BK217.out))
     go_ret
     exact ⟨eRf,by repeat (first|(with_reducible first|exact HB.out|apply bwA|apply bwN|apply bw1|refine below_set ?_ GE217.out)|exact HB.out)⟩
    ·rw [if_neg c10] at H
     have c10b0 : (a0_4 == a4) = false:=beq_eq_false_iff_ne.mpr c10
     have c10b1 : (a0_4 != a4) = true:=bne_iff_ne.mpr c10
     obtain rfl:=Option.some.inj H
     go_enter Try.func76,Try.ntmps76
     go_wp2_with (first|((with_reducible refine gate_dst (N:=6) rfl ?_);refine bxE (N:=6) (cs:=#[.int .i64 a0_0,.string a0_1,.int .i64 a0_2,.int .i64 a0_3,.int .i64 a0_4,.int .i64 a0_5,.int .i64 a0_6,.int .i64 a0_7,.int .i64 a0_8]) (t:=71) ?_;intro gb217 hg w13 hbox hb;have n0_:=aMk (bSt hb);have n1_:=aMk (hbox);have n2_:=aMk ((by rw [hg];exact bSz : w.heap.size ≤ gb217));have n3_:=aMk ((by rw [hg];exact bSz : w.heap.size ≤ gb217));clear HB;have HB:=n0_;have BK217:=n1_;have GW217:=n2_;have GE217:=n3_;clear n0_ n1_ n2_ n3_;clear hb hbox hg;obtain ⟨hcz14_0,hcz14_1,hcz14_2,hcz14_3,hcz14_4,hcz14_5,hcz14_6,hcz14_7,hcz14_8,hfz14_0,hfz14_1,hfz14_2,hfz14_3,hfz14_4,hfz14_5,hfz14_6,hfz14_7,hfz14_8⟩:=bC9 BK217.out))
     go_ret
     exact ⟨eRf,by repeat (first|(with_reducible first|exact HB.out|apply bwA|apply bwN|apply bw1|refine below_set ?_ GE217.out)|exact HB.out)⟩
   ·rw [if_neg c9] at H
    have c9b0 : (a0_3 == a3) = false:=beq_eq_false_iff_ne.mpr c9
    have c9b1 : (a0_3 != a3) = true:=bne_iff_ne.mpr c9
    obtain rfl:=Option.some.inj H
    go_enter Try.func76,Try.ntmps76
    go_wp2_with (first|((with_reducible refine gate_dst (N:=6) rfl ?_);refine bxE (N:=6) (cs:=#[.int .i64 a0_0,.string a0_1,.int .i64 a0_2,.int .i64 a0_3,.int .i64 a0_4,.int .i64 a0_5,.int .i64 a0_6,.int .i64 a0_7,.int .i64 a0_8]) (t:=71) ?_;intro gb217 hg w15 hbox hb;have n0_:=aMk (bSt hb);have n1_:=aMk (hbox);have n2_:=aMk ((by rw [hg];exact bSz : w.heap.size ≤ gb217));have n3_:=aMk ((by rw [hg];exact bSz : w.heap.size ≤ gb217));clear HB;have HB:=n0_;have BK217:=n1_;have GW217:=n2_;have GE217:=n3_;clear n0_ n1_ n2_ n3_;clear hb hbox hg;obtain ⟨hcz16_0,hcz16_1,hcz16_2,hcz16_3,hcz16_4,hcz16_5,hcz16_6,hcz16_7,hcz16_8,hfz16_0,hfz16_1,hfz16_2,hfz16_3,hfz16_4,hfz16_5,hfz16_6,hfz16_7,hfz16_8⟩:=bC9 BK217.out))
    go_ret
    exact ⟨eRf,by repeat (first|(with_reducible first|exact HB.out|apply bwA|apply bwN|apply bw1|refine below_set ?_ GE217.out)|exact HB.out)⟩
  ·rw [if_neg c8] at H
   have c8b0 : (a0_2 == a2) = false:=beq_eq_false_iff_ne.mpr c8
   have c8b1 : (a0_2 != a2) = true:=bne_iff_ne.mpr c8
   obtain rfl:=Option.some.inj H
   go_enter Try.func76,Try.ntmps76
   go_wp2_with (first|((with_reducible refine gate_dst (N:=6) rfl ?_);refine bxE (N:=6) (cs:=#[.int .i64 a0_0,.string a0_1,.int .i64 a0_2,.int .i64 a0_3,.int .i64 a0_4,.int .i64 a0_5,.int .i64 a0_6,.int .i64 a0_7,.int .i64 a0_8]) (t:=71) ?_;intro gb217 hg w17 hbox hb;have n0_:=aMk (bSt hb);have n1_:=aMk (hbox);have n2_:=aMk ((by rw [hg];exact bSz : w.heap.size ≤ gb217));have n3_:=aMk ((by rw [hg];exact bSz : w.heap.size ≤ gb217));clear HB;have HB:=n0_;have BK217:=n1_;have GW217:=n2_;have GE217:=n3_;clear n0_ n1_ n2_ n3_;clear hb hbox hg;obtain ⟨hcz18_0,hcz18_1,hcz18_2,hcz18_3,hcz18_4,hcz18_5,hcz18_6,hcz18_7,hcz18_8,hfz18_0,hfz18_1,hfz18_2,hfz18_3,hfz18_4,hfz18_5,hfz18_6,hfz18_7,hfz18_8⟩:=bC9 BK217.out))
   go_ret
   exact ⟨eRf,by repeat (first|(with_reducible first|exact HB.out|apply bwA|apply bwN|apply bw1|refine below_set ?_ GE217.out)|exact HB.out)⟩
 ·rw [if_neg c7] at H
  have c7b0 : (a0_0 == a1) = false:=beq_eq_false_iff_ne.mpr c7
  have c7b1 : (a0_0 != a1) = true:=bne_iff_ne.mpr c7
  obtain rfl:=Option.some.inj H
  go_enter Try.func76,Try.ntmps76
  go_wp2_with (first|((with_reducible refine gate_dst (N:=6) rfl ?_);refine bxE (N:=6) (cs:=#[.int .i64 a0_0,.string a0_1,.int .i64 a0_2,.int .i64 a0_3,.int .i64 a0_4,.int .i64 a0_5,.int .i64 a0_6,.int .i64 a0_7,.int .i64 a0_8]) (t:=71) ?_;intro gb217 hg w19 hbox hb;have n0_:=aMk (bSt hb);have n1_:=aMk (hbox);have n2_:=aMk ((by rw [hg];exact bSz : w.heap.size ≤ gb217));have n3_:=aMk ((by rw [hg];exact bSz : w.heap.size ≤ gb217));clear HB;have HB:=n0_;have BK217:=n1_;have GW217:=n2_;have GE217:=n3_;clear n0_ n1_ n2_ n3_;clear hb hbox hg;obtain ⟨hcz20_0,hcz20_1,hcz20_2,hcz20_3,hcz20_4,hcz20_5,hcz20_6,hcz20_7,hcz20_8,hfz20_0,hfz20_1,hfz20_2,hfz20_3,hfz20_4,hfz20_5,hfz20_6,hfz20_7,hfz20_8⟩:=bC9 BK217.out))
  go_ret
  exact ⟨eRf,by repeat (first|(with_reducible first|exact HB.out|apply bwA|apply bwN|apply bw1|refine below_set ?_ GE217.out)|exact HB.out)⟩
end
section
/-! ### spec_FlowsOK: function 27 -/
mutual
def spec_FlowsOK.l0 : Nat → List (S71) → Int → Option (Bool)
 | 0,_,_ => none
 | k + 1,x0,x3 => if x3 < (x0.length : Int) then (if 0 ≤ x3 then ((spec_l09Flow.f ((rd_T71 x0 x3).f0) ((rd_T71 x0 x3).f1) ((rd_T71 x0 x3).f2) ((rd_T71 x0 x3).f3) ((rd_T71 x0 x3).f4) ((rd_T71 x0 x3).f5) ((rd_T71 x0 x3).f6) ((rd_T71 x0 x3).f7) ((rd_T71 x0 x3).f8)).bind fun t220 => (if t220 = true then (spec_FlowsOK.l1 k x0 x3 0 ((rd_T71 x0 x3).f0) ((rd_T71 x0 x3).f1) ((rd_T71 x0 x3).f2) ((rd_T71 x0 x3).f3) ((rd_T71 x0 x3).f4) ((rd_T71 x0 x3).f5) ((rd_T71 x0 x3).f6) ((rd_T71 x0 x3).f7) ((rd_T71 x0 x3).f8)) else (some false))) else (none)) else (some true)
def spec_FlowsOK.l1 : Nat → List (S71) → Int → Int → Int → ByteArray → Int → Int → Int → Int → Int → Int → Int → Option (Bool)
 | 0,_,_,_,_,_,_,_,_,_,_,_,_ => none
 | k + 1,x0,x3,x5,x220000,x220001,x220002,x220003,x220004,x220005,x220006,x220007,x220008 => if x5 < x3 then (if 0 ≤ x5 then (if x5 < (x0.length : Int) then ((spec_l09Same.f ((rd_T71 x0 x5).f0) ((rd_T71 x0 x5).f1) ((rd_T71 x0 x5).f2) ((rd_T71 x0 x5).f3) ((rd_T71 x0 x5).f4) ((rd_T71 x0 x5).f5) ((rd_T71 x0 x5).f6) ((rd_T71 x0 x5).f7) ((rd_T71 x0 x5).f8) x220000 x220002 x220003 x220004 x220005).bind fun t223 => (if t223 = true then (some false) else ((spec_l09Same.f ((rd_T71 x0 x5).f0) ((rd_T71 x0 x5).f1) ((rd_T71 x0 x5).f2) ((rd_T71 x0 x5).f3) ((rd_T71 x0 x5).f4) ((rd_T71 x0 x5).f5) ((rd_T71 x0 x5).f6) ((rd_T71 x0 x5).f7) ((rd_T71 x0 x5).f8) x220000 x220004 x220005 x220002 x220003).bind fun t224 => (if t224 = true then (some false) else (spec_FlowsOK.l1 k x0 x3 (wrap64 (x5 + 1)) x220000 x220001 x220002 x220003 x220004 x220005 x220006 x220007 x220008))))) else (none)) else (none)) else (spec_FlowsOK.l0 k x0 (wrap64 (x3 + 1)))
end
def spec_FlowsOK.f (k : Nat) (l0 : List (S71)) : Option (Bool):=if (l0.length : Int) > 4096 then (some false) else (if (l0.length : Int) > 8 then (some false) else (spec_FlowsOK.l0 k l0 0))
theorem spec_FlowsOK.mono_l : ∀ k,(∀ y0 y1,LeO (spec_FlowsOK.l0 k y0 y1) (spec_FlowsOK.l0 (k + 1) y0 y1)) ∧ (∀ y0 y1 y2 y3 y4 y5 y6 y7 y8 y9 y10 y11,LeO (spec_FlowsOK.l1 k y0 y1 y2 y3 y4 y5 y6 y7 y8 y9 y10 y11) (spec_FlowsOK.l1 (k + 1) y0 y1 y2 y3 y4 y5 y6 y7 y8 y9 y10 y11))
 | 0 => ⟨fun _ _ r h => by simp [spec_FlowsOK.l0] at h,fun _ _ _ _ _ _ _ _ _ _ _ _ r h => by simp [spec_FlowsOK.l1] at h⟩
 | k + 1 => by
  obtain ⟨ih0,ih1⟩:=spec_FlowsOK.mono_l k
  refine ⟨?_,?_⟩
  ·intro y0 y1
   unfold spec_FlowsOK.l0
   repeat' first
   | (with_reducible exact ih0 _ _)
   | (with_reducible exact ih1 _ _ _ _ _ _ _ _ _ _ _ _)
   | (with_reducible exact LeO.refl _)
   | (with_reducible exact LeO.none _)
   | (with_reducible refine LeO.ite ?_ ?_)
   | (with_reducible refine LeO.bind ?_ (fun _ => ?_))
   | exact ih0 _ _
   | exact ih1 _ _ _ _ _ _ _ _ _ _ _ _
   | exact LeO.none _
   | refine LeO.ite ?_ ?_
   | refine LeO.bind ?_ (fun _ => ?_)
  ·intro y0 y1 y2 y3 y4 y5 y6 y7 y8 y9 y10 y11
   unfold spec_FlowsOK.l1
   repeat' first
   | (with_reducible exact ih0 _ _)
   | (with_reducible exact ih1 _ _ _ _ _ _ _ _ _ _ _ _)
   | (with_reducible exact LeO.refl _)
   | (with_reducible exact LeO.none _)
   | (with_reducible refine LeO.ite ?_ ?_)
   | (with_reducible refine LeO.bind ?_ (fun _ => ?_))
   | exact ih0 _ _
   | exact ih1 _ _ _ _ _ _ _ _ _ _ _ _
   | exact LeO.none _
   | refine LeO.ite ?_ ?_
   | refine LeO.bind ?_ (fun _ => ?_)
theorem spec_FlowsOK.mono : ∀ a0 k,LeO (spec_FlowsOK.f k a0) (spec_FlowsOK.f (k + 1) a0):=by
 intro a0 k
 obtain ⟨ih0,ih1⟩:=spec_FlowsOK.mono_l k
 unfold spec_FlowsOK.f
 repeat' first
   | (with_reducible exact ih0 _ _)
   | (with_reducible exact ih1 _ _ _ _ _ _ _ _ _ _ _ _)
   | (with_reducible exact LeO.refl _)
   | (with_reducible exact LeO.none _)
   | (with_reducible refine LeO.ite ?_ ?_)
   | (with_reducible refine LeO.bind ?_ (fun _ => ?_))
   | exact ih0 _ _
   | exact ih1 _ _ _ _ _ _ _ _ _ _ _ _
   | exact LeO.none _
   | refine LeO.ite ?_ ?_
   | refine LeO.bind ?_ (fun _ => ?_)
set_option maxHeartbeats 8000000 in
set_option maxRecDepth 100000 in
theorem spec_FlowsOK.calls (k : Nat) (A0 : Option Addr) (c0 : Nat) (l0 : List (S71)) (r : Bool) (w : World) (hr0 : Kd.C k71 w A0 l0.length l0) (hc0 : l0.length ≤ c0) (h : spec_FlowsOK.f k l0 = some r) :
  Calls Try.prog 27 #[.slice A0 l0.length c0] w fun e w' => e = .returned (.bool r) ∧ Below w.heap.size w w':=by
 have hu71:=Try.underlying71
 have HR0:=aMk hr0
 have HC0:=aMk hc0
 clear hr0 hc0
 have HB:=aMk (Below.refl w.heap.size w)
 have H : (if (l0.length : Int) > 4096 then (some false) else (if (l0.length : Int) > 8 then (some false) else (spec_FlowsOK.l0 k l0 0))) = some r:=h
 clear h
 by_cases c2 : (l0.length : Int) > 4096
 ·rw [if_pos c2] at H
  have c2b0 : decide (4096 < (l0.length : Int)) = true:=decide_eq_true c2
  have c2b1 : decide (4096 < l0.length) = true:=decide_eq_true (by omega)
  clear c2
  obtain rfl:=Option.some.inj H
  go_enter Try.func27,Try.ntmps27
  go_wp2
  go_ret
  exact ⟨eRf,by repeat (first|(with_reducible first|exact HB.out|apply bwA|apply bwN|apply bw1)|exact HB.out)⟩
 ·rw [if_neg c2] at H
  have c2b0 : decide (4096 < (l0.length : Int)) = false:=decide_eq_false c2
  have c2b1 : decide (4096 < l0.length) = false:=decide_eq_false (by omega)
  clear c2
  by_cases c3 : (l0.length : Int) > 8
  ·rw [if_pos c3] at H
   have c3b0 : decide (8 < (l0.length : Int)) = true:=decide_eq_true c3
   have c3b1 : decide (8 < l0.length) = true:=decide_eq_true (by omega)
   clear c3
   obtain rfl:=Option.some.inj H
   go_enter Try.func27,Try.ntmps27
   go_wp2
   go_ret
   exact ⟨eRf,by repeat (first|(with_reducible first|exact HB.out|apply bwA|apply bwN|apply bw1)|exact HB.out)⟩
  ·rw [if_neg c3] at H
   have c3b0 : decide (8 < (l0.length : Int)) = false:=decide_eq_false c3
   have c3b1 : decide (8 < l0.length) = false:=decide_eq_false (by omega)
   clear c3
   have H':=aMk H
   clear H
   go_enter Try.func27,Try.ntmps27
   go_wp2
   go_loopg [3] k (fun kq v3 w' => ∃ (x3_1 : Int),v3 = .int .i64 x3_1 ∧ Aside0 (spec_FlowsOK.l0 kq l0 x3_1 = some r) ∧ Aside0 (kq ≤ k) ∧ Aside0 (Below w.heap.size w w'))
   case atStart => exact ⟨(0),(by first | rfl|(simp;done)|(simp [*];done)|(simp [ne_nil_b];done)|(simp [ne_nil_b, *];done)),H',⟨Nat.le_refl _⟩,⟨by repeat (first|(with_reducible first|exact HB.out|apply bwA|apply bwN|apply bw1)|exact HB.out)⟩⟩
   case round =>
    clear H'
    try clear c2
    try clear c2b0
    try clear c2b1
    try clear p2
    try clear c3
    try clear c3b0
    try clear c3b1
    obtain ⟨x3_1,rfl,HA,HK1,HB⟩:=hrel
    cases gk with
    | zero => exact absurd HA.out (by simp [spec_FlowsOK.l0])
    | succ k1 =>
     have H:=HA.out
     clear HA
     simp only [spec_FlowsOK.l0] at H
     by_cases c4 : x3_1 < (l0.length : Int)
     ·rw [if_pos c4] at H
      have c4b0 : decide (x3_1 < (l0.length : Int)) = true:=decide_eq_true c4
      clear c4
      by_cases c5 : 0 ≤ x3_1
      ·rw [if_pos c5] at H
       have c5b0 : decide (0 ≤ x3_1) = true:=decide_eq_true c5
       clear c5
       replace H:=Option.bind_eq_some_iff.mp H
       obtain ⟨t220,A60,H⟩:=H
       replace H : (if t220 = true then (spec_FlowsOK.l1 k1 l0 x3_1 0 ((rd_T71 l0 x3_1).f0) ((rd_T71 l0 x3_1).f1) ((rd_T71 l0 x3_1).f2) ((rd_T71 l0 x3_1).f3) ((rd_T71 l0 x3_1).f4) ((rd_T71 l0 x3_1).f5) ((rd_T71 l0 x3_1).f6) ((rd_T71 l0 x3_1).f7) ((rd_T71 l0 x3_1).f8)) else (some false)) = some r:=H
       have A6:=aMk A60
       clear A60
       by_cases c7 : t220 = true
       ·subst c7
        have H1 : (spec_FlowsOK.l1 k1 l0 x3_1 0 ((rd_T71 l0 x3_1).f0) ((rd_T71 l0 x3_1).f1) ((rd_T71 l0 x3_1).f2) ((rd_T71 l0 x3_1).f3) ((rd_T71 l0 x3_1).f4) ((rd_T71 l0 x3_1).f5) ((rd_T71 l0 x3_1).f6) ((rd_T71 l0 x3_1).f7) ((rd_T71 l0 x3_1).f8)) = some r:=by rw [if_pos rfl] at H;exact H
        clear H
        have H:=H1
        clear H1
        have H':=aMk H
        clear H
        have p218 : 0 ≤ (x3_1 : Int):=of_decide_eq_true (by first|(with_reducible assumption) | assumption)
        have q218 : x3_1 < (l0.length : Int):=of_decide_eq_true (by first|(with_reducible assumption) | assumption)
        obtain ⟨ad218,e218,hx218_0,hx218_1,hx218_2,hx218_3,hx218_4,hx218_5,hx218_6,hx218_7,hx218_8⟩:=at_T71 HR0.out x3_1 p218 q218
        cases e218
        replace hx218_0:=bXc HB.out hx218_0
        replace hx218_1:=bXc HB.out hx218_1
        replace hx218_2:=bXc HB.out hx218_2
        replace hx218_3:=bXc HB.out hx218_3
        replace hx218_4:=bXc HB.out hx218_4
        replace hx218_5:=bXc HB.out hx218_5
        replace hx218_6:=bXc HB.out hx218_6
        replace hx218_7:=bXc HB.out hx218_7
        replace hx218_8:=bXc HB.out hx218_8
        replace p218:=eq_true p218
        replace q218:=eq_true q218
        go_wp2_with (first|((with_reducible refine gate_dst (N:=4) rfl ?_);refine bxE (N:=4) (cs:=#[.int .i64 0,.string (⟨#[]⟩ : ByteArray),.int .i64 0,.int .i64 0,.int .i64 0,.int .i64 0,.int .i64 0,.int .i64 0,.int .i64 0]) (t:=71) ?_;intro gb219 hg w8 hbox hb;have n0_:=aMk (bSt hb);have n1_:=aMk (hbox);have n2_:=aMk ((by rw [hg];exact bSz : w.heap.size ≤ gb219));have n3_:=aMk ((by rw [hg];exact bSz : w.heap.size ≤ gb219));clear HB;have HB:=n0_;have BK219:=n1_;have GW219:=n2_;have GE219:=n3_;clear n0_ n1_ n2_ n3_;clear hb hbox hg;obtain ⟨hcz9_0,hcz9_1,hcz9_2,hcz9_3,hcz9_4,hcz9_5,hcz9_6,hcz9_7,hcz9_8,hfz9_0,hfz9_1,hfz9_2,hfz9_3,hfz9_4,hfz9_5,hfz9_6,hfz9_7,hfz9_8⟩:=bC9 BK219.out)|((with_reducible refine gate_callee (f:=75) rfl ?_);refine gLs 24 Try.func75 #[.agg #[.int .i64 ((rd_T71 l0 x3_1).f0),.string ((rd_T71 l0 x3_1).f1),.int .i64 ((rd_T71 l0 x3_1).f2),.int .i64 ((rd_T71 l0 x3_1).f3),.int .i64 ((rd_T71 l0 x3_1).f4),.int .i64 ((rd_T71 l0 x3_1).f5),.int .i64 ((rd_T71 l0 x3_1).f6),.int .i64 ((rd_T71 l0 x3_1).f7),.int .i64 ((rd_T71 l0 x3_1).f8)]] ?_;(with_reducible refine (spec_l09Flow.calls ((rd_T71 l0 x3_1).f0) ((rd_T71 l0 x3_1).f1) ((rd_T71 l0 x3_1).f2) ((rd_T71 l0 x3_1).f3) ((rd_T71 l0 x3_1).f4) ((rd_T71 l0 x3_1).f5) ((rd_T71 l0 x3_1).f6) ((rd_T71 l0 x3_1).f7) ((rd_T71 l0 x3_1).f8) true _ A6.out).mono ?_);rintro e w10 ⟨rfl,hb⟩;refine ⟨_,rfl,?_⟩;have n0_:=aMk (blk_below (g:=gb219) (o:=.cells #[.int .i64 ((rd_T71 l0 x3_1).f0),.string ((rd_T71 l0 x3_1).f1),.int .i64 ((rd_T71 l0 x3_1).f2),.int .i64 ((rd_T71 l0 x3_1).f3),.int .i64 ((rd_T71 l0 x3_1).f4),.int .i64 ((rd_T71 l0 x3_1).f5),.int .i64 ((rd_T71 l0 x3_1).f6),.int .i64 ((rd_T71 l0 x3_1).f7),.int .i64 ((rd_T71 l0 x3_1).f8)] 71 (0,0)) (by (with_reducible repeat (first|refine bDn ?_ _|refine bDr ?_|refine bAl ?_ _));refine blk_put (cs:=#[.int .i64 ((rd_T71 l0 x3_1).f0),.string ((rd_T71 l0 x3_1).f1),.int .i64 ((rd_T71 l0 x3_1).f2),.int .i64 ((rd_T71 l0 x3_1).f3),.int .i64 ((rd_T71 l0 x3_1).f4),.int .i64 ((rd_T71 l0 x3_1).f5),.int .i64 ((rd_T71 l0 x3_1).f6),.int .i64 ((rd_T71 l0 x3_1).f7),.int .i64 0]) ?_ 8 _ rfl;(with_reducible repeat (first|refine bDn ?_ _|refine bDr ?_|refine bAl ?_ _));refine blk_put (cs:=#[.int .i64 ((rd_T71 l0 x3_1).f0),.string ((rd_T71 l0 x3_1).f1),.int .i64 ((rd_T71 l0 x3_1).f2),.int .i64 ((rd_T71 l0 x3_1).f3),.int .i64 ((rd_T71 l0 x3_1).f4),.int .i64 ((rd_T71 l0 x3_1).f5),.int .i64 ((rd_T71 l0 x3_1).f6),.int .i64 0,.int .i64 0]) ?_ 7 _ rfl;(with_reducible repeat (first|refine bDn ?_ _|refine bDr ?_|refine bAl ?_ _));refine blk_put (cs:=#[.int .i64 ((rd_T71 l0 x3_1).f0),.string ((rd_T71 l0 x3_1).f1),.int .i64 ((rd_T71 l0 x3_1).f2),.int .i64 ((rd_T71 l0 x3_1).f3),.int .i64 ((rd_T71 l0 x3_1).f4),.int .i64 ((rd_T71 l0 x3_1).f5),.int .i64 0,.int .i64 0,.int .i64 0]) ?_ 6 _ rfl;(with_reducible repeat (first|refine bDn ?_ _|refine bDr ?_|refine bAl ?_ _));refine blk_put (cs:=#[.int .i64 ((rd_T71 l0 x3_1).f0),.string ((rd_T71 l0 x3_1).f1),.int .i64 ((rd_T71 l0 x3_1).f2),.int .i64 ((rd_T71 l0 x3_1).f3),.int .i64 ((rd_T71 l0 x3_1).f4),.int .i64 0,.int .i64 0,.int .i64 0,.int .i64 0]) ?_ 5 _ rfl;(with_reducible repeat (first|refine bDn ?_ _|refine bDr ?_|refine bAl ?_ _));refine blk_put (cs:=#[.int .i64 ((rd_T71 l0 x3_1).f0),.string ((rd_T71 l0 x3_1).f1),.int .i64 ((rd_T71 l0 x3_1).f2),.int .i64 ((rd_T71 l0 x3_1).f3),.int .i64 0,.int .i64 0,.int .i64 0,.int .i64 0,.int .i64 0]) ?_ 4 _ rfl;(with_reducible repeat (first|refine bDn ?_ _|refine bDr ?_|refine bAl ?_ _));refine blk_put (cs:=#[.int .i64 ((rd_T71 l0 x3_1).f0),.string ((rd_T71 l0 x3_1).f1),.int .i64 ((rd_T71 l0 x3_1).f2),.int .i64 0,.int .i64 0,.int .i64 0,.int .i64 0,.int .i64 0,.int .i64 0]) ?_ 3 _ rfl;(with_reducible repeat (first|refine bDn ?_ _|refine bDr ?_|refine bAl ?_ _));refine blk_put (cs:=#[.int .i64 ((rd_T71 l0 x3_1).f0),.string ((rd_T71 l0 x3_1).f1),.int .i64 0,.int .i64 0,.int .i64 0,.int .i64 0,.int .i64 0,.int .i64 0,.int .i64 0]) ?_ 2 _ rfl;(with_reducible repeat (first|refine bDn ?_ _|refine bDr ?_|refine bAl ?_ _));refine blk_put (cs:=#[.int .i64 ((rd_T71 l0 x3_1).f0),.string (⟨#[]⟩ : ByteArray),.int .i64 0,.int .i64 0,.int .i64 0,.int .i64 0,.int .i64 0,.int .i64 0,.int .i64 0]) ?_ 1 _ rfl;(with_reducible repeat (first|refine bDn ?_ _|refine bDr ?_|refine bAl ?_ _));refine blk_put (cs:=#[.int .i64 0,.string (⟨#[]⟩ : ByteArray),.int .i64 0,.int .i64 0,.int .i64 0,.int .i64 0,.int .i64 0,.int .i64 0,.int .i64 0]) ?_ 0 _ rfl;(with_reducible repeat (first|refine bDn ?_ _|refine bDr ?_|refine bAl ?_ _));exact BK219.out) hb);have n1_:=aMk (below_step (by repeat (first|(with_reducible first|exact HB.out|apply bwA|apply bwN|apply bw1|refine below_set ?_ GE219.out)|exact HB.out)) hb);clear BK219;clear HB;have BK219:=n0_;have HB:=n1_;clear n0_ n1_;(try clear hb);(try clear hb2);(try clear hk);(try clear hi)))
        go_loopg [5] k1 (fun kq v5 w' => ∃ (x5_2 : Int),v5 = .int .i64 x5_2 ∧ Aside0 (spec_FlowsOK.l1 kq l0 x3_1 x5_2 ((rd_T71 l0 x3_1).f0) ((rd_T71 l0 x3_1).f1) ((rd_T71 l0 x3_1).f2) ((rd_T71 l0 x3_1).f3) ((rd_T71 l0 x3_1).f4) ((rd_T71 l0 x3_1).f5) ((rd_T71 l0 x3_1).f6) ((rd_T71 l0 x3_1).f7) ((rd_T71 l0 x3_1).f8) = some r) ∧ Aside0 (kq ≤ k1) ∧ Aside0 (w'.heap[gb219]? = some (.cells #[.int .i64 ((rd_T71 l0 x3_1).f0),.string ((rd_T71 l0 x3_1).f1),.int .i64 ((rd_T71 l0 x3_1).f2),.int .i64 ((rd_T71 l0 x3_1).f3),.int .i64 ((rd_T71 l0 x3_1).f4),.int .i64 ((rd_T71 l0 x3_1).f5),.int .i64 ((rd_T71 l0 x3_1).f6),.int .i64 ((rd_T71 l0 x3_1).f7),.int .i64 ((rd_T71 l0 x3_1).f8)] 71 (0,0))) ∧ Aside0 (Below w.heap.size w w'))
        case atStart => exact ⟨(0),(by first | rfl|(simp;done)|(simp [*];done)|(simp [ne_nil_b];done)|(simp [ne_nil_b, *];done)),H',⟨Nat.le_refl _⟩,⟨by (with_reducible repeat (first|refine bDn ?_ _|refine bDr ?_|refine bAl ?_ _));exact BK219.out⟩,⟨by repeat (first|(with_reducible first|exact HB.out|apply bwA|apply bwN|apply bw1|refine below_set ?_ GE219.out)|exact HB.out)⟩⟩
        case round =>
         clear H'
         try clear c2
         try clear c2b0
         try clear c2b1
         try clear p2
         try clear q2
         try clear hx2
         try clear c3
         try clear c3b0
         try clear c3b1
         try clear c4
         try clear c4b0
         try clear c5
         try clear c5b0
         try clear c7
         try clear hcz9_0
         try clear hcz9_1
         try clear hcz9_2
         try clear hcz9_3
         try clear hcz9_4
         try clear hcz9_5
         try clear hcz9_6
         try clear hcz9_7
         try clear hcz9_8
         try clear hfz9_0
         try clear hfz9_1
         try clear hfz9_2
         try clear hfz9_3
         try clear hfz9_4
         try clear hfz9_5
         try clear hfz9_6
         try clear hfz9_7
         try clear hfz9_8
         try clear hx218_0
         try clear hx218_1
         try clear hx218_2
         try clear hx218_3
         try clear hx218_4
         try clear hx218_5
         try clear hx218_6
         try clear hx218_7
         try clear hx218_8
         try clear p2
         try clear p218
         try clear q218
         obtain ⟨x5_2,rfl,HA,HK2,BK219,HB⟩:=hrel
         cases gk with
         | zero => exact absurd HA.out (by simp [spec_FlowsOK.l1])
         | succ k2 =>
          have H:=HA.out
          clear HA
          simp only [spec_FlowsOK.l1] at H
          by_cases c11 : x5_2 < x3_1
          ·rw [if_pos c11] at H
           have c11b0 : decide (x5_2 < x3_1) = true:=decide_eq_true c11
           clear c11
           by_cases c12 : 0 ≤ x5_2
           ·rw [if_pos c12] at H
            have c12b0 : decide (0 ≤ x5_2) = true:=decide_eq_true c12
            clear c12
            by_cases c13 : x5_2 < (l0.length : Int)
            ·rw [if_pos c13] at H
             have c13b0 : decide (x5_2 < (l0.length : Int)) = true:=decide_eq_true c13
             clear c13
             replace H:=Option.bind_eq_some_iff.mp H
             obtain ⟨t223,A140,H⟩:=H
             replace H : (if t223 = true then (some false) else ((spec_l09Same.f ((rd_T71 l0 x5_2).f0) ((rd_T71 l0 x5_2).f1) ((rd_T71 l0 x5_2).f2) ((rd_T71 l0 x5_2).f3) ((rd_T71 l0 x5_2).f4) ((rd_T71 l0 x5_2).f5) ((rd_T71 l0 x5_2).f6) ((rd_T71 l0 x5_2).f7) ((rd_T71 l0 x5_2).f8) ((rd_T71 l0 x3_1).f0) ((rd_T71 l0 x3_1).f4) ((rd_T71 l0 x3_1).f5) ((rd_T71 l0 x3_1).f2) ((rd_T71 l0 x3_1).f3)).bind fun t224 => (if t224 = true then (some false) else (spec_FlowsOK.l1 k2 l0 x3_1 (wrap64 (x5_2 + 1)) ((rd_T71 l0 x3_1).f0) ((rd_T71 l0 x3_1).f1) ((rd_T71 l0 x3_1).f2) ((rd_T71 l0 x3_1).f3) ((rd_T71 l0 x3_1).f4) ((rd_T71 l0 x3_1).f5) ((rd_T71 l0 x3_1).f6) ((rd_T71 l0 x3_1).f7) ((rd_T71 l0 x3_1).f8))))) = some r:=H
             have A14:=aMk A140
             clear A140
             by_cases c15 : t223 = true
             ·subst c15
              have H1 : (some false) = some r:=by rw [if_pos rfl] at H;exact H
              clear H
              have H:=H1
              clear H1
              obtain rfl:=Option.some.inj H
              have p221 : 0 ≤ (x5_2 : Int):=of_decide_eq_true (by first|(with_reducible assumption) | assumption)
              have q221 : x5_2 < (l0.length : Int):=of_decide_eq_true (by first|(with_reducible assumption) | assumption)
              obtain ⟨ad221,e221,hx221_0,hx221_1,hx221_2,hx221_3,hx221_4,hx221_5,hx221_6,hx221_7,hx221_8⟩:=at_T71 HR0.out x5_2 p221 q221
              obtain rfl : ad218 = ad221:=(by injection e221)
              replace hx221_0:=bXc HB.out hx221_0
              replace hx221_1:=bXc HB.out hx221_1
              replace hx221_2:=bXc HB.out hx221_2
              replace hx221_3:=bXc HB.out hx221_3
              replace hx221_4:=bXc HB.out hx221_4
              replace hx221_5:=bXc HB.out hx221_5
              replace hx221_6:=bXc HB.out hx221_6
              replace hx221_7:=bXc HB.out hx221_7
              replace hx221_8:=bXc HB.out hx221_8
              replace p221:=eq_true p221
              replace q221:=eq_true q221
              go_wp2_with (first|((with_reducible refine gate_dst (N:=6) rfl ?_);refine bxE (N:=6) (cs:=#[.int .i64 0,.string (⟨#[]⟩ : ByteArray),.int .i64 0,.int .i64 0,.int .i64 0,.int .i64 0,.int .i64 0,.int .i64 0,.int .i64 0]) (t:=71) ?_;intro gb222 hg w16 hbox hb;have n0_:=aMk (bkB BK219.out hb);have n1_:=aMk (below_step (by repeat (first|(with_reducible first|exact HB.out|apply bwA|apply bwN|apply bw1|refine below_set ?_ GE219.out)|exact HB.out)) hb);have n2_:=aMk (hbox);have n3_:=aMk ((by rw [hg];exact (below_size (by repeat (first|(with_reducible first|exact HB.out|apply bwA|apply bwN|apply bw1|refine below_set ?_ GE219.out)|exact HB.out))) : w.heap.size ≤ gb222));have n4_:=aMk ((by rw [hg];exact (below_size (by repeat (first|(with_reducible first|exact HB.out|apply bwA|apply bwN|apply bw1|refine below_set ?_ GE219.out)|exact HB.out))) : w.heap.size ≤ gb222));have n5_:=aMk ((bkL BK219.out hg : gb219 ≠ gb222));have n6_:=aMk ((bkG BK219.out hg : gb222 ≠ gb219));clear BK219;clear HB;have BK219:=n0_;have HB:=n1_;have BK222:=n2_;have GW222:=n3_;have GE222:=n4_;have NB219_222:=n5_;have NB222_219:=n6_;clear n0_ n1_ n2_ n3_ n4_ n5_ n6_;clear hb hbox hg;have hnb17:=NB222_219.out;have hnc17:=NB219_222.out;obtain ⟨hcz18_0,hcz18_1,hcz18_2,hcz18_3,hcz18_4,hcz18_5,hcz18_6,hcz18_7,hcz18_8,hfz18_0,hfz18_1,hfz18_2,hfz18_3,hfz18_4,hfz18_5,hfz18_6,hfz18_7,hfz18_8⟩:=bC9 BK222.out;obtain ⟨hcz19_0,hcz19_1,hcz19_2,hcz19_3,hcz19_4,hcz19_5,hcz19_6,hcz19_7,hcz19_8,hfz19_0,hfz19_1,hfz19_2,hfz19_3,hfz19_4,hfz19_5,hfz19_6,hfz19_7,hfz19_8⟩:=bC9 BK219.out)|((with_reducible refine gate_callee (f:=76) rfl ?_);refine gLs 46 Try.func76 #[.agg #[.int .i64 ((rd_T71 l0 x5_2).f0),.string ((rd_T71 l0 x5_2).f1),.int .i64 ((rd_T71 l0 x5_2).f2),.int .i64 ((rd_T71 l0 x5_2).f3),.int .i64 ((rd_T71 l0 x5_2).f4),.int .i64 ((rd_T71 l0 x5_2).f5),.int .i64 ((rd_T71 l0 x5_2).f6),.int .i64 ((rd_T71 l0 x5_2).f7),.int .i64 ((rd_T71 l0 x5_2).f8)],.int .i64 ((rd_T71 l0 x3_1).f0),.int .i64 ((rd_T71 l0 x3_1).f2),.int .i64 ((rd_T71 l0 x3_1).f3),.int .i64 ((rd_T71 l0 x3_1).f4),.int .i64 ((rd_T71 l0 x3_1).f5)] ?_;(with_reducible refine (spec_l09Same.calls ((rd_T71 l0 x5_2).f0) ((rd_T71 l0 x5_2).f1) ((rd_T71 l0 x5_2).f2) ((rd_T71 l0 x5_2).f3) ((rd_T71 l0 x5_2).f4) ((rd_T71 l0 x5_2).f5) ((rd_T71 l0 x5_2).f6) ((rd_T71 l0 x5_2).f7) ((rd_T71 l0 x5_2).f8) ((rd_T71 l0 x3_1).f0) ((rd_T71 l0 x3_1).f2) ((rd_T71 l0 x3_1).f3) ((rd_T71 l0 x3_1).f4) ((rd_T71 l0 x3_1).f5) true _ A14.out).mono ?_);rintro e w20 ⟨rfl,hb⟩;refine ⟨_,rfl,?_⟩;have n0_:=aMk (blk_below (g:=gb219) (o:=.cells #[.int .i64 ((rd_T71 l0 x3_1).f0),.string ((rd_T71 l0 x3_1).f1),.int .i64 ((rd_T71 l0 x3_1).f2),.int .i64 ((rd_T71 l0 x3_1).f3),.int .i64 ((rd_T71 l0 x3_1).f4),.int .i64 ((rd_T71 l0 x3_1).f5),.int .i64 ((rd_T71 l0 x3_1).f6),.int .i64 ((rd_T71 l0 x3_1).f7),.int .i64 ((rd_T71 l0 x3_1).f8)] 71 (0,0)) (by (with_reducible repeat (first|refine bDn ?_ _|refine bDr ?_|refine bAl ?_ _));refine blk_far ?_ NB219_222.out _;(with_reducible repeat (first|refine bDn ?_ _|refine bDr ?_|refine bAl ?_ _));refine blk_far ?_ NB219_222.out _;(with_reducible repeat (first|refine bDn ?_ _|refine bDr ?_|refine bAl ?_ _));refine blk_far ?_ NB219_222.out _;(with_reducible repeat (first|refine bDn ?_ _|refine bDr ?_|refine bAl ?_ _));refine blk_far ?_ NB219_222.out _;(with_reducible repeat (first|refine bDn ?_ _|refine bDr ?_|refine bAl ?_ _));refine blk_far ?_ NB219_222.out _;(with_reducible repeat (first|refine bDn ?_ _|refine bDr ?_|refine bAl ?_ _));refine blk_far ?_ NB219_222.out _;(with_reducible repeat (first|refine bDn ?_ _|refine bDr ?_|refine bAl ?_ _));refine blk_far ?_ NB219_222.out _;(with_reducible repeat (first|refine bDn ?_ _|refine bDr ?_|refine bAl ?_ _));refine blk_far ?_ NB219_222.out _;(with_reducible repeat (first|refine bDn ?_ _|refine bDr ?_|refine bAl ?_ _));refine blk_far ?_ NB219_222.out _;(with_reducible repeat (first|refine bDn ?_ _|refine bDr ?_|refine bAl ?_ _));exact BK219.out) hb);have n1_:=aMk (blk_below (g:=gb222) (o:=.cells #[.int .i64 ((rd_T71 l0 x5_2).f0),.string ((rd_T71 l0 x5_2).f1),.int .i64 ((rd_T71 l0 x5_2).f2),.int .i64 ((rd_T71 l0 x5_2).f3),.int .i64 ((rd_T71 l0 x5_2).f4),.int .i64 ((rd_T71 l0 x5_2).f5),.int .i64 ((rd_T71 l0 x5_2).f6),.int .i64 ((rd_T71 l0 x5_2).f7),.int .i64 ((rd_T71 l0 x5_2).f8)] 71 (0,0)) (by (with_reducible repeat (first|refine bDn ?_ _|refine bDr ?_|refine bAl ?_ _));refine blk_put (cs:=#[.int .i64 ((rd_T71 l0 x5_2).f0),.string ((rd_T71 l0 x5_2).f1),.int .i64 ((rd_T71 l0 x5_2).f2),.int .i64 ((rd_T71 l0 x5_2).f3),.int .i64 ((rd_T71 l0 x5_2).f4),.int .i64 ((rd_T71 l0 x5_2).f5),.int .i64 ((rd_T71 l0 x5_2).f6),.int .i64 ((rd_T71 l0 x5_2).f7),.int .i64 0]) ?_ 8 _ rfl;(with_reducible repeat (first|refine bDn ?_ _|refine bDr ?_|refine bAl ?_ _));refine blk_put (cs:=#[.int .i64 ((rd_T71 l0 x5_2).f0),.string ((rd_T71 l0 x5_2).f1),.int .i64 ((rd_T71 l0 x5_2).f2),.int .i64 ((rd_T71 l0 x5_2).f3),.int .i64 ((rd_T71 l0 x5_2).f4),.int .i64 ((rd_T71 l0 x5_2).f5),.int .i64 ((rd_T71 l0 x5_2).f6),.int .i64 0,.int .i64 0]) ?_ 7 _ rfl;(with_reducible repeat (first|refine bDn ?_ _|refine bDr ?_|refine bAl ?_ _));refine blk_put (cs:=#[.int .i64 ((rd_T71 l0 x5_2).f0),.string ((rd_T71 l0 x5_2).f1),.int .i64 ((rd_T71 l0 x5_2).f2),.int .i64 ((rd_T71 l0 x5_2).f3),.int .i64 ((rd_T71 l0 x5_2).f4),.int .i64 ((rd_T71 l0 x5_2).f5),.int .i64 0,.int .i64 0,.int .i64 0]) ?_ 6 _ rfl;(with_reducible repeat (first|refine bDn ?_ _|refine bDr ?_|refine bAl ?_ _));refine blk_put (cs:=#[.int .i64 ((rd_T71 l0 x5_2).f0),.string ((rd_T71 l0 x5_2).f1),.int .i64 ((rd_T71 l0 x5_2).f2),.int .i64 ((rd_T71 l0 x5_2).f3),.int .i64 ((rd_T71 l0 x5_2).f4),.int .i64 0,.int .i64 0,.int .i64 0,.int .i64 0]) ?_ 5 _ rfl;(with_reducible repeat (first|refine bDn ?_ _|refine bDr ?_|refine bAl ?_ _));refine blk_put (cs:=#[.int .i64 ((rd_T71 l0 x5_2).f0),.string ((rd_T71 l0 x5_2).f1),.int .i64 ((rd_T71 l0 x5_2).f2),.int .i64 ((rd_T71 l0 x5_2).f3),.int .i64 0,.int .i64 0,.int .i64 0,.int .i64 0,.int .i64 0]) ?_ 4 _ rfl;(with_reducible repeat (first|refine bDn ?_ _|refine bDr ?_|refine bAl ?_ _));refine blk_put (cs:=#[.int .i64 ((rd_T71 l0 x5_2).f0),.string ((rd_T71 l0 x5_2).f1),.int .i64 ((rd_T71 l0 x5_2).f2),.int .i64 0,.int .i64 0,.int .i64 0,.int .i64 0,.int .i64 0,.int .i64 0]) ?_ 3 _ rfl;(with_reducible repeat (first|refine bDn ?_ _|refine bDr ?_|refine bAl ?_ _));refine blk_put (cs:=#[.int .i64 ((rd_T71 l0 x5_2).f0),.string ((rd_T71 l0 x5_2).f1),.int .i64 0,.int .i64 0,.int .i64 0,.int .i64 0,.int .i64 0,.int .i64 0,.int .i64 0]) ?_ 2 _ rfl;(with_reducible repeat (first|refine bDn ?_ _|refine bDr ?_|refine bAl ?_ _));refine blk_put (cs:=#[.int .i64 ((rd_T71 l0 x5_2).f0),.string (⟨#[]⟩ : ByteArray),.int .i64 0,.int .i64 0,.int .i64 0,.int .i64 0,.int .i64 0,.int .i64 0,.int .i64 0]) ?_ 1 _ rfl;(with_reducible repeat (first|refine bDn ?_ _|refine bDr ?_|refine bAl ?_ _));refine blk_put (cs:=#[.int .i64 0,.string (⟨#[]⟩ : ByteArray),.int .i64 0,.int .i64 0,.int .i64 0,.int .i64 0,.int .i64 0,.int .i64 0,.int .i64 0]) ?_ 0 _ rfl;(with_reducible repeat (first|refine bDn ?_ _|refine bDr ?_|refine bAl ?_ _));exact BK222.out) hb);have n2_:=aMk (below_step (by repeat (first|(with_reducible first|exact HB.out|apply bwA|apply bwN|apply bw1|refine below_set ?_ GE219.out|refine below_set ?_ GE222.out)|exact HB.out)) hb);clear BK219;clear BK222;clear HB;have BK219:=n0_;have BK222:=n1_;have HB:=n2_;clear n0_ n1_ n2_;(try clear hb);(try clear hb2);(try clear hk);(try clear hi)))
              go_ret
              exact ⟨eRf,by repeat (first|(with_reducible first|exact HB.out|apply bwA|apply bwN|apply bw1|refine below_set ?_ GE219.out|refine below_set ?_ GE222.out)|exact HB.out)⟩
             ·replace c15:=Bool.eq_false_iff.mpr c15
              subst c15
              have H1 : ((spec_l09Same.f ((rd_T71 l0 x5_2).f0) ((rd_T71 l0 x5_2).f1) ((rd_T71 l0 x5_2).f2) ((rd_T71 l0 x5_2).f3) ((rd_T71 l0 x5_2).f4) ((rd_T71 l0 x5_2).f5) ((rd_T71 l0 x5_2).f6) ((rd_T71 l0 x5_2).f7) ((rd_T71 l0 x5_2).f8) ((rd_T71 l0 x3_1).f0) ((rd_T71 l0 x3_1).f4) ((rd_T71 l0 x3_1).f5) ((rd_T71 l0 x3_1).f2) ((rd_T71 l0 x3_1).f3)).bind fun t224 => (if t224 = true then (some false) else (spec_FlowsOK.l1 k2 l0 x3_1 (wrap64 (x5_2 + 1)) ((rd_T71 l0 x3_1).f0) ((rd_T71 l0 x3_1).f1) ((rd_T71 l0 x3_1).f2) ((rd_T71 l0 x3_1).f3) ((rd_T71 l0 x3_1).f4) ((rd_T71 l0 x3_1).f5) ((rd_T71 l0 x3_1).f6) ((rd_T71 l0 x3_1).f7) ((rd_T71 l0 x3_1).f8)))) = some r:=by rw [if_neg (show ¬ (false = true) by decide)] at H;exact H
              clear H
              have H:=H1
              clear H1
              replace H:=Option.bind_eq_some_iff.mp H
              obtain ⟨t224,A210,H⟩:=H
              replace H : (if t224 = true then (some false) else (spec_FlowsOK.l1 k2 l0 x3_1 (wrap64 (x5_2 + 1)) ((rd_T71 l0 x3_1).f0) ((rd_T71 l0 x3_1).f1) ((rd_T71 l0 x3_1).f2) ((rd_T71 l0 x3_1).f3) ((rd_T71 l0 x3_1).f4) ((rd_T71 l0 x3_1).f5) ((rd_T71 l0 x3_1).f6) ((rd_T71 l0 x3_1).f7) ((rd_T71 l0 x3_1).f8))) = some r:=H
              have A21:=aMk A210
              clear A210
              by_cases c22 : t224 = true
              ·subst c22
               have H1 : (some false) = some r:=by rw [if_pos rfl] at H;exact H
               clear H
               have H:=H1
               clear H1
               obtain rfl:=Option.some.inj H
               have p221 : 0 ≤ (x5_2 : Int):=of_decide_eq_true (by first|(with_reducible assumption) | assumption)
               have q221 : x5_2 < (l0.length : Int):=of_decide_eq_true (by first|(with_reducible assumption) | assumption)
               obtain ⟨ad221,e221,hx221_0,hx221_1,hx221_2,hx221_3,hx221_4,hx221_5,hx221_6,hx221_7,hx221_8⟩:=at_T71 HR0.out x5_2 p221 q221
               obtain rfl : ad218 = ad221:=(by injection e221)
               replace hx221_0:=bXc HB.out hx221_0
               replace hx221_1:=bXc HB.out hx221_1
               replace hx221_2:=bXc HB.out hx221_2
               replace hx221_3:=bXc HB.out hx221_3
               replace hx221_4:=bXc HB.out hx221_4
               replace hx221_5:=bXc HB.out hx221_5
               replace hx221_6:=bXc HB.out hx221_6
               replace hx221_7:=bXc HB.out hx221_7
               replace hx221_8:=bXc HB.out hx221_8
               replace p221:=eq_true p221
               replace q221:=eq_true q221
               go_wp2_with (first|((with_reducible refine gate_dst (N:=6) rfl ?_);refine bxE (N:=6) (cs:=#[.int .i64 0,.string (⟨#[]⟩ : ByteArray),.int .i64 0,.int .i64 0,.int .i64 0,.int .i64 0,.int .i64 0,.int .i64 0,.int .i64 0]) (t:=71) ?_;intro gb222 hg w23 hbox hb;have n0_:=aMk (bkB BK219.out hb);have n1_:=aMk (below_step (by repeat (first|(with_reducible first|exact HB.out|apply bwA|apply bwN|apply bw1|refine below_set ?_ GE219.out)|exact HB.out)) hb);have n2_:=aMk (hbox);have n3_:=aMk ((by rw [hg];exact (below_size (by repeat (first|(with_reducible first|exact HB.out|apply bwA|apply bwN|apply bw1|refine below_set ?_ GE219.out)|exact HB.out))) : w.heap.size ≤ gb222));have n4_:=aMk ((by rw [hg];exact (below_size (by repeat (first|(with_reducible first|exact HB.out|apply bwA|apply bwN|apply bw1|refine below_set ?_ GE219.out)|exact HB.out))) : w.heap.size ≤ gb222));have n5_:=aMk ((bkL BK219.out hg : gb219 ≠ gb222));have n6_:=aMk ((bkG BK219.out hg : gb222 ≠ gb219));clear BK219;clear HB;have BK219:=n0_;have HB:=n1_;have BK222:=n2_;have GW222:=n3_;have GE222:=n4_;have NB219_222:=n5_;have NB222_219:=n6_;clear n0_ n1_ n2_ n3_ n4_ n5_ n6_;clear hb hbox hg;have hnb24:=NB222_219.out;have hnc24:=NB219_222.out;obtain ⟨hcz25_0,hcz25_1,hcz25_2,hcz25_3,hcz25_4,hcz25_5,hcz25_6,hcz25_7,hcz25_8,hfz25_0,hfz25_1,hfz25_2,hfz25_3,hfz25_4,hfz25_5,hfz25_6,hfz25_7,hfz25_8⟩:=bC9 BK222.out;obtain ⟨hcz26_0,hcz26_1,hcz26_2,hcz26_3,hcz26_4,hcz26_5,hcz26_6,hcz26_7,hcz26_8,hfz26_0,hfz26_1,hfz26_2,hfz26_3,hfz26_4,hfz26_5,hfz26_6,hfz26_7,hfz26_8⟩:=bC9 BK219.out)|((with_reducible refine gate_callee (f:=76) rfl ?_);refine gLs 46 Try.func76 #[.agg #[.int .i64 ((rd_T71 l0 x5_2).f0),.string ((rd_T71 l0 x5_2).f1),.int .i64 ((rd_T71 l0 x5_2).f2),.int .i64 ((rd_T71 l0 x5_2).f3),.int .i64 ((rd_T71 l0 x5_2).f4),.int .i64 ((rd_T71 l0 x5_2).f5),.int .i64 ((rd_T71 l0 x5_2).f6),.int .i64 ((rd_T71 l0 x5_2).f7),.int .i64 ((rd_T71 l0 x5_2).f8)],.int .i64 ((rd_T71 l0 x3_1).f0),.int .i64 ((rd_T71 l0 x3_1).f2),.int .i64 ((rd_T71 l0 x3_1).f3),.int .i64 ((rd_T71 l0 x3_1).f4),.int .i64 ((rd_T71 l0 x3_1).f5)] ?_;(with_reducible refine (spec_l09Same.calls ((rd_T71 l0 x5_2).f0) ((rd_T71 l0 x5_2).f1) ((rd_T71 l0 x5_2).f2) ((rd_T71 l0 x5_2).f3) ((rd_T71 l0 x5_2).f4) ((rd_T71 l0 x5_2).f5) ((rd_T71 l0 x5_2).f6) ((rd_T71 l0 x5_2).f7) ((rd_T71 l0 x5_2).f8) ((rd_T71 l0 x3_1).f0) ((rd_T71 l0 x3_1).f2) ((rd_T71 l0 x3_1).f3) ((rd_T71 l0 x3_1).f4) ((rd_T71 l0 x3_1).f5) false _ A14.out).mono ?_);rintro e w27 ⟨rfl,hb⟩;refine ⟨_,rfl,?_⟩;have n0_:=aMk (blk_below (g:=gb219) (o:=.cells #[.int .i64 ((rd_T71 l0 x3_1).f0),.string ((rd_T71 l0 x3_1).f1),.int .i64 ((rd_T71 l0 x3_1).f2),.int .i64 ((rd_T71 l0 x3_1).f3),.int .i64 ((rd_T71 l0 x3_1).f4),.int .i64 ((rd_T71 l0 x3_1).f5),.int .i64 ((rd_T71 l0 x3_1).f6),.int .i64 ((rd_T71 l0 x3_1).f7),.int .i64 ((rd_T71 l0 x3_1).f8)] 71 (0,0)) (by (with_reducible repeat (first|refine bDn ?_ _|refine bDr ?_|refine bAl ?_ _));refine blk_far ?_ NB219_222.out _;(with_reducible repeat (first|refine bDn ?_ _|refine bDr ?_|refine bAl ?_ _));refine blk_far ?_ NB219_222.out _;(with_reducible repeat (first|refine bDn ?_ _|refine bDr ?_|refine bAl ?_ _));refine blk_far ?_ NB219_222.out _;(with_reducible repeat (first|refine bDn ?_ _|refine bDr ?_|refine bAl ?_ _));refine blk_far ?_ NB219_222.out _;(with_reducible repeat (first|refine bDn ?_ _|refine bDr ?_|refine bAl ?_ _));refine blk_far ?_ NB219_222.out _;(with_reducible repeat (first|refine bDn ?_ _|refine bDr ?_|refine bAl ?_ _));refine blk_far ?_ NB219_222.out _;(with_reducible repeat (first|refine bDn ?_ _|refine bDr ?_|refine bAl ?_ _));refine blk_far ?_ NB219_222.out _;(with_reducible repeat (first|refine bDn ?_ _|refine bDr ?_|refine bAl ?_ _));refine blk_far ?_ NB219_222.out _;(with_reducible repeat (first|refine bDn ?_ _|refine bDr ?_|refine bAl ?_ _));refine blk_far ?_ NB219_222.out _;(with_reducible repeat (first|refine bDn ?_ _|refine bDr ?_|refine bAl ?_ _));exact BK219.out) hb);have n1_:=aMk (blk_below (g:=gb222) (o:=.cells #[.int .i64 ((rd_T71 l0 x5_2).f0),.string ((rd_T71 l0 x5_2).f1),.int .i64 ((rd_T71 l0 x5_2).f2),.int .i64 ((rd_T71 l0 x5_2).f3),.int .i64 ((rd_T71 l0 x5_2).f4),.int .i64 ((rd_T71 l0 x5_2).f5),.int .i64 ((rd_T71 l0 x5_2).f6),.int .i64 ((rd_T71 l0 x5_2).f7),.int .i64 ((rd_T71 l0 x5_2).f8)] 71 (0,0)) (by (with_reducible repeat (first|refine bDn ?_ _|refine bDr ?_|refine bAl ?_ _));refine blk_put (cs:=#[.int .i64 ((rd_T71 l0 x5_2).f0),.string ((rd_T71 l0 x5_2).f1),.int .i64 ((rd_T71 l0 x5_2).f2),.int .i64 ((rd_T71 l0 x5_2).f3),.int .i64 ((rd_T71 l0 x5_2).f4),.int .i64 ((rd_T71 l0 x5_2).f5),.int .i64 ((rd_T71 l0 x5_2).f6),.int .i64 ((rd_T71 l0 x5_2).f7),.int .i64 0]) ?_ 8 _ rfl;(with_reducible repeat (first|refine bDn ?_ _|refine bDr ?_|refine bAl ?_ _));refine blk_put (cs:=#[.int .i64 ((rd_T71 l0 x5_2).f0),.string ((rd_T71 l0 x5_2).f1),.int .i64 ((rd_T71 l0 x5_2).f2),.int .i64 ((rd_T71 l0 x5_2).f3),.int .i64 ((rd_T71 l0 x5_2).f4),.int .i64 ((rd_T71 l0 x5_2).f5),.int .i64 ((rd_T71 l0 x5_2).f6),.int .i64 0,.int .i64 0]) ?_ 7 _ rfl;(with_reducible repeat (first|refine bDn ?_ _|refine bDr ?_|refine bAl ?_ _));refine blk_put (cs:=#[.int .i64 ((rd_T71 l0 x5_2).f0),.string ((rd_T71 l0 x5_2).f1),.int .i64 ((rd_T71 l0 x5_2).f2),.int .i64 ((rd_T71 l0 x5_2).f3),.int .i64 ((rd_T71 l0 x5_2).f4),.int .i64 ((rd_T71 l0 x5_2).f5),.int .i64 0,.int .i64 0,.int .i64 0]) ?_ 6 _ rfl;(with_reducible repeat (first|refine bDn ?_ _|refine bDr ?_|refine bAl ?_ _));refine blk_put (cs:=#[.int .i64 ((rd_T71 l0 x5_2).f0),.string ((rd_T71 l0 x5_2).f1),.int .i64 ((rd_T71 l0 x5_2).f2),.int .i64 ((rd_T71 l0 x5_2).f3),.int .i64 ((rd_T71 l0 x5_2).f4),.int .i64 0,.int .i64 0,.int .i64 0,.int .i64 0]) ?_ 5 _ rfl;(with_reducible repeat (first|refine bDn ?_ _|refine bDr ?_|refine bAl ?_ _));refine blk_put (cs:=#[.int .i64 ((rd_T71 l0 x5_2).f0),.string ((rd_T71 l0 x5_2).f1),.int .i64 ((rd_T71 l0 x5_2).f2),.int .i64 ((rd_T71 l0 x5_2).f3),.int .i64 0,.int .i64 0,.int .i64 0,.int .i64 0,.int .i64 0]) ?_ 4 _ rfl;(with_reducible repeat (first|refine bDn ?_ _|refine bDr ?_|refine bAl ?_ _));refine blk_put (cs:=#[.int .i64 ((rd_T71 l0 x5_2).f0),.string ((rd_T71 l0 x5_2).f1),.int .i64 ((rd_T71 l0 x5_2).f2),.int .i64 0,.int .i64 0,.int .i64 0,.int .i64 0,.int .i64 0,.int .i64 0]) ?_ 3 _ rfl;(with_reducible repeat (first|refine bDn ?_ _|refine bDr ?_|refine bAl ?_ _));refine blk_put (cs:=#[.int .i64 ((rd_T71 l0 x5_2).f0),.string ((rd_T71 l0 x5_2).f1),.int .i64 0,.int .i64 0,.int .i64 0,.int .i64 0,.int .i64 0,.int .i64 0,.int .i64 0]) ?_ 2 _ rfl;(with_reducible repeat (first|refine bDn ?_ _|refine bDr ?_|refine bAl ?_ _));refine blk_put (cs:=#[.int .i64 ((rd_T71 l0 x5_2).f0),.string (⟨#[]⟩ : ByteArray),.int .i64 0,.int .i64 0,.int .i64 0,.int .i64 0,.int .i64 0,.int .i64 0,.int .i64 0]) ?_ 1 _ rfl;(with_reducible repeat (first|refine bDn ?_ _|refine bDr ?_|refine bAl ?_ _));refine blk_put (cs:=#[.int .i64 0,.string (⟨#[]⟩ : ByteArray),.int .i64 0,.int .i64 0,.int .i64 0,.int .i64 0,.int .i64 0,.int .i64 0,.int .i64 0]) ?_ 0 _ rfl;(with_reducible repeat (first|refine bDn ?_ _|refine bDr ?_|refine bAl ?_ _));exact BK222.out) hb);have n2_:=aMk (below_step (by repeat (first|(with_reducible first|exact HB.out|apply bwA|apply bwN|apply bw1|refine below_set ?_ GE219.out|refine below_set ?_ GE222.out)|exact HB.out)) hb);clear BK219;clear BK222;clear HB;have BK219:=n0_;have BK222:=n1_;have HB:=n2_;clear n0_ n1_ n2_;(try clear hb);(try clear hb2);(try clear hk);(try clear hi);obtain ⟨hcz28_0,hcz28_1,hcz28_2,hcz28_3,hcz28_4,hcz28_5,hcz28_6,hcz28_7,hcz28_8,hfz28_0,hfz28_1,hfz28_2,hfz28_3,hfz28_4,hfz28_5,hfz28_6,hfz28_7,hfz28_8⟩:=bC9 BK222.out;obtain ⟨hcz29_0,hcz29_1,hcz29_2,hcz29_3,hcz29_4,hcz29_5,hcz29_6,hcz29_7,hcz29_8,hfz29_0,hfz29_1,hfz29_2,hfz29_3,hfz29_4,hfz29_5,hfz29_6,hfz29_7,hfz29_8⟩:=bC9 BK219.out)|(go_at_call 76;(with_reducible refine (spec_l09Same.calls ((rd_T71 l0 x5_2).f0) ((rd_T71 l0 x5_2).f1) ((rd_T71 l0 x5_2).f2) ((rd_T71 l0 x5_2).f3) ((rd_T71 l0 x5_2).f4) ((rd_T71 l0 x5_2).f5) ((rd_T71 l0 x5_2).f6) ((rd_T71 l0 x5_2).f7) ((rd_T71 l0 x5_2).f8) ((rd_T71 l0 x3_1).f0) ((rd_T71 l0 x3_1).f4) ((rd_T71 l0 x3_1).f5) ((rd_T71 l0 x3_1).f2) ((rd_T71 l0 x3_1).f3) true _ A21.out).mono ?_);rintro e w30 ⟨rfl,hb⟩;have n0_:=aMk (bkB BK219.out hb);have n1_:=aMk (bkB BK222.out hb);have n2_:=aMk (below_step (by repeat (first|(with_reducible first|exact HB.out|apply bwA|apply bwN|apply bw1|refine below_set ?_ GE219.out|refine below_set ?_ GE222.out)|exact HB.out)) hb);clear BK219;clear BK222;clear HB;have BK219:=n0_;have BK222:=n1_;have HB:=n2_;clear n0_ n1_ n2_;(try clear hb);(try clear hb2);(try clear hk);(try clear hi)))
               go_ret
               exact ⟨eRf,by repeat (first|(with_reducible first|exact HB.out|apply bwA|apply bwN|apply bw1|refine below_set ?_ GE219.out|refine below_set ?_ GE222.out)|exact HB.out)⟩
              ·replace c22:=Bool.eq_false_iff.mpr c22
               subst c22
               have H1 : (spec_FlowsOK.l1 k2 l0 x3_1 (wrap64 (x5_2 + 1)) ((rd_T71 l0 x3_1).f0) ((rd_T71 l0 x3_1).f1) ((rd_T71 l0 x3_1).f2) ((rd_T71 l0 x3_1).f3) ((rd_T71 l0 x3_1).f4) ((rd_T71 l0 x3_1).f5) ((rd_T71 l0 x3_1).f6) ((rd_T71 l0 x3_1).f7) ((rd_T71 l0 x3_1).f8)) = some r:=by rw [if_neg (show ¬ (false = true) by decide)] at H;exact H
               clear H
               have H:=H1
               clear H1
               have H':=aMk H
               clear H
               have p221 : 0 ≤ (x5_2 : Int):=of_decide_eq_true (by first|(with_reducible assumption) | assumption)
               have q221 : x5_2 < (l0.length : Int):=of_decide_eq_true (by first|(with_reducible assumption) | assumption)
               obtain ⟨ad221,e221,hx221_0,hx221_1,hx221_2,hx221_3,hx221_4,hx221_5,hx221_6,hx221_7,hx221_8⟩:=at_T71 HR0.out x5_2 p221 q221
               obtain rfl : ad218 = ad221:=(by injection e221)
               replace hx221_0:=bXc HB.out hx221_0
               replace hx221_1:=bXc HB.out hx221_1
               replace hx221_2:=bXc HB.out hx221_2
               replace hx221_3:=bXc HB.out hx221_3
               replace hx221_4:=bXc HB.out hx221_4
               replace hx221_5:=bXc HB.out hx221_5
               replace hx221_6:=bXc HB.out hx221_6
               replace hx221_7:=bXc HB.out hx221_7
               replace hx221_8:=bXc HB.out hx221_8
               replace p221:=eq_true p221
               replace q221:=eq_true q221
               go_wp2_with (first|((with_reducible refine gate_dst (N:=6) rfl ?_);refine bxE (N:=6) (cs:=#[.int .i64 0,.string (⟨#[]⟩ : ByteArray),.int .i64 0,.int .i64 0,.int .i64 0,.int .i64 0,.int .i64 0,.int .i64 0,.int .i64 0]) (t:=71) ?_;intro gb222 hg w31 hbox hb;have n0_:=aMk (bkB BK219.out hb);have n1_:=aMk (below_step (by repeat (first|(with_reducible first|exact HB.out|apply bwA|apply bwN|apply bw1|refine below_set ?_ GE219.out)|exact HB.out)) hb);have n2_:=aMk (hbox);have n3_:=aMk ((by rw [hg];exact (below_size (by repeat (first|(with_reducible first|exact HB.out|apply bwA|apply bwN|apply bw1|refine below_set ?_ GE219.out)|exact HB.out))) : w.heap.size ≤ gb222));have n4_:=aMk ((by rw [hg];exact (below_size (by repeat (first|(with_reducible first|exact HB.out|apply bwA|apply bwN|apply bw1|refine below_set ?_ GE219.out)|exact HB.out))) : w.heap.size ≤ gb222));have n5_:=aMk ((bkL BK219.out hg : gb219 ≠ gb222));have n6_:=aMk ((bkG BK219.out hg : gb222 ≠ gb219));clear BK219;clear HB;have BK219:=n0_;have HB:=n1_;have BK222:=n2_;have GW222:=n3_;have GE222:=n4_;have NB219_222:=n5_;have NB222_219:=n6_;clear n0_ n1_ n2_ n3_ n4_ n5_ n6_;clear hb hbox hg;have hnb32:=NB222_219.out;have hnc32:=NB219_222.out;obtain ⟨hcz33_0,hcz33_1,hcz33_2,hcz33_3,hcz33_4,hcz33_5,hcz33_6,hcz33_7,hcz33_8,hfz33_0,hfz33_1,hfz33_2,hfz33_3,hfz33_4,hfz33_5,hfz33_6,hfz33_7,hfz33_8⟩:=bC9 BK222.out;obtain ⟨hcz34_0,hcz34_1,hcz34_2,hcz34_3,hcz34_4,hcz34_5,hcz34_6,hcz34_7,hcz34_8,hfz34_0,hfz34_1,hfz34_2,hfz34_3,hfz34_4,hfz34_5,hfz34_6,hfz34_7,hfz34_8⟩:=bC9 BK219.out)|((with_reducible refine gate_callee (f:=76) rfl ?_);refine gLs 46 Try.func76 #[.agg #[.int .i64 ((rd_T71 l0 x5_2).f0),.string ((rd_T71 l0 x5_2).f1),.int .i64 ((rd_T71 l0 x5_2).f2),.int .i64 ((rd_T71 l0 x5_2).f3),.int .i64 ((rd_T71 l0 x5_2).f4),.int .i64 ((rd_T71 l0 x5_2).f5),.int .i64 ((rd_T71 l0 x5_2).f6),.int .i64 ((rd_T71 l0 x5_2).f7),.int .i64 ((rd_T71 l0 x5_2).f8)],.int .i64 ((rd_T71 l0 x3_1).f0),.int .i64 ((rd_T71 l0 x3_1).f2),.int .i64 ((rd_T71 l0 x3_1).f3),.int .i64 ((rd_T71 l0 x3_1).f4),.int .i64 ((rd_T71 l0 x3_1).f5)] ?_;(with_reducible refine (spec_l09Same.calls ((rd_T71 l0 x5_2).f0) ((rd_T71 l0 x5_2).f1) ((rd_T71 l0 x5_2).f2) ((rd_T71 l0 x5_2).f3) ((rd_T71 l0 x5_2).f4) ((rd_T71 l0 x5_2).f5) ((rd_T71 l0 x5_2).f6) ((rd_T71 l0 x5_2).f7) ((rd_T71 l0 x5_2).f8) ((rd_T71 l0 x3_1).f0) ((rd_T71 l0 x3_1).f2) ((rd_T71 l0 x3_1).f3) ((rd_T71 l0 x3_1).f4) ((rd_T71 l0 x3_1).f5) false _ A14.out).mono ?_);rintro e w35 ⟨rfl,hb⟩;refine ⟨_,rfl,?_⟩;have n0_:=aMk (blk_below (g:=gb219) (o:=.cells #[.int .i64 ((rd_T71 l0 x3_1).f0),.string ((rd_T71 l0 x3_1).f1),.int .i64 ((rd_T71 l0 x3_1).f2),.int .i64 ((rd_T71 l0 x3_1).f3),.int .i64 ((rd_T71 l0 x3_1).f4),.int .i64 ((rd_T71 l0 x3_1).f5),.int .i64 ((rd_T71 l0 x3_1).f6),.int .i64 ((rd_T71 l0 x3_1).f7),.int .i64 ((rd_T71 l0 x3_1).f8)] 71 (0,0)) (by (with_reducible repeat (first|refine bDn ?_ _|refine bDr ?_|refine bAl ?_ _));refine blk_far ?_ NB219_222.out _;(with_reducible repeat (first|refine bDn ?_ _|refine bDr ?_|refine bAl ?_ _));refine blk_far ?_ NB219_222.out _;(with_reducible repeat (first|refine bDn ?_ _|refine bDr ?_|refine bAl ?_ _));refine blk_far ?_ NB219_222.out _;(with_reducible repeat (first|refine bDn ?_ _|refine bDr ?_|refine bAl ?_ _));refine blk_far ?_ NB219_222.out _;(with_reducible repeat (first|refine bDn ?_ _|refine bDr ?_|refine bAl ?_ _));refine blk_far ?_ NB219_222.out _;(with_reducible repeat (first|refine bDn ?_ _|refine bDr ?_|refine bAl ?_ _));refine blk_far ?_ NB219_222.out _;(with_reducible repeat (first|refine bDn ?_ _|refine bDr ?_|refine bAl ?_ _));refine blk_far ?_ NB219_222.out _;(with_reducible repeat (first|refine bDn ?_ _|refine bDr ?_|refine bAl ?_ _));refine blk_far ?_ NB219_222.out _;(with_reducible repeat (first|refine bDn ?_ _|refine bDr ?_|refine bAl ?_ _));refine blk_far ?_ NB219_222.out _;(with_reducible repeat (first|refine bDn ?_ _|refine bDr ?_|refine bAl ?_ _));exact BK219.out) hb);have n1_:=aMk (blk_below (g:=gb222) (o:=.cells #[.int .i64 ((rd_T71 l0 x5_2).f0),.string ((rd_T71 l0 x5_2).f1),.int .i64 ((rd_T71 l0 x5_2).f2),.int .i64 ((rd_T71 l0 x5_2).f3),.int .i64 ((rd_T71 l0 x5_2).f4),.int .i64 ((rd_T71 l0 x5_2).f5),.int .i64 ((rd_T71 l0 x5_2).f6),.int .i64 ((rd_T71 l0 x5_2).f7),.int .i64 ((rd_T71 l0 x5_2).f8)] 71 (0,0)) (by (with_reducible repeat (first|refine bDn ?_ _|refine bDr ?_|refine bAl ?_ _));refine blk_put (cs:=#[.int .i64 ((rd_T71 l0 x5_2).f0),.string ((rd_T71 l0 x5_2).f1),.int .i64 ((rd_T71 l0 x5_2).f2),.int .i64 ((rd_T71 l0 x5_2).f3),.int .i64 ((rd_T71 l0 x5_2).f4),.int .i64 ((rd_T71 l0 x5_2).f5),.int .i64 ((rd_T71 l0 x5_2).f6),.int .i64 ((rd_T71 l0 x5_2).f7),.int .i64 0]) ?_ 8 _ rfl;(with_reducible repeat (first|refine bDn ?_ _|refine bDr ?_|refine bAl ?_ _));refine blk_put (cs:=#[.int .i64 ((rd_T71 l0 x5_2).f0),.string ((rd_T71 l0 x5_2).f1),.int .i64 ((rd_T71 l0 x5_2).f2),.int .i64 ((rd_T71 l0 x5_2).f3),.int .i64 ((rd_T71 l0 x5_2).f4),.int .i64 ((rd_T71 l0 x5_2).f5),.int .i64 ((rd_T71 l0 x5_2).f6),.int .i64 0,.int .i64 0]) ?_ 7 _ rfl;(with_reducible repeat (first|refine bDn ?_ _|refine bDr ?_|refine bAl ?_ _));refine blk_put (cs:=#[.int .i64 ((rd_T71 l0 x5_2).f0),.string ((rd_T71 l0 x5_2).f1),.int .i64 ((rd_T71 l0 x5_2).f2),.int .i64 ((rd_T71 l0 x5_2).f3),.int .i64 ((rd_T71 l0 x5_2).f4),.int .i64 ((rd_T71 l0 x5_2).f5),.int .i64 0,.int .i64 0,.int .i64 0]) ?_ 6 _ rfl;(with_reducible repeat (first|refine bDn ?_ _|refine bDr ?_|refine bAl ?_ _));refine blk_put (cs:=#[.int .i64 ((rd_T71 l0 x5_2).f0),.string ((rd_T71 l0 x5_2).f1),.int .i64 ((rd_T71 l0 x5_2).f2),.int .i64 ((rd_T71 l0 x5_2).f3),.int .i64 ((rd_T71 l0 x5_2).f4),.int .i64 0,.int .i64 0,.int .i64 0,.int .i64 0]) ?_ 5 _ rfl;(with_reducible repeat (first|refine bDn ?_ _|refine bDr ?_|refine bAl ?_ _));refine blk_put (cs:=#[.int .i64 ((rd_T71 l0 x5_2).f0),.string ((rd_T71 l0 x5_2).f1),.int .i64 ((rd_T71 l0 x5_2).f2),.int .i64 ((rd_T71 l0 x5_2).f3),.int .i64 0,.int .i64 0,.int .i64 0,.int .i64 0,.int .i64 0]) ?_ 4 _ rfl;(with_reducible repeat (first|refine bDn ?_ _|refine bDr ?_|refine bAl ?_ _));refine blk_put (cs:=#[.int .i64 ((rd_T71 l0 x5_2).f0),.string ((rd_T71 l0 x5_2).f1),.int .i64 ((rd_T71 l0 x5_2).f2),.int .i64 0,.int .i64 0,.int .i64 0,.int .i64 0,.int .i64 0,.int .i64 0]) ?_ 3 _ rfl;(with_reducible repeat (first|refine bDn ?_ _|refine bDr ?_|refine bAl ?_ _));refine blk_put (cs:=#[.int .i64 ((rd_T71 l0 x5_2).f0),.string ((rd_T71 l0 x5_2).f1),.int .i64 0,.int .i64 0,.int .i64 0,.int .i64 0,.int .i64 0,.int .i64 0,.int .i64 0]) ?_ 2 _ rfl;(with_reducible repeat (first|refine bDn ?_ _|refine bDr ?_|refine bAl ?_ _));refine blk_put (cs:=#[.int .i64 ((rd_T71 l0 x5_2).f0),.string (⟨#[]⟩ : ByteArray),.int .i64 0,.int .i64 0,.int .i64 0,.int .i64 0,.int .i64 0,.int .i64 0,.int .i64 0]) ?_ 1 _ rfl;(with_reducible repeat (first|refine bDn ?_ _|refine bDr ?_|refine bAl ?_ _));refine blk_put (cs:=#[.int .i64 0,.string (⟨#[]⟩ : ByteArray),.int .i64 0,.int .i64 0,.int .i64 0,.int .i64 0,.int .i64 0,.int .i64 0,.int .i64 0]) ?_ 0 _ rfl;(with_reducible repeat (first|refine bDn ?_ _|refine bDr ?_|refine bAl ?_ _));exact BK222.out) hb);have n2_:=aMk (below_step (by repeat (first|(with_reducible first|exact HB.out|apply bwA|apply bwN|apply bw1|refine below_set ?_ GE219.out|refine below_set ?_ GE222.out)|exact HB.out)) hb);clear BK219;clear BK222;clear HB;have BK219:=n0_;have BK222:=n1_;have HB:=n2_;clear n0_ n1_ n2_;(try clear hb);(try clear hb2);(try clear hk);(try clear hi);obtain ⟨hcz36_0,hcz36_1,hcz36_2,hcz36_3,hcz36_4,hcz36_5,hcz36_6,hcz36_7,hcz36_8,hfz36_0,hfz36_1,hfz36_2,hfz36_3,hfz36_4,hfz36_5,hfz36_6,hfz36_7,hfz36_8⟩:=bC9 BK222.out;obtain ⟨hcz37_0,hcz37_1,hcz37_2,hcz37_3,hcz37_4,hcz37_5,hcz37_6,hcz37_7,hcz37_8,hfz37_0,hfz37_1,hfz37_2,hfz37_3,hfz37_4,hfz37_5,hfz37_6,hfz37_7,hfz37_8⟩:=bC9 BK219.out)|(go_at_call 76;(with_reducible refine (spec_l09Same.calls ((rd_T71 l0 x5_2).f0) ((rd_T71 l0 x5_2).f1) ((rd_T71 l0 x5_2).f2) ((rd_T71 l0 x5_2).f3) ((rd_T71 l0 x5_2).f4) ((rd_T71 l0 x5_2).f5) ((rd_T71 l0 x5_2).f6) ((rd_T71 l0 x5_2).f7) ((rd_T71 l0 x5_2).f8) ((rd_T71 l0 x3_1).f0) ((rd_T71 l0 x3_1).f4) ((rd_T71 l0 x3_1).f5) ((rd_T71 l0 x3_1).f2) ((rd_T71 l0 x3_1).f3) false _ A21.out).mono ?_);rintro e w38 ⟨rfl,hb⟩;have n0_:=aMk (bkB BK219.out hb);have n1_:=aMk (bkB BK222.out hb);have n2_:=aMk (below_step (by repeat (first|(with_reducible first|exact HB.out|apply bwA|apply bwN|apply bw1|refine below_set ?_ GE219.out|refine below_set ?_ GE222.out)|exact HB.out)) hb);clear BK219;clear BK222;clear HB;have BK219:=n0_;have BK222:=n1_;have HB:=n2_;clear n0_ n1_ n2_;(try clear hb);(try clear hb2);(try clear hk);(try clear hi)))
               go_roundg k2
               case measure => have:=HK1.out;have:=HK2.out;omega
               case rel => exact ⟨(wrap64 (x5_2 + 1)),(by first | rfl|(simp;done)|(simp [*];done)|(simp [ne_nil_b];done)|(simp [ne_nil_b, *];done)),H',⟨by have:=HK1.out;have:=HK2.out;omega⟩,⟨by (with_reducible repeat (first|refine bDn ?_ _|refine bDr ?_|refine bAl ?_ _));exact BK219.out⟩,⟨by repeat (first|(with_reducible first|exact HB.out|apply bwA|apply bwN|apply bw1|refine below_set ?_ GE219.out|refine below_set ?_ GE222.out)|exact HB.out)⟩⟩
            ·rw [if_neg c13] at H
             exact absurd H (by simp)
           ·rw [if_neg c12] at H
            exact absurd H (by simp)
          ·rw [if_neg c11] at H
           have c11b0 : decide (x5_2 < x3_1) = false:=decide_eq_false c11
           clear c11
           have H':=aMk H
           clear H
           go_wp2
           go_roundg k2
           case measure => have:=HK1.out;have:=HK2.out;omega
           case rel => exact ⟨(wrap64 (x3_1 + 1)),(by first | rfl|(simp;done)|(simp [*];done)|(simp [ne_nil_b];done)|(simp [ne_nil_b, *];done)),H',⟨by have:=HK1.out;have:=HK2.out;omega⟩,⟨by repeat (first|(with_reducible first|exact HB.out|apply bwA|apply bwN|apply bw1|refine below_set ?_ GE219.out)|exact HB.out)⟩⟩
       ·replace c7:=Bool.eq_false_iff.mpr c7
        subst c7
        have H1 : (some false) = some r:=by rw [if_neg (show ¬ (false = true) by decide)] at H;exact H
        clear H
        have H:=H1
        clear H1
        obtain rfl:=Option.some.inj H
        have p218 : 0 ≤ (x3_1 : Int):=of_decide_eq_true (by first|(with_reducible assumption) | assumption)
        have q218 : x3_1 < (l0.length : Int):=of_decide_eq_true (by first|(with_reducible assumption) | assumption)
        obtain ⟨ad218,e218,hx218_0,hx218_1,hx218_2,hx218_3,hx218_4,hx218_5,hx218_6,hx218_7,hx218_8⟩:=at_T71 HR0.out x3_1 p218 q218
        cases e218
        replace hx218_0:=bXc HB.out hx218_0
        replace hx218_1:=bXc HB.out hx218_1
        replace hx218_2:=bXc HB.out hx218_2
        replace hx218_3:=bXc HB.out hx218_3
        replace hx218_4:=bXc HB.out hx218_4
        replace hx218_5:=bXc HB.out hx218_5
        replace hx218_6:=bXc HB.out hx218_6
        replace hx218_7:=bXc HB.out hx218_7
        replace hx218_8:=bXc HB.out hx218_8
        replace p218:=eq_true p218
        replace q218:=eq_true q218
        go_wp2_with (first|((with_reducible refine gate_dst (N:=4) rfl ?_);refine bxE (N:=4) (cs:=#[.int .i64 0,.string (⟨#[]⟩ : ByteArray),.int .i64 0,.int .i64 0,.int .i64 0,.int .i64 0,.int .i64 0,.int .i64 0,.int .i64 0]) (t:=71) ?_;intro gb219 hg w39 hbox hb;have n0_:=aMk (bSt hb);have n1_:=aMk (hbox);have n2_:=aMk ((by rw [hg];exact bSz : w.heap.size ≤ gb219));have n3_:=aMk ((by rw [hg];exact bSz : w.heap.size ≤ gb219));clear HB;have HB:=n0_;have BK219:=n1_;have GW219:=n2_;have GE219:=n3_;clear n0_ n1_ n2_ n3_;clear hb hbox hg;obtain ⟨hcz40_0,hcz40_1,hcz40_2,hcz40_3,hcz40_4,hcz40_5,hcz40_6,hcz40_7,hcz40_8,hfz40_0,hfz40_1,hfz40_2,hfz40_3,hfz40_4,hfz40_5,hfz40_6,hfz40_7,hfz40_8⟩:=bC9 BK219.out)|((with_reducible refine gate_callee (f:=75) rfl ?_);refine gLs 24 Try.func75 #[.agg #[.int .i64 ((rd_T71 l0 x3_1).f0),.string ((rd_T71 l0 x3_1).f1),.int .i64 ((rd_T71 l0 x3_1).f2),.int .i64 ((rd_T71 l0 x3_1).f3),.int .i64 ((rd_T71 l0 x3_1).f4),.int .i64 ((rd_T71 l0 x3_1).f5),.int .i64 ((rd_T71 l0 x3_1).f6),.int .i64 ((rd_T71 l0 x3_1).f7),.int .i64 ((rd_T71 l0 x3_1).f8)]] ?_;(with_reducible refine (spec_l09Flow.calls ((rd_T71 l0 x3_1).f0) ((rd_T71 l0 x3_1).f1) ((rd_T71 l0 x3_1).f2) ((rd_T71 l0 x3_1).f3) ((rd_T71 l0 x3_1).f4) ((rd_T71 l0 x3_1).f5) ((rd_T71 l0 x3_1).f6) ((rd_T71 l0 x3_1).f7) ((rd_T71 l0 x3_1).f8) false _ A6.out).mono ?_);rintro e w41 ⟨rfl,hb⟩;refine ⟨_,rfl,?_⟩;have n0_:=aMk (blk_below (g:=gb219) (o:=.cells #[.int .i64 ((rd_T71 l0 x3_1).f0),.string ((rd_T71 l0 x3_1).f1),.int .i64 ((rd_T71 l0 x3_1).f2),.int .i64 ((rd_T71 l0 x3_1).f3),.int .i64 ((rd_T71 l0 x3_1).f4),.int .i64 ((rd_T71 l0 x3_1).f5),.int .i64 ((rd_T71 l0 x3_1).f6),.int .i64 ((rd_T71 l0 x3_1).f7),.int .i64 ((rd_T71 l0 x3_1).f8)] 71 (0,0)) (by (with_reducible repeat (first|refine bDn ?_ _|refine bDr ?_|refine bAl ?_ _));refine blk_put (cs:=#[.int .i64 ((rd_T71 l0 x3_1).f0),.string ((rd_T71 l0 x3_1).f1),.int .i64 ((rd_T71 l0 x3_1).f2),.int .i64 ((rd_T71 l0 x3_1).f3),.int .i64 ((rd_T71 l0 x3_1).f4),.int .i64 ((rd_T71 l0 x3_1).f5),.int .i64 ((rd_T71 l0 x3_1).f6),.int .i64 ((rd_T71 l0 x3_1).f7),.int .i64 0]) ?_ 8 _ rfl;(with_reducible repeat (first|refine bDn ?_ _|refine bDr ?_|refine bAl ?_ _));refine blk_put (cs:=#[.int .i64 ((rd_T71 l0 x3_1).f0),.string ((rd_T71 l0 x3_1).f1),.int .i64 ((rd_T71 l0 x3_1).f2),.int .i64 ((rd_T71 l0 x3_1).f3),.int .i64 ((rd_T71 l0 x3_1).f4),.int .i64 ((rd_T71 l0 x3_1).f5),.int .i64 ((rd_T71 l0 x3_1).f6),.int .i64 0,.int .i64 0]) ?_ 7 _ rfl;(with_reducible repeat (first|refine bDn ?_ _|refine bDr ?_|refine bAl ?_ _));refine blk_put (cs:=#[.int .i64 ((rd_T71 l0 x3_1).f0),.string ((rd_T71 l0 x3_1).f1),.int .i64 ((rd_T71 l0 x3_1).f2),.int .i64 ((rd_T71 l0 x3_1).f3),.int .i64 ((rd_T71 l0 x3_1).f4),.int .i64 ((rd_T71 l0 x3_1).f5),.int .i64 0,.int .i64 0,.int .i64 0]) ?_ 6 _ rfl;(with_reducible repeat (first|refine bDn ?_ _|refine bDr ?_|refine bAl ?_ _));refine blk_put (cs:=#[.int .i64 ((rd_T71 l0 x3_1).f0),.string ((rd_T71 l0 x3_1).f1),.int .i64 ((rd_T71 l0 x3_1).f2),.int .i64 ((rd_T71 l0 x3_1).f3),.int .i64 ((rd_T71 l0 x3_1).f4),.int .i64 0,.int .i64 0,.int .i64 0,.int .i64 0]) ?_ 5 _ rfl;(with_reducible repeat (first|refine bDn ?_ _|refine bDr ?_|refine bAl ?_ _));refine blk_put (cs:=#[.int .i64 ((rd_T71 l0 x3_1).f0),.string ((rd_T71 l0 x3_1).f1),.int .i64 ((rd_T71 l0 x3_1).f2),.int .i64 ((rd_T71 l0 x3_1).f3),.int .i64 0,.int .i64 0,.int .i64 0,.int .i64 0,.int .i64 0]) ?_ 4 _ rfl;(with_reducible repeat (first|refine bDn ?_ _|refine bDr ?_|refine bAl ?_ _));refine blk_put (cs:=#[.int .i64 ((rd_T71 l0 x3_1).f0),.string ((rd_T71 l0 x3_1).f1),.int .i64 ((rd_T71 l0 x3_1).f2),.int .i64 0,.int .i64 0,.int .i64 0,.int .i64 0,.int .i64 0,.int .i64 0]) ?_ 3 _ rfl;(with_reducible repeat (first|refine bDn ?_ _|refine bDr ?_|refine bAl ?_ _));refine blk_put (cs:=#[.int .i64 ((rd_T71 l0 x3_1).f0),.string ((rd_T71 l0 x3_1).f1),.int .i64 0,.int .i64 0,.int .i64 0,.int .i64 0,.int .i64 0,.int .i64 0,.int .i64 0]) ?_ 2 _ rfl;(with_reducible repeat (first|refine bDn ?_ _|refine bDr ?_|refine bAl ?_ _));refine blk_put (cs:=#[.int .i64 ((rd_T71 l0 x3_1).f0),.string (⟨#[]⟩ : ByteArray),.int .i64 0,.int .i64 0,.int .i64 0,.int .i64 0,.int .i64 0,.int .i64 0,.int .i64 0]) ?_ 1 _ rfl;(with_reducible repeat (first|refine bDn ?_ _|refine bDr ?_|refine bAl ?_ _));refine blk_put (cs:=#[.int .i64 0,.string (⟨#[]⟩ : ByteArray),.int .i64 0,.int .i64 0,.int .i64 0,.int .i64 0,.int .i64 0,.int .i64 0,.int .i64 0]) ?_ 0 _ rfl;(with_reducible repeat (first|refine bDn ?_ _|refine bDr ?_|refine bAl ?_ _));exact BK219.out) hb);have n1_:=aMk (below_step (by repeat (first|(with_reducible first|exact HB.out|apply bwA|apply bwN|apply bw1|refine below_set ?_ GE219.out)|exact HB.out)) hb);clear BK219;clear HB;have BK219:=n0_;have HB:=n1_;clear n0_ n1_;(try clear hb);(try clear hb2);(try clear hk);(try clear hi)))
        go_ret
        exact ⟨eRf,by repeat (first|(with_reducible first|exact HB.out|apply bwA|apply bwN|apply bw1|refine below_set ?_ GE219.out)|exact HB.out)⟩
      ·rw [if_neg c5] at H
       exact absurd H (by simp)
     ·rw [if_neg c4] at H
      have c4b0 : decide (x3_1 < (l0.length : Int)) = false:=decide_eq_false c4
      clear c4
      obtain rfl:=Option.some.inj H
      go_wp2
      go_ret
      exact ⟨eRf,by repeat (first|(with_reducible first|exact HB.out|apply bwA|apply bwN|apply bw1)|exact HB.out)⟩
end
section
/-! ### spec_FlowPass: function 55 -/
def spec_FlowPass.f (k : Nat) (l0 : List (S71)) (a1 : Int) (a2 : Bool) (a3 : Int) (a4 : Int) : Option ((List (S71)) × Int):=if (l0.length : Int) > 4096 then (some ((([] : List (S71))),2)) else ((spec_FlowsOK.f k l0).bind fun t1143 => (if t1143 = true then ((spec_l01In.f a1 0 (wrap64 ((l0.length : Int) - 1))).bind fun t1147 => (if t1147 = true then ((spec_l01In.f a3 0 31).bind fun t1148 => (if t1148 = true then ((spec_l01In.f a4 0 100000).bind fun t1149 => (if t1149 = true then ((spec_l09Pass.f k l0 a1 a2 a3 a4).bind fun t1150 => (some (t1150,0))) else (some ((([] : List (S71))),4)))) else (some ((([] : List (S71))),4)))) else (some ((([] : List (S71))),4)))) else (some ((([] : List (S71))),1))))
theorem spec_FlowPass.mono : ∀ a0 a1 a2 a3 a4 k,LeO (spec_FlowPass.f k a0 a1 a2 a3 a4) (spec_FlowPass.f (k + 1) a0 a1 a2 a3 a4):=by
 intro a0 a1 a2 a3 a4 k
 unfold spec_FlowPass.f
 repeat' first
   | (with_reducible exact spec_FlowsOK.mono ..)
   | (with_reducible exact spec_l09Pass.mono ..)
   | (with_reducible exact LeO.refl _)
   | (with_reducible exact LeO.none _)
   | (with_reducible refine LeO.ite ?_ ?_)
   | (with_reducible refine LeO.bind ?_ (fun _ => ?_))
   | exact spec_FlowsOK.mono ..
   | exact spec_l09Pass.mono ..
   | exact LeO.none _
   | refine LeO.ite ?_ ?_
   | refine LeO.bind ?_ (fun _ => ?_)
set_option maxHeartbeats 8000000 in
set_option maxRecDepth 100000 in
theorem spec_FlowPass.calls (k : Nat) (A0 : Option Addr) (c0 : Nat) (l0 : List (S71)) (a1 : Int) (a2 : Bool) (a3 : Int) (a4 : Int) (r1 : List (S71)) (r2 : Int) (w : World) (hr0 : Kd.C k71 w A0 l0.length l0) (hc0 : l0.length ≤ c0) (h : spec_FlowPass.f k l0 a1 a2 a3 a4 = some (r1,r2)) :
  Calls Try.prog 55 #[.slice A0 l0.length c0,.int .i64 a1,.bool a2,.int .i64 a3,.int .i64 a4] w fun e w' => ∃ v0_ : Value,e = .returned (.tuple #[v0_,.int .i64 r2]) ∧ Kd.R k71 71 w' w.heap.size (fun _ => True) v0_ r1 ∧ Below w.heap.size w w':=by
 have HR0:=aMk hr0
 have HC0:=aMk hc0
 clear hr0 hc0
 have HB:=aMk (Below.refl w.heap.size w)
 have H : (if (l0.length : Int) > 4096 then (some ((([] : List (S71))),2)) else ((spec_FlowsOK.f k l0).bind fun t1143 => (if t1143 = true then ((spec_l01In.f a1 0 (wrap64 ((l0.length : Int) - 1))).bind fun t1147 => (if t1147 = true then ((spec_l01In.f a3 0 31).bind fun t1148 => (if t1148 = true then ((spec_l01In.f a4 0 100000).bind fun t1149 => (if t1149 = true then ((spec_l09Pass.f k l0 a1 a2 a3 a4).bind fun t1150 => (some (t1150,0))) else (some ((([] : List (S71))),4)))) else (some ((([] : List (S71))),4)))) else (some ((([] : List (S71))),4)))) else (some ((([] : List (S71))),1))))) = some (r1,r2):=h
 clear h
 by_cases c6 : (l0.length : Int) > 4096
 ·rw [if_pos c6] at H
  have c6b0 : decide (4096 < (l0.length : Int)) = true:=decide_eq_true c6
  have c6b1 : decide (4096 < l0.length) = true:=decide_eq_true (by omega)
  clear c6
  obtain ⟨y1140,hy1140⟩ : ∃ y_ : List (S71),y_ = (([] : List (S71))):=⟨_,rfl⟩
  replace H : (some (y1140,2)) = some (r1,r2):=by first|(rw [hy1140];with_reducible exact H)|(have H2_:=(Option.bind_some _ _).symm.trans H;rw [hy1140];with_reducible exact H2_)|(have H2_:=(Option.bind_some _ _).symm.trans H;with_reducible exact H2_) | with_reducible exact H|(rw [hy1140];exact H)|exact H
  have Ny1140:=aMk hy1140
  clear hy1140
  simp only [Option.some.injEq,Prod.mk.injEq] at H
  obtain ⟨rfl,rfl⟩:=H
  go_enter Try.func55,Try.ntmps55
  go_wp2_with (first|((with_reducible refine gate_dst (N:=15) rfl ?_);refine Kd.R_lit k71 _ 71 ?hg (N:=15) ?hd (xs:=([] : List (S71))) (inner:=[]) (ok:=fun _ => True) (okp:=fun _ => True) ?hr ?hp (fun _ hk => hk) trivial (Below.refl _ _) (Nat.le_refl _) (by simp) ?_;(case hd => rfl);(case hg => rfl);(case hr => first|(go_simp;done)|(go_simp;rfl));(case hp => exact (Reps.none _ _));intro v1141 w7 ho8 hb hg_ hnew_;clear hg_ hnew_;(first|rw [← Ny1140.out] at ho8|(simp only [Int.reduceToNat] at ho8;rw [← Ny1140.out] at ho8));have n0_:=aMk (Kd.R_lower ho8 bSz);have n1_:=aMk (bSt hb);clear HB;have HO1142:=n0_;have HB:=n1_;clear n0_ n1_;clear hb ho8))
  go_ret2
  exact ⟨_,by first | rfl|(simp [errW_none,errW_some] <;> rfl)|(simp [*,errW_none,errW_some] <;> rfl),by (with_reducible repeat (first|apply Kd.R_alloc|apply Kd.R_drewN|apply Kd.R_drew));exact HO1142.out,by repeat (first|(with_reducible first|exact HB.out|apply bwA|apply bwN|apply bw1)|exact HB.out)⟩
 ·rw [if_neg c6] at H
  have c6b0 : decide (4096 < (l0.length : Int)) = false:=decide_eq_false c6
  have c6b1 : decide (4096 < l0.length) = false:=decide_eq_false (by omega)
  clear c6
  replace H:=Option.bind_eq_some_iff.mp H
  obtain ⟨t1143,A90,H⟩:=H
  replace H : (if t1143 = true then ((spec_l01In.f a1 0 (wrap64 ((l0.length : Int) - 1))).bind fun t1147 => (if t1147 = true then ((spec_l01In.f a3 0 31).bind fun t1148 => (if t1148 = true then ((spec_l01In.f a4 0 100000).bind fun t1149 => (if t1149 = true then ((spec_l09Pass.f k l0 a1 a2 a3 a4).bind fun t1150 => (some (t1150,0))) else (some ((([] : List (S71))),4)))) else (some ((([] : List (S71))),4)))) else (some ((([] : List (S71))),4)))) else (some ((([] : List (S71))),1))) = some (r1,r2):=H
  have A9:=aMk A90
  clear A90
  by_cases c10 : t1143 = true
  ·subst c10
   have H1 : ((spec_l01In.f a1 0 (wrap64 ((l0.length : Int) - 1))).bind fun t1147 => (if t1147 = true then ((spec_l01In.f a3 0 31).bind fun t1148 => (if t1148 = true then ((spec_l01In.f a4 0 100000).bind fun t1149 => (if t1149 = true then ((spec_l09Pass.f k l0 a1 a2 a3 a4).bind fun t1150 => (some (t1150,0))) else (some ((([] : List (S71))),4)))) else (some ((([] : List (S71))),4)))) else (some ((([] : List (S71))),4)))) = some (r1,r2):=by rw [if_pos rfl] at H;exact H
   clear H
   have H:=H1
   clear H1
   replace H:=Option.bind_eq_some_iff.mp H
   obtain ⟨t1147,A110,H⟩:=H
   replace H : (if t1147 = true then ((spec_l01In.f a3 0 31).bind fun t1148 => (if t1148 = true then ((spec_l01In.f a4 0 100000).bind fun t1149 => (if t1149 = true then ((spec_l09Pass.f k l0 a1 a2 a3 a4).bind fun t1150 => (some (t1150,0))) else (some ((([] : List (S71))),4)))) else (some ((([] : List (S71))),4)))) else (some ((([] : List (S71))),4))) = some (r1,r2):=H
   have A11:=aMk A110
   clear A110
   by_cases c12 : t1147 = true
   ·subst c12
    have H1 : ((spec_l01In.f a3 0 31).bind fun t1148 => (if t1148 = true then ((spec_l01In.f a4 0 100000).bind fun t1149 => (if t1149 = true then ((spec_l09Pass.f k l0 a1 a2 a3 a4).bind fun t1150 => (some (t1150,0))) else (some ((([] : List (S71))),4)))) else (some ((([] : List (S71))),4)))) = some (r1,r2):=by rw [if_pos rfl] at H;exact H
    clear H
    have H:=H1
    clear H1
    replace H:=Option.bind_eq_some_iff.mp H
    obtain ⟨t1148,A130,H⟩:=H
    replace H : (if t1148 = true then ((spec_l01In.f a4 0 100000).bind fun t1149 => (if t1149 = true then ((spec_l09Pass.f k l0 a1 a2 a3 a4).bind fun t1150 => (some (t1150,0))) else (some ((([] : List (S71))),4)))) else (some ((([] : List (S71))),4))) = some (r1,r2):=H
    have A13:=aMk A130
    clear A130
    by_cases c14 : t1148 = true
    ·subst c14
     have H1 : ((spec_l01In.f a4 0 100000).bind fun t1149 => (if t1149 = true then ((spec_l09Pass.f k l0 a1 a2 a3 a4).bind fun t1150 => (some (t1150,0))) else (some ((([] : List (S71))),4)))) = some (r1,r2):=by rw [if_pos rfl] at H;exact H
     clear H
     have H:=H1
     clear H1
     replace H:=Option.bind_eq_some_iff.mp H
     obtain ⟨t1149,A150,H⟩:=H
     replace H : (if t1149 = true then ((spec_l09Pass.f k l0 a1 a2 a3 a4).bind fun t1150 => (some (t1150,0))) else (some ((([] : List (S71))),4))) = some (r1,r2):=H
     have A15:=aMk A150
     clear A150
     by_cases c16 : t1149 = true
     ·subst c16
      have H1 : ((spec_l09Pass.f k l0 a1 a2 a3 a4).bind fun t1150 => (some (t1150,0))) = some (r1,r2):=by rw [if_pos rfl] at H;exact H
      clear H
      have H:=H1
      clear H1
      replace H:=Option.bind_eq_some_iff.mp H
      obtain ⟨t1150,A170,H⟩:=H
      replace H : (some (t1150,0)) = some (r1,r2):=H
      have A17:=aMk A170
      clear A170
      simp only [Option.some.injEq,Prod.mk.injEq] at H
      obtain ⟨rfl,rfl⟩:=H
      go_enter Try.func55,Try.ntmps55
      go_wp2_with (first|((with_reducible refine gate_callee (f:=27) rfl ?_);refine gLs 17 Try.func27 #[.slice A0 l0.length c0] ?_;(with_reducible refine (spec_FlowsOK.calls k _ _ l0 true _ ?side1 ?side2 A9.out).mono ?_);(case side1 => repeat (first|exact HR0.out|(with_reducible refine Kd.C_alloc ?_ _)|(with_reducible refine Kd.C_drewN ?_ _)|(with_reducible refine Kd.C_drew ?_)));(case side2 => exact HC0.out);rintro e w18 ⟨rfl,hb⟩;refine ⟨_,rfl,?_⟩;have n0_:=aMk (bSt hb);clear HB;have HB:=n0_;clear n0_;(try clear hb);(try clear hb2);(try clear hk);(try clear hi))|((with_reducible refine gate_callee (f:=64) rfl ?_);refine gLs 24 Try.func64 #[.int .i64 a1,.int .i64 0,.int .i64 (wrap64 ((l0.length : Int) - 1))] ?_;(with_reducible refine (spec_l01In.calls a1 0 (wrap64 ((l0.length : Int) - 1)) true _ A11.out).mono ?_);rintro e w' ⟨rfl,⟨nd,rfl⟩⟩;refine ⟨_,rfl,?_⟩)|(go_at_call 64;(with_reducible refine (spec_l01In.calls a3 0 31 true _ A13.out).mono ?_);rintro e w' ⟨rfl,⟨nd,rfl⟩⟩)|(go_at_call 64;(with_reducible refine (spec_l01In.calls a4 0 100000 true _ A15.out).mono ?_);rintro e w' ⟨rfl,⟨nd,rfl⟩⟩)|((with_reducible refine gate_callee (f:=101) rfl ?_);refine gLs 42 Try.func101 #[.slice A0 l0.length c0,.int .i64 a1,.bool a2,.int .i64 a3,.int .i64 a4] ?_;(with_reducible refine (spec_l09Pass.calls k _ _ l0 a1 a2 a3 a4 t1150 _ ?side1 ?side2 A17.out).mono ?_);(case side1 => repeat (first|exact (Kd.C_below HR0.out (by repeat first|exact HB.out|apply bwA|apply bwN|apply bw1))|(with_reducible refine Kd.C_alloc ?_ _)|(with_reducible refine Kd.C_drewN ?_ _)|(with_reducible refine Kd.C_drew ?_)));(case side2 => exact HC0.out);rintro e w19 ⟨v1151,rfl,ho0,hb⟩;refine ⟨_,rfl,?_⟩;have n0_:=aMk (Kd.R_lower ho0 bSz);have n1_:=aMk (bSt hb);clear HB;have HO1152:=n0_;have HB:=n1_;clear n0_ n1_;(try clear hb);(try clear hb2);(try clear hk);(try clear hi);(try clear ho0)))
      go_ret2
      exact ⟨_,by first | rfl|(simp [errW_none,errW_some] <;> rfl)|(simp [*,errW_none,errW_some] <;> rfl),by (with_reducible repeat (first|apply Kd.R_alloc|apply Kd.R_drewN|apply Kd.R_drew));exact HO1152.out,by repeat (first|(with_reducible first|exact HB.out|apply bwA|apply bwN|apply bw1)|exact HB.out)⟩
     ·replace c16:=Bool.eq_false_iff.mpr c16
      subst c16
      have H1 : (some ((([] : List (S71))),4)) = some (r1,r2):=by rw [if_neg (show ¬ (false = true) by decide)] at H;exact H
      clear H
      have H:=H1
      clear H1
      obtain ⟨y1153,hy1153⟩ : ∃ y_ : List (S71),y_ = (([] : List (S71))):=⟨_,rfl⟩
      replace H : (some (y1153,4)) = some (r1,r2):=by first|(rw [hy1153];with_reducible exact H)|(have H2_:=(Option.bind_some _ _).symm.trans H;rw [hy1153];with_reducible exact H2_)|(have H2_:=(Option.bind_some _ _).symm.trans H;with_reducible exact H2_) | with_reducible exact H|(rw [hy1153];exact H)|exact H
      have Ny1153:=aMk hy1153
      clear hy1153
      simp only [Option.some.injEq,Prod.mk.injEq] at H
      obtain ⟨rfl,rfl⟩:=H
      go_enter Try.func55,Try.ntmps55
      go_wp2_with (first|((with_reducible refine gate_callee (f:=27) rfl ?_);refine gLs 17 Try.func27 #[.slice A0 l0.length c0] ?_;(with_reducible refine (spec_FlowsOK.calls k _ _ l0 true _ ?side1 ?side2 A9.out).mono ?_);(case side1 => repeat (first|exact HR0.out|(with_reducible refine Kd.C_alloc ?_ _)|(with_reducible refine Kd.C_drewN ?_ _)|(with_reducible refine Kd.C_drew ?_)));(case side2 => exact HC0.out);rintro e w20 ⟨rfl,hb⟩;refine ⟨_,rfl,?_⟩;have n0_:=aMk (bSt hb);clear HB;have HB:=n0_;clear n0_;(try clear hb);(try clear hb2);(try clear hk);(try clear hi))|((with_reducible refine gate_callee (f:=64) rfl ?_);refine gLs 24 Try.func64 #[.int .i64 a1,.int .i64 0,.int .i64 (wrap64 ((l0.length : Int) - 1))] ?_;(with_reducible refine (spec_l01In.calls a1 0 (wrap64 ((l0.length : Int) - 1)) true _ A11.out).mono ?_);rintro e w' ⟨rfl,⟨nd,rfl⟩⟩;refine ⟨_,rfl,?_⟩)|(go_at_call 64;(with_reducible refine (spec_l01In.calls a3 0 31 true _ A13.out).mono ?_);rintro e w' ⟨rfl,⟨nd,rfl⟩⟩)|(go_at_call 64;(with_reducible refine (spec_l01In.calls a4 0 100000 false _ A15.out).mono ?_);rintro e w' ⟨rfl,⟨nd,rfl⟩⟩)|((with_reducible refine gate_dst (N:=36) rfl ?_);refine Kd.R_lit k71 _ 71 ?hg (N:=36) ?hd (xs:=([] : List (S71))) (inner:=[]) (ok:=fun _ => True) (okp:=fun _ => True) ?hr ?hp (fun _ hk => hk) trivial (Below.refl _ _) (Nat.le_refl _) (by simp) ?_;(case hd => rfl);(case hg => rfl);(case hr => first|(go_simp;done)|(go_simp;rfl));(case hp => exact (Reps.none _ _));intro v1154 w21 ho22 hb hg_ hnew_;clear hg_ hnew_;(first|rw [← Ny1153.out] at ho22|(simp only [Int.reduceToNat] at ho22;rw [← Ny1153.out] at ho22));have n0_:=aMk (Kd.R_lower ho22 bSz);have n1_:=aMk (bSt hb);clear HB;have HO1155:=n0_;have HB:=n1_;clear n0_ n1_;clear hb ho22))
      go_ret2
      exact ⟨_,by first | rfl|(simp [errW_none,errW_some] <;> rfl)|(simp [*,errW_none,errW_some] <;> rfl),by (with_reducible repeat (first|apply Kd.R_alloc|apply Kd.R_drewN|apply Kd.R_drew));exact HO1155.out,by repeat (first|(with_reducible first|exact HB.out|apply bwA|apply bwN|apply bw1)|exact HB.out)⟩
    ·replace c14:=Bool.eq_false_iff.mpr c14
     subst c14
     have H1 : (some ((([] : List (S71))),4)) = some (r1,r2):=by rw [if_neg (show ¬ (false = true) by decide)] at H;exact H
     clear H
     have H:=H1
     clear H1
     obtain ⟨y1156,hy1156⟩ : ∃ y_ : List (S71),y_ = (([] : List (S71))):=⟨_,rfl⟩
     replace H : (some (y1156,4)) = some (r1,r2):=by first|(rw [hy1156];with_reducible exact H)|(have H2_:=(Option.bind_some _ _).symm.trans H;rw [hy1156];with_reducible exact H2_)|(have H2_:=(Option.bind_some _ _).symm.trans H;with_reducible exact H2_) | with_reducible exact H|(rw [hy1156];exact H)|exact H
     have Ny1156:=aMk hy1156
     clear hy1156
     simp only [Option.some.injEq,Prod.mk.injEq] at H
     obtain ⟨rfl,rfl⟩:=H
     go_enter Try.func55,Try.ntmps55
     go_wp2_with (first|((with_reducible refine gate_callee (f:=27) rfl ?_);refine gLs 17 Try.func27 #[.slice A0 l0.length c0] ?_;(with_reducible refine (spec_FlowsOK.calls k _ _ l0 true _ ?side1 ?side2 A9.out).mono ?_);(case side1 => repeat (first|exact HR0.out|(with_reducible refine Kd.C_alloc ?_ _)|(with_reducible refine Kd.C_drewN ?_ _)|(with_reducible refine Kd.C_drew ?_)));(case side2 => exact HC0.out);rintro e w23 ⟨rfl,hb⟩;refine ⟨_,rfl,?_⟩;have n0_:=aMk (bSt hb);clear HB;have HB:=n0_;clear n0_;(try clear hb);(try clear hb2);(try clear hk);(try clear hi))|((with_reducible refine gate_callee (f:=64) rfl ?_);refine gLs 24 Try.func64 #[.int .i64 a1,.int .i64 0,.int .i64 (wrap64 ((l0.length : Int) - 1))] ?_;(with_reducible refine (spec_l01In.calls a1 0 (wrap64 ((l0.length : Int) - 1)) true _ A11.out).mono ?_);rintro e w' ⟨rfl,⟨nd,rfl⟩⟩;refine ⟨_,rfl,?_⟩)|(go_at_call 64;(with_reducible refine (spec_l01In.calls a3 0 31 false _ A13.out).mono ?_);rintro e w' ⟨rfl,⟨nd,rfl⟩⟩)|((with_reducible refine gate_dst (N:=36) rfl ?_);refine Kd.R_lit k71 _ 71 ?hg (N:=36) ?hd (xs:=([] : List (S71))) (inner:=[]) (ok:=fun _ => True) (okp:=fun _ => True) ?hr ?hp (fun _ hk => hk) trivial (Below.refl _ _) (Nat.le_refl _) (by simp) ?_;(case hd => rfl);(case hg => rfl);(case hr => first|(go_simp;done)|(go_simp;rfl));(case hp => exact (Reps.none _ _));intro v1157 w24 ho25 hb hg_ hnew_;clear hg_ hnew_;(first|rw [← Ny1156.out] at ho25|(simp only [Int.reduceToNat] at ho25;rw [← Ny1156.out] at ho25));have n0_:=aMk (Kd.R_lower ho25 bSz);have n1_:=aMk (bSt hb);clear HB;have HO1158:=n0_;have HB:=n1_;clear n0_ n1_;clear hb ho25))
     go_ret2
     exact ⟨_,by first | rfl|(simp [errW_none,errW_some] <;> rfl)|(simp [*,errW_none,errW_some] <;> rfl),by (with_reducible repeat (first|apply Kd.R_alloc|apply Kd.R_drewN|apply Kd.R_drew));exact HO1158.out,by repeat (first|(with_reducible first|exact HB.out|apply bwA|apply bwN|apply bw1)|exact HB.out)⟩
   ·replace c12:=Bool.eq_false_iff.mpr c12
    subst c12
    have H1 : (some ((([] : List (S71))),4)) = some (r1,r2):=by rw [if_neg (show ¬ (false = true) by decide)] at H;exact H
    clear H
    have H:=H1
    clear H1
    obtain ⟨y1159,hy1159⟩ : ∃ y_ : List (S71),y_ = (([] : List (S71))):=⟨_,rfl⟩
    replace H : (some (y1159,4)) = some (r1,r2):=by first|(rw [hy1159];with_reducible exact H)|(have H2_:=(Option.bind_some _ _).symm.trans H;rw [hy1159];with_reducible exact H2_)|(have H2_:=(Option.bind_some _ _).symm.trans H;with_reducible exact H2_) | with_reducible exact H|(rw [hy1159];exact H)|exact H
    have Ny1159:=aMk hy1159
    clear hy1159
    simp only [Option.some.injEq,Prod.mk.injEq] at H
    obtain ⟨rfl,rfl⟩:=H
    go_enter Try.func55,Try.ntmps55
    go_wp2_with (first|((with_reducible refine gate_callee (f:=27) rfl ?_);refine gLs 17 Try.func27 #[.slice A0 l0.length c0] ?_;(with_reducible refine (spec_FlowsOK.calls k _ _ l0 true _ ?side1 ?side2 A9.out).mono ?_);(case side1 => repeat (first|exact HR0.out|(with_reducible refine Kd.C_alloc ?_ _)|(with_reducible refine Kd.C_drewN ?_ _)|(with_reducible refine Kd.C_drew ?_)));(case side2 => exact HC0.out);rintro e w26 ⟨rfl,hb⟩;refine ⟨_,rfl,?_⟩;have n0_:=aMk (bSt hb);clear HB;have HB:=n0_;clear n0_;(try clear hb);(try clear hb2);(try clear hk);(try clear hi))|((with_reducible refine gate_callee (f:=64) rfl ?_);refine gLs 24 Try.func64 #[.int .i64 a1,.int .i64 0,.int .i64 (wrap64 ((l0.length : Int) - 1))] ?_;(with_reducible refine (spec_l01In.calls a1 0 (wrap64 ((l0.length : Int) - 1)) false _ A11.out).mono ?_);rintro e w' ⟨rfl,⟨nd,rfl⟩⟩;refine ⟨_,rfl,?_⟩)|((with_reducible refine gate_dst (N:=36) rfl ?_);refine Kd.R_lit k71 _ 71 ?hg (N:=36) ?hd (xs:=([] : List (S71))) (inner:=[]) (ok:=fun _ => True) (okp:=fun _ => True) ?hr ?hp (fun _ hk => hk) trivial (Below.refl _ _) (Nat.le_refl _) (by simp) ?_;(case hd => rfl);(case hg => rfl);(case hr => first|(go_simp;done)|(go_simp;rfl));(case hp => exact (Reps.none _ _));intro v1160 w27 ho28 hb hg_ hnew_;clear hg_ hnew_;(first|rw [← Ny1159.out] at ho28|(simp only [Int.reduceToNat] at ho28;rw [← Ny1159.out] at ho28));have n0_:=aMk (Kd.R_lower ho28 bSz);have n1_:=aMk (bSt hb);clear HB;have HO1161:=n0_;have HB:=n1_;clear n0_ n1_;clear hb ho28))
    go_ret2
    exact ⟨_,by first | rfl|(simp [errW_none,errW_some] <;> rfl)|(simp [*,errW_none,errW_some] <;> rfl),by (with_reducible repeat (first|apply Kd.R_alloc|apply Kd.R_drewN|apply Kd.R_drew));exact HO1161.out,by repeat (first|(with_reducible first|exact HB.out|apply bwA|apply bwN|apply bw1)|exact HB.out)⟩
  ·replace c10:=Bool.eq_false_iff.mpr c10
   subst c10
   have H1 : (some ((([] : List (S71))),1)) = some (r1,r2):=by rw [if_neg (show ¬ (false = true) by decide)] at H;exact H
   clear H
   have H:=H1
   clear H1
   obtain ⟨y1144,hy1144⟩ : ∃ y_ : List (S71),y_ = (([] : List (S71))):=⟨_,rfl⟩
   replace H : (some (y1144,1)) = some (r1,r2):=by first|(rw [hy1144];with_reducible exact H)|(have H2_:=(Option.bind_some _ _).symm.trans H;rw [hy1144];with_reducible exact H2_)|(have H2_:=(Option.bind_some _ _).symm.trans H;with_reducible exact H2_) | with_reducible exact H|(rw [hy1144];exact H)|exact H
   have Ny1144:=aMk hy1144
   clear hy1144
   simp only [Option.some.injEq,Prod.mk.injEq] at H
   obtain ⟨rfl,rfl⟩:=H
   go_enter Try.func55,Try.ntmps55
   go_wp2_with (first|((with_reducible refine gate_callee (f:=27) rfl ?_);refine gLs 17 Try.func27 #[.slice A0 l0.length c0] ?_;(with_reducible refine (spec_FlowsOK.calls k _ _ l0 false _ ?side1 ?side2 A9.out).mono ?_);(case side1 => repeat (first|exact HR0.out|(with_reducible refine Kd.C_alloc ?_ _)|(with_reducible refine Kd.C_drewN ?_ _)|(with_reducible refine Kd.C_drew ?_)));(case side2 => exact HC0.out);rintro e w29 ⟨rfl,hb⟩;refine ⟨_,rfl,?_⟩;have n0_:=aMk (bSt hb);clear HB;have HB:=n0_;clear n0_;(try clear hb);(try clear hb2);(try clear hk);(try clear hi))|((with_reducible refine gate_dst (N:=19) rfl ?_);refine Kd.R_lit k71 _ 71 ?hg (N:=19) ?hd (xs:=([] : List (S71))) (inner:=[]) (ok:=fun _ => True) (okp:=fun _ => True) ?hr ?hp (fun _ hk => hk) trivial (Below.refl _ _) (Nat.le_refl _) (by simp) ?_;(case hd => rfl);(case hg => rfl);(case hr => first|(go_simp;done)|(go_simp;rfl));(case hp => exact (Reps.none _ _));intro v1145 w30 ho31 hb hg_ hnew_;clear hg_ hnew_;(first|rw [← Ny1144.out] at ho31|(simp only [Int.reduceToNat] at ho31;rw [← Ny1144.out] at ho31));have n0_:=aMk (Kd.R_lower ho31 bSz);have n1_:=aMk (bSt hb);clear HB;have HO1146:=n0_;have HB:=n1_;clear n0_ n1_;clear hb ho31))
   go_ret2
   exact ⟨_,by first | rfl|(simp [errW_none,errW_some] <;> rfl)|(simp [*,errW_none,errW_some] <;> rfl),by (with_reducible repeat (first|apply Kd.R_alloc|apply Kd.R_drewN|apply Kd.R_drew));exact HO1146.out,by repeat (first|(with_reducible first|exact HB.out|apply bwA|apply bwN|apply bw1)|exact HB.out)⟩
end
section
theorem impl_Flow_100.eql (a : Addr) (n c : Nat) (w : World) : (Sem.run Try.prog (binOp BinOp.eql 40 (Value.slice (some a) n c) (Value.slice none 0 0)) w) = .ok (.bool false) w:=by
 simp only [binOp,Op.equal]
 rw [show Op.maxDepth = 9999 + 1 from rfl,Op.equalIn]
 simp
theorem impl_Flow_100.nil (n c : Nat) (w : World) : (Sem.run Try.prog (binOp BinOp.eql 40 (Value.slice none n c) (Value.slice none 0 0)) w) = .ok (.bool true) w:=by
 simp only [binOp,Op.equal]
 rw [show Op.maxDepth = 9999 + 1 from rfl,Op.equalIn]
 simp
attribute [local go_sem] impl_Flow_100.eql impl_Flow_100.nil
/-! ### impl_Flow_100: function 100 -/
def impl_Flow_100.f (l0 : List (S71)) : Option ((List (S71))):=(some (([] : List (S71)) : List (S71))).bind fun y851 => (if y851.length + l0.length < 1759218604441 then (some (y851 ++ l0)) else (none))
set_option maxHeartbeats 8000000 in
set_option maxRecDepth 100000 in
theorem impl_Flow_100.calls0 (a0_ : Addr) (c0 : Nat) (l0 : List (S71)) (r : List (S71)) (w : World) (hr0 : Kd.C k71 w (some a0_) l0.length l0) (hc0 : l0.length ≤ c0) (h : impl_Flow_100.f l0 = some r) :
  Calls Try.prog 100 #[.slice (some a0_) l0.length c0] w fun e w' => ∃ v0_ : Value,e = .returned (v0_) ∧ Kd.R k71 71 w' w.heap.size (fun _ => True) v0_ r ∧ Below w.heap.size w w':=by
 have HR0:=aMk hr0
 have HC0:=aMk hc0
 clear hr0 hc0
 have HB:=aMk (Below.refl w.heap.size w)
 have H : ((some (([] : List (S71)) : List (S71))).bind fun y851 => (if y851.length + l0.length < 1759218604441 then (some (y851 ++ l0)) else (none))) = some r:=h
 clear h
 obtain ⟨y851,hy851⟩ : ∃ y_ : List (S71),y_ = (([] : List (S71))):=⟨_,rfl⟩
 replace H : (if y851.length + l0.length < 1759218604441 then (some (y851 ++ l0)) else (none)) = some r:=by first|(rw [hy851];with_reducible exact H)|(have H2_:=(Option.bind_some _ _).symm.trans H;rw [hy851];with_reducible exact H2_)|(have H2_:=(Option.bind_some _ _).symm.trans H;with_reducible exact H2_) | with_reducible exact H|(rw [hy851];exact H)|exact H
 have Ny851:=aMk hy851
 clear hy851
 by_cases c2 : y851.length + l0.length < 1759218604441
 ·rw [if_pos c2] at H
  have LMc2:=aMk c2
  clear c2
  obtain ⟨y854,hy854⟩ : ∃ y_ : List (S71),y_ = (y851 ++ l0):=⟨_,rfl⟩
  replace H : (some y854) = some r:=by first|(rw [hy854];with_reducible exact H)|(have H2_:=(Option.bind_some _ _).symm.trans H;rw [hy854];with_reducible exact H2_)|(have H2_:=(Option.bind_some _ _).symm.trans H;with_reducible exact H2_) | with_reducible exact H|(rw [hy854];exact H)|exact H
  have Ny854:=aMk hy854
  clear hy854
  obtain rfl:=Option.some.inj H
  go_enter Try.func100,Try.ntmps100
  go_wp2_with (first|((with_reducible refine gate_dst (N:=5) rfl ?_);refine Kd.R_lit k71 _ 71 ?hg (N:=5) ?hd (xs:=([] : List (S71))) (inner:=[]) (ok:=fun _ => True) (okp:=fun _ => True) ?hr ?hp (fun _ hk => hk) trivial (Below.refl _ _) (Nat.le_refl _) (by simp) ?_;(case hd => rfl);(case hg => rfl);(case hr => first|(go_simp;done)|(go_simp;rfl));(case hp => exact (Reps.none _ _));intro v852 w3 ho4 hb hg_ hnew_;clear hg_ hnew_;(first|rw [← Ny851.out] at ho4|(simp only [Int.reduceToNat] at ho4;rw [← Ny851.out] at ho4));have n0_:=aMk (Kd.R_lower ho4 bSz);have n1_:=aMk (bSt hb);clear HB;have HO853:=n0_;have HB:=n1_;clear n0_ n1_;clear hb ho4)|((with_reducible refine gate_builtin (b:=.append) (xs:=#[.tmp 5,.tmp 6]) rfl ?_);at_builtin;refine Kd.R_append_rows k71 (w0:=w) w.heap.size rfl (.tmp 5) (.tmp 6) 40 71 (.agg #[(.int .i64 0),(.string ⟨#[]⟩),(.int .i64 0),(.int .i64 0),(.int .i64 0),(.int .i64 0),(.int .i64 0),(.int .i64 0),(.int .i64 0)]) 80 rfl Try.underlying40 info71 rfl (by decide) (by omega) v852 y851 l0 _ _ _ (fun _ => True) (fun _ => False) rfl rfl ?aO ?aR (fun _ _ h => h) (fun _ h => h.elim) ?aF ?aB ?aS ?aL ?_;(case aR => repeat (first|exact (Kd.C_below HR0.out HB.out)|(with_reducible refine Kd.C_alloc ?_ _)|(with_reducible refine Kd.C_drewN ?_ _)|(with_reducible refine Kd.C_drew ?_)));(case aB => exact (by repeat first|exact HB.out|apply bwA|apply bwN|apply bw1));(case aF => exact (fun _ _ => trivial));(case aO => exact (by (with_reducible repeat (first|apply Kd.R_alloc|apply Kd.R_drewN|apply Kd.R_drew));exact HO853.out));(case aS => exact bSz);(case aL => have:=LMc2.out;omega);intro v855 w5 ho hb hg hat;rw [← Ny854.out] at ho;have n0_:=aMk (hb);have n1_:=aMk (ho);clear HB;clear HO853;have HB:=n0_;have HO856:=n1_;clear n0_ n1_;clear ho hb hg hat))
  go_ret
  exact ⟨_,by first | rfl|(simp [errW_none,errW_some] <;> rfl)|(simp [*,errW_none,errW_some] <;> rfl),by (with_reducible repeat (first|apply Kd.R_alloc|apply Kd.R_drewN|apply Kd.R_drew));exact HO856.out,by repeat (first|(with_reducible first|exact HB.out|apply bwA|apply bwN|apply bw1)|exact HB.out)⟩
 ·rw [if_neg c2] at H
  exact absurd H (by simp)

set_option maxHeartbeats 8000000 in
set_option maxRecDepth 100000 in
theorem impl_Flow_100.calls (A0 : Option Addr) (c0 : Nat) (l0 : List (S71)) (r : List (S71)) (w : World) (hr0 : Kd.C k71 w A0 l0.length l0) (hc0 : l0.length ≤ c0) (h : impl_Flow_100.f l0 = some r) :
  Calls Try.prog 100 #[.slice A0 l0.length c0] w fun e w' => ∃ v0_ : Value,e = .returned (v0_) ∧ Kd.R k71 71 w' w.heap.size (fun _ => True) v0_ r ∧ Below w.heap.size w w':=by
 cases A0 with
 | some a => exact impl_Flow_100.calls0 a c0 l0 r w hr0 hc0 h
 | none =>
  have hl : l0 = []:=by
   cases l0 with
   | nil => rfl
   | cons y ys =>
    obtain ⟨ad,e_,_⟩:=at_T71 hr0 0 (by omega) (by simp)
    cases e_
  subst hl
  obtain rfl : r = []:=by simpa [impl_Flow_100.f] using h.symm
  go_enter Try.func100,Try.ntmps100
  go_wp2
  go_ret
  exact ⟨_,rfl,Kd.R_nil _ _ _ _ _,by repeat (first|exact Below.refl _ _|apply bwA|apply bwN|apply bw1)⟩
end
section
/-! ### impl_Flow_107: function 107 -/
def idxP71 (p : S71 → Option Bool) (l : List S71) : Nat → Int → Option Int
 | 0,_ => none
 | k + 1,i => if i < (l.length : Int) then (if 0 ≤ i then ((p (rd_T71 l i)).bind fun t => (if t = true then some i else idxP71 p l k (wrap64 (i + 1)))) else none) else some (-1)
theorem idxP71_mono (p q : S71 → Option Bool) (hpq : ∀ x,LeO (p x) (q x)) (l : List S71) : ∀ k i,LeO (idxP71 p l k i) (idxP71 q l (k + 1) i)
 | 0,i => fun r h => by simp [idxP71] at h
 | k + 1,i => by
  have ih:=idxP71_mono p q hpq l k
  rw [idxP71,idxP71]
  refine LeO.ite (LeO.ite (LeO.bind (hpq _) (fun t => LeO.ite (LeO.refl _) (ih _))) (LeO.refl _)) (LeO.refl _)
set_option maxHeartbeats 8000000 in
set_option maxRecDepth 100000 in
theorem indexFunc71 (g : FuncId) (lb : Array Value) (eg : ∀ args w,(callFunc g args).run Try.prog w = .ok (.enter g args) w) (p : S71 → Option Bool) (k : Nat) (A0 : Option Addr) (c0 : Nat) (l0 : List S71) (r : Int) (w : World)
  (hp : ∀ (W : World) (x : S71) (b : Bool),Below w.heap.size w W → p x = some b → Calls Try.prog g (#[.agg #[.int .i64 x.f0,.string x.f1,.int .i64 x.f2,.int .i64 x.f3,.int .i64 x.f4,.int .i64 x.f5,.int .i64 x.f6,.int .i64 x.f7,.int .i64 x.f8]] ++ lb) W fun e w' => e = .returned (.bool b) ∧ Below w.heap.size w w')
  (hr0 : Kd.C k71 w A0 l0.length l0) (h : idxP71 p l0 k 0 = some r) :
  Calls Try.prog 107 #[.slice A0 l0.length c0,.func (.func g) #[] lb] w fun e w' => e = .returned (.int .i64 r) ∧ Below w.heap.size w w':=by
 have hu71:=Try.underlying71
 have HR0:=aMk hr0
 have HP:=aMk hp
 clear hr0 hp
 have HB:=aMk (Below.refl w.heap.size w)
 have H':=aMk h
 clear h
 go_enter Try.func107,Try.ntmps107
 go_wp2
 go_loopg [5,8] k (fun kq _ v8 w' => ∃ (x : Int),v8 = .int .i64 x ∧ Aside0 (idxP71 p l0 kq x = some r) ∧ Aside0 (kq ≤ k) ∧ Aside0 (Below w.heap.size w w'))
 case atStart => exact ⟨0,rfl,H',⟨Nat.le_refl _⟩,HB⟩
 case round =>
  clear H'
  obtain ⟨x,rfl,HA,HK1,HB⟩:=hrel
  cases gk with
  | zero => exact absurd HA.out (by simp [idxP71])
  | succ k1 =>
   have H:=HA.out
   clear HA
   simp only [idxP71] at H
   by_cases c2 : x < (l0.length : Int)
   ·rw [if_pos c2] at H
    have c2b0 : decide (x < (l0.length : Int)) = true:=decide_eq_true c2
    clear c2
    by_cases c3 : 0 ≤ x
    ·rw [if_pos c3] at H
     have c3b0 : decide (0 ≤ x) = true:=decide_eq_true c3
     clear c3
     replace H:=Option.bind_eq_some_iff.mp H
     obtain ⟨t,A40,H⟩:=H
     have p179 : 0 ≤ (x : Int):=of_decide_eq_true (by first|(with_reducible assumption) | assumption)
     have q179 : x < (l0.length : Int):=of_decide_eq_true (by first|(with_reducible assumption) | assumption)
     obtain ⟨ad179,e179,hx0,hx1,hx2,hx3,hx4,hx5,hx6,hx7,hx8⟩:=at_T71 HR0.out x p179 q179
     cases e179
     replace hx0:=bXc HB.out hx0
     replace hx1:=bXc HB.out hx1
     replace hx2:=bXc HB.out hx2
     replace hx3:=bXc HB.out hx3
     replace hx4:=bXc HB.out hx4
     replace hx5:=bXc HB.out hx5
     replace hx6:=bXc HB.out hx6
     replace hx7:=bXc HB.out hx7
     replace hx8:=bXc HB.out hx8
     replace p179:=eq_true p179
     replace q179:=eq_true q179
     have HC:=aMk (HP.out _ _ _ HB.out A40)
     clear A40
     cases t
     ·have H1 : idxP71 p l0 k1 (wrap64 (x + 1)) = some r:=by simpa using H
      clear H
      have H':=aMk H1
      clear H1
      go_wp2_with (refine HC.out.mono ?_;rintro e w6 ⟨rfl,hb⟩;clear HB;have HB:=aMk hb;clear hb)
      go_roundg k1
      case measure => have:=HK1.out;omega
      case rel => exact ⟨_,rfl,H',⟨by have:=HK1.out;omega⟩,HB⟩
     ·obtain rfl : x = r:=by simpa using H
      clear H
      go_wp2_with (refine HC.out.mono ?_;rintro e w6 ⟨rfl,hb⟩;clear HB;have HB:=aMk hb;clear hb)
      go_ret
      exact ⟨rfl,HB.out⟩
    ·rw [if_neg c3] at H
     exact absurd H (by simp)
   ·rw [if_neg c2] at H
    have c2b0 : decide (x < (l0.length : Int)) = false:=decide_eq_false c2
    clear c2
    obtain rfl:=Option.some.inj H
    go_wp2
    go_ret
    exact ⟨eRf,HB.out⟩
end
section
-- IMPORT Derived.Laws.BitsLemmas
-- IMPORT Derived.OpenShut
theorem wrap_id {n : Int} (h0 : -9223372036854775808 ≤ n) (h1 : n ≤ 9223372036854775807) : wrap64 n = n:=by
 unfold wrap64;omega
end
section
def fst_T71 (q : S71 → Bool) (l : List S71) : Nat → Int → Int
 | 0,_ => -1
 | d + 1,i => if q (rd_T71 l i) = true then i else fst_T71 q l d (i + 1)
def any_T71 (q : S71 → Bool) (l : List S71) : Nat → Int → Bool
 | 0,_ => false
 | d + 1,i => q (rd_T71 l i) || any_T71 q l d (i + 1)
theorem fst_any_T71 (q : S71 → Bool) (l : List S71) : ∀ (d : Nat) (i : Int),0 ≤ i → decide (0 ≤ fst_T71 q l d i) = any_T71 q l d i
 | 0,i,_ => by simp [fst_T71,any_T71]
 | d + 1,i,h => by
  rw [fst_T71,any_T71]
  cases e : q (rd_T71 l i)
  ·rw [if_neg (by simp),fst_any_T71 q l d (i + 1) (by omega),Bool.false_or]
  ·rw [if_pos rfl,decide_eq_true h,Bool.true_or]
theorem idxP71_ev (q : S71 → Bool) (l : List S71) (hx : (l.length : Int) ≤ 1152921504606846976) (p : S71 → Option Bool) (hp : ∀ x,p x = some (q x)) : ∀ (d : Nat) (i : Int),0 ≤ i → (l.length : Int) - i = d → ∀ k,d + 1 ≤ k → idxP71 p l k i = some (fst_T71 q l d i)
 | 0,i,h0,hd,k,hk => by
  obtain ⟨k,rfl⟩ : ∃ z,k = z + 1:=⟨k - 1,by omega⟩
  rw [idxP71,if_neg (by omega)];rfl
 | d + 1,i,h0,hd,k,hk => by
  obtain ⟨k,rfl⟩ : ∃ z,k = z + 1:=⟨k - 1,by omega⟩
  rw [idxP71,if_pos (by omega),if_pos h0,hp,Option.bind_some,fst_T71,wrap_id (by omega) (by omega),idxP71_ev q l hx p hp d (i + 1) (by omega) (by omega) k (by omega)]
  cases q (rd_T71 l i) <;> simp
theorem idxP71_evr (q : S71 → Bool) (l : List S71) (hx : (l.length : Int) ≤ 1152921504606846976) (p : S71 → Option Bool) : ∀ (d : Nat) (i : Int),0 ≤ i → (l.length : Int) - i = d → (∀ j : Int,i ≤ j → j < l.length → p (rd_T71 l j) = some (q (rd_T71 l j))) → ∀ k,d + 1 ≤ k → idxP71 p l k i = some (fst_T71 q l d i)
 | 0,i,h0,hd,hp,k,hk => by
  obtain ⟨k,rfl⟩ : ∃ z,k = z + 1:=⟨k - 1,by omega⟩
  rw [idxP71,if_neg (by omega)];rfl
 | d + 1,i,h0,hd,hp,k,hk => by
  obtain ⟨k,rfl⟩ : ∃ z,k = z + 1:=⟨k - 1,by omega⟩
  rw [idxP71,if_pos (by omega),if_pos h0,hp i (by omega) (by omega),Option.bind_some,fst_T71,wrap_id (by omega) (by omega),idxP71_evr q l hx p d (i + 1) (by omega) (by omega) (fun j h1 h2 => hp j (by omega) h2) k (by omega)]
  cases q (rd_T71 l i) <;> simp
end
section
/-! ### impl_Flow_116: function 116 -/
-- IMPORT Derived.Shelf.SlicesE.DeleteFunc
-- IMPORT Derived.Lib.OwnBridge
-- USES 107 100
open Go.Sort (Holds putRow putCells mapBlock onCells) 
open Go.Lib (lay lay_get? putRow_setCells KeptInv keptUpTo)
theorem clear_cells {P : Program} (w : World) (t e ty : TypeId) (z : Value) (ht : P.underlying t = some (.slice e)) (hv : ∀ w,(zeroValue e).run P w = .ok z w) (h1 : ∀ v ∈ z.cells.toList,v.oneCell' = true) (b o n c : Nat) (hn : 0 < n)
  (hc : ∀ j,j < n * z.cells.size → (w.cell? ⟨b,o + j,none⟩).isSome = true) (hf : ∀ j,j < n * z.cells.size → w.frozen? ⟨b,o + j,none⟩ = false) :
  (Builtin.clear_ #[t] ty #[.slice (some ⟨b,o,none⟩) n c]).run P w = .ok (.tuple #[]) (w.setCells b o (Builtin.zeroCells z.cells n).toList):=by
 have hlen : (Builtin.zeroCells z.cells n).toList.length = n * z.cells.size:=by simp [Builtin.zeroCells]
 have hst:=run_storeCells_cells (P:=P) b o (Builtin.zeroCells z.cells n).toList 0 w (by simpa [hlen] using hc) (by simpa [hlen] using hf) (by
  intro v hv'
  simp only [Builtin.zeroCells,Array.toList_map,List.mem_map,Array.toList_range,List.mem_range] at hv'
  obtain ⟨i,hi,rfl⟩:=hv'
  have hp : 0 < z.cells.size:=Nat.pos_of_ne_zero (fun e => by rw [e] at hi;omega)
  have hm : i % z.cells.size < z.cells.size:=Nat.mod_lt _ hp
  rw [getElem!_pos z.cells _ hm]
  exact h1 _ (by simp))
 simp only [Nat.add_zero] at hst
 obtain ⟨m,rfl⟩ : ∃ m,n = m + 1:=⟨n - 1,by omega⟩
 simp [Builtin.clear_,run_underlying ht,hv,hst]
/-- The cells of a row of elements. -/
def flatC {α : Type} (enc : α → List Value) (l : List α) : List Value:=l.flatMap enc
theorem flatC_length {α : Type} {enc : α → List Value} {s : Nat} (he : ∀ x,(enc x).length = s) : ∀ l : List α,(flatC enc l).length = l.length * s
 | [] => by simp [flatC]
 | x :: l => by
  have:=flatC_length he l
  rw [flatC] at this ⊢
  rw [List.flatMap_cons,List.length_append,he,this,List.length_cons,Nat.add_mul,Nat.one_mul,Nat.add_comm]
theorem flatC_append {α : Type} (enc : α → List Value) (l m : List α) : flatC enc (l ++ m) = flatC enc l ++ flatC enc m:=List.flatMap_append
theorem flatC_at {α : Type} {enc : α → List Value} {s : Nat} (he : ∀ x,(enc x).length = s) (l : List α) (j c : Nat) (hj : j < l.length) (hc : c < s) : (flatC enc l)[j * s + c]? = (enc l[j])[c]?:=by
 have hsp : l = l.take j ++ l[j] :: l.drop (j + 1):=by rw [← List.drop_eq_getElem_cons hj,List.take_append_drop]
 have hl : (flatC enc (l.take j)).length = j * s:=by rw [flatC_length he,List.length_take,Nat.min_eq_left (by omega)]
 have h2 : flatC enc l = flatC enc (l.take j) ++ (enc l[j] ++ flatC enc (l.drop (j + 1))):=by
  conv => lhs;rw [hsp,flatC_append]
  rfl
 rw [h2,List.getElem?_append_right (by omega),hl,show j * s + c - j * s = c by omega,List.getElem?_append_left (by rw [he];exact hc)]
theorem lay_cells {α : Type} {enc : α → List Value} {s : Nat} (he : ∀ x,(enc x).length = s) (l : List α) (i : Nat) (u : α) (hi : i < l.length) : lay (flatC enc l).toArray (i * s) (enc u) = (flatC enc (l.set i u)).toArray:=by
 have h1 : (i + 1) * s ≤ l.length * s:=Nat.mul_le_mul_right s hi
 rw [Nat.add_mul,Nat.one_mul] at h1
 have hsz:=flatC_length he l
 apply Array.ext_getElem?
 intro j
 rw [lay_get? _ _ _ _ (by rw [he,List.size_toArray,hsz];exact h1),he,List.getElem?_toArray,List.getElem?_toArray]
 rcases Nat.lt_or_ge j (l.length * s) with hj | hj
 ·have hs : 0 < s:=Nat.pos_of_ne_zero (fun e => by rw [e] at hj;omega)
  have hq : j / s < l.length:=(Nat.div_lt_iff_lt_mul hs).2 hj
  have hc : j % s < s:=Nat.mod_lt _ hs
  have hje : j = j / s * s + j % s:=by rw [Nat.mul_comm];exact (Nat.div_add_mod j s).symm
  have hL:=flatC_at he l (j / s) (j % s) hq hc
  have hR:=flatC_at he (l.set i u) (j / s) (j % s) (by rw [List.length_set];exact hq) hc
  rw [← hje] at hL hR
  rw [hR,hL,List.getElem_set]
  by_cases hqi : i = j / s
  ·rw [if_pos hqi,if_pos ⟨by rw [hqi];omega,by rw [hqi];omega⟩]
   congr 1
   rw [hqi];omega
  ·rw [if_neg hqi,if_neg]
   rintro ⟨h2,h3⟩
   apply hqi
   have a1 : i ≤ j / s:=(Nat.le_div_iff_mul_le hs).2 h2
   have a2 : j / s < i + 1:=(Nat.div_lt_iff_lt_mul hs).2 (by rw [Nat.add_mul,Nat.one_mul];exact h3)
   omega
 ·rw [if_neg (by omega),List.getElem?_eq_none (by omega),List.getElem?_eq_none (by rw [flatC_length he,List.length_set];omega)]
def enc71 (x : S71) : List Value:=[.int .i64 x.f0,.string x.f1,.int .i64 x.f2,.int .i64 x.f3,.int .i64 x.f4,.int .i64 x.f5,.int .i64 x.f6,.int .i64 x.f7,.int .i64 x.f8]
theorem enc71_len (x : S71) : (enc71 x).length = 9:=rfl
instance : Inhabited S71:=⟨z71⟩
structure RowIs (W : World) (blk cap : Nat) (D : List S71) : Prop where
 ex : ∃ cur : Array Value,W.heap[blk]? = some (.cells cur 71 (0,0)) ∧ cur.size = cap * 9 ∧ cur.toList.take (D.length * 9) = flatC enc71 D
theorem RowIs.cell {W : World} {blk cap : Nat} {D : List S71} (h : RowIs W blk cap D) (j c : Nat) (hj : j < D.length) (hc : c < 9) : W.cell? ⟨blk,j * 9 + c,none⟩ = (enc71 D[j])[c]?:=by
 obtain ⟨cur,h1,h2,h3⟩:=h.ex
 rw [bCe h1,← flatC_at enc71_len D j c hj hc,← h3,List.getElem?_take,if_pos (by omega),Array.getElem?_toList]
theorem RowIs.below {W W' : World} {blk cap : Nat} {D : List S71} (h : RowIs W blk cap D) (hb : Below W.heap.size W W') : RowIs W' blk cap D:=by
 obtain ⟨cur,h1,h2,h3⟩:=h.ex
 exact ⟨cur,blk_below h1 hb,h2,h3⟩
theorem RowIs.frozen {W : World} {blk cap : Nat} {D : List S71} (h : RowIs W blk cap D) (i : Nat) : W.frozen? ⟨blk,i,none⟩ = false:=by
 obtain ⟨cur,h1,h2,h3⟩:=h.ex
 exact bFr h1 i
theorem RowIs.lt {W : World} {blk cap : Nat} {D : List S71} (h : RowIs W blk cap D) : blk < W.heap.size:=by
 obtain ⟨cur,h1,h2,h3⟩:=h.ex
 exact blk_lt h1
theorem RowIs.put {W : World} {blk cap : Nat} {D : List S71} (h : RowIs W blk cap D) (hcap : D.length ≤ cap) (i : Nat) (hi : i < D.length) (u : S71) : RowIs (((((((((W.setCell ⟨blk,i * 9,none⟩ (.int .i64 u.f0)).setCell ⟨blk,i * 9 + 1,none⟩ (.string u.f1)).setCell ⟨blk,i * 9 + 2,none⟩ (.int .i64 u.f2)).setCell ⟨blk,i * 9 + 3,none⟩ (.int .i64 u.f3)).setCell ⟨blk,i * 9 + 4,none⟩ (.int .i64 u.f4)).setCell ⟨blk,i * 9 + 5,none⟩ (.int .i64 u.f5)).setCell ⟨blk,i * 9 + 6,none⟩ (.int .i64 u.f6)).setCell ⟨blk,i * 9 + 7,none⟩ (.int .i64 u.f7)).setCell ⟨blk,i * 9 + 8,none⟩ (.int .i64 u.f8)) blk cap (D.set i u):=by
 obtain ⟨cur,h1,h2,h3⟩:=h.ex
 have hD:=flatC_length enc71_len D
 have hDs:=flatC_length enc71_len (D.set i u)
 rw [List.length_set] at hDs
 have hin : i * 9 + 9 ≤ cur.size:=by omega
 refine ⟨lay cur (i * 9) (enc71 u),(blk_put (blk_put (blk_put (blk_put (blk_put (blk_put (blk_put (blk_put (blk_put h1 (i * 9) (.int .i64 u.f0) rfl) (i * 9 + 1) (.string u.f1) rfl) (i * 9 + 2) (.int .i64 u.f2) rfl) (i * 9 + 3) (.int .i64 u.f3) rfl) (i * 9 + 4) (.int .i64 u.f4) rfl) (i * 9 + 5) (.int .i64 u.f5) rfl) (i * 9 + 6) (.int .i64 u.f6) rfl) (i * 9 + 7) (.int .i64 u.f7) rfl) (i * 9 + 8) (.int .i64 u.f8) rfl),?_,?_⟩
 ·simp only [enc71,lay,Array.size_setIfInBounds];exact h2
 ·rw [List.length_set]
  apply List.ext_getElem?
  intro j
  have hL:=congrArg (fun a : Array Value => a[j]?) (lay_cells enc71_len D i u hi)
  simp only [List.getElem?_toArray] at hL
  rw [← hL,lay_get? _ _ _ _ (by rw [enc71_len,List.size_toArray,hD];omega),List.getElem?_take,Array.getElem?_toList,lay_get? _ _ _ _ (by rw [enc71_len];exact hin),enc71_len,List.getElem?_toArray]
  by_cases hj : j < D.length * 9
  ·rw [if_pos hj]
   have h4 : cur.toList[j]? = (flatC enc71 D).toArray[j]?:=by rw [List.getElem?_toArray,← h3,List.getElem?_take,if_pos hj]
   rw [h4]
  ·rw [if_neg hj,if_neg (by omega),List.getElem?_toArray,List.getElem?_eq_none (by omega)]
theorem flatC_take (D : List S71) (i : Nat) (h : i ≤ D.length) : (flatC enc71 D).take (i * 9) = flatC enc71 (D.take i):=by
 conv => lhs;rw [← List.take_append_drop i D,flatC_append]
 exact List.take_left' (by rw [flatC_length enc71_len,List.length_take,Nat.min_eq_left h])
theorem RowIs.cut {W : World} {blk cap : Nat} {D : List S71} (h : RowIs W blk cap D) (hcap : D.length ≤ cap) (i : Nat) (hi : i ≤ D.length) (xs : List Value) (hx : xs.length = (D.length - i) * 9) : RowIs (W.setCells blk (i * 9) xs) blk cap (D.take i):=by
 obtain ⟨cur,h1,h2,h3⟩:=h.ex
 obtain ⟨cur',e1,e2,e3⟩:=setCells_row xs (i * 9) W cur h1 (by omega)
 refine ⟨cur',e1,by omega,?_⟩
 rw [List.length_take,Nat.min_eq_left hi,e3,List.append_assoc,List.take_left' (by rw [List.length_take,Array.length_toList];omega),← flatC_take D i hi,← h3,List.take_take,Nat.min_eq_left (by omega)]
structure KB (w W : World) (g : Nat) : Prop where
 keep : KeepBut w W g none
 bel : Below g w W
 le : g ≤ W.heap.size
theorem KB.refl {w : World} {g : Nat} (h : g < w.heap.size) : KB w w g:=⟨KeepBut.refl _ _ _,Below.refl _ _,Nat.le_of_lt h⟩
theorem KB.step {w W W2 : World} {g : Nat} (h : KB w W g) (k : Below W.heap.size W W2) : KB w W2 g:=⟨h.keep.trans (KeepBut.of_below k g none) (.inl rfl),below_then h.bel h.le k,Nat.le_trans h.le k.size⟩
theorem KB.set_ {w W : World} {g : Nat} (h : KB w W g) (j : Nat) (u : Value) : KB w (W.setCell ⟨g,j,none⟩ u) g:=⟨h.keep.set_ j u,h.bel.setCell (Nat.le_refl g) _,by simpa [World.setCell] using h.le⟩
theorem KB.sets {g : Nat} : ∀ (vs : List Value) (o : Nat) {w W : World},KB w W g → KB w (W.setCells g o vs) g
 | [],_,_,_,h => h
 | u :: vs,o,_,_,h => KB.sets vs (o + 1) (h.set_ o u)
theorem kept_take {kp : Nat → Bool} {d dk : Array S71} {i : Nat} (h : KeptInv kp d d.size i dk) : dk.toList.take i = keptUpTo kp d d.size:=by
 have hl:=h.len
 have hs:=h.size
 have hlt:=h.lt
 apply List.ext_getElem?
 intro j
 by_cases hj : j < i
 ·rw [List.getElem?_take,if_pos hj,h.low j hj,Array.getElem?_toList,getElem!_pos dk j (by omega),Array.getElem?_eq_getElem]
 ·rw [List.getElem?_take,if_neg hj,List.getElem?_eq_none (by omega)]
set_option maxHeartbeats 4000000 in
set_option maxRecDepth 100000 in
theorem del71 (g : FuncId) (lb : Array Value) (eg : ∀ args w,(callFunc g args).run Try.prog w = .ok (.enter g args) w) (p : S71 → Bool) (blk cap : Nat) (l : List S71) (w : World)
  (hp : ∀ (W : World) (x : S71),KeepBut w W blk none → Calls Try.prog g (#[.agg #[.int .i64 x.f0,.string x.f1,.int .i64 x.f2,.int .i64 x.f3,.int .i64 x.f4,.int .i64 x.f5,.int .i64 x.f6,.int .i64 x.f7,.int .i64 x.f8]] ++ lb) W fun e w' => e = .returned (.bool (p x)) ∧ Below W.heap.size W w')
  (hr : RowIs w blk cap l) (hln : l.length ≤ cap) (hcm : cap ≤ 9223372036854775807)
  (k0 : Nat) (hk0 : k0 < l.length) (hall : ∀ j,j < k0 → p l.toArray[j]! = false) (hhit : p l.toArray[k0]! = true) (hix : Calls Try.prog 107 #[.slice (some ⟨blk,0,none⟩) l.length cap,.func (.func g) #[] lb] w fun e w' => e = .returned (.int .i64 k0) ∧ Below w.heap.size w w') :
  Calls Try.prog 116 #[.slice (some ⟨blk,0,none⟩) l.length cap,.func (.func g) #[] lb] w fun e w' => e = .returned (.slice (some ⟨blk,0,none⟩) (l.filter fun x => !p x).length cap) ∧ KB w w' blk ∧ RowIs w' blk cap (l.filter fun x => !p x):=by
 have hne1 : ((k0 : Int) == -1) = false:=beq_eq_false_iff_ne.2 (by omega)
 go_enter Try.func116,Try.ntmps116
 go_wp2_with (go_at_call 107;refine hix.mono ?_;rintro e w1 ⟨rfl,hb0⟩)
 go_loopg [5,6,7] l.length (fun gg s5 s6 _ wr => ∃ (i j : Nat) (dk : Array S71),s5 = .int .i64 i ∧ s6 = .int .i64 j ∧ j ≤ l.length ∧ l.length - j ≤ gg ∧ KB w wr blk ∧ RowIs wr blk cap dk.toList ∧ Aside0 (KeptInv (fun j => !p l.toArray[j]!) l.toArray j i dk))
 case atStart =>
  have hR1:=hr.below hb0
  refine ⟨k0,k0 + 1,l.toArray,rfl,by go_num,by omega,by omega,(KB.refl hr.lt).step hb0,hR1,⟨KeptInv.start (fun j hj => ?_) ?_⟩⟩
  ·show (!p l.toArray[j]!) = true
   rw [hall j hj];rfl
  ·show (!p l.toArray[k0]!) = false
   rw [hhit];rfl
 case round =>
  obtain ⟨i,j,dk,rfl,rfl,hjd,hgg,hK,hR,hI⟩:=hrel
  by_cases hlt : j < l.length
  ·have hltz : (j : Int) < (l.length : Int):=by omega
   have hjs : j < dk.toList.length:=by have:=hI.out.size;simp at this ⊢;omega
   obtain ⟨u,hu⟩ : ∃ u,dk.toList[j] = u:=⟨_,rfl⟩
   have hc : ∀ c,c < 9 → wr.cell? ⟨blk,j * 9 + c,none⟩ = (enc71 u)[c]?:=fun c h => by rw [← hu];exact hR.cell j c hjs h
   have h0 : wr.cell? ⟨blk,j * 9,none⟩ = some (.int .i64 u.f0):=hc 0 (by decide)
   have h1 : wr.cell? ⟨blk,j * 9 + 1,none⟩ = some (.string u.f1):=hc 1 (by decide)
   have h2 : wr.cell? ⟨blk,j * 9 + 2,none⟩ = some (.int .i64 u.f2):=hc 2 (by decide)
   have h3 : wr.cell? ⟨blk,j * 9 + 3,none⟩ = some (.int .i64 u.f3):=hc 3 (by decide)
   have h4 : wr.cell? ⟨blk,j * 9 + 4,none⟩ = some (.int .i64 u.f4):=hc 4 (by decide)
   have h5 : wr.cell? ⟨blk,j * 9 + 5,none⟩ = some (.int .i64 u.f5):=hc 5 (by decide)
   have h6 : wr.cell? ⟨blk,j * 9 + 6,none⟩ = some (.int .i64 u.f6):=hc 6 (by decide)
   have h7 : wr.cell? ⟨blk,j * 9 + 7,none⟩ = some (.int .i64 u.f7):=hc 7 (by decide)
   have h8 : wr.cell? ⟨blk,j * 9 + 8,none⟩ = some (.int .i64 u.f8):=hc 8 (by decide)
   have HK:=aMk hK
   have HR:=aMk hR
   clear hc hK hR
   have HP:=aMk hp
   clear hp
   obtain ⟨bx,hbx⟩ : ∃ bx,bx = (#[.int .i64 u.f0,.string u.f1,.int .i64 u.f2,.int .i64 u.f3,.int .i64 u.f4,.int .i64 u.f5,.int .i64 u.f6,.int .i64 u.f7,.int .i64 u.f8] : Array Value):=⟨_,rfl⟩
   cases hq : p u with
   | true =>
    go_wp2_with (first|(go_at_fn g;refine (HP.out _ u (keep_alloc HK.out.keep _)).mono ?_;rintro e w2 ⟨rfl,hb⟩;rw [hq]))
    have hb1:=(bwA (Below.refl wr.heap.size wr) (.cells #[.int .i64 u.f0,.string u.f1,.int .i64 u.f2,.int .i64 u.f3,.int .i64 u.f4,.int .i64 u.f5,.int .i64 u.f6,.int .i64 u.f7,.int .i64 u.f8] 71 (0,0)))
    have hb2:=below_step hb1 hb
    go_roundg (l.length - (j + 1))
    case measure => omega
    case rel =>
     refine ⟨i,j + 1,dk,rfl,by go_num,by omega,Nat.le_refl _,HK.out.step hb2,HR.out.below hb2,⟨hI.out.skip ?_⟩⟩
     have hs:=hI.out.size
     have hh:=hI.out.high j (by have:=hI.out.lt;omega)
     have hu2 : dk[j]! = u:=by rw [getElem!_pos dk j (by simpa using hjs)];exact hu
     show (!p l.toArray[j]!) = false
     rw [← hh,hu2,hq];rfl
   | false =>
    have hij:=hI.out.lt
    have his : i < dk.toList.length:=by omega
    obtain ⟨o,ho⟩ : ∃ o,dk.toList[i] = o:=⟨_,rfl⟩
    go_wp2_with (first|(
     go_at_fn g
     refine (HP.out _ u (keep_alloc HK.out.keep _)).mono ?_
     rintro e w2 ⟨rfl,hb⟩
     rw [hq]
     have hR2:=(HR.out.below (bwA (Below.refl _ wr) _)).below hb
     have hfr:=hR2.frozen
     have hbk:=blk_below (blk_new wr (.cells #[.int .i64 u.f0,.string u.f1,.int .i64 u.f2,.int .i64 u.f3,.int .i64 u.f4,.int .i64 u.f5,.int .i64 u.f6,.int .i64 u.f7,.int .i64 u.f8] 71 (0,0))) hb
     have v0 : w2.cell? ⟨wr.heap.size,0,none⟩ = some (.int .i64 u.f0):=(bCe hbk 0).trans rfl
     have v1 : w2.cell? ⟨wr.heap.size,1,none⟩ = some (.string u.f1):=(bCe hbk 1).trans rfl
     have v2 : w2.cell? ⟨wr.heap.size,2,none⟩ = some (.int .i64 u.f2):=(bCe hbk 2).trans rfl
     have v3 : w2.cell? ⟨wr.heap.size,3,none⟩ = some (.int .i64 u.f3):=(bCe hbk 3).trans rfl
     have v4 : w2.cell? ⟨wr.heap.size,4,none⟩ = some (.int .i64 u.f4):=(bCe hbk 4).trans rfl
     have v5 : w2.cell? ⟨wr.heap.size,5,none⟩ = some (.int .i64 u.f5):=(bCe hbk 5).trans rfl
     have v6 : w2.cell? ⟨wr.heap.size,6,none⟩ = some (.int .i64 u.f6):=(bCe hbk 6).trans rfl
     have v7 : w2.cell? ⟨wr.heap.size,7,none⟩ = some (.int .i64 u.f7):=(bCe hbk 7).trans rfl
     have v8 : w2.cell? ⟨wr.heap.size,8,none⟩ = some (.int .i64 u.f8):=(bCe hbk 8).trans rfl
     have i0 : w2.cell? ⟨blk,i * 9,none⟩ = some (.int .i64 o.f0):=by have h_:=hR2.cell i 0 his (by decide);rw [ho] at h_;exact h_
     have i1 : w2.cell? ⟨blk,i * 9 + 1,none⟩ = some (.string o.f1):=by have h_:=hR2.cell i 1 his (by decide);rw [ho] at h_;exact h_
     have i2 : w2.cell? ⟨blk,i * 9 + 2,none⟩ = some (.int .i64 o.f2):=by have h_:=hR2.cell i 2 his (by decide);rw [ho] at h_;exact h_
     have i3 : w2.cell? ⟨blk,i * 9 + 3,none⟩ = some (.int .i64 o.f3):=by have h_:=hR2.cell i 3 his (by decide);rw [ho] at h_;exact h_
     have i4 : w2.cell? ⟨blk,i * 9 + 4,none⟩ = some (.int .i64 o.f4):=by have h_:=hR2.cell i 4 his (by decide);rw [ho] at h_;exact h_
     have i5 : w2.cell? ⟨blk,i * 9 + 5,none⟩ = some (.int .i64 o.f5):=by have h_:=hR2.cell i 5 his (by decide);rw [ho] at h_;exact h_
     have i6 : w2.cell? ⟨blk,i * 9 + 6,none⟩ = some (.int .i64 o.f6):=by have h_:=hR2.cell i 6 his (by decide);rw [ho] at h_;exact h_
     have i7 : w2.cell? ⟨blk,i * 9 + 7,none⟩ = some (.int .i64 o.f7):=by have h_:=hR2.cell i 7 his (by decide);rw [ho] at h_;exact h_
     have i8 : w2.cell? ⟨blk,i * 9 + 8,none⟩ = some (.int .i64 o.f8):=by have h_:=hR2.cell i 8 his (by decide);rw [ho] at h_;exact h_
     have f0 : w2.frozen? ⟨blk,i * 9,none⟩ = false:=hR2.frozen _
     have f1 : w2.frozen? ⟨blk,i * 9 + 1,none⟩ = false:=hR2.frozen _
     have f2 : w2.frozen? ⟨blk,i * 9 + 2,none⟩ = false:=hR2.frozen _
     have f3 : w2.frozen? ⟨blk,i * 9 + 3,none⟩ = false:=hR2.frozen _
     have f4 : w2.frozen? ⟨blk,i * 9 + 4,none⟩ = false:=hR2.frozen _
     have f5 : w2.frozen? ⟨blk,i * 9 + 5,none⟩ = false:=hR2.frozen _
     have f6 : w2.frozen? ⟨blk,i * 9 + 6,none⟩ = false:=hR2.frozen _
     have f7 : w2.frozen? ⟨blk,i * 9 + 7,none⟩ = false:=hR2.frozen _
     have f8 : w2.frozen? ⟨blk,i * 9 + 8,none⟩ = false:=hR2.frozen _
     clear hfr))
    have hb1:=(bwA (Below.refl wr.heap.size wr) (.cells #[.int .i64 u.f0,.string u.f1,.int .i64 u.f2,.int .i64 u.f3,.int .i64 u.f4,.int .i64 u.f5,.int .i64 u.f6,.int .i64 u.f7,.int .i64 u.f8] 71 (0,0)))
    have hb2:=below_step hb1 hb
    have hK2:=HK.out.step hb2
    go_roundg (l.length - (j + 1))
    case measure => omega
    case rel =>
     refine ⟨i + 1,j + 1,dk.setIfInBounds i u,by go_num,by go_num,by omega,Nat.le_refl _,?_,?_,⟨?_⟩⟩
     ·exact (((((((((hK2.set_ _ _).set_ _ _).set_ _ _).set_ _ _).set_ _ _).set_ _ _).set_ _ _).set_ _ _).set_ _ _)
     ·rw [Array.toList_setIfInBounds]
      exact hR2.put (by have:=hI.out.size;simp at this ⊢;omega) i his u
     ·have hh:=hI.out.high j (by omega)
      have hu2 : dk[j]! = u:=by rw [getElem!_pos dk j (by simpa using hjs)];exact hu
      have hk:=hI.out.keep (m:=j) (by simpa using hlt) (show (!p l.toArray[j]!) = true by rw [← hh,hu2,hq];rfl)
      rwa [← hh,hu2] at hk
  ·obtain rfl : j = l.length:=by omega
   have hi:=hI.out.lt
   have hsz:=hI.out.size
   have hn : dk.toList.length = l.length:=by simpa using hsz
   have hltz : ¬ ((l.length : Nat) : Int) < (l.length : Int):=by omega
   have hI2 : KeptInv (fun j => !p l.toArray[j]!) l.toArray l.toArray.size i dk:=by simpa using hI.out
   have hfil : (l.filter fun x => !p x) = keptUpTo (fun j => !p l.toArray[j]!) l.toArray l.toArray.size:=by
    have h_:=Go.Lib.keptUpTo_filter (fun x => !p x) l.toArray
    simpa using h_.symm
   have hlen : (l.filter fun x => !p x).length = i:=by rw [hfil,hI2.len]
   have hcl : ∀ ty,(Builtin.clear_ #[40] ty #[.slice (some ⟨blk,i * 9,none⟩) (l.length - i) (cap - i)]).run Try.prog wr = .ok (.tuple #[]) (wr.setCells blk (i * 9) (Builtin.zeroCells (Value.agg #[.int .i64 0,.string ⟨#[]⟩,.int .i64 0,.int .i64 0,.int .i64 0,.int .i64 0,.int .i64 0,.int .i64 0,.int .i64 0]).cells (l.length - i)).toList):=fun ty => by
    obtain ⟨cur,h1,h2,h3⟩:=hR.ex
    refine clear_cells wr 40 71 ty _ Try.underlying40 Try.zeroValue71 ?_ blk (i * 9) _ _ (by omega) (fun t ht => ?_) (fun t ht => hR.frozen _)
    ·intro v hv
     simp [Value.cells] at hv
     rcases hv with rfl | rfl | rfl <;> rfl
    ·have ht' : t < (l.length - i) * 9:=ht
     rw [bCe h1,Array.getElem?_eq_getElem (by omega)]
     rfl
   have hK':=KB.sets (Builtin.zeroCells (Value.agg #[.int .i64 0,.string ⟨#[]⟩,.int .i64 0,.int .i64 0,.int .i64 0,.int .i64 0,.int .i64 0,.int .i64 0,.int .i64 0]).cells (l.length - i)).toList (i * 9) hK
   have hR':=hR.cut (by omega) i (by omega) (Builtin.zeroCells (Value.agg #[.int .i64 0,.string ⟨#[]⟩,.int .i64 0,.int .i64 0,.int .i64 0,.int .i64 0,.int .i64 0,.int .i64 0,.int .i64 0]).cells (l.length - i)).toList (by rw [hn];simp [Builtin.zeroCells,Value.cells])
   rw [kept_take hI2,← hfil] at hR'
   have HF:=aMk (And.intro hK' hR')
   clear hK' hR' hK hR hI2 hfil
   go_wp2
   go_ret
   first
    | exact ⟨rfl,HF.out⟩
    | exact ⟨by rw [hlen];rfl,HF.out⟩
set_option maxHeartbeats 4000000 in
set_option maxRecDepth 100000 in
theorem del71_none (g : FuncId) (lb : Array Value) (A : Option Addr) (n cap : Nat) (w : World)
  (hix : Calls Try.prog 107 #[.slice A n cap,.func (.func g) #[] lb] w fun e w' => e = .returned (.int .i64 (-1)) ∧ Below w.heap.size w w') :
  Calls Try.prog 116 #[.slice A n cap,.func (.func g) #[] lb] w fun e w' => e = .returned (.slice A n cap) ∧ Below w.heap.size w w':=by
 go_enter Try.func116,Try.ntmps116
 go_wp2_with (go_at_call 107;refine hix.mono ?_;rintro e w1 ⟨rfl,hb0⟩)
 go_ret
 exact ⟨rfl,hb0⟩

theorem enc71_reps {R : S71 → List Value → Prop} (hR : ∀ x cs,R x cs → cs = enc71 x) {l : List S71} {cs : List Value} (h : Reps R 9 l cs) : cs = flatC enc71 l:=by
 apply List.ext_getElem?
 intro i
 have h1:=h.1
 have hf:=flatC_length enc71_len l
 rcases Nat.lt_or_ge i (l.length * 9) with hi | hi
 ·have hq : i / 9 < l.length:=by omega
  have hc:=h.2 (i / 9) l[i / 9] (List.getElem?_eq_getElem hq)
  have he:=congrArg (fun z => z[i % 9]?) (hR _ _ hc)
  simp only [List.getElem?_take,List.getElem?_drop] at he
  rw [if_pos (by omega),← flatC_at enc71_len l (i / 9) (i % 9) hq (by omega),show i / 9 * 9 + i % 9 = i by omega] at he
  exact he
 ·rw [List.getElem?_eq_none (by omega),List.getElem?_eq_none (by omega)]
theorem reps_enc71 {R : S71 → List Value → Prop} (hR : ∀ x,R x (enc71 x)) (l : List S71) : Reps R 9 l (flatC enc71 l):=by
 refine ⟨flatC_length enc71_len l,fun j p hj => ?_⟩
 obtain ⟨hlt,rfl⟩:=List.getElem?_eq_some_iff.1 hj
 have e : ((flatC enc71 l).drop (j * 9)).take 9 = enc71 l[j]:=by
  apply List.ext_getElem?
  intro c
  rw [List.getElem?_take]
  by_cases hc : c < 9
  ·rw [if_pos hc,List.getElem?_drop,flatC_at enc71_len l j c hlt hc]
  ·rw [if_neg hc,List.getElem?_eq_none (by rw [enc71_len];omega)]
 rw [e]
 exact hR _
theorem RowIs.of_R {w : World} {base : Nat} {ok : Nat → Prop} {v : Value} {l : List S71} (h : Kd.R k71 71 w base ok v l) (hn : 0 < l.length) :
  ∃ g cap,v = .slice (some ⟨g,0,none⟩) l.length cap ∧ base ≤ g ∧ RowIs w g cap l ∧ l.length ≤ cap ∧ cap ≤ 9223372036854775807 ∧ ok g:=by
 obtain ⟨h0,inner,ho,hr⟩:=h
 have hi:=enc71_reps (fun x cs hx => k71_openM hx) hr
 rcases ho.2 with ⟨_,e0⟩ | ⟨g,cap,cur,rfl,hb,hg,hnc,hm,hs,ht⟩
 ·omega
 ·refine ⟨g,cap,rfl,hb,⟨cur,hg,hs,?_⟩,hnc,?_,h0 g rfl⟩
  ·rw [← hi];exact ht
  ·simpa [maxLen] using hm
theorem RowIs.toR {w : World} {base g cap : Nat} {ok : Nat → Prop} {l : List S71} (h : RowIs w g cap l) (hb : base ≤ g) (hc : l.length ≤ cap) (hm : cap ≤ 9223372036854775807) (hok : ok g) :
  Kd.R k71 71 w base ok (.slice (some ⟨g,0,none⟩) l.length cap) l:=by
 obtain ⟨cur,h1,h2,h3⟩:=h.ex
 refine ⟨fun k hk => ?_,flatC enc71 l,⟨flatC_length enc71_len l,.inr ⟨g,cap,cur,rfl,hb,h1,hc,by simpa [maxLen] using hm,h2,h3⟩⟩,reps_enc71 (fun x => k71_mkM _ _ _ x) l⟩
 obtain rfl : g = k:=by simpa [Value.ownBlock] using hk
 exact hok
theorem rd71_at (l : List S71) (j : Nat) : rd_T71 l (j : Int) = l.toArray[j]!:=by
 rw [rd_T71,Int.toNat_natCast,List.getD_eq_getElem?_getD]
 rcases Nat.lt_or_ge j l.length with h | h
 ·rw [List.getElem?_eq_getElem h,getElem!_pos l.toArray j (by simpa using h)];simp
 ·rw [List.getElem?_eq_none h,getElem!_neg l.toArray j (by simpa using h)];rfl
theorem fst71_split (q : S71 → Bool) (l : List S71) : ∀ (d i : Nat),l.length = i + d →
  (fst_T71 q l d i = -1 ∧ ∀ j,i ≤ j → j < l.length → q l.toArray[j]! = false) ∨ ∃ k : Nat,i ≤ k ∧ k < l.length ∧ fst_T71 q l d i = (k : Int) ∧ q l.toArray[k]! = true ∧ ∀ j,i ≤ j → j < k → q l.toArray[j]! = false
 | 0,i,h => .inl ⟨rfl,fun j h1 h2 => by omega⟩
 | d + 1,i,h => by
  rw [fst_T71,rd71_at]
  cases hq : q l.toArray[i]! with
  | true => exact .inr ⟨i,Nat.le_refl _,by omega,by simp,hq,fun j h1 h2 => by omega⟩
  | false =>
   rw [if_neg (by decide),show ((i : Int) + 1) = ((i + 1 : Nat) : Int) by omega]
   rcases fst71_split q l d (i + 1) (by omega) with ⟨e,ha⟩ | ⟨k,h1,h2,e,ht,ha⟩
   ·refine .inl ⟨e,fun j h1 h2 => ?_⟩
    rcases Nat.eq_or_lt_of_le h1 with rfl | h3
    ·exact hq
    ·exact ha j h3 h2
   ·refine .inr ⟨k,by omega,h2,e,ht,fun j h3 h4 => ?_⟩
    rcases Nat.eq_or_lt_of_le h3 with rfl | h5
    ·exact hq
    ·exact ha j h5 h4
theorem filter71_all (q : S71 → Bool) (l : List S71) (h : ∀ j,j < l.length → q l.toArray[j]! = false) : (l.filter fun x => !q x) = l:=by
 rw [List.filter_eq_self]
 intro x hx
 obtain ⟨j,hj,rfl⟩:=List.getElem_of_mem hx
 have:=h j hj
 rw [getElem!_pos l.toArray j (by simpa using hj)] at this
 simpa using this
theorem delFlow (g : FuncId) (lb : Array Value) (eg : ∀ args w,(callFunc g args).run Try.prog w = .ok (.enter g args) w) (p : S71 → Bool) (v : Value) (l : List S71) (base : Nat) (w : World)
  (hR : Kd.R k71 71 w base (fun _ => True) v l) (hbw : base ≤ w.heap.size) (hlen : l.length ≤ 1152921504606846976)
  (hp : ∀ (W : World) (x : S71),(∀ k,k < base → W.heap[k]? = w.heap[k]?) → Calls Try.prog g (#[.agg #[.int .i64 x.f0,.string x.f1,.int .i64 x.f2,.int .i64 x.f3,.int .i64 x.f4,.int .i64 x.f5,.int .i64 x.f6,.int .i64 x.f7,.int .i64 x.f8]] ++ lb) W fun e w' => e = .returned (.bool (p x)) ∧ Below W.heap.size W w') :
  Calls Try.prog 116 #[v,.func (.func g) #[] lb] w fun e w' => ∃ v0_ : Value,e = .returned v0_ ∧ Kd.R k71 71 w' base (fun _ => True) v0_ (l.filter fun x => !p x) ∧ Below base w w':=by
 obtain ⟨A,c,rfl⟩:=Kd.R_slice hR
 have hev:=idxP71_ev p l (by omega) (fun x => some (p x)) (fun _ => rfl) l.length 0 (by omega) (by omega) (l.length + 1) (Nat.le_refl _)
 have hix:=indexFunc71 g lb eg (fun x => some (p x)) (l.length + 1) A c l _ w (fun W x b hb hx => by
  obtain rfl:=Option.some.inj hx
  exact (hp W x (fun k hk => hb.block k (by omega))).mono fun e w' hh => ⟨hh.1,below_step hb hh.2⟩) (Kd.R_reads' hR).2.2 hev
 have hsp:=fst71_split p l l.length 0 (by omega)
 rw [show ((0 : Nat) : Int) = 0 from rfl] at hsp
 rcases hsp with ⟨e0,hall⟩ | ⟨k0,_,hk0,e0,hhit,hall⟩
 ·rw [e0] at hix
  refine (del71_none g lb A l.length c w hix).mono ?_
  rintro e w' ⟨rfl,hb⟩
  refine ⟨_,rfl,?_,hb.os,hb.tape,hb.output,hb.size,fun k hk => hb.block k (by omega)⟩
  rw [filter71_all p l (fun j hj => hall j (Nat.zero_le _) hj)]
  exact Kd.R_below hR hb
 ·rw [e0] at hix
  obtain ⟨blk,cap,e1,hbb,hrow,hlc,hcm,_⟩:=RowIs.of_R hR (by omega)
  injection e1 with e1 _ e2
  subst e1;subst e2
  refine (del71 g lb eg p blk c l w (fun W x hk => hp W x (fun k hk1 => hk.2 k (by omega) (by omega) (by simp))) hrow hlc hcm k0 hk0 (fun j hj => hall j (Nat.zero_le _) hj) hhit hix).mono ?_
  rintro e w' ⟨rfl,hkb,hr'⟩
  refine ⟨_,rfl,hr'.toR hbb (Nat.le_trans (List.length_filter_le _ _) hlc) hcm trivial,?_⟩
  exact ⟨hkb.bel.os,hkb.bel.tape,hkb.bel.output,hkb.bel.size,fun k hk => hkb.bel.block k (by omega)⟩
theorem clone_len71 {l y : List S71} (h : impl_Flow_100.f l = some y) : y.length ≤ 1152921504606846976:=by
 simp only [impl_Flow_100.f,Option.bind_some,List.nil_append,List.length_nil] at h
 split at h
 ·obtain rfl:=Option.some.inj h;omega
 ·cases h
end
section
/-! ### impl_Flow_119: function 119 -/
-- IMPORT Derived.Deep.RegionLaw
-- USES 116
open Go.Lib
theorem flatC_drop (D : List S71) (i : Nat) (h : i ≤ D.length) : (flatC enc71 D).drop (i * 9) = flatC enc71 (D.drop i):=by
 conv => lhs;rw [← List.take_append_drop i D,flatC_append]
 exact List.drop_left' (by rw [flatC_length enc71_len,List.length_take,Nat.min_eq_left h])
theorem RowIs.sets {W : World} {blk cap : Nat} {D : List S71} (h : RowIs W blk cap D) (hcap : D.length ≤ cap) (i : Nat) (us : List S71) (hi : i + us.length ≤ D.length) : RowIs (W.setCells blk (i * 9) (flatC enc71 us)) blk cap (D.take i ++ us ++ D.drop (i + us.length)):=by
 obtain ⟨cur,h1,h2,h3⟩:=h.ex
 have hu:=flatC_length enc71_len us
 obtain ⟨cur',e1,e2,e3⟩:=setCells_row (flatC enc71 us) (i * 9) W cur h1 (by omega)
 refine ⟨cur',e1,by omega,?_⟩
 have hlen : (D.take i ++ us ++ D.drop (i + us.length)).length = D.length:=by simp;omega
 rw [hlen,e3,flatC_append,flatC_append,← flatC_take D i (by omega),← flatC_drop D (i + us.length) hi,← h3,hu]
 apply List.ext_getElem?
 intro j
 have hl1 : (cur.toList.take (i * 9)).length = i * 9:=by rw [List.length_take,Array.length_toList];omega
 have hl2 : ((cur.toList.take (D.length * 9)).take (i * 9)).length = i * 9:=by rw [List.length_take,List.length_take,Array.length_toList (xs:=cur)];omega
 rw [List.getElem?_take]
 rcases Nat.lt_or_ge j (i * 9) with hj | hj
 ·rw [if_pos (by omega),List.getElem?_append_left (by rw [List.length_append,hl1];omega),List.getElem?_append_left (by rw [hl1];omega),List.getElem?_append_left (by rw [List.length_append,hl2];omega),List.getElem?_append_left (by rw [hl2];omega),List.getElem?_take,List.getElem?_take,List.getElem?_take,if_pos hj,if_pos hj,if_pos (by omega)]
 rcases Nat.lt_or_ge j ((i + us.length) * 9) with hj2 | hj2
 ·rw [if_pos (by omega),List.getElem?_append_left (by rw [List.length_append,hl1,hu];omega),List.getElem?_append_right (by rw [hl1];omega),List.getElem?_append_left (by rw [List.length_append,hl2,hu];omega),List.getElem?_append_right (by rw [hl2];omega),hl1,hl2]
 ·rw [List.getElem?_append_right (by rw [List.length_append,hl1,hu];omega),List.getElem?_append_right (by rw [List.length_append,hl2,hu];omega),List.length_append,List.length_append,hl1,hl2,hu,List.getElem?_drop,List.getElem?_drop,List.getElem?_take]
  rw [show i * 9 + us.length * 9 + (j - (i * 9 + us.length * 9)) = j by omega,show (i + us.length) * 9 + (j - (i * 9 + us.length * 9)) = j by omega]
set_option maxHeartbeats 4000000 in
set_option maxRecDepth 1000000 in
theorem delAt71 (blk cap : Nat) (l : List S71) (i j : Nat) (hj1 : j = i + 1) (w : World) (hi : i < l.length) (hr : RowIs w blk cap l) (hln : l.length ≤ cap) (hcm : cap ≤ 9223372036854775807) :
  Calls Try.prog 119 #[.slice (some ⟨blk,0,none⟩) l.length cap,.int .i64 i,.int .i64 (j : Nat)] w fun e w' => e = .returned (.slice (some ⟨blk,0,none⟩) (l.length - 1) cap) ∧ KB w w' blk ∧ RowIs w' blk cap (l.eraseIdx i):=by
 obtain ⟨i0,hi0,hz9⟩ : ∃ i0,Try.prog.info? 71 = some i0 ∧ i0.size = 9:=by
  obtain ⟨i0,h0,h1⟩:=Option.map_eq_some_iff.1 info71
  exact ⟨i0,h0,by injection h1 with _ h2;injection h2⟩
 obtain ⟨news,hnews⟩ : ∃ news,news = flatC enc71 (l.drop j):=⟨_,rfl⟩
 have hlen : news.length = (l.length - j) * 9:=by rw [hnews,flatC_length enc71_len,List.length_drop]
 obtain ⟨A,hA,hsrc⟩ : ∃ A : Addr,(if cap = j then (some (⟨blk,0,none⟩ : Addr)) else some ⟨blk,j * 9,none⟩) = some A ∧ Hid (∀ t u,news[t]? = some u → w.drew.cell? (A.add t) = some u):=by
  by_cases h : cap = j
  ·refine ⟨⟨blk,0,none⟩,by simp [h],fun t u hu => ?_⟩
   have h0 : news.length = 0:=by rw [hlen];omega
   rw [List.length_eq_zero_iff.1 h0] at hu
   simp at hu
  ·refine ⟨⟨blk,j * 9,none⟩,by simp [h],fun t u hu => ?_⟩
   have ht : t < (l.length - j) * 9:=by
    have:=(List.getElem?_eq_some_iff.1 hu).1
    rwa [hlen] at this
   have hq : t / 9 < l.length - j:=by omega
   have e1:=flatC_at enc71_len (l.drop j) (t / 9) (t % 9) (by rw [List.length_drop];exact hq) (by omega)
   rw [show t / 9 * 9 + t % 9 = t by omega,← hnews,hu] at e1
   have e2:=hr.cell (j + t / 9) (t % 9) (by omega) (by omega)
   rw [Addr.add_lit,show j * 9 + t = (j + t / 9) * 9 + t % 9 by omega]
   show w.cell? _ = _
   rw [e2,e1]
   congr 2
   rw [List.getElem_drop]
 have s2 : Hid (∀ u ∈ news,u.oneCell' = true):=by
  intro u hu
  rw [hnews] at hu
  obtain ⟨x,_,hx⟩:=List.mem_flatMap.1 hu
  simp [enc71] at hx
  rcases hx with rfl | rfl | rfl | rfl | rfl | rfl | rfl | rfl | rfl <;> rfl
 have s3 : Hid (∀ t,t < news.length → (w.drew.cell? ⟨blk,0 + i * 9 + t,none⟩).isSome = true ∧ w.drew.frozen? ⟨blk,0 + i * 9 + t,none⟩ = false):=by
  intro t ht
  rw [hlen] at ht
  have e2:=hr.cell (i + t / 9) (t % 9) (by omega) (by omega)
  refine ⟨?_,hr.frozen _⟩
  show (w.cell? _).isSome = true
  rw [show 0 + i * 9 + t = (i + t / 9) * 9 + t % 9 by omega,e2,List.getElem?_eq_getElem (by rw [enc71_len];omega)]
  rfl
 obtain ⟨W1,hW1⟩ : ∃ W1,W1 = w.drew.setCells blk (0 + i * 9) news:=⟨_,rfl⟩
 have hrd : RowIs w.drew blk cap l:=⟨hr.ex⟩
 have hR1:=hrd.sets hln i (l.drop j) (by rw [List.length_drop];omega)
 rw [← hnews,← Nat.zero_add (i * 9),← hW1] at hR1
 obtain ⟨L1,hL1⟩ : ∃ L1,L1 = l.take i ++ l.drop j ++ l.drop (i + (l.drop j).length):=⟨_,rfl⟩
 rw [← hL1] at hR1
 have hl1 : L1.length = l.length:=by rw [hL1];simp;omega
 have hK1 : KB w W1 blk:=by
  rw [hW1]
  exact KB.sets news (0 + i * 9) ((KB.refl hr.lt).step (below_drew (Below.refl _ _)))
 have hcl : ∀ ty,(Builtin.clear_ #[40] ty #[.slice (some ⟨blk,(l.length - 1) * 9,none⟩) (l.length - (l.length - 1)) (cap - (l.length - 1))]).run Try.prog W1 = .ok (.tuple #[]) (W1.setCells blk ((l.length - 1) * 9) (Builtin.zeroCells (Value.agg #[.int .i64 0,.string ⟨#[]⟩,.int .i64 0,.int .i64 0,.int .i64 0,.int .i64 0,.int .i64 0,.int .i64 0,.int .i64 0]).cells (l.length - (l.length - 1))).toList):=fun ty => by
  obtain ⟨cur,h1,h2,h3⟩:=hR1.ex
  refine clear_cells W1 40 71 ty _ Try.underlying40 Try.zeroValue71 ?_ blk ((l.length - 1) * 9) _ _ (by omega) (fun t ht => ?_) (fun t ht => hR1.frozen _)
  ·intro v hv
   simp [Value.cells] at hv
   rcases hv with rfl | rfl | rfl <;> rfl
  ·have ht' : t < (l.length - (l.length - 1)) * 9:=ht
   rw [bCe h1,Array.getElem?_eq_getElem (by omega)]
   rfl
 have hK':=KB.sets (Builtin.zeroCells (Value.agg #[.int .i64 0,.string ⟨#[]⟩,.int .i64 0,.int .i64 0,.int .i64 0,.int .i64 0,.int .i64 0,.int .i64 0,.int .i64 0]).cells (l.length - (l.length - 1))).toList ((l.length - 1) * 9) hK1
 have hR':=hR1.cut (by omega) (l.length - 1) (by omega) (Builtin.zeroCells (Value.agg #[.int .i64 0,.string ⟨#[]⟩,.int .i64 0,.int .i64 0,.int .i64 0,.int .i64 0,.int .i64 0,.int .i64 0,.int .i64 0]).cells (l.length - (l.length - 1))).toList (by rw [hl1];simp [Builtin.zeroCells,Value.cells])
 have hE : L1.take (l.length - 1) = l.eraseIdx i:=by
  rw [hL1,List.take_left' (by simp;omega),List.eraseIdx_eq_take_drop_succ,hj1]
 rw [hE] at hR'
 have HF:=aMk (And.intro hK' hR')
 have hW : Hid (W1 = w.drew.setCells blk (0 + i * 9) news):=hW1
 have s1 : Hid (news.length = (l.length - j) * 9):=hlen
 have hic : i ≤ cap:=by omega
 have hjc : j ≤ cap:=by omega
 have hij : ((i : Int) == ((j : Nat) : Int)) = false:=beq_eq_false_iff_ne.2 (by omega)
 have hrm : i + (l.length - j) ≤ cap:=by omega
 have hpl : i + (l.length - j) = l.length - 1:=by omega
 have hl0 : 1 ≤ l.length:=by omega
 have mixed : Try.prog.follows .mixedOrders = true:=by kernel_rfl
 have hjl : j ≤ l.length:=by omega
 have HJ:=aMk hj1
 clear hj1
 clear hE hR' hK' hK1 hR1 hl1 hL1 hrd hW1 hlen hnews hr
 go_enter Try.func119,Try.ntmps119
 go_wp2_with fail
 go_region_law_o (refine step_append_room rfl (.tmp 22) (.tmp 25) 40 rfl 71 i0 9 Try.underlying40 hi0 hz9 blk 0 i cap (by simp [Act.eval,Act.put]) A (l.length - j) (cap - j) news (by simp [Act.eval,Act.put]) s1.out hsrc.out s2.out (by omega) s3.out ?_;rw [← hW.out])
 go_wp2
 go_ret
 exact ⟨rfl,HF.out⟩
def impl_Flow_119.f (l0 : List S71) (a1 : Int) (a2 : Int) : Option (List S71):=if 0 ≤ a1 ∧ a1 < (l0.length : Int) ∧ a2 = a1 + 1 ∧ l0.length ≤ 1152921504606846976 then some (l0.eraseIdx a1.toNat) else none
theorem impl_Flow_119.calls (P0_ : Nat → Prop) (u9000_ : Value) (l0 : List S71) (a1 : Int) (a2 : Int) (r : List S71) (w0 w : World) (hB : Below w0.heap.size w0 w) (ho0 : Kd.R k71 71 w w0.heap.size P0_ u9000_ l0) (h : impl_Flow_119.f l0 a1 a2 = some r) :
  Calls Try.prog 119 #[u9000_,.int .i64 a1,.int .i64 a2] w fun e w' => ∃ v0_ : Value,e = .returned (v0_) ∧ Kd.R k71 71 w' w0.heap.size (fun k_ => (P0_ k_ ∨ w.heap.size ≤ k_)) v0_ r ∧ Below w0.heap.size w0 w' ∧ Kept w w' (fun k_ => P0_ k_):=by
 rw [impl_Flow_119.f] at h
 by_cases hc : 0 ≤ a1 ∧ a1 < (l0.length : Int) ∧ a2 = a1 + 1 ∧ l0.length ≤ 1152921504606846976
 ·rw [if_pos hc] at h
  obtain rfl:=Option.some.inj h
  obtain ⟨h1,h2,rfl,h4⟩:=hc
  obtain ⟨i,rfl⟩ : ∃ i : Nat,a1 = (i : Int):=⟨a1.toNat,by omega⟩
  obtain ⟨blk,cap,rfl,hbb,hrow,hlc,hcm,hok⟩:=RowIs.of_R ho0 (by omega)
  have hi : i < l0.length:=by omega
  refine (delAt71 blk cap l0 i (i + 1) rfl w hi hrow hlc hcm).mono ?_
  rintro e w' ⟨rfl,hk,hr⟩
  have hle : (l0.eraseIdx i).length = l0.length - 1:=by rw [List.length_eraseIdx,if_pos hi]
  rw [Int.toNat_natCast,← hle]
  refine ⟨_,rfl,hr.toR hbb (by omega) hcm (.inl hok),⟨hk.bel.os.trans hB.os,hk.bel.tape.trans hB.tape,hk.bel.output.trans hB.output,Nat.le_trans hB.size hk.bel.size,fun k hk1 => (hk.bel.block k (by omega)).trans (hB.block k hk1)⟩,hk.keep.1,fun j hj hn => hk.keep.2 j hj (fun e => hn (e ▸ hok)) (by simp)⟩
 ·rw [if_neg hc] at h
  cases h
end
section
/-! ### impl_flowWait: function 67 -/
def impl_flowWait.f (a0 : Int) (a1 : Int) : Option (Int):=if a0 = 6 then (if a1 = 2 then (some 30) else (some 3)) else (some 5)
set_option maxHeartbeats 8000000 in
set_option maxRecDepth 100000 in
theorem impl_flowWait.calls (a0 : Int) (a1 : Int) (r : Int) (w : World) (h : impl_flowWait.f a0 a1 = some r) :
  Calls Try.prog 67 #[.int .i64 a0,.int .i64 a1] w fun e w' => e = .returned (.int .i64 r) ∧ Drawn0 w w':=by
 have H : (if a0 = 6 then (if a1 = 2 then (some 30) else (some 3)) else (some 5)) = some r:=h
 clear h
 by_cases c3 : a0 = 6
 ·rw [if_pos c3] at H
  have c3b0 : (a0 == 6) = true:=beq_iff_eq.mpr c3
  have c3b1 : (a0 != 6) = false:=bne_eq_false_iff_eq.mpr c3
  clear c3
  by_cases c4 : a1 = 2
  ·rw [if_pos c4] at H
   have c4b0 : (a1 == 2) = true:=beq_iff_eq.mpr c4
   have c4b1 : (a1 != 2) = false:=bne_eq_false_iff_eq.mpr c4
   clear c4
   obtain rfl:=Option.some.inj H
   go_enter Try.func67,Try.ntmps67
   go_wp2
   go_ret
   exact ⟨by first | rfl|(simp;done)|(simp [*];done)|(simp [ne_nil_b];done)|(simp [ne_nil_b, *];done),by repeat (first|exact Drawn0.refl _|apply Drawn0.step)⟩
  ·rw [if_neg c4] at H
   have c4b0 : (a1 == 2) = false:=beq_eq_false_iff_ne.mpr c4
   have c4b1 : (a1 != 2) = true:=bne_iff_ne.mpr c4
   obtain rfl:=Option.some.inj H
   go_enter Try.func67,Try.ntmps67
   go_wp2
   go_ret
   exact ⟨by first | rfl|(simp;done)|(simp [*];done)|(simp [ne_nil_b];done)|(simp [ne_nil_b, *];done),by repeat (first|exact Drawn0.refl _|apply Drawn0.step)⟩
 ·rw [if_neg c3] at H
  have c3b0 : (a0 == 6) = false:=beq_eq_false_iff_ne.mpr c3
  have c3b1 : (a0 != 6) = true:=bne_iff_ne.mpr c3
  obtain rfl:=Option.some.inj H
  go_enter Try.func67,Try.ntmps67
  go_wp2
  go_ret
  exact ⟨by first | rfl|(simp;done)|(simp [*];done)|(simp [ne_nil_b];done)|(simp [ne_nil_b, *];done),by repeat (first|exact Drawn0.refl _|apply Drawn0.step)⟩
end
section
/-! ### impl_flowPass: function 102 -/
mutual
def impl_flowPass.j0 : Nat → List (S71) → Int → Int → Int → Bool → Option ((List (S71)))
 | 0,_,_,_,_,_ => none
 | k + 1,x0,x1,x3,x4,x22 => if x22 = true then (if 0 ≤ x1 then (if x1 < (x0.length : Int) then (impl_flowPass.j1 k (x0.set (x1 : Int).toNat (⟨(rd_T71 x0 x1).f0,(rd_T71 x0 x1).f1,(rd_T71 x0 x1).f2,(rd_T71 x0 x1).f3,(rd_T71 x0 x1).f4,(rd_T71 x0 x1).f5,2,(rd_T71 x0 x1).f7,(rd_T71 x0 x1).f8⟩ : S71)) x1 x3 x4) else (none)) else (none)) else (impl_flowPass.j1 k x0 x1 x3 x4)
def impl_flowPass.j1 : Nat → List (S71) → Int → Int → Int → Option ((List (S71)))
 | 0,_,_,_,_ => none
 | k + 1,x0,x1,x3,x4 => if 0 ≤ x1 then (if x1 < (x0.length : Int) then (if ((rd_T71 x0 x1).f0) = 6 then (if (Go.bits .and .i64 x3 4) = 0 then (if (Go.bits .and .i64 x3 1) = 0 then ((impl_flowWait.f ((rd_T71 x0 x1).f0) ((rd_T71 x0 x1).f6)).bind fun t1168 => (some (x0.set (x1 : Int).toNat (⟨(rd_T71 x0 x1).f0,(rd_T71 x0 x1).f1,(rd_T71 x0 x1).f2,(rd_T71 x0 x1).f3,(rd_T71 x0 x1).f4,(rd_T71 x0 x1).f5,(rd_T71 x0 x1).f6,wrap64 (x4 + t1168),(rd_T71 x0 x1).f8⟩ : S71)))) else ((some (x0.set (x1 : Int).toNat (⟨(rd_T71 x0 x1).f0,(rd_T71 x0 x1).f1,(rd_T71 x0 x1).f2,(rd_T71 x0 x1).f3,(rd_T71 x0 x1).f4,(rd_T71 x0 x1).f5,3,(rd_T71 x0 x1).f7,(rd_T71 x0 x1).f8⟩ : S71) : List (S71))).bind fun y1170 => ((impl_flowWait.f ((rd_T71 y1170 x1).f0) ((rd_T71 y1170 x1).f6)).bind fun t1173 => (some (y1170.set (x1 : Int).toNat (⟨(rd_T71 y1170 x1).f0,(rd_T71 y1170 x1).f1,(rd_T71 y1170 x1).f2,(rd_T71 y1170 x1).f3,(rd_T71 y1170 x1).f4,(rd_T71 y1170 x1).f5,(rd_T71 y1170 x1).f6,wrap64 (x4 + t1173),(rd_T71 y1170 x1).f8⟩ : S71)))))) else ((impl_Flow_119.f x0 x1 (wrap64 (x1 + 1))).bind fun t1175 => (some t1175))) else ((impl_flowWait.f ((rd_T71 x0 x1).f0) ((rd_T71 x0 x1).f6)).bind fun t1180 => (some (x0.set (x1 : Int).toNat (⟨(rd_T71 x0 x1).f0,(rd_T71 x0 x1).f1,(rd_T71 x0 x1).f2,(rd_T71 x0 x1).f3,(rd_T71 x0 x1).f4,(rd_T71 x0 x1).f5,(rd_T71 x0 x1).f6,wrap64 (x4 + t1180),(rd_T71 x0 x1).f8⟩ : S71))))) else (none)) else (none)
end
def impl_flowPass.f (k : Nat) (l0 : List (S71)) (a1 : Int) (a2 : Bool) (a3 : Int) (a4 : Int) : Option ((List (S71))):=if 0 ≤ a1 then (if a1 < (l0.length : Int) then (if ((rd_T71 l0 a1).f6) = 1 then (impl_flowPass.j0 k l0 a1 a3 a4 a2) else (impl_flowPass.j0 k l0 a1 a3 a4 false)) else (none)) else (none)
theorem impl_flowPass.mono_l : ∀ k,(∀ y0 y1 y2 y3 y4,LeO (impl_flowPass.j0 k y0 y1 y2 y3 y4) (impl_flowPass.j0 (k + 1) y0 y1 y2 y3 y4)) ∧ (∀ y0 y1 y2 y3,LeO (impl_flowPass.j1 k y0 y1 y2 y3) (impl_flowPass.j1 (k + 1) y0 y1 y2 y3))
 | 0 => ⟨fun _ _ _ _ _ r h => by simp [impl_flowPass.j0] at h,fun _ _ _ _ r h => by simp [impl_flowPass.j1] at h⟩
 | k + 1 => by
  obtain ⟨ih0,ih1⟩:=impl_flowPass.mono_l k
  refine ⟨?_,?_⟩
  ·intro y0 y1 y2 y3 y4
   unfold impl_flowPass.j0
   repeat' first
   | (with_reducible exact ih0 _ _ _ _ _)
   | (with_reducible exact ih1 _ _ _ _)
   | (with_reducible exact LeO.refl _)
   | (with_reducible exact LeO.none _)
   | (with_reducible refine LeO.ite ?_ ?_)
   | (with_reducible refine LeO.bind ?_ (fun _ => ?_))
   | exact ih0 _ _ _ _ _
   | exact ih1 _ _ _ _
   | exact LeO.none _
   | refine LeO.ite ?_ ?_
   | refine LeO.bind ?_ (fun _ => ?_)
  ·intro y0 y1 y2 y3
   unfold impl_flowPass.j1
   repeat' first
   | (with_reducible exact ih0 _ _ _ _ _)
   | (with_reducible exact ih1 _ _ _ _)
   | (with_reducible exact LeO.refl _)
   | (with_reducible exact LeO.none _)
   | (with_reducible refine LeO.ite ?_ ?_)
   | (with_reducible refine LeO.bind ?_ (fun _ => ?_))
   | exact ih0 _ _ _ _ _
   | exact ih1 _ _ _ _
   | exact LeO.none _
   | refine LeO.ite ?_ ?_
   | refine LeO.bind ?_ (fun _ => ?_)
theorem impl_flowPass.mono : ∀ a0 a1 a2 a3 a4 k,LeO (impl_flowPass.f k a0 a1 a2 a3 a4) (impl_flowPass.f (k + 1) a0 a1 a2 a3 a4):=by
 intro a0 a1 a2 a3 a4 k
 obtain ⟨ih0,ih1⟩:=impl_flowPass.mono_l k
 unfold impl_flowPass.f
 repeat' first
   | (with_reducible exact ih0 _ _ _ _ _)
   | (with_reducible exact ih1 _ _ _ _)
   | (with_reducible exact LeO.refl _)
   | (with_reducible exact LeO.none _)
   | (with_reducible refine LeO.ite ?_ ?_)
   | (with_reducible refine LeO.bind ?_ (fun _ => ?_))
   | exact ih0 _ _ _ _ _
   | exact ih1 _ _ _ _
   | exact LeO.none _
   | refine LeO.ite ?_ ?_
   | refine LeO.bind ?_ (fun _ => ?_)
def impl_flowPass.T9 : Bool × List (List Nat × List Nat):=(true,[([],[]),([],[]),([],[]),([2],[2]),([3],[3]),([4],[4]),([],[]),([6],[6]),([7],[7]),([8],[8]),([5,9],[5,9]),([1,10],[1,10]),([0,0,1,2,3,4,5,6,7,8,9,10,11],[0]),([12,0,1,2,3,4,5,6,7,8,9,10,11],[12]),([13,11,10,0,1,2,3,4,5,6,7,8,9,10,11],[11,13])])
def impl_flowPass.B9 : List Nat:=[0,0,0,4,12,28,0,64,192,448,1020,2046,4095,8191,16383]
theorem impl_flowPass.tab9 : rtab .any (opsOf Try.f102 9) = impl_flowPass.T9:=by kernel_rfl
theorem impl_flowPass.bits9 : waitsOk impl_flowPass.T9.2 impl_flowPass.B9 = true:=by kernel_rfl
set_option maxHeartbeats 8000000 in
set_option maxRecDepth 100000 in
theorem impl_flowPass.calls (k : Nat) (P0_ : Nat → Prop) (u9000_ : Value) (l0 : List (S71)) (a1 : Int) (a2 : Bool) (a3 : Int) (a4 : Int) (r : List (S71)) (w0 w : World) (hB : Below w0.heap.size w0 w) (ho0 : Kd.R k71 71 w w0.heap.size P0_ u9000_ l0) (h : impl_flowPass.f k l0 a1 a2 a3 a4 = some r) :
  Calls Try.prog 102 #[u9000_,.int .i64 a1,.bool a2,.int .i64 a3,.int .i64 a4] w fun e w' => ∃ v0_ : Value,e = .returned (v0_) ∧ Kd.R k71 71 w' w0.heap.size (fun k_ => (P0_ k_ ∨ w.heap.size ≤ k_)) v0_ r ∧ Below w0.heap.size w0 w' ∧ Kept w w' (fun k_ => P0_ k_):=by
 have HO0:=aMk (show Kd.R k71 71 w w0.heap.size (fun k_ => (P0_ k_ ∨ w.heap.size ≤ k_)) u9000_ l0 from Kd.R_mono ho0 (fun k_ hk => (.inl hk)))
 have HK:=aMk (Kept.refl w (fun k_ => P0_ k_))
 have HW0:=aMk hB.size
 have HB:=aMk hB
 clear hB
 have H : (if 0 ≤ a1 then (if a1 < (l0.length : Int) then (if ((rd_T71 l0 a1).f6) = 1 then (impl_flowPass.j0 k l0 a1 a3 a4 a2) else (impl_flowPass.j0 k l0 a1 a3 a4 false)) else (none)) else (none)) = some r:=h
 clear h
 by_cases c6 : 0 ≤ a1
 ·rw [if_pos c6] at H
  have c6b0 : decide (0 ≤ a1) = true:=decide_eq_true c6
  clear c6
  by_cases c7 : a1 < (l0.length : Int)
  ·rw [if_pos c7] at H
   have c7b0 : decide (a1 < (l0.length : Int)) = true:=decide_eq_true c7
   clear c7
   have HC8:=aMk H
   clear H
   obtain ⟨Ao9,co9,eo9⟩:=Kd.R_slice HO0.out
   subst eo9
   have p1162 : 0 ≤ (a1 : Int):=of_decide_eq_true (by first|(with_reducible assumption) | assumption)
   have q1162 : a1 < (l0.length : Int):=of_decide_eq_true (by first|(with_reducible assumption) | assumption)
   obtain ⟨ad1162,e1162,hx1162_0,hx1162_1,hx1162_2,hx1162_3,hx1162_4,hx1162_5,hx1162_6,hx1162_7,hx1162_8⟩:=at_T71 (Kd.R_reads' HO0.out).2.2 a1 p1162 q1162
   cases e1162
   replace p1162:=eq_true p1162
   replace q1162:=eq_true q1162
   go_enter Try.func102,Try.ntmps102
   go_upto_region 2 with (fail)
   go_cut [22] (fun v22 wc => ∃ (kq : Nat) (x22_7 : Bool),v22 = .bool x22_7 ∧ Aside0 (impl_flowPass.j0 kq l0 a1 a3 a4 x22_7 = some r) ∧ Aside0 (kq ≤ k) ∧ Aside0 (Kd.R k71 71 wc w0.heap.size (fun k_ => (P0_ k_ ∨ w.heap.size ≤ k_)) (.slice (some ad1162) l0.length co9) l0) ∧ Aside0 (Kept w wc (fun k_ => P0_ k_)) ∧ Aside0 (Below w0.heap.size w0 wc))
   case first =>
    have H:=HC8.out
    clear HC8
    by_cases c10 : ((rd_T71 l0 a1).f6) = 1
    ·rw [if_pos c10] at H
     have c10b0 : (((rd_T71 l0 a1).f6) == 1) = true:=beq_iff_eq.mpr c10
     have c10b1 : (((rd_T71 l0 a1).f6) != 1) = false:=bne_eq_false_iff_eq.mpr c10
     clear c10
     (first|rw [c10b0]|(simp only [i64_w,i32_w];rw [c10b0]) | skip)
     have H':=aMk H
     clear H
     have p1163 : 0 ≤ (a1 : Int):=of_decide_eq_true (by first|(with_reducible assumption) | assumption)
     have q1163 : a1 < (l0.length : Int):=of_decide_eq_true (by first|(with_reducible assumption) | assumption)
     obtain ⟨ad1163,e1163,hx1163_0,hx1163_1,hx1163_2,hx1163_3,hx1163_4,hx1163_5,hx1163_6,hx1163_7,hx1163_8⟩:=at_T71 (Kd.R_reads' HO0.out).2.2 a1 p1163 q1163
     obtain rfl : ad1162 = ad1163:=(by injection e1163)
     replace p1163:=eq_true p1163
     replace q1163:=eq_true q1163
     go_wp2
     go_meet
     case rel => exact ⟨_,(a2),(by first | rfl|(simp;done)|(simp [*];done)|(simp [ne_nil_b];done)|(simp [ne_nil_b, *];done)),H',⟨by first | omega|exact Nat.le_refl _⟩,⟨by (with_reducible repeat (first|apply Kd.R_alloc|apply Kd.R_drewN|apply Kd.R_drew));exact HO0.out⟩,⟨by repeat (first|(with_reducible first|exact HK.out|apply Kept.alloc|apply Kept.drewN|apply Kept.drew)|exact HK.out)⟩,⟨by repeat (first|(with_reducible first|exact HB.out|apply bwA|apply bwN|apply bw1)|exact HB.out)⟩⟩
    ·rw [if_neg c10] at H
     have c10b0 : (((rd_T71 l0 a1).f6) == 1) = false:=beq_eq_false_iff_ne.mpr c10
     have c10b1 : (((rd_T71 l0 a1).f6) != 1) = true:=bne_iff_ne.mpr c10
     (first|rw [c10b0]|(simp only [i64_w,i32_w];rw [c10b0]) | skip)
     have H':=aMk H
     clear H
     have p1163 : 0 ≤ (a1 : Int):=of_decide_eq_true (by first|(with_reducible assumption) | assumption)
     have q1163 : a1 < (l0.length : Int):=of_decide_eq_true (by first|(with_reducible assumption) | assumption)
     obtain ⟨ad1163,e1163,hx1163_0,hx1163_1,hx1163_2,hx1163_3,hx1163_4,hx1163_5,hx1163_6,hx1163_7,hx1163_8⟩:=at_T71 (Kd.R_reads' HO0.out).2.2 a1 p1163 q1163
     obtain rfl : ad1162 = ad1163:=(by injection e1163)
     replace p1163:=eq_true p1163
     replace q1163:=eq_true q1163
     go_wp2
     go_meet
     case rel => exact ⟨_,(false),(by first | rfl|(simp;done)|(simp [*];done)|(simp [ne_nil_b];done)|(simp [ne_nil_b, *];done)),H',⟨by first | omega|exact Nat.le_refl _⟩,⟨by (with_reducible repeat (first|apply Kd.R_alloc|apply Kd.R_drewN|apply Kd.R_drew));exact HO0.out⟩,⟨by repeat (first|(with_reducible first|exact HK.out|apply Kept.alloc|apply Kept.drewN|apply Kept.drew)|exact HK.out)⟩,⟨by repeat (first|(with_reducible first|exact HB.out|apply bwA|apply bwN|apply bw1)|exact HB.out)⟩⟩
   case rest =>
    clear HC8
    try clear c1
    try clear p1
    try clear q1
    try clear hx1
    try clear p2
    try clear c6
    try clear c6b0
    try clear c7
    try clear c7b0
    try clear c10
    try clear c10b0
    try clear c10b1
    try clear hx1162_0
    try clear hx1162_1
    try clear hx1162_2
    try clear hx1162_3
    try clear hx1162_4
    try clear hx1162_5
    try clear hx1162_6
    try clear hx1162_7
    try clear hx1162_8
    try clear hx1163_0
    try clear hx1163_1
    try clear hx1163_2
    try clear hx1163_3
    try clear hx1163_4
    try clear hx1163_5
    try clear hx1163_6
    try clear hx1163_7
    try clear hx1163_8
    try clear p1162
    try clear p1163
    try clear q1162
    try clear q1163
    obtain ⟨kq,x22_7,rfl,HA,HJ7,HO_0,HK,HB⟩:=hcut
    cases kq with
    | zero => exact absurd HA.out (by simp [impl_flowPass.j0])
    | succ kj7 =>
     have H:=HA.out
     clear HA
     simp only [impl_flowPass.j0] at H
     have HC11:=aMk H
     clear H
     go_upto_if 22 with (fail)
     go_cut [] (fun wc => ∃ (kq : Nat) (x0_10 : List (S71)),Aside0 (impl_flowPass.j1 kq x0_10 a1 a3 a4 = some r) ∧ Aside0 (kq ≤ kj7) ∧ Aside0 (Kd.R k71 71 wc w0.heap.size (fun k_ => (P0_ k_ ∨ w.heap.size ≤ k_)) (.slice (some ad1162) l0.length co9) x0_10) ∧ Aside0 (Kept w wc (fun k_ => P0_ k_)) ∧ Aside0 (Below w0.heap.size w0 wc))
     case first =>
      have H:=HC11.out
      clear HC11
      by_cases c12 : x22_7 = true
      ·subst c12
       have H1 : (if 0 ≤ a1 then (if a1 < (l0.length : Int) then (impl_flowPass.j1 kj7 (l0.set (a1 : Int).toNat (⟨(rd_T71 l0 a1).f0,(rd_T71 l0 a1).f1,(rd_T71 l0 a1).f2,(rd_T71 l0 a1).f3,(rd_T71 l0 a1).f4,(rd_T71 l0 a1).f5,2,(rd_T71 l0 a1).f7,(rd_T71 l0 a1).f8⟩ : S71)) a1 a3 a4) else (none)) else (none)) = some r:=by rw [if_pos rfl] at H;exact H
       clear H
       have H:=H1
       clear H1
       by_cases c13 : 0 ≤ a1
       ·rw [if_pos c13] at H
        have c13b0 : decide (0 ≤ a1) = true:=decide_eq_true c13
        clear c13
        (first|rw [c13b0]|(simp only [i64_w,i32_w];rw [c13b0]) | skip)
        by_cases c14 : a1 < (l0.length : Int)
        ·rw [if_pos c14] at H
         have c14b0 : decide (a1 < (l0.length : Int)) = true:=decide_eq_true c14
         clear c14
         obtain ⟨y1164,hy1164⟩ : ∃ y_ : List (S71),y_ = (l0.set (a1 : Int).toNat (⟨(rd_T71 l0 a1).f0,(rd_T71 l0 a1).f1,(rd_T71 l0 a1).f2,(rd_T71 l0 a1).f3,(rd_T71 l0 a1).f4,(rd_T71 l0 a1).f5,2,(rd_T71 l0 a1).f7,(rd_T71 l0 a1).f8⟩ : S71)):=⟨_,rfl⟩
         replace H : (impl_flowPass.j1 kj7 y1164 a1 a3 a4) = some r:=by first|(rw [hy1164];with_reducible exact H)|(have H2_:=(Option.bind_some _ _).symm.trans H;rw [hy1164];with_reducible exact H2_)|(have H2_:=(Option.bind_some _ _).symm.trans H;with_reducible exact H2_) | with_reducible exact H|(rw [hy1164];exact H)|exact H
         have Ny1164:=aMk hy1164
         clear hy1164
         have H':=aMk H
         clear H
         have p15 : 0 ≤ (a1 : Int):=of_decide_eq_true (by first|(with_reducible assumption) | assumption)
         have q15 : (a1 : Int) < ((l0.length : Int) : Int):=of_decide_eq_true (by first|(with_reducible assumption) | assumption)
         obtain ⟨go15,co15,eo15,gb15,gl15,cl15,HG15⟩:=Kd.R_form HO_0.out (by omega)
         (first|cases eo15|(injection eo15 with ea_ en_ ec_;(first|subst ea_|(injection ea_ with ea_;subst ea_));subst ec_;clear en_))
         have GB15:=aMk gb15
         have GG15:=aMk HG15
         clear gb15 gl15 HG15
         have HMgo15:=aMk (show (P0_ go15 ∨ w.heap.size ≤ go15) from (HO_0.out.1 _ rfl))
         (first|simp only [add_plain] at hx1162_0 | skip)
         (first|simp only [add_plain] at hx1162_1 | skip)
         (first|simp only [add_plain] at hx1162_2 | skip)
         (first|simp only [add_plain] at hx1162_3 | skip)
         (first|simp only [add_plain] at hx1162_4 | skip)
         (first|simp only [add_plain] at hx1162_5 | skip)
         (first|simp only [add_plain] at hx1162_6 | skip)
         (first|simp only [add_plain] at hx1162_7 | skip)
         (first|simp only [add_plain] at hx1162_8 | skip)
         (first|simp only [add_plain] at hx1163_0 | skip)
         (first|simp only [add_plain] at hx1163_1 | skip)
         (first|simp only [add_plain] at hx1163_2 | skip)
         (first|simp only [add_plain] at hx1163_3 | skip)
         (first|simp only [add_plain] at hx1163_4 | skip)
         (first|simp only [add_plain] at hx1163_5 | skip)
         (first|simp only [add_plain] at hx1163_6 | skip)
         (first|simp only [add_plain] at hx1163_7 | skip)
         (first|simp only [add_plain] at hx1163_8 | skip)
         obtain ⟨ce15,hcl15,hM15,hcc15,hfr15⟩:=Kd.R_elem HO_0.out z71 (a1 : Int) p15 q15
         obtain rfl:=k71_openM hM15
         have hx15_0 : wc.cell? ⟨go15,(a1 : Int).toNat * 9,none⟩ = some (.int .i64 ((rd_T71 l0 a1).f0)):=hcc15 0 _ rfl
         have hx15_1 : wc.cell? ⟨go15,(a1 : Int).toNat * 9 + 1,none⟩ = some (.string ((rd_T71 l0 a1).f1)):=hcc15 1 _ rfl
         have hx15_2 : wc.cell? ⟨go15,(a1 : Int).toNat * 9 + 2,none⟩ = some (.int .i64 ((rd_T71 l0 a1).f2)):=hcc15 2 _ rfl
         have hx15_3 : wc.cell? ⟨go15,(a1 : Int).toNat * 9 + 3,none⟩ = some (.int .i64 ((rd_T71 l0 a1).f3)):=hcc15 3 _ rfl
         have hx15_4 : wc.cell? ⟨go15,(a1 : Int).toNat * 9 + 4,none⟩ = some (.int .i64 ((rd_T71 l0 a1).f4)):=hcc15 4 _ rfl
         have hx15_5 : wc.cell? ⟨go15,(a1 : Int).toNat * 9 + 5,none⟩ = some (.int .i64 ((rd_T71 l0 a1).f5)):=hcc15 5 _ rfl
         have hx15_6 : wc.cell? ⟨go15,(a1 : Int).toNat * 9 + 6,none⟩ = some (.int .i64 ((rd_T71 l0 a1).f6)):=hcc15 6 _ rfl
         have hx15_7 : wc.cell? ⟨go15,(a1 : Int).toNat * 9 + 7,none⟩ = some (.int .i64 ((rd_T71 l0 a1).f7)):=hcc15 7 _ rfl
         have hx15_8 : wc.cell? ⟨go15,(a1 : Int).toNat * 9 + 8,none⟩ = some (.int .i64 ((rd_T71 l0 a1).f8)):=hcc15 8 _ rfl
         have hf15_0 : wc.frozen? ⟨go15,(a1 : Int).toNat * 9,none⟩ = false:=hfr15 0
         have hf15_1 : wc.frozen? ⟨go15,(a1 : Int).toNat * 9 + 1,none⟩ = false:=hfr15 1
         have hf15_2 : wc.frozen? ⟨go15,(a1 : Int).toNat * 9 + 2,none⟩ = false:=hfr15 2
         have hf15_3 : wc.frozen? ⟨go15,(a1 : Int).toNat * 9 + 3,none⟩ = false:=hfr15 3
         have hf15_4 : wc.frozen? ⟨go15,(a1 : Int).toNat * 9 + 4,none⟩ = false:=hfr15 4
         have hf15_5 : wc.frozen? ⟨go15,(a1 : Int).toNat * 9 + 5,none⟩ = false:=hfr15 5
         have hf15_6 : wc.frozen? ⟨go15,(a1 : Int).toNat * 9 + 6,none⟩ = false:=hfr15 6
         have hf15_7 : wc.frozen? ⟨go15,(a1 : Int).toNat * 9 + 7,none⟩ = false:=hfr15 7
         have hf15_8 : wc.frozen? ⟨go15,(a1 : Int).toNat * 9 + 8,none⟩ = false:=hfr15 8
         clear hcl15 hcc15 hfr15 hM15
         replace p15:=eq_true p15
         replace q15:=eq_true q15
         have HX16:=aMk (show Kd.R k71 71 wc w0.heap.size (fun k_ => (P0_ k_ ∨ w.heap.size ≤ k_)) (.slice (some ⟨go15,0,none⟩) l0.length co9) l0 from (by (with_reducible repeat (first|apply Kd.R_alloc|apply Kd.R_drewN|apply Kd.R_drew));exact HO_0.out))
         obtain ⟨ce16,hcl16,hM16,hcc16,hfr16⟩:=Kd.R_elem HX16.out z71 (a1 : Int) (of_decide_eq_true (by first|(with_reducible assumption) | assumption)) (by have h_ : (a1 : Int) < ((l0.length : Int) : Int):=of_decide_eq_true (by first|(with_reducible assumption) | assumption);first|exact h_|(have e_:=(Kd.R_reads' HO_0.out).1;omega) | simpa using h_)
         obtain rfl:=k71_openM hM16
         have HP16:=Kd.R_seg HX16.out (a1 : Int) (of_decide_eq_true (by first|(with_reducible assumption) | assumption)) (by have h_ : (a1 : Int) < ((l0.length : Int) : Int):=of_decide_eq_true (by first|(with_reducible assumption) | assumption);first|exact h_|(have e_:=(Kd.R_reads' HO_0.out).1;omega) | simpa using h_) (seg:=[.int .i64 2]) (j:=6) hcl16 hcc16 (show 7 ≤ 9 from by decide) (x':=(⟨(rd_T71 l0 a1).f0,(rd_T71 l0 a1).f1,(rd_T71 l0 a1).f2,(rd_T71 l0 a1).f3,(rd_T71 l0 a1).f4,(rd_T71 l0 a1).f5,2,(rd_T71 l0 a1).f7,(rd_T71 l0 a1).f8⟩ : S71)) (k71_mkM _ _ _ (⟨(rd_T71 l0 a1).f0,(rd_T71 l0 a1).f1,(rd_T71 l0 a1).f2,(rd_T71 l0 a1).f3,(rd_T71 l0 a1).f4,(rd_T71 l0 a1).f5,2,(rd_T71 l0 a1).f7,(rd_T71 l0 a1).f8⟩ : S71) ) (fun _ hk => hk)
         have hx16_6:=hcc16 6 _ rfl
         (try simp only [show (k71).sz = 9 from rfl,Nat.mul_one,Nat.add_zero] at hx16_6)
         have hf16_6:=hfr16 6
         (try simp only [show (k71).sz = 9 from rfl,Nat.mul_one,Nat.add_zero] at hf16_6)
         clear hcl16 hcc16 hfr16 hM16
         go_wp2_with (first|((with_reducible refine gate_store (t:=3) (p:=25) rfl ?_);refine store_event (t:=3) (p:=25) (v:=?vo_w17) (w1:=(wc.setCell ⟨go15,(a1 : Int).toNat * 9 + 6,none⟩ (.int .i64 2))) ?hg ?ho ?hn ?hr ?_;(case ho => rfl);(case hg => rfl);(case hn => rfl);(case hr => first|(go_simp;done)|(go_simp;rfl));intro w17 hw;have hg : wc.grownBy w17 (some go15):=(by rw [hw];exact HP16.2);have hp_ : Kd.R k71 71 w17 w0.heap.size (fun k_ => (P0_ k_ ∨ w.heap.size ≤ k_)) (.slice (some ⟨go15,0,none⟩) l0.length co9) y1164:=(by rw [hw,Ny1164.out];exact HP16.1);clear HP16;have n0_:=aMk (hp_);have n1_:=aMk ((by rw [hw];exact below_set (HB.out) GB15.out : Below w0.heap.size w0 w17));have n2_:=aMk (Kept.of_grown (S:=(fun k_ => P0_ k_)) hg (by repeat (first|(with_reducible first|exact HK.out|apply Kept.alloc|apply Kept.drewN|apply Kept.drew)|exact HK.out)) (fun k_ e_ => (HO_0.out.1 k_ e_)));clear HO_0;clear HB;clear HK;have HO_0:=n0_;have HB:=n1_;have HK:=n2_;clear n0_ n1_ n2_;clear hg hw hp_))
         go_meet
         case rel => exact ⟨_,(y1164),H',⟨by have:=HJ7.out;first | omega|exact Nat.le_refl _⟩,⟨by (with_reducible repeat (first|apply Kd.R_alloc|apply Kd.R_drewN|apply Kd.R_drew));exact HO_0.out⟩,⟨by repeat (first|(with_reducible first|exact HK.out|apply Kept.alloc|apply Kept.drewN|apply Kept.drew)|exact HK.out)⟩,⟨by repeat (first|(with_reducible first|exact HB.out|apply bwA|apply bwN|apply bw1)|exact HB.out)⟩⟩
        ·rw [if_neg c14] at H
         exact absurd H (by simp)
       ·rw [if_neg c13] at H
        exact absurd H (by simp)
      ·replace c12:=Bool.eq_false_iff.mpr c12
       subst c12
       have H1 : (impl_flowPass.j1 kj7 l0 a1 a3 a4) = some r:=by rw [if_neg (show ¬ (false = true) by decide)] at H;exact H
       clear H
       have H:=H1
       clear H1
       have H':=aMk H
       clear H
       go_wp2
       go_meet
       case rel => exact ⟨_,(l0),H',⟨by have:=HJ7.out;first | omega|exact Nat.le_refl _⟩,⟨by (with_reducible repeat (first|apply Kd.R_alloc|apply Kd.R_drewN|apply Kd.R_drew));exact HO_0.out⟩,⟨by repeat (first|(with_reducible first|exact HK.out|apply Kept.alloc|apply Kept.drewN|apply Kept.drew)|exact HK.out)⟩,⟨by repeat (first|(with_reducible first|exact HB.out|apply bwA|apply bwN|apply bw1)|exact HB.out)⟩⟩
     case rest =>
      clear HC11
      try clear c1
      try clear p1
      try clear q1
      try clear hx1
      try clear p2
      try clear c6
      try clear c6b0
      try clear c7
      try clear c7b0
      try clear c10
      try clear c10b0
      try clear c10b1
      try clear p11
      try clear q11
      try clear hx11
      try clear c12
      try clear c13
      try clear c13b0
      try clear c14
      try clear c14b0
      try clear c15
      try clear p15
      try clear q15
      try clear hx15
      try clear hf15
      try clear c16
      try clear hx16
      try clear hf16
      try clear hx1162_0
      try clear hx1162_1
      try clear hx1162_2
      try clear hx1162_3
      try clear hx1162_4
      try clear hx1162_5
      try clear hx1162_6
      try clear hx1162_7
      try clear hx1162_8
      try clear hx1163_0
      try clear hx1163_1
      try clear hx1163_2
      try clear hx1163_3
      try clear hx1163_4
      try clear hx1163_5
      try clear hx1163_6
      try clear hx1163_7
      try clear hx1163_8
      try clear hx15_0
      try clear hx15_1
      try clear hx15_2
      try clear hx15_3
      try clear hx15_4
      try clear hx15_5
      try clear hx15_6
      try clear hx15_7
      try clear hx15_8
      try clear hx16_6
      try clear p1
      try clear p1162
      try clear p1163
      try clear p15
      try clear p2
      try clear q1
      try clear q1162
      try clear q1163
      try clear q15
      obtain ⟨kq,x0_10,HA,HJ10,HO_0,HK,HB⟩:=hcut
      have hl0_10:=(Kd.R_reads' HO_0.out).1
      rw [hl0_10] at HO_0
      (try simp only [hl0_10])
      cases kq with
      | zero => exact absurd HA.out (by simp [impl_flowPass.j1])
      | succ kj10 =>
       have H:=HA.out
       clear HA
       simp only [impl_flowPass.j1] at H
       by_cases c18 : 0 ≤ a1
       ·rw [if_pos c18] at H
        have c18b0 : decide (0 ≤ a1) = true:=decide_eq_true c18
        clear c18
        by_cases c19 : a1 < (x0_10.length : Int)
        ·rw [if_pos c19] at H
         have c19b0 : decide (a1 < (x0_10.length : Int)) = true:=decide_eq_true c19
         clear c19
         by_cases c20 : ((rd_T71 x0_10 a1).f0) = 6
         ·rw [if_pos c20] at H
          have c20b0 : (((rd_T71 x0_10 a1).f0) == 6) = true:=beq_iff_eq.mpr c20
          have c20b1 : (((rd_T71 x0_10 a1).f0) != 6) = false:=bne_eq_false_iff_eq.mpr c20
          clear c20
          by_cases c21 : (Go.bits .and .i64 a3 4) = 0
          ·rw [if_pos c21] at H
           have c21b0 : ((Go.bits .and .i64 a3 4) == 0) = true:=beq_iff_eq.mpr c21
           have c21b1 : ((Go.bits .and .i64 a3 4) != 0) = false:=bne_eq_false_iff_eq.mpr c21
           clear c21
           by_cases c22 : (Go.bits .and .i64 a3 1) = 0
           ·rw [if_pos c22] at H
            have c22b0 : ((Go.bits .and .i64 a3 1) == 0) = true:=beq_iff_eq.mpr c22
            have c22b1 : ((Go.bits .and .i64 a3 1) != 0) = false:=bne_eq_false_iff_eq.mpr c22
            clear c22
            replace H:=Option.bind_eq_some_iff.mp H
            obtain ⟨t1168,A230,H⟩:=H
            replace H : (some (x0_10.set (a1 : Int).toNat (⟨(rd_T71 x0_10 a1).f0,(rd_T71 x0_10 a1).f1,(rd_T71 x0_10 a1).f2,(rd_T71 x0_10 a1).f3,(rd_T71 x0_10 a1).f4,(rd_T71 x0_10 a1).f5,(rd_T71 x0_10 a1).f6,wrap64 (a4 + t1168),(rd_T71 x0_10 a1).f8⟩ : S71))) = some r:=H
            have A23:=aMk A230
            clear A230
            obtain ⟨y1169,hy1169⟩ : ∃ y_ : List (S71),y_ = (x0_10.set (a1 : Int).toNat (⟨(rd_T71 x0_10 a1).f0,(rd_T71 x0_10 a1).f1,(rd_T71 x0_10 a1).f2,(rd_T71 x0_10 a1).f3,(rd_T71 x0_10 a1).f4,(rd_T71 x0_10 a1).f5,(rd_T71 x0_10 a1).f6,wrap64 (a4 + t1168),(rd_T71 x0_10 a1).f8⟩ : S71)):=⟨_,rfl⟩
            replace H : (some y1169) = some r:=by first|(rw [hy1169];with_reducible exact H)|(have H2_:=(Option.bind_some _ _).symm.trans H;rw [hy1169];with_reducible exact H2_)|(have H2_:=(Option.bind_some _ _).symm.trans H;with_reducible exact H2_) | with_reducible exact H|(rw [hy1169];exact H)|exact H
            have Ny1169:=aMk hy1169
            clear hy1169
            obtain rfl:=Option.some.inj H
            have p1165 : 0 ≤ (a1 : Int):=of_decide_eq_true (by first|(with_reducible assumption) | assumption)
            have q1165 : a1 < (x0_10.length : Int):=of_decide_eq_true (by first|(with_reducible assumption) | assumption)
            obtain ⟨ad1165,e1165,hx1165_0,hx1165_1,hx1165_2,hx1165_3,hx1165_4,hx1165_5,hx1165_6,hx1165_7,hx1165_8⟩:=at_T71 (Kd.R_reads' HO_0.out).2.2 a1 p1165 q1165
            obtain rfl : ad1162 = ad1165:=(by injection e1165)
            replace p1165:=eq_true p1165
            replace q1165:=eq_true q1165
            try go_wp2
            have n0_:=aMk (Kd.R_drew HO_0.out)
            have n1_:=aMk (Kept.drew HK.out)
            have n2_:=aMk (bw1 HB.out)
            clear HO_0
            clear HK
            clear HB
            have HO_0:=n0_
            have HK:=n1_
            have HB:=n2_
            clear n0_ n1_ n2_
            have p1166 : 0 ≤ (a1 : Int):=of_decide_eq_true (by first|(with_reducible assumption) | assumption)
            have q1166 : a1 < (x0_10.length : Int):=of_decide_eq_true (by first|(with_reducible assumption) | assumption)
            obtain ⟨ad1166,e1166,hx1166_0,hx1166_1,hx1166_2,hx1166_3,hx1166_4,hx1166_5,hx1166_6,hx1166_7,hx1166_8⟩:=at_T71 (Kd.R_reads' HO_0.out).2.2 a1 p1166 q1166
            obtain rfl : ad1162 = ad1166:=(by injection e1166)
            replace p1166:=eq_true p1166
            replace q1166:=eq_true q1166
            have p1167 : 0 ≤ (a1 : Int):=of_decide_eq_true (by first|(with_reducible assumption) | assumption)
            have q1167 : a1 < (x0_10.length : Int):=of_decide_eq_true (by first|(with_reducible assumption) | assumption)
            obtain ⟨ad1167,e1167,hx1167_0,hx1167_1,hx1167_2,hx1167_3,hx1167_4,hx1167_5,hx1167_6,hx1167_7,hx1167_8⟩:=at_T71 (Kd.R_reads' HO_0.out).2.2 a1 p1167 q1167
            obtain rfl : ad1162 = ad1167:=(by injection e1167)
            replace p1167:=eq_true p1167
            replace q1167:=eq_true q1167
            refine start_ (n:=15) (S:=fun w' => w'.cell? (ad1162.add ((a1).toNat * 9)) = some (.int .i64 ((rd_T71 x0_10 a1).f0)) ∧ w'.cell? ⟨(ad1162.add ((a1).toNat * 9)).block,(ad1162.add ((a1).toNat * 9)).off + 1,none⟩ = some (.string ((rd_T71 x0_10 a1).f1)) ∧ w'.cell? ⟨(ad1162.add ((a1).toNat * 9)).block,(ad1162.add ((a1).toNat * 9)).off + 2,none⟩ = some (.int .i64 ((rd_T71 x0_10 a1).f2)) ∧ w'.cell? ⟨(ad1162.add ((a1).toNat * 9)).block,(ad1162.add ((a1).toNat * 9)).off + 3,none⟩ = some (.int .i64 ((rd_T71 x0_10 a1).f3)) ∧ w'.cell? ⟨(ad1162.add ((a1).toNat * 9)).block,(ad1162.add ((a1).toNat * 9)).off + 4,none⟩ = some (.int .i64 ((rd_T71 x0_10 a1).f4)) ∧ w'.cell? ⟨(ad1162.add ((a1).toNat * 9)).block,(ad1162.add ((a1).toNat * 9)).off + 5,none⟩ = some (.int .i64 ((rd_T71 x0_10 a1).f5)) ∧ w'.cell? ⟨(ad1162.add ((a1).toNat * 9)).block,(ad1162.add ((a1).toNat * 9)).off + 6,none⟩ = some (.int .i64 ((rd_T71 x0_10 a1).f6)) ∧ w'.cell? ⟨(ad1162.add ((a1).toNat * 9)).block,(ad1162.add ((a1).toNat * 9)).off + 7,none⟩ = some (.int .i64 ((rd_T71 x0_10 a1).f7)) ∧ w'.cell? ⟨(ad1162.add ((a1).toNat * 9)).block,(ad1162.add ((a1).toNat * 9)).off + 8,none⟩ = some (.int .i64 ((rd_T71 x0_10 a1).f8)) ∧ w'.cell? (ad1162.add ((a1).toNat * 9)) = some (.int .i64 ((rd_T71 x0_10 a1).f0)) ∧ w'.cell? ⟨(ad1162.add ((a1).toNat * 9)).block,(ad1162.add ((a1).toNat * 9)).off + 1,none⟩ = some (.string ((rd_T71 x0_10 a1).f1)) ∧ w'.cell? ⟨(ad1162.add ((a1).toNat * 9)).block,(ad1162.add ((a1).toNat * 9)).off + 2,none⟩ = some (.int .i64 ((rd_T71 x0_10 a1).f2)) ∧ w'.cell? ⟨(ad1162.add ((a1).toNat * 9)).block,(ad1162.add ((a1).toNat * 9)).off + 3,none⟩ = some (.int .i64 ((rd_T71 x0_10 a1).f3)) ∧ w'.cell? ⟨(ad1162.add ((a1).toNat * 9)).block,(ad1162.add ((a1).toNat * 9)).off + 4,none⟩ = some (.int .i64 ((rd_T71 x0_10 a1).f4)) ∧ w'.cell? ⟨(ad1162.add ((a1).toNat * 9)).block,(ad1162.add ((a1).toNat * 9)).off + 5,none⟩ = some (.int .i64 ((rd_T71 x0_10 a1).f5)) ∧ w'.cell? ⟨(ad1162.add ((a1).toNat * 9)).block,(ad1162.add ((a1).toNat * 9)).off + 6,none⟩ = some (.int .i64 ((rd_T71 x0_10 a1).f6)) ∧ w'.cell? ⟨(ad1162.add ((a1).toNat * 9)).block,(ad1162.add ((a1).toNat * 9)).off + 7,none⟩ = some (.int .i64 ((rd_T71 x0_10 a1).f7)) ∧ w'.cell? ⟨(ad1162.add ((a1).toNat * 9)).block,(ad1162.add ((a1).toNat * 9)).off + 8,none⟩ = some (.int .i64 ((rd_T71 x0_10 a1).f8))) (ds:=[14]) #[false,false,false,false,false,false,false,false,false,false,false,false,false,false,false] (by kernel_rfl) rfl rfl ⟨hx1166_0,hx1166_1,hx1166_2,hx1166_3,hx1166_4,hx1166_5,hx1166_6,hx1166_7,hx1166_8,hx1167_0,hx1167_1,hx1167_2,hx1167_3,hx1167_4,hx1167_5,hx1167_6,hx1167_7,hx1167_8⟩ (fun hHeld => ?_);refine with_tabW impl_flowPass.tab9 impl_flowPass.bits9 (fun HT_ HW_ => ?_)
            generalize wc.drew = w25 at HO_0 HK HB hx1166_0 hx1166_1 hx1166_2 hx1166_3 hx1166_4 hx1166_5 hx1166_6 hx1166_7 hx1166_8 hx1167_0 hx1167_1 hx1167_2 hx1167_3 hx1167_4 hx1167_5 hx1167_6 hx1167_7 hx1167_8 hHeld ⊢
            refine pure_ (i:=0) (N:=some 45) (v:=?_) (a':=?_) #[true,false,false,false,false,false,false,false,false,false,false,false,false,false,false] rfl rfl (any_of HT_.out (by kernel_rfl)) (fun _ _ _ h => h) (Or.inl ⟨by rfl,?_⟩) ?_ ?_
            rotate_left
            ·intro w'
             go_simp
             with_reducible rfl
            rotate_left
            ·simp only [Act.put,List.setIfInBounds_toArray,List.set_cons_zero,List.set_cons_succ,i64_w,i32_w]
             rfl
            refine pure_ (i:=1) (N:=some 46) (v:=?_) (a':=?_) #[true,true,false,false,false,false,false,false,false,false,false,false,false,false,false] rfl rfl (any_of HT_.out (by kernel_rfl)) (fun _ _ _ h => h) (Or.inl ⟨by rfl,?_⟩) ?_ ?_
            rotate_left
            ·intro w'
             go_simp
             with_reducible rfl
            rotate_left
            ·simp only [Act.put,List.setIfInBounds_toArray,List.set_cons_zero,List.set_cons_succ,i64_w,i32_w]
             rfl
            refine pure_ (i:=2) (N:=some 47) (v:=?_) (a':=?_) #[true,true,true,false,false,false,false,false,false,false,false,false,false,false,false] rfl rfl (any_of HT_.out (by kernel_rfl)) (fun _ _ _ h => h) (Or.inl ⟨by rfl,?_⟩) ?_ ?_
            rotate_left
            ·intro w'
             go_simp
             with_reducible rfl
            rotate_left
            ·simp only [Act.put,List.setIfInBounds_toArray,List.set_cons_zero,List.set_cons_succ,i64_w,i32_w]
             rfl
            refine pure_ (i:=3) (N:=some 48) (v:=?_) (a':=?_) #[true,true,true,true,false,false,false,false,false,false,false,false,false,false,false] rfl rfl (any_of HT_.out (by kernel_rfl)) (fun _ _ _ h => h) (Or.inl ⟨by rfl,?_⟩) ?_ ?_
            rotate_left
            ·intro w'
             go_simp
             with_reducible rfl
            rotate_left
            ·simp only [Act.put,List.setIfInBounds_toArray,List.set_cons_zero,List.set_cons_succ,i64_w,i32_w]
             rfl
            refine pure_ (i:=4) (N:=some 49) (v:=?_) (a':=?_) #[true,true,true,true,true,false,false,false,false,false,false,false,false,false,false] rfl rfl (any_of HT_.out (by kernel_rfl)) (fun _ _ _ h => h) (Or.inl ⟨by rfl,?_⟩) ?_ ?_
            rotate_left
            ·intro w'
             go_simp
             with_reducible rfl
            rotate_left
            ·simp only [Act.put,List.setIfInBounds_toArray,List.set_cons_zero,List.set_cons_succ,i64_w,i32_w]
             rfl
            refine pure_ (i:=6) (N:=some 51) (v:=?_) (a':=?_) #[true,true,true,true,true,false,true,false,false,false,false,false,false,false,false] rfl rfl (any_of HT_.out (by kernel_rfl)) (fun _ _ _ h => h) (Or.inl ⟨by rfl,?_⟩) ?_ ?_
            rotate_left
            ·intro w'
             go_simp
             with_reducible rfl
            rotate_left
            ·simp only [Act.put,List.setIfInBounds_toArray,List.set_cons_zero,List.set_cons_succ,i64_w,i32_w]
             rfl
            refine pure_ (i:=7) (N:=some 52) (v:=?_) (a':=?_) #[true,true,true,true,true,false,true,true,false,false,false,false,false,false,false] rfl rfl (any_of HT_.out (by kernel_rfl)) (fun _ _ _ h => h) (Or.inl ⟨by rfl,?_⟩) ?_ ?_
            rotate_left
            ·intro w'
             go_simp
             with_reducible rfl
            rotate_left
            ·simp only [Act.put,List.setIfInBounds_toArray,List.set_cons_zero,List.set_cons_succ,i64_w,i32_w]
             rfl
            refine pure_ (i:=8) (N:=some 53) (v:=?_) (a':=?_) #[true,true,true,true,true,false,true,true,true,false,false,false,false,false,false] rfl rfl (any_of HT_.out (by kernel_rfl)) (fun _ _ _ h => h) (Or.inl ⟨by rfl,?_⟩) ?_ ?_
            rotate_left
            ·intro w'
             go_simp
             with_reducible rfl
            rotate_left
            ·simp only [Act.put,List.setIfInBounds_toArray,List.set_cons_zero,List.set_cons_succ,i64_w,i32_w]
             rfl
            refine take_ (i:=5) (N:=some 50) (v:=?_) (a':=?_) #[true,true,true,true,true,true,true,true,true,false,false,false,false,false,false] rfl rfl (take_ofW HT_.out HW_.out (by kernel_rfl)) (fun _ _ _ h => h) (Or.inl ⟨by rfl,?_⟩) hHeld ?_ ?_
            rotate_left
            ·rintro w' ⟨s0,s1,s2,s3,s4,s5,s6,s7,s8,s9,s10,s11,s12,s13,s14,s15,s16,s17⟩
             go_simp
             with_reducible rfl
            rotate_left
            ·simp only [Act.put,List.setIfInBounds_toArray,List.set_cons_zero,List.set_cons_succ,i64_w,i32_w]
             rfl
            refine take_ (i:=9) (N:=some 54) (v:=?_) (a':=?_) #[true,true,true,true,true,true,true,true,true,true,false,false,false,false,false] rfl rfl (take_ofW HT_.out HW_.out (by kernel_rfl)) (fun _ _ _ h => h) (Or.inl ⟨by rfl,?_⟩) hHeld ?_ ?_
            rotate_left
            ·rintro w' ⟨s0,s1,s2,s3,s4,s5,s6,s7,s8,s9,s10,s11,s12,s13,s14,s15,s16,s17⟩
             go_simp
             with_reducible rfl
            rotate_left
            ·simp only [Act.put,List.setIfInBounds_toArray,List.set_cons_zero,List.set_cons_succ,i64_w,i32_w]
             rfl
            refine one_ (i:=10) (N:=some 55) #[true,true,true,true,true,true,true,true,true,true,true,false,false,false,false] rfl rfl (one_of HT_.out (by kernel_rfl)) (by decide) (fun K hK => ?_)
            refine goes_ Try.func67 (by kernel_rfl) rfl #[.int .i64 ((rd_T71 x0_10 a1).f0),.int .i64 ((rd_T71 x0_10 a1).f6)] (by rfl) rfl rfl (by (try simp only [List.map_toArray,List.map_cons,List.map_nil]);first | done | rfl|(simp only [List.length_drop,List.length_take];rfl)) ?_
            with_reducible refine (impl_flowWait.calls ((rd_T71 x0_10 a1).f0) ((rd_T71 x0_10 a1).f6) t1168 _ A23.out).mono ?_
            rintro e w' ⟨rfl,⟨nd,rfl⟩⟩
            refine ⟨_,rfl,?_⟩
            have p24 : 0 ≤ (a1 : Int):=of_decide_eq_true (by first|(with_reducible assumption) | assumption)
            have q24 : (a1 : Int) < ((x0_10.length : Int) : Int):=of_decide_eq_true (by first|(with_reducible assumption) | assumption)
            obtain ⟨go24,co24,eo24,gb24,gl24,cl24,HG24⟩:=Kd.R_form HO_0.out (by omega)
            (first|cases eo24|(injection eo24 with ea_ en_ ec_;(first|subst ea_|(injection ea_ with ea_;subst ea_));subst ec_;clear en_))
            have GB24:=aMk gb24
            have GG24:=aMk HG24
            clear gb24 gl24 HG24
            have HMgo24:=aMk (show (P0_ go24 ∨ w.heap.size ≤ go24) from (HO_0.out.1 _ rfl))
            (first|simp only [add_plain] at hx1165_0 | skip)
            (first|simp only [add_plain] at hx1165_1 | skip)
            (first|simp only [add_plain] at hx1165_2 | skip)
            (first|simp only [add_plain] at hx1165_3 | skip)
            (first|simp only [add_plain] at hx1165_4 | skip)
            (first|simp only [add_plain] at hx1165_5 | skip)
            (first|simp only [add_plain] at hx1165_6 | skip)
            (first|simp only [add_plain] at hx1165_7 | skip)
            (first|simp only [add_plain] at hx1165_8 | skip)
            (first|simp only [add_plain] at hx1166_0 | skip)
            (first|simp only [add_plain] at hx1166_1 | skip)
            (first|simp only [add_plain] at hx1166_2 | skip)
            (first|simp only [add_plain] at hx1166_3 | skip)
            (first|simp only [add_plain] at hx1166_4 | skip)
            (first|simp only [add_plain] at hx1166_5 | skip)
            (first|simp only [add_plain] at hx1166_6 | skip)
            (first|simp only [add_plain] at hx1166_7 | skip)
            (first|simp only [add_plain] at hx1166_8 | skip)
            (first|simp only [add_plain] at hx1167_0 | skip)
            (first|simp only [add_plain] at hx1167_1 | skip)
            (first|simp only [add_plain] at hx1167_2 | skip)
            (first|simp only [add_plain] at hx1167_3 | skip)
            (first|simp only [add_plain] at hx1167_4 | skip)
            (first|simp only [add_plain] at hx1167_5 | skip)
            (first|simp only [add_plain] at hx1167_6 | skip)
            (first|simp only [add_plain] at hx1167_7 | skip)
            (first|simp only [add_plain] at hx1167_8 | skip)
            obtain ⟨ce24,hcl24,hM24,hcc24,hfr24⟩:=Kd.R_elem HO_0.out z71 (a1 : Int) p24 q24
            obtain rfl:=k71_openM hM24
            have hx24_0 : World.cell? _ ⟨go24,(a1 : Int).toNat * 9,none⟩ = some (.int .i64 ((rd_T71 x0_10 a1).f0)):=hcc24 0 _ rfl
            have hx24_1 : World.cell? _ ⟨go24,(a1 : Int).toNat * 9 + 1,none⟩ = some (.string ((rd_T71 x0_10 a1).f1)):=hcc24 1 _ rfl
            have hx24_2 : World.cell? _ ⟨go24,(a1 : Int).toNat * 9 + 2,none⟩ = some (.int .i64 ((rd_T71 x0_10 a1).f2)):=hcc24 2 _ rfl
            have hx24_3 : World.cell? _ ⟨go24,(a1 : Int).toNat * 9 + 3,none⟩ = some (.int .i64 ((rd_T71 x0_10 a1).f3)):=hcc24 3 _ rfl
            have hx24_4 : World.cell? _ ⟨go24,(a1 : Int).toNat * 9 + 4,none⟩ = some (.int .i64 ((rd_T71 x0_10 a1).f4)):=hcc24 4 _ rfl
            have hx24_5 : World.cell? _ ⟨go24,(a1 : Int).toNat * 9 + 5,none⟩ = some (.int .i64 ((rd_T71 x0_10 a1).f5)):=hcc24 5 _ rfl
            have hx24_6 : World.cell? _ ⟨go24,(a1 : Int).toNat * 9 + 6,none⟩ = some (.int .i64 ((rd_T71 x0_10 a1).f6)):=hcc24 6 _ rfl
            have hx24_7 : World.cell? _ ⟨go24,(a1 : Int).toNat * 9 + 7,none⟩ = some (.int .i64 ((rd_T71 x0_10 a1).f7)):=hcc24 7 _ rfl
            have hx24_8 : World.cell? _ ⟨go24,(a1 : Int).toNat * 9 + 8,none⟩ = some (.int .i64 ((rd_T71 x0_10 a1).f8)):=hcc24 8 _ rfl
            have hf24_0 : World.frozen? _ ⟨go24,(a1 : Int).toNat * 9,none⟩ = false:=hfr24 0
            have hf24_1 : World.frozen? _ ⟨go24,(a1 : Int).toNat * 9 + 1,none⟩ = false:=hfr24 1
            have hf24_2 : World.frozen? _ ⟨go24,(a1 : Int).toNat * 9 + 2,none⟩ = false:=hfr24 2
            have hf24_3 : World.frozen? _ ⟨go24,(a1 : Int).toNat * 9 + 3,none⟩ = false:=hfr24 3
            have hf24_4 : World.frozen? _ ⟨go24,(a1 : Int).toNat * 9 + 4,none⟩ = false:=hfr24 4
            have hf24_5 : World.frozen? _ ⟨go24,(a1 : Int).toNat * 9 + 5,none⟩ = false:=hfr24 5
            have hf24_6 : World.frozen? _ ⟨go24,(a1 : Int).toNat * 9 + 6,none⟩ = false:=hfr24 6
            have hf24_7 : World.frozen? _ ⟨go24,(a1 : Int).toNat * 9 + 7,none⟩ = false:=hfr24 7
            have hf24_8 : World.frozen? _ ⟨go24,(a1 : Int).toNat * 9 + 8,none⟩ = false:=hfr24 8
            clear hcl24 hcc24 hfr24 hM24
            replace p24:=eq_true p24
            replace q24:=eq_true q24
            obtain ⟨ce26,hcl26,hM26,hcc26,hfr26⟩:=Kd.R_elem HO_0.out z71 (a1 : Int) (of_decide_eq_true (by first|(with_reducible assumption) | assumption)) (by have h_ : (a1 : Int) < ((x0_10.length : Int) : Int):=of_decide_eq_true (by first|(with_reducible assumption) | assumption);first|exact h_|(have e_:=(Kd.R_reads' HO_0.out).1;omega) | simpa using h_)
            obtain rfl:=k71_openM hM26
            have HP26:=(Kd.R_seg HO_0.out (a1 : Int) (of_decide_eq_true (by first|(with_reducible assumption) | assumption)) (by have h_ : (a1 : Int) < ((x0_10.length : Int) : Int):=of_decide_eq_true (by first|(with_reducible assumption) | assumption);first|exact h_|(have e_:=(Kd.R_reads' HO_0.out).1;omega) | simpa using h_) (seg:=[.int .i64 (wrap64 (a4 + t1168))]) (j:=7) hcl26 hcc26 (show 8 ≤ 9 from by decide) (x':=(⟨(rd_T71 x0_10 a1).f0,(rd_T71 x0_10 a1).f1,(rd_T71 x0_10 a1).f2,(rd_T71 x0_10 a1).f3,(rd_T71 x0_10 a1).f4,(rd_T71 x0_10 a1).f5,(rd_T71 x0_10 a1).f6,wrap64 (a4 + t1168),(rd_T71 x0_10 a1).f8⟩ : S71)) (k71_mkM _ _ _ (⟨(rd_T71 x0_10 a1).f0,(rd_T71 x0_10 a1).f1,(rd_T71 x0_10 a1).f2,(rd_T71 x0_10 a1).f3,(rd_T71 x0_10 a1).f4,(rd_T71 x0_10 a1).f5,(rd_T71 x0_10 a1).f6,wrap64 (a4 + t1168),(rd_T71 x0_10 a1).f8⟩ : S71) ) (fun _ hk => hk)).1
            rw [← Ny1169.out] at HP26
            have HQ26:=aMk HP26
            clear hcl26 hcc26 hfr26 hM26 HP26
            refine hK.out _ _ ⟨hHeld.1,hHeld.2.1,hHeld.2.2.1,hHeld.2.2.2.1,hHeld.2.2.2.2.1,hHeld.2.2.2.2.2.1,hHeld.2.2.2.2.2.2.1,hHeld.2.2.2.2.2.2.2.1,hHeld.2.2.2.2.2.2.2.2.1,hHeld.2.2.2.2.2.2.2.2.2.1,hHeld.2.2.2.2.2.2.2.2.2.2.1,hHeld.2.2.2.2.2.2.2.2.2.2.2.1,hHeld.2.2.2.2.2.2.2.2.2.2.2.2.1,hHeld.2.2.2.2.2.2.2.2.2.2.2.2.2.1,hHeld.2.2.2.2.2.2.2.2.2.2.2.2.2.2.1,hHeld.2.2.2.2.2.2.2.2.2.2.2.2.2.2.2.1,hHeld.2.2.2.2.2.2.2.2.2.2.2.2.2.2.2.2.1,hHeld.2.2.2.2.2.2.2.2.2.2.2.2.2.2.2.2.2⟩ (fun hHeld => ?_)
            clear hK K
            refine norm_ (a':=?_) ?_ ?_
            rotate_left
            ·show Act.put _ (some 55) _ = _
             simp only [Act.put,List.setIfInBounds_toArray,List.set_cons_zero,List.set_cons_succ,i64_w,i32_w]
             rfl
            refine pure_ (i:=11) (N:=some 56) (v:=?_) (a':=?_) #[true,true,true,true,true,true,true,true,true,true,true,true,false,false,false] rfl rfl (any_of HT_.out (by kernel_rfl)) (fun _ _ _ h => h) (Or.inl ⟨by rfl,?_⟩) ?_ ?_
            rotate_left
            ·intro w'
             go_simp
             with_reducible rfl
            rotate_left
            ·simp only [Act.put,List.setIfInBounds_toArray,List.set_cons_zero,List.set_cons_succ,i64_w,i32_w]
             rfl
            refine pure_ (i:=12) (N:=some 57) (v:=?_) (a':=?_) #[true,true,true,true,true,true,true,true,true,true,true,true,true,false,false] rfl rfl (any_of HT_.out (by kernel_rfl)) (fun _ _ _ h => h) (Or.inl ⟨by rfl,?_⟩) ?_ ?_
            rotate_left
            ·intro w'
             go_simp
             with_reducible rfl
            rotate_left
            ·simp only [Act.put,List.setIfInBounds_toArray,List.set_cons_zero,List.set_cons_succ,i64_w,i32_w]
             rfl
            refine pure_ (i:=13) (N:=some 58) (v:=?_) (a':=?_) #[true,true,true,true,true,true,true,true,true,true,true,true,true,true,false] rfl rfl (any_of HT_.out (by kernel_rfl)) (fun _ _ _ h => h) (Or.inl ⟨by rfl,?_⟩) ?_ ?_
            rotate_left
            ·intro w'
             go_simp
             with_reducible rfl
            rotate_left
            ·simp only [Act.put,List.setIfInBounds_toArray,List.set_cons_zero,List.set_cons_succ,i64_w,i32_w]
             rfl
            refine last_ (i:=14) (N:=none) #[true,true,true,true,true,true,true,true,true,true,true,true,true,true,true] rfl rfl (one_of HT_.out (by kernel_rfl)) (by decide) (fun K hK => ?_)
            refine skip_ (w1:=?_) (by rfl) rfl ?_ ?_
            rotate_left
            ·go_simp
             rfl
            refine hK.out _ _ ?_
            clear hK K
            refine done_ (done_of HT_.out (by kernel_rfl)) ?_
            try go_wp2
            go_ret
            exact ⟨_,by first | rfl|(simp [errW_none,errW_some] <;> rfl)|(simp [*,errW_none,errW_some] <;> rfl),by (with_reducible repeat (first|apply Kd.R_alloc|apply Kd.R_drewN|apply Kd.R_drew));exact HQ26.out,by repeat (first|(with_reducible first|exact HB.out|apply bwA|apply bwN|apply bw1|refine below_set ?_ GB24.out)|exact HB.out),by repeat (first|(with_reducible first|exact HK.out|apply Kept.alloc|apply Kept.drewN|apply Kept.drew|refine Kept.setCell ?_ HMgo24.out _)|exact HK.out)⟩
           ·rw [if_neg c22] at H
            have c22b0 : ((Go.bits .and .i64 a3 1) == 0) = false:=beq_eq_false_iff_ne.mpr c22
            have c22b1 : ((Go.bits .and .i64 a3 1) != 0) = true:=bne_iff_ne.mpr c22
            obtain ⟨y1170,hy1170⟩ : ∃ y_ : List (S71),y_ = (x0_10.set (a1 : Int).toNat (⟨(rd_T71 x0_10 a1).f0,(rd_T71 x0_10 a1).f1,(rd_T71 x0_10 a1).f2,(rd_T71 x0_10 a1).f3,(rd_T71 x0_10 a1).f4,(rd_T71 x0_10 a1).f5,3,(rd_T71 x0_10 a1).f7,(rd_T71 x0_10 a1).f8⟩ : S71)):=⟨_,rfl⟩
            replace H : ((impl_flowWait.f ((rd_T71 y1170 a1).f0) ((rd_T71 y1170 a1).f6)).bind fun t1173 => (some (y1170.set (a1 : Int).toNat (⟨(rd_T71 y1170 a1).f0,(rd_T71 y1170 a1).f1,(rd_T71 y1170 a1).f2,(rd_T71 y1170 a1).f3,(rd_T71 y1170 a1).f4,(rd_T71 y1170 a1).f5,(rd_T71 y1170 a1).f6,wrap64 (a4 + t1173),(rd_T71 y1170 a1).f8⟩ : S71)))) = some r:=by first|(rw [hy1170];with_reducible exact H)|(have H2_:=(Option.bind_some _ _).symm.trans H;rw [hy1170];with_reducible exact H2_)|(have H2_:=(Option.bind_some _ _).symm.trans H;with_reducible exact H2_) | with_reducible exact H|(rw [hy1170];exact H)|exact H
            have Ny1170:=aMk hy1170
            clear hy1170
            replace H:=Option.bind_eq_some_iff.mp H
            obtain ⟨t1173,A280,H⟩:=H
            replace H : (some (y1170.set (a1 : Int).toNat (⟨(rd_T71 y1170 a1).f0,(rd_T71 y1170 a1).f1,(rd_T71 y1170 a1).f2,(rd_T71 y1170 a1).f3,(rd_T71 y1170 a1).f4,(rd_T71 y1170 a1).f5,(rd_T71 y1170 a1).f6,wrap64 (a4 + t1173),(rd_T71 y1170 a1).f8⟩ : S71))) = some r:=H
            have A28:=aMk A280
            clear A280
            obtain ⟨y1174,hy1174⟩ : ∃ y_ : List (S71),y_ = (y1170.set (a1 : Int).toNat (⟨(rd_T71 y1170 a1).f0,(rd_T71 y1170 a1).f1,(rd_T71 y1170 a1).f2,(rd_T71 y1170 a1).f3,(rd_T71 y1170 a1).f4,(rd_T71 y1170 a1).f5,(rd_T71 y1170 a1).f6,wrap64 (a4 + t1173),(rd_T71 y1170 a1).f8⟩ : S71)):=⟨_,rfl⟩
            replace H : (some y1174) = some r:=by first|(rw [hy1174];with_reducible exact H)|(have H2_:=(Option.bind_some _ _).symm.trans H;rw [hy1174];with_reducible exact H2_)|(have H2_:=(Option.bind_some _ _).symm.trans H;with_reducible exact H2_) | with_reducible exact H|(rw [hy1174];exact H)|exact H
            have Ny1174:=aMk hy1174
            clear hy1174
            obtain rfl:=Option.some.inj H
            have p1165 : 0 ≤ (a1 : Int):=of_decide_eq_true (by first|(with_reducible assumption) | assumption)
            have q1165 : a1 < (x0_10.length : Int):=of_decide_eq_true (by first|(with_reducible assumption) | assumption)
            obtain ⟨ad1165,e1165,hx1165_0,hx1165_1,hx1165_2,hx1165_3,hx1165_4,hx1165_5,hx1165_6,hx1165_7,hx1165_8⟩:=at_T71 (Kd.R_reads' HO_0.out).2.2 a1 p1165 q1165
            obtain rfl : ad1162 = ad1165:=(by injection e1165)
            replace p1165:=eq_true p1165
            replace q1165:=eq_true q1165
            have p27 : 0 ≤ (a1 : Int):=of_decide_eq_true (by first|(with_reducible assumption) | assumption)
            have q27 : (a1 : Int) < ((x0_10.length : Int) : Int):=of_decide_eq_true (by first|(with_reducible assumption) | assumption)
            obtain ⟨go27,co27,eo27,gb27,gl27,cl27,HG27⟩:=Kd.R_form HO_0.out (by omega)
            (first|cases eo27|(injection eo27 with ea_ en_ ec_;(first|subst ea_|(injection ea_ with ea_;subst ea_));subst ec_;clear en_))
            have GB27:=aMk gb27
            have GG27:=aMk HG27
            clear gb27 gl27 HG27
            have HMgo27:=aMk (show (P0_ go27 ∨ w.heap.size ≤ go27) from (HO_0.out.1 _ rfl))
            (first|simp only [add_plain] at hx1165_0 | skip)
            (first|simp only [add_plain] at hx1165_1 | skip)
            (first|simp only [add_plain] at hx1165_2 | skip)
            (first|simp only [add_plain] at hx1165_3 | skip)
            (first|simp only [add_plain] at hx1165_4 | skip)
            (first|simp only [add_plain] at hx1165_5 | skip)
            (first|simp only [add_plain] at hx1165_6 | skip)
            (first|simp only [add_plain] at hx1165_7 | skip)
            (first|simp only [add_plain] at hx1165_8 | skip)
            obtain ⟨ce27,hcl27,hM27,hcc27,hfr27⟩:=Kd.R_elem HO_0.out z71 (a1 : Int) p27 q27
            obtain rfl:=k71_openM hM27
            have hx27_0 : wc.cell? ⟨go27,(a1 : Int).toNat * 9,none⟩ = some (.int .i64 ((rd_T71 x0_10 a1).f0)):=hcc27 0 _ rfl
            have hx27_1 : wc.cell? ⟨go27,(a1 : Int).toNat * 9 + 1,none⟩ = some (.string ((rd_T71 x0_10 a1).f1)):=hcc27 1 _ rfl
            have hx27_2 : wc.cell? ⟨go27,(a1 : Int).toNat * 9 + 2,none⟩ = some (.int .i64 ((rd_T71 x0_10 a1).f2)):=hcc27 2 _ rfl
            have hx27_3 : wc.cell? ⟨go27,(a1 : Int).toNat * 9 + 3,none⟩ = some (.int .i64 ((rd_T71 x0_10 a1).f3)):=hcc27 3 _ rfl
            have hx27_4 : wc.cell? ⟨go27,(a1 : Int).toNat * 9 + 4,none⟩ = some (.int .i64 ((rd_T71 x0_10 a1).f4)):=hcc27 4 _ rfl
            have hx27_5 : wc.cell? ⟨go27,(a1 : Int).toNat * 9 + 5,none⟩ = some (.int .i64 ((rd_T71 x0_10 a1).f5)):=hcc27 5 _ rfl
            have hx27_6 : wc.cell? ⟨go27,(a1 : Int).toNat * 9 + 6,none⟩ = some (.int .i64 ((rd_T71 x0_10 a1).f6)):=hcc27 6 _ rfl
            have hx27_7 : wc.cell? ⟨go27,(a1 : Int).toNat * 9 + 7,none⟩ = some (.int .i64 ((rd_T71 x0_10 a1).f7)):=hcc27 7 _ rfl
            have hx27_8 : wc.cell? ⟨go27,(a1 : Int).toNat * 9 + 8,none⟩ = some (.int .i64 ((rd_T71 x0_10 a1).f8)):=hcc27 8 _ rfl
            have hf27_0 : wc.frozen? ⟨go27,(a1 : Int).toNat * 9,none⟩ = false:=hfr27 0
            have hf27_1 : wc.frozen? ⟨go27,(a1 : Int).toNat * 9 + 1,none⟩ = false:=hfr27 1
            have hf27_2 : wc.frozen? ⟨go27,(a1 : Int).toNat * 9 + 2,none⟩ = false:=hfr27 2
            have hf27_3 : wc.frozen? ⟨go27,(a1 : Int).toNat * 9 + 3,none⟩ = false:=hfr27 3
            have hf27_4 : wc.frozen? ⟨go27,(a1 : Int).toNat * 9 + 4,none⟩ = false:=hfr27 4
            have hf27_5 : wc.frozen? ⟨go27,(a1 : Int).toNat * 9 + 5,none⟩ = false:=hfr27 5
            have hf27_6 : wc.frozen? ⟨go27,(a1 : Int).toNat * 9 + 6,none⟩ = false:=hfr27 6
            have hf27_7 : wc.frozen? ⟨go27,(a1 : Int).toNat * 9 + 7,none⟩ = false:=hfr27 7
            have hf27_8 : wc.frozen? ⟨go27,(a1 : Int).toNat * 9 + 8,none⟩ = false:=hfr27 8
            clear hcl27 hcc27 hfr27 hM27
            replace p27:=eq_true p27
            replace q27:=eq_true q27
            have HX30:=aMk (show Kd.R k71 71 wc w0.heap.size (fun k_ => (P0_ k_ ∨ w.heap.size ≤ k_)) (.slice (some ⟨go27,0,none⟩) x0_10.length co9) x0_10 from (by (with_reducible repeat (first|apply Kd.R_alloc|apply Kd.R_drewN|apply Kd.R_drew));exact HO_0.out))
            obtain ⟨ce30,hcl30,hM30,hcc30,hfr30⟩:=Kd.R_elem HX30.out z71 (a1 : Int) (of_decide_eq_true (by first|(with_reducible assumption) | assumption)) (by have h_ : (a1 : Int) < ((x0_10.length : Int) : Int):=of_decide_eq_true (by first|(with_reducible assumption) | assumption);first|exact h_|(have e_:=(Kd.R_reads' HO_0.out).1;omega) | simpa using h_)
            obtain rfl:=k71_openM hM30
            have HP30:=Kd.R_seg HX30.out (a1 : Int) (of_decide_eq_true (by first|(with_reducible assumption) | assumption)) (by have h_ : (a1 : Int) < ((x0_10.length : Int) : Int):=of_decide_eq_true (by first|(with_reducible assumption) | assumption);first|exact h_|(have e_:=(Kd.R_reads' HO_0.out).1;omega) | simpa using h_) (seg:=[.int .i64 3]) (j:=6) hcl30 hcc30 (show 7 ≤ 9 from by decide) (x':=(⟨(rd_T71 x0_10 a1).f0,(rd_T71 x0_10 a1).f1,(rd_T71 x0_10 a1).f2,(rd_T71 x0_10 a1).f3,(rd_T71 x0_10 a1).f4,(rd_T71 x0_10 a1).f5,3,(rd_T71 x0_10 a1).f7,(rd_T71 x0_10 a1).f8⟩ : S71)) (k71_mkM _ _ _ (⟨(rd_T71 x0_10 a1).f0,(rd_T71 x0_10 a1).f1,(rd_T71 x0_10 a1).f2,(rd_T71 x0_10 a1).f3,(rd_T71 x0_10 a1).f4,(rd_T71 x0_10 a1).f5,3,(rd_T71 x0_10 a1).f7,(rd_T71 x0_10 a1).f8⟩ : S71) ) (fun _ hk => hk)
            have hx30_6:=hcc30 6 _ rfl
            (try simp only [show (k71).sz = 9 from rfl,Nat.mul_one,Nat.add_zero] at hx30_6)
            have hf30_6:=hfr30 6
            (try simp only [show (k71).sz = 9 from rfl,Nat.mul_one,Nat.add_zero] at hf30_6)
            clear hcl30 hcc30 hfr30 hM30
            try go_wp2_with (first|((with_reducible refine gate_store (t:=3) (p:=44) rfl ?_);refine store_event (t:=3) (p:=44) (v:=?vo_w31) (w1:=(wc.setCell ⟨go27,(a1 : Int).toNat * 9 + 6,none⟩ (.int .i64 3))) ?hg ?ho ?hn ?hr ?_;(case ho => rfl);(case hg => rfl);(case hn => rfl);(case hr => first|(go_simp;done)|(go_simp;rfl));intro w31 hw;have hg : wc.grownBy w31 (some go27):=(by rw [hw];exact HP30.2);have hp_ : Kd.R k71 71 w31 w0.heap.size (fun k_ => (P0_ k_ ∨ w.heap.size ≤ k_)) (.slice (some ⟨go27,0,none⟩) x0_10.length co9) y1170:=(by rw [hw,Ny1170.out];exact HP30.1);clear HP30;have n0_:=aMk (hp_);have n1_:=aMk ((by rw [hw];exact below_set (HB.out) GB27.out : Below w0.heap.size w0 w31));have n2_:=aMk (Kept.of_grown (S:=(fun k_ => P0_ k_)) hg (by repeat (first|(with_reducible first|exact HK.out|apply Kept.alloc|apply Kept.drewN|apply Kept.drew)|exact HK.out)) (fun k_ e_ => (HO_0.out.1 k_ e_)));clear HO_0;clear HB;clear HK;have HO_0:=n0_;have HB:=n1_;have HK:=n2_;clear n0_ n1_ n2_;clear hg hw hp_))
            have n0_:=aMk (Kd.R_drew HO_0.out)
            have n1_:=aMk (Kept.drew HK.out)
            have n2_:=aMk (bw1 HB.out)
            clear HO_0
            clear HK
            clear HB
            have HO_0:=n0_
            have HK:=n1_
            have HB:=n2_
            clear n0_ n1_ n2_
            have p1171 : 0 ≤ (a1 : Int):=of_decide_eq_true (by first|(with_reducible assumption) | assumption)
            have q1171 : a1 < (y1170.length : Int):=(by have h_ : (a1 : Int) < ((x0_10.length : Int) : Int):=of_decide_eq_true (by first|(with_reducible assumption) | assumption);first|(have e_:=(Kd.R_reads' HO_0.out).1;omega) | simpa only [Ny1170.out,List.length_set] using h_)
            have ql1171 : ((a1 : Int) < ((x0_10.length : Int) : Int)) = True:=eq_true (of_decide_eq_true (by first|(with_reducible assumption) | assumption))
            obtain ⟨ad1171,e1171,hx1171_0,hx1171_1,hx1171_2,hx1171_3,hx1171_4,hx1171_5,hx1171_6,hx1171_7,hx1171_8⟩:=at_T71 (Kd.R_reads' HO_0.out).2.2 a1 p1171 q1171
            obtain rfl : (⟨go27,0,none⟩ : Addr) = ad1171:=(by injection e1171)
            (first|simp only [add_plain] at hx1171_0 | simp only [add_at] at hx1171_0 | simp only [Addr.add,Nat.zero_add] at hx1171_0 | skip)
            (first|simp only [add_plain] at hx1171_1 | simp only [add_at] at hx1171_1 | simp only [Addr.add,Nat.zero_add] at hx1171_1 | skip)
            (first|simp only [add_plain] at hx1171_2 | simp only [add_at] at hx1171_2 | simp only [Addr.add,Nat.zero_add] at hx1171_2 | skip)
            (first|simp only [add_plain] at hx1171_3 | simp only [add_at] at hx1171_3 | simp only [Addr.add,Nat.zero_add] at hx1171_3 | skip)
            (first|simp only [add_plain] at hx1171_4 | simp only [add_at] at hx1171_4 | simp only [Addr.add,Nat.zero_add] at hx1171_4 | skip)
            (first|simp only [add_plain] at hx1171_5 | simp only [add_at] at hx1171_5 | simp only [Addr.add,Nat.zero_add] at hx1171_5 | skip)
            (first|simp only [add_plain] at hx1171_6 | simp only [add_at] at hx1171_6 | simp only [Addr.add,Nat.zero_add] at hx1171_6 | skip)
            (first|simp only [add_plain] at hx1171_7 | simp only [add_at] at hx1171_7 | simp only [Addr.add,Nat.zero_add] at hx1171_7 | skip)
            (first|simp only [add_plain] at hx1171_8 | simp only [add_at] at hx1171_8 | simp only [Addr.add,Nat.zero_add] at hx1171_8 | skip)
            replace p1171:=eq_true p1171
            replace q1171:=eq_true q1171
            have p1172 : 0 ≤ (a1 : Int):=of_decide_eq_true (by first|(with_reducible assumption) | assumption)
            have q1172 : a1 < (y1170.length : Int):=(by have h_ : (a1 : Int) < ((x0_10.length : Int) : Int):=of_decide_eq_true (by first|(with_reducible assumption) | assumption);first|(have e_:=(Kd.R_reads' HO_0.out).1;omega) | simpa only [Ny1170.out,List.length_set] using h_)
            have ql1172 : ((a1 : Int) < ((x0_10.length : Int) : Int)) = True:=eq_true (of_decide_eq_true (by first|(with_reducible assumption) | assumption))
            obtain ⟨ad1172,e1172,hx1172_0,hx1172_1,hx1172_2,hx1172_3,hx1172_4,hx1172_5,hx1172_6,hx1172_7,hx1172_8⟩:=at_T71 (Kd.R_reads' HO_0.out).2.2 a1 p1172 q1172
            obtain rfl : (⟨go27,0,none⟩ : Addr) = ad1172:=(by injection e1172)
            (first|simp only [add_plain] at hx1172_0 | simp only [add_at] at hx1172_0 | simp only [Addr.add,Nat.zero_add] at hx1172_0 | skip)
            (first|simp only [add_plain] at hx1172_1 | simp only [add_at] at hx1172_1 | simp only [Addr.add,Nat.zero_add] at hx1172_1 | skip)
            (first|simp only [add_plain] at hx1172_2 | simp only [add_at] at hx1172_2 | simp only [Addr.add,Nat.zero_add] at hx1172_2 | skip)
            (first|simp only [add_plain] at hx1172_3 | simp only [add_at] at hx1172_3 | simp only [Addr.add,Nat.zero_add] at hx1172_3 | skip)
            (first|simp only [add_plain] at hx1172_4 | simp only [add_at] at hx1172_4 | simp only [Addr.add,Nat.zero_add] at hx1172_4 | skip)
            (first|simp only [add_plain] at hx1172_5 | simp only [add_at] at hx1172_5 | simp only [Addr.add,Nat.zero_add] at hx1172_5 | skip)
            (first|simp only [add_plain] at hx1172_6 | simp only [add_at] at hx1172_6 | simp only [Addr.add,Nat.zero_add] at hx1172_6 | skip)
            (first|simp only [add_plain] at hx1172_7 | simp only [add_at] at hx1172_7 | simp only [Addr.add,Nat.zero_add] at hx1172_7 | skip)
            (first|simp only [add_plain] at hx1172_8 | simp only [add_at] at hx1172_8 | simp only [Addr.add,Nat.zero_add] at hx1172_8 | skip)
            replace p1172:=eq_true p1172
            replace q1172:=eq_true q1172
            refine start_ (n:=15) (S:=fun w' => w'.cell? ⟨go27,(a1).toNat * 9,none⟩ = some (.int .i64 ((rd_T71 y1170 a1).f0)) ∧ w'.cell? ⟨go27,(a1).toNat * 9 + 1,none⟩ = some (.string ((rd_T71 y1170 a1).f1)) ∧ w'.cell? ⟨go27,(a1).toNat * 9 + 2,none⟩ = some (.int .i64 ((rd_T71 y1170 a1).f2)) ∧ w'.cell? ⟨go27,(a1).toNat * 9 + 3,none⟩ = some (.int .i64 ((rd_T71 y1170 a1).f3)) ∧ w'.cell? ⟨go27,(a1).toNat * 9 + 4,none⟩ = some (.int .i64 ((rd_T71 y1170 a1).f4)) ∧ w'.cell? ⟨go27,(a1).toNat * 9 + 5,none⟩ = some (.int .i64 ((rd_T71 y1170 a1).f5)) ∧ w'.cell? ⟨go27,(a1).toNat * 9 + 6,none⟩ = some (.int .i64 ((rd_T71 y1170 a1).f6)) ∧ w'.cell? ⟨go27,(a1).toNat * 9 + 7,none⟩ = some (.int .i64 ((rd_T71 y1170 a1).f7)) ∧ w'.cell? ⟨go27,(a1).toNat * 9 + 8,none⟩ = some (.int .i64 ((rd_T71 y1170 a1).f8)) ∧ w'.cell? ⟨go27,(a1).toNat * 9,none⟩ = some (.int .i64 ((rd_T71 y1170 a1).f0)) ∧ w'.cell? ⟨go27,(a1).toNat * 9 + 1,none⟩ = some (.string ((rd_T71 y1170 a1).f1)) ∧ w'.cell? ⟨go27,(a1).toNat * 9 + 2,none⟩ = some (.int .i64 ((rd_T71 y1170 a1).f2)) ∧ w'.cell? ⟨go27,(a1).toNat * 9 + 3,none⟩ = some (.int .i64 ((rd_T71 y1170 a1).f3)) ∧ w'.cell? ⟨go27,(a1).toNat * 9 + 4,none⟩ = some (.int .i64 ((rd_T71 y1170 a1).f4)) ∧ w'.cell? ⟨go27,(a1).toNat * 9 + 5,none⟩ = some (.int .i64 ((rd_T71 y1170 a1).f5)) ∧ w'.cell? ⟨go27,(a1).toNat * 9 + 6,none⟩ = some (.int .i64 ((rd_T71 y1170 a1).f6)) ∧ w'.cell? ⟨go27,(a1).toNat * 9 + 7,none⟩ = some (.int .i64 ((rd_T71 y1170 a1).f7)) ∧ w'.cell? ⟨go27,(a1).toNat * 9 + 8,none⟩ = some (.int .i64 ((rd_T71 y1170 a1).f8))) (ds:=[14]) #[false,false,false,false,false,false,false,false,false,false,false,false,false,false,false] (by kernel_rfl) rfl rfl ⟨hx1171_0,hx1171_1,hx1171_2,hx1171_3,hx1171_4,hx1171_5,hx1171_6,hx1171_7,hx1171_8,hx1172_0,hx1172_1,hx1172_2,hx1172_3,hx1172_4,hx1172_5,hx1172_6,hx1172_7,hx1172_8⟩ (fun hHeld => ?_);refine with_tabW impl_flowPass.tab9 impl_flowPass.bits9 (fun HT_ HW_ => ?_)
            generalize w31.drew = w32 at HO_0 HK HB hx1171_0 hx1171_1 hx1171_2 hx1171_3 hx1171_4 hx1171_5 hx1171_6 hx1171_7 hx1171_8 hx1172_0 hx1172_1 hx1172_2 hx1172_3 hx1172_4 hx1172_5 hx1172_6 hx1172_7 hx1172_8 hHeld ⊢
            refine pure_ (i:=0) (N:=some 45) (v:=?_) (a':=?_) #[true,false,false,false,false,false,false,false,false,false,false,false,false,false,false] rfl rfl (any_of HT_.out (by kernel_rfl)) (fun _ _ _ h => h) (Or.inl ⟨by rfl,?_⟩) ?_ ?_
            rotate_left
            ·intro w'
             go_simp
             with_reducible rfl
            rotate_left
            ·simp only [Act.put,List.setIfInBounds_toArray,List.set_cons_zero,List.set_cons_succ,i64_w,i32_w]
             rfl
            refine pure_ (i:=1) (N:=some 46) (v:=?_) (a':=?_) #[true,true,false,false,false,false,false,false,false,false,false,false,false,false,false] rfl rfl (any_of HT_.out (by kernel_rfl)) (fun _ _ _ h => h) (Or.inl ⟨by rfl,?_⟩) ?_ ?_
            rotate_left
            ·intro w'
             go_simp
             with_reducible rfl
            rotate_left
            ·simp only [Act.put,List.setIfInBounds_toArray,List.set_cons_zero,List.set_cons_succ,i64_w,i32_w]
             rfl
            refine pure_ (i:=2) (N:=some 47) (v:=?_) (a':=?_) #[true,true,true,false,false,false,false,false,false,false,false,false,false,false,false] rfl rfl (any_of HT_.out (by kernel_rfl)) (fun _ _ _ h => h) (Or.inl ⟨by rfl,?_⟩) ?_ ?_
            rotate_left
            ·intro w'
             go_simp
             with_reducible rfl
            rotate_left
            ·simp only [Act.put,List.setIfInBounds_toArray,List.set_cons_zero,List.set_cons_succ,i64_w,i32_w]
             rfl
            refine pure_ (i:=3) (N:=some 48) (v:=?_) (a':=?_) #[true,true,true,true,false,false,false,false,false,false,false,false,false,false,false] rfl rfl (any_of HT_.out (by kernel_rfl)) (fun _ _ _ h => h) (Or.inl ⟨by rfl,?_⟩) ?_ ?_
            rotate_left
            ·intro w'
             go_simp
             with_reducible rfl
            rotate_left
            ·simp only [Act.put,List.setIfInBounds_toArray,List.set_cons_zero,List.set_cons_succ,i64_w,i32_w]
             rfl
            refine pure_ (i:=4) (N:=some 49) (v:=?_) (a':=?_) #[true,true,true,true,true,false,false,false,false,false,false,false,false,false,false] rfl rfl (any_of HT_.out (by kernel_rfl)) (fun _ _ _ h => h) (Or.inl ⟨by rfl,?_⟩) ?_ ?_
            rotate_left
            ·intro w'
             go_simp
             with_reducible rfl
            rotate_left
            ·simp only [Act.put,List.setIfInBounds_toArray,List.set_cons_zero,List.set_cons_succ,i64_w,i32_w]
             rfl
            refine pure_ (i:=6) (N:=some 51) (v:=?_) (a':=?_) #[true,true,true,true,true,false,true,false,false,false,false,false,false,false,false] rfl rfl (any_of HT_.out (by kernel_rfl)) (fun _ _ _ h => h) (Or.inl ⟨by rfl,?_⟩) ?_ ?_
            rotate_left
            ·intro w'
             go_simp
             with_reducible rfl
            rotate_left
            ·simp only [Act.put,List.setIfInBounds_toArray,List.set_cons_zero,List.set_cons_succ,i64_w,i32_w]
             rfl
            refine pure_ (i:=7) (N:=some 52) (v:=?_) (a':=?_) #[true,true,true,true,true,false,true,true,false,false,false,false,false,false,false] rfl rfl (any_of HT_.out (by kernel_rfl)) (fun _ _ _ h => h) (Or.inl ⟨by rfl,?_⟩) ?_ ?_
            rotate_left
            ·intro w'
             go_simp
             with_reducible rfl
            rotate_left
            ·simp only [Act.put,List.setIfInBounds_toArray,List.set_cons_zero,List.set_cons_succ,i64_w,i32_w]
             rfl
            refine pure_ (i:=8) (N:=some 53) (v:=?_) (a':=?_) #[true,true,true,true,true,false,true,true,true,false,false,false,false,false,false] rfl rfl (any_of HT_.out (by kernel_rfl)) (fun _ _ _ h => h) (Or.inl ⟨by rfl,?_⟩) ?_ ?_
            rotate_left
            ·intro w'
             go_simp
             with_reducible rfl
            rotate_left
            ·simp only [Act.put,List.setIfInBounds_toArray,List.set_cons_zero,List.set_cons_succ,i64_w,i32_w]
             rfl
            refine take_ (i:=5) (N:=some 50) (v:=?_) (a':=?_) #[true,true,true,true,true,true,true,true,true,false,false,false,false,false,false] rfl rfl (take_ofW HT_.out HW_.out (by kernel_rfl)) (fun _ _ _ h => h) (Or.inl ⟨by rfl,?_⟩) hHeld ?_ ?_
            rotate_left
            ·rintro w' ⟨s0,s1,s2,s3,s4,s5,s6,s7,s8,s9,s10,s11,s12,s13,s14,s15,s16,s17⟩
             go_simp
             with_reducible rfl
            rotate_left
            ·simp only [Act.put,List.setIfInBounds_toArray,List.set_cons_zero,List.set_cons_succ,i64_w,i32_w]
             rfl
            refine take_ (i:=9) (N:=some 54) (v:=?_) (a':=?_) #[true,true,true,true,true,true,true,true,true,true,false,false,false,false,false] rfl rfl (take_ofW HT_.out HW_.out (by kernel_rfl)) (fun _ _ _ h => h) (Or.inl ⟨by rfl,?_⟩) hHeld ?_ ?_
            rotate_left
            ·rintro w' ⟨s0,s1,s2,s3,s4,s5,s6,s7,s8,s9,s10,s11,s12,s13,s14,s15,s16,s17⟩
             go_simp
             with_reducible rfl
            rotate_left
            ·simp only [Act.put,List.setIfInBounds_toArray,List.set_cons_zero,List.set_cons_succ,i64_w,i32_w]
             rfl
            refine one_ (i:=10) (N:=some 55) #[true,true,true,true,true,true,true,true,true,true,true,false,false,false,false] rfl rfl (one_of HT_.out (by kernel_rfl)) (by decide) (fun K hK => ?_)
            refine goes_ Try.func67 (by kernel_rfl) rfl #[.int .i64 ((rd_T71 y1170 a1).f0),.int .i64 ((rd_T71 y1170 a1).f6)] (by rfl) rfl rfl (by (try simp only [List.map_toArray,List.map_cons,List.map_nil]);first | done | rfl|(simp only [List.length_drop,List.length_take];rfl)) ?_
            with_reducible refine (impl_flowWait.calls ((rd_T71 y1170 a1).f0) ((rd_T71 y1170 a1).f6) t1173 _ A28.out).mono ?_
            rintro e w' ⟨rfl,⟨nd,rfl⟩⟩
            refine ⟨_,rfl,?_⟩
            have p29 : 0 ≤ (a1 : Int):=of_decide_eq_true (by first|(with_reducible assumption) | assumption)
            have q29 : (a1 : Int) < ((x0_10.length : Int) : Int):=of_decide_eq_true (by first|(with_reducible assumption) | assumption)
            obtain ⟨ce29,hcl29,hM29,hcc29,hfr29⟩:=Kd.R_elem HO_0.out z71 (a1 : Int) p29 q29
            obtain rfl:=k71_openM hM29
            have hx29_0 : World.cell? _ ⟨go27,(a1 : Int).toNat * 9,none⟩ = some (.int .i64 ((rd_T71 y1170 a1).f0)):=hcc29 0 _ rfl
            have hx29_1 : World.cell? _ ⟨go27,(a1 : Int).toNat * 9 + 1,none⟩ = some (.string ((rd_T71 y1170 a1).f1)):=hcc29 1 _ rfl
            have hx29_2 : World.cell? _ ⟨go27,(a1 : Int).toNat * 9 + 2,none⟩ = some (.int .i64 ((rd_T71 y1170 a1).f2)):=hcc29 2 _ rfl
            have hx29_3 : World.cell? _ ⟨go27,(a1 : Int).toNat * 9 + 3,none⟩ = some (.int .i64 ((rd_T71 y1170 a1).f3)):=hcc29 3 _ rfl
            have hx29_4 : World.cell? _ ⟨go27,(a1 : Int).toNat * 9 + 4,none⟩ = some (.int .i64 ((rd_T71 y1170 a1).f4)):=hcc29 4 _ rfl
            have hx29_5 : World.cell? _ ⟨go27,(a1 : Int).toNat * 9 + 5,none⟩ = some (.int .i64 ((rd_T71 y1170 a1).f5)):=hcc29 5 _ rfl
            have hx29_6 : World.cell? _ ⟨go27,(a1 : Int).toNat * 9 + 6,none⟩ = some (.int .i64 ((rd_T71 y1170 a1).f6)):=hcc29 6 _ rfl
            have hx29_7 : World.cell? _ ⟨go27,(a1 : Int).toNat * 9 + 7,none⟩ = some (.int .i64 ((rd_T71 y1170 a1).f7)):=hcc29 7 _ rfl
            have hx29_8 : World.cell? _ ⟨go27,(a1 : Int).toNat * 9 + 8,none⟩ = some (.int .i64 ((rd_T71 y1170 a1).f8)):=hcc29 8 _ rfl
            have hf29_0 : World.frozen? _ ⟨go27,(a1 : Int).toNat * 9,none⟩ = false:=hfr29 0
            have hf29_1 : World.frozen? _ ⟨go27,(a1 : Int).toNat * 9 + 1,none⟩ = false:=hfr29 1
            have hf29_2 : World.frozen? _ ⟨go27,(a1 : Int).toNat * 9 + 2,none⟩ = false:=hfr29 2
            have hf29_3 : World.frozen? _ ⟨go27,(a1 : Int).toNat * 9 + 3,none⟩ = false:=hfr29 3
            have hf29_4 : World.frozen? _ ⟨go27,(a1 : Int).toNat * 9 + 4,none⟩ = false:=hfr29 4
            have hf29_5 : World.frozen? _ ⟨go27,(a1 : Int).toNat * 9 + 5,none⟩ = false:=hfr29 5
            have hf29_6 : World.frozen? _ ⟨go27,(a1 : Int).toNat * 9 + 6,none⟩ = false:=hfr29 6
            have hf29_7 : World.frozen? _ ⟨go27,(a1 : Int).toNat * 9 + 7,none⟩ = false:=hfr29 7
            have hf29_8 : World.frozen? _ ⟨go27,(a1 : Int).toNat * 9 + 8,none⟩ = false:=hfr29 8
            clear hcl29 hcc29 hfr29 hM29
            replace p29:=eq_true p29
            replace q29:=eq_true q29
            obtain ⟨ce33,hcl33,hM33,hcc33,hfr33⟩:=Kd.R_elem HO_0.out z71 (a1 : Int) (of_decide_eq_true (by first|(with_reducible assumption) | assumption)) (by have h_ : (a1 : Int) < ((x0_10.length : Int) : Int):=of_decide_eq_true (by first|(with_reducible assumption) | assumption);first|exact h_|(have e_:=(Kd.R_reads' HO_0.out).1;omega) | simpa using h_)
            obtain rfl:=k71_openM hM33
            have HP33:=(Kd.R_seg HO_0.out (a1 : Int) (of_decide_eq_true (by first|(with_reducible assumption) | assumption)) (by have h_ : (a1 : Int) < ((x0_10.length : Int) : Int):=of_decide_eq_true (by first|(with_reducible assumption) | assumption);first|exact h_|(have e_:=(Kd.R_reads' HO_0.out).1;omega) | simpa using h_) (seg:=[.int .i64 (wrap64 (a4 + t1173))]) (j:=7) hcl33 hcc33 (show 8 ≤ 9 from by decide) (x':=(⟨(rd_T71 y1170 a1).f0,(rd_T71 y1170 a1).f1,(rd_T71 y1170 a1).f2,(rd_T71 y1170 a1).f3,(rd_T71 y1170 a1).f4,(rd_T71 y1170 a1).f5,(rd_T71 y1170 a1).f6,wrap64 (a4 + t1173),(rd_T71 y1170 a1).f8⟩ : S71)) (k71_mkM _ _ _ (⟨(rd_T71 y1170 a1).f0,(rd_T71 y1170 a1).f1,(rd_T71 y1170 a1).f2,(rd_T71 y1170 a1).f3,(rd_T71 y1170 a1).f4,(rd_T71 y1170 a1).f5,(rd_T71 y1170 a1).f6,wrap64 (a4 + t1173),(rd_T71 y1170 a1).f8⟩ : S71) ) (fun _ hk => hk)).1
            rw [← Ny1174.out] at HP33
            have HQ33:=aMk HP33
            clear hcl33 hcc33 hfr33 hM33 HP33
            refine hK.out _ _ ⟨hHeld.1,hHeld.2.1,hHeld.2.2.1,hHeld.2.2.2.1,hHeld.2.2.2.2.1,hHeld.2.2.2.2.2.1,hHeld.2.2.2.2.2.2.1,hHeld.2.2.2.2.2.2.2.1,hHeld.2.2.2.2.2.2.2.2.1,hHeld.2.2.2.2.2.2.2.2.2.1,hHeld.2.2.2.2.2.2.2.2.2.2.1,hHeld.2.2.2.2.2.2.2.2.2.2.2.1,hHeld.2.2.2.2.2.2.2.2.2.2.2.2.1,hHeld.2.2.2.2.2.2.2.2.2.2.2.2.2.1,hHeld.2.2.2.2.2.2.2.2.2.2.2.2.2.2.1,hHeld.2.2.2.2.2.2.2.2.2.2.2.2.2.2.2.1,hHeld.2.2.2.2.2.2.2.2.2.2.2.2.2.2.2.2.1,hHeld.2.2.2.2.2.2.2.2.2.2.2.2.2.2.2.2.2⟩ (fun hHeld => ?_)
            clear hK K
            refine norm_ (a':=?_) ?_ ?_
            rotate_left
            ·show Act.put _ (some 55) _ = _
             simp only [Act.put,List.setIfInBounds_toArray,List.set_cons_zero,List.set_cons_succ,i64_w,i32_w]
             rfl
            refine pure_ (i:=11) (N:=some 56) (v:=?_) (a':=?_) #[true,true,true,true,true,true,true,true,true,true,true,true,false,false,false] rfl rfl (any_of HT_.out (by kernel_rfl)) (fun _ _ _ h => h) (Or.inl ⟨by rfl,?_⟩) ?_ ?_
            rotate_left
            ·intro w'
             go_simp
             with_reducible rfl
            rotate_left
            ·simp only [Act.put,List.setIfInBounds_toArray,List.set_cons_zero,List.set_cons_succ,i64_w,i32_w]
             rfl
            refine pure_ (i:=12) (N:=some 57) (v:=?_) (a':=?_) #[true,true,true,true,true,true,true,true,true,true,true,true,true,false,false] rfl rfl (any_of HT_.out (by kernel_rfl)) (fun _ _ _ h => h) (Or.inl ⟨by rfl,?_⟩) ?_ ?_
            rotate_left
            ·intro w'
             go_simp
             with_reducible rfl
            rotate_left
            ·simp only [Act.put,List.setIfInBounds_toArray,List.set_cons_zero,List.set_cons_succ,i64_w,i32_w]
             rfl
            refine pure_ (i:=13) (N:=some 58) (v:=?_) (a':=?_) #[true,true,true,true,true,true,true,true,true,true,true,true,true,true,false] rfl rfl (any_of HT_.out (by kernel_rfl)) (fun _ _ _ h => h) (Or.inl ⟨by rfl,?_⟩) ?_ ?_
            rotate_left
            ·intro w'
             go_simp
             with_reducible rfl
            rotate_left
            ·simp only [Act.put,List.setIfInBounds_toArray,List.set_cons_zero,List.set_cons_succ,i64_w,i32_w]
             rfl
            refine last_ (i:=14) (N:=none) #[true,true,true,true,true,true,true,true,true,true,true,true,true,true,true] rfl rfl (one_of HT_.out (by kernel_rfl)) (by decide) (fun K hK => ?_)
            refine skip_ (w1:=?_) (by rfl) rfl ?_ ?_
            rotate_left
            ·go_simp
             rfl
            refine hK.out _ _ ?_
            clear hK K
            refine done_ (done_of HT_.out (by kernel_rfl)) ?_
            try go_wp2
            go_ret
            exact ⟨_,by first | rfl|(simp [errW_none,errW_some] <;> rfl)|(simp [*,errW_none,errW_some] <;> rfl),by (with_reducible repeat (first|apply Kd.R_alloc|apply Kd.R_drewN|apply Kd.R_drew));exact HQ33.out,by repeat (first|(with_reducible first|exact HB.out|apply bwA|apply bwN|apply bw1|refine below_set ?_ GB27.out)|exact HB.out),by repeat (first|(with_reducible first|exact HK.out|apply Kept.alloc|apply Kept.drewN|apply Kept.drew|refine Kept.setCell ?_ HMgo27.out _)|exact HK.out)⟩
          ·rw [if_neg c21] at H
           have c21b0 : ((Go.bits .and .i64 a3 4) == 0) = false:=beq_eq_false_iff_ne.mpr c21
           have c21b1 : ((Go.bits .and .i64 a3 4) != 0) = true:=bne_iff_ne.mpr c21
           replace H:=Option.bind_eq_some_iff.mp H
           obtain ⟨t1175,A340,H⟩:=H
           replace H : (some t1175) = some r:=H
           have A34:=aMk A340
           clear A340
           obtain rfl:=Option.some.inj H
           have p1165 : 0 ≤ (a1 : Int):=of_decide_eq_true (by first|(with_reducible assumption) | assumption)
           have q1165 : a1 < (x0_10.length : Int):=of_decide_eq_true (by first|(with_reducible assumption) | assumption)
           obtain ⟨ad1165,e1165,hx1165_0,hx1165_1,hx1165_2,hx1165_3,hx1165_4,hx1165_5,hx1165_6,hx1165_7,hx1165_8⟩:=at_T71 (Kd.R_reads' HO_0.out).2.2 a1 p1165 q1165
           obtain rfl : ad1162 = ad1165:=(by injection e1165)
           replace p1165:=eq_true p1165
           replace q1165:=eq_true q1165
           go_wp2_with (first|((with_reducible refine gate_callee (f:=119) rfl ?_);refine gLs 38 Try.func119 #[.slice (some ad1162) x0_10.length co9,.int .i64 a1,.int .i64 (wrap64 (a1 + 1))] ?_;(with_reducible refine (impl_Flow_119.calls (fun k_ => some k_ = (.slice (some ad1162) x0_10.length co9 : Value).ownBlock) (.slice (some ad1162) x0_10.length co9) x0_10 a1 (wrap64 (a1 + 1)) t1175 w0 _ ?side1 ?side2 A34.out).mono ?_);(case side1 => repeat (first|(with_reducible first|exact HB.out|apply bwA|apply bwN|apply bw1)|exact HB.out));(case side2 => exact Kd.R_tight rfl HO_0.out);rintro e w35 ⟨v1176,rfl,ho0,hb,hkp⟩;refine ⟨_,rfl,?_⟩;have n0_:=aMk (Kd.R_mono (ok':=fun k_ => (P0_ k_ ∨ w.heap.size ≤ k_)) ho0 (fun k_ hk_ => Or.elim hk_ (fun hs_ => (HO_0.out.1 k_ (hs_).symm)) (fun hn_ => (.inr (Nat.le_trans (by first|exact HK.out.1|exact (show Kept w _ (fun k_ => P0_ k_) from by repeat (first|(with_reducible first|exact HK.out|apply Kept.alloc|apply Kept.drewN|apply Kept.drew)|exact HK.out)).1) hn_)))));have n1_:=aMk (Kept.then_ (S:=(fun k_ => P0_ k_)) (by repeat (first|(with_reducible first|exact HK.out|apply Kept.alloc|apply Kept.drewN|apply Kept.drew)|exact HK.out)) hkp (fun k_ hs_ => (fun e_ => (HO_0.out.1 k_ e_.symm)) hs_));have n2_:=aMk (hb);clear HK;clear HB;clear HO_0;have HO1177:=n0_;have HK:=n1_;have HB:=n2_;clear n0_ n1_ n2_;(try clear hb);(try clear hkp);(try clear ho0)))
           go_ret
           exact ⟨_,by first | rfl|(simp [errW_none,errW_some] <;> rfl)|(simp [*,errW_none,errW_some] <;> rfl),by (with_reducible repeat (first|apply Kd.R_alloc|apply Kd.R_drewN|apply Kd.R_drew));exact HO1177.out,by repeat (first|(with_reducible first|exact HB.out|apply bwA|apply bwN|apply bw1)|exact HB.out),by repeat (first|(with_reducible first|exact HK.out|apply Kept.alloc|apply Kept.drewN|apply Kept.drew)|exact HK.out)⟩
         ·rw [if_neg c20] at H
          have c20b0 : (((rd_T71 x0_10 a1).f0) == 6) = false:=beq_eq_false_iff_ne.mpr c20
          have c20b1 : (((rd_T71 x0_10 a1).f0) != 6) = true:=bne_iff_ne.mpr c20
          replace H:=Option.bind_eq_some_iff.mp H
          obtain ⟨t1180,A360,H⟩:=H
          replace H : (some (x0_10.set (a1 : Int).toNat (⟨(rd_T71 x0_10 a1).f0,(rd_T71 x0_10 a1).f1,(rd_T71 x0_10 a1).f2,(rd_T71 x0_10 a1).f3,(rd_T71 x0_10 a1).f4,(rd_T71 x0_10 a1).f5,(rd_T71 x0_10 a1).f6,wrap64 (a4 + t1180),(rd_T71 x0_10 a1).f8⟩ : S71))) = some r:=H
          have A36:=aMk A360
          clear A360
          obtain ⟨y1181,hy1181⟩ : ∃ y_ : List (S71),y_ = (x0_10.set (a1 : Int).toNat (⟨(rd_T71 x0_10 a1).f0,(rd_T71 x0_10 a1).f1,(rd_T71 x0_10 a1).f2,(rd_T71 x0_10 a1).f3,(rd_T71 x0_10 a1).f4,(rd_T71 x0_10 a1).f5,(rd_T71 x0_10 a1).f6,wrap64 (a4 + t1180),(rd_T71 x0_10 a1).f8⟩ : S71)):=⟨_,rfl⟩
          replace H : (some y1181) = some r:=by first|(rw [hy1181];with_reducible exact H)|(have H2_:=(Option.bind_some _ _).symm.trans H;rw [hy1181];with_reducible exact H2_)|(have H2_:=(Option.bind_some _ _).symm.trans H;with_reducible exact H2_) | with_reducible exact H|(rw [hy1181];exact H)|exact H
          have Ny1181:=aMk hy1181
          clear hy1181
          obtain rfl:=Option.some.inj H
          have p1165 : 0 ≤ (a1 : Int):=of_decide_eq_true (by first|(with_reducible assumption) | assumption)
          have q1165 : a1 < (x0_10.length : Int):=of_decide_eq_true (by first|(with_reducible assumption) | assumption)
          obtain ⟨ad1165,e1165,hx1165_0,hx1165_1,hx1165_2,hx1165_3,hx1165_4,hx1165_5,hx1165_6,hx1165_7,hx1165_8⟩:=at_T71 (Kd.R_reads' HO_0.out).2.2 a1 p1165 q1165
          obtain rfl : ad1162 = ad1165:=(by injection e1165)
          replace p1165:=eq_true p1165
          replace q1165:=eq_true q1165
          try go_wp2
          have n0_:=aMk (Kd.R_drew HO_0.out)
          have n1_:=aMk (Kept.drew HK.out)
          have n2_:=aMk (bw1 HB.out)
          clear HO_0
          clear HK
          clear HB
          have HO_0:=n0_
          have HK:=n1_
          have HB:=n2_
          clear n0_ n1_ n2_
          have p1178 : 0 ≤ (a1 : Int):=of_decide_eq_true (by first|(with_reducible assumption) | assumption)
          have q1178 : a1 < (x0_10.length : Int):=of_decide_eq_true (by first|(with_reducible assumption) | assumption)
          obtain ⟨ad1178,e1178,hx1178_0,hx1178_1,hx1178_2,hx1178_3,hx1178_4,hx1178_5,hx1178_6,hx1178_7,hx1178_8⟩:=at_T71 (Kd.R_reads' HO_0.out).2.2 a1 p1178 q1178
          obtain rfl : ad1162 = ad1178:=(by injection e1178)
          replace p1178:=eq_true p1178
          replace q1178:=eq_true q1178
          have p1179 : 0 ≤ (a1 : Int):=of_decide_eq_true (by first|(with_reducible assumption) | assumption)
          have q1179 : a1 < (x0_10.length : Int):=of_decide_eq_true (by first|(with_reducible assumption) | assumption)
          obtain ⟨ad1179,e1179,hx1179_0,hx1179_1,hx1179_2,hx1179_3,hx1179_4,hx1179_5,hx1179_6,hx1179_7,hx1179_8⟩:=at_T71 (Kd.R_reads' HO_0.out).2.2 a1 p1179 q1179
          obtain rfl : ad1162 = ad1179:=(by injection e1179)
          replace p1179:=eq_true p1179
          replace q1179:=eq_true q1179
          refine start_ (n:=15) (S:=fun w' => w'.cell? (ad1162.add ((a1).toNat * 9)) = some (.int .i64 ((rd_T71 x0_10 a1).f0)) ∧ w'.cell? ⟨(ad1162.add ((a1).toNat * 9)).block,(ad1162.add ((a1).toNat * 9)).off + 1,none⟩ = some (.string ((rd_T71 x0_10 a1).f1)) ∧ w'.cell? ⟨(ad1162.add ((a1).toNat * 9)).block,(ad1162.add ((a1).toNat * 9)).off + 2,none⟩ = some (.int .i64 ((rd_T71 x0_10 a1).f2)) ∧ w'.cell? ⟨(ad1162.add ((a1).toNat * 9)).block,(ad1162.add ((a1).toNat * 9)).off + 3,none⟩ = some (.int .i64 ((rd_T71 x0_10 a1).f3)) ∧ w'.cell? ⟨(ad1162.add ((a1).toNat * 9)).block,(ad1162.add ((a1).toNat * 9)).off + 4,none⟩ = some (.int .i64 ((rd_T71 x0_10 a1).f4)) ∧ w'.cell? ⟨(ad1162.add ((a1).toNat * 9)).block,(ad1162.add ((a1).toNat * 9)).off + 5,none⟩ = some (.int .i64 ((rd_T71 x0_10 a1).f5)) ∧ w'.cell? ⟨(ad1162.add ((a1).toNat * 9)).block,(ad1162.add ((a1).toNat * 9)).off + 6,none⟩ = some (.int .i64 ((rd_T71 x0_10 a1).f6)) ∧ w'.cell? ⟨(ad1162.add ((a1).toNat * 9)).block,(ad1162.add ((a1).toNat * 9)).off + 7,none⟩ = some (.int .i64 ((rd_T71 x0_10 a1).f7)) ∧ w'.cell? ⟨(ad1162.add ((a1).toNat * 9)).block,(ad1162.add ((a1).toNat * 9)).off + 8,none⟩ = some (.int .i64 ((rd_T71 x0_10 a1).f8)) ∧ w'.cell? (ad1162.add ((a1).toNat * 9)) = some (.int .i64 ((rd_T71 x0_10 a1).f0)) ∧ w'.cell? ⟨(ad1162.add ((a1).toNat * 9)).block,(ad1162.add ((a1).toNat * 9)).off + 1,none⟩ = some (.string ((rd_T71 x0_10 a1).f1)) ∧ w'.cell? ⟨(ad1162.add ((a1).toNat * 9)).block,(ad1162.add ((a1).toNat * 9)).off + 2,none⟩ = some (.int .i64 ((rd_T71 x0_10 a1).f2)) ∧ w'.cell? ⟨(ad1162.add ((a1).toNat * 9)).block,(ad1162.add ((a1).toNat * 9)).off + 3,none⟩ = some (.int .i64 ((rd_T71 x0_10 a1).f3)) ∧ w'.cell? ⟨(ad1162.add ((a1).toNat * 9)).block,(ad1162.add ((a1).toNat * 9)).off + 4,none⟩ = some (.int .i64 ((rd_T71 x0_10 a1).f4)) ∧ w'.cell? ⟨(ad1162.add ((a1).toNat * 9)).block,(ad1162.add ((a1).toNat * 9)).off + 5,none⟩ = some (.int .i64 ((rd_T71 x0_10 a1).f5)) ∧ w'.cell? ⟨(ad1162.add ((a1).toNat * 9)).block,(ad1162.add ((a1).toNat * 9)).off + 6,none⟩ = some (.int .i64 ((rd_T71 x0_10 a1).f6)) ∧ w'.cell? ⟨(ad1162.add ((a1).toNat * 9)).block,(ad1162.add ((a1).toNat * 9)).off + 7,none⟩ = some (.int .i64 ((rd_T71 x0_10 a1).f7)) ∧ w'.cell? ⟨(ad1162.add ((a1).toNat * 9)).block,(ad1162.add ((a1).toNat * 9)).off + 8,none⟩ = some (.int .i64 ((rd_T71 x0_10 a1).f8))) (ds:=[14]) #[false,false,false,false,false,false,false,false,false,false,false,false,false,false,false] (by kernel_rfl) rfl rfl ⟨hx1178_0,hx1178_1,hx1178_2,hx1178_3,hx1178_4,hx1178_5,hx1178_6,hx1178_7,hx1178_8,hx1179_0,hx1179_1,hx1179_2,hx1179_3,hx1179_4,hx1179_5,hx1179_6,hx1179_7,hx1179_8⟩ (fun hHeld => ?_);refine with_tabW impl_flowPass.tab9 impl_flowPass.bits9 (fun HT_ HW_ => ?_)
          generalize wc.drew = w38 at HO_0 HK HB hx1178_0 hx1178_1 hx1178_2 hx1178_3 hx1178_4 hx1178_5 hx1178_6 hx1178_7 hx1178_8 hx1179_0 hx1179_1 hx1179_2 hx1179_3 hx1179_4 hx1179_5 hx1179_6 hx1179_7 hx1179_8 hHeld ⊢
          refine pure_ (i:=0) (N:=some 45) (v:=?_) (a':=?_) #[true,false,false,false,false,false,false,false,false,false,false,false,false,false,false] rfl rfl (any_of HT_.out (by kernel_rfl)) (fun _ _ _ h => h) (Or.inl ⟨by rfl,?_⟩) ?_ ?_
          rotate_left
          ·intro w'
           go_simp
           with_reducible rfl
          rotate_left
          ·simp only [Act.put,List.setIfInBounds_toArray,List.set_cons_zero,List.set_cons_succ,i64_w,i32_w]
           rfl
          refine pure_ (i:=1) (N:=some 46) (v:=?_) (a':=?_) #[true,true,false,false,false,false,false,false,false,false,false,false,false,false,false] rfl rfl (any_of HT_.out (by kernel_rfl)) (fun _ _ _ h => h) (Or.inl ⟨by rfl,?_⟩) ?_ ?_
          rotate_left
          ·intro w'
           go_simp
           with_reducible rfl
          rotate_left
          ·simp only [Act.put,List.setIfInBounds_toArray,List.set_cons_zero,List.set_cons_succ,i64_w,i32_w]
           rfl
          refine pure_ (i:=2) (N:=some 47) (v:=?_) (a':=?_) #[true,true,true,false,false,false,false,false,false,false,false,false,false,false,false] rfl rfl (any_of HT_.out (by kernel_rfl)) (fun _ _ _ h => h) (Or.inl ⟨by rfl,?_⟩) ?_ ?_
          rotate_left
          ·intro w'
           go_simp
           with_reducible rfl
          rotate_left
          ·simp only [Act.put,List.setIfInBounds_toArray,List.set_cons_zero,List.set_cons_succ,i64_w,i32_w]
           rfl
          refine pure_ (i:=3) (N:=some 48) (v:=?_) (a':=?_) #[true,true,true,true,false,false,false,false,false,false,false,false,false,false,false] rfl rfl (any_of HT_.out (by kernel_rfl)) (fun _ _ _ h => h) (Or.inl ⟨by rfl,?_⟩) ?_ ?_
          rotate_left
          ·intro w'
           go_simp
           with_reducible rfl
          rotate_left
          ·simp only [Act.put,List.setIfInBounds_toArray,List.set_cons_zero,List.set_cons_succ,i64_w,i32_w]
           rfl
          refine pure_ (i:=4) (N:=some 49) (v:=?_) (a':=?_) #[true,true,true,true,true,false,false,false,false,false,false,false,false,false,false] rfl rfl (any_of HT_.out (by kernel_rfl)) (fun _ _ _ h => h) (Or.inl ⟨by rfl,?_⟩) ?_ ?_
          rotate_left
          ·intro w'
           go_simp
           with_reducible rfl
          rotate_left
          ·simp only [Act.put,List.setIfInBounds_toArray,List.set_cons_zero,List.set_cons_succ,i64_w,i32_w]
           rfl
          refine pure_ (i:=6) (N:=some 51) (v:=?_) (a':=?_) #[true,true,true,true,true,false,true,false,false,false,false,false,false,false,false] rfl rfl (any_of HT_.out (by kernel_rfl)) (fun _ _ _ h => h) (Or.inl ⟨by rfl,?_⟩) ?_ ?_
          rotate_left
          ·intro w'
           go_simp
           with_reducible rfl
          rotate_left
          ·simp only [Act.put,List.setIfInBounds_toArray,List.set_cons_zero,List.set_cons_succ,i64_w,i32_w]
           rfl
          refine pure_ (i:=7) (N:=some 52) (v:=?_) (a':=?_) #[true,true,true,true,true,false,true,true,false,false,false,false,false,false,false] rfl rfl (any_of HT_.out (by kernel_rfl)) (fun _ _ _ h => h) (Or.inl ⟨by rfl,?_⟩) ?_ ?_
          rotate_left
          ·intro w'
           go_simp
           with_reducible rfl
          rotate_left
          ·simp only [Act.put,List.setIfInBounds_toArray,List.set_cons_zero,List.set_cons_succ,i64_w,i32_w]
           rfl
          refine pure_ (i:=8) (N:=some 53) (v:=?_) (a':=?_) #[true,true,true,true,true,false,true,true,true,false,false,false,false,false,false] rfl rfl (any_of HT_.out (by kernel_rfl)) (fun _ _ _ h => h) (Or.inl ⟨by rfl,?_⟩) ?_ ?_
          rotate_left
          ·intro w'
           go_simp
           with_reducible rfl
          rotate_left
          ·simp only [Act.put,List.setIfInBounds_toArray,List.set_cons_zero,List.set_cons_succ,i64_w,i32_w]
           rfl
          refine take_ (i:=5) (N:=some 50) (v:=?_) (a':=?_) #[true,true,true,true,true,true,true,true,true,false,false,false,false,false,false] rfl rfl (take_ofW HT_.out HW_.out (by kernel_rfl)) (fun _ _ _ h => h) (Or.inl ⟨by rfl,?_⟩) hHeld ?_ ?_
          rotate_left
          ·rintro w' ⟨s0,s1,s2,s3,s4,s5,s6,s7,s8,s9,s10,s11,s12,s13,s14,s15,s16,s17⟩
           go_simp
           with_reducible rfl
          rotate_left
          ·simp only [Act.put,List.setIfInBounds_toArray,List.set_cons_zero,List.set_cons_succ,i64_w,i32_w]
           rfl
          refine take_ (i:=9) (N:=some 54) (v:=?_) (a':=?_) #[true,true,true,true,true,true,true,true,true,true,false,false,false,false,false] rfl rfl (take_ofW HT_.out HW_.out (by kernel_rfl)) (fun _ _ _ h => h) (Or.inl ⟨by rfl,?_⟩) hHeld ?_ ?_
          rotate_left
          ·rintro w' ⟨s0,s1,s2,s3,s4,s5,s6,s7,s8,s9,s10,s11,s12,s13,s14,s15,s16,s17⟩
           go_simp
           with_reducible rfl
          rotate_left
          ·simp only [Act.put,List.setIfInBounds_toArray,List.set_cons_zero,List.set_cons_succ,i64_w,i32_w]
           rfl
          refine one_ (i:=10) (N:=some 55) #[true,true,true,true,true,true,true,true,true,true,true,false,false,false,false] rfl rfl (one_of HT_.out (by kernel_rfl)) (by decide) (fun K hK => ?_)
          refine goes_ Try.func67 (by kernel_rfl) rfl #[.int .i64 ((rd_T71 x0_10 a1).f0),.int .i64 ((rd_T71 x0_10 a1).f6)] (by rfl) rfl rfl (by (try simp only [List.map_toArray,List.map_cons,List.map_nil]);first | done | rfl|(simp only [List.length_drop,List.length_take];rfl)) ?_
          with_reducible refine (impl_flowWait.calls ((rd_T71 x0_10 a1).f0) ((rd_T71 x0_10 a1).f6) t1180 _ A36.out).mono ?_
          rintro e w' ⟨rfl,⟨nd,rfl⟩⟩
          refine ⟨_,rfl,?_⟩
          have p37 : 0 ≤ (a1 : Int):=of_decide_eq_true (by first|(with_reducible assumption) | assumption)
          have q37 : (a1 : Int) < ((x0_10.length : Int) : Int):=of_decide_eq_true (by first|(with_reducible assumption) | assumption)
          obtain ⟨go37,co37,eo37,gb37,gl37,cl37,HG37⟩:=Kd.R_form HO_0.out (by omega)
          (first|cases eo37|(injection eo37 with ea_ en_ ec_;(first|subst ea_|(injection ea_ with ea_;subst ea_));subst ec_;clear en_))
          have GB37:=aMk gb37
          have GG37:=aMk HG37
          clear gb37 gl37 HG37
          have HMgo37:=aMk (show (P0_ go37 ∨ w.heap.size ≤ go37) from (HO_0.out.1 _ rfl))
          (first|simp only [add_plain] at hx1165_0 | skip)
          (first|simp only [add_plain] at hx1165_1 | skip)
          (first|simp only [add_plain] at hx1165_2 | skip)
          (first|simp only [add_plain] at hx1165_3 | skip)
          (first|simp only [add_plain] at hx1165_4 | skip)
          (first|simp only [add_plain] at hx1165_5 | skip)
          (first|simp only [add_plain] at hx1165_6 | skip)
          (first|simp only [add_plain] at hx1165_7 | skip)
          (first|simp only [add_plain] at hx1165_8 | skip)
          (first|simp only [add_plain] at hx1178_0 | skip)
          (first|simp only [add_plain] at hx1178_1 | skip)
          (first|simp only [add_plain] at hx1178_2 | skip)
          (first|simp only [add_plain] at hx1178_3 | skip)
          (first|simp only [add_plain] at hx1178_4 | skip)
          (first|simp only [add_plain] at hx1178_5 | skip)
          (first|simp only [add_plain] at hx1178_6 | skip)
          (first|simp only [add_plain] at hx1178_7 | skip)
          (first|simp only [add_plain] at hx1178_8 | skip)
          (first|simp only [add_plain] at hx1179_0 | skip)
          (first|simp only [add_plain] at hx1179_1 | skip)
          (first|simp only [add_plain] at hx1179_2 | skip)
          (first|simp only [add_plain] at hx1179_3 | skip)
          (first|simp only [add_plain] at hx1179_4 | skip)
          (first|simp only [add_plain] at hx1179_5 | skip)
          (first|simp only [add_plain] at hx1179_6 | skip)
          (first|simp only [add_plain] at hx1179_7 | skip)
          (first|simp only [add_plain] at hx1179_8 | skip)
          obtain ⟨ce37,hcl37,hM37,hcc37,hfr37⟩:=Kd.R_elem HO_0.out z71 (a1 : Int) p37 q37
          obtain rfl:=k71_openM hM37
          have hx37_0 : World.cell? _ ⟨go37,(a1 : Int).toNat * 9,none⟩ = some (.int .i64 ((rd_T71 x0_10 a1).f0)):=hcc37 0 _ rfl
          have hx37_1 : World.cell? _ ⟨go37,(a1 : Int).toNat * 9 + 1,none⟩ = some (.string ((rd_T71 x0_10 a1).f1)):=hcc37 1 _ rfl
          have hx37_2 : World.cell? _ ⟨go37,(a1 : Int).toNat * 9 + 2,none⟩ = some (.int .i64 ((rd_T71 x0_10 a1).f2)):=hcc37 2 _ rfl
          have hx37_3 : World.cell? _ ⟨go37,(a1 : Int).toNat * 9 + 3,none⟩ = some (.int .i64 ((rd_T71 x0_10 a1).f3)):=hcc37 3 _ rfl
          have hx37_4 : World.cell? _ ⟨go37,(a1 : Int).toNat * 9 + 4,none⟩ = some (.int .i64 ((rd_T71 x0_10 a1).f4)):=hcc37 4 _ rfl
          have hx37_5 : World.cell? _ ⟨go37,(a1 : Int).toNat * 9 + 5,none⟩ = some (.int .i64 ((rd_T71 x0_10 a1).f5)):=hcc37 5 _ rfl
          have hx37_6 : World.cell? _ ⟨go37,(a1 : Int).toNat * 9 + 6,none⟩ = some (.int .i64 ((rd_T71 x0_10 a1).f6)):=hcc37 6 _ rfl
          have hx37_7 : World.cell? _ ⟨go37,(a1 : Int).toNat * 9 + 7,none⟩ = some (.int .i64 ((rd_T71 x0_10 a1).f7)):=hcc37 7 _ rfl
          have hx37_8 : World.cell? _ ⟨go37,(a1 : Int).toNat * 9 + 8,none⟩ = some (.int .i64 ((rd_T71 x0_10 a1).f8)):=hcc37 8 _ rfl
          have hf37_0 : World.frozen? _ ⟨go37,(a1 : Int).toNat * 9,none⟩ = false:=hfr37 0
          have hf37_1 : World.frozen? _ ⟨go37,(a1 : Int).toNat * 9 + 1,none⟩ = false:=hfr37 1
          have hf37_2 : World.frozen? _ ⟨go37,(a1 : Int).toNat * 9 + 2,none⟩ = false:=hfr37 2
          have hf37_3 : World.frozen? _ ⟨go37,(a1 : Int).toNat * 9 + 3,none⟩ = false:=hfr37 3
          have hf37_4 : World.frozen? _ ⟨go37,(a1 : Int).toNat * 9 + 4,none⟩ = false:=hfr37 4
          have hf37_5 : World.frozen? _ ⟨go37,(a1 : Int).toNat * 9 + 5,none⟩ = false:=hfr37 5
          have hf37_6 : World.frozen? _ ⟨go37,(a1 : Int).toNat * 9 + 6,none⟩ = false:=hfr37 6
          have hf37_7 : World.frozen? _ ⟨go37,(a1 : Int).toNat * 9 + 7,none⟩ = false:=hfr37 7
          have hf37_8 : World.frozen? _ ⟨go37,(a1 : Int).toNat * 9 + 8,none⟩ = false:=hfr37 8
          clear hcl37 hcc37 hfr37 hM37
          replace p37:=eq_true p37
          replace q37:=eq_true q37
          obtain ⟨ce39,hcl39,hM39,hcc39,hfr39⟩:=Kd.R_elem HO_0.out z71 (a1 : Int) (of_decide_eq_true (by first|(with_reducible assumption) | assumption)) (by have h_ : (a1 : Int) < ((x0_10.length : Int) : Int):=of_decide_eq_true (by first|(with_reducible assumption) | assumption);first|exact h_|(have e_:=(Kd.R_reads' HO_0.out).1;omega) | simpa using h_)
          obtain rfl:=k71_openM hM39
          have HP39:=(Kd.R_seg HO_0.out (a1 : Int) (of_decide_eq_true (by first|(with_reducible assumption) | assumption)) (by have h_ : (a1 : Int) < ((x0_10.length : Int) : Int):=of_decide_eq_true (by first|(with_reducible assumption) | assumption);first|exact h_|(have e_:=(Kd.R_reads' HO_0.out).1;omega) | simpa using h_) (seg:=[.int .i64 (wrap64 (a4 + t1180))]) (j:=7) hcl39 hcc39 (show 8 ≤ 9 from by decide) (x':=(⟨(rd_T71 x0_10 a1).f0,(rd_T71 x0_10 a1).f1,(rd_T71 x0_10 a1).f2,(rd_T71 x0_10 a1).f3,(rd_T71 x0_10 a1).f4,(rd_T71 x0_10 a1).f5,(rd_T71 x0_10 a1).f6,wrap64 (a4 + t1180),(rd_T71 x0_10 a1).f8⟩ : S71)) (k71_mkM _ _ _ (⟨(rd_T71 x0_10 a1).f0,(rd_T71 x0_10 a1).f1,(rd_T71 x0_10 a1).f2,(rd_T71 x0_10 a1).f3,(rd_T71 x0_10 a1).f4,(rd_T71 x0_10 a1).f5,(rd_T71 x0_10 a1).f6,wrap64 (a4 + t1180),(rd_T71 x0_10 a1).f8⟩ : S71) ) (fun _ hk => hk)).1
          rw [← Ny1181.out] at HP39
          have HQ39:=aMk HP39
          clear hcl39 hcc39 hfr39 hM39 HP39
          refine hK.out _ _ ⟨hHeld.1,hHeld.2.1,hHeld.2.2.1,hHeld.2.2.2.1,hHeld.2.2.2.2.1,hHeld.2.2.2.2.2.1,hHeld.2.2.2.2.2.2.1,hHeld.2.2.2.2.2.2.2.1,hHeld.2.2.2.2.2.2.2.2.1,hHeld.2.2.2.2.2.2.2.2.2.1,hHeld.2.2.2.2.2.2.2.2.2.2.1,hHeld.2.2.2.2.2.2.2.2.2.2.2.1,hHeld.2.2.2.2.2.2.2.2.2.2.2.2.1,hHeld.2.2.2.2.2.2.2.2.2.2.2.2.2.1,hHeld.2.2.2.2.2.2.2.2.2.2.2.2.2.2.1,hHeld.2.2.2.2.2.2.2.2.2.2.2.2.2.2.2.1,hHeld.2.2.2.2.2.2.2.2.2.2.2.2.2.2.2.2.1,hHeld.2.2.2.2.2.2.2.2.2.2.2.2.2.2.2.2.2⟩ (fun hHeld => ?_)
          clear hK K
          refine norm_ (a':=?_) ?_ ?_
          rotate_left
          ·show Act.put _ (some 55) _ = _
           simp only [Act.put,List.setIfInBounds_toArray,List.set_cons_zero,List.set_cons_succ,i64_w,i32_w]
           rfl
          refine pure_ (i:=11) (N:=some 56) (v:=?_) (a':=?_) #[true,true,true,true,true,true,true,true,true,true,true,true,false,false,false] rfl rfl (any_of HT_.out (by kernel_rfl)) (fun _ _ _ h => h) (Or.inl ⟨by rfl,?_⟩) ?_ ?_
          rotate_left
          ·intro w'
           go_simp
           with_reducible rfl
          rotate_left
          ·simp only [Act.put,List.setIfInBounds_toArray,List.set_cons_zero,List.set_cons_succ,i64_w,i32_w]
           rfl
          refine pure_ (i:=12) (N:=some 57) (v:=?_) (a':=?_) #[true,true,true,true,true,true,true,true,true,true,true,true,true,false,false] rfl rfl (any_of HT_.out (by kernel_rfl)) (fun _ _ _ h => h) (Or.inl ⟨by rfl,?_⟩) ?_ ?_
          rotate_left
          ·intro w'
           go_simp
           with_reducible rfl
          rotate_left
          ·simp only [Act.put,List.setIfInBounds_toArray,List.set_cons_zero,List.set_cons_succ,i64_w,i32_w]
           rfl
          refine pure_ (i:=13) (N:=some 58) (v:=?_) (a':=?_) #[true,true,true,true,true,true,true,true,true,true,true,true,true,true,false] rfl rfl (any_of HT_.out (by kernel_rfl)) (fun _ _ _ h => h) (Or.inl ⟨by rfl,?_⟩) ?_ ?_
          rotate_left
          ·intro w'
           go_simp
           with_reducible rfl
          rotate_left
          ·simp only [Act.put,List.setIfInBounds_toArray,List.set_cons_zero,List.set_cons_succ,i64_w,i32_w]
           rfl
          refine last_ (i:=14) (N:=none) #[true,true,true,true,true,true,true,true,true,true,true,true,true,true,true] rfl rfl (one_of HT_.out (by kernel_rfl)) (by decide) (fun K hK => ?_)
          refine skip_ (w1:=?_) (by rfl) rfl ?_ ?_
          rotate_left
          ·go_simp
           rfl
          refine hK.out _ _ ?_
          clear hK K
          refine done_ (done_of HT_.out (by kernel_rfl)) ?_
          try go_wp2
          go_ret
          exact ⟨_,by first | rfl|(simp [errW_none,errW_some] <;> rfl)|(simp [*,errW_none,errW_some] <;> rfl),by (with_reducible repeat (first|apply Kd.R_alloc|apply Kd.R_drewN|apply Kd.R_drew));exact HQ39.out,by repeat (first|(with_reducible first|exact HB.out|apply bwA|apply bwN|apply bw1|refine below_set ?_ GB37.out)|exact HB.out),by repeat (first|(with_reducible first|exact HK.out|apply Kept.alloc|apply Kept.drewN|apply Kept.drew|refine Kept.setCell ?_ HMgo37.out _)|exact HK.out)⟩
        ·rw [if_neg c19] at H
         exact absurd H (by simp)
       ·rw [if_neg c18] at H
        exact absurd H (by simp)
  ·rw [if_neg c7] at H
   exact absurd H (by simp)
 ·rw [if_neg c6] at H
  exact absurd H (by simp)
end
section
/-! ### impl_within: function 62 -/
def impl_within.f (a0 : Int) (a1 : Int) (a2 : Int) : Option (Bool):=if a0 ≥ a1 then (some (decide (a0 ≤ a2))) else (some false)
set_option maxHeartbeats 8000000 in
set_option maxRecDepth 100000 in
theorem impl_within.calls (a0 : Int) (a1 : Int) (a2 : Int) (r : Bool) (w : World) (h : impl_within.f a0 a1 a2 = some r) :
  Calls Try.prog 62 #[.int .i64 a0,.int .i64 a1,.int .i64 a2] w fun e w' => e = .returned (.bool r) ∧ Drawn0 w w':=by
 have H : (if a0 ≥ a1 then (some (decide (a0 ≤ a2))) else (some false)) = some r:=h
 clear h
 by_cases c4 : a0 ≥ a1
 ·rw [if_pos c4] at H
  have c4b0 : decide (a1 ≤ a0) = true:=decide_eq_true c4
  clear c4
  obtain rfl:=Option.some.inj H
  go_enter Try.func62,Try.ntmps62
  go_wp2
  go_ret
  exact ⟨by first | rfl|(simp;done)|(simp [*];done)|(simp [ne_nil_b];done)|(simp [ne_nil_b, *];done),by repeat (first|exact Drawn0.refl _|apply Drawn0.step)⟩
 ·rw [if_neg c4] at H
  have c4b0 : decide (a1 ≤ a0) = false:=decide_eq_false c4
  clear c4
  obtain rfl:=Option.some.inj H
  go_enter Try.func62,Try.ntmps62
  go_wp2
  go_ret
  exact ⟨by first | rfl|(simp;done)|(simp [*];done)|(simp [ne_nil_b];done)|(simp [ne_nil_b, *];done),by repeat (first|exact Drawn0.refl _|apply Drawn0.step)⟩
end
section
/-! ### impl_isAddress: function 61 -/
def impl_isAddress.f (a0 : Int) : Option (Bool):=(impl_within.f a0 0 4294967295).bind fun t106 => (some t106)
set_option maxHeartbeats 8000000 in
set_option maxRecDepth 100000 in
theorem impl_isAddress.calls (a0 : Int) (r : Bool) (w : World) (h : impl_isAddress.f a0 = some r) :
  Calls Try.prog 61 #[.int .i64 a0] w fun e w' => e = .returned (.bool r) ∧ Drawn0 w w':=by
 have H : ((impl_within.f a0 0 4294967295).bind fun t106 => (some t106)) = some r:=h
 clear h
 replace H:=Option.bind_eq_some_iff.mp H
 obtain ⟨t106,A20,H⟩:=H
 replace H : (some t106) = some r:=H
 have A2:=aMk A20
 clear A20
 obtain rfl:=Option.some.inj H
 go_enter Try.func61,Try.ntmps61
 go_wp2_with (first|((with_reducible refine gate_callee (f:=62) rfl ?_);refine gLs 4 Try.func62 #[.int .i64 a0,.int .i64 0,.int .i64 4294967295] ?_;(with_reducible refine (impl_within.calls a0 0 4294967295 t106 _ A2.out).mono ?_);rintro e w' ⟨rfl,⟨nd,rfl⟩⟩;refine ⟨_,rfl,?_⟩))
 go_ret
 exact ⟨by first | rfl|(simp;done)|(simp [*];done)|(simp [ne_nil_b];done)|(simp [ne_nil_b, *];done),by repeat (first|exact Drawn0.refl _|apply Drawn0.step)⟩
end
section
/-! ### impl_isProto: function 66 -/
def impl_isProto.f (a0 : Int) : Option (Bool):=(impl_within.f a0 0 255).bind fun t137 => (some t137)
set_option maxHeartbeats 8000000 in
set_option maxRecDepth 100000 in
theorem impl_isProto.calls (a0 : Int) (r : Bool) (w : World) (h : impl_isProto.f a0 = some r) :
  Calls Try.prog 66 #[.int .i64 a0] w fun e w' => e = .returned (.bool r) ∧ Drawn0 w w':=by
 have H : ((impl_within.f a0 0 255).bind fun t137 => (some t137)) = some r:=h
 clear h
 replace H:=Option.bind_eq_some_iff.mp H
 obtain ⟨t137,A20,H⟩:=H
 replace H : (some t137) = some r:=H
 have A2:=aMk A20
 clear A20
 obtain rfl:=Option.some.inj H
 go_enter Try.func66,Try.ntmps66
 go_wp2_with (first|((with_reducible refine gate_callee (f:=62) rfl ?_);refine gLs 4 Try.func62 #[.int .i64 a0,.int .i64 0,.int .i64 255] ?_;(with_reducible refine (impl_within.calls a0 0 255 t137 _ A2.out).mono ?_);rintro e w' ⟨rfl,⟨nd,rfl⟩⟩;refine ⟨_,rfl,?_⟩))
 go_ret
 exact ⟨by first | rfl|(simp;done)|(simp [*];done)|(simp [ne_nil_b];done)|(simp [ne_nil_b, *];done),by repeat (first|exact Drawn0.refl _|apply Drawn0.step)⟩
end
section
/-! ### impl_macOK: function 72 -/
def impl_macOK.f (a0 : ByteArray) : Option (Bool):=some ((a0.size : Int) == 6)
set_option maxHeartbeats 8000000 in
set_option maxRecDepth 100000 in
theorem impl_macOK.calls (a0 : ByteArray) (r : Bool) (w : World) (h : impl_macOK.f a0 = some r) :
  Calls Try.prog 72 #[.string a0] w fun e w' => e = .returned (.bool r) ∧ Drawn0 w w':=by
 have H : (some ((a0.size : Int) == 6)) = some r:=h
 clear h
 obtain rfl:=Option.some.inj H
 go_enter Try.func72,Try.ntmps72
 go_wp2
 go_ret
 exact ⟨by first | rfl|(simp;done)|(simp [*];done)|(simp [ne_nil_b];done)|(simp [ne_nil_b, *];done),by repeat (first|exact Drawn0.refl _|apply Drawn0.step)⟩
end
section
/-! ### impl_isPort: function 73 -/
def impl_isPort.f (a0 : Int) : Option (Bool):=(impl_within.f a0 0 65535).bind fun t165 => (some t165)
set_option maxHeartbeats 8000000 in
set_option maxRecDepth 100000 in
theorem impl_isPort.calls (a0 : Int) (r : Bool) (w : World) (h : impl_isPort.f a0 = some r) :
  Calls Try.prog 73 #[.int .i64 a0] w fun e w' => e = .returned (.bool r) ∧ Drawn0 w w':=by
 have H : ((impl_within.f a0 0 65535).bind fun t165 => (some t165)) = some r:=h
 clear h
 replace H:=Option.bind_eq_some_iff.mp H
 obtain ⟨t165,A20,H⟩:=H
 replace H : (some t165) = some r:=H
 have A2:=aMk A20
 clear A20
 obtain rfl:=Option.some.inj H
 go_enter Try.func73,Try.ntmps73
 go_wp2_with (first|((with_reducible refine gate_callee (f:=62) rfl ?_);refine gLs 4 Try.func62 #[.int .i64 a0,.int .i64 0,.int .i64 65535] ?_;(with_reducible refine (impl_within.calls a0 0 65535 t165 _ A2.out).mono ?_);rintro e w' ⟨rfl,⟨nd,rfl⟩⟩;refine ⟨_,rfl,?_⟩))
 go_ret
 exact ⟨by first | rfl|(simp;done)|(simp [*];done)|(simp [ne_nil_b];done)|(simp [ne_nil_b, *];done),by repeat (first|exact Drawn0.refl _|apply Drawn0.step)⟩
end
end Go.Proofs.Ytlpkldomoniegaa.X
