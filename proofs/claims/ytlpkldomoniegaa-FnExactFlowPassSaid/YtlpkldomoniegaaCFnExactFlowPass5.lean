/- The program's FlowPass returns what the reference's FlowPass returns, for all arguments. Conditions: none beyond the row's own reach. -/
import Derived.Test.YtlpkldomoniegaaCFnExactFlowPass4
import Derived.Test.YtlpkldomoniegaaRows
namespace Go.Proofs.Ytlpkldomoniegaa.X
open Go.RowKit Go.Proofs.YtlpkldomoniegaaW.PrintWords Go.Proofs.YtlpkldomoniegaaW.PrintLast Go.Proofs.YtlpkldomoniegaaW.PrintMore
attribute [local go_sem] max2_int min2_int max_two min_two max_three min_three max_four min_four   -- for this text's walks alone
set_option linter.unusedVariables false
set_option linter.unusedSimpArgs false
open Go.Proofs.YtlpkldomoniegaaW.PrintWords renaming blk_drewN -> bDn
open Go.Proofs.YtlpkldomoniegaaW.PrintWords renaming blk_drew -> bDr
open Go.Proofs.YtlpkldomoniegaaW.PrintWords renaming blk_alloc -> bAl
open Go.Proofs.YtlpkldomoniegaaW.PrintWords renaming blk_frozen -> bFr
open Go.Proofs.YtlpkldomoniegaaW.PrintWords renaming blk_cell -> bCe
open Go.Proofs.YtlpkldomoniegaaW.PrintWords.Aside0 renaming mk -> aMk
open Go.World renaming block_lt_of_cell? -> wLt
open Go.Proofs.YtlpkldomoniegaaW.PrintWords renaming pw_below_drewN -> bwN
open Go.Proofs.YtlpkldomoniegaaW.PrintWords renaming below_drew1 -> bw1
open Go.Proofs.YtlpkldomoniegaaW.PrintWords renaming below_alloc -> bwA
section
/-! ### spec_FlowFind: function 31 -/
def spec_FlowFind.j0 : Nat → List (S71) → Int → Int → Int → Int → Int → Bool → Option (Int × Bool × Int)
 | 0,_,_,_,_,_,_,_ => none
 | k + 1,x0,x1,x2,x3,x4,x5,x37 => if x37 = true then (some (0,false,4)) else ((spec_l09Find.f k x0 x1 x2 x3 x4 x5).bind fun bt304 => (if bt304.1 < 0 then (some (0,false,5)) else (some (bt304.1,bt304.2,0))))
def spec_FlowFind.f (k : Nat) (l0 : List (S71)) (a1 : Int) (a2 : Int) (a3 : Int) (a4 : Int) (a5 : Int) : Option (Int × Bool × Int):=if (l0.length : Int) > 4096 then (some (0,false,2)) else ((spec_FlowsOK.f k l0).bind fun t300 => (if t300 = true then ((spec_l01In.f a1 0 255).bind fun t301 => (if t301 = true then ((spec_l07Ask.f a2 a3).bind fun t302 => (if t302 = true then ((spec_l07Ask.f a4 a5).bind fun t303 => (spec_FlowFind.j0 k l0 a1 a2 a3 a4 a5 (!t303))) else (spec_FlowFind.j0 k l0 a1 a2 a3 a4 a5 true))) else (spec_FlowFind.j0 k l0 a1 a2 a3 a4 a5 true))) else (some (0,false,1))))
theorem spec_FlowFind.mono_l : ∀ k,(∀ y0 y1 y2 y3 y4 y5 y6,LeO (spec_FlowFind.j0 k y0 y1 y2 y3 y4 y5 y6) (spec_FlowFind.j0 (k + 1) y0 y1 y2 y3 y4 y5 y6))
 | 0 => fun _ _ _ _ _ _ _ r h => by simp [spec_FlowFind.j0] at h
 | k + 1 => by
  have ih0:=spec_FlowFind.mono_l k
  ·intro y0 y1 y2 y3 y4 y5 y6
   unfold spec_FlowFind.j0
   repeat' first
   | (with_reducible exact ih0 _ _ _ _ _ _ _)
   | (with_reducible exact spec_FlowsOK.mono ..)
   | (with_reducible exact spec_l09Find.mono ..)
   | (with_reducible exact LeO.refl _)
   | (with_reducible exact LeO.none _)
   | (with_reducible refine LeO.ite ?_ ?_)
   | (with_reducible refine LeO.bind ?_ (fun _ => ?_))
   | exact ih0 _ _ _ _ _ _ _
   | exact spec_FlowsOK.mono ..
   | exact spec_l09Find.mono ..
   | exact LeO.none _
   | refine LeO.ite ?_ ?_
   | refine LeO.bind ?_ (fun _ => ?_)
theorem spec_FlowFind.mono : ∀ a0 a1 a2 a3 a4 a5 k,LeO (spec_FlowFind.f k a0 a1 a2 a3 a4 a5) (spec_FlowFind.f (k + 1) a0 a1 a2 a3 a4 a5):=by
 intro a0 a1 a2 a3 a4 a5 k
 have ih0:=spec_FlowFind.mono_l k
 unfold spec_FlowFind.f
 repeat' first
   | (with_reducible exact ih0 _ _ _ _ _ _ _)
   | (with_reducible exact spec_FlowsOK.mono ..)
   | (with_reducible exact spec_l09Find.mono ..)
   | (with_reducible exact LeO.refl _)
   | (with_reducible exact LeO.none _)
   | (with_reducible refine LeO.ite ?_ ?_)
   | (with_reducible refine LeO.bind ?_ (fun _ => ?_))
   | exact ih0 _ _ _ _ _ _ _
   | exact spec_FlowsOK.mono ..
   | exact spec_l09Find.mono ..
   | exact LeO.none _
   | refine LeO.ite ?_ ?_
   | refine LeO.bind ?_ (fun _ => ?_)
set_option maxHeartbeats 8000000 in
set_option maxRecDepth 100000 in
theorem spec_FlowFind.calls (k : Nat) (A0 : Option Addr) (c0 : Nat) (l0 : List (S71)) (a1 : Int) (a2 : Int) (a3 : Int) (a4 : Int) (a5 : Int) (r1 : Int) (r2 : Bool) (r3 : Int) (w : World) (hr0 : Kd.C k71 w A0 l0.length l0) (hc0 : l0.length ≤ c0) (h : spec_FlowFind.f k l0 a1 a2 a3 a4 a5 = some (r1,r2,r3)) :
  Calls Try.prog 31 #[.slice A0 l0.length c0,.int .i64 a1,.int .i64 a2,.int .i64 a3,.int .i64 a4,.int .i64 a5] w fun e w' => e = .returned (.tuple #[.int .i64 r1,.bool r2,.int .i64 r3]) ∧ Below w.heap.size w w':=by
 have HR0:=aMk hr0
 have HC0:=aMk hc0
 clear hr0 hc0
 have HB:=aMk (Below.refl w.heap.size w)
 have H : (if (l0.length : Int) > 4096 then (some (0,false,2)) else ((spec_FlowsOK.f k l0).bind fun t300 => (if t300 = true then ((spec_l01In.f a1 0 255).bind fun t301 => (if t301 = true then ((spec_l07Ask.f a2 a3).bind fun t302 => (if t302 = true then ((spec_l07Ask.f a4 a5).bind fun t303 => (spec_FlowFind.j0 k l0 a1 a2 a3 a4 a5 (!t303))) else (spec_FlowFind.j0 k l0 a1 a2 a3 a4 a5 true))) else (spec_FlowFind.j0 k l0 a1 a2 a3 a4 a5 true))) else (some (0,false,1))))) = some (r1,r2,r3):=h
 clear h
 by_cases c7 : (l0.length : Int) > 4096
 ·rw [if_pos c7] at H
  have c7b0 : decide (4096 < (l0.length : Int)) = true:=decide_eq_true c7
  have c7b1 : decide (4096 < l0.length) = true:=decide_eq_true (by omega)
  clear c7
  simp only [Option.some.injEq,Prod.mk.injEq] at H
  obtain ⟨rfl,rfl,rfl⟩:=H
  go_enter Try.func31,Try.ntmps31
  go_wp2
  go_ret3
  exact ⟨eRf,by repeat (first|(with_reducible first|exact HB.out|apply bwA|apply bwN|apply bw1)|exact HB.out)⟩
 ·rw [if_neg c7] at H
  have c7b0 : decide (4096 < (l0.length : Int)) = false:=decide_eq_false c7
  have c7b1 : decide (4096 < l0.length) = false:=decide_eq_false (by omega)
  clear c7
  replace H:=Option.bind_eq_some_iff.mp H
  obtain ⟨t300,A80,H⟩:=H
  replace H : (if t300 = true then ((spec_l01In.f a1 0 255).bind fun t301 => (if t301 = true then ((spec_l07Ask.f a2 a3).bind fun t302 => (if t302 = true then ((spec_l07Ask.f a4 a5).bind fun t303 => (spec_FlowFind.j0 k l0 a1 a2 a3 a4 a5 (!t303))) else (spec_FlowFind.j0 k l0 a1 a2 a3 a4 a5 true))) else (spec_FlowFind.j0 k l0 a1 a2 a3 a4 a5 true))) else (some (0,false,1))) = some (r1,r2,r3):=H
  have A8:=aMk A80
  clear A80
  by_cases c9 : t300 = true
  ·subst c9
   have H1 : ((spec_l01In.f a1 0 255).bind fun t301 => (if t301 = true then ((spec_l07Ask.f a2 a3).bind fun t302 => (if t302 = true then ((spec_l07Ask.f a4 a5).bind fun t303 => (spec_FlowFind.j0 k l0 a1 a2 a3 a4 a5 (!t303))) else (spec_FlowFind.j0 k l0 a1 a2 a3 a4 a5 true))) else (spec_FlowFind.j0 k l0 a1 a2 a3 a4 a5 true))) = some (r1,r2,r3):=by rw [if_pos rfl] at H;exact H
   clear H
   have H:=H1
   clear H1
   have HC10:=aMk H
   clear H
   go_enter Try.func31,Try.ntmps31
   go_upto_region 5 with (first|((with_reducible refine gate_callee (f:=27) rfl ?_);refine gLs 21 Try.func27 #[.slice A0 l0.length c0] ?_;(with_reducible refine (spec_FlowsOK.calls k _ _ l0 true _ ?side1 ?side2 A8.out).mono ?_);(case side1 => repeat (first|exact HR0.out|(with_reducible refine Kd.C_alloc ?_ _)|(with_reducible refine Kd.C_drewN ?_ _)|(with_reducible refine Kd.C_drew ?_)));(case side2 => exact HC0.out);rintro e w11 ⟨rfl,hb⟩;refine ⟨_,rfl,?_⟩;have n0_:=aMk (bSt hb);clear HB;have HB:=n0_;clear n0_;(try clear hb);(try clear hb2);(try clear hk);(try clear hi)))
   (try simp only [Act.put,List.setIfInBounds_toArray,List.set_cons_zero,List.set_cons_succ])
   go_cut [37] (fun v37 wc => ∃ (kq : Nat) (x37_9 : Bool),v37 = .bool x37_9 ∧ Aside0 (spec_FlowFind.j0 kq l0 a1 a2 a3 a4 a5 x37_9 = some (r1,r2,r3)) ∧ Aside0 (kq ≤ k) ∧ Aside0 (Below w.heap.size w wc))
   case first =>
    have H:=HC10.out
    clear HC10
    replace H:=Option.bind_eq_some_iff.mp H
    obtain ⟨t301,A120,H⟩:=H
    replace H : (if t301 = true then ((spec_l07Ask.f a2 a3).bind fun t302 => (if t302 = true then ((spec_l07Ask.f a4 a5).bind fun t303 => (spec_FlowFind.j0 k l0 a1 a2 a3 a4 a5 (!t303))) else (spec_FlowFind.j0 k l0 a1 a2 a3 a4 a5 true))) else (spec_FlowFind.j0 k l0 a1 a2 a3 a4 a5 true)) = some (r1,r2,r3):=H
    have A12:=aMk A120
    clear A120
    by_cases c13 : t301 = true
    ·subst c13
     have H1 : ((spec_l07Ask.f a2 a3).bind fun t302 => (if t302 = true then ((spec_l07Ask.f a4 a5).bind fun t303 => (spec_FlowFind.j0 k l0 a1 a2 a3 a4 a5 (!t303))) else (spec_FlowFind.j0 k l0 a1 a2 a3 a4 a5 true))) = some (r1,r2,r3):=by rw [if_pos rfl] at H;exact H
     clear H
     have H:=H1
     clear H1
     replace H:=Option.bind_eq_some_iff.mp H
     obtain ⟨t302,A140,H⟩:=H
     replace H : (if t302 = true then ((spec_l07Ask.f a4 a5).bind fun t303 => (spec_FlowFind.j0 k l0 a1 a2 a3 a4 a5 (!t303))) else (spec_FlowFind.j0 k l0 a1 a2 a3 a4 a5 true)) = some (r1,r2,r3):=H
     have A14:=aMk A140
     clear A140
     by_cases c15 : t302 = true
     ·subst c15
      have H1 : ((spec_l07Ask.f a4 a5).bind fun t303 => (spec_FlowFind.j0 k l0 a1 a2 a3 a4 a5 (!t303))) = some (r1,r2,r3):=by rw [if_pos rfl] at H;exact H
      clear H
      have H:=H1
      clear H1
      replace H:=Option.bind_eq_some_iff.mp H
      obtain ⟨t303,A160,H⟩:=H
      replace H : (spec_FlowFind.j0 k l0 a1 a2 a3 a4 a5 (!t303)) = some (r1,r2,r3):=H
      have A16:=aMk A160
      clear A160
      have H':=aMk H
      clear H
      go_wp2_with (first|((with_reducible refine gate_callee (f:=64) rfl ?_);refine gLs 24 Try.func64 #[.int .i64 a1,.int .i64 0,.int .i64 255] ?_;(with_reducible refine (spec_l01In.calls a1 0 255 true _ A12.out).mono ?_);rintro e w' ⟨rfl,⟨nd,rfl⟩⟩;refine ⟨_,rfl,?_⟩)|(go_at_call 69;(with_reducible refine (spec_l07Ask.calls a2 a3 true _ A14.out).mono ?_);rintro e w' ⟨rfl,⟨nd,rfl⟩⟩)|(go_at_call 69;(with_reducible refine (spec_l07Ask.calls a4 a5 t303 _ A16.out).mono ?_);rintro e w' ⟨rfl,⟨nd,rfl⟩⟩))
      go_meet
      case rel => exact ⟨_,(!t303),(by first | rfl|(simp;done)|(simp [*];done)|(simp [ne_nil_b];done)|(simp [ne_nil_b, *];done)),H',⟨by first | omega|exact Nat.le_refl _⟩,⟨by repeat (first|(with_reducible first|exact HB.out|apply bwA|apply bwN|apply bw1)|exact HB.out)⟩⟩
     ·replace c15:=Bool.eq_false_iff.mpr c15
      subst c15
      have H1 : (spec_FlowFind.j0 k l0 a1 a2 a3 a4 a5 true) = some (r1,r2,r3):=by rw [if_neg (show ¬ (false = true) by decide)] at H;exact H
      clear H
      have H:=H1
      clear H1
      have H':=aMk H
      clear H
      go_wp2_with (first|((with_reducible refine gate_callee (f:=64) rfl ?_);refine gLs 24 Try.func64 #[.int .i64 a1,.int .i64 0,.int .i64 255] ?_;(with_reducible refine (spec_l01In.calls a1 0 255 true _ A12.out).mono ?_);rintro e w' ⟨rfl,⟨nd,rfl⟩⟩;refine ⟨_,rfl,?_⟩)|(go_at_call 69;(with_reducible refine (spec_l07Ask.calls a2 a3 false _ A14.out).mono ?_);rintro e w' ⟨rfl,⟨nd,rfl⟩⟩))
      go_meet
      case rel => exact ⟨_,(true),(by first | rfl|(simp;done)|(simp [*];done)|(simp [ne_nil_b];done)|(simp [ne_nil_b, *];done)),H',⟨by first | omega|exact Nat.le_refl _⟩,⟨by repeat (first|(with_reducible first|exact HB.out|apply bwA|apply bwN|apply bw1)|exact HB.out)⟩⟩
    ·replace c13:=Bool.eq_false_iff.mpr c13
     subst c13
     have H1 : (spec_FlowFind.j0 k l0 a1 a2 a3 a4 a5 true) = some (r1,r2,r3):=by rw [if_neg (show ¬ (false = true) by decide)] at H;exact H
     clear H
     have H:=H1
     clear H1
     have H':=aMk H
     clear H
     go_wp2_with (first|((with_reducible refine gate_callee (f:=64) rfl ?_);refine gLs 24 Try.func64 #[.int .i64 a1,.int .i64 0,.int .i64 255] ?_;(with_reducible refine (spec_l01In.calls a1 0 255 false _ A12.out).mono ?_);rintro e w' ⟨rfl,⟨nd,rfl⟩⟩;refine ⟨_,rfl,?_⟩))
     go_meet
     case rel => exact ⟨_,(true),(by first | rfl|(simp;done)|(simp [*];done)|(simp [ne_nil_b];done)|(simp [ne_nil_b, *];done)),H',⟨by first | omega|exact Nat.le_refl _⟩,⟨by repeat (first|(with_reducible first|exact HB.out|apply bwA|apply bwN|apply bw1)|exact HB.out)⟩⟩
   case rest =>
    clear HC10
    try clear c1
    try clear c2
    try clear p2
    try clear c3
    try clear c6
    try clear c7
    try clear c7b0
    try clear c7b1
    try clear c9
    try clear c13
    try clear c15
    obtain ⟨kq,x37_9,rfl,HA,HJ9,HB⟩:=hcut
    cases kq with
    | zero => exact absurd HA.out (by simp [spec_FlowFind.j0])
    | succ kj9 =>
     have H:=HA.out
     clear HA
     simp only [spec_FlowFind.j0] at H
     by_cases c17 : x37_9 = true
     ·subst c17
      have H1 : (some (0,false,4)) = some (r1,r2,r3):=by rw [if_pos rfl] at H;exact H
      clear H
      have H:=H1
      clear H1
      simp only [Option.some.injEq,Prod.mk.injEq] at H
      obtain ⟨rfl,rfl,rfl⟩:=H
      go_wp2
      go_ret3
      exact ⟨eRf,by repeat (first|(with_reducible first|exact HB.out|apply bwA|apply bwN|apply bw1)|exact HB.out)⟩
     ·replace c17:=Bool.eq_false_iff.mpr c17
      subst c17
      have H1 : ((spec_l09Find.f kj9 l0 a1 a2 a3 a4 a5).bind fun bt304 => (if bt304.1 < 0 then (some (0,false,5)) else (some (bt304.1,bt304.2,0)))) = some (r1,r2,r3):=by rw [if_neg (show ¬ (false = true) by decide)] at H;exact H
      clear H
      have H:=H1
      clear H1
      replace H:=Option.bind_eq_some_iff.mp H
      obtain ⟨⟨t304,t305⟩,A180,H⟩:=H
      replace H : (if t304 < 0 then (some (0,false,5)) else (some (t304,t305,0))) = some (r1,r2,r3):=H
      have A18:=aMk A180
      clear A180
      by_cases c19 : t304 < 0
      ·rw [if_pos c19] at H
       have c19b0 : decide (t304 < 0) = true:=decide_eq_true c19
       clear c19
       simp only [Option.some.injEq,Prod.mk.injEq] at H
       obtain ⟨rfl,rfl,rfl⟩:=H
       go_wp2_with (first|((with_reducible refine gate_callee (f:=80) rfl ?_);refine gLs 45 Try.func80 #[.slice A0 l0.length c0,.int .i64 a1,.int .i64 a2,.int .i64 a3,.int .i64 a4,.int .i64 a5] ?_;(with_reducible refine (spec_l09Find.calls kj9 _ _ l0 a1 a2 a3 a4 a5 t304 t305 _ ?side1 ?side2 A18.out).mono ?_);(case side1 => repeat (first|exact (Kd.C_below HR0.out HB.out)|(with_reducible refine Kd.C_alloc ?_ _)|(with_reducible refine Kd.C_drewN ?_ _)|(with_reducible refine Kd.C_drew ?_)));(case side2 => exact HC0.out);rintro e w20 ⟨rfl,hb⟩;refine ⟨_,rfl,?_⟩;have n0_:=aMk (bSt hb);clear HB;have HB:=n0_;clear n0_;(try clear hb);(try clear hb2);(try clear hk);(try clear hi)))
       go_ret3
       exact ⟨eRf,by repeat (first|(with_reducible first|exact HB.out|apply bwA|apply bwN|apply bw1)|exact HB.out)⟩
      ·rw [if_neg c19] at H
       have c19b0 : decide (t304 < 0) = false:=decide_eq_false c19
       clear c19
       simp only [Option.some.injEq,Prod.mk.injEq] at H
       obtain ⟨rfl,rfl,rfl⟩:=H
       go_wp2_with (first|((with_reducible refine gate_callee (f:=80) rfl ?_);refine gLs 45 Try.func80 #[.slice A0 l0.length c0,.int .i64 a1,.int .i64 a2,.int .i64 a3,.int .i64 a4,.int .i64 a5] ?_;(with_reducible refine (spec_l09Find.calls kj9 _ _ l0 a1 a2 a3 a4 a5 t304 t305 _ ?side1 ?side2 A18.out).mono ?_);(case side1 => repeat (first|exact (Kd.C_below HR0.out HB.out)|(with_reducible refine Kd.C_alloc ?_ _)|(with_reducible refine Kd.C_drewN ?_ _)|(with_reducible refine Kd.C_drew ?_)));(case side2 => exact HC0.out);rintro e w21 ⟨rfl,hb⟩;refine ⟨_,rfl,?_⟩;have n0_:=aMk (bSt hb);clear HB;have HB:=n0_;clear n0_;(try clear hb);(try clear hb2);(try clear hk);(try clear hi)))
       go_ret3
       exact ⟨eRf,by repeat (first|(with_reducible first|exact HB.out|apply bwA|apply bwN|apply bw1)|exact HB.out)⟩
  ·replace c9:=Bool.eq_false_iff.mpr c9
   subst c9
   have H1 : (some (0,false,1)) = some (r1,r2,r3):=by rw [if_neg (show ¬ (false = true) by decide)] at H;exact H
   clear H
   have H:=H1
   clear H1
   simp only [Option.some.injEq,Prod.mk.injEq] at H
   obtain ⟨rfl,rfl,rfl⟩:=H
   go_enter Try.func31,Try.ntmps31
   go_wp2_with (first|((with_reducible refine gate_callee (f:=27) rfl ?_);refine gLs 21 Try.func27 #[.slice A0 l0.length c0] ?_;(with_reducible refine (spec_FlowsOK.calls k _ _ l0 false _ ?side1 ?side2 A8.out).mono ?_);(case side1 => repeat (first|exact HR0.out|(with_reducible refine Kd.C_alloc ?_ _)|(with_reducible refine Kd.C_drewN ?_ _)|(with_reducible refine Kd.C_drew ?_)));(case side2 => exact HC0.out);rintro e w22 ⟨rfl,hb⟩;refine ⟨_,rfl,?_⟩;have n0_:=aMk (bSt hb);clear HB;have HB:=n0_;clear n0_;(try clear hb);(try clear hb2);(try clear hk);(try clear hi)))
   go_ret3
   exact ⟨eRf,by repeat (first|(with_reducible first|exact HB.out|apply bwA|apply bwN|apply bw1)|exact HB.out)⟩
end
section
/-! ### impl_FlowFind: function 32 -/
def impl_FlowFind.j0 : Nat → List (S71) → Int → Int → Int → Int → Int → Bool → Option (Int × Bool × Int)
 | 0,_,_,_,_,_,_,_ => none
 | k + 1,x0,x1,x2,x3,x4,x5,x45 => if x45 = true then (some (0,false,4)) else ((impl_find.f k x0 x1 x2 x3 x4 x5).bind fun bt313 => (if bt313.1 < 0 then (some (0,false,5)) else (some (bt313.1,bt313.2,0))))
def impl_FlowFind.f (k : Nat) (l0 : List (S71)) (a1 : Int) (a2 : Int) (a3 : Int) (a4 : Int) (a5 : Int) : Option (Int × Bool × Int):=(impl_flowsFault.f k l0).bind fun t307 => (if t307 = 0 then ((impl_isProto.f a1).bind fun t308 => (if t308 = true then ((impl_isAddress.f a2).bind fun t309 => (if t309 = true then ((impl_isAddress.f a4).bind fun t310 => (if t310 = true then ((impl_isPort.f a3).bind fun t311 => (if t311 = true then ((impl_isPort.f a5).bind fun t312 => (impl_FlowFind.j0 k l0 a1 a2 a3 a4 a5 (!t312))) else (impl_FlowFind.j0 k l0 a1 a2 a3 a4 a5 true))) else (impl_FlowFind.j0 k l0 a1 a2 a3 a4 a5 true))) else (impl_FlowFind.j0 k l0 a1 a2 a3 a4 a5 true))) else (impl_FlowFind.j0 k l0 a1 a2 a3 a4 a5 true))) else (some (0,false,t307)))
theorem impl_FlowFind.mono_l : ∀ k,(∀ y0 y1 y2 y3 y4 y5 y6,LeO (impl_FlowFind.j0 k y0 y1 y2 y3 y4 y5 y6) (impl_FlowFind.j0 (k + 1) y0 y1 y2 y3 y4 y5 y6))
 | 0 => fun _ _ _ _ _ _ _ r h => by simp [impl_FlowFind.j0] at h
 | k + 1 => by
  have ih0:=impl_FlowFind.mono_l k
  ·intro y0 y1 y2 y3 y4 y5 y6
   unfold impl_FlowFind.j0
   repeat' first
   | (with_reducible exact ih0 _ _ _ _ _ _ _)
   | (with_reducible exact impl_find.mono ..)
   | (with_reducible exact impl_flowsFault.mono ..)
   | (with_reducible exact LeO.refl _)
   | (with_reducible exact LeO.none _)
   | (with_reducible refine LeO.ite ?_ ?_)
   | (with_reducible refine LeO.bind ?_ (fun _ => ?_))
   | exact ih0 _ _ _ _ _ _ _
   | exact impl_find.mono ..
   | exact impl_flowsFault.mono ..
   | exact LeO.none _
   | refine LeO.ite ?_ ?_
   | refine LeO.bind ?_ (fun _ => ?_)
theorem impl_FlowFind.mono : ∀ a0 a1 a2 a3 a4 a5 k,LeO (impl_FlowFind.f k a0 a1 a2 a3 a4 a5) (impl_FlowFind.f (k + 1) a0 a1 a2 a3 a4 a5):=by
 intro a0 a1 a2 a3 a4 a5 k
 have ih0:=impl_FlowFind.mono_l k
 unfold impl_FlowFind.f
 repeat' first
   | (with_reducible exact ih0 _ _ _ _ _ _ _)
   | (with_reducible exact impl_find.mono ..)
   | (with_reducible exact impl_flowsFault.mono ..)
   | (with_reducible exact LeO.refl _)
   | (with_reducible exact LeO.none _)
   | (with_reducible refine LeO.ite ?_ ?_)
   | (with_reducible refine LeO.bind ?_ (fun _ => ?_))
   | exact ih0 _ _ _ _ _ _ _
   | exact impl_find.mono ..
   | exact impl_flowsFault.mono ..
   | exact LeO.none _
   | refine LeO.ite ?_ ?_
   | refine LeO.bind ?_ (fun _ => ?_)
set_option maxHeartbeats 8000000 in
set_option maxRecDepth 100000 in
theorem impl_FlowFind.calls (k : Nat) (A0 : Option Addr) (c0 : Nat) (l0 : List (S71)) (a1 : Int) (a2 : Int) (a3 : Int) (a4 : Int) (a5 : Int) (r1 : Int) (r2 : Bool) (r3 : Int) (w : World) (hr0 : Kd.C k71 w A0 l0.length l0) (hc0 : l0.length ≤ c0) (h : impl_FlowFind.f k l0 a1 a2 a3 a4 a5 = some (r1,r2,r3)) :
  Calls Try.prog 32 #[.slice A0 l0.length c0,.int .i64 a1,.int .i64 a2,.int .i64 a3,.int .i64 a4,.int .i64 a5] w fun e w' => e = .returned (.tuple #[.int .i64 r1,.bool r2,.int .i64 r3]) ∧ Below w.heap.size w w':=by
 have HR0:=aMk hr0
 have HC0:=aMk hc0
 clear hr0 hc0
 have HB:=aMk (Below.refl w.heap.size w)
 have H : ((impl_flowsFault.f k l0).bind fun t307 => (if t307 = 0 then ((impl_isProto.f a1).bind fun t308 => (if t308 = true then ((impl_isAddress.f a2).bind fun t309 => (if t309 = true then ((impl_isAddress.f a4).bind fun t310 => (if t310 = true then ((impl_isPort.f a3).bind fun t311 => (if t311 = true then ((impl_isPort.f a5).bind fun t312 => (impl_FlowFind.j0 k l0 a1 a2 a3 a4 a5 (!t312))) else (impl_FlowFind.j0 k l0 a1 a2 a3 a4 a5 true))) else (impl_FlowFind.j0 k l0 a1 a2 a3 a4 a5 true))) else (impl_FlowFind.j0 k l0 a1 a2 a3 a4 a5 true))) else (impl_FlowFind.j0 k l0 a1 a2 a3 a4 a5 true))) else (some (0,false,t307)))) = some (r1,r2,r3):=h
 clear h
 replace H:=Option.bind_eq_some_iff.mp H
 obtain ⟨t307,A70,H⟩:=H
 replace H : (if t307 = 0 then ((impl_isProto.f a1).bind fun t308 => (if t308 = true then ((impl_isAddress.f a2).bind fun t309 => (if t309 = true then ((impl_isAddress.f a4).bind fun t310 => (if t310 = true then ((impl_isPort.f a3).bind fun t311 => (if t311 = true then ((impl_isPort.f a5).bind fun t312 => (impl_FlowFind.j0 k l0 a1 a2 a3 a4 a5 (!t312))) else (impl_FlowFind.j0 k l0 a1 a2 a3 a4 a5 true))) else (impl_FlowFind.j0 k l0 a1 a2 a3 a4 a5 true))) else (impl_FlowFind.j0 k l0 a1 a2 a3 a4 a5 true))) else (impl_FlowFind.j0 k l0 a1 a2 a3 a4 a5 true))) else (some (0,false,t307))) = some (r1,r2,r3):=H
 have A7:=aMk A70
 clear A70
 by_cases c8 : t307 = 0
 ·rw [if_pos c8] at H
  have c8b0 : (t307 == 0) = true:=beq_iff_eq.mpr c8
  have c8b1 : (t307 != 0) = false:=bne_eq_false_iff_eq.mpr c8
  clear c8
  have HC9:=aMk H
  clear H
  go_enter Try.func32,Try.ntmps32
  go_upto_region 4 with (first|((with_reducible refine gate_callee (f:=81) rfl ?_);refine gLs 19 Try.func81 #[.slice A0 l0.length c0] ?_;(with_reducible refine (impl_flowsFault.calls k _ _ l0 t307 _ ?side1 ?side2 A7.out).mono ?_);(case side1 => repeat (first|exact HR0.out|(with_reducible refine Kd.C_alloc ?_ _)|(with_reducible refine Kd.C_drewN ?_ _)|(with_reducible refine Kd.C_drew ?_)));(case side2 => exact HC0.out);rintro e w10 ⟨rfl,hb⟩;refine ⟨_,rfl,?_⟩;have n0_:=aMk (bSt hb);clear HB;have HB:=n0_;clear n0_;(try clear hb);(try clear hb2);(try clear hk);(try clear hi)))
  (try simp only [Act.put,List.setIfInBounds_toArray,List.set_cons_zero,List.set_cons_succ])
  go_cut [45] (fun v45 wc => ∃ (kq : Nat) (x45_8 : Bool),v45 = .bool x45_8 ∧ Aside0 (impl_FlowFind.j0 kq l0 a1 a2 a3 a4 a5 x45_8 = some (r1,r2,r3)) ∧ Aside0 (kq ≤ k) ∧ Aside0 (Below w.heap.size w wc))
  case first =>
   have H:=HC9.out
   clear HC9
   replace H:=Option.bind_eq_some_iff.mp H
   obtain ⟨t308,A110,H⟩:=H
   replace H : (if t308 = true then ((impl_isAddress.f a2).bind fun t309 => (if t309 = true then ((impl_isAddress.f a4).bind fun t310 => (if t310 = true then ((impl_isPort.f a3).bind fun t311 => (if t311 = true then ((impl_isPort.f a5).bind fun t312 => (impl_FlowFind.j0 k l0 a1 a2 a3 a4 a5 (!t312))) else (impl_FlowFind.j0 k l0 a1 a2 a3 a4 a5 true))) else (impl_FlowFind.j0 k l0 a1 a2 a3 a4 a5 true))) else (impl_FlowFind.j0 k l0 a1 a2 a3 a4 a5 true))) else (impl_FlowFind.j0 k l0 a1 a2 a3 a4 a5 true)) = some (r1,r2,r3):=H
   have A11:=aMk A110
   clear A110
   by_cases c12 : t308 = true
   ·subst c12
    have H1 : ((impl_isAddress.f a2).bind fun t309 => (if t309 = true then ((impl_isAddress.f a4).bind fun t310 => (if t310 = true then ((impl_isPort.f a3).bind fun t311 => (if t311 = true then ((impl_isPort.f a5).bind fun t312 => (impl_FlowFind.j0 k l0 a1 a2 a3 a4 a5 (!t312))) else (impl_FlowFind.j0 k l0 a1 a2 a3 a4 a5 true))) else (impl_FlowFind.j0 k l0 a1 a2 a3 a4 a5 true))) else (impl_FlowFind.j0 k l0 a1 a2 a3 a4 a5 true))) = some (r1,r2,r3):=by rw [if_pos rfl] at H;exact H
    clear H
    have H:=H1
    clear H1
    replace H:=Option.bind_eq_some_iff.mp H
    obtain ⟨t309,A130,H⟩:=H
    replace H : (if t309 = true then ((impl_isAddress.f a4).bind fun t310 => (if t310 = true then ((impl_isPort.f a3).bind fun t311 => (if t311 = true then ((impl_isPort.f a5).bind fun t312 => (impl_FlowFind.j0 k l0 a1 a2 a3 a4 a5 (!t312))) else (impl_FlowFind.j0 k l0 a1 a2 a3 a4 a5 true))) else (impl_FlowFind.j0 k l0 a1 a2 a3 a4 a5 true))) else (impl_FlowFind.j0 k l0 a1 a2 a3 a4 a5 true)) = some (r1,r2,r3):=H
    have A13:=aMk A130
    clear A130
    by_cases c14 : t309 = true
    ·subst c14
     have H1 : ((impl_isAddress.f a4).bind fun t310 => (if t310 = true then ((impl_isPort.f a3).bind fun t311 => (if t311 = true then ((impl_isPort.f a5).bind fun t312 => (impl_FlowFind.j0 k l0 a1 a2 a3 a4 a5 (!t312))) else (impl_FlowFind.j0 k l0 a1 a2 a3 a4 a5 true))) else (impl_FlowFind.j0 k l0 a1 a2 a3 a4 a5 true))) = some (r1,r2,r3):=by rw [if_pos rfl] at H;exact H
     clear H
     have H:=H1
     clear H1
     replace H:=Option.bind_eq_some_iff.mp H
     obtain ⟨t310,A150,H⟩:=H
     replace H : (if t310 = true then ((impl_isPort.f a3).bind fun t311 => (if t311 = true then ((impl_isPort.f a5).bind fun t312 => (impl_FlowFind.j0 k l0 a1 a2 a3 a4 a5 (!t312))) else (impl_FlowFind.j0 k l0 a1 a2 a3 a4 a5 true))) else (impl_FlowFind.j0 k l0 a1 a2 a3 a4 a5 true)) = some (r1,r2,r3):=H
     have A15:=aMk A150
     clear A150
     by_cases c16 : t310 = true
     ·subst c16
      have H1 : ((impl_isPort.f a3).bind fun t311 => (if t311 = true then ((impl_isPort.f a5).bind fun t312 => (impl_FlowFind.j0 k l0 a1 a2 a3 a4 a5 (!t312))) else (impl_FlowFind.j0 k l0 a1 a2 a3 a4 a5 true))) = some (r1,r2,r3):=by rw [if_pos rfl] at H;exact H
      clear H
      have H:=H1
      clear H1
      replace H:=Option.bind_eq_some_iff.mp H
      obtain ⟨t311,A170,H⟩:=H
      replace H : (if t311 = true then ((impl_isPort.f a5).bind fun t312 => (impl_FlowFind.j0 k l0 a1 a2 a3 a4 a5 (!t312))) else (impl_FlowFind.j0 k l0 a1 a2 a3 a4 a5 true)) = some (r1,r2,r3):=H
      have A17:=aMk A170
      clear A170
      by_cases c18 : t311 = true
      ·subst c18
       have H1 : ((impl_isPort.f a5).bind fun t312 => (impl_FlowFind.j0 k l0 a1 a2 a3 a4 a5 (!t312))) = some (r1,r2,r3):=by rw [if_pos rfl] at H;exact H
       clear H
       have H:=H1
       clear H1
       replace H:=Option.bind_eq_some_iff.mp H
       obtain ⟨t312,A190,H⟩:=H
       replace H : (impl_FlowFind.j0 k l0 a1 a2 a3 a4 a5 (!t312)) = some (r1,r2,r3):=H
       have A19:=aMk A190
       clear A190
       have H':=aMk H
       clear H
       go_wp2_with (first|((with_reducible refine gate_callee (f:=66) rfl ?_);refine gLs 24 Try.func66 #[.int .i64 a1] ?_;(with_reducible refine (impl_isProto.calls a1 true _ A11.out).mono ?_);rintro e w' ⟨rfl,⟨nd,rfl⟩⟩;refine ⟨_,rfl,?_⟩)|(go_at_call 61;(with_reducible refine (impl_isAddress.calls a2 true _ A13.out).mono ?_);rintro e w' ⟨rfl,⟨nd,rfl⟩⟩)|(go_at_call 61;(with_reducible refine (impl_isAddress.calls a4 true _ A15.out).mono ?_);rintro e w' ⟨rfl,⟨nd,rfl⟩⟩)|(go_at_call 73;(with_reducible refine (impl_isPort.calls a3 true _ A17.out).mono ?_);rintro e w' ⟨rfl,⟨nd,rfl⟩⟩)|(go_at_call 73;(with_reducible refine (impl_isPort.calls a5 t312 _ A19.out).mono ?_);rintro e w' ⟨rfl,⟨nd,rfl⟩⟩))
       go_meet
       case rel => exact ⟨_,(!t312),(by first | rfl|(simp;done)|(simp [*];done)|(simp [ne_nil_b];done)|(simp [ne_nil_b, *];done)),H',⟨by first | omega|exact Nat.le_refl _⟩,⟨by repeat (first|(with_reducible first|exact HB.out|apply bwA|apply bwN|apply bw1)|exact HB.out)⟩⟩
      ·replace c18:=Bool.eq_false_iff.mpr c18
       subst c18
       have H1 : (impl_FlowFind.j0 k l0 a1 a2 a3 a4 a5 true) = some (r1,r2,r3):=by rw [if_neg (show ¬ (false = true) by decide)] at H;exact H
       clear H
       have H:=H1
       clear H1
       have H':=aMk H
       clear H
       go_wp2_with (first|((with_reducible refine gate_callee (f:=66) rfl ?_);refine gLs 24 Try.func66 #[.int .i64 a1] ?_;(with_reducible refine (impl_isProto.calls a1 true _ A11.out).mono ?_);rintro e w' ⟨rfl,⟨nd,rfl⟩⟩;refine ⟨_,rfl,?_⟩)|(go_at_call 61;(with_reducible refine (impl_isAddress.calls a2 true _ A13.out).mono ?_);rintro e w' ⟨rfl,⟨nd,rfl⟩⟩)|(go_at_call 61;(with_reducible refine (impl_isAddress.calls a4 true _ A15.out).mono ?_);rintro e w' ⟨rfl,⟨nd,rfl⟩⟩)|(go_at_call 73;(with_reducible refine (impl_isPort.calls a3 false _ A17.out).mono ?_);rintro e w' ⟨rfl,⟨nd,rfl⟩⟩))
       go_meet
       case rel => exact ⟨_,(true),(by first | rfl|(simp;done)|(simp [*];done)|(simp [ne_nil_b];done)|(simp [ne_nil_b, *];done)),H',⟨by first | omega|exact Nat.le_refl _⟩,⟨by repeat (first|(with_reducible first|exact HB.out|apply bwA|apply bwN|apply bw1)|exact HB.out)⟩⟩
     ·replace c16:=Bool.eq_false_iff.mpr c16
      subst c16
      have H1 : (impl_FlowFind.j0 k l0 a1 a2 a3 a4 a5 true) = some (r1,r2,r3):=by rw [if_neg (show ¬ (false = true) by decide)] at H;exact H
      clear H
      have H:=H1
      clear H1
      have H':=aMk H
      clear H
      go_wp2_with (first|((with_reducible refine gate_callee (f:=66) rfl ?_);refine gLs 24 Try.func66 #[.int .i64 a1] ?_;(with_reducible refine (impl_isProto.calls a1 true _ A11.out).mono ?_);rintro e w' ⟨rfl,⟨nd,rfl⟩⟩;refine ⟨_,rfl,?_⟩)|(go_at_call 61;(with_reducible refine (impl_isAddress.calls a2 true _ A13.out).mono ?_);rintro e w' ⟨rfl,⟨nd,rfl⟩⟩)|(go_at_call 61;(with_reducible refine (impl_isAddress.calls a4 false _ A15.out).mono ?_);rintro e w' ⟨rfl,⟨nd,rfl⟩⟩))
      go_meet
      case rel => exact ⟨_,(true),(by first | rfl|(simp;done)|(simp [*];done)|(simp [ne_nil_b];done)|(simp [ne_nil_b, *];done)),H',⟨by first | omega|exact Nat.le_refl _⟩,⟨by repeat (first|(with_reducible first|exact HB.out|apply bwA|apply bwN|apply bw1)|exact HB.out)⟩⟩
    ·replace c14:=Bool.eq_false_iff.mpr c14
     subst c14
     have H1 : (impl_FlowFind.j0 k l0 a1 a2 a3 a4 a5 true) = some (r1,r2,r3):=by rw [if_neg (show ¬ (false = true) by decide)] at H;exact H
     clear H
     have H:=H1
     clear H1
     have H':=aMk H
     clear H
     go_wp2_with (first|((with_reducible refine gate_callee (f:=66) rfl ?_);refine gLs 24 Try.func66 #[.int .i64 a1] ?_;(with_reducible refine (impl_isProto.calls a1 true _ A11.out).mono ?_);rintro e w' ⟨rfl,⟨nd,rfl⟩⟩;refine ⟨_,rfl,?_⟩)|(go_at_call 61;(with_reducible refine (impl_isAddress.calls a2 false _ A13.out).mono ?_);rintro e w' ⟨rfl,⟨nd,rfl⟩⟩))
     go_meet
     case rel => exact ⟨_,(true),(by first | rfl|(simp;done)|(simp [*];done)|(simp [ne_nil_b];done)|(simp [ne_nil_b, *];done)),H',⟨by first | omega|exact Nat.le_refl _⟩,⟨by repeat (first|(with_reducible first|exact HB.out|apply bwA|apply bwN|apply bw1)|exact HB.out)⟩⟩
   ·replace c12:=Bool.eq_false_iff.mpr c12
    subst c12
    have H1 : (impl_FlowFind.j0 k l0 a1 a2 a3 a4 a5 true) = some (r1,r2,r3):=by rw [if_neg (show ¬ (false = true) by decide)] at H;exact H
    clear H
    have H:=H1
    clear H1
    have H':=aMk H
    clear H
    go_wp2_with (first|((with_reducible refine gate_callee (f:=66) rfl ?_);refine gLs 24 Try.func66 #[.int .i64 a1] ?_;(with_reducible refine (impl_isProto.calls a1 false _ A11.out).mono ?_);rintro e w' ⟨rfl,⟨nd,rfl⟩⟩;refine ⟨_,rfl,?_⟩))
    go_meet
    case rel => exact ⟨_,(true),(by first | rfl|(simp;done)|(simp [*];done)|(simp [ne_nil_b];done)|(simp [ne_nil_b, *];done)),H',⟨by first | omega|exact Nat.le_refl _⟩,⟨by repeat (first|(with_reducible first|exact HB.out|apply bwA|apply bwN|apply bw1)|exact HB.out)⟩⟩
  case rest =>
   clear HC9
   try clear c1
   try clear p2
   try clear c3
   try clear c6
   try clear c8
   try clear c8b0
   try clear c8b1
   try clear c12
   try clear c14
   try clear c16
   try clear c18
   obtain ⟨kq,x45_8,rfl,HA,HJ8,HB⟩:=hcut
   cases kq with
   | zero => exact absurd HA.out (by simp [impl_FlowFind.j0])
   | succ kj8 =>
    have H:=HA.out
    clear HA
    simp only [impl_FlowFind.j0] at H
    by_cases c20 : x45_8 = true
    ·subst c20
     have H1 : (some (0,false,4)) = some (r1,r2,r3):=by rw [if_pos rfl] at H;exact H
     clear H
     have H:=H1
     clear H1
     simp only [Option.some.injEq,Prod.mk.injEq] at H
     obtain ⟨rfl,rfl,rfl⟩:=H
     go_wp2
     go_ret3
     exact ⟨eRf,by repeat (first|(with_reducible first|exact HB.out|apply bwA|apply bwN|apply bw1)|exact HB.out)⟩
    ·replace c20:=Bool.eq_false_iff.mpr c20
     subst c20
     have H1 : ((impl_find.f kj8 l0 a1 a2 a3 a4 a5).bind fun bt313 => (if bt313.1 < 0 then (some (0,false,5)) else (some (bt313.1,bt313.2,0)))) = some (r1,r2,r3):=by rw [if_neg (show ¬ (false = true) by decide)] at H;exact H
     clear H
     have H:=H1
     clear H1
     replace H:=Option.bind_eq_some_iff.mp H
     obtain ⟨⟨t313,t314⟩,A210,H⟩:=H
     replace H : (if t313 < 0 then (some (0,false,5)) else (some (t313,t314,0))) = some (r1,r2,r3):=H
     have A21:=aMk A210
     clear A210
     by_cases c22 : t313 < 0
     ·rw [if_pos c22] at H
      have c22b0 : decide (t313 < 0) = true:=decide_eq_true c22
      clear c22
      simp only [Option.some.injEq,Prod.mk.injEq] at H
      obtain ⟨rfl,rfl,rfl⟩:=H
      go_wp2_with (first|((with_reducible refine gate_callee (f:=78) rfl ?_);refine gLs 53 Try.func78 #[.slice A0 l0.length c0,.int .i64 a1,.int .i64 a2,.int .i64 a3,.int .i64 a4,.int .i64 a5] ?_;(with_reducible refine (impl_find.calls kj8 _ _ l0 a1 a2 a3 a4 a5 t313 t314 _ ?side1 ?side2 A21.out).mono ?_);(case side1 => repeat (first|exact (Kd.C_below HR0.out HB.out)|(with_reducible refine Kd.C_alloc ?_ _)|(with_reducible refine Kd.C_drewN ?_ _)|(with_reducible refine Kd.C_drew ?_)));(case side2 => exact HC0.out);rintro e w23 ⟨rfl,hb⟩;refine ⟨_,rfl,?_⟩;have n0_:=aMk (bSt hb);clear HB;have HB:=n0_;clear n0_;(try clear hb);(try clear hb2);(try clear hk);(try clear hi)))
      go_ret3
      exact ⟨eRf,by repeat (first|(with_reducible first|exact HB.out|apply bwA|apply bwN|apply bw1)|exact HB.out)⟩
     ·rw [if_neg c22] at H
      have c22b0 : decide (t313 < 0) = false:=decide_eq_false c22
      clear c22
      simp only [Option.some.injEq,Prod.mk.injEq] at H
      obtain ⟨rfl,rfl,rfl⟩:=H
      go_wp2_with (first|((with_reducible refine gate_callee (f:=78) rfl ?_);refine gLs 53 Try.func78 #[.slice A0 l0.length c0,.int .i64 a1,.int .i64 a2,.int .i64 a3,.int .i64 a4,.int .i64 a5] ?_;(with_reducible refine (impl_find.calls kj8 _ _ l0 a1 a2 a3 a4 a5 t313 t314 _ ?side1 ?side2 A21.out).mono ?_);(case side1 => repeat (first|exact (Kd.C_below HR0.out HB.out)|(with_reducible refine Kd.C_alloc ?_ _)|(with_reducible refine Kd.C_drewN ?_ _)|(with_reducible refine Kd.C_drew ?_)));(case side2 => exact HC0.out);rintro e w24 ⟨rfl,hb⟩;refine ⟨_,rfl,?_⟩;have n0_:=aMk (bSt hb);clear HB;have HB:=n0_;clear n0_;(try clear hb);(try clear hb2);(try clear hk);(try clear hi)))
      go_ret3
      exact ⟨eRf,by repeat (first|(with_reducible first|exact HB.out|apply bwA|apply bwN|apply bw1)|exact HB.out)⟩
 ·rw [if_neg c8] at H
  have c8b0 : (t307 == 0) = false:=beq_eq_false_iff_ne.mpr c8
  have c8b1 : (t307 != 0) = true:=bne_iff_ne.mpr c8
  simp only [Option.some.injEq,Prod.mk.injEq] at H
  obtain ⟨rfl,rfl,rfl⟩:=H
  go_enter Try.func32,Try.ntmps32
  go_wp2_with (first|((with_reducible refine gate_callee (f:=81) rfl ?_);refine gLs 19 Try.func81 #[.slice A0 l0.length c0] ?_;(with_reducible refine (impl_flowsFault.calls k _ _ l0 t307 _ ?side1 ?side2 A7.out).mono ?_);(case side1 => repeat (first|exact HR0.out|(with_reducible refine Kd.C_alloc ?_ _)|(with_reducible refine Kd.C_drewN ?_ _)|(with_reducible refine Kd.C_drew ?_)));(case side2 => exact HC0.out);rintro e w25 ⟨rfl,hb⟩;refine ⟨_,rfl,?_⟩;have n0_:=aMk (bSt hb);clear HB;have HB:=n0_;clear n0_;(try clear hb);(try clear hb2);(try clear hk);(try clear hi)))
  go_ret3
  exact ⟨eRf,by repeat (first|(with_reducible first|exact HB.out|apply bwA|apply bwN|apply bw1)|exact HB.out)⟩
end
section
-- NEEDS spec.l01In impl.within
theorem l01In_eq (a b c : Int) : spec_l01In.f a b c = some (decide (b ≤ a ∧ a ≤ c)):=by unfold spec_l01In.f;grind
theorem within_eq (a b c : Int) : impl_within.f a b c = some (decide (b ≤ a ∧ a ≤ c)):=by unfold impl_within.f;grind
end
section
-- NEEDS spec.l01Ip impl.isAddress
theorem l01Ip_eq (a : Int) : spec_l01Ip.f a = some (decide (0 ≤ a ∧ a ≤ 4294967295)):=by simp only [spec_l01Ip.f,l01In_eq,Option.bind_some]
theorem isAddress_eq (a : Int) : impl_isAddress.f a = some (decide (0 ≤ a ∧ a ≤ 4294967295)):=by simp only [impl_isAddress.f,within_eq,Option.bind_some]
end
section
-- NEEDS spec.l02Port impl.isPort
theorem l02Port_eq (a : Int) : spec_l02Port.f a = some (decide (0 ≤ a ∧ a ≤ 65535)):=by simp only [spec_l02Port.f,l01In_eq,Option.bind_some]
theorem isPort_eq (a : Int) : impl_isPort.f a = some (decide (0 ≤ a ∧ a ≤ 65535)):=by simp only [impl_isPort.f,within_eq,Option.bind_some]
end
section
-- NEEDS impl.FlowsOK spec.FlowsOK impl.find
def sameb (p a ap b bp : Int) (x : S71) : Bool:=decide (x.f0 = p) && (decide (x.f2 = a) && (decide (x.f3 = ap) && (decide (x.f4 = b) && decide (x.f5 = bp))))
def twin (f x : S71) : Bool:=sameb f.f0 f.f2 f.f3 f.f4 f.f5 x || sameb f.f0 f.f4 f.f5 f.f2 f.f3 x
def flowb (x : S71) : Bool:=decide (0 ≤ x.f0 ∧ x.f0 ≤ 255) && (((x.f1.size : Int) == 6) && (decide (0 ≤ x.f2 ∧ x.f2 ≤ 4294967295) && (decide (0 ≤ x.f4 ∧ x.f4 ≤ 4294967295) && (decide (0 ≤ x.f3 ∧ x.f3 ≤ 65535) && (decide (0 ≤ x.f5 ∧ x.f5 ≤ 65535) && (decide (1 ≤ x.f6 ∧ x.f6 ≤ 3) && (decide (0 ≤ x.f7 ∧ x.f7 ≤ 100100) && decide (0 ≤ x.f8 ∧ x.f8 ≤ 10000))))))))
theorem same_spec (x : S71) (p a ap b bp : Int) : spec_l09Same.f x.f0 x.f1 x.f2 x.f3 x.f4 x.f5 x.f6 x.f7 x.f8 p a ap b bp = some (sameb p a ap b bp x):=by
 unfold spec_l09Same.f sameb
 by_cases c1 : x.f0 = p
 ·rw [if_pos c1,decide_eq_true c1]
  by_cases c2 : x.f2 = a
  ·rw [if_pos c2,decide_eq_true c2]
   by_cases c3 : x.f3 = ap
   ·rw [if_pos c3,decide_eq_true c3]
    by_cases c4 : x.f4 = b
    ·rw [if_pos c4,decide_eq_true c4];by_cases c5 : x.f5 = bp <;> simp [c5]
    ·rw [if_neg c4,decide_eq_false c4];rfl
   ·rw [if_neg c3,decide_eq_false c3];rfl
  ·rw [if_neg c2,decide_eq_false c2];rfl
 ·rw [if_neg c1,decide_eq_false c1];rfl
theorem same_impl (x : S71) (p a ap b bp : Int) : impl_Flow_is.f x.f0 x.f1 x.f2 x.f3 x.f4 x.f5 x.f6 x.f7 x.f8 p a ap b bp = some (sameb p a ap b bp x):=same_spec x p a ap b bp
theorem find1_eq (x : S71) (p a ap b bp : Int) : impl_find_1.f x.f0 x.f1 x.f2 x.f3 x.f4 x.f5 x.f6 x.f7 x.f8 p a ap b bp = some (sameb p a ap b bp x):=by
 simp only [impl_find_1.f,same_impl,Option.bind_some]
theorem find2_eq (x : S71) (p a ap b bp : Int) : impl_find_2.f x.f0 x.f1 x.f2 x.f3 x.f4 x.f5 x.f6 x.f7 x.f8 p a ap b bp = some (sameb p a ap b bp x):=by
 simp only [impl_find_2.f,same_impl,Option.bind_some]
theorem flow_spec (x : S71) : spec_l09Flow.f x.f0 x.f1 x.f2 x.f3 x.f4 x.f5 x.f6 x.f7 x.f8 = some (flowb x):=by
 simp only [spec_l09Flow.f,spec_l01Mac.f,l01Ip_eq,l02Port_eq,l01In_eq,Option.bind_some,flowb]
 cases decide (0 ≤ x.f0 ∧ x.f0 ≤ 255)
 ·rfl
 cases ((x.f1.size : Int) == 6)
 ·rfl
 cases decide (0 ≤ x.f2 ∧ x.f2 ≤ 4294967295)
 ·rfl
 cases decide (0 ≤ x.f4 ∧ x.f4 ≤ 4294967295)
 ·rfl
 cases decide (0 ≤ x.f3 ∧ x.f3 ≤ 65535)
 ·rfl
 cases decide (0 ≤ x.f5 ∧ x.f5 ≤ 65535)
 ·rfl
 cases decide (1 ≤ x.f6 ∧ x.f6 ≤ 3)
 ·rfl
 cases decide (0 ≤ x.f7 ∧ x.f7 ≤ 100100) <;> rfl
/-- What the loops of the two sides say of a flow: its ends,its state,its time. -/
theorem ends_impl (x : S71) : impl_Flow_endsOKAt.f x.f0 x.f1 x.f2 x.f3 x.f4 x.f5 x.f6 x.f7 x.f8 = some (decide (0 ≤ x.f0 ∧ x.f0 ≤ 255) && (((x.f1.size : Int) == 6) && (decide (0 ≤ x.f2 ∧ x.f2 ≤ 4294967295) && (decide (0 ≤ x.f4 ∧ x.f4 ≤ 4294967295) && (decide (0 ≤ x.f3 ∧ x.f3 ≤ 65535) && (decide (0 ≤ x.f5 ∧ x.f5 ≤ 65535) && decide (0 ≤ x.f8 ∧ x.f8 ≤ 10000))))))):=by
 simp only [impl_Flow_endsOKAt.f,impl_isProto.f,impl_macOK.f,isAddress_eq,isPort_eq,within_eq,Option.bind_some]
 cases decide (0 ≤ x.f0 ∧ x.f0 ≤ 255)
 ·rfl
 cases ((x.f1.size : Int) == 6)
 ·rfl
 cases decide (0 ≤ x.f2 ∧ x.f2 ≤ 4294967295)
 ·rfl
 cases decide (0 ≤ x.f4 ∧ x.f4 ≤ 4294967295)
 ·rfl
 cases decide (0 ≤ x.f3 ∧ x.f3 ≤ 65535)
 ·rfl
 cases decide (0 ≤ x.f5 ∧ x.f5 ≤ 65535) <;> rfl
theorem flowb_split (x : S71) : flowb x = ((decide (0 ≤ x.f0 ∧ x.f0 ≤ 255) && (((x.f1.size : Int) == 6) && (decide (0 ≤ x.f2 ∧ x.f2 ≤ 4294967295) && (decide (0 ≤ x.f4 ∧ x.f4 ≤ 4294967295) && (decide (0 ≤ x.f3 ∧ x.f3 ≤ 65535) && (decide (0 ≤ x.f5 ∧ x.f5 ≤ 65535) && decide (0 ≤ x.f8 ∧ x.f8 ≤ 10000))))))) && (decide (1 ≤ x.f6 ∧ x.f6 ≤ 3) && decide (0 ≤ x.f7 ∧ x.f7 ≤ 100100))):=by
 unfold flowb
 cases decide (0 ≤ x.f0 ∧ x.f0 ≤ 255)
 ·rfl
 cases ((x.f1.size : Int) == 6)
 ·rfl
 cases decide (0 ≤ x.f2 ∧ x.f2 ≤ 4294967295)
 ·rfl
 cases decide (0 ≤ x.f4 ∧ x.f4 ≤ 4294967295)
 ·rfl
 cases decide (0 ≤ x.f3 ∧ x.f3 ≤ 65535)
 ·rfl
 cases decide (0 ≤ x.f5 ∧ x.f5 ≤ 65535)
 ·rfl
 cases decide (1 ≤ x.f6 ∧ x.f6 ≤ 3) <;> cases decide (0 ≤ x.f7 ∧ x.f7 ≤ 100100) <;> cases decide (0 ≤ x.f8 ∧ x.f8 ≤ 10000) <;> rfl
theorem any_or (p q : S71 → Bool) (l : List S71) : ∀ (d : Nat) (i : Int),any_T71 (fun x => p x || q x) l d i = (any_T71 p l d i || any_T71 q l d i)
 | 0,_ => rfl
 | d + 1,i => by
  rw [any_T71,any_T71,any_T71,any_or p q l d (i + 1)]
  cases p (rd_T71 l i) <;> cases q (rd_T71 l i) <;> simp
theorem rd_take (l : List S71) (n : Nat) (j : Int) (h0 : 0 ≤ j) (hj : j < n) : rd_T71 (l.take n) j = rd_T71 l j:=by
 unfold rd_T71
 rw [List.getD_eq_getElem?_getD,List.getD_eq_getElem?_getD,List.getElem?_take,if_pos (by omega)]
theorem any_take (q : S71 → Bool) (l : List S71) (n : Nat) : ∀ (d : Nat) (j : Int),0 ≤ j → j + d ≤ n → any_T71 q (l.take n) d j = any_T71 q l d j
 | 0,_,_,_ => rfl
 | d + 1,j,h0,hj => by
  rw [any_T71,any_T71,rd_take l n j h0 (by omega),any_take q l n d (j + 1) (by omega) (by omega)]
def flowsFrom (l : List S71) : Nat → Int → Bool
 | 0,_ => true
 | d + 1,i => flowb (rd_T71 l i) && (!any_T71 (twin (rd_T71 l i)) l i.toNat 0 && flowsFrom l d (i + 1))
theorem spec_twins_run (l : List S71) (hx : (l.length : Int) ≤ 4096) (i : Int) (f : S71) (hi : i < l.length) (R : Bool) (K : Nat) (hR : ∀ k,K ≤ k → spec_FlowsOK.l0 k l (i + 1) = some R) :
  ∀ (e : Nat) (j : Int),0 ≤ j → i - j = e → ∀ k,e + 1 + K ≤ k → spec_FlowsOK.l1 k l i j f.f0 f.f1 f.f2 f.f3 f.f4 f.f5 f.f6 f.f7 f.f8 = some (!any_T71 (twin f) l e j && R)
 | 0,j,h0,he,k,hk => by
  obtain ⟨k,rfl⟩ : ∃ z,k = z + 1:=⟨k - 1,by omega⟩
  rw [spec_FlowsOK.l1,if_neg (by omega),wrap_id (by omega) (by omega),hR k (by omega)];rfl
 | e + 1,j,h0,he,k,hk => by
  obtain ⟨k,rfl⟩ : ∃ z,k = z + 1:=⟨k - 1,by omega⟩
  have ih:=spec_twins_run l hx i f hi R K hR e (j + 1) (by omega) (by omega) k (by omega)
  rw [spec_FlowsOK.l1,if_pos (by omega),if_pos h0,if_pos (by omega),same_spec,same_spec,wrap_id (by omega) (by omega),ih,any_T71,twin]
  simp only [Option.bind_some]
  cases sameb f.f0 f.f2 f.f3 f.f4 f.f5 (rd_T71 l j) <;> cases sameb f.f0 f.f4 f.f5 f.f2 f.f3 (rd_T71 l j) <;> simp
theorem spec_flows_run (l : List S71) (hx : (l.length : Int) ≤ 8) : ∀ (d : Nat) (i : Int),0 ≤ i → (l.length : Int) - i = d → ∀ k,d * 20 + 1 ≤ k → spec_FlowsOK.l0 k l i = some (flowsFrom l d i)
 | 0,i,h0,hd,k,hk => by
  obtain ⟨k,rfl⟩ : ∃ z,k = z + 1:=⟨k - 1,by omega⟩
  rw [spec_FlowsOK.l0,if_neg (by omega)];rfl
 | d + 1,i,h0,hd,k,hk => by
  obtain ⟨k,rfl⟩ : ∃ z,k = z + 1:=⟨k - 1,by omega⟩
  have tr:=spec_twins_run l (by omega) i (rd_T71 l i) (by omega) (flowsFrom l d (i + 1)) (d * 20 + 1) (fun k hk => spec_flows_run l hx d (i + 1) (by omega) (by omega) k hk) i.toNat 0 (by omega) (by omega) k (by omega)
  rw [spec_FlowsOK.l0,if_pos (by omega),if_pos h0,flow_spec,Option.bind_some,tr,flowsFrom]
  cases flowb (rd_T71 l i) <;> simp
def findR (l : List S71) (p a ap b bp : Int) : Int × Bool :=
 if fst_T71 (sameb p a ap b bp) l l.length 0 ≥ 0 then (fst_T71 (sameb p a ap b bp) l l.length 0,false) else (fst_T71 (sameb p b bp a ap) l l.length 0,decide (fst_T71 (sameb p b bp a ap) l l.length 0 ≥ 0))
theorem impl_find_ev (l : List S71) (hx : (l.length : Int) ≤ 1152921504606846976) (p a ap b bp : Int) (k : Nat) (hk : l.length + 1 ≤ k) : impl_find.f k l p a ap b bp = some (findR l p a ap b bp):=by
 unfold impl_find.f findR
 rw [idxP71_evr (sameb p a ap b bp) l hx _ l.length 0 (by omega) (by omega) (fun j _ _ => find1_eq _ p a ap b bp) k hk,Option.bind_some,
  idxP71_evr (sameb p b bp a ap) l hx _ l.length 0 (by omega) (by omega) (fun j _ _ => find2_eq _ p b bp a ap) k hk,Option.bind_some]
 split <;> rfl
theorem find_any (l : List S71) (p a ap b bp : Int) : decide ((findR l p a ap b bp).1 ≥ 0) = any_T71 (fun x => sameb p a ap b bp x || sameb p b bp a ap x) l l.length 0:=by
 rw [any_or,← fst_any_T71 (sameb p a ap b bp) l l.length 0 (by omega),← fst_any_T71 (sameb p b bp a ap) l l.length 0 (by omega)]
 unfold findR
 by_cases c : fst_T71 (sameb p a ap b bp) l l.length 0 ≥ 0
 ·rw [if_pos c,decide_eq_true (show 0 ≤ fst_T71 (sameb p a ap b bp) l l.length 0 from c),Bool.true_or]
 ·rw [if_neg c,decide_eq_false (show ¬ 0 ≤ fst_T71 (sameb p a ap b bp) l l.length 0 from c),Bool.false_or]
theorem impl_flows_run (l : List S71) (hx : (l.length : Int) ≤ 8) : ∀ (d : Nat) (i : Int),0 ≤ i → (l.length : Int) - i = d → ∀ k,d * 20 + 1 ≤ k → impl_FlowsOK.l0 k l (l.length : Int) i = some (flowsFrom l d i)
 | 0,i,h0,hd,k,hk => by
  obtain ⟨k,rfl⟩ : ∃ z,k = z + 1:=⟨k - 1,by omega⟩
  rw [impl_FlowsOK.l0,if_neg (by omega)];rfl
 | d + 1,i,h0,hd,k,hk => by
  obtain ⟨k,rfl⟩ : ∃ z,k = z + 2:=⟨k - 2,by omega⟩
  have ih:=impl_flows_run l hx d (i + 1) (by omega) (by omega) k (by omega)
  have hl : (l.take i.toNat).length = i.toNat:=by rw [List.length_take];omega
  have j1 : ∀ x,impl_FlowsOK.j1 (k + 1) l i (l.length : Int) i x = some (!x && (!any_T71 (twin (rd_T71 l i)) l i.toNat 0 && flowsFrom l d (i + 1))):=by
   intro x
   have fa:=find_any (l.take i.toNat) (rd_T71 l i).f0 (rd_T71 l i).f2 (rd_T71 l i).f3 (rd_T71 l i).f4 (rd_T71 l i).f5
   rw [hl,any_take _ l i.toNat i.toNat 0 (by omega) (by omega)] at fa
   have ft : any_T71 (twin (rd_T71 l i)) l i.toNat 0 = any_T71 (fun x => sameb (rd_T71 l i).f0 (rd_T71 l i).f2 (rd_T71 l i).f3 (rd_T71 l i).f4 (rd_T71 l i).f5 x || sameb (rd_T71 l i).f0 (rd_T71 l i).f4 (rd_T71 l i).f5 (rd_T71 l i).f2 (rd_T71 l i).f3 x) l i.toNat 0:=rfl
   rw [impl_FlowsOK.j1]
   cases x with
   | true => rfl
   | false =>
    have hf:=impl_find_ev (l.take i.toNat) (by rw [hl];omega) (rd_T71 l i).f0 (rd_T71 l i).f2 (rd_T71 l i).f3 (rd_T71 l i).f4 (rd_T71 l i).f5 k (by rw [hl];omega)
    rw [if_neg (by decide),if_pos h0,if_pos (by omega),if_pos (by omega),hf,Option.bind_some,wrap_id (by omega) (by omega),ih,ft,← fa]
    by_cases c : (findR (l.take i.toNat) (rd_T71 l i).f0 (rd_T71 l i).f2 (rd_T71 l i).f3 (rd_T71 l i).f4 (rd_T71 l i).f5).1 ≥ 0
    ·rw [if_pos c,decide_eq_true c];rfl
    ·rw [if_neg c,decide_eq_false c];rfl
  rw [impl_FlowsOK.l0,if_pos (by omega),if_pos h0,if_pos (by omega),ends_impl,Option.bind_some,within_eq,within_eq,flowsFrom,flowb_split]
  simp only [Option.bind_some,j1]
  generalize (decide (0 ≤ (rd_T71 l i).f0 ∧ (rd_T71 l i).f0 ≤ 255) && (((rd_T71 l i).f1.size : Int) == 6 && (decide (0 ≤ (rd_T71 l i).f2 ∧ (rd_T71 l i).f2 ≤ 4294967295) && (decide (0 ≤ (rd_T71 l i).f4 ∧ (rd_T71 l i).f4 ≤ 4294967295) && (decide (0 ≤ (rd_T71 l i).f3 ∧ (rd_T71 l i).f3 ≤ 65535) && (decide (0 ≤ (rd_T71 l i).f5 ∧ (rd_T71 l i).f5 ≤ 65535) && decide (0 ≤ (rd_T71 l i).f8 ∧ (rd_T71 l i).f8 ≤ 10000))))))) = u
  cases u
  ·simp
  ·cases decide (1 ≤ (rd_T71 l i).f6 ∧ (rd_T71 l i).f6 ≤ 3) <;> cases decide (0 ≤ (rd_T71 l i).f7 ∧ (rd_T71 l i).f7 ≤ 100100) <;> simp
def flowsb (l : List S71) : Bool:=decide ((l.length : Int) ≤ 8) && flowsFrom l l.length 0
theorem spec_FlowsOK_ev (l : List S71) (k : Nat) (hk : 200 ≤ k) : spec_FlowsOK.f k l = some (flowsb l):=by
 unfold spec_FlowsOK.f flowsb
 by_cases h : (l.length : Int) ≤ 8
 ·rw [if_neg (by omega),if_neg (by omega),spec_flows_run l h l.length 0 (by omega) (by omega) k (by omega),decide_eq_true h];rfl
 ·rw [decide_eq_false h]
  by_cases c : (l.length : Int) > 4096
  ·rw [if_pos c];rfl
  ·rw [if_neg c,if_pos (by omega)];rfl
theorem impl_FlowsOK_ev (l : List S71) (k : Nat) (hk : 200 ≤ k) : impl_FlowsOK.f k l = some (flowsb l):=by
 unfold impl_FlowsOK.f flowsb
 by_cases h : (l.length : Int) ≤ 8
 ·rw [if_neg (by omega),impl_flows_run l h l.length 0 (by omega) (by omega) k (by omega),decide_eq_true h];rfl
 ·rw [decide_eq_false h,if_pos (by omega)];rfl
end
section
-- NEEDS impl.FlowFind spec.FlowFind
def findA (l : List S71) (p a ap b bp : Int) : Int × Bool × Int :=
 if (l.length : Int) > 4096 then (0,false,2) else if flowsb l = true then (if (decide (0 ≤ p ∧ p ≤ 255) && ((decide (0 ≤ a ∧ a ≤ 4294967295) && decide (0 ≤ ap ∧ ap ≤ 65535)) && (decide (0 ≤ b ∧ b ≤ 4294967295) && decide (0 ≤ bp ∧ bp ≤ 65535)))) = true then (if (findR l p a ap b bp).1 < 0 then (0,false,5) else ((findR l p a ap b bp).1,(findR l p a ap b bp).2,0)) else (0,false,4)) else (0,false,1)
theorem flows_len {l : List S71} (hf : flowsb l = true) : (l.length : Int) ≤ 8:=by
 rw [flowsb,Bool.and_eq_true,decide_eq_true_eq] at hf
 exact hf.1
end
section
/-! ### spec_l09Keep: function 94 -/
def spec_l09Keep.l0 : Nat → List (S71) → Int → Int → List (S71) → Int → Option ((List (S71)))
 | 0,_,_,_,_,_ => none
 | k + 1,x0,x1,x2,x7,x8 => if x8 < (x0.length : Int) then (if 0 ≤ x8 then (if ((rd_T71 x0 x8).f7) > x1 then (if ((rd_T71 x0 x8).f8) = x2 then (spec_l09Keep.l0 k x0 x1 x2 x7 (wrap64 (x8 + 1))) else (if x7.length < 1759218604441 then (spec_l09Keep.l0 k x0 x1 x2 (x7 ++ [(⟨(rd_T71 x0 x8).f0,(rd_T71 x0 x8).f1,(rd_T71 x0 x8).f2,(rd_T71 x0 x8).f3,(rd_T71 x0 x8).f4,(rd_T71 x0 x8).f5,(rd_T71 x0 x8).f6,(rd_T71 x0 x8).f7,(rd_T71 x0 x8).f8⟩ : S71)]) (wrap64 (x8 + 1))) else (none))) else (spec_l09Keep.l0 k x0 x1 x2 x7 (wrap64 (x8 + 1)))) else (none)) else (some x7)
def spec_l09Keep.f (k : Nat) (l0 : List (S71)) (a1 : Int) (a2 : Int) : Option ((List (S71))):=spec_l09Keep.l0 k l0 a1 a2 (([] : List (S71))) 0
theorem spec_l09Keep.mono_l : ∀ k,(∀ y0 y1 y2 y3 y4,LeO (spec_l09Keep.l0 k y0 y1 y2 y3 y4) (spec_l09Keep.l0 (k + 1) y0 y1 y2 y3 y4))
 | 0 => fun _ _ _ _ _ r h => by simp [spec_l09Keep.l0] at h
 | k + 1 => by
  have ih0:=spec_l09Keep.mono_l k
  ·intro y0 y1 y2 y3 y4
   unfold spec_l09Keep.l0
   repeat' first
   | (with_reducible exact ih0 _ _ _ _ _)
   | (with_reducible exact LeO.refl _)
   | (with_reducible exact LeO.none _)
   | (with_reducible refine LeO.ite ?_ ?_)
   | (with_reducible refine LeO.bind ?_ (fun _ => ?_))
   | exact ih0 _ _ _ _ _
   | exact LeO.none _
   | refine LeO.ite ?_ ?_
   | refine LeO.bind ?_ (fun _ => ?_)
theorem spec_l09Keep.mono : ∀ a0 a1 a2 k,LeO (spec_l09Keep.f k a0 a1 a2) (spec_l09Keep.f (k + 1) a0 a1 a2):=by
 intro a0 a1 a2 k
 have ih0:=spec_l09Keep.mono_l k
 unfold spec_l09Keep.f
 repeat' first
   | (with_reducible exact ih0 _ _ _ _ _)
   | (with_reducible exact LeO.refl _)
   | (with_reducible exact LeO.none _)
   | (with_reducible refine LeO.ite ?_ ?_)
   | (with_reducible refine LeO.bind ?_ (fun _ => ?_))
   | exact ih0 _ _ _ _ _
   | exact LeO.none _
   | refine LeO.ite ?_ ?_
   | refine LeO.bind ?_ (fun _ => ?_)
set_option maxHeartbeats 8000000 in
set_option maxRecDepth 100000 in
theorem spec_l09Keep.calls (k : Nat) (A0 : Option Addr) (c0 : Nat) (l0 : List (S71)) (a1 : Int) (a2 : Int) (r : List (S71)) (w : World) (hr0 : Kd.C k71 w A0 l0.length l0) (hc0 : l0.length ≤ c0) (h : spec_l09Keep.f k l0 a1 a2 = some r) :
  Calls Try.prog 94 #[.slice A0 l0.length c0,.int .i64 a1,.int .i64 a2] w fun e w' => ∃ v0_ : Value,e = .returned (v0_) ∧ Kd.R k71 71 w' w.heap.size (fun _ => True) v0_ r ∧ Below w.heap.size w w':=by
 have hu71:=Try.underlying71
 have HR0:=aMk hr0
 have HC0:=aMk hc0
 clear hr0 hc0
 have HB:=aMk (Below.refl w.heap.size w)
 have H : (spec_l09Keep.l0 k l0 a1 a2 (([] : List (S71))) 0) = some r:=h
 clear h
 obtain ⟨y832,hy832⟩ : ∃ y_ : List (S71),y_ = (([] : List (S71))):=⟨_,rfl⟩
 replace H : (spec_l09Keep.l0 k l0 a1 a2 y832 0) = some r:=by first|(rw [hy832];with_reducible exact H)|(have H2_:=(Option.bind_some _ _).symm.trans H;rw [hy832];with_reducible exact H2_)|(have H2_:=(Option.bind_some _ _).symm.trans H;with_reducible exact H2_) | with_reducible exact H|(rw [hy832];exact H)|exact H
 have Ny832:=aMk hy832
 clear hy832
 have H':=aMk H
 clear H
 go_enter Try.func94,Try.ntmps94
 go_wp2_with (first|((with_reducible refine gate_dst (N:=9) rfl ?_);refine Kd.R_lit k71 _ 71 ?hg (N:=9) ?hd (xs:=([] : List (S71))) (inner:=[]) (ok:=fun _ => True) (okp:=fun _ => True) ?hr ?hp (fun _ hk => hk) trivial (Below.refl _ _) (Nat.le_refl _) (by simp) ?_;(case hd => rfl);(case hg => rfl);(case hr => first|(go_simp;done)|(go_simp;rfl));(case hp => exact (Reps.none _ _));intro v833 w4 ho5 hb hg_ hnew_;clear hg_ hnew_;(first|rw [← Ny832.out] at ho5|(simp only [Int.reduceToNat] at ho5;rw [← Ny832.out] at ho5));have n0_:=aMk (Kd.R_lower ho5 bSz);have n1_:=aMk (bSt hb);clear HB;have HO834:=n0_;have HB:=n1_;clear n0_ n1_;clear hb ho5))
 go_loopg [7,8] k (fun kq v7 v8 w' => ∃ (x7_1 : List (S71)) (x8_1 : Int),v8 = .int .i64 x8_1 ∧ Aside0 (spec_l09Keep.l0 kq l0 a1 a2 x7_1 x8_1 = some r) ∧ Aside0 (kq ≤ k) ∧ Aside0 (Kd.R k71 71 w' w.heap.size (fun _ => True) v7 x7_1) ∧ Aside0 (Below w.heap.size w w'))
 case atStart => exact ⟨(y832),(0),(by first | rfl|(simp;done)|(simp [*];done)|(simp [ne_nil_b];done)|(simp [ne_nil_b, *];done)),H',⟨Nat.le_refl _⟩,⟨by (with_reducible repeat (first|apply Kd.R_alloc|apply Kd.R_drewN|apply Kd.R_drew));exact HO834.out⟩,⟨by repeat (first|(with_reducible first|exact HB.out|apply bwA|apply bwN|apply bw1)|exact HB.out)⟩⟩
 case round =>
  clear H'
  try clear p2
  obtain ⟨x7_1,x8_1,rfl,HA,HK1,HO_7,HB⟩:=hrel
  cases gk with
  | zero => exact absurd HA.out (by simp [spec_l09Keep.l0])
  | succ k1 =>
   have H:=HA.out
   clear HA
   simp only [spec_l09Keep.l0] at H
   by_cases c6 : x8_1 < (l0.length : Int)
   ·rw [if_pos c6] at H
    have c6b0 : decide (x8_1 < (l0.length : Int)) = true:=decide_eq_true c6
    clear c6
    by_cases c7 : 0 ≤ x8_1
    ·rw [if_pos c7] at H
     have c7b0 : decide (0 ≤ x8_1) = true:=decide_eq_true c7
     clear c7
     by_cases c8 : ((rd_T71 l0 x8_1).f7) > a1
     ·rw [if_pos c8] at H
      have c8b0 : decide (a1 < ((rd_T71 l0 x8_1).f7)) = true:=decide_eq_true c8
      clear c8
      by_cases c9 : ((rd_T71 l0 x8_1).f8) = a2
      ·rw [if_pos c9] at H
       have c9b0 : (((rd_T71 l0 x8_1).f8) == a2) = true:=beq_iff_eq.mpr c9
       have c9b1 : (((rd_T71 l0 x8_1).f8) != a2) = false:=bne_eq_false_iff_eq.mpr c9
       clear c9
       have H':=aMk H
       clear H
       have p835 : 0 ≤ (x8_1 : Int):=of_decide_eq_true (by first|(with_reducible assumption) | assumption)
       have q835 : x8_1 < (l0.length : Int):=of_decide_eq_true (by first|(with_reducible assumption) | assumption)
       obtain ⟨ad835,e835,hx835_0,hx835_1,hx835_2,hx835_3,hx835_4,hx835_5,hx835_6,hx835_7,hx835_8⟩:=at_T71 HR0.out x8_1 p835 q835
       cases e835
       replace hx835_0:=bXc HB.out hx835_0
       replace hx835_1:=bXc HB.out hx835_1
       replace hx835_2:=bXc HB.out hx835_2
       replace hx835_3:=bXc HB.out hx835_3
       replace hx835_4:=bXc HB.out hx835_4
       replace hx835_5:=bXc HB.out hx835_5
       replace hx835_6:=bXc HB.out hx835_6
       replace hx835_7:=bXc HB.out hx835_7
       replace hx835_8:=bXc HB.out hx835_8
       replace p835:=eq_true p835
       replace q835:=eq_true q835
       have p836 : 0 ≤ (x8_1 : Int):=of_decide_eq_true (by first|(with_reducible assumption) | assumption)
       have q836 : x8_1 < (l0.length : Int):=of_decide_eq_true (by first|(with_reducible assumption) | assumption)
       obtain ⟨ad836,e836,hx836_0,hx836_1,hx836_2,hx836_3,hx836_4,hx836_5,hx836_6,hx836_7,hx836_8⟩:=at_T71 HR0.out x8_1 p836 q836
       obtain rfl : ad835 = ad836:=(by injection e836)
       replace hx836_0:=bXc HB.out hx836_0
       replace hx836_1:=bXc HB.out hx836_1
       replace hx836_2:=bXc HB.out hx836_2
       replace hx836_3:=bXc HB.out hx836_3
       replace hx836_4:=bXc HB.out hx836_4
       replace hx836_5:=bXc HB.out hx836_5
       replace hx836_6:=bXc HB.out hx836_6
       replace hx836_7:=bXc HB.out hx836_7
       replace hx836_8:=bXc HB.out hx836_8
       replace p836:=eq_true p836
       replace q836:=eq_true q836
       go_wp2
       go_roundg k1
       case measure => have:=HK1.out;omega
       case rel => exact ⟨(x7_1),(wrap64 (x8_1 + 1)),(by first | rfl|(simp;done)|(simp [*];done)|(simp [ne_nil_b];done)|(simp [ne_nil_b, *];done)),H',⟨by have:=HK1.out;omega⟩,⟨by (with_reducible repeat (first|apply Kd.R_alloc|apply Kd.R_drewN|apply Kd.R_drew));exact HO_7.out⟩,⟨by repeat (first|(with_reducible first|exact HB.out|apply bwA|apply bwN|apply bw1)|exact HB.out)⟩⟩
      ·rw [if_neg c9] at H
       have c9b0 : (((rd_T71 l0 x8_1).f8) == a2) = false:=beq_eq_false_iff_ne.mpr c9
       have c9b1 : (((rd_T71 l0 x8_1).f8) != a2) = true:=bne_iff_ne.mpr c9
       by_cases c10 : x7_1.length < 1759218604441
       ·rw [if_pos c10] at H
        have LMc10:=aMk c10
        clear c10
        obtain ⟨y838,hy838⟩ : ∃ y_ : List (S71),y_ = (x7_1 ++ [(⟨(rd_T71 l0 x8_1).f0,(rd_T71 l0 x8_1).f1,(rd_T71 l0 x8_1).f2,(rd_T71 l0 x8_1).f3,(rd_T71 l0 x8_1).f4,(rd_T71 l0 x8_1).f5,(rd_T71 l0 x8_1).f6,(rd_T71 l0 x8_1).f7,(rd_T71 l0 x8_1).f8⟩ : S71)]):=⟨_,rfl⟩
        replace H : (spec_l09Keep.l0 k1 l0 a1 a2 y838 (wrap64 (x8_1 + 1))) = some r:=by first|(rw [hy838];with_reducible exact H)|(have H2_:=(Option.bind_some _ _).symm.trans H;rw [hy838];with_reducible exact H2_)|(have H2_:=(Option.bind_some _ _).symm.trans H;with_reducible exact H2_) | with_reducible exact H|(rw [hy838];exact H)|exact H
        have Ny838:=aMk hy838
        clear hy838
        have H':=aMk H
        clear H
        have p835 : 0 ≤ (x8_1 : Int):=of_decide_eq_true (by first|(with_reducible assumption) | assumption)
        have q835 : x8_1 < (l0.length : Int):=of_decide_eq_true (by first|(with_reducible assumption) | assumption)
        obtain ⟨ad835,e835,hx835_0,hx835_1,hx835_2,hx835_3,hx835_4,hx835_5,hx835_6,hx835_7,hx835_8⟩:=at_T71 HR0.out x8_1 p835 q835
        cases e835
        replace hx835_0:=bXc HB.out hx835_0
        replace hx835_1:=bXc HB.out hx835_1
        replace hx835_2:=bXc HB.out hx835_2
        replace hx835_3:=bXc HB.out hx835_3
        replace hx835_4:=bXc HB.out hx835_4
        replace hx835_5:=bXc HB.out hx835_5
        replace hx835_6:=bXc HB.out hx835_6
        replace hx835_7:=bXc HB.out hx835_7
        replace hx835_8:=bXc HB.out hx835_8
        replace p835:=eq_true p835
        replace q835:=eq_true q835
        have p836 : 0 ≤ (x8_1 : Int):=of_decide_eq_true (by first|(with_reducible assumption) | assumption)
        have q836 : x8_1 < (l0.length : Int):=of_decide_eq_true (by first|(with_reducible assumption) | assumption)
        obtain ⟨ad836,e836,hx836_0,hx836_1,hx836_2,hx836_3,hx836_4,hx836_5,hx836_6,hx836_7,hx836_8⟩:=at_T71 HR0.out x8_1 p836 q836
        obtain rfl : ad835 = ad836:=(by injection e836)
        replace hx836_0:=bXc HB.out hx836_0
        replace hx836_1:=bXc HB.out hx836_1
        replace hx836_2:=bXc HB.out hx836_2
        replace hx836_3:=bXc HB.out hx836_3
        replace hx836_4:=bXc HB.out hx836_4
        replace hx836_5:=bXc HB.out hx836_5
        replace hx836_6:=bXc HB.out hx836_6
        replace hx836_7:=bXc HB.out hx836_7
        replace hx836_8:=bXc HB.out hx836_8
        replace p836:=eq_true p836
        replace q836:=eq_true q836
        have p837 : 0 ≤ (x8_1 : Int):=of_decide_eq_true (by first|(with_reducible assumption) | assumption)
        have q837 : x8_1 < (l0.length : Int):=of_decide_eq_true (by first|(with_reducible assumption) | assumption)
        obtain ⟨ad837,e837,hx837_0,hx837_1,hx837_2,hx837_3,hx837_4,hx837_5,hx837_6,hx837_7,hx837_8⟩:=at_T71 HR0.out x8_1 p837 q837
        obtain rfl : ad835 = ad837:=(by injection e837)
        replace hx837_0:=bXc HB.out hx837_0
        replace hx837_1:=bXc HB.out hx837_1
        replace hx837_2:=bXc HB.out hx837_2
        replace hx837_3:=bXc HB.out hx837_3
        replace hx837_4:=bXc HB.out hx837_4
        replace hx837_5:=bXc HB.out hx837_5
        replace hx837_6:=bXc HB.out hx837_6
        replace hx837_7:=bXc HB.out hx837_7
        replace hx837_8:=bXc HB.out hx837_8
        replace p837:=eq_true p837
        replace q837:=eq_true q837
        go_wp2_with (first|((with_reducible refine gate_builtin (b:=.append) (xs:=#[.tmp 32,.tmp 37]) rfl ?_);at_builtin;refine Kd.R_append k71 (w0:=w) w.heap.size rfl (.tmp 32) (.tmp 37) 40 71 (.agg #[(.int .i64 0),(.string ⟨#[]⟩),(.int .i64 0),(.int .i64 0),(.int .i64 0),(.int .i64 0),(.int .i64 0),(.int .i64 0),(.int .i64 0)]) 80 rfl Try.underlying40 info71 rfl (by decide) (by omega) u7 x7_1 (⟨(rd_T71 l0 x8_1).f0,(rd_T71 l0 x8_1).f1,(rd_T71 l0 x8_1).f2,(rd_T71 l0 x8_1).f3,(rd_T71 l0 x8_1).f4,(rd_T71 l0 x8_1).f5,(rd_T71 l0 x8_1).f6,(rd_T71 l0 x8_1).f7,(rd_T71 l0 x8_1).f8⟩ : S71) [.int .i64 ((rd_T71 l0 x8_1).f0),.string ((rd_T71 l0 x8_1).f1),.int .i64 ((rd_T71 l0 x8_1).f2),.int .i64 ((rd_T71 l0 x8_1).f3),.int .i64 ((rd_T71 l0 x8_1).f4),.int .i64 ((rd_T71 l0 x8_1).f5),.int .i64 ((rd_T71 l0 x8_1).f6),.int .i64 ((rd_T71 l0 x8_1).f7),.int .i64 ((rd_T71 l0 x8_1).f8)] (fun _ => True) (fun _ => False) rfl rfl ?aP (fun _ hk => hk.elim) ?aF ?aO ?aB ?aS ?aL ?_;(case aP => exact k71_mkM _ _ _ (⟨(rd_T71 l0 x8_1).f0,(rd_T71 l0 x8_1).f1,(rd_T71 l0 x8_1).f2,(rd_T71 l0 x8_1).f3,(rd_T71 l0 x8_1).f4,(rd_T71 l0 x8_1).f5,(rd_T71 l0 x8_1).f6,(rd_T71 l0 x8_1).f7,(rd_T71 l0 x8_1).f8⟩ : S71));(case aB => exact (by repeat first|exact HB.out|apply bwA|apply bwN|apply bw1));(case aF => exact (fun _ _ => trivial));(case aO => exact (by (with_reducible repeat (first|apply Kd.R_alloc|apply Kd.R_drewN|apply Kd.R_drew));exact HO_7.out));(case aS => exact bSz);(case aL => have:=LMc10.out;omega);intro v839 w11 ho hb hg hat;rw [← Ny838.out] at ho;have n0_:=aMk (hb);have n1_:=aMk (ho);clear HB;clear HO_7;have HB:=n0_;have HO840:=n1_;clear n0_ n1_;clear ho hb hg hat))
        go_roundg k1
        case measure => have:=HK1.out;omega
        case rel => exact ⟨(y838),(wrap64 (x8_1 + 1)),(by first | rfl|(simp;done)|(simp [*];done)|(simp [ne_nil_b];done)|(simp [ne_nil_b, *];done)),H',⟨by have:=HK1.out;omega⟩,⟨by (with_reducible repeat (first|apply Kd.R_alloc|apply Kd.R_drewN|apply Kd.R_drew));exact HO840.out⟩,⟨by repeat (first|(with_reducible first|exact HB.out|apply bwA|apply bwN|apply bw1)|exact HB.out)⟩⟩
       ·rw [if_neg c10] at H
        exact absurd H (by simp)
     ·rw [if_neg c8] at H
      have c8b0 : decide (a1 < ((rd_T71 l0 x8_1).f7)) = false:=decide_eq_false c8
      clear c8
      have H':=aMk H
      clear H
      have p835 : 0 ≤ (x8_1 : Int):=of_decide_eq_true (by first|(with_reducible assumption) | assumption)
      have q835 : x8_1 < (l0.length : Int):=of_decide_eq_true (by first|(with_reducible assumption) | assumption)
      obtain ⟨ad835,e835,hx835_0,hx835_1,hx835_2,hx835_3,hx835_4,hx835_5,hx835_6,hx835_7,hx835_8⟩:=at_T71 HR0.out x8_1 p835 q835
      cases e835
      replace hx835_0:=bXc HB.out hx835_0
      replace hx835_1:=bXc HB.out hx835_1
      replace hx835_2:=bXc HB.out hx835_2
      replace hx835_3:=bXc HB.out hx835_3
      replace hx835_4:=bXc HB.out hx835_4
      replace hx835_5:=bXc HB.out hx835_5
      replace hx835_6:=bXc HB.out hx835_6
      replace hx835_7:=bXc HB.out hx835_7
      replace hx835_8:=bXc HB.out hx835_8
      replace p835:=eq_true p835
      replace q835:=eq_true q835
      go_wp2
      go_roundg k1
      case measure => have:=HK1.out;omega
      case rel => exact ⟨(x7_1),(wrap64 (x8_1 + 1)),(by first | rfl|(simp;done)|(simp [*];done)|(simp [ne_nil_b];done)|(simp [ne_nil_b, *];done)),H',⟨by have:=HK1.out;omega⟩,⟨by (with_reducible repeat (first|apply Kd.R_alloc|apply Kd.R_drewN|apply Kd.R_drew));exact HO_7.out⟩,⟨by repeat (first|(with_reducible first|exact HB.out|apply bwA|apply bwN|apply bw1)|exact HB.out)⟩⟩
    ·rw [if_neg c7] at H
     exact absurd H (by simp)
   ·rw [if_neg c6] at H
    have c6b0 : decide (x8_1 < (l0.length : Int)) = false:=decide_eq_false c6
    clear c6
    obtain rfl:=Option.some.inj H
    go_wp2
    go_ret
    exact ⟨_,by first | rfl|(simp [errW_none,errW_some] <;> rfl)|(simp [*,errW_none,errW_some] <;> rfl),by (with_reducible repeat (first|apply Kd.R_alloc|apply Kd.R_drewN|apply Kd.R_drew));exact HO_7.out,by repeat (first|(with_reducible first|exact HB.out|apply bwA|apply bwN|apply bw1)|exact HB.out)⟩
end
section
/-! ### spec_FlowsExpire: function 45 -/
def spec_FlowsExpire.f (k : Nat) (l0 : List (S71)) (a1 : Int) : Option ((List (S71)) × Int):=if (l0.length : Int) > 4096 then (some ((([] : List (S71))),2)) else ((spec_FlowsOK.f k l0).bind fun t844 => (if t844 = true then ((spec_l09Keep.f k l0 a1 (-1)).bind fun t845 => (some (t845,0))) else (some ((([] : List (S71))),1))))
theorem spec_FlowsExpire.mono : ∀ a0 a1 k,LeO (spec_FlowsExpire.f k a0 a1) (spec_FlowsExpire.f (k + 1) a0 a1):=by
 intro a0 a1 k
 unfold spec_FlowsExpire.f
 repeat' first
   | (with_reducible exact spec_FlowsOK.mono ..)
   | (with_reducible exact spec_l09Keep.mono ..)
   | (with_reducible exact LeO.refl _)
   | (with_reducible exact LeO.none _)
   | (with_reducible refine LeO.ite ?_ ?_)
   | (with_reducible refine LeO.bind ?_ (fun _ => ?_))
   | exact spec_FlowsOK.mono ..
   | exact spec_l09Keep.mono ..
   | exact LeO.none _
   | refine LeO.ite ?_ ?_
   | refine LeO.bind ?_ (fun _ => ?_)
set_option maxHeartbeats 8000000 in
set_option maxRecDepth 100000 in
theorem spec_FlowsExpire.calls (k : Nat) (A0 : Option Addr) (c0 : Nat) (l0 : List (S71)) (a1 : Int) (r1 : List (S71)) (r2 : Int) (w : World) (hr0 : Kd.C k71 w A0 l0.length l0) (hc0 : l0.length ≤ c0) (h : spec_FlowsExpire.f k l0 a1 = some (r1,r2)) :
  Calls Try.prog 45 #[.slice A0 l0.length c0,.int .i64 a1] w fun e w' => ∃ v0_ : Value,e = .returned (.tuple #[v0_,.int .i64 r2]) ∧ Kd.R k71 71 w' w.heap.size (fun _ => True) v0_ r1 ∧ Below w.heap.size w w':=by
 have HR0:=aMk hr0
 have HC0:=aMk hc0
 clear hr0 hc0
 have HB:=aMk (Below.refl w.heap.size w)
 have H : (if (l0.length : Int) > 4096 then (some ((([] : List (S71))),2)) else ((spec_FlowsOK.f k l0).bind fun t844 => (if t844 = true then ((spec_l09Keep.f k l0 a1 (-1)).bind fun t845 => (some (t845,0))) else (some ((([] : List (S71))),1))))) = some (r1,r2):=h
 clear h
 by_cases c3 : (l0.length : Int) > 4096
 ·rw [if_pos c3] at H
  have c3b0 : decide (4096 < (l0.length : Int)) = true:=decide_eq_true c3
  have c3b1 : decide (4096 < l0.length) = true:=decide_eq_true (by omega)
  clear c3
  obtain ⟨y841,hy841⟩ : ∃ y_ : List (S71),y_ = (([] : List (S71))):=⟨_,rfl⟩
  replace H : (some (y841,2)) = some (r1,r2):=by first|(rw [hy841];with_reducible exact H)|(have H2_:=(Option.bind_some _ _).symm.trans H;rw [hy841];with_reducible exact H2_)|(have H2_:=(Option.bind_some _ _).symm.trans H;with_reducible exact H2_) | with_reducible exact H|(rw [hy841];exact H)|exact H
  have Ny841:=aMk hy841
  clear hy841
  simp only [Option.some.injEq,Prod.mk.injEq] at H
  obtain ⟨rfl,rfl⟩:=H
  go_enter Try.func45,Try.ntmps45
  go_wp2_with (first|((with_reducible refine gate_dst (N:=9) rfl ?_);refine Kd.R_lit k71 _ 71 ?hg (N:=9) ?hd (xs:=([] : List (S71))) (inner:=[]) (ok:=fun _ => True) (okp:=fun _ => True) ?hr ?hp (fun _ hk => hk) trivial (Below.refl _ _) (Nat.le_refl _) (by simp) ?_;(case hd => rfl);(case hg => rfl);(case hr => first|(go_simp;done)|(go_simp;rfl));(case hp => exact (Reps.none _ _));intro v842 w4 ho5 hb hg_ hnew_;clear hg_ hnew_;(first|rw [← Ny841.out] at ho5|(simp only [Int.reduceToNat] at ho5;rw [← Ny841.out] at ho5));have n0_:=aMk (Kd.R_lower ho5 bSz);have n1_:=aMk (bSt hb);clear HB;have HO843:=n0_;have HB:=n1_;clear n0_ n1_;clear hb ho5))
  go_ret2
  exact ⟨_,by first | rfl|(simp [errW_none,errW_some] <;> rfl)|(simp [*,errW_none,errW_some] <;> rfl),by (with_reducible repeat (first|apply Kd.R_alloc|apply Kd.R_drewN|apply Kd.R_drew));exact HO843.out,by repeat (first|(with_reducible first|exact HB.out|apply bwA|apply bwN|apply bw1)|exact HB.out)⟩
 ·rw [if_neg c3] at H
  have c3b0 : decide (4096 < (l0.length : Int)) = false:=decide_eq_false c3
  have c3b1 : decide (4096 < l0.length) = false:=decide_eq_false (by omega)
  clear c3
  replace H:=Option.bind_eq_some_iff.mp H
  obtain ⟨t844,A60,H⟩:=H
  replace H : (if t844 = true then ((spec_l09Keep.f k l0 a1 (-1)).bind fun t845 => (some (t845,0))) else (some ((([] : List (S71))),1))) = some (r1,r2):=H
  have A6:=aMk A60
  clear A60
  by_cases c7 : t844 = true
  ·subst c7
   have H1 : ((spec_l09Keep.f k l0 a1 (-1)).bind fun t845 => (some (t845,0))) = some (r1,r2):=by rw [if_pos rfl] at H;exact H
   clear H
   have H:=H1
   clear H1
   replace H:=Option.bind_eq_some_iff.mp H
   obtain ⟨t845,A80,H⟩:=H
   replace H : (some (t845,0)) = some (r1,r2):=H
   have A8:=aMk A80
   clear A80
   simp only [Option.some.injEq,Prod.mk.injEq] at H
   obtain ⟨rfl,rfl⟩:=H
   go_enter Try.func45,Try.ntmps45
   go_wp2_with (first|((with_reducible refine gate_callee (f:=27) rfl ?_);refine gLs 11 Try.func27 #[.slice A0 l0.length c0] ?_;(with_reducible refine (spec_FlowsOK.calls k _ _ l0 true _ ?side1 ?side2 A6.out).mono ?_);(case side1 => repeat (first|exact HR0.out|(with_reducible refine Kd.C_alloc ?_ _)|(with_reducible refine Kd.C_drewN ?_ _)|(with_reducible refine Kd.C_drew ?_)));(case side2 => exact HC0.out);rintro e w9 ⟨rfl,hb⟩;refine ⟨_,rfl,?_⟩;have n0_:=aMk (bSt hb);clear HB;have HB:=n0_;clear n0_;(try clear hb);(try clear hb2);(try clear hk);(try clear hi))|((with_reducible refine gate_callee (f:=94) rfl ?_);refine gLs 16 Try.func94 #[.slice A0 l0.length c0,.int .i64 a1,.int .i64 (-1)] ?_;(with_reducible refine (spec_l09Keep.calls k _ _ l0 a1 (-1) t845 _ ?side1 ?side2 A8.out).mono ?_);(case side1 => repeat (first|exact (Kd.C_below HR0.out HB.out)|(with_reducible refine Kd.C_alloc ?_ _)|(with_reducible refine Kd.C_drewN ?_ _)|(with_reducible refine Kd.C_drew ?_)));(case side2 => exact HC0.out);rintro e w10 ⟨v846,rfl,ho0,hb⟩;refine ⟨_,rfl,?_⟩;have n0_:=aMk (Kd.R_lower ho0 bSz);have n1_:=aMk (bSt hb);clear HB;have HO847:=n0_;have HB:=n1_;clear n0_ n1_;(try clear hb);(try clear hb2);(try clear hk);(try clear hi);(try clear ho0)))
   go_ret2
   exact ⟨_,by first | rfl|(simp [errW_none,errW_some] <;> rfl)|(simp [*,errW_none,errW_some] <;> rfl),by (with_reducible repeat (first|apply Kd.R_alloc|apply Kd.R_drewN|apply Kd.R_drew));exact HO847.out,by repeat (first|(with_reducible first|exact HB.out|apply bwA|apply bwN|apply bw1)|exact HB.out)⟩
  ·replace c7:=Bool.eq_false_iff.mpr c7
   subst c7
   have H1 : (some ((([] : List (S71))),1)) = some (r1,r2):=by rw [if_neg (show ¬ (false = true) by decide)] at H;exact H
   clear H
   have H:=H1
   clear H1
   obtain ⟨y848,hy848⟩ : ∃ y_ : List (S71),y_ = (([] : List (S71))):=⟨_,rfl⟩
   replace H : (some (y848,1)) = some (r1,r2):=by first|(rw [hy848];with_reducible exact H)|(have H2_:=(Option.bind_some _ _).symm.trans H;rw [hy848];with_reducible exact H2_)|(have H2_:=(Option.bind_some _ _).symm.trans H;with_reducible exact H2_) | with_reducible exact H|(rw [hy848];exact H)|exact H
   have Ny848:=aMk hy848
   clear hy848
   simp only [Option.some.injEq,Prod.mk.injEq] at H
   obtain ⟨rfl,rfl⟩:=H
   go_enter Try.func45,Try.ntmps45
   go_wp2_with (first|((with_reducible refine gate_callee (f:=27) rfl ?_);refine gLs 11 Try.func27 #[.slice A0 l0.length c0] ?_;(with_reducible refine (spec_FlowsOK.calls k _ _ l0 false _ ?side1 ?side2 A6.out).mono ?_);(case side1 => repeat (first|exact HR0.out|(with_reducible refine Kd.C_alloc ?_ _)|(with_reducible refine Kd.C_drewN ?_ _)|(with_reducible refine Kd.C_drew ?_)));(case side2 => exact HC0.out);rintro e w11 ⟨rfl,hb⟩;refine ⟨_,rfl,?_⟩;have n0_:=aMk (bSt hb);clear HB;have HB:=n0_;clear n0_;(try clear hb);(try clear hb2);(try clear hk);(try clear hi))|((with_reducible refine gate_dst (N:=13) rfl ?_);refine Kd.R_lit k71 _ 71 ?hg (N:=13) ?hd (xs:=([] : List (S71))) (inner:=[]) (ok:=fun _ => True) (okp:=fun _ => True) ?hr ?hp (fun _ hk => hk) trivial (Below.refl _ _) (Nat.le_refl _) (by simp) ?_;(case hd => rfl);(case hg => rfl);(case hr => first|(go_simp;done)|(go_simp;rfl));(case hp => exact (Reps.none _ _));intro v849 w12 ho13 hb hg_ hnew_;clear hg_ hnew_;(first|rw [← Ny848.out] at ho13|(simp only [Int.reduceToNat] at ho13;rw [← Ny848.out] at ho13));have n0_:=aMk (Kd.R_lower ho13 bSz);have n1_:=aMk (bSt hb);clear HB;have HO850:=n0_;have HB:=n1_;clear n0_ n1_;clear hb ho13))
   go_ret2
   exact ⟨_,by first | rfl|(simp [errW_none,errW_some] <;> rfl)|(simp [*,errW_none,errW_some] <;> rfl),by (with_reducible repeat (first|apply Kd.R_alloc|apply Kd.R_drewN|apply Kd.R_drew));exact HO850.out,by repeat (first|(with_reducible first|exact HB.out|apply bwA|apply bwN|apply bw1)|exact HB.out)⟩
end
section
/-! ### impl_flowsExpire_1: function 117 -/
def impl_flowsExpire_1.f (a0_0 : Int) (a0_1 : ByteArray) (a0_2 : Int) (a0_3 : Int) (a0_4 : Int) (a0_5 : Int) (a0_6 : Int) (a0_7 : Int) (a0_8 : Int) (a1 : Int) : Option (Bool):=some (decide (a0_7 ≤ a1))
set_option maxHeartbeats 8000000 in
set_option maxRecDepth 100000 in
theorem impl_flowsExpire_1.calls (q1 : Nat) (a0_0 : Int) (a0_1 : ByteArray) (a0_2 : Int) (a0_3 : Int) (a0_4 : Int) (a0_5 : Int) (a0_6 : Int) (a0_7 : Int) (a0_8 : Int) (a1 : Int) (r : Bool) (w : World) (hq1 : w.cell? ⟨q1,0,none⟩ = some (.int .i64 a1)) (h : impl_flowsExpire_1.f a0_0 a0_1 a0_2 a0_3 a0_4 a0_5 a0_6 a0_7 a0_8 a1 = some r) :
  Calls Try.prog 117 #[.agg #[.int .i64 a0_0,.string a0_1,.int .i64 a0_2,.int .i64 a0_3,.int .i64 a0_4,.int .i64 a0_5,.int .i64 a0_6,.int .i64 a0_7,.int .i64 a0_8],.pointer (some ⟨q1,0,none⟩)] w fun e w' => e = .returned (.bool r) ∧ Below w.heap.size w w':=by
 have HQ1:=aMk hq1
 clear hq1
 have hu71:=Try.underlying71
 have HB:=aMk (Below.refl w.heap.size w)
 have H : (some (decide (a0_7 ≤ a1))) = some r:=h
 clear h
 obtain rfl:=Option.some.inj H
 have hcq1:=HQ1.out
 go_enter Try.func117,Try.ntmps117
 go_wp2_with (first|((with_reducible refine gate_dst (N:=2) rfl ?_);refine bxE (N:=2) (cs:=#[.int .i64 a0_0,.string a0_1,.int .i64 a0_2,.int .i64 a0_3,.int .i64 a0_4,.int .i64 a0_5,.int .i64 a0_6,.int .i64 a0_7,.int .i64 a0_8]) (t:=71) ?_;intro gb857 hg w3 hbox hb;have n0_:=aMk (bSt hb);have n1_:=aMk (hbox);have n2_:=aMk ((by rw [hg];exact bSz : w.heap.size ≤ gb857));have n3_:=aMk ((by rw [hg];exact bSz : w.heap.size ≤ gb857));clear HB;have HB:=n0_;have hcq1:=(HB.out.cell (wLt w _ HQ1.out)).trans HQ1.out;have BK857:=n1_;have GW857:=n2_;have GE857:=n3_;clear n0_ n1_ n2_ n3_;clear hb hbox hg;obtain ⟨hcz4_0,hcz4_1,hcz4_2,hcz4_3,hcz4_4,hcz4_5,hcz4_6,hcz4_7,hcz4_8,hfz4_0,hfz4_1,hfz4_2,hfz4_3,hfz4_4,hfz4_5,hfz4_6,hfz4_7,hfz4_8⟩:=bC9 BK857.out))
 go_ret
 exact ⟨eRf,by repeat (first|(with_reducible first|exact HB.out|apply bwA|apply bwN|apply bw1|refine below_set ?_ GE857.out)|exact HB.out)⟩
end
section
/-! ### impl_flowsExpire: function 95 -/
-- USES 100 116 117
def impl_flowsExpire.f (a0 : List S71) (a1 : Int) : Option (List S71):=(impl_Flow_100.f a0).bind fun y => some (y.filter fun x => !decide (x.f7 ≤ a1))
set_option maxHeartbeats 8000000 in
set_option maxRecDepth 100000 in
theorem impl_flowsExpire.calls (A0 : Option Addr) (c0 : Nat) (l0 : List S71) (a1 : Int) (r : List S71) (w : World) (hr0 : Kd.C k71 w A0 l0.length l0) (hc0 : l0.length ≤ c0) (h : impl_flowsExpire.f l0 a1 = some r) :
  Calls Try.prog 95 #[.slice A0 l0.length c0,.int .i64 a1] w fun e w' => ∃ v0_ : Value,e = .returned (v0_) ∧ Kd.R k71 71 w' w.heap.size (fun _ => True) v0_ r ∧ Below w.heap.size w w':=by
 rw [impl_flowsExpire.f] at h
 obtain ⟨y,hy,h2⟩:=Option.bind_eq_some_iff.1 h
 obtain rfl:=Option.some.inj h2
 have HR:=aMk hr0
 have HC:=aMk hc0
 have HY:=aMk hy
 clear h h2 hy hr0 hc0
 have HB:=aMk (Below.refl w.heap.size w)
 go_enter Try.func95,Try.ntmps95
 go_wp2_with (first
  | ((with_reducible refine gate_dst (N:=3) rfl ?_);refine bxE (N:=3) (cs:=#[.int .i64 a1]) (t:=3) ?_;intro gb hg w1 hbox hb;have n0_:=aMk (below_step HB.out hb);clear HB;have HB:=n0_;clear n0_;have BK:=aMk hbox;have HG:=aMk hg;clear hg hb hbox)
  | (
    go_at_call 100
    refine (impl_Flow_100.calls A0 c0 l0 y _ (Kd.C_below HR.out HB.out) HC.out HY.out).mono ?_
    rintro e w2 ⟨v0,rfl,hRy,hb2⟩
    have HRY:=aMk hRy
    have HB2:=aMk hb2
    clear hRy hb2)
  | (
    go_at_call 116
    refine (delFlow 117 #[.pointer (some ⟨gb,0,none⟩)] (enters_of Try.func117 (by kernel_rfl) rfl) (fun x => decide (x.f7 ≤ a1)) v0 y w1.heap.size w2 HRY.out HB2.out.size (clone_len71 HY.out) ?hp).mono ?_
    case hp =>
     intro W x hW
     have hlt:=blk_lt BK.out
     exact impl_flowsExpire_1.calls gb x.f0 x.f1 x.f2 x.f3 x.f4 x.f5 x.f6 x.f7 x.f8 a1 _ W ((bCe (((hW gb hlt).trans (HB2.out.block gb hlt)).trans BK.out) 0).trans rfl) rfl
    rintro e w3 ⟨v1,rfl,hRz,hb3⟩
    have HRZ:=aMk hRz
    have HB3:=aMk hb3
    clear hRz hb3))
 go_ret
 have hs:=HB.out.size
 refine ⟨_,rfl,Kd.R_lower HRZ.out hs,?_⟩
 have b2:=HB2.out
 have b3:=HB3.out
 have b1:=HB.out
 exact ⟨b3.os.trans (b2.os.trans b1.os),b3.tape.trans (b2.tape.trans b1.tape),b3.output.trans (b2.output.trans b1.output),Nat.le_trans b1.size (Nat.le_trans b2.size b3.size),fun k hk => (b3.block k (by omega)).trans ((b2.block k (by omega)).trans (b1.block k hk))⟩
end
section
/-! ### impl_FlowsExpire: function 46 -/
def impl_FlowsExpire.f (k : Nat) (l0 : List (S71)) (a1 : Int) : Option ((List (S71)) × Int):=(impl_flowsFault.f k l0).bind fun t858 => (if t858 = 0 then ((impl_flowsExpire.f l0 a1).bind fun t859 => (some (t859,0))) else (some (([] : List (S71)),t858)))
theorem impl_FlowsExpire.mono : ∀ a0 a1 k,LeO (impl_FlowsExpire.f k a0 a1) (impl_FlowsExpire.f (k + 1) a0 a1):=by
 intro a0 a1 k
 unfold impl_FlowsExpire.f
 repeat' first
   | (with_reducible exact impl_flowsFault.mono ..)
   | (with_reducible exact LeO.refl _)
   | (with_reducible exact LeO.none _)
   | (with_reducible refine LeO.ite ?_ ?_)
   | (with_reducible refine LeO.bind ?_ (fun _ => ?_))
   | exact impl_flowsFault.mono ..
   | exact LeO.none _
   | refine LeO.ite ?_ ?_
   | refine LeO.bind ?_ (fun _ => ?_)
set_option maxHeartbeats 8000000 in
set_option maxRecDepth 100000 in
theorem impl_FlowsExpire.calls (k : Nat) (A0 : Option Addr) (c0 : Nat) (l0 : List (S71)) (a1 : Int) (r1 : List (S71)) (r2 : Int) (w : World) (hr0 : Kd.C k71 w A0 l0.length l0) (hc0 : l0.length ≤ c0) (h : impl_FlowsExpire.f k l0 a1 = some (r1,r2)) :
  Calls Try.prog 46 #[.slice A0 l0.length c0,.int .i64 a1] w fun e w' => ∃ v0_ : Value,e = .returned (.tuple #[v0_,.int .i64 r2]) ∧ Kd.R k71 71 w' w.heap.size (fun _ => True) v0_ r1 ∧ Below w.heap.size w w':=by
 have HR0:=aMk hr0
 have HC0:=aMk hc0
 clear hr0 hc0
 have HB:=aMk (Below.refl w.heap.size w)
 have H : ((impl_flowsFault.f k l0).bind fun t858 => (if t858 = 0 then ((impl_flowsExpire.f l0 a1).bind fun t859 => (some (t859,0))) else (some (([] : List (S71)),t858)))) = some (r1,r2):=h
 clear h
 replace H:=Option.bind_eq_some_iff.mp H
 obtain ⟨t858,A30,H⟩:=H
 replace H : (if t858 = 0 then ((impl_flowsExpire.f l0 a1).bind fun t859 => (some (t859,0))) else (some (([] : List (S71)),t858))) = some (r1,r2):=H
 have A3:=aMk A30
 clear A30
 by_cases c4 : t858 = 0
 ·rw [if_pos c4] at H
  have c4b0 : (t858 == 0) = true:=beq_iff_eq.mpr c4
  have c4b1 : (t858 != 0) = false:=bne_eq_false_iff_eq.mpr c4
  clear c4
  replace H:=Option.bind_eq_some_iff.mp H
  obtain ⟨t859,A50,H⟩:=H
  replace H : (some (t859,0)) = some (r1,r2):=H
  have A5:=aMk A50
  clear A50
  simp only [Option.some.injEq,Prod.mk.injEq] at H
  obtain ⟨rfl,rfl⟩:=H
  go_enter Try.func46,Try.ntmps46
  go_wp2_with (first|((with_reducible refine gate_callee (f:=81) rfl ?_);refine gLs 8 Try.func81 #[.slice A0 l0.length c0] ?_;(with_reducible refine (impl_flowsFault.calls k _ _ l0 t858 _ ?side1 ?side2 A3.out).mono ?_);(case side1 => repeat (first|exact HR0.out|(with_reducible refine Kd.C_alloc ?_ _)|(with_reducible refine Kd.C_drewN ?_ _)|(with_reducible refine Kd.C_drew ?_)));(case side2 => exact HC0.out);rintro e w6 ⟨rfl,hb⟩;refine ⟨_,rfl,?_⟩;have n0_:=aMk (bSt hb);clear HB;have HB:=n0_;clear n0_;(try clear hb);(try clear hb2);(try clear hk);(try clear hi))|((with_reducible refine gate_callee (f:=95) rfl ?_);refine gLs 14 Try.func95 #[.slice A0 l0.length c0,.int .i64 a1] ?_;(with_reducible refine (impl_flowsExpire.calls _ _ l0 a1 t859 _ ?side1 ?side2 A5.out).mono ?_);(case side1 => repeat (first|exact (Kd.C_below HR0.out HB.out)|(with_reducible refine Kd.C_alloc ?_ _)|(with_reducible refine Kd.C_drewN ?_ _)|(with_reducible refine Kd.C_drew ?_)));(case side2 => exact HC0.out);rintro e w7 ⟨v860,rfl,ho0,hb⟩;refine ⟨_,rfl,?_⟩;have n0_:=aMk (Kd.R_lower ho0 bSz);have n1_:=aMk (bSt hb);clear HB;have HO861:=n0_;have HB:=n1_;clear n0_ n1_;(try clear hb);(try clear hb2);(try clear hk);(try clear hi);(try clear ho0)))
  go_ret2
  exact ⟨_,by first | rfl|(simp [errW_none,errW_some] <;> rfl)|(simp [*,errW_none,errW_some] <;> rfl),by (with_reducible repeat (first|apply Kd.R_alloc|apply Kd.R_drewN|apply Kd.R_drew));exact HO861.out,by repeat (first|(with_reducible first|exact HB.out|apply bwA|apply bwN|apply bw1)|exact HB.out)⟩
 ·rw [if_neg c4] at H
  have c4b0 : (t858 == 0) = false:=beq_eq_false_iff_ne.mpr c4
  have c4b1 : (t858 != 0) = true:=bne_iff_ne.mpr c4
  simp only [Option.some.injEq,Prod.mk.injEq] at H
  obtain ⟨rfl,rfl⟩:=H
  go_enter Try.func46,Try.ntmps46
  go_wp2_with (first|((with_reducible refine gate_callee (f:=81) rfl ?_);refine gLs 8 Try.func81 #[.slice A0 l0.length c0] ?_;(with_reducible refine (impl_flowsFault.calls k _ _ l0 t858 _ ?side1 ?side2 A3.out).mono ?_);(case side1 => repeat (first|exact HR0.out|(with_reducible refine Kd.C_alloc ?_ _)|(with_reducible refine Kd.C_drewN ?_ _)|(with_reducible refine Kd.C_drew ?_)));(case side2 => exact HC0.out);rintro e w8 ⟨rfl,hb⟩;refine ⟨_,rfl,?_⟩;have n0_:=aMk (bSt hb);clear HB;have HB:=n0_;clear n0_;(try clear hb);(try clear hb2);(try clear hk);(try clear hi)))
  go_ret2
  exact ⟨_,by first | rfl|(simp [errW_none,errW_some] <;> rfl)|(simp [*,errW_none,errW_some] <;> rfl),by first|exact Kd.R_nil _ _ _ _ _|exact Kd.N_nil _ _ _ _ _|exact Kd.V_nil _ _ _ _ _|exact Kd.Q_nil _ _ _ _ _|exact Kd.S_nil _ _ _ _ _,by repeat (first|(with_reducible first|exact HB.out|apply bwA|apply bwN|apply bw1)|exact HB.out)⟩
end
section
/-! ### spec_FlowsDrop: function 49 -/
def spec_FlowsDrop.f (k : Nat) (l0 : List (S71)) (a1 : Int) : Option ((List (S71)) × Int):=if (l0.length : Int) > 4096 then (some ((([] : List (S71))),2)) else ((spec_FlowsOK.f k l0).bind fun t920 => (if t920 = true then ((spec_l01In.f a1 0 10000).bind fun t924 => (if t924 = true then ((spec_l09Keep.f k l0 (-1) a1).bind fun t925 => (some (t925,0))) else (some ((([] : List (S71))),4)))) else (some ((([] : List (S71))),1))))
theorem spec_FlowsDrop.mono : ∀ a0 a1 k,LeO (spec_FlowsDrop.f k a0 a1) (spec_FlowsDrop.f (k + 1) a0 a1):=by
 intro a0 a1 k
 unfold spec_FlowsDrop.f
 repeat' first
   | (with_reducible exact spec_FlowsOK.mono ..)
   | (with_reducible exact spec_l09Keep.mono ..)
   | (with_reducible exact LeO.refl _)
   | (with_reducible exact LeO.none _)
   | (with_reducible refine LeO.ite ?_ ?_)
   | (with_reducible refine LeO.bind ?_ (fun _ => ?_))
   | exact spec_FlowsOK.mono ..
   | exact spec_l09Keep.mono ..
   | exact LeO.none _
   | refine LeO.ite ?_ ?_
   | refine LeO.bind ?_ (fun _ => ?_)
set_option maxHeartbeats 8000000 in
set_option maxRecDepth 100000 in
theorem spec_FlowsDrop.calls (k : Nat) (A0 : Option Addr) (c0 : Nat) (l0 : List (S71)) (a1 : Int) (r1 : List (S71)) (r2 : Int) (w : World) (hr0 : Kd.C k71 w A0 l0.length l0) (hc0 : l0.length ≤ c0) (h : spec_FlowsDrop.f k l0 a1 = some (r1,r2)) :
  Calls Try.prog 49 #[.slice A0 l0.length c0,.int .i64 a1] w fun e w' => ∃ v0_ : Value,e = .returned (.tuple #[v0_,.int .i64 r2]) ∧ Kd.R k71 71 w' w.heap.size (fun _ => True) v0_ r1 ∧ Below w.heap.size w w':=by
 have HR0:=aMk hr0
 have HC0:=aMk hc0
 clear hr0 hc0
 have HB:=aMk (Below.refl w.heap.size w)
 have H : (if (l0.length : Int) > 4096 then (some ((([] : List (S71))),2)) else ((spec_FlowsOK.f k l0).bind fun t920 => (if t920 = true then ((spec_l01In.f a1 0 10000).bind fun t924 => (if t924 = true then ((spec_l09Keep.f k l0 (-1) a1).bind fun t925 => (some (t925,0))) else (some ((([] : List (S71))),4)))) else (some ((([] : List (S71))),1))))) = some (r1,r2):=h
 clear h
 by_cases c3 : (l0.length : Int) > 4096
 ·rw [if_pos c3] at H
  have c3b0 : decide (4096 < (l0.length : Int)) = true:=decide_eq_true c3
  have c3b1 : decide (4096 < l0.length) = true:=decide_eq_true (by omega)
  clear c3
  obtain ⟨y917,hy917⟩ : ∃ y_ : List (S71),y_ = (([] : List (S71))):=⟨_,rfl⟩
  replace H : (some (y917,2)) = some (r1,r2):=by first|(rw [hy917];with_reducible exact H)|(have H2_:=(Option.bind_some _ _).symm.trans H;rw [hy917];with_reducible exact H2_)|(have H2_:=(Option.bind_some _ _).symm.trans H;with_reducible exact H2_) | with_reducible exact H|(rw [hy917];exact H)|exact H
  have Ny917:=aMk hy917
  clear hy917
  simp only [Option.some.injEq,Prod.mk.injEq] at H
  obtain ⟨rfl,rfl⟩:=H
  go_enter Try.func49,Try.ntmps49
  go_wp2_with (first|((with_reducible refine gate_dst (N:=9) rfl ?_);refine Kd.R_lit k71 _ 71 ?hg (N:=9) ?hd (xs:=([] : List (S71))) (inner:=[]) (ok:=fun _ => True) (okp:=fun _ => True) ?hr ?hp (fun _ hk => hk) trivial (Below.refl _ _) (Nat.le_refl _) (by simp) ?_;(case hd => rfl);(case hg => rfl);(case hr => first|(go_simp;done)|(go_simp;rfl));(case hp => exact (Reps.none _ _));intro v918 w4 ho5 hb hg_ hnew_;clear hg_ hnew_;(first|rw [← Ny917.out] at ho5|(simp only [Int.reduceToNat] at ho5;rw [← Ny917.out] at ho5));have n0_:=aMk (Kd.R_lower ho5 bSz);have n1_:=aMk (bSt hb);clear HB;have HO919:=n0_;have HB:=n1_;clear n0_ n1_;clear hb ho5))
  go_ret2
  exact ⟨_,by first | rfl|(simp [errW_none,errW_some] <;> rfl)|(simp [*,errW_none,errW_some] <;> rfl),by (with_reducible repeat (first|apply Kd.R_alloc|apply Kd.R_drewN|apply Kd.R_drew));exact HO919.out,by repeat (first|(with_reducible first|exact HB.out|apply bwA|apply bwN|apply bw1)|exact HB.out)⟩
 ·rw [if_neg c3] at H
  have c3b0 : decide (4096 < (l0.length : Int)) = false:=decide_eq_false c3
  have c3b1 : decide (4096 < l0.length) = false:=decide_eq_false (by omega)
  clear c3
  replace H:=Option.bind_eq_some_iff.mp H
  obtain ⟨t920,A60,H⟩:=H
  replace H : (if t920 = true then ((spec_l01In.f a1 0 10000).bind fun t924 => (if t924 = true then ((spec_l09Keep.f k l0 (-1) a1).bind fun t925 => (some (t925,0))) else (some ((([] : List (S71))),4)))) else (some ((([] : List (S71))),1))) = some (r1,r2):=H
  have A6:=aMk A60
  clear A60
  by_cases c7 : t920 = true
  ·subst c7
   have H1 : ((spec_l01In.f a1 0 10000).bind fun t924 => (if t924 = true then ((spec_l09Keep.f k l0 (-1) a1).bind fun t925 => (some (t925,0))) else (some ((([] : List (S71))),4)))) = some (r1,r2):=by rw [if_pos rfl] at H;exact H
   clear H
   have H:=H1
   clear H1
   replace H:=Option.bind_eq_some_iff.mp H
   obtain ⟨t924,A80,H⟩:=H
   replace H : (if t924 = true then ((spec_l09Keep.f k l0 (-1) a1).bind fun t925 => (some (t925,0))) else (some ((([] : List (S71))),4))) = some (r1,r2):=H
   have A8:=aMk A80
   clear A80
   by_cases c9 : t924 = true
   ·subst c9
    have H1 : ((spec_l09Keep.f k l0 (-1) a1).bind fun t925 => (some (t925,0))) = some (r1,r2):=by rw [if_pos rfl] at H;exact H
    clear H
    have H:=H1
    clear H1
    replace H:=Option.bind_eq_some_iff.mp H
    obtain ⟨t925,A100,H⟩:=H
    replace H : (some (t925,0)) = some (r1,r2):=H
    have A10:=aMk A100
    clear A100
    simp only [Option.some.injEq,Prod.mk.injEq] at H
    obtain ⟨rfl,rfl⟩:=H
    go_enter Try.func49,Try.ntmps49
    go_wp2_with (first|((with_reducible refine gate_callee (f:=27) rfl ?_);refine gLs 11 Try.func27 #[.slice A0 l0.length c0] ?_;(with_reducible refine (spec_FlowsOK.calls k _ _ l0 true _ ?side1 ?side2 A6.out).mono ?_);(case side1 => repeat (first|exact HR0.out|(with_reducible refine Kd.C_alloc ?_ _)|(with_reducible refine Kd.C_drewN ?_ _)|(with_reducible refine Kd.C_drew ?_)));(case side2 => exact HC0.out);rintro e w11 ⟨rfl,hb⟩;refine ⟨_,rfl,?_⟩;have n0_:=aMk (bSt hb);clear HB;have HB:=n0_;clear n0_;(try clear hb);(try clear hb2);(try clear hk);(try clear hi))|((with_reducible refine gate_callee (f:=64) rfl ?_);refine gLs 15 Try.func64 #[.int .i64 a1,.int .i64 0,.int .i64 10000] ?_;(with_reducible refine (spec_l01In.calls a1 0 10000 true _ A8.out).mono ?_);rintro e w' ⟨rfl,⟨nd,rfl⟩⟩;refine ⟨_,rfl,?_⟩)|((with_reducible refine gate_callee (f:=94) rfl ?_);refine gLs 20 Try.func94 #[.slice A0 l0.length c0,.int .i64 (-1),.int .i64 a1] ?_;(with_reducible refine (spec_l09Keep.calls k _ _ l0 (-1) a1 t925 _ ?side1 ?side2 A10.out).mono ?_);(case side1 => repeat (first|exact (Kd.C_below HR0.out (by repeat first|exact HB.out|apply bwA|apply bwN|apply bw1))|(with_reducible refine Kd.C_alloc ?_ _)|(with_reducible refine Kd.C_drewN ?_ _)|(with_reducible refine Kd.C_drew ?_)));(case side2 => exact HC0.out);rintro e w12 ⟨v926,rfl,ho0,hb⟩;refine ⟨_,rfl,?_⟩;have n0_:=aMk (Kd.R_lower ho0 bSz);have n1_:=aMk (bSt hb);clear HB;have HO927:=n0_;have HB:=n1_;clear n0_ n1_;(try clear hb);(try clear hb2);(try clear hk);(try clear hi);(try clear ho0)))
    go_ret2
    exact ⟨_,by first | rfl|(simp [errW_none,errW_some] <;> rfl)|(simp [*,errW_none,errW_some] <;> rfl),by (with_reducible repeat (first|apply Kd.R_alloc|apply Kd.R_drewN|apply Kd.R_drew));exact HO927.out,by repeat (first|(with_reducible first|exact HB.out|apply bwA|apply bwN|apply bw1)|exact HB.out)⟩
   ·replace c9:=Bool.eq_false_iff.mpr c9
    subst c9
    have H1 : (some ((([] : List (S71))),4)) = some (r1,r2):=by rw [if_neg (show ¬ (false = true) by decide)] at H;exact H
    clear H
    have H:=H1
    clear H1
    obtain ⟨y928,hy928⟩ : ∃ y_ : List (S71),y_ = (([] : List (S71))):=⟨_,rfl⟩
    replace H : (some (y928,4)) = some (r1,r2):=by first|(rw [hy928];with_reducible exact H)|(have H2_:=(Option.bind_some _ _).symm.trans H;rw [hy928];with_reducible exact H2_)|(have H2_:=(Option.bind_some _ _).symm.trans H;with_reducible exact H2_) | with_reducible exact H|(rw [hy928];exact H)|exact H
    have Ny928:=aMk hy928
    clear hy928
    simp only [Option.some.injEq,Prod.mk.injEq] at H
    obtain ⟨rfl,rfl⟩:=H
    go_enter Try.func49,Try.ntmps49
    go_wp2_with (first|((with_reducible refine gate_callee (f:=27) rfl ?_);refine gLs 11 Try.func27 #[.slice A0 l0.length c0] ?_;(with_reducible refine (spec_FlowsOK.calls k _ _ l0 true _ ?side1 ?side2 A6.out).mono ?_);(case side1 => repeat (first|exact HR0.out|(with_reducible refine Kd.C_alloc ?_ _)|(with_reducible refine Kd.C_drewN ?_ _)|(with_reducible refine Kd.C_drew ?_)));(case side2 => exact HC0.out);rintro e w13 ⟨rfl,hb⟩;refine ⟨_,rfl,?_⟩;have n0_:=aMk (bSt hb);clear HB;have HB:=n0_;clear n0_;(try clear hb);(try clear hb2);(try clear hk);(try clear hi))|((with_reducible refine gate_callee (f:=64) rfl ?_);refine gLs 15 Try.func64 #[.int .i64 a1,.int .i64 0,.int .i64 10000] ?_;(with_reducible refine (spec_l01In.calls a1 0 10000 false _ A8.out).mono ?_);rintro e w' ⟨rfl,⟨nd,rfl⟩⟩;refine ⟨_,rfl,?_⟩)|((with_reducible refine gate_dst (N:=17) rfl ?_);refine Kd.R_lit k71 _ 71 ?hg (N:=17) ?hd (xs:=([] : List (S71))) (inner:=[]) (ok:=fun _ => True) (okp:=fun _ => True) ?hr ?hp (fun _ hk => hk) trivial (Below.refl _ _) (Nat.le_refl _) (by simp) ?_;(case hd => rfl);(case hg => rfl);(case hr => first|(go_simp;done)|(go_simp;rfl));(case hp => exact (Reps.none _ _));intro v929 w14 ho15 hb hg_ hnew_;clear hg_ hnew_;(first|rw [← Ny928.out] at ho15|(simp only [Int.reduceToNat] at ho15;rw [← Ny928.out] at ho15));have n0_:=aMk (Kd.R_lower ho15 bSz);have n1_:=aMk (bSt hb);clear HB;have HO930:=n0_;have HB:=n1_;clear n0_ n1_;clear hb ho15))
    go_ret2
    exact ⟨_,by first | rfl|(simp [errW_none,errW_some] <;> rfl)|(simp [*,errW_none,errW_some] <;> rfl),by (with_reducible repeat (first|apply Kd.R_alloc|apply Kd.R_drewN|apply Kd.R_drew));exact HO930.out,by repeat (first|(with_reducible first|exact HB.out|apply bwA|apply bwN|apply bw1)|exact HB.out)⟩
  ·replace c7:=Bool.eq_false_iff.mpr c7
   subst c7
   have H1 : (some ((([] : List (S71))),1)) = some (r1,r2):=by rw [if_neg (show ¬ (false = true) by decide)] at H;exact H
   clear H
   have H:=H1
   clear H1
   obtain ⟨y921,hy921⟩ : ∃ y_ : List (S71),y_ = (([] : List (S71))):=⟨_,rfl⟩
   replace H : (some (y921,1)) = some (r1,r2):=by first|(rw [hy921];with_reducible exact H)|(have H2_:=(Option.bind_some _ _).symm.trans H;rw [hy921];with_reducible exact H2_)|(have H2_:=(Option.bind_some _ _).symm.trans H;with_reducible exact H2_) | with_reducible exact H|(rw [hy921];exact H)|exact H
   have Ny921:=aMk hy921
   clear hy921
   simp only [Option.some.injEq,Prod.mk.injEq] at H
   obtain ⟨rfl,rfl⟩:=H
   go_enter Try.func49,Try.ntmps49
   go_wp2_with (first|((with_reducible refine gate_callee (f:=27) rfl ?_);refine gLs 11 Try.func27 #[.slice A0 l0.length c0] ?_;(with_reducible refine (spec_FlowsOK.calls k _ _ l0 false _ ?side1 ?side2 A6.out).mono ?_);(case side1 => repeat (first|exact HR0.out|(with_reducible refine Kd.C_alloc ?_ _)|(with_reducible refine Kd.C_drewN ?_ _)|(with_reducible refine Kd.C_drew ?_)));(case side2 => exact HC0.out);rintro e w16 ⟨rfl,hb⟩;refine ⟨_,rfl,?_⟩;have n0_:=aMk (bSt hb);clear HB;have HB:=n0_;clear n0_;(try clear hb);(try clear hb2);(try clear hk);(try clear hi))|((with_reducible refine gate_dst (N:=13) rfl ?_);refine Kd.R_lit k71 _ 71 ?hg (N:=13) ?hd (xs:=([] : List (S71))) (inner:=[]) (ok:=fun _ => True) (okp:=fun _ => True) ?hr ?hp (fun _ hk => hk) trivial (Below.refl _ _) (Nat.le_refl _) (by simp) ?_;(case hd => rfl);(case hg => rfl);(case hr => first|(go_simp;done)|(go_simp;rfl));(case hp => exact (Reps.none _ _));intro v922 w17 ho18 hb hg_ hnew_;clear hg_ hnew_;(first|rw [← Ny921.out] at ho18|(simp only [Int.reduceToNat] at ho18;rw [← Ny921.out] at ho18));have n0_:=aMk (Kd.R_lower ho18 bSz);have n1_:=aMk (bSt hb);clear HB;have HO923:=n0_;have HB:=n1_;clear n0_ n1_;clear hb ho18))
   go_ret2
   exact ⟨_,by first | rfl|(simp [errW_none,errW_some] <;> rfl)|(simp [*,errW_none,errW_some] <;> rfl),by (with_reducible repeat (first|apply Kd.R_alloc|apply Kd.R_drewN|apply Kd.R_drew));exact HO923.out,by repeat (first|(with_reducible first|exact HB.out|apply bwA|apply bwN|apply bw1)|exact HB.out)⟩
end
section
/-! ### impl_flowsDrop_1: function 118 -/
def impl_flowsDrop_1.f (a0_0 : Int) (a0_1 : ByteArray) (a0_2 : Int) (a0_3 : Int) (a0_4 : Int) (a0_5 : Int) (a0_6 : Int) (a0_7 : Int) (a0_8 : Int) (a1 : Int) : Option (Bool):=some (a0_8 == a1)
set_option maxHeartbeats 8000000 in
set_option maxRecDepth 100000 in
theorem impl_flowsDrop_1.calls (q1 : Nat) (a0_0 : Int) (a0_1 : ByteArray) (a0_2 : Int) (a0_3 : Int) (a0_4 : Int) (a0_5 : Int) (a0_6 : Int) (a0_7 : Int) (a0_8 : Int) (a1 : Int) (r : Bool) (w : World) (hq1 : w.cell? ⟨q1,0,none⟩ = some (.int .i64 a1)) (h : impl_flowsDrop_1.f a0_0 a0_1 a0_2 a0_3 a0_4 a0_5 a0_6 a0_7 a0_8 a1 = some r) :
  Calls Try.prog 118 #[.agg #[.int .i64 a0_0,.string a0_1,.int .i64 a0_2,.int .i64 a0_3,.int .i64 a0_4,.int .i64 a0_5,.int .i64 a0_6,.int .i64 a0_7,.int .i64 a0_8],.pointer (some ⟨q1,0,none⟩)] w fun e w' => e = .returned (.bool r) ∧ Below w.heap.size w w':=by
 have HQ1:=aMk hq1
 clear hq1
 have hu71:=Try.underlying71
 have HB:=aMk (Below.refl w.heap.size w)
 have H : (some (a0_8 == a1)) = some r:=h
 clear h
 obtain rfl:=Option.some.inj H
 have hcq1:=HQ1.out
 go_enter Try.func118,Try.ntmps118
 go_wp2_with (first|((with_reducible refine gate_dst (N:=2) rfl ?_);refine bxE (N:=2) (cs:=#[.int .i64 a0_0,.string a0_1,.int .i64 a0_2,.int .i64 a0_3,.int .i64 a0_4,.int .i64 a0_5,.int .i64 a0_6,.int .i64 a0_7,.int .i64 a0_8]) (t:=71) ?_;intro gb931 hg w3 hbox hb;have n0_:=aMk (bSt hb);have n1_:=aMk (hbox);have n2_:=aMk ((by rw [hg];exact bSz : w.heap.size ≤ gb931));have n3_:=aMk ((by rw [hg];exact bSz : w.heap.size ≤ gb931));clear HB;have HB:=n0_;have hcq1:=(HB.out.cell (wLt w _ HQ1.out)).trans HQ1.out;have BK931:=n1_;have GW931:=n2_;have GE931:=n3_;clear n0_ n1_ n2_ n3_;clear hb hbox hg;obtain ⟨hcz4_0,hcz4_1,hcz4_2,hcz4_3,hcz4_4,hcz4_5,hcz4_6,hcz4_7,hcz4_8,hfz4_0,hfz4_1,hfz4_2,hfz4_3,hfz4_4,hfz4_5,hfz4_6,hfz4_7,hfz4_8⟩:=bC9 BK931.out))
 go_ret
 exact ⟨eRf,by repeat (first|(with_reducible first|exact HB.out|apply bwA|apply bwN|apply bw1|refine below_set ?_ GE931.out)|exact HB.out)⟩
end
section
/-! ### impl_flowsDrop: function 96 -/
-- USES 100 116 118
def impl_flowsDrop.f (a0 : List S71) (a1 : Int) : Option (List S71):=(impl_Flow_100.f a0).bind fun y => some (y.filter fun x => !(x.f8 == a1))
set_option maxHeartbeats 8000000 in
set_option maxRecDepth 100000 in
theorem impl_flowsDrop.calls (A0 : Option Addr) (c0 : Nat) (l0 : List S71) (a1 : Int) (r : List S71) (w : World) (hr0 : Kd.C k71 w A0 l0.length l0) (hc0 : l0.length ≤ c0) (h : impl_flowsDrop.f l0 a1 = some r) :
  Calls Try.prog 96 #[.slice A0 l0.length c0,.int .i64 a1] w fun e w' => ∃ v0_ : Value,e = .returned (v0_) ∧ Kd.R k71 71 w' w.heap.size (fun _ => True) v0_ r ∧ Below w.heap.size w w':=by
 rw [impl_flowsDrop.f] at h
 obtain ⟨y,hy,h2⟩:=Option.bind_eq_some_iff.1 h
 obtain rfl:=Option.some.inj h2
 have HR:=aMk hr0
 have HC:=aMk hc0
 have HY:=aMk hy
 clear h h2 hy hr0 hc0
 have HB:=aMk (Below.refl w.heap.size w)
 go_enter Try.func96,Try.ntmps96
 go_wp2_with (first
  | ((with_reducible refine gate_dst (N:=3) rfl ?_);refine bxE (N:=3) (cs:=#[.int .i64 a1]) (t:=3) ?_;intro gb hg w1 hbox hb;have n0_:=aMk (below_step HB.out hb);clear HB;have HB:=n0_;clear n0_;have BK:=aMk hbox;have HG:=aMk hg;clear hg hb hbox)
  | (
    go_at_call 100
    refine (impl_Flow_100.calls A0 c0 l0 y _ (Kd.C_below HR.out HB.out) HC.out HY.out).mono ?_
    rintro e w2 ⟨v0,rfl,hRy,hb2⟩
    have HRY:=aMk hRy
    have HB2:=aMk hb2
    clear hRy hb2)
  | (
    go_at_call 116
    refine (delFlow 118 #[.pointer (some ⟨gb,0,none⟩)] (enters_of Try.func118 (by kernel_rfl) rfl) (fun x => (x.f8 == a1)) v0 y w1.heap.size w2 HRY.out HB2.out.size (clone_len71 HY.out) ?hp).mono ?_
    case hp =>
     intro W x hW
     have hlt:=blk_lt BK.out
     exact impl_flowsDrop_1.calls gb x.f0 x.f1 x.f2 x.f3 x.f4 x.f5 x.f6 x.f7 x.f8 a1 _ W ((bCe (((hW gb hlt).trans (HB2.out.block gb hlt)).trans BK.out) 0).trans rfl) rfl
    rintro e w3 ⟨v1,rfl,hRz,hb3⟩
    have HRZ:=aMk hRz
    have HB3:=aMk hb3
    clear hRz hb3))
 go_ret
 have hs:=HB.out.size
 refine ⟨_,rfl,Kd.R_lower HRZ.out hs,?_⟩
 have b2:=HB2.out
 have b3:=HB3.out
 have b1:=HB.out
 exact ⟨b3.os.trans (b2.os.trans b1.os),b3.tape.trans (b2.tape.trans b1.tape),b3.output.trans (b2.output.trans b1.output),Nat.le_trans b1.size (Nat.le_trans b2.size b3.size),fun k hk => (b3.block k (by omega)).trans ((b2.block k (by omega)).trans (b1.block k hk))⟩
end
section
/-! ### impl_FlowsDrop: function 50 -/
def impl_FlowsDrop.f (k : Nat) (l0 : List (S71)) (a1 : Int) : Option ((List (S71)) × Int):=(impl_flowsFault.f k l0).bind fun t932 => (if t932 = 0 then ((impl_within.f a1 0 10000).bind fun t933 => (if t933 = true then ((impl_flowsDrop.f l0 a1).bind fun t934 => (some (t934,0))) else (some (([] : List (S71)),4)))) else (some (([] : List (S71)),t932)))
theorem impl_FlowsDrop.mono : ∀ a0 a1 k,LeO (impl_FlowsDrop.f k a0 a1) (impl_FlowsDrop.f (k + 1) a0 a1):=by
 intro a0 a1 k
 unfold impl_FlowsDrop.f
 repeat' first
   | (with_reducible exact impl_flowsFault.mono ..)
   | (with_reducible exact LeO.refl _)
   | (with_reducible exact LeO.none _)
   | (with_reducible refine LeO.ite ?_ ?_)
   | (with_reducible refine LeO.bind ?_ (fun _ => ?_))
   | exact impl_flowsFault.mono ..
   | exact LeO.none _
   | refine LeO.ite ?_ ?_
   | refine LeO.bind ?_ (fun _ => ?_)
set_option maxHeartbeats 8000000 in
set_option maxRecDepth 100000 in
theorem impl_FlowsDrop.calls (k : Nat) (A0 : Option Addr) (c0 : Nat) (l0 : List (S71)) (a1 : Int) (r1 : List (S71)) (r2 : Int) (w : World) (hr0 : Kd.C k71 w A0 l0.length l0) (hc0 : l0.length ≤ c0) (h : impl_FlowsDrop.f k l0 a1 = some (r1,r2)) :
  Calls Try.prog 50 #[.slice A0 l0.length c0,.int .i64 a1] w fun e w' => ∃ v0_ : Value,e = .returned (.tuple #[v0_,.int .i64 r2]) ∧ Kd.R k71 71 w' w.heap.size (fun _ => True) v0_ r1 ∧ Below w.heap.size w w':=by
 have HR0:=aMk hr0
 have HC0:=aMk hc0
 clear hr0 hc0
 have HB:=aMk (Below.refl w.heap.size w)
 have H : ((impl_flowsFault.f k l0).bind fun t932 => (if t932 = 0 then ((impl_within.f a1 0 10000).bind fun t933 => (if t933 = true then ((impl_flowsDrop.f l0 a1).bind fun t934 => (some (t934,0))) else (some (([] : List (S71)),4)))) else (some (([] : List (S71)),t932)))) = some (r1,r2):=h
 clear h
 replace H:=Option.bind_eq_some_iff.mp H
 obtain ⟨t932,A30,H⟩:=H
 replace H : (if t932 = 0 then ((impl_within.f a1 0 10000).bind fun t933 => (if t933 = true then ((impl_flowsDrop.f l0 a1).bind fun t934 => (some (t934,0))) else (some (([] : List (S71)),4)))) else (some (([] : List (S71)),t932))) = some (r1,r2):=H
 have A3:=aMk A30
 clear A30
 by_cases c4 : t932 = 0
 ·rw [if_pos c4] at H
  have c4b0 : (t932 == 0) = true:=beq_iff_eq.mpr c4
  have c4b1 : (t932 != 0) = false:=bne_eq_false_iff_eq.mpr c4
  clear c4
  replace H:=Option.bind_eq_some_iff.mp H
  obtain ⟨t933,A50,H⟩:=H
  replace H : (if t933 = true then ((impl_flowsDrop.f l0 a1).bind fun t934 => (some (t934,0))) else (some (([] : List (S71)),4))) = some (r1,r2):=H
  have A5:=aMk A50
  clear A50
  by_cases c6 : t933 = true
  ·subst c6
   have H1 : ((impl_flowsDrop.f l0 a1).bind fun t934 => (some (t934,0))) = some (r1,r2):=by rw [if_pos rfl] at H;exact H
   clear H
   have H:=H1
   clear H1
   replace H:=Option.bind_eq_some_iff.mp H
   obtain ⟨t934,A70,H⟩:=H
   replace H : (some (t934,0)) = some (r1,r2):=H
   have A7:=aMk A70
   clear A70
   simp only [Option.some.injEq,Prod.mk.injEq] at H
   obtain ⟨rfl,rfl⟩:=H
   go_enter Try.func50,Try.ntmps50
   go_wp2_with (first|((with_reducible refine gate_callee (f:=81) rfl ?_);refine gLs 8 Try.func81 #[.slice A0 l0.length c0] ?_;(with_reducible refine (impl_flowsFault.calls k _ _ l0 t932 _ ?side1 ?side2 A3.out).mono ?_);(case side1 => repeat (first|exact HR0.out|(with_reducible refine Kd.C_alloc ?_ _)|(with_reducible refine Kd.C_drewN ?_ _)|(with_reducible refine Kd.C_drew ?_)));(case side2 => exact HC0.out);rintro e w8 ⟨rfl,hb⟩;refine ⟨_,rfl,?_⟩;have n0_:=aMk (bSt hb);clear HB;have HB:=n0_;clear n0_;(try clear hb);(try clear hb2);(try clear hk);(try clear hi))|((with_reducible refine gate_callee (f:=62) rfl ?_);refine gLs 13 Try.func62 #[.int .i64 a1,.int .i64 0,.int .i64 10000] ?_;(with_reducible refine (impl_within.calls a1 0 10000 true _ A5.out).mono ?_);rintro e w' ⟨rfl,⟨nd,rfl⟩⟩;refine ⟨_,rfl,?_⟩)|((with_reducible refine gate_callee (f:=96) rfl ?_);refine gLs 17 Try.func96 #[.slice A0 l0.length c0,.int .i64 a1] ?_;(with_reducible refine (impl_flowsDrop.calls _ _ l0 a1 t934 _ ?side1 ?side2 A7.out).mono ?_);(case side1 => repeat (first|exact (Kd.C_below HR0.out (by repeat first|exact HB.out|apply bwA|apply bwN|apply bw1))|(with_reducible refine Kd.C_alloc ?_ _)|(with_reducible refine Kd.C_drewN ?_ _)|(with_reducible refine Kd.C_drew ?_)));(case side2 => exact HC0.out);rintro e w9 ⟨v935,rfl,ho0,hb⟩;refine ⟨_,rfl,?_⟩;have n0_:=aMk (Kd.R_lower ho0 bSz);have n1_:=aMk (bSt hb);clear HB;have HO936:=n0_;have HB:=n1_;clear n0_ n1_;(try clear hb);(try clear hb2);(try clear hk);(try clear hi);(try clear ho0)))
   go_ret2
   exact ⟨_,by first | rfl|(simp [errW_none,errW_some] <;> rfl)|(simp [*,errW_none,errW_some] <;> rfl),by (with_reducible repeat (first|apply Kd.R_alloc|apply Kd.R_drewN|apply Kd.R_drew));exact HO936.out,by repeat (first|(with_reducible first|exact HB.out|apply bwA|apply bwN|apply bw1)|exact HB.out)⟩
  ·replace c6:=Bool.eq_false_iff.mpr c6
   subst c6
   have H1 : (some (([] : List (S71)),4)) = some (r1,r2):=by rw [if_neg (show ¬ (false = true) by decide)] at H;exact H
   clear H
   have H:=H1
   clear H1
   simp only [Option.some.injEq,Prod.mk.injEq] at H
   obtain ⟨rfl,rfl⟩:=H
   go_enter Try.func50,Try.ntmps50
   go_wp2_with (first|((with_reducible refine gate_callee (f:=81) rfl ?_);refine gLs 8 Try.func81 #[.slice A0 l0.length c0] ?_;(with_reducible refine (impl_flowsFault.calls k _ _ l0 t932 _ ?side1 ?side2 A3.out).mono ?_);(case side1 => repeat (first|exact HR0.out|(with_reducible refine Kd.C_alloc ?_ _)|(with_reducible refine Kd.C_drewN ?_ _)|(with_reducible refine Kd.C_drew ?_)));(case side2 => exact HC0.out);rintro e w10 ⟨rfl,hb⟩;refine ⟨_,rfl,?_⟩;have n0_:=aMk (bSt hb);clear HB;have HB:=n0_;clear n0_;(try clear hb);(try clear hb2);(try clear hk);(try clear hi))|((with_reducible refine gate_callee (f:=62) rfl ?_);refine gLs 13 Try.func62 #[.int .i64 a1,.int .i64 0,.int .i64 10000] ?_;(with_reducible refine (impl_within.calls a1 0 10000 false _ A5.out).mono ?_);rintro e w' ⟨rfl,⟨nd,rfl⟩⟩;refine ⟨_,rfl,?_⟩))
   go_ret2
   exact ⟨_,by first | rfl|(simp [errW_none,errW_some] <;> rfl)|(simp [*,errW_none,errW_some] <;> rfl),by first|exact Kd.R_nil _ _ _ _ _|exact Kd.N_nil _ _ _ _ _|exact Kd.V_nil _ _ _ _ _|exact Kd.Q_nil _ _ _ _ _|exact Kd.S_nil _ _ _ _ _,by repeat (first|(with_reducible first|exact HB.out|apply bwA|apply bwN|apply bw1)|exact HB.out)⟩
 ·rw [if_neg c4] at H
  have c4b0 : (t932 == 0) = false:=beq_eq_false_iff_ne.mpr c4
  have c4b1 : (t932 != 0) = true:=bne_iff_ne.mpr c4
  simp only [Option.some.injEq,Prod.mk.injEq] at H
  obtain ⟨rfl,rfl⟩:=H
  go_enter Try.func50,Try.ntmps50
  go_wp2_with (first|((with_reducible refine gate_callee (f:=81) rfl ?_);refine gLs 8 Try.func81 #[.slice A0 l0.length c0] ?_;(with_reducible refine (impl_flowsFault.calls k _ _ l0 t932 _ ?side1 ?side2 A3.out).mono ?_);(case side1 => repeat (first|exact HR0.out|(with_reducible refine Kd.C_alloc ?_ _)|(with_reducible refine Kd.C_drewN ?_ _)|(with_reducible refine Kd.C_drew ?_)));(case side2 => exact HC0.out);rintro e w11 ⟨rfl,hb⟩;refine ⟨_,rfl,?_⟩;have n0_:=aMk (bSt hb);clear HB;have HB:=n0_;clear n0_;(try clear hb);(try clear hb2);(try clear hk);(try clear hi)))
  go_ret2
  exact ⟨_,by first | rfl|(simp [errW_none,errW_some] <;> rfl)|(simp [*,errW_none,errW_some] <;> rfl),by first|exact Kd.R_nil _ _ _ _ _|exact Kd.N_nil _ _ _ _ _|exact Kd.V_nil _ _ _ _ _|exact Kd.Q_nil _ _ _ _ _|exact Kd.S_nil _ _ _ _ _,by repeat (first|(with_reducible first|exact HB.out|apply bwA|apply bwN|apply bw1)|exact HB.out)⟩
end
section
-- NEEDS impl.FlowsExpire spec.FlowsExpire impl.FlowsDrop spec.FlowsDrop
def keepF (a o : Int) (x : S71) : Bool:=decide (a < x.f7) && !(x.f8 == o)
def expR (l : List S71) (a : Int) : List S71 × Int:=if (l.length : Int) > 4096 then ([],2) else if flowsb l = true then (l.filter fun x => !decide (x.f7 ≤ a),0) else ([],1)
def dropR (l : List S71) (o : Int) : List S71 × Int:=if (l.length : Int) > 4096 then ([],2) else if flowsb l = true then (if decide (0 ≤ o ∧ o ≤ 10000) = true then (l.filter fun x => !(x.f8 == o),0) else ([],4)) else ([],1)
theorem clone_ev (l : List S71) (h8 : (l.length : Int) ≤ 8) : impl_Flow_100.f l = some l:=by
 unfold impl_Flow_100.f
 rw [Option.bind_some,if_pos (by simp;omega),List.nil_append]
end
section
-- NEEDS impl.FlowPass spec.FlowPass
def waitF (p s : Int) : Int:=if p = 6 then (if s = 2 then 30 else 3) else 5
theorem wait2_impl (p s : Int) : impl_flowWait.f p s = some (waitF p s):=by
 unfold impl_flowWait.f waitF
 split
 ·split <;> rfl
 ·rfl
theorem wait2_spec (p s : Int) : spec_l09Wait.f p s = some (waitF p s):=by
 unfold spec_l09Wait.f waitF
 split
 ·split <;> rfl
 ·rfl
def upF (u : S71) (s : Int) (t : Int) : S71:=⟨u.f0,u.f1,u.f2,u.f3,u.f4,u.f5,s,t,u.f8⟩
theorem rd_set (l : List S71) (i : Int) (u : S71) (h0 : 0 ≤ i) (h1 : i < l.length) : rd_T71 (l.set i.toNat u) i = u:=by
 rw [rd_T71,List.getD_eq_getElem?_getD,List.getElem?_set_self (by omega)];rfl
def passT (l : List S71) (i flags now : Int) : List S71 :=
 if (rd_T71 l i).f0 = 6 then (if Go.bits .and .i64 flags 4 = 0 then (if Go.bits .and .i64 flags 1 = 0 then l.set i.toNat (upF (rd_T71 l i) (rd_T71 l i).f6 (wrap64 (now + waitF (rd_T71 l i).f0 (rd_T71 l i).f6))) else l.set i.toNat (upF (rd_T71 l i) 3 (wrap64 (now + waitF (rd_T71 l i).f0 3)))) else l.eraseIdx i.toNat)
 else l.set i.toNat (upF (rd_T71 l i) (rd_T71 l i).f6 (wrap64 (now + waitF (rd_T71 l i).f0 (rd_T71 l i).f6)))
theorem passT_len (l : List S71) (i flags now : Int) : (passT l i flags now).length ≤ l.length:=by
 unfold passT
 have:=List.length_eraseIdx_le l i.toNat
 repeat' split
 all_goals first|(rw [List.length_set];exact Nat.le_refl _)|exact this
theorem pass_impl1 (l : List S71) (h8 : (l.length : Int) ≤ 8) (i flags now : Int) (h0 : 0 ≤ i) (h1 : i < l.length) (k : Nat) : impl_flowPass.j1 (k + 1) l i flags now = some (passT l i flags now):=by
 rw [impl_flowPass.j1,if_pos h0,if_pos h1,passT]
 by_cases c1 : (rd_T71 l i).f0 = 6
 ·rw [if_pos c1,if_pos c1]
  by_cases c2 : Go.bits .and .i64 flags 4 = 0
  ·rw [if_pos c2,if_pos c2]
   by_cases c3 : Go.bits .and .i64 flags 1 = 0
   ·rw [if_pos c3,if_pos c3,wait2_impl,Option.bind_some];rfl
   ·rw [if_neg c3,if_neg c3,Option.bind_some,rd_set l i _ h0 h1,wait2_impl,Option.bind_some,List.set_set];rfl
  ·rw [if_neg c2,if_neg c2,wrap_id (by omega) (by omega),impl_Flow_119.f,if_pos ⟨h0,h1,rfl,by omega⟩,Option.bind_some]
 ·rw [if_neg c1,if_neg c1,wait2_impl,Option.bind_some];rfl
theorem pass_spec1 (l0 l : List S71) (h8 : (l.length : Int) ≤ 8) (i flags now : Int) (h0 : 0 ≤ i) (h1 : i < l.length) (he : l0.eraseIdx i.toNat = l.eraseIdx i.toNat) (hl : l0.length = l.length) (k : Nat) : spec_l09Pass.j1 (k + 1) l0 i flags now l = some (passT l i flags now):=by
 rw [spec_l09Pass.j1,if_pos h0,if_pos h1,passT]
 by_cases c1 : (rd_T71 l i).f0 = 6
 ·rw [if_pos c1,if_pos c1]
  by_cases c2 : Go.bits .and .i64 flags 4 = 0
  ·rw [if_pos c2,if_pos c2]
   by_cases c3 : Go.bits .and .i64 flags 1 = 0
   ·rw [if_pos c3,if_pos c3,wait2_spec,Option.bind_some];rfl
   ·rw [if_neg c3,if_neg c3,Option.bind_some,rd_set l i _ h0 h1,wait2_spec,Option.bind_some,List.set_set];rfl
  ·rw [if_neg c2,if_neg c2,← he,Option.bind_some,if_pos (by omega),Option.bind_some,if_pos (by simp;omega),Option.bind_some,wrap_id (by omega) (by omega),if_pos (by omega),if_pos (by omega),Option.bind_some,if_pos (by simp;omega),List.nil_append,List.eraseIdx_eq_take_drop_succ,show (i + 1).toNat = i.toNat + 1 by omega]
 ·rw [if_neg c1,if_neg c1,wait2_spec,Option.bind_some];rfl
def openU (u : S71) (back : Bool) : S71:=if u.f6 = 1 ∧ back = true then upF u 2 u.f7 else u
def passL (l : List S71) (i : Int) (back : Bool) (flags now : Int) : List S71 :=
 if (rd_T71 l i).f6 = 1 ∧ back = true then passT (l.set i.toNat (upF (rd_T71 l i) 2 (rd_T71 l i).f7)) i flags now else passT l i flags now
theorem passL_len (l : List S71) (i : Int) (back : Bool) (flags now : Int) : (passL l i back flags now).length ≤ l.length:=by
 unfold passL
 split
 ·have:=passT_len (l.set i.toNat (upF (rd_T71 l i) 2 (rd_T71 l i).f7)) i flags now
  rwa [List.length_set] at this
 ·exact passT_len l i flags now
theorem pass_impl (l : List S71) (h8 : (l.length : Int) ≤ 8) (i : Int) (back : Bool) (flags now : Int) (h0 : 0 ≤ i) (h1 : i < l.length) (k : Nat) : impl_flowPass.f (k + 2) l i back flags now = some (passL l i back flags now):=by
 rw [impl_flowPass.f,if_pos h0,if_pos h1,passL]
 by_cases c1 : (rd_T71 l i).f6 = 1
 ·rw [if_pos c1,impl_flowPass.j0]
  cases back with
  | true =>
   rw [if_pos rfl,if_pos h0,if_pos h1,if_pos ⟨c1,rfl⟩]
   exact pass_impl1 _ (by rw [List.length_set];exact h8) i flags now h0 (by rw [List.length_set];exact h1) k
  | false => rw [if_neg (by decide),if_neg (fun h => by cases h.2),pass_impl1 l h8 i flags now h0 h1 k]
 ·rw [if_neg c1,impl_flowPass.j0,if_neg (by decide),if_neg (fun h => c1 h.1),pass_impl1 l h8 i flags now h0 h1 k]
theorem pass_spec (l : List S71) (h8 : (l.length : Int) ≤ 8) (i : Int) (back : Bool) (flags now : Int) (h0 : 0 ≤ i) (h1 : i < l.length) (k : Nat) : spec_l09Pass.f (k + 2) l i back flags now = some (passL l i back flags now):=by
 rw [spec_l09Pass.f,Option.bind_some,if_pos (by simp;omega),Option.bind_some,List.nil_append,if_pos h0,if_pos h1,passL]
 cases back with
 | true =>
  rw [if_pos rfl,spec_l09Pass.j0]
  by_cases c1 : (rd_T71 l i).f6 = 1
  ·rw [if_pos (beq_iff_eq.2 c1),if_pos h0,if_pos h1,if_pos ⟨c1,rfl⟩]
   exact pass_spec1 l _ (by rw [List.length_set];exact h8) i flags now h0 (by rw [List.length_set];exact h1) (List.eraseIdx_set_eq ..).symm (List.length_set ..).symm k
  ·rw [if_neg (fun h => c1 (beq_iff_eq.1 h)),if_neg (fun h => c1 h.1),pass_spec1 l l h8 i flags now h0 h1 rfl rfl k]
 | false => rw [if_neg (by decide),spec_l09Pass.j0,if_neg (by decide),if_neg (fun h => by cases h.2),pass_spec1 l l h8 i flags now h0 h1 rfl rfl k]
def passR (l : List S71) (i : Int) (back : Bool) (flags now : Int) : List S71 × Int :=
 if (l.length : Int) > 4096 then ([],2) else if flowsb l = true then (if (decide (0 ≤ i ∧ i ≤ (l.length : Int) - 1) && (decide (0 ≤ flags ∧ flags ≤ 31) && decide (0 ≤ now ∧ now ≤ 100000))) = true then (passL l i back flags now,0) else ([],4)) else ([],1)
theorem passR_len (l : List S71) (i : Int) (back : Bool) (flags now : Int) : (passR l i back flags now).1.length ≤ 9:=by
 unfold passR
 split
 ·simp
 ·split
  ·rename_i hf
   have h8:=flows_len hf
   have:=passL_len l i back flags now
   split
   ·dsimp only
    omega
   ·simp
  ·simp
theorem spec_FlowPass_ev (l : List S71) (i : Int) (back : Bool) (flags now : Int) (k : Nat) (hk : 203 ≤ k) : spec_FlowPass.f k l i back flags now = some (passR l i back flags now):=by
 obtain ⟨k,rfl⟩ : ∃ z,k = z + 3:=⟨k - 3,by omega⟩
 unfold spec_FlowPass.f passR
 by_cases c : (l.length : Int) > 4096
 ·rw [if_pos c,if_pos c]
 rw [if_neg c,if_neg c,spec_FlowsOK_ev l (k + 3) (by omega),Option.bind_some]
 cases hf : flowsb l
 ·simp
 have h8:=flows_len hf
 rw [if_pos rfl,if_pos rfl,wrap_id (by omega) (by omega)]
 simp only [l01In_eq,Option.bind_some]
 by_cases c1 : 0 ≤ i ∧ i ≤ (l.length : Int) - 1
 ·have hp:=pass_spec l h8 i back flags now c1.1 (by omega)
  have hp0:=hp k
  have hp1:=hp (k + 1)
  rw [decide_eq_true c1]
  cases decide (0 ≤ flags ∧ flags ≤ 31) <;> cases decide (0 ≤ now ∧ now ≤ 100000) <;> simp [hp0,hp1]
 ·rw [decide_eq_false c1]
  cases decide (0 ≤ flags ∧ flags ≤ 31) <;> cases decide (0 ≤ now ∧ now ≤ 100000) <;> simp
theorem impl_FlowPass_ev (l : List S71) (i : Int) (back : Bool) (flags now : Int) (k : Nat) (hk : 203 ≤ k) : impl_FlowPass.f k l i back flags now = some (passR l i back flags now):=by
 obtain ⟨k,rfl⟩ : ∃ z,k = z + 3:=⟨k - 3,by omega⟩
 unfold impl_FlowPass.f impl_flowsFault.f passR
 by_cases c : (l.length : Int) > 4096
 ·rw [if_pos c,if_pos c];rfl
 rw [if_neg c,if_neg c,impl_FlowsOK_ev l (k + 3) (by omega),Option.bind_some]
 cases hf : flowsb l
 ·simp
 have h8:=flows_len hf
 rw [if_pos rfl,Option.bind_some,if_pos rfl,if_pos rfl,wrap_id (by omega) (by omega)]
 simp only [impl_isTime.f,within_eq,Option.bind_some]
 by_cases c1 : 0 ≤ i ∧ i ≤ (l.length : Int) - 1
 ·have hp:=pass_impl l h8 i back flags now c1.1 (by omega)
  have hp0:=hp k
  have hp1:=hp (k + 1)
  rw [decide_eq_true c1]
  cases decide (0 ≤ flags ∧ flags ≤ 31) <;> cases decide (0 ≤ now ∧ now ≤ 100000) <;> simp [impl_FlowPass.j0,clone_ev l h8,hp0,hp1]
 ·rw [decide_eq_false c1]
  cases decide (0 ≤ flags ∧ flags ≤ 31) <;> cases decide (0 ≤ now ∧ now ≤ 100000) <;> simp [impl_FlowPass.j0]
end
section
theorem eq_T71_refl (x : S71) : laws_eqFlow.f (x.f0) (x.f1) (x.f2) (x.f3) (x.f4) (x.f5) (x.f6) (x.f7) (x.f8) (x.f0) (x.f1) (x.f2) (x.f3) (x.f4) (x.f5) (x.f6) (x.f7) (x.f8) = some true:=by
 unfold laws_eqFlow.f
 repeat' (first|rw [if_pos rfl] | rfl | rw [if_neg (by simp)])
 all_goals simp
theorem eqS_T71_l0 (xs : List S71) : ∀ (d : Nat) (i : Int),0 ≤ i → (xs.length : Int) - i = d → (xs.length : Int) ≤ 1152921504606846976 → Ev (fun k => laws_eqFlowS.l0 k xs xs i) true:=by
 intro d
 induction d with
 | zero =>
  intro i h0 hd hx
  refine ⟨1,fun k hk => ?_⟩
  obtain ⟨k,rfl⟩ : ∃ q,k = q + 1:=⟨k - 1,by omega⟩
  simp only [laws_eqFlowS.l0]
  rw [if_neg (by omega)]
 | succ d ih =>
  intro i h0 hd hx
  have hlt : i < (xs.length : Int):=by omega
  have ei : wrap64 (i + 1) = i + 1:=wrap_id (by omega) (by omega)
  refine Ev.step (f:=fun k => laws_eqFlowS.l0 k xs xs (i + 1)) (fun k => ?_) (ih (i + 1) (by omega) (by omega) hx)
  simp only [laws_eqFlowS.l0,ei]
  rw [if_pos hlt,if_pos h0,if_pos hlt]
  simp only [eq_T71_refl,Option.bind_some,if_true]
theorem eqS_T71_ev (xs : List S71) (hx : (xs.length : Int) ≤ 1152921504606846976) : Ev (fun k => laws_eqFlowS.f k xs xs) true:=by
 refine Ev.congr (f:=fun k => laws_eqFlowS.l0 k xs xs 0) (fun k => ?_) (eqS_T71_l0 xs xs.length 0 (by omega) (by omega) hx)
 simp only [laws_eqFlowS.f,if_true]
end
section
def wf68 (x : S68) : Prop:=(Lit.int .i64 x.f0).wf = true ∧ (x.f1.size ≤ 140737488351232 ∧ ((Lit.int .i64 x.f2).wf = true ∧ ((Lit.int .i64 x.f3).wf = true ∧ ((Lit.int .i64 x.f4).wf = true ∧ ((Lit.int .i64 x.f5).wf = true ∧ ((Lit.int .i64 x.f6).wf = true ∧ ((Lit.int .i64 x.f7).wf = true ∧ ((Lit.int .i64 x.f8).wf = true))))))))
set_option maxRecDepth 100000 in
theorem opens68 : Opens Try.prog 68 k68 wf68 :=
 Opens.iso (fun x : S68 => (x.f0,x.f1,x.f2,x.f3,x.f4,x.f5,x.f6,x.f7,x.f8)) (fun y => ⟨y.1,y.2.1,y.2.2.1,y.2.2.2.1,y.2.2.2.2.1,y.2.2.2.2.2.1,y.2.2.2.2.2.2.1,y.2.2.2.2.2.2.2.1,y.2.2.2.2.2.2.2.2⟩) (fun _ => rfl) (Opens.struct Try.underlying68 (by kernel_rfl) (OpensF.cons rfl (Opens.int Try.underlying3 (by kernel_rfl)) 1 rfl (OpensF.cons rfl (Opens.string Try.underlying9 (by kernel_rfl)) 2 rfl (OpensF.cons rfl (Opens.int Try.underlying3 (by kernel_rfl)) 3 rfl (OpensF.cons rfl (Opens.int Try.underlying3 (by kernel_rfl)) 4 rfl (OpensF.cons rfl (Opens.int Try.underlying3 (by kernel_rfl)) 5 rfl (OpensF.cons rfl (Opens.int Try.underlying3 (by kernel_rfl)) 6 rfl (OpensF.cons rfl (Opens.int Try.underlying3 (by kernel_rfl)) 7 rfl (OpensF.cons rfl (Opens.int Try.underlying3 (by kernel_rfl)) 8 rfl (OpensF.one rfl (Opens.int Try.underlying3 (by kernel_rfl))))))))))))
end
section
-- NEEDS laws.szFlowS laws.toFlowS
theorem rdmem_T68 {l : List S68} {i : Int} (h : i.toNat < l.length) : rd_T68 l i ∈ l:=by
 unfold rd_T68
 rw [List.getD_eq_getElem?_getD,List.getElem?_eq_getElem h]
 exact List.getElem_mem h
theorem szFlows_l0 (l : List S68) (hw : ∀ y ∈ l,wf68 y) (hx : (l.length : Int) ≤ 1152921504606846976) : ∀ (d : Nat) (i left : Int),0 ≤ i → (l.length : Int) - i = d → 0 ≤ left → left ≤ 1048576 →
  ∃ t,(∀ k,d + 1 ≤ k → laws_szFlowS.l0 k l left i = some t)
 | 0,i,left,h0,hd,h1,h2 => by
  refine ⟨left,fun k hk => ?_⟩
  obtain ⟨k,rfl⟩ : ∃ z,k = z + 1:=⟨k - 1,by omega⟩
  rw [laws_szFlowS.l0,if_neg (by omega)]
 | d + 1,i,left,h0,hd,h1,h2 => by
  have hwi:=(hw _ (rdmem_T68 (l:=l) (i:=i) (by omega))).2.1
  by_cases c : left - ((rd_T68 l i).f1.size : Int) < 0
  ·refine ⟨-1,fun k hk => ?_⟩
   obtain ⟨k,rfl⟩ : ∃ z,k = z + 1:=⟨k - 1,by omega⟩
   rw [laws_szFlowS.l0,if_pos (by omega),if_pos h0]
   simp only [laws_szFlow.f]
   rw [wrap_id (n:=left - ((rd_T68 l i).f1.size : Int)) (by omega) (by omega),if_pos c]
   rfl
  ·obtain ⟨u,e2⟩:=szFlows_l0 l hw hx d (i + 1) (left - ((rd_T68 l i).f1.size : Int)) (by omega) (by omega) (by omega) (by omega)
   refine ⟨u,fun k hk => ?_⟩
   obtain ⟨k,rfl⟩ : ∃ z,k = z + 1:=⟨k - 1,by omega⟩
   rw [laws_szFlowS.l0,if_pos (by omega),if_pos h0]
   simp only [laws_szFlow.f]
   rw [wrap_id (n:=left - ((rd_T68 l i).f1.size : Int)) (by omega) (by omega),if_neg c,Option.bind_some,if_neg c,wrap_id (by omega) (by omega),e2 k (by omega)]
theorem szFlows_ev (l : List S68) (hw : ∀ y ∈ l,wf68 y) (hx : l.length ≤ 140737488351232) : ∃ (t : Int) (K : Nat),(∀ k,K ≤ k → laws_szFlowS.f k l 1048576 = some t) ∧ (0 ≤ t → l.length ≤ 1048576):=by
 simp only [laws_szFlowS.f]
 rw [wrap_id (n:=1048576 - (l.length : Int)) (by omega) (by omega)]
 by_cases c : 1048576 - (l.length : Int) < 0
 ·exact ⟨-1,0,fun k _ => by rw [if_pos c],fun h => by omega⟩
 ·simp only [if_neg c]
  obtain ⟨t,e⟩:=szFlows_l0 l hw (by omega) l.length 0 (1048576 - (l.length : Int)) (by omega) (by omega) (by omega) (by omega)
  exact ⟨t,l.length + 1,e,fun _ => by omega⟩
end
section
theorem markText_l0 : ∀ (d : Nat) (n : Int) (s : ByteArray),0 ≤ n → n.toNat ≤ d → s.size + n.toNat ≤ 4611686018427387904 → ∃ t,laws_markText.l0 (d + 1) n s = some t:=by
 intro d
 induction d with
 | zero =>
  intro n s h0 hd hs
  have e : n = 0:=by omega
  subst e
  simp only [laws_markText.l0]
  rw [if_neg (by omega),if_pos (by omega)]
  exact ⟨_,rfl⟩
 | succ d ih =>
  intro n s h0 hd hs
  by_cases hn : n > 0
  ·unfold laws_markText.l0
   rw [if_pos hn]
   simp only [Option.bind_some]
   have hz : (strOfNums [wrap64 (48 + Int.tmod n 10) % 256]).size = 1:=rfl
   rw [if_pos (by rw [hz];omega)]
   have hq : wrap64 (Int.tdiv n 10) = n / 10:=by
    rw [Int.tdiv_eq_ediv_of_nonneg h0]
    exact wrap_id (by omega) (by omega)
   rw [hq]
   refine ih (n / 10) _ (by omega) (by omega) ?_
   rw [ByteArray.size_append,hz]
   omega
  ·unfold laws_markText.l0
   rw [if_neg hn,if_pos (by omega)]
   exact ⟨_,rfl⟩
theorem markText_ev (n : Int) (h : n ≤ 2305843009213693952) : ∃ t,Ev (fun k => laws_markText.f k n) t:=by
 by_cases h0 : n ≤ 0
 ·exact ⟨_,0,fun k _ => by simp only [laws_markText.f];rw [if_pos h0]⟩
 ·obtain ⟨t,ht⟩:=markText_l0 n.toNat n ⟨#[]⟩ (by omega) (Nat.le_refl _) (by show 0 + _ ≤ _;omega)
  refine ⟨t,Ev.of (laws_markText.mono n) (k:=n.toNat + 1) ?_⟩
  simp only [laws_markText.f]
  rw [if_neg h0]
  exact ht
/-- The text that marks a number. -/
noncomputable def mtx (n : Int) : ByteArray:=@Classical.epsilon ByteArray ⟨⟨#[]⟩⟩ (fun t => Ev (fun k => laws_markText.f k n) t)
theorem mtx_ev (n : Int) (h : n ≤ 2305843009213693952) : Ev (fun k => laws_markText.f k n) (mtx n):=Classical.epsilon_spec (p:=fun t => Ev (fun k => laws_markText.f k n) t) (markText_ev n h)
end
section
theorem rdset_T71 {xs : List S71} {i : Int} (h : i.toNat < xs.length) (v : S71) : rd_T71 (xs.set i.toNat v) i = v:=by
 unfold rd_T71
 rw [List.getD_eq_getElem?_getD,List.getElem?_set_self h]
 rfl
theorem rdset_ne_T71 {xs : List S71} {i j : Int} (h0 : 0 ≤ i) (h1 : 0 ≤ j) (h : i ≠ j) (v : S71) : rd_T71 (xs.set i.toNat v) j = rd_T71 xs j:=by
 unfold rd_T71
 rw [List.getD_eq_getElem?_getD,List.getElem?_set_ne (by omega),← List.getD_eq_getElem?_getD]
end
section
noncomputable def mk_T71 (n : Int) : S71:=(⟨n,mtx (n + 1),n + 1 + 1,n + 1 + 1 + 1,n + 1 + 1 + 1 + 1,n + 1 + 1 + 1 + 1 + 1,n + 1 + 1 + 1 + 1 + 1 + 1,n + 1 + 1 + 1 + 1 + 1 + 1 + 1,n + 1 + 1 + 1 + 1 + 1 + 1 + 1 + 1⟩ : S71)
set_option maxHeartbeats 2000000 in
theorem mark_T71_l0 : ∀ (d : Nat) (xs : List S71) (m i : Int),0 ≤ i → (xs.length : Int) - i = d → 0 ≤ m → m + 9 * d ≤ 1152921504606846976 → (xs.length : Int) ≤ 1152921504606846976 →
  ∃ ys : List S71,Ev (fun k => laws_markFlowS.l0 k xs m i) (m + 9 * d,ys) ∧ ys.length = xs.length ∧ (∀ j : Int,0 ≤ j → j < i → rd_T71 ys j = rd_T71 xs j) ∧ (∀ j : Int,i ≤ j → j < xs.length → rd_T71 ys j = mk_T71 (m + 9 * (j - i))):=by
 intro d
 induction d with
 | zero =>
  intro xs m i h0 hd hm hb hx
  refine ⟨xs,⟨1,fun k hk => ?_⟩,rfl,fun _ _ _ => rfl,fun j h1 h2 => by omega⟩
  obtain ⟨k,rfl⟩ : ∃ q,k = q + 1:=⟨k - 1,by omega⟩
  simp only [laws_markFlowS.l0]
  rw [if_neg (by omega)]
  simp
 | succ d ih =>
  intro xs m i h0 hd hm hb hx
  have hlt : i < (xs.length : Int):=by omega
  have hn : i.toNat < xs.length:=by omega
  have e0 : wrap64 (m + 1) = m + 1:=wrap_id (by omega) (by omega)
  have e1 : wrap64 (m + 1 + 1) = m + 1 + 1:=wrap_id (by omega) (by omega)
  have e2 : wrap64 (m + 1 + 1 + 1) = m + 1 + 1 + 1:=wrap_id (by omega) (by omega)
  have e3 : wrap64 (m + 1 + 1 + 1 + 1) = m + 1 + 1 + 1 + 1:=wrap_id (by omega) (by omega)
  have e4 : wrap64 (m + 1 + 1 + 1 + 1 + 1) = m + 1 + 1 + 1 + 1 + 1:=wrap_id (by omega) (by omega)
  have e5 : wrap64 (m + 1 + 1 + 1 + 1 + 1 + 1) = m + 1 + 1 + 1 + 1 + 1 + 1:=wrap_id (by omega) (by omega)
  have e6 : wrap64 (m + 1 + 1 + 1 + 1 + 1 + 1 + 1) = m + 1 + 1 + 1 + 1 + 1 + 1 + 1:=wrap_id (by omega) (by omega)
  have e7 : wrap64 (m + 1 + 1 + 1 + 1 + 1 + 1 + 1 + 1) = m + 1 + 1 + 1 + 1 + 1 + 1 + 1 + 1:=wrap_id (by omega) (by omega)
  have e8 : wrap64 (m + 1 + 1 + 1 + 1 + 1 + 1 + 1 + 1 + 1) = m + 1 + 1 + 1 + 1 + 1 + 1 + 1 + 1 + 1:=wrap_id (by omega) (by omega)
  have ei : wrap64 (i + 1) = i + 1:=wrap_id (by omega) (by omega)
  have hl : (xs.set i.toNat (mk_T71 m)).length = xs.length:=List.length_set
  obtain ⟨ys,hev,hlen,hold,hnew⟩:=ih (xs.set i.toNat (mk_T71 m)) (m + 1 + 1 + 1 + 1 + 1 + 1 + 1 + 1 + 1) (i + 1) (by omega) (by rw [hl];omega) (by omega) (by omega) (by rw [hl];omega)
  rw [hl] at hlen hnew
  refine ⟨ys,?_,hlen,fun j h1 h2 => ?_,fun j h1 h2 => ?_⟩
  ·have hr : m + 9 * ((d + 1 : Nat) : Int) = m + 1 + 1 + 1 + 1 + 1 + 1 + 1 + 1 + 1 + 9 * (d : Int):=by omega
   rw [hr]
   refine Ev.step (f:=fun k => (laws_markText.f k (m + 1)).bind fun t1 => laws_markFlowS.l0 k (xs.set i.toNat (⟨m,t1,m + 1 + 1,m + 1 + 1 + 1,m + 1 + 1 + 1 + 1,m + 1 + 1 + 1 + 1 + 1,m + 1 + 1 + 1 + 1 + 1 + 1,m + 1 + 1 + 1 + 1 + 1 + 1 + 1,m + 1 + 1 + 1 + 1 + 1 + 1 + 1 + 1⟩ : S71)) (m + 1 + 1 + 1 + 1 + 1 + 1 + 1 + 1 + 1) (i + 1)) (fun k => ?_) ?_
   ·simp only [laws_markFlowS.l0]
    rw [if_pos hlt]
    simp only [if_pos h0,Option.bind_some,List.set_set,rdset_T71 hn,e0,e1,e2,e3,e4,e5,e6,e7,e8,ei]
   ·exact Ev.bind (mtx_ev (m + 1) (by omega)) (hev)
  ·rw [hold j h1 (by omega),rdset_ne_T71 h0 h1 (by omega)]
  ·by_cases hji : j = i
   ·subst hji
    rw [hold j h0 (by omega),rdset_T71 hn]
    congr 1
    omega
   ·rw [hnew j (by omega) h2]
    congr 1
    omega
theorem mark_T71_ev (xs : List S71) (m : Int) (hm : 0 ≤ m) (hb : m + 9 * xs.length ≤ 1152921504606846976) :
  ∃ ys : List S71,Ev (fun k => laws_markFlowS.f k xs m) (m + 9 * xs.length,ys) ∧ ys.length = xs.length ∧ ∀ j : Int,0 ≤ j → j < xs.length → rd_T71 ys j = mk_T71 (m + 9 * j):=by
 obtain ⟨ys,hev,hlen,_,hnew⟩:=mark_T71_l0 xs.length xs m 0 (by omega) (by omega) hm hb (by omega)
 exact ⟨ys,hev,hlen,fun j h1 h2 => by have:=hnew j h1 h2;rw [Int.sub_zero] at this;exact this⟩
set_option maxHeartbeats 2000000 in
theorem held_T71_l0 : ∀ (d : Nat) (ys : List S71) (m i : Int),0 ≤ i → (ys.length : Int) - i = d → 0 ≤ m → m + 9 * d ≤ 1152921504606846976 → (ys.length : Int) ≤ 1152921504606846976 →
  (∀ j : Int,i ≤ j → j < ys.length → rd_T71 ys j = mk_T71 (m + 9 * (j - i))) → Ev (fun k => laws_heldFlowS.l0 k ys m i) (m + 9 * d):=by
 intro d
 induction d with
 | zero =>
  intro ys m i h0 hd hm hb hx _
  refine ⟨1,fun k hk => ?_⟩
  obtain ⟨k,rfl⟩ : ∃ q,k = q + 1:=⟨k - 1,by omega⟩
  simp only [laws_heldFlowS.l0]
  rw [if_neg (by omega)]
  simp
 | succ d ih =>
  intro ys m i h0 hd hm hb hx hy
  have hlt : i < (ys.length : Int):=by omega
  have e0 : wrap64 (m + 1) = m + 1:=wrap_id (by omega) (by omega)
  have e1 : wrap64 (m + 1 + 1) = m + 1 + 1:=wrap_id (by omega) (by omega)
  have e2 : wrap64 (m + 1 + 1 + 1) = m + 1 + 1 + 1:=wrap_id (by omega) (by omega)
  have e3 : wrap64 (m + 1 + 1 + 1 + 1) = m + 1 + 1 + 1 + 1:=wrap_id (by omega) (by omega)
  have e4 : wrap64 (m + 1 + 1 + 1 + 1 + 1) = m + 1 + 1 + 1 + 1 + 1:=wrap_id (by omega) (by omega)
  have e5 : wrap64 (m + 1 + 1 + 1 + 1 + 1 + 1) = m + 1 + 1 + 1 + 1 + 1 + 1:=wrap_id (by omega) (by omega)
  have e6 : wrap64 (m + 1 + 1 + 1 + 1 + 1 + 1 + 1) = m + 1 + 1 + 1 + 1 + 1 + 1 + 1:=wrap_id (by omega) (by omega)
  have e7 : wrap64 (m + 1 + 1 + 1 + 1 + 1 + 1 + 1 + 1) = m + 1 + 1 + 1 + 1 + 1 + 1 + 1 + 1:=wrap_id (by omega) (by omega)
  have e8 : wrap64 (m + 1 + 1 + 1 + 1 + 1 + 1 + 1 + 1 + 1) = m + 1 + 1 + 1 + 1 + 1 + 1 + 1 + 1 + 1:=wrap_id (by omega) (by omega)
  have ei : wrap64 (i + 1) = i + 1:=wrap_id (by omega) (by omega)
  have hev:=ih ys (m + 1 + 1 + 1 + 1 + 1 + 1 + 1 + 1 + 1) (i + 1) (by omega) (by omega) (by omega) (by omega) hx (fun j h1 h2 => by rw [hy j (by omega) h2];congr 1;omega)
  have hri : rd_T71 ys i = mk_T71 m:=by rw [hy i (by omega) hlt];congr 1;omega
  have hr : m + 9 * ((d + 1 : Nat) : Int) = m + 1 + 1 + 1 + 1 + 1 + 1 + 1 + 1 + 1 + 9 * (d : Int):=by omega
  rw [hr]
  refine Ev.step (f:=fun k => (laws_markText.f k (m + 1)).bind fun t1 => if (mtx (m + 1)).toList = t1.toList then laws_heldFlowS.l0 k ys (m + 1 + 1 + 1 + 1 + 1 + 1 + 1 + 1 + 1) (i + 1) else some (-1)) (fun k => ?_) ?_
  ·simp only [laws_heldFlowS.l0]
   rw [if_pos hlt,if_pos h0]
   simp only [hri,mk_T71,e0,e1,e2,e3,e4,e5,e6,e7,e8,ei,if_true,bne_self_eq_false,Bool.false_eq_true,if_false]
  ·exact Ev.bind (mtx_ev (m + 1) (by omega)) (Ev.congr (fun k => if_pos rfl) (hev))
theorem held_T71_ev (ys : List S71) (m : Int) (hm : 0 ≤ m) (hb : m + 9 * ys.length ≤ 1152921504606846976) (hy : ∀ j : Int,0 ≤ j → j < ys.length → rd_T71 ys j = mk_T71 (m + 9 * j)) :
  Ev (fun k => laws_heldFlowS.f k ys m) (m + 9 * ys.length) :=
 held_T71_l0 ys.length ys m 0 (by omega) (by omega) hm hb (by omega) (fun j h1 h2 => by rw [Int.sub_zero];exact hy j h1 h2)
end
section
def to_T71 (x : S68) : S71:=(⟨x.f0,x.f1,x.f2,x.f3,x.f4,x.f5,x.f6,x.f7,x.f8⟩ : S71)
theorem to_T71_l0 (l : List S68) : ∀ (d : Nat) (acc : List S71) (i : Int),acc.length = l.length → 0 ≤ i → (l.length : Int) - i = d → (l.length : Int) ≤ 1152921504606846976 →
  ∃ ys : List S71,Ev (fun k => laws_toFlowS.l0 k l acc i) ys ∧ ys.length = l.length ∧ (∀ j : Nat,(j : Int) < i → ys[j]? = acc[j]?) ∧ (∀ j : Nat,i ≤ (j : Int) → ys[j]? = (l.map to_T71)[j]?):=by
 intro d
 induction d with
 | zero =>
  intro acc i ha h0 hd hx
  refine ⟨acc,⟨1,fun k hk => ?_⟩,ha,fun _ _ => rfl,fun j hj => by rw [List.getElem?_eq_none (by omega),List.getElem?_eq_none (by rw [List.length_map];omega)]⟩
  obtain ⟨k,rfl⟩ : ∃ q,k = q + 1:=⟨k - 1,by omega⟩
  simp only [laws_toFlowS.l0]
  rw [if_neg (by omega)]
 | succ d ih =>
  intro acc i ha h0 hd hx
  have hlt : i < (l.length : Int):=by omega
  have hn : i.toNat < l.length:=by omega
  have ei : wrap64 (i + 1) = i + 1:=wrap_id (by omega) (by omega)
  obtain ⟨ys,hev,hlen,hold,hnew⟩:=ih (acc.set i.toNat (to_T71 (rd_T68 l i))) (i + 1) (by rw [List.length_set];exact ha) (by omega) (by omega) hx
  refine ⟨ys,Ev.step (f:=fun k => laws_toFlowS.l0 k l (acc.set i.toNat (to_T71 (rd_T68 l i))) (i + 1)) (fun k => ?_) hev,hlen,fun j hj => ?_,fun j hj => ?_⟩
  ·simp only [laws_toFlowS.l0]
   rw [if_pos hlt,if_pos h0]
   simp only [laws_toFlow.f,Option.bind_some,ei,to_T71]
   rw [if_pos (by omega)]
  ·rw [hold j (by omega),List.getElem?_set_ne (by omega)]
  ·by_cases hji : (j : Int) = i
   ·have e : i.toNat = j:=by omega
    rw [hold j (by omega),e,List.getElem?_set_self (by omega),List.getElem?_map,List.getElem?_eq_getElem (show j < l.length by omega)]
    simp only [Option.map_some,rd_T68,e,List.getD_eq_getElem?_getD,List.getElem?_eq_getElem (show j < l.length by omega),Option.getD_some]
   ·exact hnew j (by omega)
theorem to_T71_ev (l : List S68) (hx : l.length ≤ 1048576) : Ev (fun k => laws_toFlowS.f k l) (l.map to_T71):=by
 obtain ⟨ys,hev,hlen,_,hnew⟩:=to_T71_l0 l l.length (List.replicate l.length z71) 0 (by simp) (by omega) (by omega) (by omega)
 have e : ys = l.map to_T71:=List.ext_getElem? fun j => hnew j (by omega)
 rw [← e]
 refine Ev.congr (fun k => ?_) hev
 simp only [laws_toFlowS.f]
 rw [if_pos (by omega),if_pos (by omega)]
 rfl
end
section
def P_FnExactFlowPass : Prop:=∀ (a0 : List (S68)) (a1 : Int) (a2 : Bool) (a3 : Int) (a4 : Int),(a0.length * 80 ≤ 140737488351232 ∧ a0.length ≤ maxLen ∧ ∀ y ∈ a0,wf68 y) → (Lit.int .i64 a1).wf = true → (Lit.int .i64 a3).wf = true → (Lit.int .i64 a4).wf = true → ∃ k,laws_FnExactFlowPass.f k a0 a1 a2 a3 a4 = some true
end
section
-- NEEDS laws.FnExactFlowPass
theorem pure_FnExactFlowPass : P_FnExactFlowPass:=by
 intro l i back flags now hl _ _ _
 obtain ⟨t,K0,e0,hh⟩:=szFlows_ev l hl.2.2 (by have:=hl.1;omega)
 by_cases ht : t < 0
 ·refine ⟨K0,?_⟩
  simp only [laws_FnExactFlowPass.f,e0 K0 (Nat.le_refl _),Option.bind_some,if_pos ht]
 have hlen:=hh (by omega)
 obtain ⟨K1,h1⟩:=to_T71_ev l hlen
 have hml : (l.map to_T71).length = l.length:=List.length_map ..
 have hr:=passR_len (l.map to_T71) i back flags now
 obtain ⟨r,code,hrc⟩ : ∃ r code,passR (l.map to_T71) i back flags now = (r,code):=⟨_,_,rfl⟩
 have b2:=fun k hk => spec_FlowPass_ev (l.map to_T71) i back flags now k hk
 have b3:=fun k hk => impl_FlowPass_ev (l.map to_T71) i back flags now k hk
 rw [hrc] at hr b2 b3
 dsimp only at hr b2 b3
 obtain ⟨K2,h2⟩:=eqS_T71_ev r (by omega)
 obtain ⟨K3,h3⟩:=eqS_T71_ev (l.map to_T71) (by omega)
 obtain ⟨ys,⟨K4,h4⟩,hy,hz⟩:=mark_T71_ev r 1 (by omega) (by omega)
 obtain ⟨K5,h5⟩:=held_T71_ev ys 1 (by omega) (by omega) (fun j a b => hz j a (by omega))
 obtain ⟨zs,⟨K6,h6⟩,_,_⟩:=mark_T71_ev (l.map to_T71) 1 (by omega) (by omega)
 obtain ⟨N,hN⟩ : ∃ N,N = K0 + K1 + K2 + K3 + K4 + K5 + K6 + 203:=⟨_,rfl⟩
 rw [hy] at h5
 have e1:=e0 (N + 3) (by omega)
 have t3:=h1 (N + 3) (by omega)
 have t2:=h1 (N + 2) (by omega)
 have t1:=h1 (N + 1) (by omega)
 have q3:=h2 (N + 3) (by omega)
 have q2:=h2 (N + 2) (by omega)
 have q1:=h2 (N + 1) (by omega)
 have a2:=h3 (N + 2) (by omega)
 have m2:=h6 (N + 2) (by omega)
 have m1:=h4 (N + 1) (by omega)
 have w1:=h5 (N + 1) (by omega)
 have w0:=h5 N (by omega)
 dsimp only at t3 t2 t1 q3 q2 q1 a2 m2 m1 w1 w0
 have hneg : ¬ (1 + 9 * ((l.map to_T71).length : Int)) < 0:=by omega
 have hneg2 : ¬ (1 + 9 * (r.length : Int)) < 0:=by omega
 refine ⟨N + 3,?_⟩
 simp only [laws_FnExactFlowPass.f,e1,Option.bind_some,if_neg ht,t3,b2 (N + 3) (by omega),b3 (N + 3) (by omega),q3,if_true,bne_self_eq_false,laws_FnExactFlowPass.j0,Bool.false_eq_true,if_false,t2,a2,m2,if_neg hneg,q2,laws_FnExactFlowPass.j1,m1,w1,if_neg hneg2,t1,b3 (N + 1) (by omega),q1,laws_FnExactFlowPass.j2,w0]
end
section
-- IMPORT Derived.Test.YtlpkldomoniegaaRows
-- IMPORT Derived.WalkKit
-- IMPORT Derived.ProofKit
-- IMPORT Derived.OpenShut
-- IMPORT Derived.ShutString
-- IMPORT Derived.ChangeOld
-- IMPORT Derived.Below
-- IMPORT Derived.SizedLaws
open Go.ChangeShapes Go.WideShapes Go.ChangeAt
open Go.ChangeMaps (open_string shut_string)
theorem own_FnExactFlowPass : ownKnob Try.prog.godebug = none:=by kernel_rfl
theorem laidOut_FnExactFlowPass : laidOutB Try.prog = true:=by kernel_rfl
set_option maxHeartbeats 4000000 in
set_option maxRecDepth 100000 in
theorem lifted_FnExactFlowPass (os : Os) (started : os.Started) (H : Type) (enc : TypeId × Value → H) :
  ReturnsInHanded {} Try.checked os 15 .any (Rows.fnExactFlowPassSpec.pre6 enc Try.prog Try.f15 Rows.fnExactFlowPassRow.domain false) (Rows.fnExactFlowPassSpec.post enc Try.prog Try.f15 false true false false):=by
 refine returnsInHanded_of_change_sized (C:=Try.checked) own_FnExactFlowPass started (by kernel_rfl) Try.func15
  (ChangeSpec.witness6 (enc:=enc) (C:=Try.checked) false ⟨#[],#[.slice none 0 0,.int .i64 0,.bool false,.int .i64 0,.int .i64 0],[]⟩ 8 (by kernel_rfl) (by kernel_rfl) (by kernel_rfl) (by kernel_rfl)) ?_
 intro W base args ds gs before hval0 hW hcnd hsz0 _
 have hsz : (DataW.weightsEach Try.prog (Try.f15.params.toList ++ Rows.fnExactFlowPassSpec.plain.varTypes Try.prog) (ds ++ gs)).all (· ≤ reachBytes) = true:=hsz0
 have hval : ∀ (j : Nat) t v,Try.f15.params[j]? = some t → args[j]? = some v → Value.okWide Try.prog W .any base t v:=hval0
 have hW':=hW
 obtain ⟨p,q,hA0,hV,rfl,hfz,hnd⟩:=hW
 have hA : DataW.TrodAll enc Try.prog W 0 (fun _ => true) true Try.f15.params.toList args.toList ds p:=hA0
 rw [Try.params15] at hA hval hsz
 obtain ⟨v0,vs0,d0,ds0,p0,q0,hargs,rfl,rfl,h0,r0⟩:=trodAll_cons hA
 obtain ⟨v1,vs1,d1,ds1,p1,q1,rfl,rfl,rfl,h1,r1⟩:=trodAll_cons r0
 obtain ⟨v2,vs2,d2,ds2,p2,q2,rfl,rfl,rfl,h2,r2⟩:=trodAll_cons r1
 obtain ⟨v3,vs3,d3,ds3,p3,q3,rfl,rfl,rfl,h3,r3⟩:=trodAll_cons r2
 obtain ⟨v4,vs4,d4,ds4,p4,q4,rfl,rfl,rfl,h4,r4⟩:=trodAll_cons r3
 obtain ⟨rfl,rfl,rfl⟩:=trodAll_nil r4
 obtain rfl : args = #[v0,v1,v2,v3,v4]:=by cases args;simp_all
 obtain ⟨rfl,rfl⟩:=trodVars_none hV
 have k0:=h0
 have lt0 : ∀ x ∈ p0,x.block < W.heap.size:=by obtain ⟨m,hm⟩:=k0;exact DataW.trod_lt m _ _ _ hm
 obtain ⟨A0,n0,c0,rfl⟩:=okWide_slice Try.underlying37 (hval 0 37 v0 rfl rfl)
 obtain ⟨fuel0,hf0⟩:=h0
 obtain ⟨a0,⟨A0',c0',e0,hl0,hc0⟩,w0⟩:=(Opens.slice Try.underlying37 (by kernel_rfl) 80 (by kernel_rfl) opens68).op hf0 (fun n hn => by have z:=List.all_eq_true.1 hsz _ (DataW.weights_mem_each (j:=0) (t:=37) rfl rfl n hn);simpa using z)
 simp only [Value.cells,List.cons.injEq,Value.slice.injEq,and_true] at e0
 obtain ⟨rfl,rfl,rfl⟩:=e0
 obtain ⟨a1,rfl,rfl,rfl,w1⟩:=open_int Try.underlying3 (hval 1 3 v1 rfl rfl) h1
 obtain ⟨a2,rfl,rfl,rfl⟩:=open_bool Try.underlying4 (hval 2 4 v2 rfl rfl) h2
 obtain ⟨a3,rfl,rfl,rfl,w3⟩:=open_int Try.underlying3 (hval 3 3 v3 rfl rfl) h3
 obtain ⟨a4,rfl,rfl,rfl,w4⟩:=open_int Try.underlying3 (hval 4 3 v4 rfl rfl) h4
 clear hA0 hval0 hsz0 hsz
 obtain ⟨k,hk⟩:=pure_FnExactFlowPass a0 a1 a2 a3 a4 w0 w1 w3 w4
 refine (laws_FnExactFlowPass.calls k _ _ a0 a1 a2 a3 a4 true W hc0 hl0 hk).mono fun e W' hh => ?_
 obtain ⟨he,bel0⟩:=hh
 have bel : Below W.heap.size W W':=bel0
 subst he
 exact ⟨_,rfl,_,_,_,[],_,[],hW',trodAll_mk1 (shut_bool Try.underlying4 _),(trodAll_cons_mk (Below.trod laidOut_FnExactFlowPass (by kernel_rfl) (of_decide_eq_true (by kernel_rfl)) k0 bel lt0) (trodAll_cons_mk (shut_int Try.underlying3 w1) (trodAll_cons_mk (shut_bool Try.underlying4 _) (trodAll_cons_mk (shut_int Try.underlying3 w3) (trodAll_cons_mk (shut_int Try.underlying3 w4) trodAll_mk0))))),rfl,bel.frame _,fun h => by cases h⟩
theorem over_FnExactFlowPass : Rows.fnExactFlowPassRow.holds Try.pinned (OpenSpec.ofChange Rows.fnExactFlowPassSpec) :=
 OpenClaim.holds_of_wide 15 Try.f15 rfl rfl rfl rfl rfl rfl rfl ⟨rfl,rfl,rfl,rfl,rfl⟩ rfl rfl rfl rfl rfl (by kernel_rfl) Try.func15 (by kernel_rfl)
  (of_decide_eq_true (by kernel_rfl)) (by unfold Func.isWrapper;first|(rw [if_pos (by decide +kernel)];kernel_rfl)|(rw [if_neg (by decide +kernel)];exact ⟨rfl,rfl⟩))
  (fun os started H enc _ => lifted_FnExactFlowPass os started H enc)
theorem proved_FnExactFlowPass : Rows.FnExactFlowPassSaid:=over_FnExactFlowPass
#print axioms proved_FnExactFlowPass
end
end Go.Proofs.Ytlpkldomoniegaa.X
