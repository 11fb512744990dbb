/- Texts that the row of FnExactConnTake stands on: functions of the program and of the reference, each as a Lean function with the same answers, and the plain lemmas. Conditions: none beside those that each theorem names. -/
import Derived.Test.YtlpkldomoniegaaCFnExactConnTake2
namespace Go.Proofs.Ytlpkldomoniegaa.X
open Go.RowKit Go.Proofs.YtlpkldomoniegaaW.PrintWords Go.Proofs.YtlpkldomoniegaaW.PrintLast Go.Proofs.YtlpkldomoniegaaW.PrintMore
attribute [local go_sem] max2_int min2_int max_two min_two max_three min_three max_four min_four   -- for this text's walks alone
set_option linter.unusedVariables false
set_option linter.unusedSimpArgs false
open Go.Proofs.YtlpkldomoniegaaW.PrintWords renaming blk_drewN -> bDn
open Go.Proofs.YtlpkldomoniegaaW.PrintWords renaming blk_drew -> bDr
open Go.Proofs.YtlpkldomoniegaaW.PrintWords renaming blk_alloc -> bAl
open Go.Proofs.YtlpkldomoniegaaW.PrintWords renaming blk_frozen -> bFr
open Go.Proofs.YtlpkldomoniegaaW.PrintWords renaming blk_cell -> bCe
open Go.Proofs.YtlpkldomoniegaaW.PrintWords.Aside0 renaming mk -> aMk
open Go.World renaming block_lt_of_cell? -> wLt
open Go.Proofs.YtlpkldomoniegaaW.PrintWords renaming pw_below_drewN -> bwN
open Go.Proofs.YtlpkldomoniegaaW.PrintWords renaming below_drew1 -> bw1
open Go.Proofs.YtlpkldomoniegaaW.PrintWords renaming below_alloc -> bwA
section
/-! ### spec_ConnOK: function 23 -/
mutual
def spec_ConnOK.j0:Nat→Bool→ByteArray→Int→Int→Int→Int→Int→Int→Int→ByteArray→ByteArray→Bool→Option (Bool)
 | 0,_,_,_,_,_,_,_,_,_,_,_,_ => none
 | k + 1,x56,x153000,x153001,x153002,x153003,x153004,x153005,x153006,x153007,x153008,x153009,x153010 => if x56 = true then (some false) else (if x153004 = 1 then (if x153008.toList = ([]:List UInt8) then (if (x153010 != (x153004 == 3)) = true then (spec_ConnOK.j1 k true x153000 x153001 x153002 x153003 x153004 x153005 x153006 x153007 x153008 x153009 x153010) else (if x153010 = true then (spec_ConnOK.j1 k false x153000 x153001 x153002 x153003 x153004 x153005 x153006 x153007 x153008 x153009 x153010) else (spec_ConnOK.j1 k (x153009.toList != ([]:List UInt8)) x153000 x153001 x153002 x153003 x153004 x153005 x153006 x153007 x153008 x153009 x153010))) else (spec_ConnOK.j1 k true x153000 x153001 x153002 x153003 x153004 x153005 x153006 x153007 x153008 x153009 x153010)) else (if (x153010 != (x153004 == 3)) = true then (spec_ConnOK.j1 k true x153000 x153001 x153002 x153003 x153004 x153005 x153006 x153007 x153008 x153009 x153010) else (if x153010 = true then (spec_ConnOK.j1 k false x153000 x153001 x153002 x153003 x153004 x153005 x153006 x153007 x153008 x153009 x153010) else (spec_ConnOK.j1 k (x153009.toList != ([]:List UInt8)) x153000 x153001 x153002 x153003 x153004 x153005 x153006 x153007 x153008 x153009 x153010))))
def spec_ConnOK.j1:Nat→Bool→ByteArray→Int→Int→Int→Int→Int→Int→Int→ByteArray→ByteArray→Bool→Option (Bool)
 | 0,_,_,_,_,_,_,_,_,_,_,_,_ => none
 | k + 1,x82,x153000,x153001,x153002,x153003,x153004,x153005,x153006,x153007,x153008,x153009,x153010 => if x82 = true then (some false) else ((spec_l10Seq.f (wrap64 (x153006 - x153005))).bind fun t160 => ((spec_l10Sent.f x153000 x153001 x153002 x153003 x153004 x153005 x153006 x153007 x153008 x153009 x153010).bind fun t161 => (some (t160 == t161))))
end
def spec_ConnOK.f (k:Nat) (a0_0:ByteArray) (a0_1 a0_2:Int) (a0_3 a0_4:Int) (a0_5 a0_6 a0_7:Int) (a0_8 a0_9:ByteArray) (a0_10:Bool):Option (Bool):=(spec_l01Mac.f a0_0).bind fun t153 => (if t153 = true then ((spec_l07Ask.f a0_1 a0_2).bind fun t154 => (if t154 = true then ((spec_l01Ip.f a0_3).bind fun t155 => (if t155 = true then ((spec_l01In.f a0_4 1 4).bind fun t156 => (if t156 = true then ((spec_l01Ip.f a0_5).bind fun t157 => (if t157 = true then ((spec_l01Ip.f a0_6).bind fun t158 => (if t158 = true then ((spec_l01Ip.f a0_7).bind fun t159 => (if t159 = true then (if (a0_8.size:Int) > 300 then (spec_ConnOK.j0 k true a0_0 a0_1 a0_2 a0_3 a0_4 a0_5 a0_6 a0_7 a0_8 a0_9 a0_10) else (spec_ConnOK.j0 k (decide ((a0_9.size:Int) > 300)) a0_0 a0_1 a0_2 a0_3 a0_4 a0_5 a0_6 a0_7 a0_8 a0_9 a0_10)) else (spec_ConnOK.j0 k true a0_0 a0_1 a0_2 a0_3 a0_4 a0_5 a0_6 a0_7 a0_8 a0_9 a0_10))) else (spec_ConnOK.j0 k true a0_0 a0_1 a0_2 a0_3 a0_4 a0_5 a0_6 a0_7 a0_8 a0_9 a0_10))) else (spec_ConnOK.j0 k true a0_0 a0_1 a0_2 a0_3 a0_4 a0_5 a0_6 a0_7 a0_8 a0_9 a0_10))) else (spec_ConnOK.j0 k true a0_0 a0_1 a0_2 a0_3 a0_4 a0_5 a0_6 a0_7 a0_8 a0_9 a0_10))) else (spec_ConnOK.j0 k true a0_0 a0_1 a0_2 a0_3 a0_4 a0_5 a0_6 a0_7 a0_8 a0_9 a0_10))) else (spec_ConnOK.j0 k true a0_0 a0_1 a0_2 a0_3 a0_4 a0_5 a0_6 a0_7 a0_8 a0_9 a0_10))) else (spec_ConnOK.j0 k true a0_0 a0_1 a0_2 a0_3 a0_4 a0_5 a0_6 a0_7 a0_8 a0_9 a0_10))
theorem spec_ConnOK.mono_l:∀ k,(∀ y0 y1 y2 y3 y4 y5 y6 y7 y8 y9 y10 y11,LeO (spec_ConnOK.j0 k y0 y1 y2 y3 y4 y5 y6 y7 y8 y9 y10 y11) (spec_ConnOK.j0 (k + 1) y0 y1 y2 y3 y4 y5 y6 y7 y8 y9 y10 y11))∧(∀ y0 y1 y2 y3 y4 y5 y6 y7 y8 y9 y10 y11,LeO (spec_ConnOK.j1 k y0 y1 y2 y3 y4 y5 y6 y7 y8 y9 y10 y11) (spec_ConnOK.j1 (k + 1) y0 y1 y2 y3 y4 y5 y6 y7 y8 y9 y10 y11))
 | 0 => ⟨fun _ _ _ _ _ _ _ _ _ _ _ _ r h => by simp [spec_ConnOK.j0] at h,fun _ _ _ _ _ _ _ _ _ _ _ _ r h => by simp [spec_ConnOK.j1] at h⟩
 | k + 1 => by
  obtain ⟨ih0,ih1⟩:=spec_ConnOK.mono_l k
  refine ⟨?_,?_⟩
  ·intro y0 y1 y2 y3 y4 y5 y6 y7 y8 y9 y10 y11
   unfold spec_ConnOK.j0
   repeat' first
   | (with_reducible exact ih0 _ _ _ _ _ _ _ _ _ _ _ _)
   | (with_reducible exact ih1 _ _ _ _ _ _ _ _ _ _ _ _)
   | (with_reducible exact LeO.refl _)
   | (with_reducible exact LeO.none _)
   | (with_reducible refine LeO.ite ?_ ?_)
   | (with_reducible refine LeO.bind ?_ (fun _ => ?_))
   | exact ih0 _ _ _ _ _ _ _ _ _ _ _ _
   | exact ih1 _ _ _ _ _ _ _ _ _ _ _ _
   | exact LeO.none _
   | refine LeO.ite ?_ ?_
   | refine LeO.bind ?_ (fun _ => ?_)
  ·intro y0 y1 y2 y3 y4 y5 y6 y7 y8 y9 y10 y11
   unfold spec_ConnOK.j1
   repeat' first
   | (with_reducible exact ih0 _ _ _ _ _ _ _ _ _ _ _ _)
   | (with_reducible exact ih1 _ _ _ _ _ _ _ _ _ _ _ _)
   | (with_reducible exact LeO.refl _)
   | (with_reducible exact LeO.none _)
   | (with_reducible refine LeO.ite ?_ ?_)
   | (with_reducible refine LeO.bind ?_ (fun _ => ?_))
   | exact ih0 _ _ _ _ _ _ _ _ _ _ _ _
   | exact ih1 _ _ _ _ _ _ _ _ _ _ _ _
   | exact LeO.none _
   | refine LeO.ite ?_ ?_
   | refine LeO.bind ?_ (fun _ => ?_)
theorem spec_ConnOK.mono:∀ a0 a1 a2 a3 a4 a5 a6 a7 a8 a9 a10 k,LeO (spec_ConnOK.f k a0 a1 a2 a3 a4 a5 a6 a7 a8 a9 a10) (spec_ConnOK.f (k + 1) a0 a1 a2 a3 a4 a5 a6 a7 a8 a9 a10):=by
 intro a0 a1 a2 a3 a4 a5 a6 a7 a8 a9 a10 k
 obtain ⟨ih0,ih1⟩:=spec_ConnOK.mono_l k
 unfold spec_ConnOK.f
 repeat' first
   | (with_reducible exact ih0 _ _ _ _ _ _ _ _ _ _ _ _)
   | (with_reducible exact ih1 _ _ _ _ _ _ _ _ _ _ _ _)
   | (with_reducible exact LeO.refl _)
   | (with_reducible exact LeO.none _)
   | (with_reducible refine LeO.ite ?_ ?_)
   | (with_reducible refine LeO.bind ?_ (fun _ => ?_))
   | exact ih0 _ _ _ _ _ _ _ _ _ _ _ _
   | exact ih1 _ _ _ _ _ _ _ _ _ _ _ _
   | exact LeO.none _
   | refine LeO.ite ?_ ?_
   | refine LeO.bind ?_ (fun _ => ?_)
def spec_ConnOK.T5:Bool × List (List Nat × List Nat):=(true,[([],[]),([0],[0]),([],[]),([2],[2]),([1,3],[1,3]),([4],[4]),([],[]),([6,5],[6]),([5,7],[5,7]),([8,7,0,1,2,3,4,5,6,7,8],[8])])
def spec_ConnOK.B5:List Nat:=[0,1,0,4,15,31,0,127,255,511]
theorem spec_ConnOK.tab5:rtab .any (opsOf Try.f23 5) = spec_ConnOK.T5:=by kernel_rfl
theorem spec_ConnOK.bits5:waitsOk spec_ConnOK.T5.2 spec_ConnOK.B5 = true:=by kernel_rfl
set_option maxHeartbeats 8000000 in
set_option maxRecDepth 100000 in
theorem spec_ConnOK.calls (k:Nat) (a0_0:ByteArray) (a0_1 a0_2:Int) (a0_3 a0_4:Int) (a0_5 a0_6 a0_7:Int) (a0_8 a0_9:ByteArray) (a0_10 r:Bool) (w:World) (h:spec_ConnOK.f k a0_0 a0_1 a0_2 a0_3 a0_4 a0_5 a0_6 a0_7 a0_8 a0_9 a0_10 = some r) :
  Calls Try.prog 23 #[.agg #[.string a0_0,.int .i64 a0_1,.int .i64 a0_2,.int .i64 a0_3,.int .i64 a0_4,.int .i64 a0_5,.int .i64 a0_6,.int .i64 a0_7,.string a0_8,.string a0_9,.bool a0_10]] w fun e w' => e = .returned (.bool r)∧Below w.heap.size w w':=by
 have hu34:=Try.underlying34
 have HB:=aMk (Below.refl w.heap.size w)
 have H:=h
 unfold spec_ConnOK.f at H
 clear h
 have HC2:=aMk H
 clear H
 go_enter Try.func23,Try.ntmps23
 go_upto_region 1 with (first|((with_reducible refine gate_dst (N:=1) rfl ?_);(try (refine gate_guard (by rfl) ?_;dsimp only));refine bxE (N:=1) (cs:=#[.string a0_0,.int .i64 a0_1,.int .i64 a0_2,.int .i64 a0_3,.int .i64 a0_4,.int .i64 a0_5,.int .i64 a0_6,.int .i64 a0_7,.string a0_8,.string a0_9,.bool a0_10]) (t:=34) ?_;intro gb152 hg w3 hbox hb;have BK152:=aMk (hbox);have GW152:=aMk (bZ hg);have GE152:=aMk (bZ hg);replace HB:=aMk (bSt hb);clear hb hbox hg))
 (try simp only [Act.put,List.setIfInBounds_toArray,List.set_cons_zero,List.set_cons_succ])
 go_cut [56] (fun v56 wc => ∃ (kq:Nat) (x56_1:Bool),v56 = .bool x56_1∧Aside0 (spec_ConnOK.j0 kq x56_1 a0_0 a0_1 a0_2 a0_3 a0_4 a0_5 a0_6 a0_7 a0_8 a0_9 a0_10 = some r)∧Aside0 (kq≤k)∧Aside0 (wc.heap[gb152]? = some (.cells #[.string a0_0,.int .i64 a0_1,.int .i64 a0_2,.int .i64 a0_3,.int .i64 a0_4,.int .i64 a0_5,.int .i64 a0_6,.int .i64 a0_7,.string a0_8,.string a0_9,.bool a0_10] 34 (0,0)))∧Aside0 (Below w.heap.size w wc))
 case first =>
  have H:=HC2.out
  clear HC2
  replace H:=Option.bind_eq_some_iff.mp H
  obtain ⟨t153,A40,H⟩:=H
  try dsimp only at H
  have A4:=aMk A40
  clear A40
  by_cases c5:t153 = true
  ·subst c5
   have H1:=H
   rw [if_pos rfl] at H1
   clear H
   have H:=H1
   clear H1
   replace H:=Option.bind_eq_some_iff.mp H
   obtain ⟨t154,A60,H⟩:=H
   try dsimp only at H
   have A6:=aMk A60
   clear A60
   by_cases c7:t154 = true
   ·subst c7
    have H1:=H
    rw [if_pos rfl] at H1
    clear H
    have H:=H1
    clear H1
    replace H:=Option.bind_eq_some_iff.mp H
    obtain ⟨t155,A80,H⟩:=H
    try dsimp only at H
    have A8:=aMk A80
    clear A80
    by_cases c9:t155 = true
    ·subst c9
     have H1:=H
     rw [if_pos rfl] at H1
     clear H
     have H:=H1
     clear H1
     replace H:=Option.bind_eq_some_iff.mp H
     obtain ⟨t156,A100,H⟩:=H
     try dsimp only at H
     have A10:=aMk A100
     clear A100
     by_cases c11:t156 = true
     ·subst c11
      have H1:=H
      rw [if_pos rfl] at H1
      clear H
      have H:=H1
      clear H1
      replace H:=Option.bind_eq_some_iff.mp H
      obtain ⟨t157,A120,H⟩:=H
      try dsimp only at H
      have A12:=aMk A120
      clear A120
      by_cases c13:t157 = true
      ·subst c13
       have H1:=H
       rw [if_pos rfl] at H1
       clear H
       have H:=H1
       clear H1
       replace H:=Option.bind_eq_some_iff.mp H
       obtain ⟨t158,A140,H⟩:=H
       try dsimp only at H
       have A14:=aMk A140
       clear A140
       by_cases c15:t158 = true
       ·subst c15
        have H1:=H
        rw [if_pos rfl] at H1
        clear H
        have H:=H1
        clear H1
        replace H:=Option.bind_eq_some_iff.mp H
        obtain ⟨t159,A160,H⟩:=H
        try dsimp only at H
        have A16:=aMk A160
        clear A160
        by_cases c17:t159 = true
        ·subst c17
         have H1:=H
         rw [if_pos rfl] at H1
         clear H
         have H:=H1
         clear H1
         by_cases c18:(a0_8.size:Int) > 300
         ·rw [if_pos c18] at H
          have c18b0:decide (300 < (a0_8.size:Int)) = true:=decide_eq_true c18
          have c18b1:decide (300 < a0_8.size) = true:=decide_eq_true (by omega)
          clear c18
          (first|rw [c18b0]|(simp only [i64_w,i32_w];rw [c18b0]) | skip)
          have H':=aMk H
          clear H
          obtain ⟨Z19_0,Z19_1,Z19_2,Z19_3,Z19_4,Z19_5,Z19_6,Z19_7,Z19_8,Z19_9,Z19_10,Y19_0,Y19_1,Y19_2,Y19_3,Y19_4,Y19_5,Y19_6,Y19_7,Y19_8,Y19_9,Y19_10⟩:=bC11 BK152.out
          go_wp2_with (first|((with_reducible refine gate_callee (f:=68) rfl ?_);refine gLs 5 Try.func68 #[.string a0_0] ?_;(with_reducible refine (spec_l01Mac.calls a0_0 true _ A4.out).mono ?_);rintro e w' ⟨rfl,⟨nd,rfl⟩⟩;refine ⟨_,rfl,?_⟩)|(go_at_call 69;(with_reducible refine (spec_l07Ask.calls a0_1 a0_2 true _ A6.out).mono ?_);rintro e w' ⟨rfl,⟨nd,rfl⟩⟩)|(go_at_call 59;(with_reducible refine (spec_l01Ip.calls a0_3 true _ A8.out).mono ?_);rintro e w' ⟨rfl,⟨nd,rfl⟩⟩)|(go_at_call 64;(with_reducible refine (spec_l01In.calls a0_4 1 4 true _ A10.out).mono ?_);rintro e w' ⟨rfl,⟨nd,rfl⟩⟩)|(go_at_call 59;(with_reducible refine (spec_l01Ip.calls a0_5 true _ A12.out).mono ?_);rintro e w' ⟨rfl,⟨nd,rfl⟩⟩)|(go_at_call 59;(with_reducible refine (spec_l01Ip.calls a0_6 true _ A14.out).mono ?_);rintro e w' ⟨rfl,⟨nd,rfl⟩⟩)|(go_at_call 59;(with_reducible refine (spec_l01Ip.calls a0_7 true _ A16.out).mono ?_);rintro e w' ⟨rfl,⟨nd,rfl⟩⟩))
          go_meet
          case rel => exact ⟨_,(true),rfS,H',⟨by first | omega|exact Nat.le_refl _⟩,⟨by refine pB ?_;exact BK152.out⟩,⟨bW⟩⟩
         ·rw [if_neg c18] at H
          have c18b0:decide (300 < (a0_8.size:Int)) = false:=decide_eq_false c18
          have c18b1:decide (300 < a0_8.size) = false:=decide_eq_false (by omega)
          clear c18
          (first|rw [c18b0]|(simp only [i64_w,i32_w];rw [c18b0]) | skip)
          have H':=aMk H
          clear H
          obtain ⟨Z20_0,Z20_1,Z20_2,Z20_3,Z20_4,Z20_5,Z20_6,Z20_7,Z20_8,Z20_9,Z20_10,Y20_0,Y20_1,Y20_2,Y20_3,Y20_4,Y20_5,Y20_6,Y20_7,Y20_8,Y20_9,Y20_10⟩:=bC11 BK152.out
          go_wp2_with (first|((with_reducible refine gate_callee (f:=68) rfl ?_);refine gLs 5 Try.func68 #[.string a0_0] ?_;(with_reducible refine (spec_l01Mac.calls a0_0 true _ A4.out).mono ?_);rintro e w' ⟨rfl,⟨nd,rfl⟩⟩;refine ⟨_,rfl,?_⟩)|(go_at_call 69;(with_reducible refine (spec_l07Ask.calls a0_1 a0_2 true _ A6.out).mono ?_);rintro e w' ⟨rfl,⟨nd,rfl⟩⟩)|(go_at_call 59;(with_reducible refine (spec_l01Ip.calls a0_3 true _ A8.out).mono ?_);rintro e w' ⟨rfl,⟨nd,rfl⟩⟩)|(go_at_call 64;(with_reducible refine (spec_l01In.calls a0_4 1 4 true _ A10.out).mono ?_);rintro e w' ⟨rfl,⟨nd,rfl⟩⟩)|(go_at_call 59;(with_reducible refine (spec_l01Ip.calls a0_5 true _ A12.out).mono ?_);rintro e w' ⟨rfl,⟨nd,rfl⟩⟩)|(go_at_call 59;(with_reducible refine (spec_l01Ip.calls a0_6 true _ A14.out).mono ?_);rintro e w' ⟨rfl,⟨nd,rfl⟩⟩)|(go_at_call 59;(with_reducible refine (spec_l01Ip.calls a0_7 true _ A16.out).mono ?_);rintro e w' ⟨rfl,⟨nd,rfl⟩⟩))
          go_meet
          case rel => exact ⟨_,(decide ((a0_9.size:Int) > 300)),rfS,H',⟨by first | omega|exact Nat.le_refl _⟩,⟨by refine pB ?_;exact BK152.out⟩,⟨bW⟩⟩
        ·replace c17:=Bool.eq_false_iff.mpr c17
         subst c17
         have H1:=H
         rw [if_neg (show ¬ (false = true) by decide)] at H1
         clear H
         have H:=H1
         clear H1
         have H':=aMk H
         clear H
         obtain ⟨Z21_0,Z21_1,Z21_2,Z21_3,Z21_4,Z21_5,Z21_6,Z21_7,Z21_8,Z21_9,Z21_10,Y21_0,Y21_1,Y21_2,Y21_3,Y21_4,Y21_5,Y21_6,Y21_7,Y21_8,Y21_9,Y21_10⟩:=bC11 BK152.out
         go_wp2_with (first|((with_reducible refine gate_callee (f:=68) rfl ?_);refine gLs 5 Try.func68 #[.string a0_0] ?_;(with_reducible refine (spec_l01Mac.calls a0_0 true _ A4.out).mono ?_);rintro e w' ⟨rfl,⟨nd,rfl⟩⟩;refine ⟨_,rfl,?_⟩)|(go_at_call 69;(with_reducible refine (spec_l07Ask.calls a0_1 a0_2 true _ A6.out).mono ?_);rintro e w' ⟨rfl,⟨nd,rfl⟩⟩)|(go_at_call 59;(with_reducible refine (spec_l01Ip.calls a0_3 true _ A8.out).mono ?_);rintro e w' ⟨rfl,⟨nd,rfl⟩⟩)|(go_at_call 64;(with_reducible refine (spec_l01In.calls a0_4 1 4 true _ A10.out).mono ?_);rintro e w' ⟨rfl,⟨nd,rfl⟩⟩)|(go_at_call 59;(with_reducible refine (spec_l01Ip.calls a0_5 true _ A12.out).mono ?_);rintro e w' ⟨rfl,⟨nd,rfl⟩⟩)|(go_at_call 59;(with_reducible refine (spec_l01Ip.calls a0_6 true _ A14.out).mono ?_);rintro e w' ⟨rfl,⟨nd,rfl⟩⟩)|(go_at_call 59;(with_reducible refine (spec_l01Ip.calls a0_7 false _ A16.out).mono ?_);rintro e w' ⟨rfl,⟨nd,rfl⟩⟩))
         go_meet
         case rel => exact ⟨_,(true),rfS,H',⟨by first | omega|exact Nat.le_refl _⟩,⟨by refine pB ?_;exact BK152.out⟩,⟨bW⟩⟩
       ·replace c15:=Bool.eq_false_iff.mpr c15
        subst c15
        have H1:=H
        rw [if_neg (show ¬ (false = true) by decide)] at H1
        clear H
        have H:=H1
        clear H1
        have H':=aMk H
        clear H
        obtain ⟨Z22_0,Z22_1,Z22_2,Z22_3,Z22_4,Z22_5,Z22_6,Z22_7,Z22_8,Z22_9,Z22_10,Y22_0,Y22_1,Y22_2,Y22_3,Y22_4,Y22_5,Y22_6,Y22_7,Y22_8,Y22_9,Y22_10⟩:=bC11 BK152.out
        go_wp2_with (first|((with_reducible refine gate_callee (f:=68) rfl ?_);refine gLs 5 Try.func68 #[.string a0_0] ?_;(with_reducible refine (spec_l01Mac.calls a0_0 true _ A4.out).mono ?_);rintro e w' ⟨rfl,⟨nd,rfl⟩⟩;refine ⟨_,rfl,?_⟩)|(go_at_call 69;(with_reducible refine (spec_l07Ask.calls a0_1 a0_2 true _ A6.out).mono ?_);rintro e w' ⟨rfl,⟨nd,rfl⟩⟩)|(go_at_call 59;(with_reducible refine (spec_l01Ip.calls a0_3 true _ A8.out).mono ?_);rintro e w' ⟨rfl,⟨nd,rfl⟩⟩)|(go_at_call 64;(with_reducible refine (spec_l01In.calls a0_4 1 4 true _ A10.out).mono ?_);rintro e w' ⟨rfl,⟨nd,rfl⟩⟩)|(go_at_call 59;(with_reducible refine (spec_l01Ip.calls a0_5 true _ A12.out).mono ?_);rintro e w' ⟨rfl,⟨nd,rfl⟩⟩)|(go_at_call 59;(with_reducible refine (spec_l01Ip.calls a0_6 false _ A14.out).mono ?_);rintro e w' ⟨rfl,⟨nd,rfl⟩⟩))
        go_meet
        case rel => exact ⟨_,(true),rfS,H',⟨by first | omega|exact Nat.le_refl _⟩,⟨by refine pB ?_;exact BK152.out⟩,⟨bW⟩⟩
      ·replace c13:=Bool.eq_false_iff.mpr c13
       subst c13
       have H1:=H
       rw [if_neg (show ¬ (false = true) by decide)] at H1
       clear H
       have H:=H1
       clear H1
       have H':=aMk H
       clear H
       obtain ⟨Z23_0,Z23_1,Z23_2,Z23_3,Z23_4,Z23_5,Z23_6,Z23_7,Z23_8,Z23_9,Z23_10,Y23_0,Y23_1,Y23_2,Y23_3,Y23_4,Y23_5,Y23_6,Y23_7,Y23_8,Y23_9,Y23_10⟩:=bC11 BK152.out
       go_wp2_with (first|((with_reducible refine gate_callee (f:=68) rfl ?_);refine gLs 5 Try.func68 #[.string a0_0] ?_;(with_reducible refine (spec_l01Mac.calls a0_0 true _ A4.out).mono ?_);rintro e w' ⟨rfl,⟨nd,rfl⟩⟩;refine ⟨_,rfl,?_⟩)|(go_at_call 69;(with_reducible refine (spec_l07Ask.calls a0_1 a0_2 true _ A6.out).mono ?_);rintro e w' ⟨rfl,⟨nd,rfl⟩⟩)|(go_at_call 59;(with_reducible refine (spec_l01Ip.calls a0_3 true _ A8.out).mono ?_);rintro e w' ⟨rfl,⟨nd,rfl⟩⟩)|(go_at_call 64;(with_reducible refine (spec_l01In.calls a0_4 1 4 true _ A10.out).mono ?_);rintro e w' ⟨rfl,⟨nd,rfl⟩⟩)|(go_at_call 59;(with_reducible refine (spec_l01Ip.calls a0_5 false _ A12.out).mono ?_);rintro e w' ⟨rfl,⟨nd,rfl⟩⟩))
       go_meet
       case rel => exact ⟨_,(true),rfS,H',⟨by first | omega|exact Nat.le_refl _⟩,⟨by refine pB ?_;exact BK152.out⟩,⟨bW⟩⟩
     ·replace c11:=Bool.eq_false_iff.mpr c11
      subst c11
      have H1:=H
      rw [if_neg (show ¬ (false = true) by decide)] at H1
      clear H
      have H:=H1
      clear H1
      have H':=aMk H
      clear H
      obtain ⟨Z24_0,Z24_1,Z24_2,Z24_3,Z24_4,Z24_5,Z24_6,Z24_7,Z24_8,Z24_9,Z24_10,Y24_0,Y24_1,Y24_2,Y24_3,Y24_4,Y24_5,Y24_6,Y24_7,Y24_8,Y24_9,Y24_10⟩:=bC11 BK152.out
      go_wp2_with (first|((with_reducible refine gate_callee (f:=68) rfl ?_);refine gLs 5 Try.func68 #[.string a0_0] ?_;(with_reducible refine (spec_l01Mac.calls a0_0 true _ A4.out).mono ?_);rintro e w' ⟨rfl,⟨nd,rfl⟩⟩;refine ⟨_,rfl,?_⟩)|(go_at_call 69;(with_reducible refine (spec_l07Ask.calls a0_1 a0_2 true _ A6.out).mono ?_);rintro e w' ⟨rfl,⟨nd,rfl⟩⟩)|(go_at_call 59;(with_reducible refine (spec_l01Ip.calls a0_3 true _ A8.out).mono ?_);rintro e w' ⟨rfl,⟨nd,rfl⟩⟩)|(go_at_call 64;(with_reducible refine (spec_l01In.calls a0_4 1 4 false _ A10.out).mono ?_);rintro e w' ⟨rfl,⟨nd,rfl⟩⟩))
      go_meet
      case rel => exact ⟨_,(true),rfS,H',⟨by first | omega|exact Nat.le_refl _⟩,⟨by refine pB ?_;exact BK152.out⟩,⟨bW⟩⟩
    ·replace c9:=Bool.eq_false_iff.mpr c9
     subst c9
     have H1:=H
     rw [if_neg (show ¬ (false = true) by decide)] at H1
     clear H
     have H:=H1
     clear H1
     have H':=aMk H
     clear H
     obtain ⟨Z25_0,Z25_1,Z25_2,Z25_3,Z25_4,Z25_5,Z25_6,Z25_7,Z25_8,Z25_9,Z25_10,Y25_0,Y25_1,Y25_2,Y25_3,Y25_4,Y25_5,Y25_6,Y25_7,Y25_8,Y25_9,Y25_10⟩:=bC11 BK152.out
     go_wp2_with (first|((with_reducible refine gate_callee (f:=68) rfl ?_);refine gLs 5 Try.func68 #[.string a0_0] ?_;(with_reducible refine (spec_l01Mac.calls a0_0 true _ A4.out).mono ?_);rintro e w' ⟨rfl,⟨nd,rfl⟩⟩;refine ⟨_,rfl,?_⟩)|(go_at_call 69;(with_reducible refine (spec_l07Ask.calls a0_1 a0_2 true _ A6.out).mono ?_);rintro e w' ⟨rfl,⟨nd,rfl⟩⟩)|(go_at_call 59;(with_reducible refine (spec_l01Ip.calls a0_3 false _ A8.out).mono ?_);rintro e w' ⟨rfl,⟨nd,rfl⟩⟩))
     go_meet
     case rel => exact ⟨_,(true),rfS,H',⟨by first | omega|exact Nat.le_refl _⟩,⟨by refine pB ?_;exact BK152.out⟩,⟨bW⟩⟩
   ·replace c7:=Bool.eq_false_iff.mpr c7
    subst c7
    have H1:=H
    rw [if_neg (show ¬ (false = true) by decide)] at H1
    clear H
    have H:=H1
    clear H1
    have H':=aMk H
    clear H
    obtain ⟨Z26_0,Z26_1,Z26_2,Z26_3,Z26_4,Z26_5,Z26_6,Z26_7,Z26_8,Z26_9,Z26_10,Y26_0,Y26_1,Y26_2,Y26_3,Y26_4,Y26_5,Y26_6,Y26_7,Y26_8,Y26_9,Y26_10⟩:=bC11 BK152.out
    go_wp2_with (first|((with_reducible refine gate_callee (f:=68) rfl ?_);refine gLs 5 Try.func68 #[.string a0_0] ?_;(with_reducible refine (spec_l01Mac.calls a0_0 true _ A4.out).mono ?_);rintro e w' ⟨rfl,⟨nd,rfl⟩⟩;refine ⟨_,rfl,?_⟩)|(go_at_call 69;(with_reducible refine (spec_l07Ask.calls a0_1 a0_2 false _ A6.out).mono ?_);rintro e w' ⟨rfl,⟨nd,rfl⟩⟩))
    go_meet
    case rel => exact ⟨_,(true),rfS,H',⟨by first | omega|exact Nat.le_refl _⟩,⟨by refine pB ?_;exact BK152.out⟩,⟨bW⟩⟩
  ·replace c5:=Bool.eq_false_iff.mpr c5
   subst c5
   have H1:=H
   rw [if_neg (show ¬ (false = true) by decide)] at H1
   clear H
   have H:=H1
   clear H1
   have H':=aMk H
   clear H
   obtain ⟨Z27_0,Z27_1,Z27_2,Z27_3,Z27_4,Z27_5,Z27_6,Z27_7,Z27_8,Z27_9,Z27_10,Y27_0,Y27_1,Y27_2,Y27_3,Y27_4,Y27_5,Y27_6,Y27_7,Y27_8,Y27_9,Y27_10⟩:=bC11 BK152.out
   go_wp2_with (first|((with_reducible refine gate_callee (f:=68) rfl ?_);refine gLs 5 Try.func68 #[.string a0_0] ?_;(with_reducible refine (spec_l01Mac.calls a0_0 false _ A4.out).mono ?_);rintro e w' ⟨rfl,⟨nd,rfl⟩⟩;refine ⟨_,rfl,?_⟩))
   go_meet
   case rel => exact ⟨_,(true),rfS,H',⟨by first | omega|exact Nat.le_refl _⟩,⟨by refine pB ?_;exact BK152.out⟩,⟨bW⟩⟩
 case rest =>
  clear HC2
  try clear Z19_0 Z19_1 Z19_10 Z19_2 Z19_3 Z19_4 Z19_5 Z19_6 Z19_7 Z19_8 Z19_9
  try clear Z20_0 Z20_1 Z20_10 Z20_2 Z20_3 Z20_4 Z20_5 Z20_6 Z20_7 Z20_8 Z20_9
  try clear Z21_0 Z21_1 Z21_10 Z21_2 Z21_3 Z21_4 Z21_5 Z21_6 Z21_7 Z21_8 Z21_9
  try clear Z22_0 Z22_1 Z22_10 Z22_2 Z22_3 Z22_4 Z22_5 Z22_6 Z22_7 Z22_8 Z22_9
  try clear Z23_0 Z23_1 Z23_10 Z23_2 Z23_3 Z23_4 Z23_5 Z23_6 Z23_7 Z23_8 Z23_9
  try clear Z24_0 Z24_1 Z24_10 Z24_2 Z24_3 Z24_4 Z24_5 Z24_6 Z24_7 Z24_8 Z24_9
  try clear Z25_0 Z25_1 Z25_10 Z25_2 Z25_3 Z25_4 Z25_5 Z25_6 Z25_7 Z25_8 Z25_9
  try clear Z26_0 Z26_1 Z26_10 Z26_2 Z26_3 Z26_4 Z26_5 Z26_6 Z26_7 Z26_8 Z26_9
  try clear Z27_0 Z27_1 Z27_10 Z27_2 Z27_3 Z27_4 Z27_5 Z27_6 Z27_7 Z27_8 Z27_9
  try clear Y19_0 Y19_1 Y19_10 Y19_2 Y19_3 Y19_4 Y19_5 Y19_6 Y19_7 Y19_8 Y19_9
  try clear Y20_0 Y20_1 Y20_10 Y20_2 Y20_3 Y20_4 Y20_5 Y20_6 Y20_7 Y20_8 Y20_9
  try clear Y21_0 Y21_1 Y21_10 Y21_2 Y21_3 Y21_4 Y21_5 Y21_6 Y21_7 Y21_8 Y21_9
  try clear Y22_0 Y22_1 Y22_10 Y22_2 Y22_3 Y22_4 Y22_5 Y22_6 Y22_7 Y22_8 Y22_9
  try clear Y23_0 Y23_1 Y23_10 Y23_2 Y23_3 Y23_4 Y23_5 Y23_6 Y23_7 Y23_8 Y23_9
  try clear Y24_0 Y24_1 Y24_10 Y24_2 Y24_3 Y24_4 Y24_5 Y24_6 Y24_7 Y24_8 Y24_9
  try clear Y25_0 Y25_1 Y25_10 Y25_2 Y25_3 Y25_4 Y25_5 Y25_6 Y25_7 Y25_8 Y25_9
  try clear Y26_0 Y26_1 Y26_10 Y26_2 Y26_3 Y26_4 Y26_5 Y26_6 Y26_7 Y26_8 Y26_9
  try clear Y27_0 Y27_1 Y27_10 Y27_2 Y27_3 Y27_4 Y27_5 Y27_6 Y27_7 Y27_8 Y27_9
  obtain ⟨kq,x56_1,rfl,HA,HJ1,BK152,HB⟩:=hcut
  cases kq with
  | zero => exact absurd HA.out (by simp [spec_ConnOK.j0])
  | succ kj1 =>
   have H:=HA.out
   clear HA
   simp only [spec_ConnOK.j0] at H
   by_cases c28:x56_1 = true
   ·subst c28
    have H1:=H
    rw [if_pos rfl] at H1
    clear H
    have H:=H1
    clear H1
    obtain rfl:=Option.some.inj H
    go_wp2
    go_ret
    exact ⟨eRf,bW⟩
   ·replace c28:=Bool.eq_false_iff.mpr c28
    subst c28
    have H1:=H
    rw [if_neg (show ¬ (false = true) by decide)] at H1
    clear H
    have H:=H1
    clear H1
    have HC29:=aMk H
    clear H
    go_upto_region 3 with (fail)
    go_cut [82] (fun v82 wc => ∃ (kq:Nat) (x82_28:Bool),v82 = .bool x82_28∧Aside0 (spec_ConnOK.j1 kq x82_28 a0_0 a0_1 a0_2 a0_3 a0_4 a0_5 a0_6 a0_7 a0_8 a0_9 a0_10 = some r)∧Aside0 (kq≤kj1)∧Aside0 (wc.heap[gb152]? = some (.cells #[.string a0_0,.int .i64 a0_1,.int .i64 a0_2,.int .i64 a0_3,.int .i64 a0_4,.int .i64 a0_5,.int .i64 a0_6,.int .i64 a0_7,.string a0_8,.string a0_9,.bool a0_10] 34 (0,0)))∧Aside0 (Below w.heap.size w wc))
    case first =>
     have H:=HC29.out
     clear HC29
     by_cases c30:a0_4 = 1
     ·rw [if_pos c30] at H
      have c30b0:(a0_4 == 1) = true:=beq_iff_eq.mpr c30
      have c30b1:(a0_4 != 1) = false:=bne_eq_false_iff_eq.mpr c30
      clear c30
      (first|rw [c30b0]|(simp only [i64_w,i32_w];rw [c30b0]) | skip)
      by_cases c31:a0_8.toList = ([]:List UInt8)
      ·rw [if_pos c31] at H
       have c31b0:(a0_8.toList == ([]:List UInt8)) = true:=beq_iff_eq.mpr c31
       have c31b1:(a0_8.toList != ([]:List UInt8)) = false:=bne_eq_false_iff_eq.mpr c31
       clear c31
       by_cases c32:(a0_10 != (a0_4 == 3)) = true
       ·rw [if_pos c32] at H
        have c32b0:(a0_10 != (a0_4 == 3)) = true:=c32
        (try (have c32b1:decide (a0_10 = (a0_4 == 3)) = false:=by simpa using c32))
        (try (have c32b2:(a0_10 == (a0_4 == 3)) = false:=by simpa using c32))
        (try (have c32b3:¬ (a0_10 = (a0_4 == 3)):=by simpa using c32))
        clear c32
        have H':=aMk H
        clear H
        obtain ⟨Z33_0,Z33_1,Z33_2,Z33_3,Z33_4,Z33_5,Z33_6,Z33_7,Z33_8,Z33_9,Z33_10,Y33_0,Y33_1,Y33_2,Y33_3,Y33_4,Y33_5,Y33_6,Y33_7,Y33_8,Y33_9,Y33_10⟩:=bC11 BK152.out
        go_wp2
        go_meet
        case rel => exact ⟨_,(true),rfS,H',⟨by have:=HJ1.out;first | omega|exact Nat.le_refl _⟩,⟨by refine pB ?_;exact BK152.out⟩,⟨bW⟩⟩
       ·rw [if_neg c32] at H
        have c32b0:(a0_10 != (a0_4 == 3)) = false:=by simpa using c32
        (try (have c32b1:decide (a0_10 = (a0_4 == 3)) = true:=by simpa using c32))
        (try (have c32b2:(a0_10 == (a0_4 == 3)) = true:=by simpa using c32))
        clear c32
        by_cases c34:a0_10 = true
        ·subst c34
         have H1:=H
         rw [if_pos rfl] at H1
         clear H
         have H:=H1
         clear H1
         have H':=aMk H
         clear H
         obtain ⟨Z35_0,Z35_1,Z35_2,Z35_3,Z35_4,Z35_5,Z35_6,Z35_7,Z35_8,Z35_9,Z35_10,Y35_0,Y35_1,Y35_2,Y35_3,Y35_4,Y35_5,Y35_6,Y35_7,Y35_8,Y35_9,Y35_10⟩:=bC11 BK152.out
         go_wp2
         go_meet
         case rel => exact ⟨_,(false),rfS,H',⟨by have:=HJ1.out;first | omega|exact Nat.le_refl _⟩,⟨by refine pB ?_;exact BK152.out⟩,⟨bW⟩⟩
        ·replace c34:=Bool.eq_false_iff.mpr c34
         subst c34
         have H1:=H
         rw [if_neg (show ¬ (false = true) by decide)] at H1
         clear H
         have H:=H1
         clear H1
         have H':=aMk H
         clear H
         obtain ⟨Z36_0,Z36_1,Z36_2,Z36_3,Z36_4,Z36_5,Z36_6,Z36_7,Z36_8,Z36_9,Z36_10,Y36_0,Y36_1,Y36_2,Y36_3,Y36_4,Y36_5,Y36_6,Y36_7,Y36_8,Y36_9,Y36_10⟩:=bC11 BK152.out
         go_wp2
         go_meet
         case rel => exact ⟨_,((a0_9.toList != ([]:List UInt8))),rfS,H',⟨by have:=HJ1.out;first | omega|exact Nat.le_refl _⟩,⟨by refine pB ?_;exact BK152.out⟩,⟨bW⟩⟩
      ·rw [if_neg c31] at H
       have c31b0:(a0_8.toList == ([]:List UInt8)) = false:=beq_eq_false_iff_ne.mpr c31
       have c31b1:(a0_8.toList != ([]:List UInt8)) = true:=bne_iff_ne.mpr c31
       have H':=aMk H
       clear H
       obtain ⟨Z37_0,Z37_1,Z37_2,Z37_3,Z37_4,Z37_5,Z37_6,Z37_7,Z37_8,Z37_9,Z37_10,Y37_0,Y37_1,Y37_2,Y37_3,Y37_4,Y37_5,Y37_6,Y37_7,Y37_8,Y37_9,Y37_10⟩:=bC11 BK152.out
       go_wp2
       go_meet
       case rel => exact ⟨_,(true),rfS,H',⟨by have:=HJ1.out;first | omega|exact Nat.le_refl _⟩,⟨by refine pB ?_;exact BK152.out⟩,⟨bW⟩⟩
     ·rw [if_neg c30] at H
      have c30b0:(a0_4 == 1) = false:=beq_eq_false_iff_ne.mpr c30
      have c30b1:(a0_4 != 1) = true:=bne_iff_ne.mpr c30
      (first|rw [c30b0]|(simp only [i64_w,i32_w];rw [c30b0]) | skip)
      by_cases c38:(a0_10 != (a0_4 == 3)) = true
      ·rw [if_pos c38] at H
       have c38b0:(a0_10 != (a0_4 == 3)) = true:=c38
       (try (have c38b1:decide (a0_10 = (a0_4 == 3)) = false:=by simpa using c38))
       (try (have c38b2:(a0_10 == (a0_4 == 3)) = false:=by simpa using c38))
       (try (have c38b3:¬ (a0_10 = (a0_4 == 3)):=by simpa using c38))
       clear c38
       have H':=aMk H
       clear H
       obtain ⟨Z39_0,Z39_1,Z39_2,Z39_3,Z39_4,Z39_5,Z39_6,Z39_7,Z39_8,Z39_9,Z39_10,Y39_0,Y39_1,Y39_2,Y39_3,Y39_4,Y39_5,Y39_6,Y39_7,Y39_8,Y39_9,Y39_10⟩:=bC11 BK152.out
       go_wp2
       go_meet
       case rel => exact ⟨_,(true),rfS,H',⟨by have:=HJ1.out;first | omega|exact Nat.le_refl _⟩,⟨by refine pB ?_;exact BK152.out⟩,⟨bW⟩⟩
      ·rw [if_neg c38] at H
       have c38b0:(a0_10 != (a0_4 == 3)) = false:=by simpa using c38
       (try (have c38b1:decide (a0_10 = (a0_4 == 3)) = true:=by simpa using c38))
       (try (have c38b2:(a0_10 == (a0_4 == 3)) = true:=by simpa using c38))
       clear c38
       by_cases c40:a0_10 = true
       ·subst c40
        have H1:=H
        rw [if_pos rfl] at H1
        clear H
        have H:=H1
        clear H1
        have H':=aMk H
        clear H
        obtain ⟨Z41_0,Z41_1,Z41_2,Z41_3,Z41_4,Z41_5,Z41_6,Z41_7,Z41_8,Z41_9,Z41_10,Y41_0,Y41_1,Y41_2,Y41_3,Y41_4,Y41_5,Y41_6,Y41_7,Y41_8,Y41_9,Y41_10⟩:=bC11 BK152.out
        go_wp2
        go_meet
        case rel => exact ⟨_,(false),rfS,H',⟨by have:=HJ1.out;first | omega|exact Nat.le_refl _⟩,⟨by refine pB ?_;exact BK152.out⟩,⟨bW⟩⟩
       ·replace c40:=Bool.eq_false_iff.mpr c40
        subst c40
        have H1:=H
        rw [if_neg (show ¬ (false = true) by decide)] at H1
        clear H
        have H:=H1
        clear H1
        have H':=aMk H
        clear H
        obtain ⟨Z42_0,Z42_1,Z42_2,Z42_3,Z42_4,Z42_5,Z42_6,Z42_7,Z42_8,Z42_9,Z42_10,Y42_0,Y42_1,Y42_2,Y42_3,Y42_4,Y42_5,Y42_6,Y42_7,Y42_8,Y42_9,Y42_10⟩:=bC11 BK152.out
        go_wp2
        go_meet
        case rel => exact ⟨_,((a0_9.toList != ([]:List UInt8))),rfS,H',⟨by have:=HJ1.out;first | omega|exact Nat.le_refl _⟩,⟨by refine pB ?_;exact BK152.out⟩,⟨bW⟩⟩
    case rest =>
     clear HC29
     try clear Z19_0 Z19_1 Z19_10 Z19_2 Z19_3 Z19_4 Z19_5 Z19_6 Z19_7 Z19_8 Z19_9
     try clear Z20_0 Z20_1 Z20_10 Z20_2 Z20_3 Z20_4 Z20_5 Z20_6 Z20_7 Z20_8 Z20_9
     try clear Z21_0 Z21_1 Z21_10 Z21_2 Z21_3 Z21_4 Z21_5 Z21_6 Z21_7 Z21_8 Z21_9
     try clear Z22_0 Z22_1 Z22_10 Z22_2 Z22_3 Z22_4 Z22_5 Z22_6 Z22_7 Z22_8 Z22_9
     try clear Z23_0 Z23_1 Z23_10 Z23_2 Z23_3 Z23_4 Z23_5 Z23_6 Z23_7 Z23_8 Z23_9
     try clear Z24_0 Z24_1 Z24_10 Z24_2 Z24_3 Z24_4 Z24_5 Z24_6 Z24_7 Z24_8 Z24_9
     try clear Z25_0 Z25_1 Z25_10 Z25_2 Z25_3 Z25_4 Z25_5 Z25_6 Z25_7 Z25_8 Z25_9
     try clear Z26_0 Z26_1 Z26_10 Z26_2 Z26_3 Z26_4 Z26_5 Z26_6 Z26_7 Z26_8 Z26_9
     try clear Z27_0 Z27_1 Z27_10 Z27_2 Z27_3 Z27_4 Z27_5 Z27_6 Z27_7 Z27_8 Z27_9
     try clear Z33_0 Z33_1 Z33_10 Z33_2 Z33_3 Z33_4 Z33_5 Z33_6 Z33_7 Z33_8 Z33_9
     try clear Z35_0 Z35_1 Z35_10 Z35_2 Z35_3 Z35_4 Z35_5 Z35_6 Z35_7 Z35_8 Z35_9
     try clear Z36_0 Z36_1 Z36_10 Z36_2 Z36_3 Z36_4 Z36_5 Z36_6 Z36_7 Z36_8 Z36_9
     try clear Z37_0 Z37_1 Z37_10 Z37_2 Z37_3 Z37_4 Z37_5 Z37_6 Z37_7 Z37_8 Z37_9
     try clear Z39_0 Z39_1 Z39_10 Z39_2 Z39_3 Z39_4 Z39_5 Z39_6 Z39_7 Z39_8 Z39_9
     try clear Z41_0 Z41_1 Z41_10 Z41_2 Z41_3 Z41_4 Z41_5 Z41_6 Z41_7 Z41_8 Z41_9
     try clear Z42_0 Z42_1 Z42_10 Z42_2 Z42_3 Z42_4 Z42_5 Z42_6 Z42_7 Z42_8 Z42_9
     try clear Y19_0 Y19_1 Y19_10 Y19_2 Y19_3 Y19_4 Y19_5 Y19_6 Y19_7 Y19_8 Y19_9
     try clear Y20_0 Y20_1 Y20_10 Y20_2 Y20_3 Y20_4 Y20_5 Y20_6 Y20_7 Y20_8 Y20_9
     try clear Y21_0 Y21_1 Y21_10 Y21_2 Y21_3 Y21_4 Y21_5 Y21_6 Y21_7 Y21_8 Y21_9
     try clear Y22_0 Y22_1 Y22_10 Y22_2 Y22_3 Y22_4 Y22_5 Y22_6 Y22_7 Y22_8 Y22_9
     try clear Y23_0 Y23_1 Y23_10 Y23_2 Y23_3 Y23_4 Y23_5 Y23_6 Y23_7 Y23_8 Y23_9
     try clear Y24_0 Y24_1 Y24_10 Y24_2 Y24_3 Y24_4 Y24_5 Y24_6 Y24_7 Y24_8 Y24_9
     try clear Y25_0 Y25_1 Y25_10 Y25_2 Y25_3 Y25_4 Y25_5 Y25_6 Y25_7 Y25_8 Y25_9
     try clear Y26_0 Y26_1 Y26_10 Y26_2 Y26_3 Y26_4 Y26_5 Y26_6 Y26_7 Y26_8 Y26_9
     try clear Y27_0 Y27_1 Y27_10 Y27_2 Y27_3 Y27_4 Y27_5 Y27_6 Y27_7 Y27_8 Y27_9
     try clear Y33_0 Y33_1 Y33_10 Y33_2 Y33_3 Y33_4 Y33_5 Y33_6 Y33_7 Y33_8 Y33_9
     try clear Y35_0 Y35_1 Y35_10 Y35_2 Y35_3 Y35_4 Y35_5 Y35_6 Y35_7 Y35_8 Y35_9
     try clear Y36_0 Y36_1 Y36_10 Y36_2 Y36_3 Y36_4 Y36_5 Y36_6 Y36_7 Y36_8 Y36_9
     try clear Y37_0 Y37_1 Y37_10 Y37_2 Y37_3 Y37_4 Y37_5 Y37_6 Y37_7 Y37_8 Y37_9
     try clear Y39_0 Y39_1 Y39_10 Y39_2 Y39_3 Y39_4 Y39_5 Y39_6 Y39_7 Y39_8 Y39_9
     try clear Y41_0 Y41_1 Y41_10 Y41_2 Y41_3 Y41_4 Y41_5 Y41_6 Y41_7 Y41_8 Y41_9
     try clear Y42_0 Y42_1 Y42_10 Y42_2 Y42_3 Y42_4 Y42_5 Y42_6 Y42_7 Y42_8 Y42_9
     obtain ⟨kq,x82_28,rfl,HA,HJ28,BK152,HB⟩:=hcut
     cases kq with
     | zero => exact absurd HA.out (by simp [spec_ConnOK.j1])
     | succ kj28 =>
      have H:=HA.out
      clear HA
      simp only [spec_ConnOK.j1] at H
      by_cases c43:x82_28 = true
      ·subst c43
       have H1:=H
       rw [if_pos rfl] at H1
       clear H
       have H:=H1
       clear H1
       obtain rfl:=Option.some.inj H
       go_wp2
       go_ret
       exact ⟨eRf,bW⟩
      ·replace c43:=Bool.eq_false_iff.mpr c43
       subst c43
       have H1:=H
       rw [if_neg (show ¬ (false = true) by decide)] at H1
       clear H
       have H:=H1
       clear H1
       replace H:=Option.bind_eq_some_iff.mp H
       obtain ⟨t160,A440,H⟩:=H
       try dsimp only at H
       have A44:=aMk A440
       clear A440
       replace H:=Option.bind_eq_some_iff.mp H
       obtain ⟨t161,A450,H⟩:=H
       try dsimp only at H
       have A45:=aMk A450
       clear A450
       obtain rfl:=Option.some.inj H
       try go_wp2
       replace BK152:=aMk (bDr BK152.out)
       replace HB:=aMk (bw1 HB.out)
       refine start_ (n:=10) (S:=fun w' => w'.cell? ⟨gb152,0,none⟩ = some (.string a0_0)∧w'.cell? ⟨gb152,1,none⟩ = some (.int .i64 a0_1)∧w'.cell? ⟨gb152,2,none⟩ = some (.int .i64 a0_2)∧w'.cell? ⟨gb152,3,none⟩ = some (.int .i64 a0_3)∧w'.cell? ⟨gb152,4,none⟩ = some (.int .i64 a0_4)∧w'.cell? ⟨gb152,5,none⟩ = some (.int .i64 a0_5)∧w'.cell? ⟨gb152,6,none⟩ = some (.int .i64 a0_6)∧w'.cell? ⟨gb152,7,none⟩ = some (.int .i64 a0_7)∧w'.cell? ⟨gb152,8,none⟩ = some (.string a0_8)∧w'.cell? ⟨gb152,9,none⟩ = some (.string a0_9)∧w'.cell? ⟨gb152,10,none⟩ = some (.bool a0_10)) (ds:=[]) #[false,false,false,false,false,false,false,false,false,false] (by kernel_rfl) rfl rfl (cz11 BK152.out) (fun hHeld => ?_);refine with_tabW spec_ConnOK.tab5 spec_ConnOK.bits5 (fun HT_ HW_ => ?_)
       generalize wc.drew = w46 at BK152 HB hHeld ⊢
       refine pU (i:=0) (N:=some 83) #[true,false,false,false,false,false,false,false,false,false] (any_of HT_.out (by kernel_rfl)) ?_
       refine pU (i:=2) (N:=some 85) #[true,false,true,false,false,false,false,false,false,false] (any_of HT_.out (by kernel_rfl)) ?_
       refine tU11 (i:=1) (N:=some 84) #[true,true,true,false,false,false,false,false,false,false] (take_ofW HT_.out HW_.out (by kernel_rfl)) hHeld ?_
       refine tU11 (i:=3) (N:=some 86) #[true,true,true,true,false,false,false,false,false,false] (take_ofW HT_.out HW_.out (by kernel_rfl)) hHeld ?_
       refine pU (i:=4) (N:=some 87) #[true,true,true,true,true,false,false,false,false,false] (any_of HT_.out (by kernel_rfl)) ?_
       refine tU11 (i:=6) (N:=some 89) #[true,true,true,true,true,false,true,false,false,false] (take_ofW HT_.out HW_.out (by kernel_rfl)) hHeld ?_
       refine one_ (i:=5) (N:=some 88) #[true,true,true,true,true,true,true,false,false,false] rfl rfl (one_of HT_.out (by kernel_rfl)) (by decide) (fun K hK => ?_)
       refine goes_ Try.func70 (by kernel_rfl) rfl #[.int .i64 (wrap64 (a0_6 - a0_5))] (by rfl) rfl rfl (by (try simp only [List.map_toArray,List.map_cons,List.map_nil]);first | done | rfl|(simp only [List.length_drop,List.length_take];rfl)) ?_
       with_reducible refine (spec_l10Seq.calls (wrap64 (a0_6 - a0_5)) t160 _ A44.out).mono ?_
       rintro e w' ⟨rfl,⟨nd,rfl⟩⟩
       refine ⟨_,rfl,?_⟩
       refine hK.out _ _ (cz11 BK152.out) (fun hHeld => ?_)
       clear hK K
       refine norm_ (a':=?_) ?_ ?_
       rotate_left
       ·show Act.put _ (some 88) _ = _
        simp only [Act.put,List.setIfInBounds_toArray,List.set_cons_zero,List.set_cons_succ,i64_w,i32_w]
        rfl
       refine one_ (i:=7) (N:=some 90) #[true,true,true,true,true,true,true,true,false,false] rfl rfl (one_of HT_.out (by kernel_rfl)) (by decide) (fun K hK => ?_)
       refine goes_ Try.func71 (by kernel_rfl) rfl #[.agg #[.string a0_0,.int .i64 a0_1,.int .i64 a0_2,.int .i64 a0_3,.int .i64 a0_4,.int .i64 a0_5,.int .i64 a0_6,.int .i64 a0_7,.string a0_8,.string a0_9,.bool a0_10]] (by rfl) rfl rfl (by (try simp only [List.map_toArray,List.map_cons,List.map_nil]);first | done | rfl|(simp only [List.length_drop,List.length_take];rfl)) ?_
       with_reducible refine (spec_l10Sent.calls a0_0 a0_1 a0_2 a0_3 a0_4 a0_5 a0_6 a0_7 a0_8 a0_9 a0_10 t161 _ A45.out).mono ?_
       rintro e w47 ⟨rfl,hb⟩
       refine ⟨_,rfl,?_⟩
       replace BK152:=aMk (bkB BK152.out hb)
       replace HB:=aMk (bU hb)
       (try clear hb)
       (try clear hb2)
       (try clear hk)
       (try clear hi)
       refine hK.out _ _ (cz11 BK152.out) (fun hHeld => ?_)
       clear hK K
       refine norm_ (a':=?_) ?_ ?_
       rotate_left
       ·show Act.put _ (some 90) _ = _
        simp only [Act.put,List.setIfInBounds_toArray,List.set_cons_zero,List.set_cons_succ,i64_w,i32_w]
        rfl
       refine pU (i:=8) (N:=some 91) #[true,true,true,true,true,true,true,true,true,false] (any_of HT_.out (by kernel_rfl)) ?_
       refine pU (i:=9) (N:=some 2) #[true,true,true,true,true,true,true,true,true,true] (any_of HT_.out (by kernel_rfl)) ?_
       refine done_ (done_of HT_.out (by kernel_rfl)) ?_
       try go_wp2
       go_ret
       exact ⟨eRf,bW⟩
end
section
/-! ### spec_l02Segment: function 82 -/
def spec_l02Segment.f (a0_0 a0_1:Int) (a0_2 a0_3:Int) (a0_4 a0_5:Int) (a0_6:ByteArray):Option (Bool):=(spec_l02Port.f a0_0).bind fun t334 => (if t334 = true then ((spec_l02Port.f a0_1).bind fun t335 => (if t335 = true then ((spec_l01Ip.f a0_2).bind fun t336 => (if t336 = true then ((spec_l01Ip.f a0_3).bind fun t337 => (if t337 = true then ((spec_l01In.f a0_4 0 31).bind fun t338 => (if t338 = true then ((spec_l02Port.f a0_5).bind fun t339 => (if t339 = true then (some (decide ((a0_6.size:Int)≤360))) else (some false))) else (some false))) else (some false))) else (some false))) else (some false))) else (some false))
set_option maxHeartbeats 8000000 in
set_option maxRecDepth 100000 in
theorem spec_l02Segment.calls (a0_0 a0_1:Int) (a0_2 a0_3:Int) (a0_4 a0_5:Int) (a0_6:ByteArray) (r:Bool) (w:World) (h:spec_l02Segment.f a0_0 a0_1 a0_2 a0_3 a0_4 a0_5 a0_6 = some r) :
  Calls Try.prog 82 #[.agg #[.int .i64 a0_0,.int .i64 a0_1,.int .i64 a0_2,.int .i64 a0_3,.int .i64 a0_4,.int .i64 a0_5,.string a0_6]] w fun e w' => e = .returned (.bool r)∧Below w.heap.size w w':=by
 have hu53:=Try.underlying53
 have HB:=aMk (Below.refl w.heap.size w)
 have H:=h
 unfold spec_l02Segment.f at H
 clear h
 replace H:=Option.bind_eq_some_iff.mp H
 obtain ⟨t334,A20,H⟩:=H
 try dsimp only at H
 have A2:=aMk A20
 clear A20
 by_cases c3:t334 = true
 ·subst c3
  have H1:=H
  rw [if_pos rfl] at H1
  clear H
  have H:=H1
  clear H1
  replace H:=Option.bind_eq_some_iff.mp H
  obtain ⟨t335,A40,H⟩:=H
  try dsimp only at H
  have A4:=aMk A40
  clear A40
  by_cases c5:t335 = true
  ·subst c5
   have H1:=H
   rw [if_pos rfl] at H1
   clear H
   have H:=H1
   clear H1
   replace H:=Option.bind_eq_some_iff.mp H
   obtain ⟨t336,A60,H⟩:=H
   try dsimp only at H
   have A6:=aMk A60
   clear A60
   by_cases c7:t336 = true
   ·subst c7
    have H1:=H
    rw [if_pos rfl] at H1
    clear H
    have H:=H1
    clear H1
    replace H:=Option.bind_eq_some_iff.mp H
    obtain ⟨t337,A80,H⟩:=H
    try dsimp only at H
    have A8:=aMk A80
    clear A80
    by_cases c9:t337 = true
    ·subst c9
     have H1:=H
     rw [if_pos rfl] at H1
     clear H
     have H:=H1
     clear H1
     replace H:=Option.bind_eq_some_iff.mp H
     obtain ⟨t338,A100,H⟩:=H
     try dsimp only at H
     have A10:=aMk A100
     clear A100
     by_cases c11:t338 = true
     ·subst c11
      have H1:=H
      rw [if_pos rfl] at H1
      clear H
      have H:=H1
      clear H1
      replace H:=Option.bind_eq_some_iff.mp H
      obtain ⟨t339,A120,H⟩:=H
      try dsimp only at H
      have A12:=aMk A120
      clear A120
      by_cases c13:t339 = true
      ·subst c13
       have H1:=H
       rw [if_pos rfl] at H1
       clear H
       have H:=H1
       clear H1
       obtain rfl:=Option.some.inj H
       go_enter Try.func82,Try.ntmps82
       go_wp2_with (first|((with_reducible refine gate_dst (N:=1) rfl ?_);(try (refine gate_guard (by rfl) ?_;dsimp only));refine bxE (N:=1) (cs:=#[.int .i64 a0_0,.int .i64 a0_1,.int .i64 a0_2,.int .i64 a0_3,.int .i64 a0_4,.int .i64 a0_5,.string a0_6]) (t:=53) ?_;intro gb333 hg w14 hbox hb;have BK333:=aMk (hbox);have GW333:=aMk (bZ hg);have GE333:=aMk (bZ hg);replace HB:=aMk (bSt hb);clear hb hbox hg;obtain ⟨Z15_0,Z15_1,Z15_2,Z15_3,Z15_4,Z15_5,Z15_6,Y15_0,Y15_1,Y15_2,Y15_3,Y15_4,Y15_5,Y15_6⟩:=bC7 BK333.out)|((with_reducible refine gate_callee (f:=105) rfl ?_);refine gLs 5 Try.func105 #[.int .i64 a0_0] ?_;(with_reducible refine (spec_l02Port.calls a0_0 true _ A2.out).mono ?_);rintro e w' ⟨rfl,⟨nd,rfl⟩⟩;refine ⟨_,rfl,?_⟩)|(go_at_call 105;(with_reducible refine (spec_l02Port.calls a0_1 true _ A4.out).mono ?_);rintro e w' ⟨rfl,⟨nd,rfl⟩⟩)|(go_at_call 59;(with_reducible refine (spec_l01Ip.calls a0_2 true _ A6.out).mono ?_);rintro e w' ⟨rfl,⟨nd,rfl⟩⟩)|(go_at_call 59;(with_reducible refine (spec_l01Ip.calls a0_3 true _ A8.out).mono ?_);rintro e w' ⟨rfl,⟨nd,rfl⟩⟩)|(go_at_call 64;(with_reducible refine (spec_l01In.calls a0_4 0 31 true _ A10.out).mono ?_);rintro e w' ⟨rfl,⟨nd,rfl⟩⟩)|(go_at_call 105;(with_reducible refine (spec_l02Port.calls a0_5 true _ A12.out).mono ?_);rintro e w' ⟨rfl,⟨nd,rfl⟩⟩))
       go_ret
       exact ⟨eRf,bW⟩
      ·replace c13:=Bool.eq_false_iff.mpr c13
       subst c13
       have H1:=H
       rw [if_neg (show ¬ (false = true) by decide)] at H1
       clear H
       have H:=H1
       clear H1
       obtain rfl:=Option.some.inj H
       go_enter Try.func82,Try.ntmps82
       go_wp2_with (first|((with_reducible refine gate_dst (N:=1) rfl ?_);(try (refine gate_guard (by rfl) ?_;dsimp only));refine bxE (N:=1) (cs:=#[.int .i64 a0_0,.int .i64 a0_1,.int .i64 a0_2,.int .i64 a0_3,.int .i64 a0_4,.int .i64 a0_5,.string a0_6]) (t:=53) ?_;intro gb333 hg w16 hbox hb;have BK333:=aMk (hbox);have GW333:=aMk (bZ hg);have GE333:=aMk (bZ hg);replace HB:=aMk (bSt hb);clear hb hbox hg;obtain ⟨Z17_0,Z17_1,Z17_2,Z17_3,Z17_4,Z17_5,Z17_6,Y17_0,Y17_1,Y17_2,Y17_3,Y17_4,Y17_5,Y17_6⟩:=bC7 BK333.out)|((with_reducible refine gate_callee (f:=105) rfl ?_);refine gLs 5 Try.func105 #[.int .i64 a0_0] ?_;(with_reducible refine (spec_l02Port.calls a0_0 true _ A2.out).mono ?_);rintro e w' ⟨rfl,⟨nd,rfl⟩⟩;refine ⟨_,rfl,?_⟩)|(go_at_call 105;(with_reducible refine (spec_l02Port.calls a0_1 true _ A4.out).mono ?_);rintro e w' ⟨rfl,⟨nd,rfl⟩⟩)|(go_at_call 59;(with_reducible refine (spec_l01Ip.calls a0_2 true _ A6.out).mono ?_);rintro e w' ⟨rfl,⟨nd,rfl⟩⟩)|(go_at_call 59;(with_reducible refine (spec_l01Ip.calls a0_3 true _ A8.out).mono ?_);rintro e w' ⟨rfl,⟨nd,rfl⟩⟩)|(go_at_call 64;(with_reducible refine (spec_l01In.calls a0_4 0 31 true _ A10.out).mono ?_);rintro e w' ⟨rfl,⟨nd,rfl⟩⟩)|(go_at_call 105;(with_reducible refine (spec_l02Port.calls a0_5 false _ A12.out).mono ?_);rintro e w' ⟨rfl,⟨nd,rfl⟩⟩))
       go_ret
       exact ⟨eRf,bW⟩
     ·replace c11:=Bool.eq_false_iff.mpr c11
      subst c11
      have H1:=H
      rw [if_neg (show ¬ (false = true) by decide)] at H1
      clear H
      have H:=H1
      clear H1
      obtain rfl:=Option.some.inj H
      go_enter Try.func82,Try.ntmps82
      go_wp2_with (first|((with_reducible refine gate_dst (N:=1) rfl ?_);(try (refine gate_guard (by rfl) ?_;dsimp only));refine bxE (N:=1) (cs:=#[.int .i64 a0_0,.int .i64 a0_1,.int .i64 a0_2,.int .i64 a0_3,.int .i64 a0_4,.int .i64 a0_5,.string a0_6]) (t:=53) ?_;intro gb333 hg w18 hbox hb;have BK333:=aMk (hbox);have GW333:=aMk (bZ hg);have GE333:=aMk (bZ hg);replace HB:=aMk (bSt hb);clear hb hbox hg;obtain ⟨Z19_0,Z19_1,Z19_2,Z19_3,Z19_4,Z19_5,Z19_6,Y19_0,Y19_1,Y19_2,Y19_3,Y19_4,Y19_5,Y19_6⟩:=bC7 BK333.out)|((with_reducible refine gate_callee (f:=105) rfl ?_);refine gLs 5 Try.func105 #[.int .i64 a0_0] ?_;(with_reducible refine (spec_l02Port.calls a0_0 true _ A2.out).mono ?_);rintro e w' ⟨rfl,⟨nd,rfl⟩⟩;refine ⟨_,rfl,?_⟩)|(go_at_call 105;(with_reducible refine (spec_l02Port.calls a0_1 true _ A4.out).mono ?_);rintro e w' ⟨rfl,⟨nd,rfl⟩⟩)|(go_at_call 59;(with_reducible refine (spec_l01Ip.calls a0_2 true _ A6.out).mono ?_);rintro e w' ⟨rfl,⟨nd,rfl⟩⟩)|(go_at_call 59;(with_reducible refine (spec_l01Ip.calls a0_3 true _ A8.out).mono ?_);rintro e w' ⟨rfl,⟨nd,rfl⟩⟩)|(go_at_call 64;(with_reducible refine (spec_l01In.calls a0_4 0 31 false _ A10.out).mono ?_);rintro e w' ⟨rfl,⟨nd,rfl⟩⟩))
      go_ret
      exact ⟨eRf,bW⟩
    ·replace c9:=Bool.eq_false_iff.mpr c9
     subst c9
     have H1:=H
     rw [if_neg (show ¬ (false = true) by decide)] at H1
     clear H
     have H:=H1
     clear H1
     obtain rfl:=Option.some.inj H
     go_enter Try.func82,Try.ntmps82
     go_wp2_with (first|((with_reducible refine gate_dst (N:=1) rfl ?_);(try (refine gate_guard (by rfl) ?_;dsimp only));refine bxE (N:=1) (cs:=#[.int .i64 a0_0,.int .i64 a0_1,.int .i64 a0_2,.int .i64 a0_3,.int .i64 a0_4,.int .i64 a0_5,.string a0_6]) (t:=53) ?_;intro gb333 hg w20 hbox hb;have BK333:=aMk (hbox);have GW333:=aMk (bZ hg);have GE333:=aMk (bZ hg);replace HB:=aMk (bSt hb);clear hb hbox hg;obtain ⟨Z21_0,Z21_1,Z21_2,Z21_3,Z21_4,Z21_5,Z21_6,Y21_0,Y21_1,Y21_2,Y21_3,Y21_4,Y21_5,Y21_6⟩:=bC7 BK333.out)|((with_reducible refine gate_callee (f:=105) rfl ?_);refine gLs 5 Try.func105 #[.int .i64 a0_0] ?_;(with_reducible refine (spec_l02Port.calls a0_0 true _ A2.out).mono ?_);rintro e w' ⟨rfl,⟨nd,rfl⟩⟩;refine ⟨_,rfl,?_⟩)|(go_at_call 105;(with_reducible refine (spec_l02Port.calls a0_1 true _ A4.out).mono ?_);rintro e w' ⟨rfl,⟨nd,rfl⟩⟩)|(go_at_call 59;(with_reducible refine (spec_l01Ip.calls a0_2 true _ A6.out).mono ?_);rintro e w' ⟨rfl,⟨nd,rfl⟩⟩)|(go_at_call 59;(with_reducible refine (spec_l01Ip.calls a0_3 false _ A8.out).mono ?_);rintro e w' ⟨rfl,⟨nd,rfl⟩⟩))
     go_ret
     exact ⟨eRf,bW⟩
   ·replace c7:=Bool.eq_false_iff.mpr c7
    subst c7
    have H1:=H
    rw [if_neg (show ¬ (false = true) by decide)] at H1
    clear H
    have H:=H1
    clear H1
    obtain rfl:=Option.some.inj H
    go_enter Try.func82,Try.ntmps82
    go_wp2_with (first|((with_reducible refine gate_dst (N:=1) rfl ?_);(try (refine gate_guard (by rfl) ?_;dsimp only));refine bxE (N:=1) (cs:=#[.int .i64 a0_0,.int .i64 a0_1,.int .i64 a0_2,.int .i64 a0_3,.int .i64 a0_4,.int .i64 a0_5,.string a0_6]) (t:=53) ?_;intro gb333 hg w22 hbox hb;have BK333:=aMk (hbox);have GW333:=aMk (bZ hg);have GE333:=aMk (bZ hg);replace HB:=aMk (bSt hb);clear hb hbox hg;obtain ⟨Z23_0,Z23_1,Z23_2,Z23_3,Z23_4,Z23_5,Z23_6,Y23_0,Y23_1,Y23_2,Y23_3,Y23_4,Y23_5,Y23_6⟩:=bC7 BK333.out)|((with_reducible refine gate_callee (f:=105) rfl ?_);refine gLs 5 Try.func105 #[.int .i64 a0_0] ?_;(with_reducible refine (spec_l02Port.calls a0_0 true _ A2.out).mono ?_);rintro e w' ⟨rfl,⟨nd,rfl⟩⟩;refine ⟨_,rfl,?_⟩)|(go_at_call 105;(with_reducible refine (spec_l02Port.calls a0_1 true _ A4.out).mono ?_);rintro e w' ⟨rfl,⟨nd,rfl⟩⟩)|(go_at_call 59;(with_reducible refine (spec_l01Ip.calls a0_2 false _ A6.out).mono ?_);rintro e w' ⟨rfl,⟨nd,rfl⟩⟩))
    go_ret
    exact ⟨eRf,bW⟩
  ·replace c5:=Bool.eq_false_iff.mpr c5
   subst c5
   have H1:=H
   rw [if_neg (show ¬ (false = true) by decide)] at H1
   clear H
   have H:=H1
   clear H1
   obtain rfl:=Option.some.inj H
   go_enter Try.func82,Try.ntmps82
   go_wp2_with (first|((with_reducible refine gate_dst (N:=1) rfl ?_);(try (refine gate_guard (by rfl) ?_;dsimp only));refine bxE (N:=1) (cs:=#[.int .i64 a0_0,.int .i64 a0_1,.int .i64 a0_2,.int .i64 a0_3,.int .i64 a0_4,.int .i64 a0_5,.string a0_6]) (t:=53) ?_;intro gb333 hg w24 hbox hb;have BK333:=aMk (hbox);have GW333:=aMk (bZ hg);have GE333:=aMk (bZ hg);replace HB:=aMk (bSt hb);clear hb hbox hg;obtain ⟨Z25_0,Z25_1,Z25_2,Z25_3,Z25_4,Z25_5,Z25_6,Y25_0,Y25_1,Y25_2,Y25_3,Y25_4,Y25_5,Y25_6⟩:=bC7 BK333.out)|((with_reducible refine gate_callee (f:=105) rfl ?_);refine gLs 5 Try.func105 #[.int .i64 a0_0] ?_;(with_reducible refine (spec_l02Port.calls a0_0 true _ A2.out).mono ?_);rintro e w' ⟨rfl,⟨nd,rfl⟩⟩;refine ⟨_,rfl,?_⟩)|(go_at_call 105;(with_reducible refine (spec_l02Port.calls a0_1 false _ A4.out).mono ?_);rintro e w' ⟨rfl,⟨nd,rfl⟩⟩))
   go_ret
   exact ⟨eRf,bW⟩
 ·replace c3:=Bool.eq_false_iff.mpr c3
  subst c3
  have H1:=H
  rw [if_neg (show ¬ (false = true) by decide)] at H1
  clear H
  have H:=H1
  clear H1
  obtain rfl:=Option.some.inj H
  go_enter Try.func82,Try.ntmps82
  go_wp2_with (first|((with_reducible refine gate_dst (N:=1) rfl ?_);(try (refine gate_guard (by rfl) ?_;dsimp only));refine bxE (N:=1) (cs:=#[.int .i64 a0_0,.int .i64 a0_1,.int .i64 a0_2,.int .i64 a0_3,.int .i64 a0_4,.int .i64 a0_5,.string a0_6]) (t:=53) ?_;intro gb333 hg w26 hbox hb;have BK333:=aMk (hbox);have GW333:=aMk (bZ hg);have GE333:=aMk (bZ hg);replace HB:=aMk (bSt hb);clear hb hbox hg;obtain ⟨Z27_0,Z27_1,Z27_2,Z27_3,Z27_4,Z27_5,Z27_6,Y27_0,Y27_1,Y27_2,Y27_3,Y27_4,Y27_5,Y27_6⟩:=bC7 BK333.out)|((with_reducible refine gate_callee (f:=105) rfl ?_);refine gLs 5 Try.func105 #[.int .i64 a0_0] ?_;(with_reducible refine (spec_l02Port.calls a0_0 false _ A2.out).mono ?_);rintro e w' ⟨rfl,⟨nd,rfl⟩⟩;refine ⟨_,rfl,?_⟩))
  go_ret
  exact ⟨eRf,bW⟩
end
section
/-! ### spec_ConnTake: function 57 -/
def spec_ConnTake.f (k:Nat) (a0_0:ByteArray) (a0_1 a0_2:Int) (a0_3 a0_4:Int) (a0_5 a0_6 a0_7:Int) (a0_8 a0_9:ByteArray) (a0_10:Bool) (a1_0 a1_1:Int) (a1_2 a1_3:Int) (a1_4 a1_5:Int) (a1_6:ByteArray):Option (ByteArray × Int × Int × Int × Int × Int × Int × Int × ByteArray × ByteArray × Bool × (List (S53)) × Int):=(spec_ConnOK.f k a0_0 a0_1 a0_2 a0_3 a0_4 a0_5 a0_6 a0_7 a0_8 a0_9 a0_10).bind fun t1216 => (if t1216 = true then ((spec_l02Segment.f a1_0 a1_1 a1_2 a1_3 a1_4 a1_5 a1_6).bind fun t1217 => (if t1217 = true then ((spec_l10Take.f k a0_0 a0_1 a0_2 a0_3 a0_4 a0_5 a0_6 a0_7 a0_8 a0_9 a0_10 a1_0 a1_1 a1_2 a1_3 a1_4 a1_5 a1_6).bind fun bt1218 => (some (bt1218.1,bt1218.2.1,bt1218.2.2.1,bt1218.2.2.2.1,bt1218.2.2.2.2.1,bt1218.2.2.2.2.2.1,bt1218.2.2.2.2.2.2.1,bt1218.2.2.2.2.2.2.2.1,bt1218.2.2.2.2.2.2.2.2.1,bt1218.2.2.2.2.2.2.2.2.2.1,bt1218.2.2.2.2.2.2.2.2.2.2.1,bt1218.2.2.2.2.2.2.2.2.2.2.2,0))) else (some ((⟨#[]⟩:ByteArray),0,0,0,0,0,0,0,(⟨#[]⟩:ByteArray),(⟨#[]⟩:ByteArray),false,(([]:List (S53))),1)))) else (some ((⟨#[]⟩:ByteArray),0,0,0,0,0,0,0,(⟨#[]⟩:ByteArray),(⟨#[]⟩:ByteArray),false,(([]:List (S53))),1)))
theorem spec_ConnTake.mono:∀ a0 a1 a2 a3 a4 a5 a6 a7 a8 a9 a10 a11 a12 a13 a14 a15 a16 a17 k,LeO (spec_ConnTake.f k a0 a1 a2 a3 a4 a5 a6 a7 a8 a9 a10 a11 a12 a13 a14 a15 a16 a17) (spec_ConnTake.f (k + 1) a0 a1 a2 a3 a4 a5 a6 a7 a8 a9 a10 a11 a12 a13 a14 a15 a16 a17):=by
 intro a0 a1 a2 a3 a4 a5 a6 a7 a8 a9 a10 a11 a12 a13 a14 a15 a16 a17 k
 unfold spec_ConnTake.f
 repeat' first
   | (with_reducible exact spec_ConnOK.mono ..)
   | (with_reducible exact spec_l10Take.mono ..)
   | (with_reducible exact LeO.refl _)
   | (with_reducible exact LeO.none _)
   | (with_reducible refine LeO.ite ?_ ?_)
   | (with_reducible refine LeO.bind ?_ (fun _ => ?_))
   | exact spec_ConnOK.mono ..
   | exact spec_l10Take.mono ..
   | exact LeO.none _
   | refine LeO.ite ?_ ?_
   | refine LeO.bind ?_ (fun _ => ?_)
set_option maxHeartbeats 8000000 in
set_option maxRecDepth 100000 in
theorem spec_ConnTake.calls (k:Nat) (a0_0:ByteArray) (a0_1 a0_2:Int) (a0_3 a0_4:Int) (a0_5 a0_6 a0_7:Int) (a0_8 a0_9:ByteArray) (a0_10:Bool) (a1_0 a1_1:Int) (a1_2 a1_3:Int) (a1_4 a1_5:Int) (a1_6 r1:ByteArray) (r2 r3:Int) (r4 r5:Int) (r6 r7 r8:Int) (r9 r10:ByteArray) (r11:Bool) (r12:List (S53)) (r13:Int) (w:World) (h:spec_ConnTake.f k a0_0 a0_1 a0_2 a0_3 a0_4 a0_5 a0_6 a0_7 a0_8 a0_9 a0_10 a1_0 a1_1 a1_2 a1_3 a1_4 a1_5 a1_6 = some (r1,r2,r3,r4,r5,r6,r7,r8,r9,r10,r11,r12,r13)) :
  Calls Try.prog 57 #[.agg #[.string a0_0,.int .i64 a0_1,.int .i64 a0_2,.int .i64 a0_3,.int .i64 a0_4,.int .i64 a0_5,.int .i64 a0_6,.int .i64 a0_7,.string a0_8,.string a0_9,.bool a0_10],.agg #[.int .i64 a1_0,.int .i64 a1_1,.int .i64 a1_2,.int .i64 a1_3,.int .i64 a1_4,.int .i64 a1_5,.string a1_6]] w fun e w' => ∃ v11_:Value,e = .returned (.tuple #[.agg #[.string r1,.int .i64 r2,.int .i64 r3,.int .i64 r4,.int .i64 r5,.int .i64 r6,.int .i64 r7,.int .i64 r8,.string r9,.string r10,.bool r11],v11_,.int .i64 r13])∧Kd.R k53 53 w' w.heap.size (fun _ => True) v11_ r12∧Below w.heap.size w w':=by
 have hu34:=Try.underlying34
 have hu53:=Try.underlying53
 have HB:=aMk (Below.refl w.heap.size w)
 have H:=h
 unfold spec_ConnTake.f at H
 clear h
 replace H:=Option.bind_eq_some_iff.mp H
 obtain ⟨t1216,A30,H⟩:=H
 try dsimp only at H
 have A3:=aMk A30
 clear A30
 by_cases c4:t1216 = true
 ·subst c4
  have H1:=H
  rw [if_pos rfl] at H1
  clear H
  have H:=H1
  clear H1
  replace H:=Option.bind_eq_some_iff.mp H
  obtain ⟨t1217,A50,H⟩:=H
  try dsimp only at H
  have A5:=aMk A50
  clear A50
  by_cases c6:t1217 = true
  ·subst c6
   have H1:=H
   rw [if_pos rfl] at H1
   clear H
   have H:=H1
   clear H1
   replace H:=Option.bind_eq_some_iff.mp H
   obtain ⟨⟨t1218,t1219,t1220,t1221,t1222,t1223,t1224,t1225,t1226,t1227,t1228,t1229⟩,A70,H⟩:=H
   try dsimp only at H
   have A7:=aMk A70
   clear A70
   simp only [Option.some.injEq,Prod.mk.injEq] at H
   obtain ⟨rfl,rfl,rfl,rfl,rfl,rfl,rfl,rfl,rfl,rfl,rfl,rfl,rfl⟩:=H
   go_enter Try.func57,Try.ntmps57
   go_wp2_with (first|((with_reducible refine gate_dst (N:=2) rfl ?_);refine bxE (N:=2) (cs:=#[.string a0_0,.int .i64 a0_1,.int .i64 a0_2,.int .i64 a0_3,.int .i64 a0_4,.int .i64 a0_5,.int .i64 a0_6,.int .i64 a0_7,.string a0_8,.string a0_9,.bool a0_10]) (t:=34) ?_;intro gb1213 hg w8 hbox hb;have BK1213:=aMk (hbox);have GW1213:=aMk (bZ hg);have GE1213:=aMk (bZ hg);replace HB:=aMk (bSt hb);clear hb hbox hg)|((with_reducible refine gate_dst (N:=3) rfl ?_);refine bxE (N:=3) (cs:=#[.int .i64 a1_0,.int .i64 a1_1,.int .i64 a1_2,.int .i64 a1_3,.int .i64 a1_4,.int .i64 a1_5,.string a1_6]) (t:=53) ?_;intro gb1214 hg w9 hbox hb;have BK1214:=aMk (hbox);have GW1214:=aMk (bG bW hg);have GE1214:=aMk (bG bW hg);replace HB:=aMk (bU hb);have NB1213_1214:=aMk ((bkL BK1213.out hg:gb1213 ≠ gb1214));have NB1214_1213:=aMk ((bkG BK1213.out hg:gb1214 ≠ gb1213));replace BK1213:=aMk (bkB BK1213.out hb);clear hb hbox hg)|((with_reducible refine gate_dst (N:=4) rfl ?_);refine bxE (N:=4) (cs:=#[.string (⟨#[]⟩:ByteArray),.int .i64 0,.int .i64 0,.int .i64 0,.int .i64 0,.int .i64 0,.int .i64 0,.int .i64 0,.string (⟨#[]⟩:ByteArray),.string (⟨#[]⟩:ByteArray),.bool false]) (t:=34) ?_;intro gb1215 hg w10 hbox hb;have BK1215:=aMk (hbox);have GW1215:=aMk (bG bW hg);have GE1215:=aMk (bG bW hg);replace HB:=aMk (bU hb);have NB1213_1215:=aMk ((bkL BK1213.out hg:gb1213 ≠ gb1215));have NB1215_1213:=aMk ((bkG BK1213.out hg:gb1215 ≠ gb1213));replace BK1213:=aMk (bkB BK1213.out hb);have NB1214_1215:=aMk ((bkL BK1214.out hg:gb1214 ≠ gb1215));have NB1215_1214:=aMk ((bkG BK1214.out hg:gb1215 ≠ gb1214));replace BK1214:=aMk (bkB BK1214.out hb);clear hb hbox hg;have hnb11:=NB1213_1214.out;have hnc11:=NB1214_1213.out;have hnb12:=NB1213_1215.out;have hnc12:=NB1215_1213.out;obtain ⟨Z13_0,Z13_1,Z13_2,Z13_3,Z13_4,Z13_5,Z13_6,Z13_7,Z13_8,Z13_9,Z13_10,Y13_0,Y13_1,Y13_2,Y13_3,Y13_4,Y13_5,Y13_6,Y13_7,Y13_8,Y13_9,Y13_10⟩:=bC11 BK1213.out)|((with_reducible refine gate_callee (f:=23) rfl ?_);refine gLs 10 Try.func23 #[.agg #[.string a0_0,.int .i64 a0_1,.int .i64 a0_2,.int .i64 a0_3,.int .i64 a0_4,.int .i64 a0_5,.int .i64 a0_6,.int .i64 a0_7,.string a0_8,.string a0_9,.bool a0_10]] ?_;(with_reducible refine (spec_ConnOK.calls k a0_0 a0_1 a0_2 a0_3 a0_4 a0_5 a0_6 a0_7 a0_8 a0_9 a0_10 true _ A3.out).mono ?_);rintro e w14 ⟨rfl,hb⟩;refine ⟨_,rfl,?_⟩;replace BK1213:=aMk (bkB BK1213.out hb);replace BK1214:=aMk (bkB BK1214.out hb);replace BK1215:=aMk (bkB BK1215.out hb);replace HB:=aMk (bU hb);have hnb15:=NB1214_1215.out;have hnc15:=NB1215_1214.out;obtain ⟨Z16_0,Z16_1,Z16_2,Z16_3,Z16_4,Z16_5,Z16_6,Y16_0,Y16_1,Y16_2,Y16_3,Y16_4,Y16_5,Y16_6⟩:=bC7 BK1214.out)|(go_at_call 82;(with_reducible refine (spec_l02Segment.calls a1_0 a1_1 a1_2 a1_3 a1_4 a1_5 a1_6 true _ A5.out).mono ?_);rintro e w17 ⟨rfl,hb⟩;replace BK1213:=aMk (bkB BK1213.out hb);replace BK1214:=aMk (bkB BK1214.out hb);replace BK1215:=aMk (bkB BK1215.out hb);replace HB:=aMk (bU hb);obtain ⟨Z18_0,Z18_1,Z18_2,Z18_3,Z18_4,Z18_5,Z18_6,Z18_7,Z18_8,Z18_9,Z18_10,Y18_0,Y18_1,Y18_2,Y18_3,Y18_4,Y18_5,Y18_6,Y18_7,Y18_8,Y18_9,Y18_10⟩:=bC11 BK1213.out;obtain ⟨Z19_0,Z19_1,Z19_2,Z19_3,Z19_4,Z19_5,Z19_6,Y19_0,Y19_1,Y19_2,Y19_3,Y19_4,Y19_5,Y19_6⟩:=bC7 BK1214.out)|((with_reducible refine gate_callee (f:=103) rfl ?_);refine gLs 22 Try.func103 #[.agg #[.string a0_0,.int .i64 a0_1,.int .i64 a0_2,.int .i64 a0_3,.int .i64 a0_4,.int .i64 a0_5,.int .i64 a0_6,.int .i64 a0_7,.string a0_8,.string a0_9,.bool a0_10],.agg #[.int .i64 a1_0,.int .i64 a1_1,.int .i64 a1_2,.int .i64 a1_3,.int .i64 a1_4,.int .i64 a1_5,.string a1_6]] ?_;(with_reducible refine (spec_l10Take.calls k a0_0 a0_1 a0_2 a0_3 a0_4 a0_5 a0_6 a0_7 a0_8 a0_9 a0_10 a1_0 a1_1 a1_2 a1_3 a1_4 a1_5 a1_6 t1218 t1219 t1220 t1221 t1222 t1223 t1224 t1225 t1226 t1227 t1228 t1229 _ A7.out).mono ?_);rintro e w20 ⟨v1230,rfl,ho0,hb⟩;refine ⟨_,rfl,?_⟩;have HO1231:=aMk (Kd.R_lower (Kd.R_newB ho0 (g:=gb1214) (o:=.cells #[.int .i64 a1_0,.int .i64 a1_1,.int .i64 a1_2,.int .i64 a1_3,.int .i64 a1_4,.int .i64 a1_5,.string a1_6] 53 (0,0)) (pB BK1214.out)) (below_size bW));replace BK1213:=aMk (bkB BK1213.out hb);replace BK1214:=aMk (bkB BK1214.out hb);replace BK1215:=aMk (bkB BK1215.out hb);replace HB:=aMk (bU hb);(try clear ho0))|((with_reducible refine gate_dst (N:=7) rfl ?_);refine bxE (N:=7) (cs:=#[.string (⟨#[]⟩:ByteArray),.int .i64 0,.int .i64 0,.int .i64 0,.int .i64 0,.int .i64 0,.int .i64 0,.int .i64 0,.string (⟨#[]⟩:ByteArray),.string (⟨#[]⟩:ByteArray),.bool false]) (t:=34) ?_;intro gb1232 hg w21 hbox hb;replace HO1231:=aMk (Kd.R_below (kR (HO1231.out)) hb);have BK1232:=aMk (hbox);have GW1232:=aMk (bG bW hg);have GE1232:=aMk (bG bW hg);replace HB:=aMk (bU hb);have NB1213_1232:=aMk ((bkL BK1213.out hg:gb1213 ≠ gb1232));have NB1232_1213:=aMk ((bkG BK1213.out hg:gb1232 ≠ gb1213));replace BK1213:=aMk (bkB BK1213.out hb);have NB1214_1232:=aMk ((bkL BK1214.out hg:gb1214 ≠ gb1232));have NB1232_1214:=aMk ((bkG BK1214.out hg:gb1232 ≠ gb1214));replace BK1214:=aMk (bkB BK1214.out hb);have NB1215_1232:=aMk ((bkL BK1215.out hg:gb1215 ≠ gb1232));have NB1232_1215:=aMk ((bkG BK1215.out hg:gb1232 ≠ gb1215));replace BK1215:=aMk (bkB BK1215.out hb);clear hb hbox hg;have hnb22:=NB1232_1213.out;have hnc22:=NB1213_1232.out;have hnb23:=NB1232_1214.out;have hnc23:=NB1214_1232.out;have hnb24:=NB1232_1215.out;have hnc24:=NB1215_1232.out;obtain ⟨Z25_0,Z25_1,Z25_2,Z25_3,Z25_4,Z25_5,Z25_6,Z25_7,Z25_8,Z25_9,Z25_10,Y25_0,Y25_1,Y25_2,Y25_3,Y25_4,Y25_5,Y25_6,Y25_7,Y25_8,Y25_9,Y25_10⟩:=bC11 BK1232.out;obtain ⟨Z26_0,Z26_1,Z26_2,Z26_3,Z26_4,Z26_5,Z26_6,Z26_7,Z26_8,Z26_9,Z26_10,Y26_0,Y26_1,Y26_2,Y26_3,Y26_4,Y26_5,Y26_6,Y26_7,Y26_8,Y26_9,Y26_10⟩:=bC11 BK1215.out))
   refine bodyPost_ret (results_ctt rfl _ _ gb1215 34 #[.string t1218,.int .i64 t1219,.int .i64 t1220,.int .i64 t1221,.int .i64 t1222,.int .i64 t1223,.int .i64 t1224,.int .i64 t1225,.string t1226,.string t1227,.bool t1228] (0,0) _ rfl (by refine pB ?_;refine blk_put (cs:=#[.string t1218,.int .i64 t1219,.int .i64 t1220,.int .i64 t1221,.int .i64 t1222,.int .i64 t1223,.int .i64 t1224,.int .i64 t1225,.string t1226,.string t1227,.bool false]) ?_ 10 _ rfl;refine pB ?_;refine blk_put (cs:=#[.string t1218,.int .i64 t1219,.int .i64 t1220,.int .i64 t1221,.int .i64 t1222,.int .i64 t1223,.int .i64 t1224,.int .i64 t1225,.string t1226,.string (⟨#[]⟩:ByteArray),.bool false]) ?_ 9 _ rfl;refine pB ?_;refine blk_put (cs:=#[.string t1218,.int .i64 t1219,.int .i64 t1220,.int .i64 t1221,.int .i64 t1222,.int .i64 t1223,.int .i64 t1224,.int .i64 t1225,.string (⟨#[]⟩:ByteArray),.string (⟨#[]⟩:ByteArray),.bool false]) ?_ 8 _ rfl;refine pB ?_;refine blk_put (cs:=#[.string t1218,.int .i64 t1219,.int .i64 t1220,.int .i64 t1221,.int .i64 t1222,.int .i64 t1223,.int .i64 t1224,.int .i64 0,.string (⟨#[]⟩:ByteArray),.string (⟨#[]⟩:ByteArray),.bool false]) ?_ 7 _ rfl;refine pB ?_;refine blk_put (cs:=#[.string t1218,.int .i64 t1219,.int .i64 t1220,.int .i64 t1221,.int .i64 t1222,.int .i64 t1223,.int .i64 0,.int .i64 0,.string (⟨#[]⟩:ByteArray),.string (⟨#[]⟩:ByteArray),.bool false]) ?_ 6 _ rfl;refine pB ?_;refine blk_put (cs:=#[.string t1218,.int .i64 t1219,.int .i64 t1220,.int .i64 t1221,.int .i64 t1222,.int .i64 0,.int .i64 0,.int .i64 0,.string (⟨#[]⟩:ByteArray),.string (⟨#[]⟩:ByteArray),.bool false]) ?_ 5 _ rfl;refine pB ?_;refine blk_put (cs:=#[.string t1218,.int .i64 t1219,.int .i64 t1220,.int .i64 t1221,.int .i64 0,.int .i64 0,.int .i64 0,.int .i64 0,.string (⟨#[]⟩:ByteArray),.string (⟨#[]⟩:ByteArray),.bool false]) ?_ 4 _ rfl;refine pB ?_;refine blk_put (cs:=#[.string t1218,.int .i64 t1219,.int .i64 t1220,.int .i64 0,.int .i64 0,.int .i64 0,.int .i64 0,.int .i64 0,.string (⟨#[]⟩:ByteArray),.string (⟨#[]⟩:ByteArray),.bool false]) ?_ 3 _ rfl;refine pB ?_;refine blk_put (cs:=#[.string t1218,.int .i64 t1219,.int .i64 0,.int .i64 0,.int .i64 0,.int .i64 0,.int .i64 0,.int .i64 0,.string (⟨#[]⟩:ByteArray),.string (⟨#[]⟩:ByteArray),.bool false]) ?_ 2 _ rfl;refine pB ?_;refine blk_put (cs:=#[.string t1218,.int .i64 0,.int .i64 0,.int .i64 0,.int .i64 0,.int .i64 0,.int .i64 0,.int .i64 0,.string (⟨#[]⟩:ByteArray),.string (⟨#[]⟩:ByteArray),.bool false]) ?_ 1 _ rfl;refine pB ?_;refine blk_put (cs:=#[.string (⟨#[]⟩:ByteArray),.int .i64 0,.int .i64 0,.int .i64 0,.int .i64 0,.int .i64 0,.int .i64 0,.int .i64 0,.string (⟨#[]⟩:ByteArray),.string (⟨#[]⟩:ByteArray),.bool false]) ?_ 0 _ rfl;refine pB ?_;refine blk_far ?_ NB1215_1232.out _;refine pB ?_;refine blk_far ?_ NB1215_1232.out _;refine pB ?_;refine blk_far ?_ NB1215_1232.out _;refine pB ?_;refine blk_far ?_ NB1215_1232.out _;refine pB ?_;refine blk_far ?_ NB1215_1232.out _;refine pB ?_;refine blk_far ?_ NB1215_1232.out _;refine pB ?_;refine blk_far ?_ NB1215_1232.out _;refine pB ?_;refine blk_far ?_ NB1215_1232.out _;refine pB ?_;refine blk_far ?_ NB1215_1232.out _;refine pB ?_;refine blk_far ?_ NB1215_1232.out _;refine pB ?_;refine blk_far ?_ NB1215_1232.out _;refine pB ?_;exact BK1215.out) Try.underlying34 rfl (by kernel_rfl)) rfl ?_
   exact ⟨_,eRf,kR (Kd.R_mono (Kd.R_far (p:=⟨gb1215,10,none⟩) (Kd.R_far (p:=⟨gb1215,9,none⟩) (Kd.R_far (p:=⟨gb1215,8,none⟩) (Kd.R_far (p:=⟨gb1215,7,none⟩) (Kd.R_far (p:=⟨gb1215,6,none⟩) (Kd.R_far (p:=⟨gb1215,5,none⟩) (Kd.R_far (p:=⟨gb1215,4,none⟩) (Kd.R_far (p:=⟨gb1215,3,none⟩) (Kd.R_far (p:=⟨gb1215,2,none⟩) (Kd.R_far (p:=⟨gb1215,1,none⟩) (Kd.R_far (p:=⟨gb1215,0,none⟩) (Kd.R_far (p:=⟨gb1232,10,none⟩) (Kd.R_far (p:=⟨gb1232,9,none⟩) (Kd.R_far (p:=⟨gb1232,8,none⟩) (Kd.R_far (p:=⟨gb1232,7,none⟩) (Kd.R_far (p:=⟨gb1232,6,none⟩) (Kd.R_far (p:=⟨gb1232,5,none⟩) (Kd.R_far (p:=⟨gb1232,4,none⟩) (Kd.R_far (p:=⟨gb1232,3,none⟩) (Kd.R_far (p:=⟨gb1232,2,none⟩) (Kd.R_far (p:=⟨gb1232,1,none⟩) (Kd.R_far (p:=⟨gb1232,0,none⟩) (Kd.R_types (Kd.R_types HO1231.out BK1232.out (by decide)) BK1215.out (by decide)) (fun _ hk => hk.1.2) (.string t1218)) (fun _ hk => hk.1.2) (.int .i64 t1219)) (fun _ hk => hk.1.2) (.int .i64 t1220)) (fun _ hk => hk.1.2) (.int .i64 t1221)) (fun _ hk => hk.1.2) (.int .i64 t1222)) (fun _ hk => hk.1.2) (.int .i64 t1223)) (fun _ hk => hk.1.2) (.int .i64 t1224)) (fun _ hk => hk.1.2) (.int .i64 t1225)) (fun _ hk => hk.1.2) (.string t1226)) (fun _ hk => hk.1.2) (.string t1227)) (fun _ hk => hk.1.2) (.bool t1228)) (fun _ hk => hk.2) (.string t1218)) (fun _ hk => hk.2) (.int .i64 t1219)) (fun _ hk => hk.2) (.int .i64 t1220)) (fun _ hk => hk.2) (.int .i64 t1221)) (fun _ hk => hk.2) (.int .i64 t1222)) (fun _ hk => hk.2) (.int .i64 t1223)) (fun _ hk => hk.2) (.int .i64 t1224)) (fun _ hk => hk.2) (.int .i64 t1225)) (fun _ hk => hk.2) (.string t1226)) (fun _ hk => hk.2) (.string t1227)) (fun _ hk => hk.2) (.bool t1228)) (fun _ hk => trivial)),bW⟩
  ·replace c6:=Bool.eq_false_iff.mpr c6
   subst c6
   have H1:=H
   rw [if_neg (show ¬ (false = true) by decide)] at H1
   clear H
   have H:=H1
   clear H1
   obtain ⟨y1233,hy1233⟩:∃ y_:List (S53),y_ = (([]:List (S53))):=⟨_,rfl⟩
   replace H:(some ((⟨#[]⟩:ByteArray),0,0,0,0,0,0,0,(⟨#[]⟩:ByteArray),(⟨#[]⟩:ByteArray),false,y1233,1)) = some (r1,r2,r3,r4,r5,r6,r7,r8,r9,r10,r11,r12,r13):=by first|(rw [hy1233];with_reducible exact H)|(have H2_:=(Option.bind_some _ _).symm.trans H;rw [hy1233];with_reducible exact H2_)|(have H2_:=(Option.bind_some _ _).symm.trans H;with_reducible exact H2_) | with_reducible exact H|(rw [hy1233];exact H)|exact H
   have Ny1233:=aMk hy1233
   clear hy1233
   simp only [Option.some.injEq,Prod.mk.injEq] at H
   obtain ⟨rfl,rfl,rfl,rfl,rfl,rfl,rfl,rfl,rfl,rfl,rfl,rfl,rfl⟩:=H
   go_enter Try.func57,Try.ntmps57
   go_wp2_with (first|((with_reducible refine gate_dst (N:=2) rfl ?_);refine bxE (N:=2) (cs:=#[.string a0_0,.int .i64 a0_1,.int .i64 a0_2,.int .i64 a0_3,.int .i64 a0_4,.int .i64 a0_5,.int .i64 a0_6,.int .i64 a0_7,.string a0_8,.string a0_9,.bool a0_10]) (t:=34) ?_;intro gb1213 hg w27 hbox hb;have BK1213:=aMk (hbox);have GW1213:=aMk (bZ hg);have GE1213:=aMk (bZ hg);replace HB:=aMk (bSt hb);clear hb hbox hg)|((with_reducible refine gate_dst (N:=3) rfl ?_);refine bxE (N:=3) (cs:=#[.int .i64 a1_0,.int .i64 a1_1,.int .i64 a1_2,.int .i64 a1_3,.int .i64 a1_4,.int .i64 a1_5,.string a1_6]) (t:=53) ?_;intro gb1214 hg w28 hbox hb;have BK1214:=aMk (hbox);have GW1214:=aMk (bG bW hg);have GE1214:=aMk (bG bW hg);replace HB:=aMk (bU hb);have NB1213_1214:=aMk ((bkL BK1213.out hg:gb1213 ≠ gb1214));have NB1214_1213:=aMk ((bkG BK1213.out hg:gb1214 ≠ gb1213));replace BK1213:=aMk (bkB BK1213.out hb);clear hb hbox hg)|((with_reducible refine gate_dst (N:=4) rfl ?_);refine bxE (N:=4) (cs:=#[.string (⟨#[]⟩:ByteArray),.int .i64 0,.int .i64 0,.int .i64 0,.int .i64 0,.int .i64 0,.int .i64 0,.int .i64 0,.string (⟨#[]⟩:ByteArray),.string (⟨#[]⟩:ByteArray),.bool false]) (t:=34) ?_;intro gb1215 hg w29 hbox hb;have BK1215:=aMk (hbox);have GW1215:=aMk (bG bW hg);have GE1215:=aMk (bG bW hg);replace HB:=aMk (bU hb);have NB1213_1215:=aMk ((bkL BK1213.out hg:gb1213 ≠ gb1215));have NB1215_1213:=aMk ((bkG BK1213.out hg:gb1215 ≠ gb1213));replace BK1213:=aMk (bkB BK1213.out hb);have NB1214_1215:=aMk ((bkL BK1214.out hg:gb1214 ≠ gb1215));have NB1215_1214:=aMk ((bkG BK1214.out hg:gb1215 ≠ gb1214));replace BK1214:=aMk (bkB BK1214.out hb);clear hb hbox hg;have hnb30:=NB1213_1214.out;have hnc30:=NB1214_1213.out;have hnb31:=NB1213_1215.out;have hnc31:=NB1215_1213.out;obtain ⟨Z32_0,Z32_1,Z32_2,Z32_3,Z32_4,Z32_5,Z32_6,Z32_7,Z32_8,Z32_9,Z32_10,Y32_0,Y32_1,Y32_2,Y32_3,Y32_4,Y32_5,Y32_6,Y32_7,Y32_8,Y32_9,Y32_10⟩:=bC11 BK1213.out)|((with_reducible refine gate_callee (f:=23) rfl ?_);refine gLs 10 Try.func23 #[.agg #[.string a0_0,.int .i64 a0_1,.int .i64 a0_2,.int .i64 a0_3,.int .i64 a0_4,.int .i64 a0_5,.int .i64 a0_6,.int .i64 a0_7,.string a0_8,.string a0_9,.bool a0_10]] ?_;(with_reducible refine (spec_ConnOK.calls k a0_0 a0_1 a0_2 a0_3 a0_4 a0_5 a0_6 a0_7 a0_8 a0_9 a0_10 true _ A3.out).mono ?_);rintro e w33 ⟨rfl,hb⟩;refine ⟨_,rfl,?_⟩;replace BK1213:=aMk (bkB BK1213.out hb);replace BK1214:=aMk (bkB BK1214.out hb);replace BK1215:=aMk (bkB BK1215.out hb);replace HB:=aMk (bU hb);have hnb34:=NB1214_1215.out;have hnc34:=NB1215_1214.out;obtain ⟨Z35_0,Z35_1,Z35_2,Z35_3,Z35_4,Z35_5,Z35_6,Y35_0,Y35_1,Y35_2,Y35_3,Y35_4,Y35_5,Y35_6⟩:=bC7 BK1214.out)|(go_at_call 82;(with_reducible refine (spec_l02Segment.calls a1_0 a1_1 a1_2 a1_3 a1_4 a1_5 a1_6 false _ A5.out).mono ?_);rintro e w36 ⟨rfl,hb⟩;replace BK1213:=aMk (bkB BK1213.out hb);replace BK1214:=aMk (bkB BK1214.out hb);replace BK1215:=aMk (bkB BK1215.out hb);replace HB:=aMk (bU hb))|((with_reducible refine gate_dst (N:=18) rfl ?_);refine Kd.R_lit k53 _ 53 ?hg (N:=18) ?hd (xs:=([]:List (S53))) (inner:=[]) (ok:=fun _ => True) (okp:=fun _ => True) ?hr ?hp (fun _ hk => hk) trivial (Below.refl _ _) (Nat.le_refl _) (by simp) ?_;(case hd => rfl);(case hg => rfl);(case hr => first|(go_simp;done)|(go_simp;rfl));(case hp => exact (Reps.none _ _));intro v1234 w37 ho38 hb hg_ hnew_;clear hg_ hnew_;(first|rw [← Ny1233.out] at ho38|(simp only [Int.reduceToNat] at ho38;rw [← Ny1233.out] at ho38));have HO1235:=aMk (Kd.R_lower (Kd.R_newB ho38 (g:=gb1214) (o:=.cells #[.int .i64 a1_0,.int .i64 a1_1,.int .i64 a1_2,.int .i64 a1_3,.int .i64 a1_4,.int .i64 a1_5,.string a1_6] 53 (0,0)) (pB BK1214.out)) (below_size bW));replace BK1213:=aMk (bkB BK1213.out hb);replace BK1214:=aMk (bkB BK1214.out hb);replace BK1215:=aMk (bkB BK1215.out hb);replace HB:=aMk (bU hb);clear hb ho38;obtain ⟨Z39_0,Z39_1,Z39_2,Z39_3,Z39_4,Z39_5,Z39_6,Z39_7,Z39_8,Z39_9,Z39_10,Y39_0,Y39_1,Y39_2,Y39_3,Y39_4,Y39_5,Y39_6,Y39_7,Y39_8,Y39_9,Y39_10⟩:=bC11 BK1215.out))
   refine bodyPost_ret (results_ctt rfl _ _ gb1215 34 #[.string (⟨#[]⟩:ByteArray),.int .i64 0,.int .i64 0,.int .i64 0,.int .i64 0,.int .i64 0,.int .i64 0,.int .i64 0,.string (⟨#[]⟩:ByteArray),.string (⟨#[]⟩:ByteArray),.bool false] (0,0) _ rfl (by refine pB ?_;refine blk_put (cs:=#[.string (⟨#[]⟩:ByteArray),.int .i64 0,.int .i64 0,.int .i64 0,.int .i64 0,.int .i64 0,.int .i64 0,.int .i64 0,.string (⟨#[]⟩:ByteArray),.string (⟨#[]⟩:ByteArray),.bool false]) ?_ 10 _ rfl;refine pB ?_;refine blk_put (cs:=#[.string (⟨#[]⟩:ByteArray),.int .i64 0,.int .i64 0,.int .i64 0,.int .i64 0,.int .i64 0,.int .i64 0,.int .i64 0,.string (⟨#[]⟩:ByteArray),.string (⟨#[]⟩:ByteArray),.bool false]) ?_ 9 _ rfl;refine pB ?_;refine blk_put (cs:=#[.string (⟨#[]⟩:ByteArray),.int .i64 0,.int .i64 0,.int .i64 0,.int .i64 0,.int .i64 0,.int .i64 0,.int .i64 0,.string (⟨#[]⟩:ByteArray),.string (⟨#[]⟩:ByteArray),.bool false]) ?_ 8 _ rfl;refine pB ?_;refine blk_put (cs:=#[.string (⟨#[]⟩:ByteArray),.int .i64 0,.int .i64 0,.int .i64 0,.int .i64 0,.int .i64 0,.int .i64 0,.int .i64 0,.string (⟨#[]⟩:ByteArray),.string (⟨#[]⟩:ByteArray),.bool false]) ?_ 7 _ rfl;refine pB ?_;refine blk_put (cs:=#[.string (⟨#[]⟩:ByteArray),.int .i64 0,.int .i64 0,.int .i64 0,.int .i64 0,.int .i64 0,.int .i64 0,.int .i64 0,.string (⟨#[]⟩:ByteArray),.string (⟨#[]⟩:ByteArray),.bool false]) ?_ 6 _ rfl;refine pB ?_;refine blk_put (cs:=#[.string (⟨#[]⟩:ByteArray),.int .i64 0,.int .i64 0,.int .i64 0,.int .i64 0,.int .i64 0,.int .i64 0,.int .i64 0,.string (⟨#[]⟩:ByteArray),.string (⟨#[]⟩:ByteArray),.bool false]) ?_ 5 _ rfl;refine pB ?_;refine blk_put (cs:=#[.string (⟨#[]⟩:ByteArray),.int .i64 0,.int .i64 0,.int .i64 0,.int .i64 0,.int .i64 0,.int .i64 0,.int .i64 0,.string (⟨#[]⟩:ByteArray),.string (⟨#[]⟩:ByteArray),.bool false]) ?_ 4 _ rfl;refine pB ?_;refine blk_put (cs:=#[.string (⟨#[]⟩:ByteArray),.int .i64 0,.int .i64 0,.int .i64 0,.int .i64 0,.int .i64 0,.int .i64 0,.int .i64 0,.string (⟨#[]⟩:ByteArray),.string (⟨#[]⟩:ByteArray),.bool false]) ?_ 3 _ rfl;refine pB ?_;refine blk_put (cs:=#[.string (⟨#[]⟩:ByteArray),.int .i64 0,.int .i64 0,.int .i64 0,.int .i64 0,.int .i64 0,.int .i64 0,.int .i64 0,.string (⟨#[]⟩:ByteArray),.string (⟨#[]⟩:ByteArray),.bool false]) ?_ 2 _ rfl;refine pB ?_;refine blk_put (cs:=#[.string (⟨#[]⟩:ByteArray),.int .i64 0,.int .i64 0,.int .i64 0,.int .i64 0,.int .i64 0,.int .i64 0,.int .i64 0,.string (⟨#[]⟩:ByteArray),.string (⟨#[]⟩:ByteArray),.bool false]) ?_ 1 _ rfl;refine pB ?_;refine blk_put (cs:=#[.string (⟨#[]⟩:ByteArray),.int .i64 0,.int .i64 0,.int .i64 0,.int .i64 0,.int .i64 0,.int .i64 0,.int .i64 0,.string (⟨#[]⟩:ByteArray),.string (⟨#[]⟩:ByteArray),.bool false]) ?_ 0 _ rfl;refine pB ?_;exact BK1215.out) Try.underlying34 rfl (by kernel_rfl)) rfl ?_
   exact ⟨_,eRf,kR (Kd.R_mono (Kd.R_far (p:=⟨gb1215,10,none⟩) (Kd.R_far (p:=⟨gb1215,9,none⟩) (Kd.R_far (p:=⟨gb1215,8,none⟩) (Kd.R_far (p:=⟨gb1215,7,none⟩) (Kd.R_far (p:=⟨gb1215,6,none⟩) (Kd.R_far (p:=⟨gb1215,5,none⟩) (Kd.R_far (p:=⟨gb1215,4,none⟩) (Kd.R_far (p:=⟨gb1215,3,none⟩) (Kd.R_far (p:=⟨gb1215,2,none⟩) (Kd.R_far (p:=⟨gb1215,1,none⟩) (Kd.R_far (p:=⟨gb1215,0,none⟩) (Kd.R_types HO1235.out BK1215.out (by decide)) (fun _ hk => hk.2) (.string (⟨#[]⟩:ByteArray))) (fun _ hk => hk.2) (.int .i64 0)) (fun _ hk => hk.2) (.int .i64 0)) (fun _ hk => hk.2) (.int .i64 0)) (fun _ hk => hk.2) (.int .i64 0)) (fun _ hk => hk.2) (.int .i64 0)) (fun _ hk => hk.2) (.int .i64 0)) (fun _ hk => hk.2) (.int .i64 0)) (fun _ hk => hk.2) (.string (⟨#[]⟩:ByteArray))) (fun _ hk => hk.2) (.string (⟨#[]⟩:ByteArray))) (fun _ hk => hk.2) (.bool false)) (fun _ hk => trivial)),bW⟩
 ·replace c4:=Bool.eq_false_iff.mpr c4
  subst c4
  have H1:=H
  rw [if_neg (show ¬ (false = true) by decide)] at H1
  clear H
  have H:=H1
  clear H1
  obtain ⟨y1236,hy1236⟩:∃ y_:List (S53),y_ = (([]:List (S53))):=⟨_,rfl⟩
  replace H:(some ((⟨#[]⟩:ByteArray),0,0,0,0,0,0,0,(⟨#[]⟩:ByteArray),(⟨#[]⟩:ByteArray),false,y1236,1)) = some (r1,r2,r3,r4,r5,r6,r7,r8,r9,r10,r11,r12,r13):=by first|(rw [hy1236];with_reducible exact H)|(have H2_:=(Option.bind_some _ _).symm.trans H;rw [hy1236];with_reducible exact H2_)|(have H2_:=(Option.bind_some _ _).symm.trans H;with_reducible exact H2_) | with_reducible exact H|(rw [hy1236];exact H)|exact H
  have Ny1236:=aMk hy1236
  clear hy1236
  simp only [Option.some.injEq,Prod.mk.injEq] at H
  obtain ⟨rfl,rfl,rfl,rfl,rfl,rfl,rfl,rfl,rfl,rfl,rfl,rfl,rfl⟩:=H
  go_enter Try.func57,Try.ntmps57
  go_wp2_with (first|((with_reducible refine gate_dst (N:=2) rfl ?_);refine bxE (N:=2) (cs:=#[.string a0_0,.int .i64 a0_1,.int .i64 a0_2,.int .i64 a0_3,.int .i64 a0_4,.int .i64 a0_5,.int .i64 a0_6,.int .i64 a0_7,.string a0_8,.string a0_9,.bool a0_10]) (t:=34) ?_;intro gb1213 hg w40 hbox hb;have BK1213:=aMk (hbox);have GW1213:=aMk (bZ hg);have GE1213:=aMk (bZ hg);replace HB:=aMk (bSt hb);clear hb hbox hg)|((with_reducible refine gate_dst (N:=3) rfl ?_);refine bxE (N:=3) (cs:=#[.int .i64 a1_0,.int .i64 a1_1,.int .i64 a1_2,.int .i64 a1_3,.int .i64 a1_4,.int .i64 a1_5,.string a1_6]) (t:=53) ?_;intro gb1214 hg w41 hbox hb;have BK1214:=aMk (hbox);have GW1214:=aMk (bG bW hg);have GE1214:=aMk (bG bW hg);replace HB:=aMk (bU hb);have NB1213_1214:=aMk ((bkL BK1213.out hg:gb1213 ≠ gb1214));have NB1214_1213:=aMk ((bkG BK1213.out hg:gb1214 ≠ gb1213));replace BK1213:=aMk (bkB BK1213.out hb);clear hb hbox hg)|((with_reducible refine gate_dst (N:=4) rfl ?_);refine bxE (N:=4) (cs:=#[.string (⟨#[]⟩:ByteArray),.int .i64 0,.int .i64 0,.int .i64 0,.int .i64 0,.int .i64 0,.int .i64 0,.int .i64 0,.string (⟨#[]⟩:ByteArray),.string (⟨#[]⟩:ByteArray),.bool false]) (t:=34) ?_;intro gb1215 hg w42 hbox hb;have BK1215:=aMk (hbox);have GW1215:=aMk (bG bW hg);have GE1215:=aMk (bG bW hg);replace HB:=aMk (bU hb);have NB1213_1215:=aMk ((bkL BK1213.out hg:gb1213 ≠ gb1215));have NB1215_1213:=aMk ((bkG BK1213.out hg:gb1215 ≠ gb1213));replace BK1213:=aMk (bkB BK1213.out hb);have NB1214_1215:=aMk ((bkL BK1214.out hg:gb1214 ≠ gb1215));have NB1215_1214:=aMk ((bkG BK1214.out hg:gb1215 ≠ gb1214));replace BK1214:=aMk (bkB BK1214.out hb);clear hb hbox hg;have hnb43:=NB1213_1214.out;have hnc43:=NB1214_1213.out;have hnb44:=NB1213_1215.out;have hnc44:=NB1215_1213.out;obtain ⟨Z45_0,Z45_1,Z45_2,Z45_3,Z45_4,Z45_5,Z45_6,Z45_7,Z45_8,Z45_9,Z45_10,Y45_0,Y45_1,Y45_2,Y45_3,Y45_4,Y45_5,Y45_6,Y45_7,Y45_8,Y45_9,Y45_10⟩:=bC11 BK1213.out)|((with_reducible refine gate_callee (f:=23) rfl ?_);refine gLs 10 Try.func23 #[.agg #[.string a0_0,.int .i64 a0_1,.int .i64 a0_2,.int .i64 a0_3,.int .i64 a0_4,.int .i64 a0_5,.int .i64 a0_6,.int .i64 a0_7,.string a0_8,.string a0_9,.bool a0_10]] ?_;(with_reducible refine (spec_ConnOK.calls k a0_0 a0_1 a0_2 a0_3 a0_4 a0_5 a0_6 a0_7 a0_8 a0_9 a0_10 false _ A3.out).mono ?_);rintro e w46 ⟨rfl,hb⟩;refine ⟨_,rfl,?_⟩;replace BK1213:=aMk (bkB BK1213.out hb);replace BK1214:=aMk (bkB BK1214.out hb);replace BK1215:=aMk (bkB BK1215.out hb);replace HB:=aMk (bU hb))|((with_reducible refine gate_dst (N:=18) rfl ?_);refine Kd.R_lit k53 _ 53 ?hg (N:=18) ?hd (xs:=([]:List (S53))) (inner:=[]) (ok:=fun _ => True) (okp:=fun _ => True) ?hr ?hp (fun _ hk => hk) trivial (Below.refl _ _) (Nat.le_refl _) (by simp) ?_;(case hd => rfl);(case hg => rfl);(case hr => first|(go_simp;done)|(go_simp;rfl));(case hp => exact (Reps.none _ _));intro v1237 w47 ho48 hb hg_ hnew_;clear hg_ hnew_;(first|rw [← Ny1236.out] at ho48|(simp only [Int.reduceToNat] at ho48;rw [← Ny1236.out] at ho48));have HO1238:=aMk (Kd.R_lower (Kd.R_newB ho48 (g:=gb1214) (o:=.cells #[.int .i64 a1_0,.int .i64 a1_1,.int .i64 a1_2,.int .i64 a1_3,.int .i64 a1_4,.int .i64 a1_5,.string a1_6] 53 (0,0)) (pB BK1214.out)) (below_size bW));replace BK1213:=aMk (bkB BK1213.out hb);replace BK1214:=aMk (bkB BK1214.out hb);replace BK1215:=aMk (bkB BK1215.out hb);replace HB:=aMk (bU hb);clear hb ho48;have hnb49:=NB1215_1214.out;have hnc49:=NB1214_1215.out;obtain ⟨Z50_0,Z50_1,Z50_2,Z50_3,Z50_4,Z50_5,Z50_6,Z50_7,Z50_8,Z50_9,Z50_10,Y50_0,Y50_1,Y50_2,Y50_3,Y50_4,Y50_5,Y50_6,Y50_7,Y50_8,Y50_9,Y50_10⟩:=bC11 BK1215.out))
  refine bodyPost_ret (results_ctt rfl _ _ gb1215 34 #[.string (⟨#[]⟩:ByteArray),.int .i64 0,.int .i64 0,.int .i64 0,.int .i64 0,.int .i64 0,.int .i64 0,.int .i64 0,.string (⟨#[]⟩:ByteArray),.string (⟨#[]⟩:ByteArray),.bool false] (0,0) _ rfl (by refine pB ?_;refine blk_put (cs:=#[.string (⟨#[]⟩:ByteArray),.int .i64 0,.int .i64 0,.int .i64 0,.int .i64 0,.int .i64 0,.int .i64 0,.int .i64 0,.string (⟨#[]⟩:ByteArray),.string (⟨#[]⟩:ByteArray),.bool false]) ?_ 10 _ rfl;refine pB ?_;refine blk_put (cs:=#[.string (⟨#[]⟩:ByteArray),.int .i64 0,.int .i64 0,.int .i64 0,.int .i64 0,.int .i64 0,.int .i64 0,.int .i64 0,.string (⟨#[]⟩:ByteArray),.string (⟨#[]⟩:ByteArray),.bool false]) ?_ 9 _ rfl;refine pB ?_;refine blk_put (cs:=#[.string (⟨#[]⟩:ByteArray),.int .i64 0,.int .i64 0,.int .i64 0,.int .i64 0,.int .i64 0,.int .i64 0,.int .i64 0,.string (⟨#[]⟩:ByteArray),.string (⟨#[]⟩:ByteArray),.bool false]) ?_ 8 _ rfl;refine pB ?_;refine blk_put (cs:=#[.string (⟨#[]⟩:ByteArray),.int .i64 0,.int .i64 0,.int .i64 0,.int .i64 0,.int .i64 0,.int .i64 0,.int .i64 0,.string (⟨#[]⟩:ByteArray),.string (⟨#[]⟩:ByteArray),.bool false]) ?_ 7 _ rfl;refine pB ?_;refine blk_put (cs:=#[.string (⟨#[]⟩:ByteArray),.int .i64 0,.int .i64 0,.int .i64 0,.int .i64 0,.int .i64 0,.int .i64 0,.int .i64 0,.string (⟨#[]⟩:ByteArray),.string (⟨#[]⟩:ByteArray),.bool false]) ?_ 6 _ rfl;refine pB ?_;refine blk_put (cs:=#[.string (⟨#[]⟩:ByteArray),.int .i64 0,.int .i64 0,.int .i64 0,.int .i64 0,.int .i64 0,.int .i64 0,.int .i64 0,.string (⟨#[]⟩:ByteArray),.string (⟨#[]⟩:ByteArray),.bool false]) ?_ 5 _ rfl;refine pB ?_;refine blk_put (cs:=#[.string (⟨#[]⟩:ByteArray),.int .i64 0,.int .i64 0,.int .i64 0,.int .i64 0,.int .i64 0,.int .i64 0,.int .i64 0,.string (⟨#[]⟩:ByteArray),.string (⟨#[]⟩:ByteArray),.bool false]) ?_ 4 _ rfl;refine pB ?_;refine blk_put (cs:=#[.string (⟨#[]⟩:ByteArray),.int .i64 0,.int .i64 0,.int .i64 0,.int .i64 0,.int .i64 0,.int .i64 0,.int .i64 0,.string (⟨#[]⟩:ByteArray),.string (⟨#[]⟩:ByteArray),.bool false]) ?_ 3 _ rfl;refine pB ?_;refine blk_put (cs:=#[.string (⟨#[]⟩:ByteArray),.int .i64 0,.int .i64 0,.int .i64 0,.int .i64 0,.int .i64 0,.int .i64 0,.int .i64 0,.string (⟨#[]⟩:ByteArray),.string (⟨#[]⟩:ByteArray),.bool false]) ?_ 2 _ rfl;refine pB ?_;refine blk_put (cs:=#[.string (⟨#[]⟩:ByteArray),.int .i64 0,.int .i64 0,.int .i64 0,.int .i64 0,.int .i64 0,.int .i64 0,.int .i64 0,.string (⟨#[]⟩:ByteArray),.string (⟨#[]⟩:ByteArray),.bool false]) ?_ 1 _ rfl;refine pB ?_;refine blk_put (cs:=#[.string (⟨#[]⟩:ByteArray),.int .i64 0,.int .i64 0,.int .i64 0,.int .i64 0,.int .i64 0,.int .i64 0,.int .i64 0,.string (⟨#[]⟩:ByteArray),.string (⟨#[]⟩:ByteArray),.bool false]) ?_ 0 _ rfl;refine pB ?_;exact BK1215.out) Try.underlying34 rfl (by kernel_rfl)) rfl ?_
  exact ⟨_,eRf,kR (Kd.R_mono (Kd.R_far (p:=⟨gb1215,10,none⟩) (Kd.R_far (p:=⟨gb1215,9,none⟩) (Kd.R_far (p:=⟨gb1215,8,none⟩) (Kd.R_far (p:=⟨gb1215,7,none⟩) (Kd.R_far (p:=⟨gb1215,6,none⟩) (Kd.R_far (p:=⟨gb1215,5,none⟩) (Kd.R_far (p:=⟨gb1215,4,none⟩) (Kd.R_far (p:=⟨gb1215,3,none⟩) (Kd.R_far (p:=⟨gb1215,2,none⟩) (Kd.R_far (p:=⟨gb1215,1,none⟩) (Kd.R_far (p:=⟨gb1215,0,none⟩) (Kd.R_types HO1238.out BK1215.out (by decide)) (fun _ hk => hk.2) (.string (⟨#[]⟩:ByteArray))) (fun _ hk => hk.2) (.int .i64 0)) (fun _ hk => hk.2) (.int .i64 0)) (fun _ hk => hk.2) (.int .i64 0)) (fun _ hk => hk.2) (.int .i64 0)) (fun _ hk => hk.2) (.int .i64 0)) (fun _ hk => hk.2) (.int .i64 0)) (fun _ hk => hk.2) (.int .i64 0)) (fun _ hk => hk.2) (.string (⟨#[]⟩:ByteArray))) (fun _ hk => hk.2) (.string (⟨#[]⟩:ByteArray))) (fun _ hk => hk.2) (.bool false)) (fun _ hk => trivial)),bW⟩
end
section
/-! ### impl_onward: function 112 -/
def impl_onward.f (a0 a1:Int):Option (Int):=some (Int.tmod (wrap64 (a0 + a1)) 4294967296)
set_option maxHeartbeats 8000000 in
set_option maxRecDepth 100000 in
theorem impl_onward.calls (a0 a1 r:Int) (w:World) (h:impl_onward.f a0 a1 = some r) :
  Calls Try.prog 112 #[.int .i64 a0,.int .i64 a1] w fun e w' => e = .returned (.int .i64 r)∧Drawn0 w w':=by
 have H:=h
 unfold impl_onward.f at H
 clear h
 obtain rfl:=Option.some.inj H
 go_enter Try.func112,Try.ntmps112
 go_wp2
 go_ret
 exact ⟨by first | rfl|(simp;done)|(simp [*];done)|(simp [ne_nil_b];done)|(simp [ne_nil_b, *];done),by repeat (first|exact Drawn0.refl _|apply Drawn0.step)⟩
end
section
/-- A state of type 34 at block g of W;what its slices lead to came in by w0. -/
def IsS34 (w0 W:World) (g:Nat) (f0:ByteArray) (f1 f2:Int) (f3 f4:Int) (f5 f6 f7:Int) (f8 f9:ByteArray) (f10:Bool):Prop:=W.heap[g]? = some (.cells #[.string f0,.int .i64 f1,.int .i64 f2,.int .i64 f3,.int .i64 f4,.int .i64 f5,.int .i64 f6,.int .i64 f7,.string f8,.string f9,.bool f10] 34 (0,0))∧w0.heap.size≤g
theorem IsS34.grown {w0 W:World} {g:Nat} {f0:ByteArray} {f1 f2:Int} {f3 f4:Int} {f5 f6 f7:Int} {f8 f9:ByteArray} {f10:Bool} {W1:World} {row:Option Nat} (h:IsS34 w0 W g f0 f1 f2 f3 f4 f5 f6 f7 f8 f9 f10) (hw:W.grownBy W1 row) (hne:some g ≠ row):IsS34 w0 W1 g f0 f1 f2 f3 f4 f5 f6 f7 f8 f9 f10:=by
 obtain ⟨hb,hg⟩:=h
 exact ⟨blk_grown hb hw hne,hg⟩
theorem IsS34.kept {w0 W:World} {g:Nat} {f0:ByteArray} {f1 f2:Int} {f3 f4:Int} {f5 f6 f7:Int} {f8 f9:ByteArray} {f10:Bool} {W1:World} {S:Nat→Prop} (h:IsS34 w0 W g f0 f1 f2 f3 f4 f5 f6 f7 f8 f9 f10) (hk:Kept W W1 S) (hne:¬ S g):IsS34 w0 W1 g f0 f1 f2 f3 f4 f5 f6 f7 f8 f9 f10:=by
 obtain ⟨hb,hg⟩:=h
 exact ⟨blk_kept hb hk hne,hg⟩
theorem IsS34.below {w0 W:World} {g:Nat} {f0:ByteArray} {f1 f2:Int} {f3 f4:Int} {f5 f6 f7:Int} {f8 f9:ByteArray} {f10:Bool} {W1:World} (h:IsS34 w0 W g f0 f1 f2 f3 f4 f5 f6 f7 f8 f9 f10) (hw:Below W.heap.size W W1):IsS34 w0 W1 g f0 f1 f2 f3 f4 f5 f6 f7 f8 f9 f10:=h.grown (grown_of_below hw none) (by simp)
theorem IsS34.alloc {w0 W:World} {g:Nat} {f0:ByteArray} {f1 f2:Int} {f3 f4:Int} {f5 f6 f7:Int} {f8 f9:ByteArray} {f10:Bool} (h:IsS34 w0 W g f0 f1 f2 f3 f4 f5 f6 f7 f8 f9 f10) (o:Obj):IsS34 w0 (W.alloc o) g f0 f1 f2 f3 f4 f5 f6 f7 f8 f9 f10:=h.below (bwA (Below.refl _ _) o)
theorem IsS34.drewN {w0 W:World} {g:Nat} {f0:ByteArray} {f1 f2:Int} {f3 f4:Int} {f5 f6 f7:Int} {f8 f9:ByteArray} {f10:Bool} (h:IsS34 w0 W g f0 f1 f2 f3 f4 f5 f6 f7 f8 f9 f10) (m:Nat):IsS34 w0 (W.drewN m) g f0 f1 f2 f3 f4 f5 f6 f7 f8 f9 f10:=h
theorem IsS34.drew {w0 W:World} {g:Nat} {f0:ByteArray} {f1 f2:Int} {f3 f4:Int} {f5 f6 f7:Int} {f8 f9:ByteArray} {f10:Bool} (h:IsS34 w0 W g f0 f1 f2 f3 f4 f5 f6 f7 f8 f9 f10):IsS34 w0 W.drew g f0 f1 f2 f3 f4 f5 f6 f7 f8 f9 f10:=h
theorem IsS34.at_ {w0 W:World} {g:Nat} {f0:ByteArray} {f1 f2:Int} {f3 f4:Int} {f5 f6 f7:Int} {f8 f9:ByteArray} {f10:Bool} {w':World} {m:Nat} (hq:W.drewN m = w') (h:IsS34 w0 W g f0 f1 f2 f3 f4 f5 f6 f7 f8 f9 f10):IsS34 w0 w' g f0 f1 f2 f3 f4 f5 f6 f7 f8 f9 f10:=by subst hq;exact IsS34.drewN h m
theorem IsS34.apart {w0 W:World} {g:Nat} {f0:ByteArray} {f1 f2:Int} {f3 f4:Int} {f5 f6 f7:Int} {f8 f9:ByteArray} {f10:Bool} {α:Type} {d:Kd α} {e:Nat} {base:Nat} {ok:Nat→Prop} {v:Value} {xs:List α} (h:IsS34 w0 W g f0 f1 f2 f3 f4 f5 f6 f7 f8 f9 f10) (ho:d.R e W base ok v xs) (ht:∀ q,q ∈ e :: d.E→q ≠ 34):d.R e W base (fun k => ok k∧k ≠ g) v xs:=by
 obtain ⟨hb,hg⟩:=h
 exact Kd.R_types ho hb ht
theorem IsS34.own_ne {w0 W:World} {g:Nat} {f0:ByteArray} {f1 f2:Int} {f3 f4:Int} {f5 f6 f7:Int} {f8 f9:ByteArray} {f10:Bool} {α:Type} {d:Kd α} {e:Nat} {base:Nat} {ok:Nat→Prop} {v:Value} {xs:List α} (h:IsS34 w0 W g f0 f1 f2 f3 f4 f5 f6 f7 f8 f9 f10) (ho:d.R e W base ok v xs) (ht:e ≠ 34):some g ≠ v.ownBlock:=by
 obtain ⟨hb,hg⟩:=h
 exact Kd.R_ne ho hb ht
theorem IsS34.lt {w0 W:World} {g:Nat} {f0:ByteArray} {f1 f2:Int} {f3 f4:Int} {f5 f6 f7:Int} {f8 f9:ByteArray} {f10:Bool} (h:IsS34 w0 W g f0 f1 f2 f3 f4 f5 f6 f7 f8 f9 f10):g < W.heap.size:=by
 obtain ⟨hb,hg⟩:=h
 exact blk_lt hb
theorem IsS34.ge {w0 W:World} {g:Nat} {f0:ByteArray} {f1 f2:Int} {f3 f4:Int} {f5 f6 f7:Int} {f8 f9:ByteArray} {f10:Bool} (h:IsS34 w0 W g f0 f1 f2 f3 f4 f5 f6 f7 f8 f9 f10):w0.heap.size≤g:=by
 obtain ⟨hb,hg⟩:=h
 exact hg
theorem IsS34.far {w0 W:World} {g:Nat} {f0:ByteArray} {f1 f2:Int} {f3 f4:Int} {f5 f6 f7:Int} {f8 f9:ByteArray} {f10:Bool} {p:Addr} (h:IsS34 w0 W g f0 f1 f2 f3 f4 f5 f6 f7 f8 f9 f10) (hne:g ≠ p.block) (u:Value):IsS34 w0 (W.setCell p u) g f0 f1 f2 f3 f4 f5 f6 f7 f8 f9 f10:=by
 obtain ⟨hb,hg⟩:=h
 exact ⟨blk_far hb hne u,hg⟩
theorem cellS34_0 {W:World} {g:Nat} {f0:ByteArray} {f1 f2:Int} {f3 f4:Int} {f5 f6 f7:Int} {f8 f9:ByteArray} {f10:Bool} (h:W.heap[g]? = some (.cells #[.string f0,.int .i64 f1,.int .i64 f2,.int .i64 f3,.int .i64 f4,.int .i64 f5,.int .i64 f6,.int .i64 f7,.string f8,.string f9,.bool f10] 34 (0,0))):W.cell? ⟨g,0,none⟩ = some (.string f0):=(bCe h 0).trans rfl
theorem IsS34.set_0 {w0 W:World} {g:Nat} {f0:ByteArray} {f1 f2:Int} {f3 f4:Int} {f5 f6 f7:Int} {f8 f9:ByteArray} {f10:Bool} (h:IsS34 w0 W g f0 f1 f2 f3 f4 f5 f6 f7 f8 f9 f10) (x:ByteArray):IsS34 w0 (W.setCell ⟨g,0,none⟩ (.string x)) g x f1 f2 f3 f4 f5 f6 f7 f8 f9 f10:=by
 obtain ⟨hb,hg⟩:=h
 exact ⟨by simpa using blk_set hb 0 (.string x),hg⟩
theorem cellS34_1 {W:World} {g:Nat} {f0:ByteArray} {f1 f2:Int} {f3 f4:Int} {f5 f6 f7:Int} {f8 f9:ByteArray} {f10:Bool} (h:W.heap[g]? = some (.cells #[.string f0,.int .i64 f1,.int .i64 f2,.int .i64 f3,.int .i64 f4,.int .i64 f5,.int .i64 f6,.int .i64 f7,.string f8,.string f9,.bool f10] 34 (0,0))):W.cell? ⟨g,1,none⟩ = some (.int .i64 f1):=(bCe h 1).trans rfl
theorem IsS34.set_1 {w0 W:World} {g:Nat} {f0:ByteArray} {f1 f2:Int} {f3 f4:Int} {f5 f6 f7:Int} {f8 f9:ByteArray} {f10:Bool} (h:IsS34 w0 W g f0 f1 f2 f3 f4 f5 f6 f7 f8 f9 f10) (x:Int):IsS34 w0 (W.setCell ⟨g,1,none⟩ (.int .i64 x)) g f0 x f2 f3 f4 f5 f6 f7 f8 f9 f10:=by
 obtain ⟨hb,hg⟩:=h
 exact ⟨by simpa using blk_set hb 1 (.int .i64 x),hg⟩
theorem cellS34_2 {W:World} {g:Nat} {f0:ByteArray} {f1 f2:Int} {f3 f4:Int} {f5 f6 f7:Int} {f8 f9:ByteArray} {f10:Bool} (h:W.heap[g]? = some (.cells #[.string f0,.int .i64 f1,.int .i64 f2,.int .i64 f3,.int .i64 f4,.int .i64 f5,.int .i64 f6,.int .i64 f7,.string f8,.string f9,.bool f10] 34 (0,0))):W.cell? ⟨g,2,none⟩ = some (.int .i64 f2):=(bCe h 2).trans rfl
theorem IsS34.set_2 {w0 W:World} {g:Nat} {f0:ByteArray} {f1 f2:Int} {f3 f4:Int} {f5 f6 f7:Int} {f8 f9:ByteArray} {f10:Bool} (h:IsS34 w0 W g f0 f1 f2 f3 f4 f5 f6 f7 f8 f9 f10) (x:Int):IsS34 w0 (W.setCell ⟨g,2,none⟩ (.int .i64 x)) g f0 f1 x f3 f4 f5 f6 f7 f8 f9 f10:=by
 obtain ⟨hb,hg⟩:=h
 exact ⟨by simpa using blk_set hb 2 (.int .i64 x),hg⟩
theorem cellS34_3 {W:World} {g:Nat} {f0:ByteArray} {f1 f2:Int} {f3 f4:Int} {f5 f6 f7:Int} {f8 f9:ByteArray} {f10:Bool} (h:W.heap[g]? = some (.cells #[.string f0,.int .i64 f1,.int .i64 f2,.int .i64 f3,.int .i64 f4,.int .i64 f5,.int .i64 f6,.int .i64 f7,.string f8,.string f9,.bool f10] 34 (0,0))):W.cell? ⟨g,3,none⟩ = some (.int .i64 f3):=(bCe h 3).trans rfl
theorem IsS34.set_3 {w0 W:World} {g:Nat} {f0:ByteArray} {f1 f2:Int} {f3 f4:Int} {f5 f6 f7:Int} {f8 f9:ByteArray} {f10:Bool} (h:IsS34 w0 W g f0 f1 f2 f3 f4 f5 f6 f7 f8 f9 f10) (x:Int):IsS34 w0 (W.setCell ⟨g,3,none⟩ (.int .i64 x)) g f0 f1 f2 x f4 f5 f6 f7 f8 f9 f10:=by
 obtain ⟨hb,hg⟩:=h
 exact ⟨by simpa using blk_set hb 3 (.int .i64 x),hg⟩
theorem cellS34_4 {W:World} {g:Nat} {f0:ByteArray} {f1 f2:Int} {f3 f4:Int} {f5 f6 f7:Int} {f8 f9:ByteArray} {f10:Bool} (h:W.heap[g]? = some (.cells #[.string f0,.int .i64 f1,.int .i64 f2,.int .i64 f3,.int .i64 f4,.int .i64 f5,.int .i64 f6,.int .i64 f7,.string f8,.string f9,.bool f10] 34 (0,0))):W.cell? ⟨g,4,none⟩ = some (.int .i64 f4):=(bCe h 4).trans rfl
theorem IsS34.set_4 {w0 W:World} {g:Nat} {f0:ByteArray} {f1 f2:Int} {f3 f4:Int} {f5 f6 f7:Int} {f8 f9:ByteArray} {f10:Bool} (h:IsS34 w0 W g f0 f1 f2 f3 f4 f5 f6 f7 f8 f9 f10) (x:Int):IsS34 w0 (W.setCell ⟨g,4,none⟩ (.int .i64 x)) g f0 f1 f2 f3 x f5 f6 f7 f8 f9 f10:=by
 obtain ⟨hb,hg⟩:=h
 exact ⟨by simpa using blk_set hb 4 (.int .i64 x),hg⟩
theorem cellS34_5 {W:World} {g:Nat} {f0:ByteArray} {f1 f2:Int} {f3 f4:Int} {f5 f6 f7:Int} {f8 f9:ByteArray} {f10:Bool} (h:W.heap[g]? = some (.cells #[.string f0,.int .i64 f1,.int .i64 f2,.int .i64 f3,.int .i64 f4,.int .i64 f5,.int .i64 f6,.int .i64 f7,.string f8,.string f9,.bool f10] 34 (0,0))):W.cell? ⟨g,5,none⟩ = some (.int .i64 f5):=(bCe h 5).trans rfl
theorem IsS34.set_5 {w0 W:World} {g:Nat} {f0:ByteArray} {f1 f2:Int} {f3 f4:Int} {f5 f6 f7:Int} {f8 f9:ByteArray} {f10:Bool} (h:IsS34 w0 W g f0 f1 f2 f3 f4 f5 f6 f7 f8 f9 f10) (x:Int):IsS34 w0 (W.setCell ⟨g,5,none⟩ (.int .i64 x)) g f0 f1 f2 f3 f4 x f6 f7 f8 f9 f10:=by
 obtain ⟨hb,hg⟩:=h
 exact ⟨by simpa using blk_set hb 5 (.int .i64 x),hg⟩
theorem cellS34_6 {W:World} {g:Nat} {f0:ByteArray} {f1 f2:Int} {f3 f4:Int} {f5 f6 f7:Int} {f8 f9:ByteArray} {f10:Bool} (h:W.heap[g]? = some (.cells #[.string f0,.int .i64 f1,.int .i64 f2,.int .i64 f3,.int .i64 f4,.int .i64 f5,.int .i64 f6,.int .i64 f7,.string f8,.string f9,.bool f10] 34 (0,0))):W.cell? ⟨g,6,none⟩ = some (.int .i64 f6):=(bCe h 6).trans rfl
theorem IsS34.set_6 {w0 W:World} {g:Nat} {f0:ByteArray} {f1 f2:Int} {f3 f4:Int} {f5 f6 f7:Int} {f8 f9:ByteArray} {f10:Bool} (h:IsS34 w0 W g f0 f1 f2 f3 f4 f5 f6 f7 f8 f9 f10) (x:Int):IsS34 w0 (W.setCell ⟨g,6,none⟩ (.int .i64 x)) g f0 f1 f2 f3 f4 f5 x f7 f8 f9 f10:=by
 obtain ⟨hb,hg⟩:=h
 exact ⟨by simpa using blk_set hb 6 (.int .i64 x),hg⟩
theorem cellS34_7 {W:World} {g:Nat} {f0:ByteArray} {f1 f2:Int} {f3 f4:Int} {f5 f6 f7:Int} {f8 f9:ByteArray} {f10:Bool} (h:W.heap[g]? = some (.cells #[.string f0,.int .i64 f1,.int .i64 f2,.int .i64 f3,.int .i64 f4,.int .i64 f5,.int .i64 f6,.int .i64 f7,.string f8,.string f9,.bool f10] 34 (0,0))):W.cell? ⟨g,7,none⟩ = some (.int .i64 f7):=(bCe h 7).trans rfl
theorem IsS34.set_7 {w0 W:World} {g:Nat} {f0:ByteArray} {f1 f2:Int} {f3 f4:Int} {f5 f6 f7:Int} {f8 f9:ByteArray} {f10:Bool} (h:IsS34 w0 W g f0 f1 f2 f3 f4 f5 f6 f7 f8 f9 f10) (x:Int):IsS34 w0 (W.setCell ⟨g,7,none⟩ (.int .i64 x)) g f0 f1 f2 f3 f4 f5 f6 x f8 f9 f10:=by
 obtain ⟨hb,hg⟩:=h
 exact ⟨by simpa using blk_set hb 7 (.int .i64 x),hg⟩
theorem cellS34_8 {W:World} {g:Nat} {f0:ByteArray} {f1 f2:Int} {f3 f4:Int} {f5 f6 f7:Int} {f8 f9:ByteArray} {f10:Bool} (h:W.heap[g]? = some (.cells #[.string f0,.int .i64 f1,.int .i64 f2,.int .i64 f3,.int .i64 f4,.int .i64 f5,.int .i64 f6,.int .i64 f7,.string f8,.string f9,.bool f10] 34 (0,0))):W.cell? ⟨g,8,none⟩ = some (.string f8):=(bCe h 8).trans rfl
theorem IsS34.set_8 {w0 W:World} {g:Nat} {f0:ByteArray} {f1 f2:Int} {f3 f4:Int} {f5 f6 f7:Int} {f8 f9:ByteArray} {f10:Bool} (h:IsS34 w0 W g f0 f1 f2 f3 f4 f5 f6 f7 f8 f9 f10) (x:ByteArray):IsS34 w0 (W.setCell ⟨g,8,none⟩ (.string x)) g f0 f1 f2 f3 f4 f5 f6 f7 x f9 f10:=by
 obtain ⟨hb,hg⟩:=h
 exact ⟨by simpa using blk_set hb 8 (.string x),hg⟩
theorem cellS34_9 {W:World} {g:Nat} {f0:ByteArray} {f1 f2:Int} {f3 f4:Int} {f5 f6 f7:Int} {f8 f9:ByteArray} {f10:Bool} (h:W.heap[g]? = some (.cells #[.string f0,.int .i64 f1,.int .i64 f2,.int .i64 f3,.int .i64 f4,.int .i64 f5,.int .i64 f6,.int .i64 f7,.string f8,.string f9,.bool f10] 34 (0,0))):W.cell? ⟨g,9,none⟩ = some (.string f9):=(bCe h 9).trans rfl
theorem IsS34.set_9 {w0 W:World} {g:Nat} {f0:ByteArray} {f1 f2:Int} {f3 f4:Int} {f5 f6 f7:Int} {f8 f9:ByteArray} {f10:Bool} (h:IsS34 w0 W g f0 f1 f2 f3 f4 f5 f6 f7 f8 f9 f10) (x:ByteArray):IsS34 w0 (W.setCell ⟨g,9,none⟩ (.string x)) g f0 f1 f2 f3 f4 f5 f6 f7 f8 x f10:=by
 obtain ⟨hb,hg⟩:=h
 exact ⟨by simpa using blk_set hb 9 (.string x),hg⟩
theorem cellS34_10 {W:World} {g:Nat} {f0:ByteArray} {f1 f2:Int} {f3 f4:Int} {f5 f6 f7:Int} {f8 f9:ByteArray} {f10:Bool} (h:W.heap[g]? = some (.cells #[.string f0,.int .i64 f1,.int .i64 f2,.int .i64 f3,.int .i64 f4,.int .i64 f5,.int .i64 f6,.int .i64 f7,.string f8,.string f9,.bool f10] 34 (0,0))):W.cell? ⟨g,10,none⟩ = some (.bool f10):=(bCe h 10).trans rfl
theorem IsS34.set_10 {w0 W:World} {g:Nat} {f0:ByteArray} {f1 f2:Int} {f3 f4:Int} {f5 f6 f7:Int} {f8 f9:ByteArray} {f10:Bool} (h:IsS34 w0 W g f0 f1 f2 f3 f4 f5 f6 f7 f8 f9 f10) (x:Bool):IsS34 w0 (W.setCell ⟨g,10,none⟩ (.bool x)) g f0 f1 f2 f3 f4 f5 f6 f7 f8 f9 x:=by
 obtain ⟨hb,hg⟩:=h
 exact ⟨by simpa using blk_set hb 10 (.bool x),hg⟩
theorem IsS34.new (w0 W:World) (f0:ByteArray) (f1 f2:Int) (f3 f4:Int) (f5 f6 f7:Int) (f8 f9:ByteArray) (f10:Bool) (hB:Below w0.heap.size w0 W):IsS34 w0 (W.alloc (.cells #[.string f0,.int .i64 f1,.int .i64 f2,.int .i64 f3,.int .i64 f4,.int .i64 f5,.int .i64 f6,.int .i64 f7,.string f8,.string f9,.bool f10] 34)) W.heap.size f0 f1 f2 f3 f4 f5 f6 f7 f8 f9 f10:=⟨by simpa using heap_alloc_new W _,hB.size⟩
theorem bW34 {w W : World} (h : Below w.heap.size w W := by repeat (first | (with_reducible first | exact HB.out | apply below_alloc | apply pw_below_drewN | apply below_drew1 | refine below_set ?_ (Aside0.out (by assumption)) | refine below_set ?_ (IsS34.ge (Aside0.out (by assumption)))) | exact HB.out)) : Below w.heap.size w W := h
theorem iQ34 {p q : Prop} (h : p) (hX : p → q := by intro h; repeat (first | (with_reducible first | exact h | apply IsS34.alloc | apply IsS34.drew | apply IsS34.drewN | apply IsS34.set_10 | apply IsS34.set_0 | apply IsS34.set_1 | apply IsS34.set_2 | apply IsS34.set_3 | apply IsS34.set_4 | apply IsS34.set_5 | apply IsS34.set_6 | apply IsS34.set_7 | apply IsS34.set_8 | apply IsS34.set_9) | exact h)) : q := hX h
end
section
/-! ### impl_Conn_tell: function 113 -/
def impl_Conn_tell.f (s0_0:ByteArray) (s0_1 s0_2:Int) (s0_3 s0_4:Int) (s0_5 s0_6 s0_7:Int) (s0_8 s0_9:ByteArray) (s0_10:Bool) (a1 a2:Int) (a3:ByteArray):Option (Int × Int × Int × Int × Int × Int × ByteArray):=some (80,s0_2,a1,s0_7,a2,1000,a3)
def impl_Conn_tell.T1:Bool × List (List Nat × List Nat):=(true,[([],[]),([0],[0]),([1],[1]),([2],[2]),([],[]),([],[]),([5],[5]),([6],[6]),([7],[7]),([],[]),([],[]),([3,4,8,9,10],[3,4,8,9,10]),([11,0,1,2,3,4,5,6,7,8,9,10,11],[11])])
def impl_Conn_tell.B1:List Nat:=[0,1,3,7,0,0,32,96,224,0,0,2047,4095]
theorem impl_Conn_tell.tab1:rtab .any (opsOf Try.f113 1) = impl_Conn_tell.T1:=by kernel_rfl
theorem impl_Conn_tell.bits1:waitsOk impl_Conn_tell.T1.2 impl_Conn_tell.B1 = true:=by kernel_rfl
set_option maxHeartbeats 8000000 in
set_option maxRecDepth 100000 in
theorem impl_Conn_tell.calls (g:Nat) (s0_0:ByteArray) (s0_1 s0_2:Int) (s0_3 s0_4:Int) (s0_5 s0_6 s0_7:Int) (s0_8 s0_9:ByteArray) (s0_10:Bool) (a1 a2:Int) (a3:ByteArray) (r1 r2:Int) (r3 r4:Int) (r5 r6:Int) (r7:ByteArray) (w0 w:World) (hI:IsS34 w0 w g s0_0 s0_1 s0_2 s0_3 s0_4 s0_5 s0_6 s0_7 s0_8 s0_9 s0_10) (hB:Below w0.heap.size w0 w) (h:impl_Conn_tell.f s0_0 s0_1 s0_2 s0_3 s0_4 s0_5 s0_6 s0_7 s0_8 s0_9 s0_10 a1 a2 a3 = some (r1,r2,r3,r4,r5,r6,r7)) :
  Calls Try.prog 113 #[.pointer (some ⟨g,0,none⟩),.int .i64 a1,.int .i64 a2,.string a3] w fun e w' => e = .returned (.agg #[.int .i64 r1,.int .i64 r2,.int .i64 r3,.int .i64 r4,.int .i64 r5,.int .i64 r6,.string r7])∧IsS34 w0 w' g s0_0 s0_1 s0_2 s0_3 s0_4 s0_5 s0_6 s0_7 s0_8 s0_9 s0_10∧Below w0.heap.size w0 w'∧KeepBut w w' g none:=by
 have hu53:=Try.underlying53
 have HI0:=aMk hI
 have HK:=aMk (KeepBut.refl w g none)
 have HL:=aMk hB.size
 clear hI
 have HW0:=aMk hB.size
 have HB:=aMk hB
 clear hB
 have H:=h
 unfold impl_Conn_tell.f at H
 clear h
 simp only [Option.some.injEq,Prod.mk.injEq] at H
 obtain ⟨rfl,rfl,rfl,rfl,rfl,rfl,rfl⟩:=H
 go_enter Try.func113,Try.ntmps113
 try go_wp2_with (first|((with_reducible refine gate_dst (N:=8) rfl ?_);refine bxE (N:=8) (cs:=#[.int .i64 0,.int .i64 0,.int .i64 0,.int .i64 0,.int .i64 0,.int .i64 0,.string (⟨#[]⟩:ByteArray)]) (t:=53) ?_;intro gb406 hg w5 hbox hb;replace HB:=aMk (below_step bW34 hb);have BK406:=aMk (hbox);have GW406:=aMk ((by rw [hg];exact (keep_size (w:=w) (g:=g) (row:=none) (kQ HK.out)):w.heap.size≤gb406));have GE406:=aMk ((Nat.le_trans HW0.out (by rw [hg];exact (keep_size (w:=w) (g:=g) (row:=none) (kQ HK.out)):w.heap.size≤gb406):w0.heap.size≤gb406));replace HK:=aMk (KeepBut.trans (kQ HK.out) (KeepBut.of_below hb g none) (.inl rfl));have NB0_406:=aMk ((by rw [hg];exact Nat.ne_of_lt (IsS34.lt (show IsS34 w0 _ g s0_0 s0_1 s0_2 s0_3 s0_4 s0_5 s0_6 s0_7 s0_8 s0_9 s0_10 from iQ34 HI0.out)):g ≠ gb406));have NB406_0:=aMk ((by rw [hg];exact Nat.ne_of_gt (IsS34.lt (show IsS34 w0 _ g s0_0 s0_1 s0_2 s0_3 s0_4 s0_5 s0_6 s0_7 s0_8 s0_9 s0_10 from iQ34 HI0.out)):gb406 ≠ g));replace HI0:=aMk (IsS34.below (iQ34 HI0.out) hb);clear hb hbox hg))
 replace BK406:=aMk (bDr BK406.out)
 replace HI0:=aMk (IsS34.drew HI0.out)
 replace HK:=aMk (keep_drew HK.out)
 replace HB:=aMk (bw1 HB.out)
 refine start_ (n:=13) (S:=fun w' => w'.cell? ⟨g,0,none⟩ = some (.string s0_0)∧w'.cell? ⟨g,1,none⟩ = some (.int .i64 s0_1)∧w'.cell? ⟨g,2,none⟩ = some (.int .i64 s0_2)∧w'.cell? ⟨g,3,none⟩ = some (.int .i64 s0_3)∧w'.cell? ⟨g,4,none⟩ = some (.int .i64 s0_4)∧w'.cell? ⟨g,5,none⟩ = some (.int .i64 s0_5)∧w'.cell? ⟨g,6,none⟩ = some (.int .i64 s0_6)∧w'.cell? ⟨g,7,none⟩ = some (.int .i64 s0_7)∧w'.cell? ⟨g,8,none⟩ = some (.string s0_8)∧w'.cell? ⟨g,9,none⟩ = some (.string s0_9)∧w'.cell? ⟨g,10,none⟩ = some (.bool s0_10)) (ds:=[]) #[false,false,false,false,false,false,false,false,false,false,false,false,false] (by kernel_rfl) rfl rfl ⟨(cellS34_0 HI0.out.1),(cellS34_1 HI0.out.1),(cellS34_2 HI0.out.1),(cellS34_3 HI0.out.1),(cellS34_4 HI0.out.1),(cellS34_5 HI0.out.1),(cellS34_6 HI0.out.1),(cellS34_7 HI0.out.1),(cellS34_8 HI0.out.1),(cellS34_9 HI0.out.1),(cellS34_10 HI0.out.1)⟩ (fun hHeld => ?_);refine with_tabW impl_Conn_tell.tab1 impl_Conn_tell.bits1 (fun HT_ HW_ => ?_)
 generalize w5.drew = w6 at BK406 HI0 HK HB hHeld ⊢
 refine pU (i:=0) (N:=some 9) #[true,false,false,false,false,false,false,false,false,false,false,false,false] (any_of HT_.out (by kernel_rfl)) ?_
 refine pU (i:=1) (N:=some 10) #[true,true,false,false,false,false,false,false,false,false,false,false,false] (any_of HT_.out (by kernel_rfl)) ?_
 refine pU (i:=2) (N:=some 11) #[true,true,true,false,false,false,false,false,false,false,false,false,false] (any_of HT_.out (by kernel_rfl)) ?_
 refine pU (i:=4) (N:=some 13) #[true,true,true,false,true,false,false,false,false,false,false,false,false] (any_of HT_.out (by kernel_rfl)) ?_
 refine pU (i:=5) (N:=some 14) #[true,true,true,false,true,true,false,false,false,false,false,false,false] (any_of HT_.out (by kernel_rfl)) ?_
 refine pU (i:=6) (N:=some 15) #[true,true,true,false,true,true,true,false,false,false,false,false,false] (any_of HT_.out (by kernel_rfl)) ?_
 refine pU (i:=7) (N:=some 16) #[true,true,true,false,true,true,true,true,false,false,false,false,false] (any_of HT_.out (by kernel_rfl)) ?_
 refine pU (i:=9) (N:=some 18) #[true,true,true,false,true,true,true,true,false,true,false,false,false] (any_of HT_.out (by kernel_rfl)) ?_
 refine pU (i:=10) (N:=some 19) #[true,true,true,false,true,true,true,true,false,true,true,false,false] (any_of HT_.out (by kernel_rfl)) ?_
 refine tU11 (i:=3) (N:=some 12) #[true,true,true,true,true,true,true,true,false,true,true,false,false] (take_ofW HT_.out HW_.out (by kernel_rfl)) hHeld ?_
 refine tU11 (i:=8) (N:=some 17) #[true,true,true,true,true,true,true,true,true,true,true,false,false] (take_ofW HT_.out HW_.out (by kernel_rfl)) hHeld ?_
 refine pU (i:=11) (N:=some 20) #[true,true,true,true,true,true,true,true,true,true,true,true,false] (any_of HT_.out (by kernel_rfl)) ?_
 refine one_ (i:=12) (N:=none) #[true,true,true,true,true,true,true,true,true,true,true,true,true] rfl rfl (one_of HT_.out (by kernel_rfl)) (by decide) (fun K hK => ?_)
 have hs7:w6.cell? ⟨gb406,0,none⟩ = some (.int .i64 0):=(bCe BK406.out 0).trans rfl
 have hfs7:=bFr BK406.out 0
 have hs8:w6.cell? ⟨gb406,1,none⟩ = some (.int .i64 0):=(bCe BK406.out 1).trans rfl
 have hfs8:=bFr BK406.out 1
 have hs9:w6.cell? ⟨gb406,2,none⟩ = some (.int .i64 0):=(bCe BK406.out 2).trans rfl
 have hfs9:=bFr BK406.out 2
 have hs10:w6.cell? ⟨gb406,3,none⟩ = some (.int .i64 0):=(bCe BK406.out 3).trans rfl
 have hfs10:=bFr BK406.out 3
 have hs11:w6.cell? ⟨gb406,4,none⟩ = some (.int .i64 0):=(bCe BK406.out 4).trans rfl
 have hfs11:=bFr BK406.out 4
 have hs12:w6.cell? ⟨gb406,5,none⟩ = some (.int .i64 0):=(bCe BK406.out 5).trans rfl
 have hfs12:=bFr BK406.out 5
 have hs13:w6.cell? ⟨gb406,6,none⟩ = some (.string (⟨#[]⟩:ByteArray)):=(bCe BK406.out 6).trans rfl
 have hfs13:=bFr BK406.out 6
 refine skip_ (w1:=?_) (by rfl) rfl ?_ ?_
 rotate_left
 ·go_simp
  rfl
 refine hK.out _ _ ⟨(cF7 NB0_406.out (hHeld.1)),(cF7 NB0_406.out (hHeld.2.1)),(cF7 NB0_406.out (hHeld.2.2.1)),(cF7 NB0_406.out (hHeld.2.2.2.1)),(cF7 NB0_406.out (hHeld.2.2.2.2.1)),(cF7 NB0_406.out (hHeld.2.2.2.2.2.1)),(cF7 NB0_406.out (hHeld.2.2.2.2.2.2.1)),(cF7 NB0_406.out (hHeld.2.2.2.2.2.2.2.1)),(cF7 NB0_406.out (hHeld.2.2.2.2.2.2.2.2.1)),(cF7 NB0_406.out (hHeld.2.2.2.2.2.2.2.2.2.1)),(cF7 NB0_406.out (hHeld.2.2.2.2.2.2.2.2.2.2))⟩ (fun hHeld => ?_)
 clear hK K
 refine done_ (done_of HT_.out (by kernel_rfl)) ?_
 try go_wp2
 refine bodyPost_ret (results_cell_row rfl _ _ gb406 53 #[.int .i64 80,.int .i64 s0_2,.int .i64 a1,.int .i64 s0_7,.int .i64 a2,.int .i64 1000,.string a3] (0,0) _ rfl (by refine pB ?_;refine blk_put (cs:=#[.int .i64 80,.int .i64 s0_2,.int .i64 a1,.int .i64 s0_7,.int .i64 a2,.int .i64 1000,.string (⟨#[]⟩:ByteArray)]) ?_ 6 _ rfl;refine pB ?_;refine blk_put (cs:=#[.int .i64 80,.int .i64 s0_2,.int .i64 a1,.int .i64 s0_7,.int .i64 a2,.int .i64 0,.string (⟨#[]⟩:ByteArray)]) ?_ 5 _ rfl;refine pB ?_;refine blk_put (cs:=#[.int .i64 80,.int .i64 s0_2,.int .i64 a1,.int .i64 s0_7,.int .i64 0,.int .i64 0,.string (⟨#[]⟩:ByteArray)]) ?_ 4 _ rfl;refine pB ?_;refine blk_put (cs:=#[.int .i64 80,.int .i64 s0_2,.int .i64 a1,.int .i64 0,.int .i64 0,.int .i64 0,.string (⟨#[]⟩:ByteArray)]) ?_ 3 _ rfl;refine pB ?_;refine blk_put (cs:=#[.int .i64 80,.int .i64 s0_2,.int .i64 0,.int .i64 0,.int .i64 0,.int .i64 0,.string (⟨#[]⟩:ByteArray)]) ?_ 2 _ rfl;refine pB ?_;refine blk_put (cs:=#[.int .i64 80,.int .i64 0,.int .i64 0,.int .i64 0,.int .i64 0,.int .i64 0,.string (⟨#[]⟩:ByteArray)]) ?_ 1 _ rfl;refine pB ?_;refine blk_put (cs:=#[.int .i64 0,.int .i64 0,.int .i64 0,.int .i64 0,.int .i64 0,.int .i64 0,.string (⟨#[]⟩:ByteArray)]) ?_ 0 _ rfl;refine pB ?_;exact BK406.out) Try.underlying53 rfl (by kernel_rfl)) rfl ?_
 exact ⟨eRf,by repeat (first|(with_reducible first|exact HI0.out|apply IsS34.alloc|apply IsS34.drewN|apply IsS34.drew|apply IsS34.set_0|apply IsS34.set_1|apply IsS34.set_2|apply IsS34.set_3|apply IsS34.set_4|apply IsS34.set_5|apply IsS34.set_6|apply IsS34.set_7|apply IsS34.set_8|apply IsS34.set_9|apply IsS34.set_10|refine IsS34.far ?_ NB0_406.out _)|exact HI0.out),bW34,by repeat (first|(with_reducible first|exact HK.out|apply KeepBut.set_|apply keep_drewN|apply keep_drew|apply keep_alloc|refine keep_far ?_ GW406.out _)|exact HK.out)⟩
end
section
/-! ### impl_within: function 62 -/
def impl_within.f (a0 a1 a2:Int):Option (Bool):=if a0 ≥ a1 then (some (decide (a0≤a2))) else (some false)
set_option maxHeartbeats 8000000 in
set_option maxRecDepth 100000 in
theorem impl_within.calls (a0 a1 a2:Int) (r:Bool) (w:World) (h:impl_within.f a0 a1 a2 = some r) :
  Calls Try.prog 62 #[.int .i64 a0,.int .i64 a1,.int .i64 a2] w fun e w' => e = .returned (.bool r)∧Drawn0 w w':=by
 have H:=h
 unfold impl_within.f at H
 clear h
 by_cases c4:a0 ≥ a1
 ·rw [if_pos c4] at H
  have c4b0:decide (a1≤a0) = true:=decide_eq_true c4
  clear c4
  obtain rfl:=Option.some.inj H
  go_enter Try.func62,Try.ntmps62
  go_wp2
  go_ret
  exact ⟨by first | rfl|(simp;done)|(simp [*];done)|(simp [ne_nil_b];done)|(simp [ne_nil_b, *];done),by repeat (first|exact Drawn0.refl _|apply Drawn0.step)⟩
 ·rw [if_neg c4] at H
  have c4b0:decide (a1≤a0) = false:=decide_eq_false c4
  clear c4
  obtain rfl:=Option.some.inj H
  go_enter Try.func62,Try.ntmps62
  go_wp2
  go_ret
  exact ⟨by first | rfl|(simp;done)|(simp [*];done)|(simp [ne_nil_b];done)|(simp [ne_nil_b, *];done),by repeat (first|exact Drawn0.refl _|apply Drawn0.step)⟩
end
section
/-! ### impl_behind: function 63 -/
def impl_behind.f (a0 a1:Int):Option (Int):=some (Int.tmod (wrap64 ((wrap64 (a0 - a1)) + 4294967296)) 4294967296)
set_option maxHeartbeats 8000000 in
set_option maxRecDepth 100000 in
theorem impl_behind.calls (a0 a1 r:Int) (w:World) (h:impl_behind.f a0 a1 = some r) :
  Calls Try.prog 63 #[.int .i64 a0,.int .i64 a1] w fun e w' => e = .returned (.int .i64 r)∧Drawn0 w w':=by
 have H:=h
 unfold impl_behind.f at H
 clear h
 obtain rfl:=Option.some.inj H
 go_enter Try.func63,Try.ntmps63
 go_wp2
 go_ret
 exact ⟨by first | rfl|(simp;done)|(simp [*];done)|(simp [ne_nil_b];done)|(simp [ne_nil_b, *];done),by repeat (first|exact Drawn0.refl _|apply Drawn0.step)⟩
end
section
/-! ### impl_Conn_acknowledge: function 121 -/
def impl_Conn_acknowledge.f (s0_0:ByteArray) (s0_1 s0_2:Int) (s0_3 s0_4:Int) (s0_5 s0_6 s0_7:Int) (s0_8 s0_9:ByteArray) (s0_10:Bool) (a1:Int):Option (ByteArray × Int × Int × Int × Int × Int × Int × Int × ByteArray × ByteArray × Bool):=(impl_behind.f a1 s0_5).bind fun t1239 => ((impl_behind.f s0_6 s0_5).bind fun t1240 => ((impl_within.f t1239 1 t1240).bind fun t1241 => (if t1241 = true then (if s0_4 = 1 then (some (s0_0,s0_1,s0_2,s0_3,2,a1,s0_6,s0_7,s0_8,s0_9,s0_10)) else (if t1239 > (s0_9.size:Int) then (some (s0_0,s0_1,s0_2,s0_3,4,a1,s0_6,s0_7,s0_8,(⟨#[]⟩:ByteArray),false)) else (if 0≤t1239 then (if t1239≤(s0_9.size:Int) then (some (s0_0,s0_1,s0_2,s0_3,s0_4,a1,s0_6,s0_7,s0_8,s0_9.extract (t1239:Int).toNat s0_9.size,s0_10)) else (none)) else (none)))) else (some (s0_0,s0_1,s0_2,s0_3,s0_4,s0_5,s0_6,s0_7,s0_8,s0_9,s0_10)))))
set_option maxHeartbeats 8000000 in
set_option maxRecDepth 100000 in
theorem impl_Conn_acknowledge.calls (g:Nat) (s0_0:ByteArray) (s0_1 s0_2:Int) (s0_3 s0_4:Int) (s0_5 s0_6 s0_7:Int) (s0_8 s0_9:ByteArray) (s0_10:Bool) (a1:Int) (r1:ByteArray) (r2 r3:Int) (r4 r5:Int) (r6 r7 r8:Int) (r9 r10:ByteArray) (r11:Bool) (w0 w:World) (hI:IsS34 w0 w g s0_0 s0_1 s0_2 s0_3 s0_4 s0_5 s0_6 s0_7 s0_8 s0_9 s0_10) (hB:Below w0.heap.size w0 w) (h:impl_Conn_acknowledge.f s0_0 s0_1 s0_2 s0_3 s0_4 s0_5 s0_6 s0_7 s0_8 s0_9 s0_10 a1 = some (r1,r2,r3,r4,r5,r6,r7,r8,r9,r10,r11)) :
  Calls Try.prog 121 #[.pointer (some ⟨g,0,none⟩),.int .i64 a1] w fun e w' => e = .returned (.tuple #[])∧IsS34 w0 w' g r1 r2 r3 r4 r5 r6 r7 r8 r9 r10 r11∧Below w0.heap.size w0 w'∧KeepBut w w' g none:=by
 have HI0:=aMk hI
 have HK:=aMk (KeepBut.refl w g none)
 have HL:=aMk hB.size
 clear hI
 have HW0:=aMk hB.size
 have HB:=aMk hB
 clear hB
 have H:=h
 unfold impl_Conn_acknowledge.f at H
 clear h
 replace H:=Option.bind_eq_some_iff.mp H
 obtain ⟨t1239,A30,H⟩:=H
 try dsimp only at H
 have A3:=aMk A30
 clear A30
 replace H:=Option.bind_eq_some_iff.mp H
 obtain ⟨t1240,A40,H⟩:=H
 try dsimp only at H
 have A4:=aMk A40
 clear A40
 replace H:=Option.bind_eq_some_iff.mp H
 obtain ⟨t1241,A50,H⟩:=H
 try dsimp only at H
 have A5:=aMk A50
 clear A50
 by_cases c6:t1241 = true
 ·subst c6
  have H1:=H
  rw [if_pos rfl] at H1
  clear H
  have H:=H1
  clear H1
  by_cases c7:s0_4 = 1
  ·rw [if_pos c7] at H
   have c7b0:(s0_4 == 1) = true:=beq_iff_eq.mpr c7
   have c7b1:(s0_4 != 1) = false:=bne_eq_false_iff_eq.mpr c7
   clear c7
   simp only [Option.some.injEq,Prod.mk.injEq] at H
   obtain ⟨rfl,rfl,rfl,rfl,rfl,rfl,rfl,rfl,rfl,rfl,rfl⟩:=H
   obtain ⟨HGz8,hgz8⟩:=HI0.out
   have Z8_0:=cellS34_0 HGz8
   have Z8_1:=cellS34_1 HGz8
   have Z8_2:=cellS34_2 HGz8
   have Z8_3:=cellS34_3 HGz8
   have Z8_4:=cellS34_4 HGz8
   have Z8_5:=cellS34_5 HGz8
   have Z8_6:=cellS34_6 HGz8
   have Z8_7:=cellS34_7 HGz8
   have Z8_8:=cellS34_8 HGz8
   have Z8_9:=cellS34_9 HGz8
   have Z8_10:=cellS34_10 HGz8
   have Y8_0:=bFr HGz8 0
   have Y8_1:=bFr HGz8 1
   have Y8_2:=bFr HGz8 2
   have Y8_3:=bFr HGz8 3
   have Y8_4:=bFr HGz8 4
   have Y8_5:=bFr HGz8 5
   have Y8_6:=bFr HGz8 6
   have Y8_7:=bFr HGz8 7
   have Y8_8:=bFr HGz8 8
   have Y8_9:=bFr HGz8 9
   have Y8_10:=bFr HGz8 10
   clear HGz8 hgz8
   go_enter Try.func121,Try.ntmps121
   go_wp2_with (first|(go_at_call 63;(with_reducible refine (impl_behind.calls a1 s0_5 t1239 _ A3.out).mono ?_);rintro e w' ⟨rfl,⟨nd,rfl⟩⟩;(try first|exact ⟨rfl,_,World.drewN_drewN _ _ _⟩|exact ⟨rfl,_,Eq.trans (World.drewN_drewN _ _ _) (congrArg (World.drewN _) (Nat.add_assoc _ _ _))⟩))|(go_at_call 63;(with_reducible refine (impl_behind.calls s0_6 s0_5 t1240 _ A4.out).mono ?_);rintro e w' ⟨rfl,⟨nd,rfl⟩⟩;(try first|exact ⟨rfl,_,World.drewN_drewN _ _ _⟩|exact ⟨rfl,_,Eq.trans (World.drewN_drewN _ _ _) (congrArg (World.drewN _) (Nat.add_assoc _ _ _))⟩))|(go_at_call 62;(with_reducible refine (impl_within.calls t1239 1 t1240 true _ A5.out).mono ?_);rintro e w' ⟨rfl,⟨nd,rfl⟩⟩;(try first|exact ⟨rfl,_,World.drewN_drewN _ _ _⟩|exact ⟨rfl,_,Eq.trans (World.drewN_drewN _ _ _) (congrArg (World.drewN _) (Nat.add_assoc _ _ _))⟩)))
   repeat (go_quiet (first|(go_at_call 63;(with_reducible refine (impl_behind.calls a1 s0_5 t1239 _ A3.out).mono ?_);rintro e w' ⟨rfl,⟨nd,rfl⟩⟩;(try first|exact ⟨rfl,_,World.drewN_drewN _ _ _⟩|exact ⟨rfl,_,Eq.trans (World.drewN_drewN _ _ _) (congrArg (World.drewN _) (Nat.add_assoc _ _ _))⟩))|(go_at_call 63;(with_reducible refine (impl_behind.calls s0_6 s0_5 t1240 _ A4.out).mono ?_);rintro e w' ⟨rfl,⟨nd,rfl⟩⟩;(try first|exact ⟨rfl,_,World.drewN_drewN _ _ _⟩|exact ⟨rfl,_,Eq.trans (World.drewN_drewN _ _ _) (congrArg (World.drewN _) (Nat.add_assoc _ _ _))⟩))|(go_at_call 62;(with_reducible refine (impl_within.calls t1239 1 t1240 true _ A5.out).mono ?_);rintro e w' ⟨rfl,⟨nd,rfl⟩⟩;(try first|exact ⟨rfl,_,World.drewN_drewN _ _ _⟩|exact ⟨rfl,_,Eq.trans (World.drewN_drewN _ _ _) (congrArg (World.drewN _) (Nat.add_assoc _ _ _))⟩)));try go_wp2_with (first|(go_at_call 63;(with_reducible refine (impl_behind.calls a1 s0_5 t1239 _ A3.out).mono ?_);rintro e w' ⟨rfl,⟨nd,rfl⟩⟩;(try first|exact ⟨rfl,_,World.drewN_drewN _ _ _⟩|exact ⟨rfl,_,Eq.trans (World.drewN_drewN _ _ _) (congrArg (World.drewN _) (Nat.add_assoc _ _ _))⟩))|(go_at_call 63;(with_reducible refine (impl_behind.calls s0_6 s0_5 t1240 _ A4.out).mono ?_);rintro e w' ⟨rfl,⟨nd,rfl⟩⟩;(try first|exact ⟨rfl,_,World.drewN_drewN _ _ _⟩|exact ⟨rfl,_,Eq.trans (World.drewN_drewN _ _ _) (congrArg (World.drewN _) (Nat.add_assoc _ _ _))⟩))|(go_at_call 62;(with_reducible refine (impl_within.calls t1239 1 t1240 true _ A5.out).mono ?_);rintro e w' ⟨rfl,⟨nd,rfl⟩⟩;(try first|exact ⟨rfl,_,World.drewN_drewN _ _ _⟩|exact ⟨rfl,_,Eq.trans (World.drewN_drewN _ _ _) (congrArg (World.drewN _) (Nat.add_assoc _ _ _))⟩))))
   first | go_end0|((try simp only [Exit.inBlock,Exit.then]);refine bodyPost_ret (results_none rfl _ _ _) rfl ?_)
   exact ⟨eRf,by repeat (first|(with_reducible first|exact HI0.out|apply IsS34.alloc|apply IsS34.drewN|apply IsS34.drew|apply IsS34.set_0|apply IsS34.set_1|apply IsS34.set_2|apply IsS34.set_3|apply IsS34.set_4|apply IsS34.set_5|apply IsS34.set_6|apply IsS34.set_7|apply IsS34.set_8|apply IsS34.set_9|apply IsS34.set_10)|exact HI0.out),bW34,by repeat (first|(with_reducible first|exact HK.out|apply KeepBut.set_|apply keep_drewN|apply keep_drew|apply keep_alloc)|exact HK.out)⟩
  ·rw [if_neg c7] at H
   have c7b0:(s0_4 == 1) = false:=beq_eq_false_iff_ne.mpr c7
   have c7b1:(s0_4 != 1) = true:=bne_iff_ne.mpr c7
   by_cases c9:t1239 > (s0_9.size:Int)
   ·rw [if_pos c9] at H
    have c9b0:decide ((s0_9.size:Int) < t1239) = true:=decide_eq_true c9
    clear c9
    simp only [Option.some.injEq,Prod.mk.injEq] at H
    obtain ⟨rfl,rfl,rfl,rfl,rfl,rfl,rfl,rfl,rfl,rfl,rfl⟩:=H
    obtain ⟨HGz10,hgz10⟩:=HI0.out
    have Z10_0:=cellS34_0 HGz10
    have Z10_1:=cellS34_1 HGz10
    have Z10_2:=cellS34_2 HGz10
    have Z10_3:=cellS34_3 HGz10
    have Z10_4:=cellS34_4 HGz10
    have Z10_5:=cellS34_5 HGz10
    have Z10_6:=cellS34_6 HGz10
    have Z10_7:=cellS34_7 HGz10
    have Z10_8:=cellS34_8 HGz10
    have Z10_9:=cellS34_9 HGz10
    have Z10_10:=cellS34_10 HGz10
    have Y10_0:=bFr HGz10 0
    have Y10_1:=bFr HGz10 1
    have Y10_2:=bFr HGz10 2
    have Y10_3:=bFr HGz10 3
    have Y10_4:=bFr HGz10 4
    have Y10_5:=bFr HGz10 5
    have Y10_6:=bFr HGz10 6
    have Y10_7:=bFr HGz10 7
    have Y10_8:=bFr HGz10 8
    have Y10_9:=bFr HGz10 9
    have Y10_10:=bFr HGz10 10
    clear HGz10 hgz10
    go_enter Try.func121,Try.ntmps121
    go_wp2_with (first|(go_at_call 63;(with_reducible refine (impl_behind.calls a1 s0_5 t1239 _ A3.out).mono ?_);rintro e w' ⟨rfl,⟨nd,rfl⟩⟩;(try first|exact ⟨rfl,_,World.drewN_drewN _ _ _⟩|exact ⟨rfl,_,Eq.trans (World.drewN_drewN _ _ _) (congrArg (World.drewN _) (Nat.add_assoc _ _ _))⟩))|(go_at_call 63;(with_reducible refine (impl_behind.calls s0_6 s0_5 t1240 _ A4.out).mono ?_);rintro e w' ⟨rfl,⟨nd,rfl⟩⟩;(try first|exact ⟨rfl,_,World.drewN_drewN _ _ _⟩|exact ⟨rfl,_,Eq.trans (World.drewN_drewN _ _ _) (congrArg (World.drewN _) (Nat.add_assoc _ _ _))⟩))|(go_at_call 62;(with_reducible refine (impl_within.calls t1239 1 t1240 true _ A5.out).mono ?_);rintro e w' ⟨rfl,⟨nd,rfl⟩⟩;(try first|exact ⟨rfl,_,World.drewN_drewN _ _ _⟩|exact ⟨rfl,_,Eq.trans (World.drewN_drewN _ _ _) (congrArg (World.drewN _) (Nat.add_assoc _ _ _))⟩)))
    repeat (go_quiet (first|(go_at_call 63;(with_reducible refine (impl_behind.calls a1 s0_5 t1239 _ A3.out).mono ?_);rintro e w' ⟨rfl,⟨nd,rfl⟩⟩;(try first|exact ⟨rfl,_,World.drewN_drewN _ _ _⟩|exact ⟨rfl,_,Eq.trans (World.drewN_drewN _ _ _) (congrArg (World.drewN _) (Nat.add_assoc _ _ _))⟩))|(go_at_call 63;(with_reducible refine (impl_behind.calls s0_6 s0_5 t1240 _ A4.out).mono ?_);rintro e w' ⟨rfl,⟨nd,rfl⟩⟩;(try first|exact ⟨rfl,_,World.drewN_drewN _ _ _⟩|exact ⟨rfl,_,Eq.trans (World.drewN_drewN _ _ _) (congrArg (World.drewN _) (Nat.add_assoc _ _ _))⟩))|(go_at_call 62;(with_reducible refine (impl_within.calls t1239 1 t1240 true _ A5.out).mono ?_);rintro e w' ⟨rfl,⟨nd,rfl⟩⟩;(try first|exact ⟨rfl,_,World.drewN_drewN _ _ _⟩|exact ⟨rfl,_,Eq.trans (World.drewN_drewN _ _ _) (congrArg (World.drewN _) (Nat.add_assoc _ _ _))⟩)));try go_wp2_with (first|(go_at_call 63;(with_reducible refine (impl_behind.calls a1 s0_5 t1239 _ A3.out).mono ?_);rintro e w' ⟨rfl,⟨nd,rfl⟩⟩;(try first|exact ⟨rfl,_,World.drewN_drewN _ _ _⟩|exact ⟨rfl,_,Eq.trans (World.drewN_drewN _ _ _) (congrArg (World.drewN _) (Nat.add_assoc _ _ _))⟩))|(go_at_call 63;(with_reducible refine (impl_behind.calls s0_6 s0_5 t1240 _ A4.out).mono ?_);rintro e w' ⟨rfl,⟨nd,rfl⟩⟩;(try first|exact ⟨rfl,_,World.drewN_drewN _ _ _⟩|exact ⟨rfl,_,Eq.trans (World.drewN_drewN _ _ _) (congrArg (World.drewN _) (Nat.add_assoc _ _ _))⟩))|(go_at_call 62;(with_reducible refine (impl_within.calls t1239 1 t1240 true _ A5.out).mono ?_);rintro e w' ⟨rfl,⟨nd,rfl⟩⟩;(try first|exact ⟨rfl,_,World.drewN_drewN _ _ _⟩|exact ⟨rfl,_,Eq.trans (World.drewN_drewN _ _ _) (congrArg (World.drewN _) (Nat.add_assoc _ _ _))⟩))))
    first | go_end0|((try simp only [Exit.inBlock,Exit.then]);refine bodyPost_ret (results_none rfl _ _ _) rfl ?_)
    exact ⟨eRf,by repeat (first|(with_reducible first|exact HI0.out|apply IsS34.alloc|apply IsS34.drewN|apply IsS34.drew|apply IsS34.set_0|apply IsS34.set_1|apply IsS34.set_2|apply IsS34.set_3|apply IsS34.set_4|apply IsS34.set_5|apply IsS34.set_6|apply IsS34.set_7|apply IsS34.set_8|apply IsS34.set_9|apply IsS34.set_10)|exact HI0.out),bW34,by repeat (first|(with_reducible first|exact HK.out|apply KeepBut.set_|apply keep_drewN|apply keep_drew|apply keep_alloc)|exact HK.out)⟩
   ·rw [if_neg c9] at H
    have c9b0:decide ((s0_9.size:Int) < t1239) = false:=decide_eq_false c9
    clear c9
    by_cases c11:0≤t1239
    ·rw [if_pos c11] at H
     have c11b0:=eq_true c11
     have c11b1:decide (0≤t1239) = true:=decide_eq_true c11
     clear c11
     by_cases c12:t1239≤(s0_9.size:Int)
     ·rw [if_pos c12] at H
      have c12b0:=eq_true c12
      have c12b1:decide (t1239≤(s0_9.size:Int)) = true:=decide_eq_true c12
      clear c12
      simp only [Option.some.injEq,Prod.mk.injEq] at H
      obtain ⟨rfl,rfl,rfl,rfl,rfl,rfl,rfl,rfl,rfl,rfl,rfl⟩:=H
      obtain ⟨HGz13,hgz13⟩:=HI0.out
      have Z13_0:=cellS34_0 HGz13
      have Z13_1:=cellS34_1 HGz13
      have Z13_2:=cellS34_2 HGz13
      have Z13_3:=cellS34_3 HGz13
      have Z13_4:=cellS34_4 HGz13
      have Z13_5:=cellS34_5 HGz13
      have Z13_6:=cellS34_6 HGz13
      have Z13_7:=cellS34_7 HGz13
      have Z13_8:=cellS34_8 HGz13
      have Z13_9:=cellS34_9 HGz13
      have Z13_10:=cellS34_10 HGz13
      have Y13_0:=bFr HGz13 0
      have Y13_1:=bFr HGz13 1
      have Y13_2:=bFr HGz13 2
      have Y13_3:=bFr HGz13 3
      have Y13_4:=bFr HGz13 4
      have Y13_5:=bFr HGz13 5
      have Y13_6:=bFr HGz13 6
      have Y13_7:=bFr HGz13 7
      have Y13_8:=bFr HGz13 8
      have Y13_9:=bFr HGz13 9
      have Y13_10:=bFr HGz13 10
      clear HGz13 hgz13
      go_enter Try.func121,Try.ntmps121
      go_wp2_with (first|(go_at_call 63;(with_reducible refine (impl_behind.calls a1 s0_5 t1239 _ A3.out).mono ?_);rintro e w' ⟨rfl,⟨nd,rfl⟩⟩;(try first|exact ⟨rfl,_,World.drewN_drewN _ _ _⟩|exact ⟨rfl,_,Eq.trans (World.drewN_drewN _ _ _) (congrArg (World.drewN _) (Nat.add_assoc _ _ _))⟩))|(go_at_call 63;(with_reducible refine (impl_behind.calls s0_6 s0_5 t1240 _ A4.out).mono ?_);rintro e w' ⟨rfl,⟨nd,rfl⟩⟩;(try first|exact ⟨rfl,_,World.drewN_drewN _ _ _⟩|exact ⟨rfl,_,Eq.trans (World.drewN_drewN _ _ _) (congrArg (World.drewN _) (Nat.add_assoc _ _ _))⟩))|(go_at_call 62;(with_reducible refine (impl_within.calls t1239 1 t1240 true _ A5.out).mono ?_);rintro e w' ⟨rfl,⟨nd,rfl⟩⟩;(try first|exact ⟨rfl,_,World.drewN_drewN _ _ _⟩|exact ⟨rfl,_,Eq.trans (World.drewN_drewN _ _ _) (congrArg (World.drewN _) (Nat.add_assoc _ _ _))⟩)))
      repeat (go_quiet (first|(go_at_call 63;(with_reducible refine (impl_behind.calls a1 s0_5 t1239 _ A3.out).mono ?_);rintro e w' ⟨rfl,⟨nd,rfl⟩⟩;(try first|exact ⟨rfl,_,World.drewN_drewN _ _ _⟩|exact ⟨rfl,_,Eq.trans (World.drewN_drewN _ _ _) (congrArg (World.drewN _) (Nat.add_assoc _ _ _))⟩))|(go_at_call 63;(with_reducible refine (impl_behind.calls s0_6 s0_5 t1240 _ A4.out).mono ?_);rintro e w' ⟨rfl,⟨nd,rfl⟩⟩;(try first|exact ⟨rfl,_,World.drewN_drewN _ _ _⟩|exact ⟨rfl,_,Eq.trans (World.drewN_drewN _ _ _) (congrArg (World.drewN _) (Nat.add_assoc _ _ _))⟩))|(go_at_call 62;(with_reducible refine (impl_within.calls t1239 1 t1240 true _ A5.out).mono ?_);rintro e w' ⟨rfl,⟨nd,rfl⟩⟩;(try first|exact ⟨rfl,_,World.drewN_drewN _ _ _⟩|exact ⟨rfl,_,Eq.trans (World.drewN_drewN _ _ _) (congrArg (World.drewN _) (Nat.add_assoc _ _ _))⟩)));try go_wp2_with (first|(go_at_call 63;(with_reducible refine (impl_behind.calls a1 s0_5 t1239 _ A3.out).mono ?_);rintro e w' ⟨rfl,⟨nd,rfl⟩⟩;(try first|exact ⟨rfl,_,World.drewN_drewN _ _ _⟩|exact ⟨rfl,_,Eq.trans (World.drewN_drewN _ _ _) (congrArg (World.drewN _) (Nat.add_assoc _ _ _))⟩))|(go_at_call 63;(with_reducible refine (impl_behind.calls s0_6 s0_5 t1240 _ A4.out).mono ?_);rintro e w' ⟨rfl,⟨nd,rfl⟩⟩;(try first|exact ⟨rfl,_,World.drewN_drewN _ _ _⟩|exact ⟨rfl,_,Eq.trans (World.drewN_drewN _ _ _) (congrArg (World.drewN _) (Nat.add_assoc _ _ _))⟩))|(go_at_call 62;(with_reducible refine (impl_within.calls t1239 1 t1240 true _ A5.out).mono ?_);rintro e w' ⟨rfl,⟨nd,rfl⟩⟩;(try first|exact ⟨rfl,_,World.drewN_drewN _ _ _⟩|exact ⟨rfl,_,Eq.trans (World.drewN_drewN _ _ _) (congrArg (World.drewN _) (Nat.add_assoc _ _ _))⟩))))
      first | go_end0|((try simp only [Exit.inBlock,Exit.then]);refine bodyPost_ret (results_none rfl _ _ _) rfl ?_)
      exact ⟨eRf,by repeat (first|(with_reducible first|exact HI0.out|apply IsS34.alloc|apply IsS34.drewN|apply IsS34.drew|apply IsS34.set_0|apply IsS34.set_1|apply IsS34.set_2|apply IsS34.set_3|apply IsS34.set_4|apply IsS34.set_5|apply IsS34.set_6|apply IsS34.set_7|apply IsS34.set_8|apply IsS34.set_9|apply IsS34.set_10)|exact HI0.out),bW34,by repeat (first|(with_reducible first|exact HK.out|apply KeepBut.set_|apply keep_drewN|apply keep_drew|apply keep_alloc)|exact HK.out)⟩
     ·rw [if_neg c12] at H
      exact absurd H (by simp)
    ·rw [if_neg c11] at H
     exact absurd H (by simp)
 ·replace c6:=Bool.eq_false_iff.mpr c6
  subst c6
  have H1:=H
  rw [if_neg (show ¬ (false = true) by decide)] at H1
  clear H
  have H:=H1
  clear H1
  simp only [Option.some.injEq,Prod.mk.injEq] at H
  obtain ⟨rfl,rfl,rfl,rfl,rfl,rfl,rfl,rfl,rfl,rfl,rfl⟩:=H
  obtain ⟨HGz14,hgz14⟩:=HI0.out
  have Z14_0:=cellS34_0 HGz14
  have Z14_1:=cellS34_1 HGz14
  have Z14_2:=cellS34_2 HGz14
  have Z14_3:=cellS34_3 HGz14
  have Z14_4:=cellS34_4 HGz14
  have Z14_5:=cellS34_5 HGz14
  have Z14_6:=cellS34_6 HGz14
  have Z14_7:=cellS34_7 HGz14
  have Z14_8:=cellS34_8 HGz14
  have Z14_9:=cellS34_9 HGz14
  have Z14_10:=cellS34_10 HGz14
  have Y14_0:=bFr HGz14 0
  have Y14_1:=bFr HGz14 1
  have Y14_2:=bFr HGz14 2
  have Y14_3:=bFr HGz14 3
  have Y14_4:=bFr HGz14 4
  have Y14_5:=bFr HGz14 5
  have Y14_6:=bFr HGz14 6
  have Y14_7:=bFr HGz14 7
  have Y14_8:=bFr HGz14 8
  have Y14_9:=bFr HGz14 9
  have Y14_10:=bFr HGz14 10
  clear HGz14 hgz14
  go_enter Try.func121,Try.ntmps121
  go_wp2_with (first|(go_at_call 63;(with_reducible refine (impl_behind.calls a1 s0_5 t1239 _ A3.out).mono ?_);rintro e w' ⟨rfl,⟨nd,rfl⟩⟩;(try first|exact ⟨rfl,_,World.drewN_drewN _ _ _⟩|exact ⟨rfl,_,Eq.trans (World.drewN_drewN _ _ _) (congrArg (World.drewN _) (Nat.add_assoc _ _ _))⟩))|(go_at_call 63;(with_reducible refine (impl_behind.calls s0_6 s0_5 t1240 _ A4.out).mono ?_);rintro e w' ⟨rfl,⟨nd,rfl⟩⟩;(try first|exact ⟨rfl,_,World.drewN_drewN _ _ _⟩|exact ⟨rfl,_,Eq.trans (World.drewN_drewN _ _ _) (congrArg (World.drewN _) (Nat.add_assoc _ _ _))⟩))|(go_at_call 62;(with_reducible refine (impl_within.calls t1239 1 t1240 false _ A5.out).mono ?_);rintro e w' ⟨rfl,⟨nd,rfl⟩⟩;(try first|exact ⟨rfl,_,World.drewN_drewN _ _ _⟩|exact ⟨rfl,_,Eq.trans (World.drewN_drewN _ _ _) (congrArg (World.drewN _) (Nat.add_assoc _ _ _))⟩)))
  repeat (go_quiet (first|(go_at_call 63;(with_reducible refine (impl_behind.calls a1 s0_5 t1239 _ A3.out).mono ?_);rintro e w' ⟨rfl,⟨nd,rfl⟩⟩;(try first|exact ⟨rfl,_,World.drewN_drewN _ _ _⟩|exact ⟨rfl,_,Eq.trans (World.drewN_drewN _ _ _) (congrArg (World.drewN _) (Nat.add_assoc _ _ _))⟩))|(go_at_call 63;(with_reducible refine (impl_behind.calls s0_6 s0_5 t1240 _ A4.out).mono ?_);rintro e w' ⟨rfl,⟨nd,rfl⟩⟩;(try first|exact ⟨rfl,_,World.drewN_drewN _ _ _⟩|exact ⟨rfl,_,Eq.trans (World.drewN_drewN _ _ _) (congrArg (World.drewN _) (Nat.add_assoc _ _ _))⟩))|(go_at_call 62;(with_reducible refine (impl_within.calls t1239 1 t1240 false _ A5.out).mono ?_);rintro e w' ⟨rfl,⟨nd,rfl⟩⟩;(try first|exact ⟨rfl,_,World.drewN_drewN _ _ _⟩|exact ⟨rfl,_,Eq.trans (World.drewN_drewN _ _ _) (congrArg (World.drewN _) (Nat.add_assoc _ _ _))⟩)));try go_wp2_with (first|(go_at_call 63;(with_reducible refine (impl_behind.calls a1 s0_5 t1239 _ A3.out).mono ?_);rintro e w' ⟨rfl,⟨nd,rfl⟩⟩;(try first|exact ⟨rfl,_,World.drewN_drewN _ _ _⟩|exact ⟨rfl,_,Eq.trans (World.drewN_drewN _ _ _) (congrArg (World.drewN _) (Nat.add_assoc _ _ _))⟩))|(go_at_call 63;(with_reducible refine (impl_behind.calls s0_6 s0_5 t1240 _ A4.out).mono ?_);rintro e w' ⟨rfl,⟨nd,rfl⟩⟩;(try first|exact ⟨rfl,_,World.drewN_drewN _ _ _⟩|exact ⟨rfl,_,Eq.trans (World.drewN_drewN _ _ _) (congrArg (World.drewN _) (Nat.add_assoc _ _ _))⟩))|(go_at_call 62;(with_reducible refine (impl_within.calls t1239 1 t1240 false _ A5.out).mono ?_);rintro e w' ⟨rfl,⟨nd,rfl⟩⟩;(try first|exact ⟨rfl,_,World.drewN_drewN _ _ _⟩|exact ⟨rfl,_,Eq.trans (World.drewN_drewN _ _ _) (congrArg (World.drewN _) (Nat.add_assoc _ _ _))⟩))))
  first | go_end0|((try simp only [Exit.inBlock,Exit.then]);refine bodyPost_ret (results_none rfl _ _ _) rfl ?_)
  exact ⟨eRf,by repeat (first|(with_reducible first|exact HI0.out|apply IsS34.alloc|apply IsS34.drewN|apply IsS34.drew|apply IsS34.set_0|apply IsS34.set_1|apply IsS34.set_2|apply IsS34.set_3|apply IsS34.set_4|apply IsS34.set_5|apply IsS34.set_6|apply IsS34.set_7|apply IsS34.set_8|apply IsS34.set_9|apply IsS34.set_10)|exact HI0.out),bW34,by repeat (first|(with_reducible first|exact HK.out|apply KeepBut.set_|apply keep_drewN|apply keep_drew|apply keep_alloc)|exact HK.out)⟩
end
section
/-! ### impl_oneIf: function 74 -/
def impl_oneIf.f (a0:Bool):Option (Int):=if a0 = true then (some 1) else (some 0)
set_option maxHeartbeats 8000000 in
set_option maxRecDepth 100000 in
theorem impl_oneIf.calls (a0:Bool) (r:Int) (w:World) (h:impl_oneIf.f a0 = some r) :
  Calls Try.prog 74 #[.bool a0] w fun e w' => e = .returned (.int .i64 r)∧Drawn0 w w':=by
 have H:=h
 unfold impl_oneIf.f at H
 clear h
 by_cases c2:a0 = true
 ·subst c2
  have H1:=H
  rw [if_pos rfl] at H1
  clear H
  have H:=H1
  clear H1
  obtain rfl:=Option.some.inj H
  go_enter Try.func74,Try.ntmps74
  go_wp2
  go_ret
  exact ⟨by first | rfl|(simp;done)|(simp [*];done)|(simp [ne_nil_b];done)|(simp [ne_nil_b, *];done),by repeat (first|exact Drawn0.refl _|apply Drawn0.step)⟩
 ·replace c2:=Bool.eq_false_iff.mpr c2
  subst c2
  have H1:=H
  rw [if_neg (show ¬ (false = true) by decide)] at H1
  clear H
  have H:=H1
  clear H1
  obtain rfl:=Option.some.inj H
  go_enter Try.func74,Try.ntmps74
  go_wp2
  go_ret
  exact ⟨by first | rfl|(simp;done)|(simp [*];done)|(simp [ne_nil_b];done)|(simp [ne_nil_b, *];done),by repeat (first|exact Drawn0.refl _|apply Drawn0.step)⟩
end
section
/-! ### impl_Conn_opened: function 87 -/
def impl_Conn_opened.f (s0_0:ByteArray) (s0_1 s0_2:Int) (s0_3 s0_4:Int) (s0_5 s0_6 s0_7:Int) (s0_8 s0_9:ByteArray) (s0_10:Bool):Option ((List (S53))):=(impl_Conn_tell.f s0_0 s0_1 s0_2 s0_3 s0_4 s0_5 s0_6 s0_7 s0_8 s0_9 s0_10 s0_5 18 (⟨#[]⟩:ByteArray)).bind fun bt407 => (some (([(⟨bt407.1,bt407.2.1,bt407.2.2.1,bt407.2.2.2.1,bt407.2.2.2.2.1,bt407.2.2.2.2.2.1,bt407.2.2.2.2.2.2⟩:S53)]:List (S53))))
set_option maxHeartbeats 8000000 in
set_option maxRecDepth 100000 in
theorem impl_Conn_opened.calls (g:Nat) (s0_0:ByteArray) (s0_1 s0_2:Int) (s0_3 s0_4:Int) (s0_5 s0_6 s0_7:Int) (s0_8 s0_9:ByteArray) (s0_10:Bool) (r:List (S53)) (w0 w:World) (hI:IsS34 w0 w g s0_0 s0_1 s0_2 s0_3 s0_4 s0_5 s0_6 s0_7 s0_8 s0_9 s0_10) (hB:Below w0.heap.size w0 w) (h:impl_Conn_opened.f s0_0 s0_1 s0_2 s0_3 s0_4 s0_5 s0_6 s0_7 s0_8 s0_9 s0_10 = some r) :
  Calls Try.prog 87 #[.pointer (some ⟨g,0,none⟩)] w fun e w' => ∃ v0_:Value,e = .returned (v0_)∧Kd.R k53 53 w' w.heap.size (fun _ => True) v0_ r∧IsS34 w0 w' g s0_0 s0_1 s0_2 s0_3 s0_4 s0_5 s0_6 s0_7 s0_8 s0_9 s0_10∧Below w0.heap.size w0 w'∧KeepBut w w' g none:=by
 have HI0:=aMk hI
 have HK:=aMk (KeepBut.refl w g none)
 have HL:=aMk hB.size
 clear hI
 have HW0:=aMk hB.size
 have HB:=aMk hB
 clear hB
 have H:=h
 unfold impl_Conn_opened.f at H
 clear h
 replace H:=Option.bind_eq_some_iff.mp H
 obtain ⟨⟨t407,t408,t409,t410,t411,t412,t413⟩,A20,H⟩:=H
 try dsimp only at H
 have A2:=aMk A20
 clear A20
 obtain ⟨y414,hy414⟩:∃ y_:List (S53),y_ = (([(⟨t407,t408,t409,t410,t411,t412,t413⟩:S53)]:List (S53))):=⟨_,rfl⟩
 replace H:(some y414) = some r:=by first|(rw [hy414];with_reducible exact H)|(have H2_:=(Option.bind_some _ _).symm.trans H;rw [hy414];with_reducible exact H2_)|(have H2_:=(Option.bind_some _ _).symm.trans H;with_reducible exact H2_) | with_reducible exact H|(rw [hy414];exact H)|exact H
 have Ny414:=aMk hy414
 clear hy414
 obtain rfl:=Option.some.inj H
 obtain ⟨HGz3,hgz3⟩:=HI0.out
 have Z3_0:=cellS34_0 HGz3
 have Z3_1:=cellS34_1 HGz3
 have Z3_2:=cellS34_2 HGz3
 have Z3_3:=cellS34_3 HGz3
 have Z3_4:=cellS34_4 HGz3
 have Z3_5:=cellS34_5 HGz3
 have Z3_6:=cellS34_6 HGz3
 have Z3_7:=cellS34_7 HGz3
 have Z3_8:=cellS34_8 HGz3
 have Z3_9:=cellS34_9 HGz3
 have Z3_10:=cellS34_10 HGz3
 have Y3_0:=bFr HGz3 0
 have Y3_1:=bFr HGz3 1
 have Y3_2:=bFr HGz3 2
 have Y3_3:=bFr HGz3 3
 have Y3_4:=bFr HGz3 4
 have Y3_5:=bFr HGz3 5
 have Y3_6:=bFr HGz3 6
 have Y3_7:=bFr HGz3 7
 have Y3_8:=bFr HGz3 8
 have Y3_9:=bFr HGz3 9
 have Y3_10:=bFr HGz3 10
 clear HGz3 hgz3
 go_enter Try.func87,Try.ntmps87
 go_wp2_with (first|((with_reducible refine gate_callee (f:=113) rfl ?_);refine gLs 8 Try.func113 #[.pointer (some ⟨g,0,none⟩),.int .i64 s0_5,.int .i64 18,.string (⟨#[]⟩:ByteArray)] ?_;(with_reducible refine (impl_Conn_tell.calls g s0_0 s0_1 s0_2 s0_3 s0_4 s0_5 s0_6 s0_7 s0_8 s0_9 s0_10 s0_5 18 (⟨#[]⟩:ByteArray) t407 t408 t409 t410 t411 t412 t413 w0 _ ?side1 ?side2 A2.out).mono ?_);(case side1 => exact iQ34 HI0.out);(case side2 => repeat (first|(with_reducible first|exact HB.out|apply bwA|apply bwN|apply bw1|refine below_set ?_ (IsS34.ge HI0.out))|exact HB.out));rintro e w4 ⟨rfl,hi,hb,hk⟩;refine ⟨_,rfl,?_⟩;replace HK:=aMk (KeepBut.trans (kQ HK.out) hk (.inl rfl));replace HB:=aMk (hb);replace HI0:=aMk (hi))|((with_reducible refine gate_dst (N:=9) rfl ?_);refine Kd.R_lit k53 _ 53 ?hg (N:=9) ?hd (xs:=([(⟨t407,t408,t409,t410,t411,t412,t413⟩:S53)]:List (S53))) (inner:=[.int .i64 t407,.int .i64 t408,.int .i64 t409,.int .i64 t410,.int .i64 t411,.int .i64 t412,.string t413]) (ok:=fun _ => True) (okp:=fun _ => True) ?hr ?hp (fun _ hk => hk) trivial (Below.refl _ _) (Nat.le_refl _) (by simp) ?_;(case hd => rfl);(case hg => rfl);(case hr => first|(go_simp;done)|(go_simp;rfl));(case hp => exact (Reps.c7 (show Kd.M k53 _ _ _ (⟨t407,t408,t409,t410,t411,t412,t413⟩:S53) [.int .i64 t407,.int .i64 t408,.int .i64 t409,.int .i64 t410,.int .i64 t411,.int .i64 t412,.string t413] from (k53_mkM _ _ _ (⟨t407,t408,t409,t410,t411,t412,t413⟩:S53) )) (Reps.none _ _)));intro v415 w5 ho6 hb hg_ hnew_;clear hg_ hnew_;(first|rw [← Ny414.out] at ho6|(simp only [Int.reduceToNat] at ho6;rw [← Ny414.out] at ho6));have HO416:=aMk (Kd.R_lower ho6 (keep_size (w:=w) (g:=g) (row:=none) (kQ HK.out)));replace HI0:=aMk (IsS34.below (iQ34 HI0.out) hb);replace HK:=aMk (KeepBut.trans (kQ HK.out) (KeepBut.of_below hb g none) (.inl rfl));replace HB:=aMk (below_step bW34 hb);clear hb ho6))
 go_ret
 exact ⟨_,eRf,kR (HO416.out),by repeat (first|(with_reducible first|exact HI0.out|apply IsS34.alloc|apply IsS34.drewN|apply IsS34.drew|apply IsS34.set_0|apply IsS34.set_1|apply IsS34.set_2|apply IsS34.set_3|apply IsS34.set_4|apply IsS34.set_5|apply IsS34.set_6|apply IsS34.set_7|apply IsS34.set_8|apply IsS34.set_9|apply IsS34.set_10)|exact HI0.out),bW34,by repeat (first|(with_reducible first|exact HK.out|apply KeepBut.set_|apply keep_drewN|apply keep_drew|apply keep_alloc)|exact HK.out)⟩
end
section
/-! ### impl_Conn_take: function 104 -/
mutual
def impl_Conn_take.j1:Nat→Int→Bool→ByteArray→Int→Int→Int→Int→Int→Int→Int→ByteArray→ByteArray→Bool→Int→Int→Int→Int→Int→Int→ByteArray→Option ((List (S53)) × ByteArray × Int × Int × Int × Int × Int × Int × Int × ByteArray × ByteArray × Bool)
 | 0,_,_,_,_,_,_,_,_,_,_,_,_,_,_,_,_,_,_,_,_ => none
 | k + 1,x5,x106,x1000,x1001,x1002,x1003,x1004,x1005,x1006,x1007,x1008,x1009,x1010,x1243000,x1243001,x1243002,x1243003,x1243004,x1243005,x1243006 => if x106 = true then (some (([]:List (S53)),x1000,x1001,x1002,x1003,x1004,x1005,x1006,x1007,x1008,x1009,x1010)) else (if x1243002 = x1007 then (impl_Conn_take.j2 k x5 (decide ((wrap64 ((x1008.size:Int) + (x1243006.size:Int)))≤300)) x1000 x1001 x1002 x1003 x1004 x1005 x1006 x1007 x1008 x1009 x1010 x1243000 x1243001 x1243002 x1243003 x1243004 x1243005 x1243006) else (impl_Conn_take.j2 k x5 false x1000 x1001 x1002 x1003 x1004 x1005 x1006 x1007 x1008 x1009 x1010 x1243000 x1243001 x1243002 x1243003 x1243004 x1243005 x1243006))
def impl_Conn_take.j2:Nat→Int→Bool→ByteArray→Int→Int→Int→Int→Int→Int→Int→ByteArray→ByteArray→Bool→Int→Int→Int→Int→Int→Int→ByteArray→Option ((List (S53)) × ByteArray × Int × Int × Int × Int × Int × Int × Int × ByteArray × ByteArray × Bool)
 | 0,_,_,_,_,_,_,_,_,_,_,_,_,_,_,_,_,_,_,_,_ => none
 | k + 1,x5,x125,x1000,x1001,x1002,x1003,x1004,x1005,x1006,x1007,x1008,x1009,x1010,x1243000,x1243001,x1243002,x1243003,x1243004,x1243005,x1243006 => if x125 = true then (if x1008.size + x1243006.size≤9223372036854775807 then ((impl_onward.f x1007 (wrap64 ((x1243006.size:Int) + x5))).bind fun t1269 => ((impl_Conn_tell.f x1000 x1001 x1002 x1003 x1004 x1005 x1006 t1269 (x1008 ++ x1243006) x1009 x1010 x1006 16 (⟨#[]⟩:ByteArray)).bind fun bt1270 => (some ((([(⟨bt1270.1,bt1270.2.1,bt1270.2.2.1,bt1270.2.2.2.1,bt1270.2.2.2.2.1,bt1270.2.2.2.2.2.1,bt1270.2.2.2.2.2.2⟩:S53)]:List (S53))),x1000,x1001,x1002,x1003,x1004,x1005,x1006,t1269,x1008 ++ x1243006,x1009,x1010)))) else (none)) else ((impl_Conn_tell.f x1000 x1001 x1002 x1003 x1004 x1005 x1006 x1007 x1008 x1009 x1010 x1006 16 (⟨#[]⟩:ByteArray)).bind fun bt1280 => (some ((([(⟨bt1280.1,bt1280.2.1,bt1280.2.2.1,bt1280.2.2.2.1,bt1280.2.2.2.2.1,bt1280.2.2.2.2.2.1,bt1280.2.2.2.2.2.2⟩:S53)]:List (S53))),x1000,x1001,x1002,x1003,x1004,x1005,x1006,x1007,x1008,x1009,x1010)))
def impl_Conn_take.j0:Nat→Bool→ByteArray→Int→Int→Int→Int→Int→Int→Int→ByteArray→ByteArray→Bool→Option ((List (S53)) × ByteArray × Int × Int × Int × Int × Int × Int × Int × ByteArray × ByteArray × Bool)
 | 0,_,_,_,_,_,_,_,_,_,_,_,_ => none
 | k + 1,x62,x1000,x1001,x1002,x1003,x1004,x1005,x1006,x1007,x1008,x1009,x1010 => if x62 = true then ((impl_Conn_opened.f x1000 x1001 x1002 x1003 x1004 x1005 x1006 x1007 x1008 x1009 x1010).bind fun t1244 => (some (t1244,x1000,x1001,x1002,x1003,x1004,x1005,x1006,x1007,x1008,x1009,x1010))) else ((impl_Conn_tell.f x1000 x1001 x1002 x1003 x1004 x1005 x1006 x1007 x1008 x1009 x1010 x1006 16 (⟨#[]⟩:ByteArray)).bind fun bt1247 => (some ((([(⟨bt1247.1,bt1247.2.1,bt1247.2.2.1,bt1247.2.2.2.1,bt1247.2.2.2.2.1,bt1247.2.2.2.2.2.1,bt1247.2.2.2.2.2.2⟩:S53)]:List (S53))),x1000,x1001,x1002,x1003,x1004,x1005,x1006,x1007,x1008,x1009,x1010)))
end
def impl_Conn_take.f (k:Nat) (s0_0:ByteArray) (s0_1 s0_2:Int) (s0_3 s0_4:Int) (s0_5 s0_6 s0_7:Int) (s0_8 s0_9:ByteArray) (s0_10:Bool) (a1_0 a1_1:Int) (a1_2 a1_3:Int) (a1_4 a1_5:Int) (a1_6:ByteArray):Option ((List (S53)) × ByteArray × Int × Int × Int × Int × Int × Int × Int × ByteArray × ByteArray × Bool):=if s0_4 = 4 then (some (([]:List (S53)),s0_0,s0_1,s0_2,s0_3,s0_4,s0_5,s0_6,s0_7,s0_8,s0_9,s0_10)) else (if (Go.bits .and .i64 a1_4 4) = 0 then (if (Go.bits .and .i64 a1_4 2) = 0 then (if (Go.bits .and .i64 a1_4 16) = 0 then (some (([]:List (S53)),s0_0,s0_1,s0_2,s0_3,s0_4,s0_5,s0_6,s0_7,s0_8,s0_9,s0_10)) else ((impl_Conn_acknowledge.f s0_0 s0_1 s0_2 s0_3 s0_4 s0_5 s0_6 s0_7 s0_8 s0_9 s0_10 a1_3).bind fun bt1257 => ((impl_oneIf.f ((Go.bits .and .i64 a1_4 1) != 0)).bind fun t1268 => (if bt1257.2.2.2.2.1 = 1 then (impl_Conn_take.j1 k t1268 true bt1257.1 bt1257.2.1 bt1257.2.2.1 bt1257.2.2.2.1 bt1257.2.2.2.2.1 bt1257.2.2.2.2.2.1 bt1257.2.2.2.2.2.2.1 bt1257.2.2.2.2.2.2.2.1 bt1257.2.2.2.2.2.2.2.2.1 bt1257.2.2.2.2.2.2.2.2.2.1 bt1257.2.2.2.2.2.2.2.2.2.2 a1_0 a1_1 a1_2 a1_3 a1_4 a1_5 a1_6) else (if bt1257.2.2.2.2.1 = 4 then (impl_Conn_take.j1 k t1268 true bt1257.1 bt1257.2.1 bt1257.2.2.1 bt1257.2.2.2.1 bt1257.2.2.2.2.1 bt1257.2.2.2.2.2.1 bt1257.2.2.2.2.2.2.1 bt1257.2.2.2.2.2.2.2.1 bt1257.2.2.2.2.2.2.2.2.1 bt1257.2.2.2.2.2.2.2.2.2.1 bt1257.2.2.2.2.2.2.2.2.2.2 a1_0 a1_1 a1_2 a1_3 a1_4 a1_5 a1_6) else (if a1_6.toList = ([]:List UInt8) then (impl_Conn_take.j1 k t1268 (t1268 == 0) bt1257.1 bt1257.2.1 bt1257.2.2.1 bt1257.2.2.2.1 bt1257.2.2.2.2.1 bt1257.2.2.2.2.2.1 bt1257.2.2.2.2.2.2.1 bt1257.2.2.2.2.2.2.2.1 bt1257.2.2.2.2.2.2.2.2.1 bt1257.2.2.2.2.2.2.2.2.2.1 bt1257.2.2.2.2.2.2.2.2.2.2 a1_0 a1_1 a1_2 a1_3 a1_4 a1_5 a1_6) else (impl_Conn_take.j1 k t1268 false bt1257.1 bt1257.2.1 bt1257.2.2.1 bt1257.2.2.2.1 bt1257.2.2.2.2.1 bt1257.2.2.2.2.2.1 bt1257.2.2.2.2.2.2.1 bt1257.2.2.2.2.2.2.2.1 bt1257.2.2.2.2.2.2.2.2.1 bt1257.2.2.2.2.2.2.2.2.2.1 bt1257.2.2.2.2.2.2.2.2.2.2 a1_0 a1_1 a1_2 a1_3 a1_4 a1_5 a1_6))))))) else (if s0_4 = 1 then ((impl_onward.f a1_2 1).bind fun t1243 => (impl_Conn_take.j0 k (s0_7 == t1243) s0_0 s0_1 s0_2 s0_3 s0_4 s0_5 s0_6 s0_7 s0_8 s0_9 s0_10)) else (impl_Conn_take.j0 k false s0_0 s0_1 s0_2 s0_3 s0_4 s0_5 s0_6 s0_7 s0_8 s0_9 s0_10))) else (if a1_2 = s0_7 then (some (([]:List (S53)),s0_0,s0_1,s0_2,s0_3,4,s0_6,s0_6,s0_7,(⟨#[]⟩:ByteArray),(⟨#[]⟩:ByteArray),false)) else (some (([]:List (S53)),s0_0,s0_1,s0_2,s0_3,s0_4,s0_5,s0_6,s0_7,s0_8,s0_9,s0_10))))
theorem impl_Conn_take.mono_l:∀ k,(∀ y0 y1 y2 y3 y4 y5 y6 y7 y8 y9 y10 y11 y12 y13 y14 y15 y16 y17 y18 y19,LeO (impl_Conn_take.j1 k y0 y1 y2 y3 y4 y5 y6 y7 y8 y9 y10 y11 y12 y13 y14 y15 y16 y17 y18 y19) (impl_Conn_take.j1 (k + 1) y0 y1 y2 y3 y4 y5 y6 y7 y8 y9 y10 y11 y12 y13 y14 y15 y16 y17 y18 y19))∧(∀ y0 y1 y2 y3 y4 y5 y6 y7 y8 y9 y10 y11 y12 y13 y14 y15 y16 y17 y18 y19,LeO (impl_Conn_take.j2 k y0 y1 y2 y3 y4 y5 y6 y7 y8 y9 y10 y11 y12 y13 y14 y15 y16 y17 y18 y19) (impl_Conn_take.j2 (k + 1) y0 y1 y2 y3 y4 y5 y6 y7 y8 y9 y10 y11 y12 y13 y14 y15 y16 y17 y18 y19))∧(∀ y0 y1 y2 y3 y4 y5 y6 y7 y8 y9 y10 y11,LeO (impl_Conn_take.j0 k y0 y1 y2 y3 y4 y5 y6 y7 y8 y9 y10 y11) (impl_Conn_take.j0 (k + 1) y0 y1 y2 y3 y4 y5 y6 y7 y8 y9 y10 y11))
 | 0 => ⟨fun _ _ _ _ _ _ _ _ _ _ _ _ _ _ _ _ _ _ _ _ r h => by simp [impl_Conn_take.j1] at h,fun _ _ _ _ _ _ _ _ _ _ _ _ _ _ _ _ _ _ _ _ r h => by simp [impl_Conn_take.j2] at h,fun _ _ _ _ _ _ _ _ _ _ _ _ r h => by simp [impl_Conn_take.j0] at h⟩
 | k + 1 => by
  obtain ⟨ih0,ih1,ih2⟩:=impl_Conn_take.mono_l k
  refine ⟨?_,?_,?_⟩
  ·intro y0 y1 y2 y3 y4 y5 y6 y7 y8 y9 y10 y11 y12 y13 y14 y15 y16 y17 y18 y19
   unfold impl_Conn_take.j1
   repeat' first
   | (with_reducible exact ih0 _ _ _ _ _ _ _ _ _ _ _ _ _ _ _ _ _ _ _ _)
   | (with_reducible exact ih1 _ _ _ _ _ _ _ _ _ _ _ _ _ _ _ _ _ _ _ _)
   | (with_reducible exact ih2 _ _ _ _ _ _ _ _ _ _ _ _)
   | (with_reducible exact LeO.refl _)
   | (with_reducible exact LeO.none _)
   | (with_reducible refine LeO.ite ?_ ?_)
   | (with_reducible refine LeO.bind ?_ (fun _ => ?_))
   | exact ih0 _ _ _ _ _ _ _ _ _ _ _ _ _ _ _ _ _ _ _ _
   | exact ih1 _ _ _ _ _ _ _ _ _ _ _ _ _ _ _ _ _ _ _ _
   | exact ih2 _ _ _ _ _ _ _ _ _ _ _ _
   | exact LeO.none _
   | refine LeO.ite ?_ ?_
   | refine LeO.bind ?_ (fun _ => ?_)
  ·intro y0 y1 y2 y3 y4 y5 y6 y7 y8 y9 y10 y11 y12 y13 y14 y15 y16 y17 y18 y19
   unfold impl_Conn_take.j2
   repeat' first
   | (with_reducible exact ih0 _ _ _ _ _ _ _ _ _ _ _ _ _ _ _ _ _ _ _ _)
   | (with_reducible exact ih1 _ _ _ _ _ _ _ _ _ _ _ _ _ _ _ _ _ _ _ _)
   | (with_reducible exact ih2 _ _ _ _ _ _ _ _ _ _ _ _)
   | (with_reducible exact LeO.refl _)
   | (with_reducible exact LeO.none _)
   | (with_reducible refine LeO.ite ?_ ?_)
   | (with_reducible refine LeO.bind ?_ (fun _ => ?_))
   | exact ih0 _ _ _ _ _ _ _ _ _ _ _ _ _ _ _ _ _ _ _ _
   | exact ih1 _ _ _ _ _ _ _ _ _ _ _ _ _ _ _ _ _ _ _ _
   | exact ih2 _ _ _ _ _ _ _ _ _ _ _ _
   | exact LeO.none _
   | refine LeO.ite ?_ ?_
   | refine LeO.bind ?_ (fun _ => ?_)
  ·intro y0 y1 y2 y3 y4 y5 y6 y7 y8 y9 y10 y11
   unfold impl_Conn_take.j0
   repeat' first
   | (with_reducible exact ih0 _ _ _ _ _ _ _ _ _ _ _ _ _ _ _ _ _ _ _ _)
   | (with_reducible exact ih1 _ _ _ _ _ _ _ _ _ _ _ _ _ _ _ _ _ _ _ _)
   | (with_reducible exact ih2 _ _ _ _ _ _ _ _ _ _ _ _)
   | (with_reducible exact LeO.refl _)
   | (with_reducible exact LeO.none _)
   | (with_reducible refine LeO.ite ?_ ?_)
   | (with_reducible refine LeO.bind ?_ (fun _ => ?_))
   | exact ih0 _ _ _ _ _ _ _ _ _ _ _ _ _ _ _ _ _ _ _ _
   | exact ih1 _ _ _ _ _ _ _ _ _ _ _ _ _ _ _ _ _ _ _ _
   | exact ih2 _ _ _ _ _ _ _ _ _ _ _ _
   | exact LeO.none _
   | refine LeO.ite ?_ ?_
   | refine LeO.bind ?_ (fun _ => ?_)
theorem impl_Conn_take.mono:∀ a0 a1 a2 a3 a4 a5 a6 a7 a8 a9 a10 a11 a12 a13 a14 a15 a16 a17 k,LeO (impl_Conn_take.f k a0 a1 a2 a3 a4 a5 a6 a7 a8 a9 a10 a11 a12 a13 a14 a15 a16 a17) (impl_Conn_take.f (k + 1) a0 a1 a2 a3 a4 a5 a6 a7 a8 a9 a10 a11 a12 a13 a14 a15 a16 a17):=by
 intro a0 a1 a2 a3 a4 a5 a6 a7 a8 a9 a10 a11 a12 a13 a14 a15 a16 a17 k
 obtain ⟨ih0,ih1,ih2⟩:=impl_Conn_take.mono_l k
 unfold impl_Conn_take.f
 repeat' first
   | (with_reducible exact ih0 _ _ _ _ _ _ _ _ _ _ _ _ _ _ _ _ _ _ _ _)
   | (with_reducible exact ih1 _ _ _ _ _ _ _ _ _ _ _ _ _ _ _ _ _ _ _ _)
   | (with_reducible exact ih2 _ _ _ _ _ _ _ _ _ _ _ _)
   | (with_reducible exact LeO.refl _)
   | (with_reducible exact LeO.none _)
   | (with_reducible refine LeO.ite ?_ ?_)
   | (with_reducible refine LeO.bind ?_ (fun _ => ?_))
   | exact ih0 _ _ _ _ _ _ _ _ _ _ _ _ _ _ _ _ _ _ _ _
   | exact ih1 _ _ _ _ _ _ _ _ _ _ _ _ _ _ _ _ _ _ _ _
   | exact ih2 _ _ _ _ _ _ _ _ _ _ _ _
   | exact LeO.none _
   | refine LeO.ite ?_ ?_
   | refine LeO.bind ?_ (fun _ => ?_)
def impl_Conn_take.T8:Bool × List (List Nat × List Nat):=(true,[([],[]),([0],[0]),([1],[1]),([2],[2]),([3],[3]),([4],[4]),([5],[5]),([6,5],[5,6]),([7,5],[5,7]),([8,5],[5,8]),([5],[5]),([10,5],[5,10]),([11,5,5],[5,11]),([9,12,5],[5,9,12]),([5,13],[5,13])])
def impl_Conn_take.B8:List Nat:=[0,1,3,7,15,31,63,127,255,511,63,1087,3135,8191,16383]
theorem impl_Conn_take.tab8:rtab .any (opsOf Try.f104 8) = impl_Conn_take.T8:=by kernel_rfl
theorem impl_Conn_take.bits8:waitsOk impl_Conn_take.T8.2 impl_Conn_take.B8 = true:=by kernel_rfl
def impl_Conn_take.T17:Bool × List (List Nat × List Nat):=(true,[([],[]),([0],[0]),([],[]),([2],[2]),([3],[3]),([4],[4]),([1,5],[1,5]),([6],[6]),([7],[7]),([8,7],[7,8]),([9,7],[7,9]),([10,7],[7,10]),([11,7],[7,11]),([7],[7]),([13,7],[7,13]),([14,7],[7,14]),([12,15,7],[7,12,15]),([16,7],[7,16]),([7,17],[7,17])])
def impl_Conn_take.B17:List Nat:=[0,1,0,4,12,28,63,127,255,511,1023,2047,4095,255,8447,24831,65535,131071,262143]
theorem impl_Conn_take.tab17:rtab .any (opsOf Try.f104 17) = impl_Conn_take.T17:=by kernel_rfl
theorem impl_Conn_take.bits17:waitsOk impl_Conn_take.T17.2 impl_Conn_take.B17 = true:=by kernel_rfl
def impl_Conn_take.T18:Bool × List (List Nat × List Nat):=(true,[([],[]),([0],[0]),([1],[1]),([2],[2]),([],[]),([4],[4]),([3,5],[3,5]),([0,0,1,2,3,4,5,6],[0]),([7,0,1,2,3,4,5,6],[7]),([8,6,0,1,2,3,4,5,6],[6,8])])
def impl_Conn_take.B18:List Nat:=[0,1,3,7,0,16,63,127,255,511]
theorem impl_Conn_take.tab18:rtab .any (opsOf Try.f104 18) = impl_Conn_take.T18:=by kernel_rfl
theorem impl_Conn_take.bits18:waitsOk impl_Conn_take.T18.2 impl_Conn_take.B18 = true:=by kernel_rfl
def impl_Conn_take.T19:Bool × List (List Nat × List Nat):=(true,[([],[]),([],[]),([1],[1]),([2],[2]),([3],[3]),([],[]),([5],[5]),([6],[6]),([],[]),([7,8],[7,8]),([4,9],[4,9]),([0,0,1,2,3,4,5,6,7,8,9,10],[0]),([11,0,1,2,3,4,5,6,7,8,9,10],[11]),([12,10,10,0,1,2,3,4,5,6,7,8,9,10],[10,12])])
def impl_Conn_take.B19:List Nat:=[0,0,2,6,14,0,32,96,0,480,1022,2047,4095,8191]
theorem impl_Conn_take.tab19:rtab .any (opsOf Try.f104 19) = impl_Conn_take.T19:=by kernel_rfl
theorem impl_Conn_take.bits19:waitsOk impl_Conn_take.T19.2 impl_Conn_take.B19 = true:=by kernel_rfl
set_option maxHeartbeats 8000000 in
set_option maxRecDepth 100000 in
theorem impl_Conn_take.calls (k:Nat) (g:Nat) (s0_0:ByteArray) (s0_1 s0_2:Int) (s0_3 s0_4:Int) (s0_5 s0_6 s0_7:Int) (s0_8 s0_9:ByteArray) (s0_10:Bool) (a1_0 a1_1:Int) (a1_2 a1_3:Int) (a1_4 a1_5:Int) (a1_6:ByteArray) (r1:List (S53)) (r2:ByteArray) (r3 r4:Int) (r5 r6:Int) (r7 r8 r9:Int) (r10 r11:ByteArray) (r12:Bool) (w0 w:World) (hI:IsS34 w0 w g s0_0 s0_1 s0_2 s0_3 s0_4 s0_5 s0_6 s0_7 s0_8 s0_9 s0_10) (hB:Below w0.heap.size w0 w) (h:impl_Conn_take.f k s0_0 s0_1 s0_2 s0_3 s0_4 s0_5 s0_6 s0_7 s0_8 s0_9 s0_10 a1_0 a1_1 a1_2 a1_3 a1_4 a1_5 a1_6 = some (r1,r2,r3,r4,r5,r6,r7,r8,r9,r10,r11,r12)) :
  Calls Try.prog 104 #[.pointer (some ⟨g,0,none⟩),.agg #[.int .i64 a1_0,.int .i64 a1_1,.int .i64 a1_2,.int .i64 a1_3,.int .i64 a1_4,.int .i64 a1_5,.string a1_6]] w fun e w' => ∃ v0_:Value,e = .returned (v0_)∧Kd.R k53 53 w' w.heap.size (fun _ => True) v0_ r1∧IsS34 w0 w' g r2 r3 r4 r5 r6 r7 r8 r9 r10 r11 r12∧Below w0.heap.size w0 w'∧KeepBut w w' g none:=by
 have hu53:=Try.underlying53
 have HI0:=aMk hI
 have HK:=aMk (KeepBut.refl w g none)
 have HL:=aMk hB.size
 clear hI
 have HW0:=aMk hB.size
 have HB:=aMk hB
 clear hB
 have H:=h
 unfold impl_Conn_take.f at H
 clear h
 by_cases c3:s0_4 = 4
 ·rw [if_pos c3] at H
  have c3b0:(s0_4 == 4) = true:=beq_iff_eq.mpr c3
  have c3b1:(s0_4 != 4) = false:=bne_eq_false_iff_eq.mpr c3
  clear c3
  simp only [Option.some.injEq,Prod.mk.injEq] at H
  obtain ⟨rfl,rfl,rfl,rfl,rfl,rfl,rfl,rfl,rfl,rfl,rfl,rfl⟩:=H
  go_enter Try.func104,Try.ntmps104
  go_wp2_with (first|((with_reducible refine gate_dst (N:=3) rfl ?_);(try (refine gate_guard (by rfl) ?_;dsimp only));refine bxE (N:=3) (cs:=#[.int .i64 a1_0,.int .i64 a1_1,.int .i64 a1_2,.int .i64 a1_3,.int .i64 a1_4,.int .i64 a1_5,.string a1_6]) (t:=53) ?_;intro gb1242 hg w4 hbox hb;replace HB:=aMk (below_step bW34 hb);have BK1242:=aMk (hbox);have GW1242:=aMk ((by rw [hg];exact (keep_size (w:=w) (g:=g) (row:=none) (kQ HK.out)):w.heap.size≤gb1242));have GE1242:=aMk ((Nat.le_trans HW0.out (by rw [hg];exact (keep_size (w:=w) (g:=g) (row:=none) (kQ HK.out)):w.heap.size≤gb1242):w0.heap.size≤gb1242));replace HK:=aMk (KeepBut.trans (kQ HK.out) (KeepBut.of_below hb g none) (.inl rfl));have NB0_1242:=aMk ((by rw [hg];exact Nat.ne_of_lt (IsS34.lt (show IsS34 w0 _ g s0_0 s0_1 s0_2 s0_3 s0_4 s0_5 s0_6 s0_7 s0_8 s0_9 s0_10 from iQ34 HI0.out)):g ≠ gb1242));have NB1242_0:=aMk ((by rw [hg];exact Nat.ne_of_gt (IsS34.lt (show IsS34 w0 _ g s0_0 s0_1 s0_2 s0_3 s0_4 s0_5 s0_6 s0_7 s0_8 s0_9 s0_10 from iQ34 HI0.out)):gb1242 ≠ g));replace HI0:=aMk (IsS34.below (iQ34 HI0.out) hb);clear hb hbox hg;obtain ⟨HGz5,hgz5⟩:=HI0.out;have Z5_0:=cellS34_0 HGz5;have Z5_1:=cellS34_1 HGz5;have Z5_2:=cellS34_2 HGz5;have Z5_3:=cellS34_3 HGz5;have Z5_4:=cellS34_4 HGz5;have Z5_5:=cellS34_5 HGz5;have Z5_6:=cellS34_6 HGz5;have Z5_7:=cellS34_7 HGz5;have Z5_8:=cellS34_8 HGz5;have Z5_9:=cellS34_9 HGz5;have Z5_10:=cellS34_10 HGz5;have Y5_0:=bFr HGz5 0;have Y5_1:=bFr HGz5 1;have Y5_2:=bFr HGz5 2;have Y5_3:=bFr HGz5 3;have Y5_4:=bFr HGz5 4;have Y5_5:=bFr HGz5 5;have Y5_6:=bFr HGz5 6;have Y5_7:=bFr HGz5 7;have Y5_8:=bFr HGz5 8;have Y5_9:=bFr HGz5 9;have Y5_10:=bFr HGz5 10;clear HGz5 hgz5))
  go_ret
  exact ⟨_,eRf,by first|exact Kd.R_nil _ _ _ _ _|exact Kd.N_nil _ _ _ _ _|exact Kd.V_nil _ _ _ _ _|exact Kd.Q_nil _ _ _ _ _|exact Kd.S_nil _ _ _ _ _,by repeat (first|(with_reducible first|exact HI0.out|apply IsS34.alloc|apply IsS34.drewN|apply IsS34.drew|apply IsS34.set_0|apply IsS34.set_1|apply IsS34.set_2|apply IsS34.set_3|apply IsS34.set_4|apply IsS34.set_5|apply IsS34.set_6|apply IsS34.set_7|apply IsS34.set_8|apply IsS34.set_9|apply IsS34.set_10|refine IsS34.far ?_ NB0_1242.out _)|exact HI0.out),bW34,by repeat (first|(with_reducible first|exact HK.out|apply KeepBut.set_|apply keep_drewN|apply keep_drew|apply keep_alloc|refine keep_far ?_ GW1242.out _)|exact HK.out)⟩
 ·rw [if_neg c3] at H
  have c3b0:(s0_4 == 4) = false:=beq_eq_false_iff_ne.mpr c3
  have c3b1:(s0_4 != 4) = true:=bne_iff_ne.mpr c3
  by_cases c6:(Go.bits .and .i64 a1_4 4) = 0
  ·rw [if_pos c6] at H
   have c6b0:((Go.bits .and .i64 a1_4 4) == 0) = true:=beq_iff_eq.mpr c6
   have c6b1:((Go.bits .and .i64 a1_4 4) != 0) = false:=bne_eq_false_iff_eq.mpr c6
   clear c6
   by_cases c7:(Go.bits .and .i64 a1_4 2) = 0
   ·rw [if_pos c7] at H
    have c7b0:((Go.bits .and .i64 a1_4 2) == 0) = true:=beq_iff_eq.mpr c7
    have c7b1:((Go.bits .and .i64 a1_4 2) != 0) = false:=bne_eq_false_iff_eq.mpr c7
    clear c7
    by_cases c8:(Go.bits .and .i64 a1_4 16) = 0
    ·rw [if_pos c8] at H
     have c8b0:((Go.bits .and .i64 a1_4 16) == 0) = true:=beq_iff_eq.mpr c8
     have c8b1:((Go.bits .and .i64 a1_4 16) != 0) = false:=bne_eq_false_iff_eq.mpr c8
     clear c8
     simp only [Option.some.injEq,Prod.mk.injEq] at H
     obtain ⟨rfl,rfl,rfl,rfl,rfl,rfl,rfl,rfl,rfl,rfl,rfl,rfl⟩:=H
     go_enter Try.func104,Try.ntmps104
     go_wp2_with (first|((with_reducible refine gate_dst (N:=3) rfl ?_);(try (refine gate_guard (by rfl) ?_;dsimp only));refine bxE (N:=3) (cs:=#[.int .i64 a1_0,.int .i64 a1_1,.int .i64 a1_2,.int .i64 a1_3,.int .i64 a1_4,.int .i64 a1_5,.string a1_6]) (t:=53) ?_;intro gb1242 hg w9 hbox hb;replace HB:=aMk (below_step bW34 hb);have BK1242:=aMk (hbox);have GW1242:=aMk ((by rw [hg];exact (keep_size (w:=w) (g:=g) (row:=none) (kQ HK.out)):w.heap.size≤gb1242));have GE1242:=aMk ((Nat.le_trans HW0.out (by rw [hg];exact (keep_size (w:=w) (g:=g) (row:=none) (kQ HK.out)):w.heap.size≤gb1242):w0.heap.size≤gb1242));replace HK:=aMk (KeepBut.trans (kQ HK.out) (KeepBut.of_below hb g none) (.inl rfl));have NB0_1242:=aMk ((by rw [hg];exact Nat.ne_of_lt (IsS34.lt (show IsS34 w0 _ g s0_0 s0_1 s0_2 s0_3 s0_4 s0_5 s0_6 s0_7 s0_8 s0_9 s0_10 from iQ34 HI0.out)):g ≠ gb1242));have NB1242_0:=aMk ((by rw [hg];exact Nat.ne_of_gt (IsS34.lt (show IsS34 w0 _ g s0_0 s0_1 s0_2 s0_3 s0_4 s0_5 s0_6 s0_7 s0_8 s0_9 s0_10 from iQ34 HI0.out)):gb1242 ≠ g));replace HI0:=aMk (IsS34.below (iQ34 HI0.out) hb);clear hb hbox hg;obtain ⟨HGz10,hgz10⟩:=HI0.out;have Z10_0:=cellS34_0 HGz10;have Z10_1:=cellS34_1 HGz10;have Z10_2:=cellS34_2 HGz10;have Z10_3:=cellS34_3 HGz10;have Z10_4:=cellS34_4 HGz10;have Z10_5:=cellS34_5 HGz10;have Z10_6:=cellS34_6 HGz10;have Z10_7:=cellS34_7 HGz10;have Z10_8:=cellS34_8 HGz10;have Z10_9:=cellS34_9 HGz10;have Z10_10:=cellS34_10 HGz10;have Y10_0:=bFr HGz10 0;have Y10_1:=bFr HGz10 1;have Y10_2:=bFr HGz10 2;have Y10_3:=bFr HGz10 3;have Y10_4:=bFr HGz10 4;have Y10_5:=bFr HGz10 5;have Y10_6:=bFr HGz10 6;have Y10_7:=bFr HGz10 7;have Y10_8:=bFr HGz10 8;have Y10_9:=bFr HGz10 9;have Y10_10:=bFr HGz10 10;clear HGz10 hgz10;have hnb11:=NB1242_0.out;have hnc11:=NB0_1242.out;obtain ⟨Z12_0,Z12_1,Z12_2,Z12_3,Z12_4,Z12_5,Z12_6,Y12_0,Y12_1,Y12_2,Y12_3,Y12_4,Y12_5,Y12_6⟩:=bC7 BK1242.out))
     go_ret
     exact ⟨_,eRf,by first|exact Kd.R_nil _ _ _ _ _|exact Kd.N_nil _ _ _ _ _|exact Kd.V_nil _ _ _ _ _|exact Kd.Q_nil _ _ _ _ _|exact Kd.S_nil _ _ _ _ _,by repeat (first|(with_reducible first|exact HI0.out|apply IsS34.alloc|apply IsS34.drewN|apply IsS34.drew|apply IsS34.set_0|apply IsS34.set_1|apply IsS34.set_2|apply IsS34.set_3|apply IsS34.set_4|apply IsS34.set_5|apply IsS34.set_6|apply IsS34.set_7|apply IsS34.set_8|apply IsS34.set_9|apply IsS34.set_10|refine IsS34.far ?_ NB0_1242.out _)|exact HI0.out),bW34,by repeat (first|(with_reducible first|exact HK.out|apply KeepBut.set_|apply keep_drewN|apply keep_drew|apply keep_alloc|refine keep_far ?_ GW1242.out _)|exact HK.out)⟩
    ·rw [if_neg c8] at H
     have c8b0:((Go.bits .and .i64 a1_4 16) == 0) = false:=beq_eq_false_iff_ne.mpr c8
     have c8b1:((Go.bits .and .i64 a1_4 16) != 0) = true:=bne_iff_ne.mpr c8
     replace H:=Option.bind_eq_some_iff.mp H
     obtain ⟨⟨t1257,t1258,t1259,t1260,t1261,t1262,t1263,t1264,t1265,t1266,t1267⟩,A130,H⟩:=H
     try dsimp only at H
     have A13:=aMk A130
     clear A130
     replace H:=Option.bind_eq_some_iff.mp H
     obtain ⟨t1268,A140,H⟩:=H
     try dsimp only at H
     have A14:=aMk A140
     clear A140
     have HC15:=aMk H
     clear H
     go_enter Try.func104,Try.ntmps104
     go_upto_region 15 with (first|((with_reducible refine gate_dst (N:=3) rfl ?_);(try (refine gate_guard (by rfl) ?_;dsimp only));refine bxE (N:=3) (cs:=#[.int .i64 a1_0,.int .i64 a1_1,.int .i64 a1_2,.int .i64 a1_3,.int .i64 a1_4,.int .i64 a1_5,.string a1_6]) (t:=53) ?_;intro gb1242 hg w16 hbox hb;replace HB:=aMk (below_step bW34 hb);have BK1242:=aMk (hbox);have GW1242:=aMk ((by rw [hg];exact (keep_size (w:=w) (g:=g) (row:=none) (kQ HK.out)):w.heap.size≤gb1242));have GE1242:=aMk ((Nat.le_trans HW0.out (by rw [hg];exact (keep_size (w:=w) (g:=g) (row:=none) (kQ HK.out)):w.heap.size≤gb1242):w0.heap.size≤gb1242));replace HK:=aMk (KeepBut.trans (kQ HK.out) (KeepBut.of_below hb g none) (.inl rfl));have NB0_1242:=aMk ((by rw [hg];exact Nat.ne_of_lt (IsS34.lt (show IsS34 w0 _ g s0_0 s0_1 s0_2 s0_3 s0_4 s0_5 s0_6 s0_7 s0_8 s0_9 s0_10 from iQ34 HI0.out)):g ≠ gb1242));have NB1242_0:=aMk ((by rw [hg];exact Nat.ne_of_gt (IsS34.lt (show IsS34 w0 _ g s0_0 s0_1 s0_2 s0_3 s0_4 s0_5 s0_6 s0_7 s0_8 s0_9 s0_10 from iQ34 HI0.out)):gb1242 ≠ g));replace HI0:=aMk (IsS34.below (iQ34 HI0.out) hb);clear hb hbox hg;obtain ⟨HGz17,hgz17⟩:=HI0.out;have Z17_0:=cellS34_0 HGz17;have Z17_1:=cellS34_1 HGz17;have Z17_2:=cellS34_2 HGz17;have Z17_3:=cellS34_3 HGz17;have Z17_4:=cellS34_4 HGz17;have Z17_5:=cellS34_5 HGz17;have Z17_6:=cellS34_6 HGz17;have Z17_7:=cellS34_7 HGz17;have Z17_8:=cellS34_8 HGz17;have Z17_9:=cellS34_9 HGz17;have Z17_10:=cellS34_10 HGz17;have Y17_0:=bFr HGz17 0;have Y17_1:=bFr HGz17 1;have Y17_2:=bFr HGz17 2;have Y17_3:=bFr HGz17 3;have Y17_4:=bFr HGz17 4;have Y17_5:=bFr HGz17 5;have Y17_6:=bFr HGz17 6;have Y17_7:=bFr HGz17 7;have Y17_8:=bFr HGz17 8;have Y17_9:=bFr HGz17 9;have Y17_10:=bFr HGz17 10;clear HGz17 hgz17;have hnb18:=NB1242_0.out;have hnc18:=NB0_1242.out;obtain ⟨Z19_0,Z19_1,Z19_2,Z19_3,Z19_4,Z19_5,Z19_6,Y19_0,Y19_1,Y19_2,Y19_3,Y19_4,Y19_5,Y19_6⟩:=bC7 BK1242.out)|((with_reducible refine gate_callee (f:=121) rfl ?_);refine gLs 80 Try.func121 #[.pointer (some ⟨g,0,none⟩),.int .i64 a1_3] ?_;(with_reducible refine (impl_Conn_acknowledge.calls g s0_0 s0_1 s0_2 s0_3 s0_4 s0_5 s0_6 s0_7 s0_8 s0_9 s0_10 a1_3 t1257 t1258 t1259 t1260 t1261 t1262 t1263 t1264 t1265 t1266 t1267 w0 _ ?side1 ?side2 A13.out).mono ?_);(case side1 => repeat (first|(with_reducible first|exact HI0.out|apply IsS34.alloc|apply IsS34.drewN|apply IsS34.drew|apply IsS34.set_0|apply IsS34.set_1|apply IsS34.set_2|apply IsS34.set_3|apply IsS34.set_4|apply IsS34.set_5|apply IsS34.set_6|apply IsS34.set_7|apply IsS34.set_8|apply IsS34.set_9|apply IsS34.set_10|refine IsS34.far ?_ NB0_1242.out _)|exact HI0.out));(case side2 => repeat (first|(with_reducible first|exact HB.out|apply bwA|apply bwN|apply bw1|refine below_set ?_ (IsS34.ge HI0.out)|refine below_set ?_ GE1242.out)|exact HB.out));rintro e w20 ⟨rfl,hi,hb,hk⟩;refine ⟨_,rfl,?_⟩;replace BK1242:=aMk (KeepBut.blk hk (g':=gb1242) (o:=.cells #[.int .i64 a1_0,.int .i64 a1_1,.int .i64 a1_2,.int .i64 a1_3,.int .i64 a1_4,.int .i64 a1_5,.string a1_6] 53 (0,0)) (pB BK1242.out) NB1242_0.out (by simp));replace HK:=aMk (KeepBut.trans (by repeat (first|(with_reducible first|exact HK.out|apply KeepBut.set_|apply keep_drewN|apply keep_drew|apply keep_alloc|refine keep_far ?_ GW1242.out _)|exact HK.out)) hk (.inl rfl));replace HB:=aMk (hb);replace HI0:=aMk (hi);obtain ⟨Z21_0,Z21_1,Z21_2,Z21_3,Z21_4,Z21_5,Z21_6,Y21_0,Y21_1,Y21_2,Y21_3,Y21_4,Y21_5,Y21_6⟩:=bC7 BK1242.out)|((with_reducible refine gate_callee (f:=74) rfl ?_);refine gLs 85 Try.func74 #[.bool ((Go.bits .and .i64 a1_4 1) != 0)] ?_;(with_reducible refine (impl_oneIf.calls ((Go.bits .and .i64 a1_4 1) != 0) t1268 _ A14.out).mono ?_);rintro e w' ⟨rfl,⟨nd,rfl⟩⟩;refine ⟨_,rfl,?_⟩))
     (try simp only [Act.put,List.setIfInBounds_toArray,List.set_cons_zero,List.set_cons_succ])
     go_cut [106] (fun v106 wc => ∃ (kq:Nat) (x106_14:Bool),v106 = .bool x106_14∧Aside0 (impl_Conn_take.j1 kq t1268 x106_14 t1257 t1258 t1259 t1260 t1261 t1262 t1263 t1264 t1265 t1266 t1267 a1_0 a1_1 a1_2 a1_3 a1_4 a1_5 a1_6 = some (r1,r2,r3,r4,r5,r6,r7,r8,r9,r10,r11,r12))∧Aside0 (kq≤k)∧Aside0 (wc.heap[gb1242]? = some (.cells #[.int .i64 a1_0,.int .i64 a1_1,.int .i64 a1_2,.int .i64 a1_3,.int .i64 a1_4,.int .i64 a1_5,.string a1_6] 53 (0,0)))∧Aside0 (IsS34 w0 wc g t1257 t1258 t1259 t1260 t1261 t1262 t1263 t1264 t1265 t1266 t1267)∧Aside0 (KeepBut w wc g none)∧Aside0 (Below w0.heap.size w0 wc))
     case first =>
      have H:=HC15.out
      clear HC15
      by_cases c22:t1261 = 1
      ·rw [if_pos c22] at H
       have c22b0:(t1261 == 1) = true:=beq_iff_eq.mpr c22
       have c22b1:(t1261 != 1) = false:=bne_eq_false_iff_eq.mpr c22
       clear c22
       (first|rw [c22b0]|(simp only [i64_w,i32_w];rw [c22b0]) | skip)
       have H':=aMk H
       clear H
       obtain ⟨HGz23,hgz23⟩:=HI0.out
       have Z23_0:=cellS34_0 HGz23
       have Z23_1:=cellS34_1 HGz23
       have Z23_2:=cellS34_2 HGz23
       have Z23_3:=cellS34_3 HGz23
       have Z23_4:=cellS34_4 HGz23
       have Z23_5:=cellS34_5 HGz23
       have Z23_6:=cellS34_6 HGz23
       have Z23_7:=cellS34_7 HGz23
       have Z23_8:=cellS34_8 HGz23
       have Z23_9:=cellS34_9 HGz23
       have Z23_10:=cellS34_10 HGz23
       have Y23_0:=bFr HGz23 0
       have Y23_1:=bFr HGz23 1
       have Y23_2:=bFr HGz23 2
       have Y23_3:=bFr HGz23 3
       have Y23_4:=bFr HGz23 4
       have Y23_5:=bFr HGz23 5
       have Y23_6:=bFr HGz23 6
       have Y23_7:=bFr HGz23 7
       have Y23_8:=bFr HGz23 8
       have Y23_9:=bFr HGz23 9
       have Y23_10:=bFr HGz23 10
       clear HGz23 hgz23
       go_wp2
       go_meet
       case rel => exact ⟨_,(true),rfS,H',⟨by first | omega|exact Nat.le_refl _⟩,⟨by refine pB ?_;exact BK1242.out⟩,⟨by repeat (first|(with_reducible first|exact HI0.out|apply IsS34.alloc|apply IsS34.drewN|apply IsS34.drew|apply IsS34.set_0|apply IsS34.set_1|apply IsS34.set_2|apply IsS34.set_3|apply IsS34.set_4|apply IsS34.set_5|apply IsS34.set_6|apply IsS34.set_7|apply IsS34.set_8|apply IsS34.set_9|apply IsS34.set_10|refine IsS34.far ?_ NB0_1242.out _)|exact HI0.out)⟩,⟨by repeat (first|(with_reducible first|exact HK.out|apply KeepBut.set_|apply keep_drewN|apply keep_drew|apply keep_alloc|refine keep_far ?_ GW1242.out _)|exact HK.out)⟩,⟨bW34⟩⟩
      ·rw [if_neg c22] at H
       have c22b0:(t1261 == 1) = false:=beq_eq_false_iff_ne.mpr c22
       have c22b1:(t1261 != 1) = true:=bne_iff_ne.mpr c22
       (first|rw [c22b0]|(simp only [i64_w,i32_w];rw [c22b0]) | skip)
       by_cases c24:t1261 = 4
       ·rw [if_pos c24] at H
        have c24b0:(t1261 == 4) = true:=beq_iff_eq.mpr c24
        have c24b1:(t1261 != 4) = false:=bne_eq_false_iff_eq.mpr c24
        clear c24
        have H':=aMk H
        clear H
        obtain ⟨HGz25,hgz25⟩:=HI0.out
        have Z25_0:=cellS34_0 HGz25
        have Z25_1:=cellS34_1 HGz25
        have Z25_2:=cellS34_2 HGz25
        have Z25_3:=cellS34_3 HGz25
        have Z25_4:=cellS34_4 HGz25
        have Z25_5:=cellS34_5 HGz25
        have Z25_6:=cellS34_6 HGz25
        have Z25_7:=cellS34_7 HGz25
        have Z25_8:=cellS34_8 HGz25
        have Z25_9:=cellS34_9 HGz25
        have Z25_10:=cellS34_10 HGz25
        have Y25_0:=bFr HGz25 0
        have Y25_1:=bFr HGz25 1
        have Y25_2:=bFr HGz25 2
        have Y25_3:=bFr HGz25 3
        have Y25_4:=bFr HGz25 4
        have Y25_5:=bFr HGz25 5
        have Y25_6:=bFr HGz25 6
        have Y25_7:=bFr HGz25 7
        have Y25_8:=bFr HGz25 8
        have Y25_9:=bFr HGz25 9
        have Y25_10:=bFr HGz25 10
        clear HGz25 hgz25
        go_wp2
        go_meet
        case rel => exact ⟨_,(true),rfS,H',⟨by first | omega|exact Nat.le_refl _⟩,⟨by refine pB ?_;exact BK1242.out⟩,⟨by repeat (first|(with_reducible first|exact HI0.out|apply IsS34.alloc|apply IsS34.drewN|apply IsS34.drew|apply IsS34.set_0|apply IsS34.set_1|apply IsS34.set_2|apply IsS34.set_3|apply IsS34.set_4|apply IsS34.set_5|apply IsS34.set_6|apply IsS34.set_7|apply IsS34.set_8|apply IsS34.set_9|apply IsS34.set_10|refine IsS34.far ?_ NB0_1242.out _)|exact HI0.out)⟩,⟨by repeat (first|(with_reducible first|exact HK.out|apply KeepBut.set_|apply keep_drewN|apply keep_drew|apply keep_alloc|refine keep_far ?_ GW1242.out _)|exact HK.out)⟩,⟨bW34⟩⟩
       ·rw [if_neg c24] at H
        have c24b0:(t1261 == 4) = false:=beq_eq_false_iff_ne.mpr c24
        have c24b1:(t1261 != 4) = true:=bne_iff_ne.mpr c24
        by_cases c26:a1_6.toList = ([]:List UInt8)
        ·rw [if_pos c26] at H
         have c26b0:(a1_6.toList == ([]:List UInt8)) = true:=beq_iff_eq.mpr c26
         have c26b1:(a1_6.toList != ([]:List UInt8)) = false:=bne_eq_false_iff_eq.mpr c26
         clear c26
         have H':=aMk H
         clear H
         obtain ⟨HGz27,hgz27⟩:=HI0.out
         have Z27_0:=cellS34_0 HGz27
         have Z27_1:=cellS34_1 HGz27
         have Z27_2:=cellS34_2 HGz27
         have Z27_3:=cellS34_3 HGz27
         have Z27_4:=cellS34_4 HGz27
         have Z27_5:=cellS34_5 HGz27
         have Z27_6:=cellS34_6 HGz27
         have Z27_7:=cellS34_7 HGz27
         have Z27_8:=cellS34_8 HGz27
         have Z27_9:=cellS34_9 HGz27
         have Z27_10:=cellS34_10 HGz27
         have Y27_0:=bFr HGz27 0
         have Y27_1:=bFr HGz27 1
         have Y27_2:=bFr HGz27 2
         have Y27_3:=bFr HGz27 3
         have Y27_4:=bFr HGz27 4
         have Y27_5:=bFr HGz27 5
         have Y27_6:=bFr HGz27 6
         have Y27_7:=bFr HGz27 7
         have Y27_8:=bFr HGz27 8
         have Y27_9:=bFr HGz27 9
         have Y27_10:=bFr HGz27 10
         clear HGz27 hgz27
         have hnb28:=NB1242_0.out
         have hnc28:=NB0_1242.out
         obtain ⟨Z29_0,Z29_1,Z29_2,Z29_3,Z29_4,Z29_5,Z29_6,Y29_0,Y29_1,Y29_2,Y29_3,Y29_4,Y29_5,Y29_6⟩:=bC7 BK1242.out
         go_wp2
         go_meet
         case rel => exact ⟨_,((t1268 == 0)),rfS,H',⟨by first | omega|exact Nat.le_refl _⟩,⟨by refine pB ?_;exact BK1242.out⟩,⟨by repeat (first|(with_reducible first|exact HI0.out|apply IsS34.alloc|apply IsS34.drewN|apply IsS34.drew|apply IsS34.set_0|apply IsS34.set_1|apply IsS34.set_2|apply IsS34.set_3|apply IsS34.set_4|apply IsS34.set_5|apply IsS34.set_6|apply IsS34.set_7|apply IsS34.set_8|apply IsS34.set_9|apply IsS34.set_10|refine IsS34.far ?_ NB0_1242.out _)|exact HI0.out)⟩,⟨by repeat (first|(with_reducible first|exact HK.out|apply KeepBut.set_|apply keep_drewN|apply keep_drew|apply keep_alloc|refine keep_far ?_ GW1242.out _)|exact HK.out)⟩,⟨bW34⟩⟩
        ·rw [if_neg c26] at H
         have c26b0:(a1_6.toList == ([]:List UInt8)) = false:=beq_eq_false_iff_ne.mpr c26
         have c26b1:(a1_6.toList != ([]:List UInt8)) = true:=bne_iff_ne.mpr c26
         have H':=aMk H
         clear H
         obtain ⟨HGz30,hgz30⟩:=HI0.out
         have Z30_0:=cellS34_0 HGz30
         have Z30_1:=cellS34_1 HGz30
         have Z30_2:=cellS34_2 HGz30
         have Z30_3:=cellS34_3 HGz30
         have Z30_4:=cellS34_4 HGz30
         have Z30_5:=cellS34_5 HGz30
         have Z30_6:=cellS34_6 HGz30
         have Z30_7:=cellS34_7 HGz30
         have Z30_8:=cellS34_8 HGz30
         have Z30_9:=cellS34_9 HGz30
         have Z30_10:=cellS34_10 HGz30
         have Y30_0:=bFr HGz30 0
         have Y30_1:=bFr HGz30 1
         have Y30_2:=bFr HGz30 2
         have Y30_3:=bFr HGz30 3
         have Y30_4:=bFr HGz30 4
         have Y30_5:=bFr HGz30 5
         have Y30_6:=bFr HGz30 6
         have Y30_7:=bFr HGz30 7
         have Y30_8:=bFr HGz30 8
         have Y30_9:=bFr HGz30 9
         have Y30_10:=bFr HGz30 10
         clear HGz30 hgz30
         have hnb31:=NB1242_0.out
         have hnc31:=NB0_1242.out
         obtain ⟨Z32_0,Z32_1,Z32_2,Z32_3,Z32_4,Z32_5,Z32_6,Y32_0,Y32_1,Y32_2,Y32_3,Y32_4,Y32_5,Y32_6⟩:=bC7 BK1242.out
         go_wp2
         go_meet
         case rel => exact ⟨_,(false),rfS,H',⟨by first | omega|exact Nat.le_refl _⟩,⟨by refine pB ?_;exact BK1242.out⟩,⟨by repeat (first|(with_reducible first|exact HI0.out|apply IsS34.alloc|apply IsS34.drewN|apply IsS34.drew|apply IsS34.set_0|apply IsS34.set_1|apply IsS34.set_2|apply IsS34.set_3|apply IsS34.set_4|apply IsS34.set_5|apply IsS34.set_6|apply IsS34.set_7|apply IsS34.set_8|apply IsS34.set_9|apply IsS34.set_10|refine IsS34.far ?_ NB0_1242.out _)|exact HI0.out)⟩,⟨by repeat (first|(with_reducible first|exact HK.out|apply KeepBut.set_|apply keep_drewN|apply keep_drew|apply keep_alloc|refine keep_far ?_ GW1242.out _)|exact HK.out)⟩,⟨bW34⟩⟩
     case rest =>
      clear HC15
      try clear Z10_0 Z10_1 Z10_10 Z10_2 Z10_3 Z10_4 Z10_5 Z10_6 Z10_7 Z10_8 Z10_9
      try clear Z12_0 Z12_1 Z12_2 Z12_3 Z12_4 Z12_5 Z12_6
      try clear Z17_0 Z17_1 Z17_10 Z17_2 Z17_3 Z17_4 Z17_5 Z17_6 Z17_7 Z17_8 Z17_9
      try clear Z19_0 Z19_1 Z19_2 Z19_3 Z19_4 Z19_5 Z19_6
      try clear Z21_0 Z21_1 Z21_2 Z21_3 Z21_4 Z21_5 Z21_6
      try clear Z23_0 Z23_1 Z23_10 Z23_2 Z23_3 Z23_4 Z23_5 Z23_6 Z23_7 Z23_8 Z23_9
      try clear Z25_0 Z25_1 Z25_10 Z25_2 Z25_3 Z25_4 Z25_5 Z25_6 Z25_7 Z25_8 Z25_9
      try clear Z27_0 Z27_1 Z27_10 Z27_2 Z27_3 Z27_4 Z27_5 Z27_6 Z27_7 Z27_8 Z27_9
      try clear Z29_0 Z29_1 Z29_2 Z29_3 Z29_4 Z29_5 Z29_6
      try clear Z30_0 Z30_1 Z30_10 Z30_2 Z30_3 Z30_4 Z30_5 Z30_6 Z30_7 Z30_8 Z30_9
      try clear Z32_0 Z32_1 Z32_2 Z32_3 Z32_4 Z32_5 Z32_6
      try clear Z5_0 Z5_1 Z5_10 Z5_2 Z5_3 Z5_4 Z5_5 Z5_6 Z5_7 Z5_8 Z5_9
      try clear Y10_0 Y10_1 Y10_10 Y10_2 Y10_3 Y10_4 Y10_5 Y10_6 Y10_7 Y10_8 Y10_9
      try clear Y12_0 Y12_1 Y12_2 Y12_3 Y12_4 Y12_5 Y12_6
      try clear Y17_0 Y17_1 Y17_10 Y17_2 Y17_3 Y17_4 Y17_5 Y17_6 Y17_7 Y17_8 Y17_9
      try clear Y19_0 Y19_1 Y19_2 Y19_3 Y19_4 Y19_5 Y19_6
      try clear Y21_0 Y21_1 Y21_2 Y21_3 Y21_4 Y21_5 Y21_6
      try clear Y23_0 Y23_1 Y23_10 Y23_2 Y23_3 Y23_4 Y23_5 Y23_6 Y23_7 Y23_8 Y23_9
      try clear Y25_0 Y25_1 Y25_10 Y25_2 Y25_3 Y25_4 Y25_5 Y25_6 Y25_7 Y25_8 Y25_9
      try clear Y27_0 Y27_1 Y27_10 Y27_2 Y27_3 Y27_4 Y27_5 Y27_6 Y27_7 Y27_8 Y27_9
      try clear Y29_0 Y29_1 Y29_2 Y29_3 Y29_4 Y29_5 Y29_6
      try clear Y30_0 Y30_1 Y30_10 Y30_2 Y30_3 Y30_4 Y30_5 Y30_6 Y30_7 Y30_8 Y30_9
      try clear Y32_0 Y32_1 Y32_2 Y32_3 Y32_4 Y32_5 Y32_6
      try clear Y5_0 Y5_1 Y5_10 Y5_2 Y5_3 Y5_4 Y5_5 Y5_6 Y5_7 Y5_8 Y5_9
      obtain ⟨kq,x106_14,rfl,HA,HJ14,BK1242,HI0,HK,HB⟩:=hcut
      cases kq with
      | zero => exact absurd HA.out (by simp [impl_Conn_take.j1])
      | succ kj14 =>
       have H:=HA.out
       clear HA
       simp only [impl_Conn_take.j1] at H
       by_cases c33:x106_14 = true
       ·subst c33
        have H1:=H
        rw [if_pos rfl] at H1
        clear H
        have H:=H1
        clear H1
        simp only [Option.some.injEq,Prod.mk.injEq] at H
        obtain ⟨rfl,rfl,rfl,rfl,rfl,rfl,rfl,rfl,rfl,rfl,rfl,rfl⟩:=H
        go_wp2
        go_ret
        exact ⟨_,eRf,by first|exact Kd.R_nil _ _ _ _ _|exact Kd.N_nil _ _ _ _ _|exact Kd.V_nil _ _ _ _ _|exact Kd.Q_nil _ _ _ _ _|exact Kd.S_nil _ _ _ _ _,by repeat (first|(with_reducible first|exact HI0.out|apply IsS34.alloc|apply IsS34.drewN|apply IsS34.drew|apply IsS34.set_0|apply IsS34.set_1|apply IsS34.set_2|apply IsS34.set_3|apply IsS34.set_4|apply IsS34.set_5|apply IsS34.set_6|apply IsS34.set_7|apply IsS34.set_8|apply IsS34.set_9|apply IsS34.set_10|refine IsS34.far ?_ NB0_1242.out _)|exact HI0.out),bW34,by repeat (first|(with_reducible first|exact HK.out|apply KeepBut.set_|apply keep_drewN|apply keep_drew|apply keep_alloc|refine keep_far ?_ GW1242.out _)|exact HK.out)⟩
       ·replace c33:=Bool.eq_false_iff.mpr c33
        subst c33
        have H1:=H
        rw [if_neg (show ¬ (false = true) by decide)] at H1
        clear H
        have H:=H1
        clear H1
        have HC34:=aMk H
        clear H
        go_upto_region 17 with (fail)
        go_cut [125] (fun v125 wc => ∃ (kq:Nat) (x125_33:Bool),v125 = .bool x125_33∧Aside0 (impl_Conn_take.j2 kq t1268 x125_33 t1257 t1258 t1259 t1260 t1261 t1262 t1263 t1264 t1265 t1266 t1267 a1_0 a1_1 a1_2 a1_3 a1_4 a1_5 a1_6 = some (r1,r2,r3,r4,r5,r6,r7,r8,r9,r10,r11,r12))∧Aside0 (kq≤kj14)∧Aside0 (wc.heap[gb1242]? = some (.cells #[.int .i64 a1_0,.int .i64 a1_1,.int .i64 a1_2,.int .i64 a1_3,.int .i64 a1_4,.int .i64 a1_5,.string a1_6] 53 (0,0)))∧Aside0 (IsS34 w0 wc g t1257 t1258 t1259 t1260 t1261 t1262 t1263 t1264 t1265 t1266 t1267)∧Aside0 (KeepBut w wc g none)∧Aside0 (Below w0.heap.size w0 wc))
        case first =>
         have H:=HC34.out
         clear HC34
         by_cases c35:a1_2 = t1264
         ·rw [if_pos c35] at H
          have c35b0:(a1_2 == t1264) = true:=beq_iff_eq.mpr c35
          have c35b1:(a1_2 != t1264) = false:=bne_eq_false_iff_eq.mpr c35
          clear c35
          (first|rw [c35b0]|(simp only [i64_w,i32_w];rw [c35b0]) | skip)
          have H':=aMk H
          clear H
          try go_wp2
          replace BK1242:=aMk (bDr BK1242.out)
          replace HI0:=aMk (IsS34.drew HI0.out)
          replace HK:=aMk (keep_drew HK.out)
          replace HB:=aMk (bw1 HB.out)
          refine start_ (n:=19) (S:=fun w' => w'.cell? ⟨gb1242,0,none⟩ = some (.int .i64 a1_0)∧w'.cell? ⟨gb1242,1,none⟩ = some (.int .i64 a1_1)∧w'.cell? ⟨gb1242,2,none⟩ = some (.int .i64 a1_2)∧w'.cell? ⟨gb1242,3,none⟩ = some (.int .i64 a1_3)∧w'.cell? ⟨gb1242,4,none⟩ = some (.int .i64 a1_4)∧w'.cell? ⟨gb1242,5,none⟩ = some (.int .i64 a1_5)∧w'.cell? ⟨gb1242,6,none⟩ = some (.string a1_6)∧w'.cell? ⟨g,0,none⟩ = some (.string t1257)∧w'.cell? ⟨g,1,none⟩ = some (.int .i64 t1258)∧w'.cell? ⟨g,2,none⟩ = some (.int .i64 t1259)∧w'.cell? ⟨g,3,none⟩ = some (.int .i64 t1260)∧w'.cell? ⟨g,4,none⟩ = some (.int .i64 t1261)∧w'.cell? ⟨g,5,none⟩ = some (.int .i64 t1262)∧w'.cell? ⟨g,6,none⟩ = some (.int .i64 t1263)∧w'.cell? ⟨g,7,none⟩ = some (.int .i64 t1264)∧w'.cell? ⟨g,8,none⟩ = some (.string t1265)∧w'.cell? ⟨g,9,none⟩ = some (.string t1266)∧w'.cell? ⟨g,10,none⟩ = some (.bool t1267)) (ds:=[]) #[false,false,false,false,false,false,false,false,false,false,false,false,false,false,false,false,false,false,false] (by kernel_rfl) rfl rfl (ca7 BK1242.out ⟨(cellS34_0 HI0.out.1),(cellS34_1 HI0.out.1),(cellS34_2 HI0.out.1),(cellS34_3 HI0.out.1),(cellS34_4 HI0.out.1),(cellS34_5 HI0.out.1),(cellS34_6 HI0.out.1),(cellS34_7 HI0.out.1),(cellS34_8 HI0.out.1),(cellS34_9 HI0.out.1),(cellS34_10 HI0.out.1)⟩) (fun hHeld => ?_);refine with_tabW impl_Conn_take.tab17 impl_Conn_take.bits17 (fun HT_ HW_ => ?_)
          generalize wc.drew = w36 at BK1242 HI0 HK HB hHeld ⊢
          refine pU (i:=0) (N:=some 107) #[true,false,false,false,false,false,false,false,false,false,false,false,false,false,false,false,false,false,false] (any_of HT_.out (by kernel_rfl)) ?_
          refine pU (i:=2) (N:=some 109) #[true,false,true,false,false,false,false,false,false,false,false,false,false,false,false,false,false,false,false] (any_of HT_.out (by kernel_rfl)) ?_
          refine pU (i:=3) (N:=some 110) #[true,false,true,true,false,false,false,false,false,false,false,false,false,false,false,false,false,false,false] (any_of HT_.out (by kernel_rfl)) ?_
          refine pU (i:=4) (N:=some 111) #[true,false,true,true,true,false,false,false,false,false,false,false,false,false,false,false,false,false,false] (any_of HT_.out (by kernel_rfl)) ?_
          refine tU18 (i:=1) (N:=some 108) #[true,true,true,true,true,false,false,false,false,false,false,false,false,false,false,false,false,false,false] (take_ofW HT_.out HW_.out (by kernel_rfl)) hHeld ?_
          refine tU18 (i:=5) (N:=some 112) #[true,true,true,true,true,true,false,false,false,false,false,false,false,false,false,false,false,false,false] (take_ofW HT_.out HW_.out (by kernel_rfl)) hHeld ?_
          refine pU (i:=6) (N:=some 113) #[true,true,true,true,true,true,true,false,false,false,false,false,false,false,false,false,false,false,false] (any_of HT_.out (by kernel_rfl)) ?_
          refine pU (i:=7) (N:=some 114) #[true,true,true,true,true,true,true,true,false,false,false,false,false,false,false,false,false,false,false] (any_of HT_.out (by kernel_rfl)) ?_
          refine pU (i:=8) (N:=some 115) #[true,true,true,true,true,true,true,true,true,false,false,false,false,false,false,false,false,false,false] (any_of HT_.out (by kernel_rfl)) ?_
          refine pU (i:=9) (N:=some 116) #[true,true,true,true,true,true,true,true,true,true,false,false,false,false,false,false,false,false,false] (any_of HT_.out (by kernel_rfl)) ?_
          refine pU (i:=10) (N:=some 117) #[true,true,true,true,true,true,true,true,true,true,true,false,false,false,false,false,false,false,false] (any_of HT_.out (by kernel_rfl)) ?_
          refine pU (i:=13) (N:=some 120) #[true,true,true,true,true,true,true,true,true,true,true,false,false,true,false,false,false,false,false] (any_of HT_.out (by kernel_rfl)) ?_
          refine tU18 (i:=11) (N:=some 118) #[true,true,true,true,true,true,true,true,true,true,true,true,false,true,false,false,false,false,false] (take_ofW HT_.out HW_.out (by kernel_rfl)) hHeld ?_
          refine pU (i:=12) (N:=some 119) #[true,true,true,true,true,true,true,true,true,true,true,true,true,true,false,false,false,false,false] (any_of HT_.out (by kernel_rfl)) ?_
          refine tU18 (i:=14) (N:=some 121) #[true,true,true,true,true,true,true,true,true,true,true,true,true,true,true,false,false,false,false] (take_ofW HT_.out HW_.out (by kernel_rfl)) hHeld ?_
          refine pU (i:=15) (N:=some 122) #[true,true,true,true,true,true,true,true,true,true,true,true,true,true,true,true,false,false,false] (any_of HT_.out (by kernel_rfl)) ?_
          refine pU (i:=16) (N:=some 123) #[true,true,true,true,true,true,true,true,true,true,true,true,true,true,true,true,true,false,false] (any_of HT_.out (by kernel_rfl)) ?_
          refine pU (i:=17) (N:=some 124) #[true,true,true,true,true,true,true,true,true,true,true,true,true,true,true,true,true,true,false] (any_of HT_.out (by kernel_rfl)) ?_
          refine pU (i:=18) (N:=some 125) #[true,true,true,true,true,true,true,true,true,true,true,true,true,true,true,true,true,true,true] (any_of HT_.out (by kernel_rfl)) ?_
          refine done_ (done_of HT_.out (by kernel_rfl)) ?_
          try go_wp2
          go_meet
          case rel => exact ⟨_,(decide ((wrap64 ((t1265.size:Int) + (a1_6.size:Int)))≤300)),rfS,H',⟨by have:=HJ14.out;first | omega|exact Nat.le_refl _⟩,⟨by refine pB ?_;exact BK1242.out⟩,⟨by repeat (first|(with_reducible first|exact HI0.out|apply IsS34.alloc|apply IsS34.drewN|apply IsS34.drew|apply IsS34.set_0|apply IsS34.set_1|apply IsS34.set_2|apply IsS34.set_3|apply IsS34.set_4|apply IsS34.set_5|apply IsS34.set_6|apply IsS34.set_7|apply IsS34.set_8|apply IsS34.set_9|apply IsS34.set_10|refine IsS34.far ?_ NB0_1242.out _)|exact HI0.out)⟩,⟨by repeat (first|(with_reducible first|exact HK.out|apply KeepBut.set_|apply keep_drewN|apply keep_drew|apply keep_alloc|refine keep_far ?_ GW1242.out _)|exact HK.out)⟩,⟨bW34⟩⟩
         ·rw [if_neg c35] at H
          have c35b0:(a1_2 == t1264) = false:=beq_eq_false_iff_ne.mpr c35
          have c35b1:(a1_2 != t1264) = true:=bne_iff_ne.mpr c35
          (first|rw [c35b0]|(simp only [i64_w,i32_w];rw [c35b0]) | skip)
          have H':=aMk H
          clear H
          try go_wp2
          replace BK1242:=aMk (bDr BK1242.out)
          replace HI0:=aMk (IsS34.drew HI0.out)
          replace HK:=aMk (keep_drew HK.out)
          replace HB:=aMk (bw1 HB.out)
          refine start_ (n:=19) (S:=fun w' => w'.cell? ⟨gb1242,0,none⟩ = some (.int .i64 a1_0)∧w'.cell? ⟨gb1242,1,none⟩ = some (.int .i64 a1_1)∧w'.cell? ⟨gb1242,2,none⟩ = some (.int .i64 a1_2)∧w'.cell? ⟨gb1242,3,none⟩ = some (.int .i64 a1_3)∧w'.cell? ⟨gb1242,4,none⟩ = some (.int .i64 a1_4)∧w'.cell? ⟨gb1242,5,none⟩ = some (.int .i64 a1_5)∧w'.cell? ⟨gb1242,6,none⟩ = some (.string a1_6)∧w'.cell? ⟨g,0,none⟩ = some (.string t1257)∧w'.cell? ⟨g,1,none⟩ = some (.int .i64 t1258)∧w'.cell? ⟨g,2,none⟩ = some (.int .i64 t1259)∧w'.cell? ⟨g,3,none⟩ = some (.int .i64 t1260)∧w'.cell? ⟨g,4,none⟩ = some (.int .i64 t1261)∧w'.cell? ⟨g,5,none⟩ = some (.int .i64 t1262)∧w'.cell? ⟨g,6,none⟩ = some (.int .i64 t1263)∧w'.cell? ⟨g,7,none⟩ = some (.int .i64 t1264)∧w'.cell? ⟨g,8,none⟩ = some (.string t1265)∧w'.cell? ⟨g,9,none⟩ = some (.string t1266)∧w'.cell? ⟨g,10,none⟩ = some (.bool t1267)) (ds:=[]) #[false,false,false,false,false,false,false,false,false,false,false,false,false,false,false,false,false,false,false] (by kernel_rfl) rfl rfl (ca7 BK1242.out ⟨(cellS34_0 HI0.out.1),(cellS34_1 HI0.out.1),(cellS34_2 HI0.out.1),(cellS34_3 HI0.out.1),(cellS34_4 HI0.out.1),(cellS34_5 HI0.out.1),(cellS34_6 HI0.out.1),(cellS34_7 HI0.out.1),(cellS34_8 HI0.out.1),(cellS34_9 HI0.out.1),(cellS34_10 HI0.out.1)⟩) (fun hHeld => ?_);refine with_tabW impl_Conn_take.tab17 impl_Conn_take.bits17 (fun HT_ HW_ => ?_)
          generalize wc.drew = w37 at BK1242 HI0 HK HB hHeld ⊢
          refine pU (i:=0) (N:=some 107) #[true,false,false,false,false,false,false,false,false,false,false,false,false,false,false,false,false,false,false] (any_of HT_.out (by kernel_rfl)) ?_
          refine pU (i:=2) (N:=some 109) #[true,false,true,false,false,false,false,false,false,false,false,false,false,false,false,false,false,false,false] (any_of HT_.out (by kernel_rfl)) ?_
          refine pU (i:=3) (N:=some 110) #[true,false,true,true,false,false,false,false,false,false,false,false,false,false,false,false,false,false,false] (any_of HT_.out (by kernel_rfl)) ?_
          refine pU (i:=4) (N:=some 111) #[true,false,true,true,true,false,false,false,false,false,false,false,false,false,false,false,false,false,false] (any_of HT_.out (by kernel_rfl)) ?_
          refine tU18 (i:=1) (N:=some 108) #[true,true,true,true,true,false,false,false,false,false,false,false,false,false,false,false,false,false,false] (take_ofW HT_.out HW_.out (by kernel_rfl)) hHeld ?_
          refine tU18 (i:=5) (N:=some 112) #[true,true,true,true,true,true,false,false,false,false,false,false,false,false,false,false,false,false,false] (take_ofW HT_.out HW_.out (by kernel_rfl)) hHeld ?_
          refine pU (i:=6) (N:=some 113) #[true,true,true,true,true,true,true,false,false,false,false,false,false,false,false,false,false,false,false] (any_of HT_.out (by kernel_rfl)) ?_
          refine pU (i:=7) (N:=some 114) #[true,true,true,true,true,true,true,true,false,false,false,false,false,false,false,false,false,false,false] (any_of HT_.out (by kernel_rfl)) ?_
          refine pure_ (i:=8) (N:=some 115) (v:=undef) (a':=?_) #[true,true,true,true,true,true,true,true,true,false,false,false,false,false,false,false,false,false,false] rfl rfl (any_of HT_.out (by kernel_rfl)) (fun _ _ _ h => h) (Or.inr ⟨by rfl,rfl⟩) ?_ ?_
          rotate_left
          ·simp only [Act.put,List.setIfInBounds_toArray,List.set_cons_zero,List.set_cons_succ,i64_w,i32_w]
           rfl
          refine pure_ (i:=9) (N:=some 116) (v:=undef) (a':=?_) #[true,true,true,true,true,true,true,true,true,true,false,false,false,false,false,false,false,false,false] rfl rfl (any_of HT_.out (by kernel_rfl)) (fun _ _ _ h => h) (Or.inr ⟨by rfl,rfl⟩) ?_ ?_
          rotate_left
          ·simp only [Act.put,List.setIfInBounds_toArray,List.set_cons_zero,List.set_cons_succ,i64_w,i32_w]
           rfl
          refine pure_ (i:=10) (N:=some 117) (v:=undef) (a':=?_) #[true,true,true,true,true,true,true,true,true,true,true,false,false,false,false,false,false,false,false] rfl rfl (any_of HT_.out (by kernel_rfl)) (fun _ _ _ h => h) (Or.inr ⟨by rfl,rfl⟩) ?_ ?_
          rotate_left
          ·simp only [Act.put,List.setIfInBounds_toArray,List.set_cons_zero,List.set_cons_succ,i64_w,i32_w]
           rfl
          refine pure_ (i:=11) (N:=some 118) (v:=undef) (a':=?_) #[true,true,true,true,true,true,true,true,true,true,true,true,false,false,false,false,false,false,false] rfl rfl (any_of HT_.out (by kernel_rfl)) (fun _ _ _ h => h) (Or.inr ⟨by rfl,rfl⟩) ?_ ?_
          rotate_left
          ·simp only [Act.put,List.setIfInBounds_toArray,List.set_cons_zero,List.set_cons_succ,i64_w,i32_w]
           rfl
          refine pure_ (i:=12) (N:=some 119) (v:=undef) (a':=?_) #[true,true,true,true,true,true,true,true,true,true,true,true,true,false,false,false,false,false,false] rfl rfl (any_of HT_.out (by kernel_rfl)) (fun _ _ _ h => h) (Or.inr ⟨by rfl,rfl⟩) ?_ ?_
          rotate_left
          ·simp only [Act.put,List.setIfInBounds_toArray,List.set_cons_zero,List.set_cons_succ,i64_w,i32_w]
           rfl
          refine pure_ (i:=13) (N:=some 120) (v:=undef) (a':=?_) #[true,true,true,true,true,true,true,true,true,true,true,true,true,true,false,false,false,false,false] rfl rfl (any_of HT_.out (by kernel_rfl)) (fun _ _ _ h => h) (Or.inr ⟨by rfl,rfl⟩) ?_ ?_
          rotate_left
          ·simp only [Act.put,List.setIfInBounds_toArray,List.set_cons_zero,List.set_cons_succ,i64_w,i32_w]
           rfl
          refine pure_ (i:=14) (N:=some 121) (v:=undef) (a':=?_) #[true,true,true,true,true,true,true,true,true,true,true,true,true,true,true,false,false,false,false] rfl rfl (any_of HT_.out (by kernel_rfl)) (fun _ _ _ h => h) (Or.inr ⟨by rfl,rfl⟩) ?_ ?_
          rotate_left
          ·simp only [Act.put,List.setIfInBounds_toArray,List.set_cons_zero,List.set_cons_succ,i64_w,i32_w]
           rfl
          refine pure_ (i:=15) (N:=some 122) (v:=undef) (a':=?_) #[true,true,true,true,true,true,true,true,true,true,true,true,true,true,true,true,false,false,false] rfl rfl (any_of HT_.out (by kernel_rfl)) (fun _ _ _ h => h) (Or.inr ⟨by rfl,rfl⟩) ?_ ?_
          rotate_left
          ·simp only [Act.put,List.setIfInBounds_toArray,List.set_cons_zero,List.set_cons_succ,i64_w,i32_w]
           rfl
          refine pure_ (i:=16) (N:=some 123) (v:=undef) (a':=?_) #[true,true,true,true,true,true,true,true,true,true,true,true,true,true,true,true,true,false,false] rfl rfl (any_of HT_.out (by kernel_rfl)) (fun _ _ _ h => h) (Or.inr ⟨by rfl,rfl⟩) ?_ ?_
          rotate_left
          ·simp only [Act.put,List.setIfInBounds_toArray,List.set_cons_zero,List.set_cons_succ,i64_w,i32_w]
           rfl
          refine pure_ (i:=17) (N:=some 124) (v:=undef) (a':=?_) #[true,true,true,true,true,true,true,true,true,true,true,true,true,true,true,true,true,true,false] rfl rfl (any_of HT_.out (by kernel_rfl)) (fun _ _ _ h => h) (Or.inr ⟨by rfl,rfl⟩) ?_ ?_
          rotate_left
          ·simp only [Act.put,List.setIfInBounds_toArray,List.set_cons_zero,List.set_cons_succ,i64_w,i32_w]
           rfl
          refine pU (i:=18) (N:=some 125) #[true,true,true,true,true,true,true,true,true,true,true,true,true,true,true,true,true,true,true] (any_of HT_.out (by kernel_rfl)) ?_
          refine done_ (done_of HT_.out (by kernel_rfl)) ?_
          try go_wp2
          go_meet
          case rel => exact ⟨_,(false),rfS,H',⟨by have:=HJ14.out;first | omega|exact Nat.le_refl _⟩,⟨by refine pB ?_;exact BK1242.out⟩,⟨by repeat (first|(with_reducible first|exact HI0.out|apply IsS34.alloc|apply IsS34.drewN|apply IsS34.drew|apply IsS34.set_0|apply IsS34.set_1|apply IsS34.set_2|apply IsS34.set_3|apply IsS34.set_4|apply IsS34.set_5|apply IsS34.set_6|apply IsS34.set_7|apply IsS34.set_8|apply IsS34.set_9|apply IsS34.set_10|refine IsS34.far ?_ NB0_1242.out _)|exact HI0.out)⟩,⟨by repeat (first|(with_reducible first|exact HK.out|apply KeepBut.set_|apply keep_drewN|apply keep_drew|apply keep_alloc|refine keep_far ?_ GW1242.out _)|exact HK.out)⟩,⟨bW34⟩⟩
        case rest =>
         clear HC34
         try clear Z10_0 Z10_1 Z10_10 Z10_2 Z10_3 Z10_4 Z10_5 Z10_6 Z10_7 Z10_8 Z10_9
         try clear Z12_0 Z12_1 Z12_2 Z12_3 Z12_4 Z12_5 Z12_6
         try clear Z17_0 Z17_1 Z17_10 Z17_2 Z17_3 Z17_4 Z17_5 Z17_6 Z17_7 Z17_8 Z17_9
         try clear Z19_0 Z19_1 Z19_2 Z19_3 Z19_4 Z19_5 Z19_6
         try clear Z21_0 Z21_1 Z21_2 Z21_3 Z21_4 Z21_5 Z21_6
         try clear Z23_0 Z23_1 Z23_10 Z23_2 Z23_3 Z23_4 Z23_5 Z23_6 Z23_7 Z23_8 Z23_9
         try clear Z25_0 Z25_1 Z25_10 Z25_2 Z25_3 Z25_4 Z25_5 Z25_6 Z25_7 Z25_8 Z25_9
         try clear Z27_0 Z27_1 Z27_10 Z27_2 Z27_3 Z27_4 Z27_5 Z27_6 Z27_7 Z27_8 Z27_9
         try clear Z29_0 Z29_1 Z29_2 Z29_3 Z29_4 Z29_5 Z29_6
         try clear Z30_0 Z30_1 Z30_10 Z30_2 Z30_3 Z30_4 Z30_5 Z30_6 Z30_7 Z30_8 Z30_9
         try clear Z32_0 Z32_1 Z32_2 Z32_3 Z32_4 Z32_5 Z32_6
         try clear Z5_0 Z5_1 Z5_10 Z5_2 Z5_3 Z5_4 Z5_5 Z5_6 Z5_7 Z5_8 Z5_9
         try clear Y10_0 Y10_1 Y10_10 Y10_2 Y10_3 Y10_4 Y10_5 Y10_6 Y10_7 Y10_8 Y10_9
         try clear Y12_0 Y12_1 Y12_2 Y12_3 Y12_4 Y12_5 Y12_6
         try clear Y17_0 Y17_1 Y17_10 Y17_2 Y17_3 Y17_4 Y17_5 Y17_6 Y17_7 Y17_8 Y17_9
         try clear Y19_0 Y19_1 Y19_2 Y19_3 Y19_4 Y19_5 Y19_6
         try clear Y21_0 Y21_1 Y21_2 Y21_3 Y21_4 Y21_5 Y21_6
         try clear Y23_0 Y23_1 Y23_10 Y23_2 Y23_3 Y23_4 Y23_5 Y23_6 Y23_7 Y23_8 Y23_9
         try clear Y25_0 Y25_1 Y25_10 Y25_2 Y25_3 Y25_4 Y25_5 Y25_6 Y25_7 Y25_8 Y25_9
         try clear Y27_0 Y27_1 Y27_10 Y27_2 Y27_3 Y27_4 Y27_5 Y27_6 Y27_7 Y27_8 Y27_9
         try clear Y29_0 Y29_1 Y29_2 Y29_3 Y29_4 Y29_5 Y29_6
         try clear Y30_0 Y30_1 Y30_10 Y30_2 Y30_3 Y30_4 Y30_5 Y30_6 Y30_7 Y30_8 Y30_9
         try clear Y32_0 Y32_1 Y32_2 Y32_3 Y32_4 Y32_5 Y32_6
         try clear Y5_0 Y5_1 Y5_10 Y5_2 Y5_3 Y5_4 Y5_5 Y5_6 Y5_7 Y5_8 Y5_9
         obtain ⟨kq,x125_33,rfl,HA,HJ33,BK1242,HI0,HK,HB⟩:=hcut
         cases kq with
         | zero => exact absurd HA.out (by simp [impl_Conn_take.j2])
         | succ kj33 =>
          have H:=HA.out
          clear HA
          simp only [impl_Conn_take.j2] at H
          by_cases c38:x125_33 = true
          ·subst c38
           have H1:=H
           rw [if_pos rfl] at H1
           clear H
           have H:=H1
           clear H1
           by_cases c39:t1265.size + a1_6.size≤9223372036854775807
           ·rw [if_pos c39] at H
            have c39b0:=eq_true c39
            have c39b1:decide (t1265.size + a1_6.size≤9223372036854775807) = true:=decide_eq_true c39
            try have c39b2:(9223372036854775807 < t1265.size + a1_6.size) = False:=eq_false (Nat.not_lt.2 c39)
            replace H:=Option.bind_eq_some_iff.mp H
            obtain ⟨t1269,A400,H⟩:=H
            try dsimp only at H
            have A40:=aMk A400
            clear A400
            replace H:=Option.bind_eq_some_iff.mp H
            obtain ⟨⟨t1270,t1271,t1272,t1273,t1274,t1275,t1276⟩,A410,H⟩:=H
            try dsimp only at H
            have A41:=aMk A410
            clear A410
            obtain ⟨y1277,hy1277⟩:∃ y_:List (S53),y_ = (([(⟨t1270,t1271,t1272,t1273,t1274,t1275,t1276⟩:S53)]:List (S53))):=⟨_,rfl⟩
            replace H:(some (y1277,t1257,t1258,t1259,t1260,t1261,t1262,t1263,t1269,t1265 ++ a1_6,t1266,t1267)) = some (r1,r2,r3,r4,r5,r6,r7,r8,r9,r10,r11,r12):=by first|(rw [hy1277];with_reducible exact H)|(have H2_:=(Option.bind_some _ _).symm.trans H;rw [hy1277];with_reducible exact H2_)|(have H2_:=(Option.bind_some _ _).symm.trans H;with_reducible exact H2_) | with_reducible exact H|(rw [hy1277];exact H)|exact H
            have Ny1277:=aMk hy1277
            clear hy1277
            simp only [Option.some.injEq,Prod.mk.injEq] at H
            obtain ⟨rfl,rfl,rfl,rfl,rfl,rfl,rfl,rfl,rfl,rfl,rfl,rfl⟩:=H
            try go_wp2
            replace BK1242:=aMk (bDr BK1242.out)
            replace HI0:=aMk (IsS34.drew HI0.out)
            replace HK:=aMk (keep_drew HK.out)
            replace HB:=aMk (bw1 HB.out)
            refine start_ (n:=10) (S:=fun w' => w'.cell? ⟨g,0,none⟩ = some (.string t1257)∧w'.cell? ⟨g,1,none⟩ = some (.int .i64 t1258)∧w'.cell? ⟨g,2,none⟩ = some (.int .i64 t1259)∧w'.cell? ⟨g,3,none⟩ = some (.int .i64 t1260)∧w'.cell? ⟨g,4,none⟩ = some (.int .i64 t1261)∧w'.cell? ⟨g,5,none⟩ = some (.int .i64 t1262)∧w'.cell? ⟨g,6,none⟩ = some (.int .i64 t1263)∧w'.cell? ⟨g,7,none⟩ = some (.int .i64 t1264)∧w'.cell? ⟨g,8,none⟩ = some (.string t1265)∧w'.cell? ⟨g,9,none⟩ = some (.string t1266)∧w'.cell? ⟨g,10,none⟩ = some (.bool t1267)∧w'.cell? ⟨gb1242,0,none⟩ = some (.int .i64 a1_0)∧w'.cell? ⟨gb1242,1,none⟩ = some (.int .i64 a1_1)∧w'.cell? ⟨gb1242,2,none⟩ = some (.int .i64 a1_2)∧w'.cell? ⟨gb1242,3,none⟩ = some (.int .i64 a1_3)∧w'.cell? ⟨gb1242,4,none⟩ = some (.int .i64 a1_4)∧w'.cell? ⟨gb1242,5,none⟩ = some (.int .i64 a1_5)∧w'.cell? ⟨gb1242,6,none⟩ = some (.string a1_6)) (ds:=[9]) #[false,false,false,false,false,false,false,false,false,false] (by kernel_rfl) rfl rfl ⟨(cellS34_0 HI0.out.1),(cellS34_1 HI0.out.1),(cellS34_2 HI0.out.1),(cellS34_3 HI0.out.1),(cellS34_4 HI0.out.1),(cellS34_5 HI0.out.1),(cellS34_6 HI0.out.1),(cellS34_7 HI0.out.1),(cellS34_8 HI0.out.1),(cellS34_9 HI0.out.1),(cellS34_10 HI0.out.1),(bCe BK1242.out 0).trans rfl,(bCe BK1242.out 1).trans rfl,(bCe BK1242.out 2).trans rfl,(bCe BK1242.out 3).trans rfl,(bCe BK1242.out 4).trans rfl,(bCe BK1242.out 5).trans rfl,(bCe BK1242.out 6).trans rfl⟩ (fun hHeld => ?_);refine with_tabW impl_Conn_take.tab18 impl_Conn_take.bits18 (fun HT_ HW_ => ?_)
            generalize wc.drew = w42 at BK1242 HI0 HK HB hHeld ⊢
            refine pU (i:=0) (N:=some 126) #[true,false,false,false,false,false,false,false,false,false] (any_of HT_.out (by kernel_rfl)) ?_
            refine pU (i:=1) (N:=some 127) #[true,true,false,false,false,false,false,false,false,false] (any_of HT_.out (by kernel_rfl)) ?_
            refine pU (i:=2) (N:=some 128) #[true,true,true,false,false,false,false,false,false,false] (any_of HT_.out (by kernel_rfl)) ?_
            refine pU (i:=4) (N:=some 130) #[true,true,true,false,true,false,false,false,false,false] (any_of HT_.out (by kernel_rfl)) ?_
            refine tU18 (i:=3) (N:=some 129) #[true,true,true,true,true,false,false,false,false,false] (take_ofW HT_.out HW_.out (by kernel_rfl)) hHeld ?_
            refine tU18 (i:=5) (N:=some 131) #[true,true,true,true,true,true,false,false,false,false] (take_ofW HT_.out HW_.out (by kernel_rfl)) hHeld ?_
            refine pU (i:=6) (N:=some 132) #[true,true,true,true,true,true,true,false,false,false] (any_of HT_.out (by kernel_rfl)) ?_
            refine pU (i:=7) (N:=some 133) #[true,true,true,true,true,true,true,true,false,false] (any_of HT_.out (by kernel_rfl)) ?_
            refine pU (i:=8) (N:=some 134) #[true,true,true,true,true,true,true,true,true,false] (any_of HT_.out (by kernel_rfl)) ?_
            refine last_ (i:=9) (N:=none) #[true,true,true,true,true,true,true,true,true,true] rfl rfl (one_of HT_.out (by kernel_rfl)) (by decide) (fun K hK => ?_)
            have hfs43:=bFr HI0.out.1 8
            refine skip_ (w1:=?_) (by rfl) rfl ?_ ?_
            rotate_left
            ·go_simp
             rfl
            refine hK.out _ _ ?_
            clear hK K
            refine done_ (done_of HT_.out (by kernel_rfl)) ?_
            try go_wp2
            have n0_:Aside0 ((w42.setCell ⟨g,8,none⟩ (.string (t1265 ++ a1_6))).heap[gb1242]? = some (.cells #[.int .i64 a1_0,.int .i64 a1_1,.int .i64 a1_2,.int .i64 a1_3,.int .i64 a1_4,.int .i64 a1_5,.string a1_6] 53 (0,0))):=⟨by refine pB ?_;refine blk_far ?_ NB1242_0.out _;refine pB ?_;exact BK1242.out⟩
            have n1_:Aside0 (IsS34 w0 (w42.setCell ⟨g,8,none⟩ (.string (t1265 ++ a1_6))) g t1257 t1258 t1259 t1260 t1261 t1262 t1263 t1264 (t1265 ++ a1_6) t1266 t1267):=⟨by repeat (first|(with_reducible first|exact HI0.out|apply IsS34.alloc|apply IsS34.drewN|apply IsS34.drew|apply IsS34.set_0|apply IsS34.set_1|apply IsS34.set_2|apply IsS34.set_3|apply IsS34.set_4|apply IsS34.set_5|apply IsS34.set_6|apply IsS34.set_7|apply IsS34.set_8|apply IsS34.set_9|apply IsS34.set_10|refine IsS34.far ?_ NB0_1242.out _)|exact HI0.out)⟩
            have n2_:Aside0 (KeepBut w (w42.setCell ⟨g,8,none⟩ (.string (t1265 ++ a1_6))) g none):=⟨by repeat (first|(with_reducible first|exact HK.out|apply KeepBut.set_|apply keep_drewN|apply keep_drew|apply keep_alloc|refine keep_far ?_ GW1242.out _)|exact HK.out)⟩
            have n3_:Aside0 (Below w0.heap.size w0 (w42.setCell ⟨g,8,none⟩ (.string (t1265 ++ a1_6)))):=⟨bW34⟩
            (try clear BK1242)
            (try clear HI0)
            (try clear HK)
            (try clear HB)
            generalize (w42.setCell ⟨g,8,none⟩ (.string (t1265 ++ a1_6))) = w44 at n0_ n1_ n2_ n3_ ⊢
            have BK1242:=n0_
            have HI0:=n1_
            have HK:=n2_
            have HB:=n3_
            clear n0_ n1_ n2_ n3_
            replace BK1242:=aMk (bDr BK1242.out)
            replace HI0:=aMk (IsS34.drew HI0.out)
            replace HK:=aMk (keep_drew HK.out)
            replace HB:=aMk (bw1 HB.out)
            refine start_ (n:=14) (S:=fun w' => w'.cell? ⟨g,0,none⟩ = some (.string t1257)∧w'.cell? ⟨g,1,none⟩ = some (.int .i64 t1258)∧w'.cell? ⟨g,2,none⟩ = some (.int .i64 t1259)∧w'.cell? ⟨g,3,none⟩ = some (.int .i64 t1260)∧w'.cell? ⟨g,4,none⟩ = some (.int .i64 t1261)∧w'.cell? ⟨g,5,none⟩ = some (.int .i64 t1262)∧w'.cell? ⟨g,6,none⟩ = some (.int .i64 t1263)∧w'.cell? ⟨g,7,none⟩ = some (.int .i64 t1264)∧w'.cell? ⟨g,8,none⟩ = some (.string (t1265 ++ a1_6))∧w'.cell? ⟨g,9,none⟩ = some (.string t1266)∧w'.cell? ⟨g,10,none⟩ = some (.bool t1267)∧w'.cell? ⟨gb1242,0,none⟩ = some (.int .i64 a1_0)∧w'.cell? ⟨gb1242,1,none⟩ = some (.int .i64 a1_1)∧w'.cell? ⟨gb1242,2,none⟩ = some (.int .i64 a1_2)∧w'.cell? ⟨gb1242,3,none⟩ = some (.int .i64 a1_3)∧w'.cell? ⟨gb1242,4,none⟩ = some (.int .i64 a1_4)∧w'.cell? ⟨gb1242,5,none⟩ = some (.int .i64 a1_5)∧w'.cell? ⟨gb1242,6,none⟩ = some (.string a1_6)) (ds:=[13]) #[false,false,false,false,false,false,false,false,false,false,false,false,false,false] (by kernel_rfl) rfl rfl ⟨(cellS34_0 HI0.out.1),(cellS34_1 HI0.out.1),(cellS34_2 HI0.out.1),(cellS34_3 HI0.out.1),(cellS34_4 HI0.out.1),(cellS34_5 HI0.out.1),(cellS34_6 HI0.out.1),(cellS34_7 HI0.out.1),(cellS34_8 HI0.out.1),(cellS34_9 HI0.out.1),(cellS34_10 HI0.out.1),(bCe BK1242.out 0).trans rfl,(bCe BK1242.out 1).trans rfl,(bCe BK1242.out 2).trans rfl,(bCe BK1242.out 3).trans rfl,(bCe BK1242.out 4).trans rfl,(bCe BK1242.out 5).trans rfl,(bCe BK1242.out 6).trans rfl⟩ (fun hHeld => ?_);refine with_tabW impl_Conn_take.tab19 impl_Conn_take.bits19 (fun HT_ HW_ => ?_)
            generalize w44.drew = w45 at BK1242 HI0 HK HB hHeld ⊢
            refine pU (i:=0) (N:=some 135) #[true,false,false,false,false,false,false,false,false,false,false,false,false,false] (any_of HT_.out (by kernel_rfl)) ?_
            refine pU (i:=1) (N:=some 136) #[true,true,false,false,false,false,false,false,false,false,false,false,false,false] (any_of HT_.out (by kernel_rfl)) ?_
            refine pU (i:=2) (N:=some 137) #[true,true,true,false,false,false,false,false,false,false,false,false,false,false] (any_of HT_.out (by kernel_rfl)) ?_
            refine pU (i:=3) (N:=some 138) #[true,true,true,true,false,false,false,false,false,false,false,false,false,false] (any_of HT_.out (by kernel_rfl)) ?_
            refine pU (i:=5) (N:=some 140) #[true,true,true,true,false,true,false,false,false,false,false,false,false,false] (any_of HT_.out (by kernel_rfl)) ?_
            refine pU (i:=8) (N:=some 143) #[true,true,true,true,false,true,false,false,true,false,false,false,false,false] (any_of HT_.out (by kernel_rfl)) ?_
            refine tU18 (i:=4) (N:=some 139) #[true,true,true,true,true,true,false,false,true,false,false,false,false,false] (take_ofW HT_.out HW_.out (by kernel_rfl)) hHeld ?_
            refine tU18 (i:=6) (N:=some 141) #[true,true,true,true,true,true,true,false,true,false,false,false,false,false] (take_ofW HT_.out HW_.out (by kernel_rfl)) hHeld ?_
            refine pU (i:=7) (N:=some 142) #[true,true,true,true,true,true,true,true,true,false,false,false,false,false] (any_of HT_.out (by kernel_rfl)) ?_
            refine pU (i:=9) (N:=some 144) #[true,true,true,true,true,true,true,true,true,true,false,false,false,false] (any_of HT_.out (by kernel_rfl)) ?_
            refine one_ (i:=10) (N:=some 145) #[true,true,true,true,true,true,true,true,true,true,true,false,false,false] rfl rfl (one_of HT_.out (by kernel_rfl)) (by decide) (fun K hK => ?_)
            refine goes_ Try.func112 (by kernel_rfl) rfl #[.int .i64 t1264,.int .i64 (wrap64 ((a1_6.size:Int) + t1268))] (by rfl) rfl rfl (by (try simp only [List.map_toArray,List.map_cons,List.map_nil]);first | done | rfl|(simp only [List.length_drop,List.length_take];rfl)) ?_
            with_reducible refine (impl_onward.calls t1264 (wrap64 ((a1_6.size:Int) + t1268)) t1269 _ A40.out).mono ?_
            rintro e w' ⟨rfl,⟨nd,rfl⟩⟩
            refine ⟨_,rfl,?_⟩
            refine hK.out _ _ ⟨(cellS34_0 HI0.out.1),(cellS34_1 HI0.out.1),(cellS34_2 HI0.out.1),(cellS34_3 HI0.out.1),(cellS34_4 HI0.out.1),(cellS34_5 HI0.out.1),(cellS34_6 HI0.out.1),(cellS34_7 HI0.out.1),(cellS34_8 HI0.out.1),(cellS34_9 HI0.out.1),(cellS34_10 HI0.out.1),(bCe BK1242.out 0).trans rfl,(bCe BK1242.out 1).trans rfl,(bCe BK1242.out 2).trans rfl,(bCe BK1242.out 3).trans rfl,(bCe BK1242.out 4).trans rfl,(bCe BK1242.out 5).trans rfl,(bCe BK1242.out 6).trans rfl⟩ (fun hHeld => ?_)
            clear hK K
            refine norm_ (a':=?_) ?_ ?_
            rotate_left
            ·show Act.put _ (some 145) _ = _
             simp only [Act.put,List.setIfInBounds_toArray,List.set_cons_zero,List.set_cons_succ,i64_w,i32_w]
             rfl
            refine pU (i:=11) (N:=some 146) #[true,true,true,true,true,true,true,true,true,true,true,true,false,false] (any_of HT_.out (by kernel_rfl)) ?_
            refine pU (i:=12) (N:=some 147) #[true,true,true,true,true,true,true,true,true,true,true,true,true,false] (any_of HT_.out (by kernel_rfl)) ?_
            refine last_ (i:=13) (N:=none) #[true,true,true,true,true,true,true,true,true,true,true,true,true,true] rfl rfl (one_of HT_.out (by kernel_rfl)) (by decide) (fun K hK => ?_)
            have hfs46:=bFr HI0.out.1 7
            refine skip_ (w1:=?_) (by rfl) rfl ?_ ?_
            rotate_left
            ·go_simp
             rfl
            refine hK.out _ _ ?_
            clear hK K
            refine done_ (done_of HT_.out (by kernel_rfl)) ?_
            obtain ⟨HGz47,hgz47⟩:=HI0.out
            have Z47_0:=cellS34_0 HGz47
            have Z47_1:=cellS34_1 HGz47
            have Z47_2:=cellS34_2 HGz47
            have Z47_3:=cellS34_3 HGz47
            have Z47_4:=cellS34_4 HGz47
            have Z47_5:=cellS34_5 HGz47
            have Z47_6:=cellS34_6 HGz47
            have Z47_7:=cellS34_7 HGz47
            have Z47_8:=cellS34_8 HGz47
            have Z47_9:=cellS34_9 HGz47
            have Z47_10:=cellS34_10 HGz47
            have Y47_0:=bFr HGz47 0
            have Y47_1:=bFr HGz47 1
            have Y47_2:=bFr HGz47 2
            have Y47_3:=bFr HGz47 3
            have Y47_4:=bFr HGz47 4
            have Y47_5:=bFr HGz47 5
            have Y47_6:=bFr HGz47 6
            have Y47_7:=bFr HGz47 7
            have Y47_8:=bFr HGz47 8
            have Y47_9:=bFr HGz47 9
            have Y47_10:=bFr HGz47 10
            clear HGz47 hgz47
            try go_wp2_with (first|((with_reducible refine gate_callee (f:=113) rfl ?_);refine gLs 153 Try.func113 #[.pointer (some ⟨g,0,none⟩),.int .i64 t1263,.int .i64 16,.string (⟨#[]⟩:ByteArray)] ?_;(with_reducible refine (impl_Conn_tell.calls g t1257 t1258 t1259 t1260 t1261 t1262 t1263 t1269 (t1265 ++ a1_6) t1266 t1267 t1263 16 (⟨#[]⟩:ByteArray) t1270 t1271 t1272 t1273 t1274 t1275 t1276 w0 _ ?side1 ?side2 A41.out).mono ?_);(case side1 => repeat (first|(with_reducible first|exact HI0.out|apply IsS34.alloc|apply IsS34.drewN|apply IsS34.drew|apply IsS34.set_0|apply IsS34.set_1|apply IsS34.set_2|apply IsS34.set_3|apply IsS34.set_4|apply IsS34.set_5|apply IsS34.set_6|apply IsS34.set_7|apply IsS34.set_8|apply IsS34.set_9|apply IsS34.set_10|refine IsS34.far ?_ NB0_1242.out _)|exact HI0.out));(case side2 => repeat (first|(with_reducible first|exact HB.out|apply bwA|apply bwN|apply bw1|refine below_set ?_ (IsS34.ge HI0.out)|refine below_set ?_ GE1242.out)|exact HB.out));rintro e w48 ⟨rfl,hi,hb,hk⟩;refine ⟨_,rfl,?_⟩;replace BK1242:=aMk (KeepBut.blk hk (g':=gb1242) (o:=.cells #[.int .i64 a1_0,.int .i64 a1_1,.int .i64 a1_2,.int .i64 a1_3,.int .i64 a1_4,.int .i64 a1_5,.string a1_6] 53 (0,0)) (fB BK1242.out) NB1242_0.out (by simp));replace HK:=aMk (KeepBut.trans (by repeat (first|(with_reducible first|exact HK.out|apply KeepBut.set_|apply keep_drewN|apply keep_drew|apply keep_alloc|refine keep_far ?_ GW1242.out _)|exact HK.out)) hk (.inl rfl));replace HB:=aMk (hb);replace HI0:=aMk (hi))|((with_reducible refine gate_dst (N:=154) rfl ?_);(try (refine gate_guard (by rfl) ?_;dsimp only));refine Kd.R_lit k53 _ 53 ?hg (N:=154) ?hd (xs:=([(⟨t1270,t1271,t1272,t1273,t1274,t1275,t1276⟩:S53)]:List (S53))) (inner:=[.int .i64 t1270,.int .i64 t1271,.int .i64 t1272,.int .i64 t1273,.int .i64 t1274,.int .i64 t1275,.string t1276]) (ok:=fun _ => True) (okp:=fun _ => True) ?hr ?hp (fun _ hk => hk) trivial (Below.refl _ _) (Nat.le_refl _) (by simp) ?_;(case hd => rfl);(case hg => rfl);(case hr => first|(go_simp;done)|(go_simp;rfl));(case hp => exact (Reps.c7 (show Kd.M k53 _ _ _ (⟨t1270,t1271,t1272,t1273,t1274,t1275,t1276⟩:S53) [.int .i64 t1270,.int .i64 t1271,.int .i64 t1272,.int .i64 t1273,.int .i64 t1274,.int .i64 t1275,.string t1276] from (k53_mkM _ _ _ (⟨t1270,t1271,t1272,t1273,t1274,t1275,t1276⟩:S53) )) (Reps.none _ _)));intro v1278 w49 ho50 hb hg_ hnew_;clear hg_ hnew_;(first|rw [← Ny1277.out] at ho50|(simp only [Int.reduceToNat] at ho50;rw [← Ny1277.out] at ho50));have HO1279:=aMk (Kd.R_lower (Kd.R_newB ho50 (g:=gb1242) (o:=.cells #[.int .i64 a1_0,.int .i64 a1_1,.int .i64 a1_2,.int .i64 a1_3,.int .i64 a1_4,.int .i64 a1_5,.string a1_6] 53 (0,0)) (pB BK1242.out)) (keep_size (w:=w) (g:=g) (row:=none) (by repeat (first|(with_reducible first|exact HK.out|apply KeepBut.set_|apply keep_drewN|apply keep_drew|apply keep_alloc|refine keep_far ?_ GW1242.out _)|exact HK.out))));replace BK1242:=aMk (bkB BK1242.out hb);replace HI0:=aMk (IsS34.below (by repeat (first|(with_reducible first|exact HI0.out|apply IsS34.alloc|apply IsS34.drewN|apply IsS34.drew|apply IsS34.set_0|apply IsS34.set_1|apply IsS34.set_2|apply IsS34.set_3|apply IsS34.set_4|apply IsS34.set_5|apply IsS34.set_6|apply IsS34.set_7|apply IsS34.set_8|apply IsS34.set_9|apply IsS34.set_10|refine IsS34.far ?_ NB0_1242.out _)|exact HI0.out)) hb);replace HK:=aMk (KeepBut.trans (by repeat (first|(with_reducible first|exact HK.out|apply KeepBut.set_|apply keep_drewN|apply keep_drew|apply keep_alloc|refine keep_far ?_ GW1242.out _)|exact HK.out)) (KeepBut.of_below hb g none) (.inl rfl));replace HB:=aMk (below_step bW34 hb);clear hb ho50))
            go_ret
            exact ⟨_,eRf,kR (Kd.R_mono HO1279.out (fun _ hk => trivial)),by repeat (first|(with_reducible first|exact HI0.out|apply IsS34.alloc|apply IsS34.drewN|apply IsS34.drew|apply IsS34.set_0|apply IsS34.set_1|apply IsS34.set_2|apply IsS34.set_3|apply IsS34.set_4|apply IsS34.set_5|apply IsS34.set_6|apply IsS34.set_7|apply IsS34.set_8|apply IsS34.set_9|apply IsS34.set_10|refine IsS34.far ?_ NB0_1242.out _)|exact HI0.out),bW34,by repeat (first|(with_reducible first|exact HK.out|apply KeepBut.set_|apply keep_drewN|apply keep_drew|apply keep_alloc|refine keep_far ?_ GW1242.out _)|exact HK.out)⟩
           ·rw [if_neg c39] at H
            exact absurd H (by simp)
          ·replace c38:=Bool.eq_false_iff.mpr c38
           subst c38
           have H1:=H
           rw [if_neg (show ¬ (false = true) by decide)] at H1
           clear H
           have H:=H1
           clear H1
           replace H:=Option.bind_eq_some_iff.mp H
           obtain ⟨⟨t1280,t1281,t1282,t1283,t1284,t1285,t1286⟩,A510,H⟩:=H
           try dsimp only at H
           have A51:=aMk A510
           clear A510
           obtain ⟨y1287,hy1287⟩:∃ y_:List (S53),y_ = (([(⟨t1280,t1281,t1282,t1283,t1284,t1285,t1286⟩:S53)]:List (S53))):=⟨_,rfl⟩
           replace H:(some (y1287,t1257,t1258,t1259,t1260,t1261,t1262,t1263,t1264,t1265,t1266,t1267)) = some (r1,r2,r3,r4,r5,r6,r7,r8,r9,r10,r11,r12):=by first|(rw [hy1287];with_reducible exact H)|(have H2_:=(Option.bind_some _ _).symm.trans H;rw [hy1287];with_reducible exact H2_)|(have H2_:=(Option.bind_some _ _).symm.trans H;with_reducible exact H2_) | with_reducible exact H|(rw [hy1287];exact H)|exact H
           have Ny1287:=aMk hy1287
           clear hy1287
           simp only [Option.some.injEq,Prod.mk.injEq] at H
           obtain ⟨rfl,rfl,rfl,rfl,rfl,rfl,rfl,rfl,rfl,rfl,rfl,rfl⟩:=H
           obtain ⟨HGz52,hgz52⟩:=HI0.out
           have Z52_0:=cellS34_0 HGz52
           have Z52_1:=cellS34_1 HGz52
           have Z52_2:=cellS34_2 HGz52
           have Z52_3:=cellS34_3 HGz52
           have Z52_4:=cellS34_4 HGz52
           have Z52_5:=cellS34_5 HGz52
           have Z52_6:=cellS34_6 HGz52
           have Z52_7:=cellS34_7 HGz52
           have Z52_8:=cellS34_8 HGz52
           have Z52_9:=cellS34_9 HGz52
           have Z52_10:=cellS34_10 HGz52
           have Y52_0:=bFr HGz52 0
           have Y52_1:=bFr HGz52 1
           have Y52_2:=bFr HGz52 2
           have Y52_3:=bFr HGz52 3
           have Y52_4:=bFr HGz52 4
           have Y52_5:=bFr HGz52 5
           have Y52_6:=bFr HGz52 6
           have Y52_7:=bFr HGz52 7
           have Y52_8:=bFr HGz52 8
           have Y52_9:=bFr HGz52 9
           have Y52_10:=bFr HGz52 10
           clear HGz52 hgz52
           go_wp2_with (first|((with_reducible refine gate_callee (f:=113) rfl ?_);refine gLs 153 Try.func113 #[.pointer (some ⟨g,0,none⟩),.int .i64 t1263,.int .i64 16,.string (⟨#[]⟩:ByteArray)] ?_;(with_reducible refine (impl_Conn_tell.calls g t1257 t1258 t1259 t1260 t1261 t1262 t1263 t1264 t1265 t1266 t1267 t1263 16 (⟨#[]⟩:ByteArray) t1280 t1281 t1282 t1283 t1284 t1285 t1286 w0 _ ?side1 ?side2 A51.out).mono ?_);(case side1 => repeat (first|(with_reducible first|exact HI0.out|apply IsS34.alloc|apply IsS34.drewN|apply IsS34.drew|apply IsS34.set_0|apply IsS34.set_1|apply IsS34.set_2|apply IsS34.set_3|apply IsS34.set_4|apply IsS34.set_5|apply IsS34.set_6|apply IsS34.set_7|apply IsS34.set_8|apply IsS34.set_9|apply IsS34.set_10|refine IsS34.far ?_ NB0_1242.out _)|exact HI0.out));(case side2 => repeat (first|(with_reducible first|exact HB.out|apply bwA|apply bwN|apply bw1|refine below_set ?_ (IsS34.ge HI0.out)|refine below_set ?_ GE1242.out)|exact HB.out));rintro e w53 ⟨rfl,hi,hb,hk⟩;refine ⟨_,rfl,?_⟩;replace BK1242:=aMk (KeepBut.blk hk (g':=gb1242) (o:=.cells #[.int .i64 a1_0,.int .i64 a1_1,.int .i64 a1_2,.int .i64 a1_3,.int .i64 a1_4,.int .i64 a1_5,.string a1_6] 53 (0,0)) (pB BK1242.out) NB1242_0.out (by simp));replace HK:=aMk (KeepBut.trans (by repeat (first|(with_reducible first|exact HK.out|apply KeepBut.set_|apply keep_drewN|apply keep_drew|apply keep_alloc|refine keep_far ?_ GW1242.out _)|exact HK.out)) hk (.inl rfl));replace HB:=aMk (hb);replace HI0:=aMk (hi))|((with_reducible refine gate_dst (N:=154) rfl ?_);(try (refine gate_guard (by rfl) ?_;dsimp only));refine Kd.R_lit k53 _ 53 ?hg (N:=154) ?hd (xs:=([(⟨t1280,t1281,t1282,t1283,t1284,t1285,t1286⟩:S53)]:List (S53))) (inner:=[.int .i64 t1280,.int .i64 t1281,.int .i64 t1282,.int .i64 t1283,.int .i64 t1284,.int .i64 t1285,.string t1286]) (ok:=fun _ => True) (okp:=fun _ => True) ?hr ?hp (fun _ hk => hk) trivial (Below.refl _ _) (Nat.le_refl _) (by simp) ?_;(case hd => rfl);(case hg => rfl);(case hr => first|(go_simp;done)|(go_simp;rfl));(case hp => exact (Reps.c7 (show Kd.M k53 _ _ _ (⟨t1280,t1281,t1282,t1283,t1284,t1285,t1286⟩:S53) [.int .i64 t1280,.int .i64 t1281,.int .i64 t1282,.int .i64 t1283,.int .i64 t1284,.int .i64 t1285,.string t1286] from (k53_mkM _ _ _ (⟨t1280,t1281,t1282,t1283,t1284,t1285,t1286⟩:S53) )) (Reps.none _ _)));intro v1288 w54 ho55 hb hg_ hnew_;clear hg_ hnew_;(first|rw [← Ny1287.out] at ho55|(simp only [Int.reduceToNat] at ho55;rw [← Ny1287.out] at ho55));have HO1289:=aMk (Kd.R_lower (Kd.R_newB ho55 (g:=gb1242) (o:=.cells #[.int .i64 a1_0,.int .i64 a1_1,.int .i64 a1_2,.int .i64 a1_3,.int .i64 a1_4,.int .i64 a1_5,.string a1_6] 53 (0,0)) (pB BK1242.out)) (keep_size (w:=w) (g:=g) (row:=none) (by repeat (first|(with_reducible first|exact HK.out|apply KeepBut.set_|apply keep_drewN|apply keep_drew|apply keep_alloc|refine keep_far ?_ GW1242.out _)|exact HK.out))));replace BK1242:=aMk (bkB BK1242.out hb);replace HI0:=aMk (IsS34.below (by repeat (first|(with_reducible first|exact HI0.out|apply IsS34.alloc|apply IsS34.drewN|apply IsS34.drew|apply IsS34.set_0|apply IsS34.set_1|apply IsS34.set_2|apply IsS34.set_3|apply IsS34.set_4|apply IsS34.set_5|apply IsS34.set_6|apply IsS34.set_7|apply IsS34.set_8|apply IsS34.set_9|apply IsS34.set_10|refine IsS34.far ?_ NB0_1242.out _)|exact HI0.out)) hb);replace HK:=aMk (KeepBut.trans (by repeat (first|(with_reducible first|exact HK.out|apply KeepBut.set_|apply keep_drewN|apply keep_drew|apply keep_alloc|refine keep_far ?_ GW1242.out _)|exact HK.out)) (KeepBut.of_below hb g none) (.inl rfl));replace HB:=aMk (below_step bW34 hb);clear hb ho55))
           go_ret
           exact ⟨_,eRf,kR (Kd.R_mono HO1289.out (fun _ hk => trivial)),by repeat (first|(with_reducible first|exact HI0.out|apply IsS34.alloc|apply IsS34.drewN|apply IsS34.drew|apply IsS34.set_0|apply IsS34.set_1|apply IsS34.set_2|apply IsS34.set_3|apply IsS34.set_4|apply IsS34.set_5|apply IsS34.set_6|apply IsS34.set_7|apply IsS34.set_8|apply IsS34.set_9|apply IsS34.set_10|refine IsS34.far ?_ NB0_1242.out _)|exact HI0.out),bW34,by repeat (first|(with_reducible first|exact HK.out|apply KeepBut.set_|apply keep_drewN|apply keep_drew|apply keep_alloc|refine keep_far ?_ GW1242.out _)|exact HK.out)⟩
   ·rw [if_neg c7] at H
    have c7b0:((Go.bits .and .i64 a1_4 2) == 0) = false:=beq_eq_false_iff_ne.mpr c7
    have c7b1:((Go.bits .and .i64 a1_4 2) != 0) = true:=bne_iff_ne.mpr c7
    have HC56:=aMk H
    clear H
    go_enter Try.func104,Try.ntmps104
    go_upto_region 8 with (first|((with_reducible refine gate_dst (N:=3) rfl ?_);(try (refine gate_guard (by rfl) ?_;dsimp only));refine bxE (N:=3) (cs:=#[.int .i64 a1_0,.int .i64 a1_1,.int .i64 a1_2,.int .i64 a1_3,.int .i64 a1_4,.int .i64 a1_5,.string a1_6]) (t:=53) ?_;intro gb1242 hg w57 hbox hb;replace HB:=aMk (below_step bW34 hb);have BK1242:=aMk (hbox);have GW1242:=aMk ((by rw [hg];exact (keep_size (w:=w) (g:=g) (row:=none) (kQ HK.out)):w.heap.size≤gb1242));have GE1242:=aMk ((Nat.le_trans HW0.out (by rw [hg];exact (keep_size (w:=w) (g:=g) (row:=none) (kQ HK.out)):w.heap.size≤gb1242):w0.heap.size≤gb1242));replace HK:=aMk (KeepBut.trans (kQ HK.out) (KeepBut.of_below hb g none) (.inl rfl));have NB0_1242:=aMk ((by rw [hg];exact Nat.ne_of_lt (IsS34.lt (show IsS34 w0 _ g s0_0 s0_1 s0_2 s0_3 s0_4 s0_5 s0_6 s0_7 s0_8 s0_9 s0_10 from iQ34 HI0.out)):g ≠ gb1242));have NB1242_0:=aMk ((by rw [hg];exact Nat.ne_of_gt (IsS34.lt (show IsS34 w0 _ g s0_0 s0_1 s0_2 s0_3 s0_4 s0_5 s0_6 s0_7 s0_8 s0_9 s0_10 from iQ34 HI0.out)):gb1242 ≠ g));replace HI0:=aMk (IsS34.below (iQ34 HI0.out) hb);clear hb hbox hg;obtain ⟨HGz58,hgz58⟩:=HI0.out;have Z58_0:=cellS34_0 HGz58;have Z58_1:=cellS34_1 HGz58;have Z58_2:=cellS34_2 HGz58;have Z58_3:=cellS34_3 HGz58;have Z58_4:=cellS34_4 HGz58;have Z58_5:=cellS34_5 HGz58;have Z58_6:=cellS34_6 HGz58;have Z58_7:=cellS34_7 HGz58;have Z58_8:=cellS34_8 HGz58;have Z58_9:=cellS34_9 HGz58;have Z58_10:=cellS34_10 HGz58;have Y58_0:=bFr HGz58 0;have Y58_1:=bFr HGz58 1;have Y58_2:=bFr HGz58 2;have Y58_3:=bFr HGz58 3;have Y58_4:=bFr HGz58 4;have Y58_5:=bFr HGz58 5;have Y58_6:=bFr HGz58 6;have Y58_7:=bFr HGz58 7;have Y58_8:=bFr HGz58 8;have Y58_9:=bFr HGz58 9;have Y58_10:=bFr HGz58 10;clear HGz58 hgz58;have hnb59:=NB1242_0.out;have hnc59:=NB0_1242.out;obtain ⟨Z60_0,Z60_1,Z60_2,Z60_3,Z60_4,Z60_5,Z60_6,Y60_0,Y60_1,Y60_2,Y60_3,Y60_4,Y60_5,Y60_6⟩:=bC7 BK1242.out))
    (try simp only [Act.put,List.setIfInBounds_toArray,List.set_cons_zero,List.set_cons_succ])
    go_cut [62] (fun v62 wc => ∃ (kq:Nat) (x62_55:Bool),v62 = .bool x62_55∧Aside0 (impl_Conn_take.j0 kq x62_55 s0_0 s0_1 s0_2 s0_3 s0_4 s0_5 s0_6 s0_7 s0_8 s0_9 s0_10 = some (r1,r2,r3,r4,r5,r6,r7,r8,r9,r10,r11,r12))∧Aside0 (kq≤k)∧Aside0 (wc.heap[gb1242]? = some (.cells #[.int .i64 a1_0,.int .i64 a1_1,.int .i64 a1_2,.int .i64 a1_3,.int .i64 a1_4,.int .i64 a1_5,.string a1_6] 53 (0,0)))∧Aside0 (IsS34 w0 wc g s0_0 s0_1 s0_2 s0_3 s0_4 s0_5 s0_6 s0_7 s0_8 s0_9 s0_10)∧Aside0 (KeepBut w wc g none)∧Aside0 (Below w0.heap.size w0 wc))
    case first =>
     have H:=HC56.out
     clear HC56
     by_cases c61:s0_4 = 1
     ·rw [if_pos c61] at H
      have c61b0:(s0_4 == 1) = true:=beq_iff_eq.mpr c61
      have c61b1:(s0_4 != 1) = false:=bne_eq_false_iff_eq.mpr c61
      clear c61
      (first|rw [c61b0]|(simp only [i64_w,i32_w];rw [c61b0]) | skip)
      replace H:=Option.bind_eq_some_iff.mp H
      obtain ⟨t1243,A620,H⟩:=H
      try dsimp only at H
      have A62:=aMk A620
      clear A620
      have H':=aMk H
      clear H
      try go_wp2
      replace BK1242:=aMk (bDr BK1242.out)
      replace HI0:=aMk (IsS34.drew HI0.out)
      replace HK:=aMk (keep_drew HK.out)
      replace HB:=aMk (bw1 HB.out)
      refine start_ (n:=15) (S:=fun w' => w'.cell? ⟨g,0,none⟩ = some (.string s0_0)∧w'.cell? ⟨g,1,none⟩ = some (.int .i64 s0_1)∧w'.cell? ⟨g,2,none⟩ = some (.int .i64 s0_2)∧w'.cell? ⟨g,3,none⟩ = some (.int .i64 s0_3)∧w'.cell? ⟨g,4,none⟩ = some (.int .i64 s0_4)∧w'.cell? ⟨g,5,none⟩ = some (.int .i64 s0_5)∧w'.cell? ⟨g,6,none⟩ = some (.int .i64 s0_6)∧w'.cell? ⟨g,7,none⟩ = some (.int .i64 s0_7)∧w'.cell? ⟨g,8,none⟩ = some (.string s0_8)∧w'.cell? ⟨g,9,none⟩ = some (.string s0_9)∧w'.cell? ⟨g,10,none⟩ = some (.bool s0_10)∧w'.cell? ⟨gb1242,0,none⟩ = some (.int .i64 a1_0)∧w'.cell? ⟨gb1242,1,none⟩ = some (.int .i64 a1_1)∧w'.cell? ⟨gb1242,2,none⟩ = some (.int .i64 a1_2)∧w'.cell? ⟨gb1242,3,none⟩ = some (.int .i64 a1_3)∧w'.cell? ⟨gb1242,4,none⟩ = some (.int .i64 a1_4)∧w'.cell? ⟨gb1242,5,none⟩ = some (.int .i64 a1_5)∧w'.cell? ⟨gb1242,6,none⟩ = some (.string a1_6)) (ds:=[]) #[false,false,false,false,false,false,false,false,false,false,false,false,false,false,false] (by kernel_rfl) rfl rfl ⟨(cellS34_0 HI0.out.1),(cellS34_1 HI0.out.1),(cellS34_2 HI0.out.1),(cellS34_3 HI0.out.1),(cellS34_4 HI0.out.1),(cellS34_5 HI0.out.1),(cellS34_6 HI0.out.1),(cellS34_7 HI0.out.1),(cellS34_8 HI0.out.1),(cellS34_9 HI0.out.1),(cellS34_10 HI0.out.1),(bCe BK1242.out 0).trans rfl,(bCe BK1242.out 1).trans rfl,(bCe BK1242.out 2).trans rfl,(bCe BK1242.out 3).trans rfl,(bCe BK1242.out 4).trans rfl,(bCe BK1242.out 5).trans rfl,(bCe BK1242.out 6).trans rfl⟩ (fun hHeld => ?_);refine with_tabW impl_Conn_take.tab8 impl_Conn_take.bits8 (fun HT_ HW_ => ?_)
      generalize w57.drew = w63 at BK1242 HI0 HK HB hHeld ⊢
      refine pU (i:=0) (N:=some 48) #[true,false,false,false,false,false,false,false,false,false,false,false,false,false,false] (any_of HT_.out (by kernel_rfl)) ?_
      refine pU (i:=1) (N:=some 49) #[true,true,false,false,false,false,false,false,false,false,false,false,false,false,false] (any_of HT_.out (by kernel_rfl)) ?_
      refine pU (i:=2) (N:=some 50) #[true,true,true,false,false,false,false,false,false,false,false,false,false,false,false] (any_of HT_.out (by kernel_rfl)) ?_
      refine tU18 (i:=3) (N:=some 51) #[true,true,true,true,false,false,false,false,false,false,false,false,false,false,false] (take_ofW HT_.out HW_.out (by kernel_rfl)) hHeld ?_
      refine pU (i:=4) (N:=some 52) #[true,true,true,true,true,false,false,false,false,false,false,false,false,false,false] (any_of HT_.out (by kernel_rfl)) ?_
      refine pU (i:=5) (N:=some 53) #[true,true,true,true,true,true,false,false,false,false,false,false,false,false,false] (any_of HT_.out (by kernel_rfl)) ?_
      refine pU (i:=6) (N:=some 54) #[true,true,true,true,true,true,true,false,false,false,false,false,false,false,false] (any_of HT_.out (by kernel_rfl)) ?_
      refine pU (i:=7) (N:=some 55) #[true,true,true,true,true,true,true,true,false,false,false,false,false,false,false] (any_of HT_.out (by kernel_rfl)) ?_
      refine pU (i:=8) (N:=some 56) #[true,true,true,true,true,true,true,true,true,false,false,false,false,false,false] (any_of HT_.out (by kernel_rfl)) ?_
      refine pU (i:=10) (N:=some 58) #[true,true,true,true,true,true,true,true,true,false,true,false,false,false,false] (any_of HT_.out (by kernel_rfl)) ?_
      refine tU18 (i:=9) (N:=some 57) #[true,true,true,true,true,true,true,true,true,true,true,false,false,false,false] (take_ofW HT_.out HW_.out (by kernel_rfl)) hHeld ?_
      refine tU18 (i:=11) (N:=some 59) #[true,true,true,true,true,true,true,true,true,true,true,true,false,false,false] (take_ofW HT_.out HW_.out (by kernel_rfl)) hHeld ?_
      refine one_ (i:=12) (N:=some 60) #[true,true,true,true,true,true,true,true,true,true,true,true,true,false,false] rfl rfl (one_of HT_.out (by kernel_rfl)) (by decide) (fun K hK => ?_)
      refine goes_ Try.func112 (by kernel_rfl) rfl #[.int .i64 a1_2,.int .i64 1] (by rfl) rfl rfl (by (try simp only [List.map_toArray,List.map_cons,List.map_nil]);first | done | rfl|(simp only [List.length_drop,List.length_take];rfl)) ?_
      with_reducible refine (impl_onward.calls a1_2 1 t1243 _ A62.out).mono ?_
      rintro e w' ⟨rfl,⟨nd,rfl⟩⟩
      refine ⟨_,rfl,?_⟩
      refine hK.out _ _ ⟨(cellS34_0 HI0.out.1),(cellS34_1 HI0.out.1),(cellS34_2 HI0.out.1),(cellS34_3 HI0.out.1),(cellS34_4 HI0.out.1),(cellS34_5 HI0.out.1),(cellS34_6 HI0.out.1),(cellS34_7 HI0.out.1),(cellS34_8 HI0.out.1),(cellS34_9 HI0.out.1),(cellS34_10 HI0.out.1),(bCe BK1242.out 0).trans rfl,(bCe BK1242.out 1).trans rfl,(bCe BK1242.out 2).trans rfl,(bCe BK1242.out 3).trans rfl,(bCe BK1242.out 4).trans rfl,(bCe BK1242.out 5).trans rfl,(bCe BK1242.out 6).trans rfl⟩ (fun hHeld => ?_)
      clear hK K
      refine norm_ (a':=?_) ?_ ?_
      rotate_left
      ·show Act.put _ (some 60) _ = _
       simp only [Act.put,List.setIfInBounds_toArray,List.set_cons_zero,List.set_cons_succ,i64_w,i32_w]
       rfl
      refine pU (i:=13) (N:=some 61) #[true,true,true,true,true,true,true,true,true,true,true,true,true,true,false] (any_of HT_.out (by kernel_rfl)) ?_
      refine pU (i:=14) (N:=some 62) #[true,true,true,true,true,true,true,true,true,true,true,true,true,true,true] (any_of HT_.out (by kernel_rfl)) ?_
      refine done_ (done_of HT_.out (by kernel_rfl)) ?_
      try go_wp2
      go_meet
      case rel => exact ⟨_,((s0_7 == t1243)),rfS,H',⟨by first | omega|exact Nat.le_refl _⟩,⟨by refine pB ?_;exact BK1242.out⟩,⟨by repeat (first|(with_reducible first|exact HI0.out|apply IsS34.alloc|apply IsS34.drewN|apply IsS34.drew|apply IsS34.set_0|apply IsS34.set_1|apply IsS34.set_2|apply IsS34.set_3|apply IsS34.set_4|apply IsS34.set_5|apply IsS34.set_6|apply IsS34.set_7|apply IsS34.set_8|apply IsS34.set_9|apply IsS34.set_10|refine IsS34.far ?_ NB0_1242.out _)|exact HI0.out)⟩,⟨by repeat (first|(with_reducible first|exact HK.out|apply KeepBut.set_|apply keep_drewN|apply keep_drew|apply keep_alloc|refine keep_far ?_ GW1242.out _)|exact HK.out)⟩,⟨bW34⟩⟩
     ·rw [if_neg c61] at H
      have c61b0:(s0_4 == 1) = false:=beq_eq_false_iff_ne.mpr c61
      have c61b1:(s0_4 != 1) = true:=bne_iff_ne.mpr c61
      (first|rw [c61b0]|(simp only [i64_w,i32_w];rw [c61b0]) | skip)
      have H':=aMk H
      clear H
      try go_wp2
      replace BK1242:=aMk (bDr BK1242.out)
      replace HI0:=aMk (IsS34.drew HI0.out)
      replace HK:=aMk (keep_drew HK.out)
      replace HB:=aMk (bw1 HB.out)
      refine start_ (n:=15) (S:=fun w' => w'.cell? ⟨g,0,none⟩ = some (.string s0_0)∧w'.cell? ⟨g,1,none⟩ = some (.int .i64 s0_1)∧w'.cell? ⟨g,2,none⟩ = some (.int .i64 s0_2)∧w'.cell? ⟨g,3,none⟩ = some (.int .i64 s0_3)∧w'.cell? ⟨g,4,none⟩ = some (.int .i64 s0_4)∧w'.cell? ⟨g,5,none⟩ = some (.int .i64 s0_5)∧w'.cell? ⟨g,6,none⟩ = some (.int .i64 s0_6)∧w'.cell? ⟨g,7,none⟩ = some (.int .i64 s0_7)∧w'.cell? ⟨g,8,none⟩ = some (.string s0_8)∧w'.cell? ⟨g,9,none⟩ = some (.string s0_9)∧w'.cell? ⟨g,10,none⟩ = some (.bool s0_10)) (ds:=[]) #[false,false,false,false,false,false,false,false,false,false,false,false,false,false,false] (by kernel_rfl) rfl rfl ⟨(cellS34_0 HI0.out.1),(cellS34_1 HI0.out.1),(cellS34_2 HI0.out.1),(cellS34_3 HI0.out.1),(cellS34_4 HI0.out.1),(cellS34_5 HI0.out.1),(cellS34_6 HI0.out.1),(cellS34_7 HI0.out.1),(cellS34_8 HI0.out.1),(cellS34_9 HI0.out.1),(cellS34_10 HI0.out.1)⟩ (fun hHeld => ?_);refine with_tabW impl_Conn_take.tab8 impl_Conn_take.bits8 (fun HT_ HW_ => ?_)
      generalize w57.drew = w64 at BK1242 HI0 HK HB hHeld ⊢
      refine pU (i:=0) (N:=some 48) #[true,false,false,false,false,false,false,false,false,false,false,false,false,false,false] (any_of HT_.out (by kernel_rfl)) ?_
      refine pU (i:=1) (N:=some 49) #[true,true,false,false,false,false,false,false,false,false,false,false,false,false,false] (any_of HT_.out (by kernel_rfl)) ?_
      refine pU (i:=2) (N:=some 50) #[true,true,true,false,false,false,false,false,false,false,false,false,false,false,false] (any_of HT_.out (by kernel_rfl)) ?_
      refine tU11 (i:=3) (N:=some 51) #[true,true,true,true,false,false,false,false,false,false,false,false,false,false,false] (take_ofW HT_.out HW_.out (by kernel_rfl)) hHeld ?_
      refine pU (i:=4) (N:=some 52) #[true,true,true,true,true,false,false,false,false,false,false,false,false,false,false] (any_of HT_.out (by kernel_rfl)) ?_
      refine pU (i:=5) (N:=some 53) #[true,true,true,true,true,true,false,false,false,false,false,false,false,false,false] (any_of HT_.out (by kernel_rfl)) ?_
      refine pure_ (i:=6) (N:=some 54) (v:=undef) (a':=?_) #[true,true,true,true,true,true,true,false,false,false,false,false,false,false,false] rfl rfl (any_of HT_.out (by kernel_rfl)) (fun _ _ _ h => h) (Or.inr ⟨by rfl,rfl⟩) ?_ ?_
      rotate_left
      ·simp only [Act.put,List.setIfInBounds_toArray,List.set_cons_zero,List.set_cons_succ,i64_w,i32_w]
       rfl
      refine pure_ (i:=7) (N:=some 55) (v:=undef) (a':=?_) #[true,true,true,true,true,true,true,true,false,false,false,false,false,false,false] rfl rfl (any_of HT_.out (by kernel_rfl)) (fun _ _ _ h => h) (Or.inr ⟨by rfl,rfl⟩) ?_ ?_
      rotate_left
      ·simp only [Act.put,List.setIfInBounds_toArray,List.set_cons_zero,List.set_cons_succ,i64_w,i32_w]
       rfl
      refine pure_ (i:=8) (N:=some 56) (v:=undef) (a':=?_) #[true,true,true,true,true,true,true,true,true,false,false,false,false,false,false] rfl rfl (any_of HT_.out (by kernel_rfl)) (fun _ _ _ h => h) (Or.inr ⟨by rfl,rfl⟩) ?_ ?_
      rotate_left
      ·simp only [Act.put,List.setIfInBounds_toArray,List.set_cons_zero,List.set_cons_succ,i64_w,i32_w]
       rfl
      refine pure_ (i:=9) (N:=some 57) (v:=undef) (a':=?_) #[true,true,true,true,true,true,true,true,true,true,false,false,false,false,false] rfl rfl (any_of HT_.out (by kernel_rfl)) (fun _ _ _ h => h) (Or.inr ⟨by rfl,rfl⟩) ?_ ?_
      rotate_left
      ·simp only [Act.put,List.setIfInBounds_toArray,List.set_cons_zero,List.set_cons_succ,i64_w,i32_w]
       rfl
      refine pure_ (i:=10) (N:=some 58) (v:=undef) (a':=?_) #[true,true,true,true,true,true,true,true,true,true,true,false,false,false,false] rfl rfl (any_of HT_.out (by kernel_rfl)) (fun _ _ _ h => h) (Or.inr ⟨by rfl,rfl⟩) ?_ ?_
      rotate_left
      ·simp only [Act.put,List.setIfInBounds_toArray,List.set_cons_zero,List.set_cons_succ,i64_w,i32_w]
       rfl
      refine pure_ (i:=11) (N:=some 59) (v:=undef) (a':=?_) #[true,true,true,true,true,true,true,true,true,true,true,true,false,false,false] rfl rfl (any_of HT_.out (by kernel_rfl)) (fun _ _ _ h => h) (Or.inr ⟨by rfl,rfl⟩) ?_ ?_
      rotate_left
      ·simp only [Act.put,List.setIfInBounds_toArray,List.set_cons_zero,List.set_cons_succ,i64_w,i32_w]
       rfl
      refine pure_ (i:=12) (N:=some 60) (v:=undef) (a':=?_) #[true,true,true,true,true,true,true,true,true,true,true,true,true,false,false] rfl rfl (any_of HT_.out (by kernel_rfl)) (fun _ _ _ h => h) (Or.inr ⟨by rfl,rfl⟩) ?_ ?_
      rotate_left
      ·simp only [Act.put,List.setIfInBounds_toArray,List.set_cons_zero,List.set_cons_succ,i64_w,i32_w]
       rfl
      refine pure_ (i:=13) (N:=some 61) (v:=undef) (a':=?_) #[true,true,true,true,true,true,true,true,true,true,true,true,true,true,false] rfl rfl (any_of HT_.out (by kernel_rfl)) (fun _ _ _ h => h) (Or.inr ⟨by rfl,rfl⟩) ?_ ?_
      rotate_left
      ·simp only [Act.put,List.setIfInBounds_toArray,List.set_cons_zero,List.set_cons_succ,i64_w,i32_w]
       rfl
      refine pU (i:=14) (N:=some 62) #[true,true,true,true,true,true,true,true,true,true,true,true,true,true,true] (any_of HT_.out (by kernel_rfl)) ?_
      refine done_ (done_of HT_.out (by kernel_rfl)) ?_
      try go_wp2
      go_meet
      case rel => exact ⟨_,(false),rfS,H',⟨by first | omega|exact Nat.le_refl _⟩,⟨by refine pB ?_;exact BK1242.out⟩,⟨by repeat (first|(with_reducible first|exact HI0.out|apply IsS34.alloc|apply IsS34.drewN|apply IsS34.drew|apply IsS34.set_0|apply IsS34.set_1|apply IsS34.set_2|apply IsS34.set_3|apply IsS34.set_4|apply IsS34.set_5|apply IsS34.set_6|apply IsS34.set_7|apply IsS34.set_8|apply IsS34.set_9|apply IsS34.set_10|refine IsS34.far ?_ NB0_1242.out _)|exact HI0.out)⟩,⟨by repeat (first|(with_reducible first|exact HK.out|apply KeepBut.set_|apply keep_drewN|apply keep_drew|apply keep_alloc|refine keep_far ?_ GW1242.out _)|exact HK.out)⟩,⟨bW34⟩⟩
    case rest =>
     clear HC56
     try clear Z47_0 Z47_1 Z47_10 Z47_2 Z47_3 Z47_4 Z47_5 Z47_6 Z47_7 Z47_8 Z47_9
     try clear Z52_0 Z52_1 Z52_10 Z52_2 Z52_3 Z52_4 Z52_5 Z52_6 Z52_7 Z52_8 Z52_9
     try clear Z58_0 Z58_1 Z58_10 Z58_2 Z58_3 Z58_4 Z58_5 Z58_6 Z58_7 Z58_8 Z58_9
     try clear Z60_0 Z60_1 Z60_2 Z60_3 Z60_4 Z60_5 Z60_6
     try clear Y47_0 Y47_1 Y47_10 Y47_2 Y47_3 Y47_4 Y47_5 Y47_6 Y47_7 Y47_8 Y47_9
     try clear Y52_0 Y52_1 Y52_10 Y52_2 Y52_3 Y52_4 Y52_5 Y52_6 Y52_7 Y52_8 Y52_9
     try clear Y58_0 Y58_1 Y58_10 Y58_2 Y58_3 Y58_4 Y58_5 Y58_6 Y58_7 Y58_8 Y58_9
     try clear Y60_0 Y60_1 Y60_2 Y60_3 Y60_4 Y60_5 Y60_6
     obtain ⟨kq,x62_55,rfl,HA,HJ55,BK1242,HI0,HK,HB⟩:=hcut
     cases kq with
     | zero => exact absurd HA.out (by simp [impl_Conn_take.j0])
     | succ kj55 =>
      have H:=HA.out
      clear HA
      simp only [impl_Conn_take.j0] at H
      by_cases c65:x62_55 = true
      ·subst c65
       have H1:=H
       rw [if_pos rfl] at H1
       clear H
       have H:=H1
       clear H1
       replace H:=Option.bind_eq_some_iff.mp H
       obtain ⟨t1244,A660,H⟩:=H
       try dsimp only at H
       have A66:=aMk A660
       clear A660
       simp only [Option.some.injEq,Prod.mk.injEq] at H
       obtain ⟨rfl,rfl,rfl,rfl,rfl,rfl,rfl,rfl,rfl,rfl,rfl,rfl⟩:=H
       go_wp2_with (first|((with_reducible refine gate_callee (f:=87) rfl ?_);refine gLs 64 Try.func87 #[.pointer (some ⟨g,0,none⟩)] ?_;(with_reducible refine (impl_Conn_opened.calls g s0_0 s0_1 s0_2 s0_3 s0_4 s0_5 s0_6 s0_7 s0_8 s0_9 s0_10 t1244 w0 _ ?side1 ?side2 A66.out).mono ?_);(case side1 => repeat (first|(with_reducible first|exact HI0.out|apply IsS34.alloc|apply IsS34.drewN|apply IsS34.drew|apply IsS34.set_0|apply IsS34.set_1|apply IsS34.set_2|apply IsS34.set_3|apply IsS34.set_4|apply IsS34.set_5|apply IsS34.set_6|apply IsS34.set_7|apply IsS34.set_8|apply IsS34.set_9|apply IsS34.set_10|refine IsS34.far ?_ NB0_1242.out _)|exact HI0.out));(case side2 => repeat (first|(with_reducible first|exact HB.out|apply bwA|apply bwN|apply bw1|refine below_set ?_ (IsS34.ge HI0.out)|refine below_set ?_ GE1242.out)|exact HB.out));rintro e w67 ⟨v1245,rfl,ho0,hi,hb,hk⟩;refine ⟨_,rfl,?_⟩;have HO1246:=aMk (Kd.R_lower (Kd.R_newB ho0 (g:=gb1242) (o:=.cells #[.int .i64 a1_0,.int .i64 a1_1,.int .i64 a1_2,.int .i64 a1_3,.int .i64 a1_4,.int .i64 a1_5,.string a1_6] 53 (0,0)) (pB BK1242.out)) (keep_size (w:=w) (g:=g) (row:=none) (by repeat (first|(with_reducible first|exact HK.out|apply KeepBut.set_|apply keep_drewN|apply keep_drew|apply keep_alloc|refine keep_far ?_ GW1242.out _)|exact HK.out))));replace BK1242:=aMk (KeepBut.blk hk (g':=gb1242) (o:=.cells #[.int .i64 a1_0,.int .i64 a1_1,.int .i64 a1_2,.int .i64 a1_3,.int .i64 a1_4,.int .i64 a1_5,.string a1_6] 53 (0,0)) (pB BK1242.out) NB1242_0.out (by simp));replace HK:=aMk (KeepBut.trans (by repeat (first|(with_reducible first|exact HK.out|apply KeepBut.set_|apply keep_drewN|apply keep_drew|apply keep_alloc|refine keep_far ?_ GW1242.out _)|exact HK.out)) hk (.inl rfl));replace HB:=aMk (hb);replace HI0:=aMk (hi);(try clear ho0)))
       go_ret
       exact ⟨_,eRf,kR (Kd.R_mono HO1246.out (fun _ hk => trivial)),by repeat (first|(with_reducible first|exact HI0.out|apply IsS34.alloc|apply IsS34.drewN|apply IsS34.drew|apply IsS34.set_0|apply IsS34.set_1|apply IsS34.set_2|apply IsS34.set_3|apply IsS34.set_4|apply IsS34.set_5|apply IsS34.set_6|apply IsS34.set_7|apply IsS34.set_8|apply IsS34.set_9|apply IsS34.set_10|refine IsS34.far ?_ NB0_1242.out _)|exact HI0.out),bW34,by repeat (first|(with_reducible first|exact HK.out|apply KeepBut.set_|apply keep_drewN|apply keep_drew|apply keep_alloc|refine keep_far ?_ GW1242.out _)|exact HK.out)⟩
      ·replace c65:=Bool.eq_false_iff.mpr c65
       subst c65
       have H1:=H
       rw [if_neg (show ¬ (false = true) by decide)] at H1
       clear H
       have H:=H1
       clear H1
       replace H:=Option.bind_eq_some_iff.mp H
       obtain ⟨⟨t1247,t1248,t1249,t1250,t1251,t1252,t1253⟩,A680,H⟩:=H
       try dsimp only at H
       have A68:=aMk A680
       clear A680
       obtain ⟨y1254,hy1254⟩:∃ y_:List (S53),y_ = (([(⟨t1247,t1248,t1249,t1250,t1251,t1252,t1253⟩:S53)]:List (S53))):=⟨_,rfl⟩
       replace H:(some (y1254,s0_0,s0_1,s0_2,s0_3,s0_4,s0_5,s0_6,s0_7,s0_8,s0_9,s0_10)) = some (r1,r2,r3,r4,r5,r6,r7,r8,r9,r10,r11,r12):=by first|(rw [hy1254];with_reducible exact H)|(have H2_:=(Option.bind_some _ _).symm.trans H;rw [hy1254];with_reducible exact H2_)|(have H2_:=(Option.bind_some _ _).symm.trans H;with_reducible exact H2_) | with_reducible exact H|(rw [hy1254];exact H)|exact H
       have Ny1254:=aMk hy1254
       clear hy1254
       simp only [Option.some.injEq,Prod.mk.injEq] at H
       obtain ⟨rfl,rfl,rfl,rfl,rfl,rfl,rfl,rfl,rfl,rfl,rfl,rfl⟩:=H
       obtain ⟨HGz69,hgz69⟩:=HI0.out
       have Z69_0:=cellS34_0 HGz69
       have Z69_1:=cellS34_1 HGz69
       have Z69_2:=cellS34_2 HGz69
       have Z69_3:=cellS34_3 HGz69
       have Z69_4:=cellS34_4 HGz69
       have Z69_5:=cellS34_5 HGz69
       have Z69_6:=cellS34_6 HGz69
       have Z69_7:=cellS34_7 HGz69
       have Z69_8:=cellS34_8 HGz69
       have Z69_9:=cellS34_9 HGz69
       have Z69_10:=cellS34_10 HGz69
       have Y69_0:=bFr HGz69 0
       have Y69_1:=bFr HGz69 1
       have Y69_2:=bFr HGz69 2
       have Y69_3:=bFr HGz69 3
       have Y69_4:=bFr HGz69 4
       have Y69_5:=bFr HGz69 5
       have Y69_6:=bFr HGz69 6
       have Y69_7:=bFr HGz69 7
       have Y69_8:=bFr HGz69 8
       have Y69_9:=bFr HGz69 9
       have Y69_10:=bFr HGz69 10
       clear HGz69 hgz69
       go_wp2_with (first|((with_reducible refine gate_callee (f:=113) rfl ?_);refine gLs 70 Try.func113 #[.pointer (some ⟨g,0,none⟩),.int .i64 s0_6,.int .i64 16,.string (⟨#[]⟩:ByteArray)] ?_;(with_reducible refine (impl_Conn_tell.calls g s0_0 s0_1 s0_2 s0_3 s0_4 s0_5 s0_6 s0_7 s0_8 s0_9 s0_10 s0_6 16 (⟨#[]⟩:ByteArray) t1247 t1248 t1249 t1250 t1251 t1252 t1253 w0 _ ?side1 ?side2 A68.out).mono ?_);(case side1 => repeat (first|(with_reducible first|exact HI0.out|apply IsS34.alloc|apply IsS34.drewN|apply IsS34.drew|apply IsS34.set_0|apply IsS34.set_1|apply IsS34.set_2|apply IsS34.set_3|apply IsS34.set_4|apply IsS34.set_5|apply IsS34.set_6|apply IsS34.set_7|apply IsS34.set_8|apply IsS34.set_9|apply IsS34.set_10|refine IsS34.far ?_ NB0_1242.out _)|exact HI0.out));(case side2 => repeat (first|(with_reducible first|exact HB.out|apply bwA|apply bwN|apply bw1|refine below_set ?_ (IsS34.ge HI0.out)|refine below_set ?_ GE1242.out)|exact HB.out));rintro e w70 ⟨rfl,hi,hb,hk⟩;refine ⟨_,rfl,?_⟩;replace BK1242:=aMk (KeepBut.blk hk (g':=gb1242) (o:=.cells #[.int .i64 a1_0,.int .i64 a1_1,.int .i64 a1_2,.int .i64 a1_3,.int .i64 a1_4,.int .i64 a1_5,.string a1_6] 53 (0,0)) (pB BK1242.out) NB1242_0.out (by simp));replace HK:=aMk (KeepBut.trans (by repeat (first|(with_reducible first|exact HK.out|apply KeepBut.set_|apply keep_drewN|apply keep_drew|apply keep_alloc|refine keep_far ?_ GW1242.out _)|exact HK.out)) hk (.inl rfl));replace HB:=aMk (hb);replace HI0:=aMk (hi))|((with_reducible refine gate_dst (N:=71) rfl ?_);(try (refine gate_guard (by rfl) ?_;dsimp only));refine Kd.R_lit k53 _ 53 ?hg (N:=71) ?hd (xs:=([(⟨t1247,t1248,t1249,t1250,t1251,t1252,t1253⟩:S53)]:List (S53))) (inner:=[.int .i64 t1247,.int .i64 t1248,.int .i64 t1249,.int .i64 t1250,.int .i64 t1251,.int .i64 t1252,.string t1253]) (ok:=fun _ => True) (okp:=fun _ => True) ?hr ?hp (fun _ hk => hk) trivial (Below.refl _ _) (Nat.le_refl _) (by simp) ?_;(case hd => rfl);(case hg => rfl);(case hr => first|(go_simp;done)|(go_simp;rfl));(case hp => exact (Reps.c7 (show Kd.M k53 _ _ _ (⟨t1247,t1248,t1249,t1250,t1251,t1252,t1253⟩:S53) [.int .i64 t1247,.int .i64 t1248,.int .i64 t1249,.int .i64 t1250,.int .i64 t1251,.int .i64 t1252,.string t1253] from (k53_mkM _ _ _ (⟨t1247,t1248,t1249,t1250,t1251,t1252,t1253⟩:S53) )) (Reps.none _ _)));intro v1255 w71 ho72 hb hg_ hnew_;clear hg_ hnew_;(first|rw [← Ny1254.out] at ho72|(simp only [Int.reduceToNat] at ho72;rw [← Ny1254.out] at ho72));have HO1256:=aMk (Kd.R_lower (Kd.R_newB ho72 (g:=gb1242) (o:=.cells #[.int .i64 a1_0,.int .i64 a1_1,.int .i64 a1_2,.int .i64 a1_3,.int .i64 a1_4,.int .i64 a1_5,.string a1_6] 53 (0,0)) (pB BK1242.out)) (keep_size (w:=w) (g:=g) (row:=none) (by repeat (first|(with_reducible first|exact HK.out|apply KeepBut.set_|apply keep_drewN|apply keep_drew|apply keep_alloc|refine keep_far ?_ GW1242.out _)|exact HK.out))));replace BK1242:=aMk (bkB BK1242.out hb);replace HI0:=aMk (IsS34.below (by repeat (first|(with_reducible first|exact HI0.out|apply IsS34.alloc|apply IsS34.drewN|apply IsS34.drew|apply IsS34.set_0|apply IsS34.set_1|apply IsS34.set_2|apply IsS34.set_3|apply IsS34.set_4|apply IsS34.set_5|apply IsS34.set_6|apply IsS34.set_7|apply IsS34.set_8|apply IsS34.set_9|apply IsS34.set_10|refine IsS34.far ?_ NB0_1242.out _)|exact HI0.out)) hb);replace HK:=aMk (KeepBut.trans (by repeat (first|(with_reducible first|exact HK.out|apply KeepBut.set_|apply keep_drewN|apply keep_drew|apply keep_alloc|refine keep_far ?_ GW1242.out _)|exact HK.out)) (KeepBut.of_below hb g none) (.inl rfl));replace HB:=aMk (below_step bW34 hb);clear hb ho72))
       go_ret
       exact ⟨_,eRf,kR (Kd.R_mono HO1256.out (fun _ hk => trivial)),by repeat (first|(with_reducible first|exact HI0.out|apply IsS34.alloc|apply IsS34.drewN|apply IsS34.drew|apply IsS34.set_0|apply IsS34.set_1|apply IsS34.set_2|apply IsS34.set_3|apply IsS34.set_4|apply IsS34.set_5|apply IsS34.set_6|apply IsS34.set_7|apply IsS34.set_8|apply IsS34.set_9|apply IsS34.set_10|refine IsS34.far ?_ NB0_1242.out _)|exact HI0.out),bW34,by repeat (first|(with_reducible first|exact HK.out|apply KeepBut.set_|apply keep_drewN|apply keep_drew|apply keep_alloc|refine keep_far ?_ GW1242.out _)|exact HK.out)⟩
  ·rw [if_neg c6] at H
   have c6b0:((Go.bits .and .i64 a1_4 4) == 0) = false:=beq_eq_false_iff_ne.mpr c6
   have c6b1:((Go.bits .and .i64 a1_4 4) != 0) = true:=bne_iff_ne.mpr c6
   by_cases c73:a1_2 = s0_7
   ·rw [if_pos c73] at H
    have c73b0:(a1_2 == s0_7) = true:=beq_iff_eq.mpr c73
    have c73b1:(a1_2 != s0_7) = false:=bne_eq_false_iff_eq.mpr c73
    clear c73
    simp only [Option.some.injEq,Prod.mk.injEq] at H
    obtain ⟨rfl,rfl,rfl,rfl,rfl,rfl,rfl,rfl,rfl,rfl,rfl,rfl⟩:=H
    go_enter Try.func104,Try.ntmps104
    try go_wp2_with (first|((with_reducible refine gate_dst (N:=3) rfl ?_);(try (refine gate_guard (by rfl) ?_;dsimp only));refine bxE (N:=3) (cs:=#[.int .i64 a1_0,.int .i64 a1_1,.int .i64 a1_2,.int .i64 a1_3,.int .i64 a1_4,.int .i64 a1_5,.string a1_6]) (t:=53) ?_;intro gb1242 hg w74 hbox hb;replace HB:=aMk (below_step bW34 hb);have BK1242:=aMk (hbox);have GW1242:=aMk ((by rw [hg];exact (keep_size (w:=w) (g:=g) (row:=none) (kQ HK.out)):w.heap.size≤gb1242));have GE1242:=aMk ((Nat.le_trans HW0.out (by rw [hg];exact (keep_size (w:=w) (g:=g) (row:=none) (kQ HK.out)):w.heap.size≤gb1242):w0.heap.size≤gb1242));replace HK:=aMk (KeepBut.trans (kQ HK.out) (KeepBut.of_below hb g none) (.inl rfl));have NB0_1242:=aMk ((by rw [hg];exact Nat.ne_of_lt (IsS34.lt (show IsS34 w0 _ g s0_0 s0_1 s0_2 s0_3 s0_4 s0_5 s0_6 s0_7 s0_8 s0_9 s0_10 from iQ34 HI0.out)):g ≠ gb1242));have NB1242_0:=aMk ((by rw [hg];exact Nat.ne_of_gt (IsS34.lt (show IsS34 w0 _ g s0_0 s0_1 s0_2 s0_3 s0_4 s0_5 s0_6 s0_7 s0_8 s0_9 s0_10 from iQ34 HI0.out)):gb1242 ≠ g));replace HI0:=aMk (IsS34.below (iQ34 HI0.out) hb);clear hb hbox hg;obtain ⟨HGz75,hgz75⟩:=HI0.out;have Z75_0:=cellS34_0 HGz75;have Z75_1:=cellS34_1 HGz75;have Z75_2:=cellS34_2 HGz75;have Z75_3:=cellS34_3 HGz75;have Z75_4:=cellS34_4 HGz75;have Z75_5:=cellS34_5 HGz75;have Z75_6:=cellS34_6 HGz75;have Z75_7:=cellS34_7 HGz75;have Z75_8:=cellS34_8 HGz75;have Z75_9:=cellS34_9 HGz75;have Z75_10:=cellS34_10 HGz75;have Y75_0:=bFr HGz75 0;have Y75_1:=bFr HGz75 1;have Y75_2:=bFr HGz75 2;have Y75_3:=bFr HGz75 3;have Y75_4:=bFr HGz75 4;have Y75_5:=bFr HGz75 5;have Y75_6:=bFr HGz75 6;have Y75_7:=bFr HGz75 7;have Y75_8:=bFr HGz75 8;have Y75_9:=bFr HGz75 9;have Y75_10:=bFr HGz75 10;clear HGz75 hgz75;have hnb76:=NB1242_0.out;have hnc76:=NB0_1242.out;obtain ⟨Z77_0,Z77_1,Z77_2,Z77_3,Z77_4,Z77_5,Z77_6,Y77_0,Y77_1,Y77_2,Y77_3,Y77_4,Y77_5,Y77_6⟩:=bC7 BK1242.out))
    replace BK1242:=aMk (bDr BK1242.out)
    replace HI0:=aMk (IsS34.drew HI0.out)
    replace HK:=aMk (keep_drew HK.out)
    replace HB:=aMk (bw1 HB.out)
    refine start_ (n:=7) (S:=fun w' => w'.cell? ⟨gb1242,0,none⟩ = some (.int .i64 a1_0)∧w'.cell? ⟨gb1242,1,none⟩ = some (.int .i64 a1_1)∧w'.cell? ⟨gb1242,2,none⟩ = some (.int .i64 a1_2)∧w'.cell? ⟨gb1242,3,none⟩ = some (.int .i64 a1_3)∧w'.cell? ⟨gb1242,4,none⟩ = some (.int .i64 a1_4)∧w'.cell? ⟨gb1242,5,none⟩ = some (.int .i64 a1_5)∧w'.cell? ⟨gb1242,6,none⟩ = some (.string a1_6)∧w'.cell? ⟨g,0,none⟩ = some (.string s0_0)∧w'.cell? ⟨g,1,none⟩ = some (.int .i64 s0_1)∧w'.cell? ⟨g,2,none⟩ = some (.int .i64 s0_2)∧w'.cell? ⟨g,3,none⟩ = some (.int .i64 s0_3)∧w'.cell? ⟨g,4,none⟩ = some (.int .i64 s0_4)∧w'.cell? ⟨g,5,none⟩ = some (.int .i64 s0_5)∧w'.cell? ⟨g,6,none⟩ = some (.int .i64 s0_6)∧w'.cell? ⟨g,7,none⟩ = some (.int .i64 s0_7)∧w'.cell? ⟨g,8,none⟩ = some (.string s0_8)∧w'.cell? ⟨g,9,none⟩ = some (.string s0_9)∧w'.cell? ⟨g,10,none⟩ = some (.bool s0_10)) (ds:=[]) #[false,false,false,false,false,false,false] (by kernel_rfl) rfl rfl (ca7 BK1242.out ⟨(cellS34_0 HI0.out.1),(cellS34_1 HI0.out.1),(cellS34_2 HI0.out.1),(cellS34_3 HI0.out.1),(cellS34_4 HI0.out.1),(cellS34_5 HI0.out.1),(cellS34_6 HI0.out.1),(cellS34_7 HI0.out.1),(cellS34_8 HI0.out.1),(cellS34_9 HI0.out.1),(cellS34_10 HI0.out.1)⟩) (fun hHeld => ?_)
    generalize w74.drew = w78 at BK1242 HI0 HK HB hHeld ⊢
    refine pU (i:=0) (N:=some 17) #[true,false,false,false,false,false,false] (by kernel_rfl) ?_
    refine pU (i:=2) (N:=some 19) #[true,false,true,false,false,false,false] (by kernel_rfl) ?_
    refine pU (i:=3) (N:=some 20) #[true,false,true,true,false,false,false] (by kernel_rfl) ?_
    refine pU (i:=4) (N:=some 21) #[true,false,true,true,true,false,false] (by kernel_rfl) ?_
    refine tU18 (i:=1) (N:=some 18) #[true,true,true,true,true,false,false] (by kernel_rfl) hHeld ?_
    refine tU18 (i:=5) (N:=some 22) #[true,true,true,true,true,true,false] (by kernel_rfl) hHeld ?_
    refine pU (i:=6) (N:=some 23) #[true,true,true,true,true,true,true] (by kernel_rfl) ?_
    refine done_ (by kernel_rfl) ?_
    obtain ⟨HGz79,hgz79⟩:=HI0.out
    have Z79_0:=cellS34_0 HGz79
    have Z79_1:=cellS34_1 HGz79
    have Z79_2:=cellS34_2 HGz79
    have Z79_3:=cellS34_3 HGz79
    have Z79_4:=cellS34_4 HGz79
    have Z79_5:=cellS34_5 HGz79
    have Z79_6:=cellS34_6 HGz79
    have Z79_7:=cellS34_7 HGz79
    have Z79_8:=cellS34_8 HGz79
    have Z79_9:=cellS34_9 HGz79
    have Z79_10:=cellS34_10 HGz79
    have Y79_0:=bFr HGz79 0
    have Y79_1:=bFr HGz79 1
    have Y79_2:=bFr HGz79 2
    have Y79_3:=bFr HGz79 3
    have Y79_4:=bFr HGz79 4
    have Y79_5:=bFr HGz79 5
    have Y79_6:=bFr HGz79 6
    have Y79_7:=bFr HGz79 7
    have Y79_8:=bFr HGz79 8
    have Y79_9:=bFr HGz79 9
    have Y79_10:=bFr HGz79 10
    clear HGz79 hgz79
    try go_wp2
    go_ret
    exact ⟨_,eRf,by first|exact Kd.R_nil _ _ _ _ _|exact Kd.N_nil _ _ _ _ _|exact Kd.V_nil _ _ _ _ _|exact Kd.Q_nil _ _ _ _ _|exact Kd.S_nil _ _ _ _ _,by repeat (first|(with_reducible first|exact HI0.out|apply IsS34.alloc|apply IsS34.drewN|apply IsS34.drew|apply IsS34.set_0|apply IsS34.set_1|apply IsS34.set_2|apply IsS34.set_3|apply IsS34.set_4|apply IsS34.set_5|apply IsS34.set_6|apply IsS34.set_7|apply IsS34.set_8|apply IsS34.set_9|apply IsS34.set_10|refine IsS34.far ?_ NB0_1242.out _)|exact HI0.out),bW34,by repeat (first|(with_reducible first|exact HK.out|apply KeepBut.set_|apply keep_drewN|apply keep_drew|apply keep_alloc|refine keep_far ?_ GW1242.out _)|exact HK.out)⟩
   ·rw [if_neg c73] at H
    have c73b0:(a1_2 == s0_7) = false:=beq_eq_false_iff_ne.mpr c73
    have c73b1:(a1_2 != s0_7) = true:=bne_iff_ne.mpr c73
    simp only [Option.some.injEq,Prod.mk.injEq] at H
    obtain ⟨rfl,rfl,rfl,rfl,rfl,rfl,rfl,rfl,rfl,rfl,rfl,rfl⟩:=H
    go_enter Try.func104,Try.ntmps104
    try go_wp2_with (first|((with_reducible refine gate_dst (N:=3) rfl ?_);(try (refine gate_guard (by rfl) ?_;dsimp only));refine bxE (N:=3) (cs:=#[.int .i64 a1_0,.int .i64 a1_1,.int .i64 a1_2,.int .i64 a1_3,.int .i64 a1_4,.int .i64 a1_5,.string a1_6]) (t:=53) ?_;intro gb1242 hg w80 hbox hb;replace HB:=aMk (below_step bW34 hb);have BK1242:=aMk (hbox);have GW1242:=aMk ((by rw [hg];exact (keep_size (w:=w) (g:=g) (row:=none) (kQ HK.out)):w.heap.size≤gb1242));have GE1242:=aMk ((Nat.le_trans HW0.out (by rw [hg];exact (keep_size (w:=w) (g:=g) (row:=none) (kQ HK.out)):w.heap.size≤gb1242):w0.heap.size≤gb1242));replace HK:=aMk (KeepBut.trans (kQ HK.out) (KeepBut.of_below hb g none) (.inl rfl));have NB0_1242:=aMk ((by rw [hg];exact Nat.ne_of_lt (IsS34.lt (show IsS34 w0 _ g s0_0 s0_1 s0_2 s0_3 s0_4 s0_5 s0_6 s0_7 s0_8 s0_9 s0_10 from iQ34 HI0.out)):g ≠ gb1242));have NB1242_0:=aMk ((by rw [hg];exact Nat.ne_of_gt (IsS34.lt (show IsS34 w0 _ g s0_0 s0_1 s0_2 s0_3 s0_4 s0_5 s0_6 s0_7 s0_8 s0_9 s0_10 from iQ34 HI0.out)):gb1242 ≠ g));replace HI0:=aMk (IsS34.below (iQ34 HI0.out) hb);clear hb hbox hg;obtain ⟨HGz81,hgz81⟩:=HI0.out;have Z81_0:=cellS34_0 HGz81;have Z81_1:=cellS34_1 HGz81;have Z81_2:=cellS34_2 HGz81;have Z81_3:=cellS34_3 HGz81;have Z81_4:=cellS34_4 HGz81;have Z81_5:=cellS34_5 HGz81;have Z81_6:=cellS34_6 HGz81;have Z81_7:=cellS34_7 HGz81;have Z81_8:=cellS34_8 HGz81;have Z81_9:=cellS34_9 HGz81;have Z81_10:=cellS34_10 HGz81;have Y81_0:=bFr HGz81 0;have Y81_1:=bFr HGz81 1;have Y81_2:=bFr HGz81 2;have Y81_3:=bFr HGz81 3;have Y81_4:=bFr HGz81 4;have Y81_5:=bFr HGz81 5;have Y81_6:=bFr HGz81 6;have Y81_7:=bFr HGz81 7;have Y81_8:=bFr HGz81 8;have Y81_9:=bFr HGz81 9;have Y81_10:=bFr HGz81 10;clear HGz81 hgz81;have hnb82:=NB1242_0.out;have hnc82:=NB0_1242.out;obtain ⟨Z83_0,Z83_1,Z83_2,Z83_3,Z83_4,Z83_5,Z83_6,Y83_0,Y83_1,Y83_2,Y83_3,Y83_4,Y83_5,Y83_6⟩:=bC7 BK1242.out))
    replace BK1242:=aMk (bDr BK1242.out)
    replace HI0:=aMk (IsS34.drew HI0.out)
    replace HK:=aMk (keep_drew HK.out)
    replace HB:=aMk (bw1 HB.out)
    refine start_ (n:=7) (S:=fun w' => w'.cell? ⟨gb1242,0,none⟩ = some (.int .i64 a1_0)∧w'.cell? ⟨gb1242,1,none⟩ = some (.int .i64 a1_1)∧w'.cell? ⟨gb1242,2,none⟩ = some (.int .i64 a1_2)∧w'.cell? ⟨gb1242,3,none⟩ = some (.int .i64 a1_3)∧w'.cell? ⟨gb1242,4,none⟩ = some (.int .i64 a1_4)∧w'.cell? ⟨gb1242,5,none⟩ = some (.int .i64 a1_5)∧w'.cell? ⟨gb1242,6,none⟩ = some (.string a1_6)∧w'.cell? ⟨g,0,none⟩ = some (.string s0_0)∧w'.cell? ⟨g,1,none⟩ = some (.int .i64 s0_1)∧w'.cell? ⟨g,2,none⟩ = some (.int .i64 s0_2)∧w'.cell? ⟨g,3,none⟩ = some (.int .i64 s0_3)∧w'.cell? ⟨g,4,none⟩ = some (.int .i64 s0_4)∧w'.cell? ⟨g,5,none⟩ = some (.int .i64 s0_5)∧w'.cell? ⟨g,6,none⟩ = some (.int .i64 s0_6)∧w'.cell? ⟨g,7,none⟩ = some (.int .i64 s0_7)∧w'.cell? ⟨g,8,none⟩ = some (.string s0_8)∧w'.cell? ⟨g,9,none⟩ = some (.string s0_9)∧w'.cell? ⟨g,10,none⟩ = some (.bool s0_10)) (ds:=[]) #[false,false,false,false,false,false,false] (by kernel_rfl) rfl rfl (ca7 BK1242.out ⟨(cellS34_0 HI0.out.1),(cellS34_1 HI0.out.1),(cellS34_2 HI0.out.1),(cellS34_3 HI0.out.1),(cellS34_4 HI0.out.1),(cellS34_5 HI0.out.1),(cellS34_6 HI0.out.1),(cellS34_7 HI0.out.1),(cellS34_8 HI0.out.1),(cellS34_9 HI0.out.1),(cellS34_10 HI0.out.1)⟩) (fun hHeld => ?_)
    generalize w80.drew = w84 at BK1242 HI0 HK HB hHeld ⊢
    refine pU (i:=0) (N:=some 17) #[true,false,false,false,false,false,false] (by kernel_rfl) ?_
    refine pU (i:=2) (N:=some 19) #[true,false,true,false,false,false,false] (by kernel_rfl) ?_
    refine pU (i:=3) (N:=some 20) #[true,false,true,true,false,false,false] (by kernel_rfl) ?_
    refine pU (i:=4) (N:=some 21) #[true,false,true,true,true,false,false] (by kernel_rfl) ?_
    refine tU18 (i:=1) (N:=some 18) #[true,true,true,true,true,false,false] (by kernel_rfl) hHeld ?_
    refine tU18 (i:=5) (N:=some 22) #[true,true,true,true,true,true,false] (by kernel_rfl) hHeld ?_
    refine pU (i:=6) (N:=some 23) #[true,true,true,true,true,true,true] (by kernel_rfl) ?_
    refine done_ (by kernel_rfl) ?_
    try go_wp2
    go_ret
    exact ⟨_,eRf,by first|exact Kd.R_nil _ _ _ _ _|exact Kd.N_nil _ _ _ _ _|exact Kd.V_nil _ _ _ _ _|exact Kd.Q_nil _ _ _ _ _|exact Kd.S_nil _ _ _ _ _,by repeat (first|(with_reducible first|exact HI0.out|apply IsS34.alloc|apply IsS34.drewN|apply IsS34.drew|apply IsS34.set_0|apply IsS34.set_1|apply IsS34.set_2|apply IsS34.set_3|apply IsS34.set_4|apply IsS34.set_5|apply IsS34.set_6|apply IsS34.set_7|apply IsS34.set_8|apply IsS34.set_9|apply IsS34.set_10|refine IsS34.far ?_ NB0_1242.out _)|exact HI0.out),bW34,by repeat (first|(with_reducible first|exact HK.out|apply KeepBut.set_|apply keep_drewN|apply keep_drew|apply keep_alloc|refine keep_far ?_ GW1242.out _)|exact HK.out)⟩
end
section
/-! ### impl_isAddress: function 61 -/
def impl_isAddress.f (a0:Int):Option (Bool):=(impl_within.f a0 0 4294967295).bind fun t106 => (some t106)
set_option maxHeartbeats 8000000 in
set_option maxRecDepth 100000 in
theorem impl_isAddress.calls (a0:Int) (r:Bool) (w:World) (h:impl_isAddress.f a0 = some r) :
  Calls Try.prog 61 #[.int .i64 a0] w fun e w' => e = .returned (.bool r)∧Drawn0 w w':=by
 have H:=h
 unfold impl_isAddress.f at H
 clear h
 replace H:=Option.bind_eq_some_iff.mp H
 obtain ⟨t106,A20,H⟩:=H
 try dsimp only at H
 have A2:=aMk A20
 clear A20
 obtain rfl:=Option.some.inj H
 go_enter Try.func61,Try.ntmps61
 go_wp2_with (first|((with_reducible refine gate_callee (f:=62) rfl ?_);refine gLs 4 Try.func62 #[.int .i64 a0,.int .i64 0,.int .i64 4294967295] ?_;(with_reducible refine (impl_within.calls a0 0 4294967295 t106 _ A2.out).mono ?_);rintro e w' ⟨rfl,⟨nd,rfl⟩⟩;refine ⟨_,rfl,?_⟩))
 go_ret
 exact ⟨by first | rfl|(simp;done)|(simp [*];done)|(simp [ne_nil_b];done)|(simp [ne_nil_b, *];done),by repeat (first|exact Drawn0.refl _|apply Drawn0.step)⟩
end
section
/-! ### impl_macOK: function 72 -/
def impl_macOK.f (a0:ByteArray):Option (Bool):=some ((a0.size:Int) == 6)
set_option maxHeartbeats 8000000 in
set_option maxRecDepth 100000 in
theorem impl_macOK.calls (a0:ByteArray) (r:Bool) (w:World) (h:impl_macOK.f a0 = some r) :
  Calls Try.prog 72 #[.string a0] w fun e w' => e = .returned (.bool r)∧Drawn0 w w':=by
 have H:=h
 unfold impl_macOK.f at H
 clear h
 obtain rfl:=Option.some.inj H
 go_enter Try.func72,Try.ntmps72
 go_wp2
 go_ret
 exact ⟨by first | rfl|(simp;done)|(simp [*];done)|(simp [ne_nil_b];done)|(simp [ne_nil_b, *];done),by repeat (first|exact Drawn0.refl _|apply Drawn0.step)⟩
end
section
/-! ### impl_isPort: function 73 -/
def impl_isPort.f (a0:Int):Option (Bool):=(impl_within.f a0 0 65535).bind fun t165 => (some t165)
set_option maxHeartbeats 8000000 in
set_option maxRecDepth 100000 in
theorem impl_isPort.calls (a0:Int) (r:Bool) (w:World) (h:impl_isPort.f a0 = some r) :
  Calls Try.prog 73 #[.int .i64 a0] w fun e w' => e = .returned (.bool r)∧Drawn0 w w':=by
 have H:=h
 unfold impl_isPort.f at H
 clear h
 replace H:=Option.bind_eq_some_iff.mp H
 obtain ⟨t165,A20,H⟩:=H
 try dsimp only at H
 have A2:=aMk A20
 clear A20
 obtain rfl:=Option.some.inj H
 go_enter Try.func73,Try.ntmps73
 go_wp2_with (first|((with_reducible refine gate_callee (f:=62) rfl ?_);refine gLs 4 Try.func62 #[.int .i64 a0,.int .i64 0,.int .i64 65535] ?_;(with_reducible refine (impl_within.calls a0 0 65535 t165 _ A2.out).mono ?_);rintro e w' ⟨rfl,⟨nd,rfl⟩⟩;refine ⟨_,rfl,?_⟩))
 go_ret
 exact ⟨by first | rfl|(simp;done)|(simp [*];done)|(simp [ne_nil_b];done)|(simp [ne_nil_b, *];done),by repeat (first|exact Drawn0.refl _|apply Drawn0.step)⟩
end
end Go.Proofs.Ytlpkldomoniegaa.X
