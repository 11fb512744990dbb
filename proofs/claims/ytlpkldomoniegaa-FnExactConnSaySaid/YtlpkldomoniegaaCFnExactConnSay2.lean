/- Texts that the row of FnExactConnSay stands on: functions of the program and of the reference, each as a Lean function with the same answers, and the plain lemmas. Conditions: none beside those that each theorem names. -/
import Derived.Test.YtlpkldomoniegaaCFnExactConnSay1
namespace Go.Proofs.Ytlpkldomoniegaa.X
open Go.RowKit Go.Proofs.YtlpkldomoniegaaW.PrintWords Go.Proofs.YtlpkldomoniegaaW.PrintLast Go.Proofs.YtlpkldomoniegaaW.PrintMore
attribute [local go_sem] max2_int min2_int max_two min_two max_three min_three max_four min_four   -- for this text's walks alone
set_option linter.unusedVariables false
set_option linter.unusedSimpArgs false
open Go.Proofs.YtlpkldomoniegaaW.PrintWords renaming blk_drewN -> bDn
open Go.Proofs.YtlpkldomoniegaaW.PrintWords renaming blk_drew -> bDr
open Go.Proofs.YtlpkldomoniegaaW.PrintWords renaming blk_alloc -> bAl
open Go.Proofs.YtlpkldomoniegaaW.PrintWords renaming blk_frozen -> bFr
open Go.Proofs.YtlpkldomoniegaaW.PrintWords renaming blk_cell -> bCe
open Go.Proofs.YtlpkldomoniegaaW.PrintWords.Aside0 renaming mk -> aMk
open Go.World renaming block_lt_of_cell? -> wLt
open Go.Proofs.YtlpkldomoniegaaW.PrintWords renaming pw_below_drewN -> bwN
open Go.Proofs.YtlpkldomoniegaaW.PrintWords renaming below_drew1 -> bw1
open Go.Proofs.YtlpkldomoniegaaW.PrintWords renaming below_alloc -> bwA
section
/-! ### laws_heldSegmentS: function 40 -/
def laws_heldSegmentS.l0 : Nat → List (S53) → Int → Int → Option (Int)
 | 0,_,_,_ => none
 | k + 1,x0,x1,x5 => if x5 < (x0.length : Int) then (if 0 ≤ x5 then (if ((rd_T53 x0 x5).f0) = x1 then (if ((rd_T53 x0 x5).f1) = (wrap64 (x1 + 1)) then (if ((rd_T53 x0 x5).f2) = (wrap64 ((wrap64 (x1 + 1)) + 1)) then (if ((rd_T53 x0 x5).f3) = (wrap64 ((wrap64 ((wrap64 (x1 + 1)) + 1)) + 1)) then (if ((rd_T53 x0 x5).f4) = (wrap64 ((wrap64 ((wrap64 ((wrap64 (x1 + 1)) + 1)) + 1)) + 1)) then (if ((rd_T53 x0 x5).f5) = (wrap64 ((wrap64 ((wrap64 ((wrap64 ((wrap64 (x1 + 1)) + 1)) + 1)) + 1)) + 1)) then ((laws_markText.f k (wrap64 ((wrap64 ((wrap64 ((wrap64 ((wrap64 ((wrap64 (x1 + 1)) + 1)) + 1)) + 1)) + 1)) + 1))).bind fun t418 => (if ((rd_T53 x0 x5).f6).toList = t418.toList then (laws_heldSegmentS.l0 k x0 (wrap64 ((wrap64 ((wrap64 ((wrap64 ((wrap64 ((wrap64 ((wrap64 (x1 + 1)) + 1)) + 1)) + 1)) + 1)) + 1)) + 1)) (wrap64 (x5 + 1))) else (some (-1)))) else (some (-1))) else (some (-1))) else (some (-1))) else (some (-1))) else (some (-1))) else (some (-1))) else (none)) else (some x1)
def laws_heldSegmentS.f (k : Nat) (l0 : List (S53)) (a1 : Int) : Option (Int):=laws_heldSegmentS.l0 k l0 a1 0
theorem laws_heldSegmentS.mono_l : ∀ k,(∀ y0 y1 y2,LeO (laws_heldSegmentS.l0 k y0 y1 y2) (laws_heldSegmentS.l0 (k + 1) y0 y1 y2))
 | 0 => fun _ _ _ r h => by simp [laws_heldSegmentS.l0] at h
 | k + 1 => by
  have ih0:=laws_heldSegmentS.mono_l k
  ·intro y0 y1 y2
   unfold laws_heldSegmentS.l0
   repeat' first
   | (with_reducible exact ih0 _ _ _)
   | (with_reducible exact laws_markText.mono ..)
   | (with_reducible exact LeO.refl _)
   | (with_reducible exact LeO.none _)
   | (with_reducible refine LeO.ite ?_ ?_)
   | (with_reducible refine LeO.bind ?_ (fun _ => ?_))
   | exact ih0 _ _ _
   | exact laws_markText.mono ..
   | exact LeO.none _
   | refine LeO.ite ?_ ?_
   | refine LeO.bind ?_ (fun _ => ?_)
theorem laws_heldSegmentS.mono : ∀ a0 a1 k,LeO (laws_heldSegmentS.f k a0 a1) (laws_heldSegmentS.f (k + 1) a0 a1):=by
 intro a0 a1 k
 have ih0:=laws_heldSegmentS.mono_l k
 unfold laws_heldSegmentS.f
 repeat' first
   | (with_reducible exact ih0 _ _ _)
   | (with_reducible exact laws_markText.mono ..)
   | (with_reducible exact LeO.refl _)
   | (with_reducible exact LeO.none _)
   | (with_reducible refine LeO.ite ?_ ?_)
   | (with_reducible refine LeO.bind ?_ (fun _ => ?_))
   | exact ih0 _ _ _
   | exact laws_markText.mono ..
   | exact LeO.none _
   | refine LeO.ite ?_ ?_
   | refine LeO.bind ?_ (fun _ => ?_)
def laws_heldSegmentS.T22 : Bool × List (List Nat × List Nat):=(true,[([],[]),([],[]),([0,1],[0,1]),([2],[2]),([3],[3]),([],[]),([5],[5]),([4,6],[4,6])])
def laws_heldSegmentS.B22 : List Nat:=[0,0,3,7,15,0,32,127]
theorem laws_heldSegmentS.tab22 : rtab .any (opsOf Try.f40 22) = laws_heldSegmentS.T22:=by kernel_rfl
theorem laws_heldSegmentS.bits22 : waitsOk laws_heldSegmentS.T22.2 laws_heldSegmentS.B22 = true:=by kernel_rfl
set_option maxHeartbeats 8000000 in
set_option maxRecDepth 100000 in
theorem laws_heldSegmentS.calls (k : Nat) (A0 : Option Addr) (c0 : Nat) (l0 : List (S53)) (a1 : Int) (r : Int) (w : World) (hr0 : Kd.C k53 w A0 l0.length l0) (hc0 : l0.length ≤ c0) (h : laws_heldSegmentS.f k l0 a1 = some r) :
  Calls Try.prog 40 #[.slice A0 l0.length c0,.int .i64 a1] w fun e w' => e = .returned (.int .i64 r) ∧ Below w.heap.size w w':=by
 have HR0:=aMk hr0
 have HC0:=aMk hc0
 clear hr0 hc0
 have HB:=aMk (Below.refl w.heap.size w)
 have H : (laws_heldSegmentS.l0 k l0 a1 0) = some r:=h
 clear h
 have H':=aMk H
 clear H
 go_enter Try.func40,Try.ntmps40
 go_wp2
 go_loopg [1,5] k (fun kq v1 v5 w' => ∃ (x1_1 : Int) (x5_1 : Int),v1 = .int .i64 x1_1 ∧ v5 = .int .i64 x5_1 ∧ Aside0 (laws_heldSegmentS.l0 kq l0 x1_1 x5_1 = some r) ∧ Aside0 (kq ≤ k) ∧ Aside0 (Below w.heap.size w w'))
 case atStart => exact ⟨(a1),(0),(by first | rfl|(simp;done)|(simp [*];done)|(simp [ne_nil_b];done)|(simp [ne_nil_b, *];done)),(by first | rfl|(simp;done)|(simp [*];done)|(simp [ne_nil_b];done)|(simp [ne_nil_b, *];done)),H',⟨Nat.le_refl _⟩,⟨by repeat (first|(with_reducible first|exact HB.out|apply bwA|apply bwN|apply bw1)|exact HB.out)⟩⟩
 case round =>
  clear H'
  try clear p2
  obtain ⟨x1_1,x5_1,rfl,rfl,HA,HK1,HB⟩:=hrel
  cases gk with
  | zero => exact absurd HA.out (by simp [laws_heldSegmentS.l0])
  | succ k1 =>
   have H:=HA.out
   clear HA
   simp only [laws_heldSegmentS.l0] at H
   by_cases c3 : x5_1 < (l0.length : Int)
   ·rw [if_pos c3] at H
    have c3b0 : decide (x5_1 < (l0.length : Int)) = true:=decide_eq_true c3
    clear c3
    by_cases c4 : 0 ≤ x5_1
    ·rw [if_pos c4] at H
     have c4b0 : decide (0 ≤ x5_1) = true:=decide_eq_true c4
     clear c4
     by_cases c5 : ((rd_T53 l0 x5_1).f0) = x1_1
     ·rw [if_pos c5] at H
      have c5b0 : (((rd_T53 l0 x5_1).f0) == x1_1) = true:=beq_iff_eq.mpr c5
      have c5b1 : (((rd_T53 l0 x5_1).f0) != x1_1) = false:=bne_eq_false_iff_eq.mpr c5
      clear c5
      by_cases c6 : ((rd_T53 l0 x5_1).f1) = (wrap64 (x1_1 + 1))
      ·rw [if_pos c6] at H
       have c6b0 : (((rd_T53 l0 x5_1).f1) == (wrap64 (x1_1 + 1))) = true:=beq_iff_eq.mpr c6
       have c6b1 : (((rd_T53 l0 x5_1).f1) != (wrap64 (x1_1 + 1))) = false:=bne_eq_false_iff_eq.mpr c6
       clear c6
       by_cases c7 : ((rd_T53 l0 x5_1).f2) = (wrap64 ((wrap64 (x1_1 + 1)) + 1))
       ·rw [if_pos c7] at H
        have c7b0 : (((rd_T53 l0 x5_1).f2) == (wrap64 ((wrap64 (x1_1 + 1)) + 1))) = true:=beq_iff_eq.mpr c7
        have c7b1 : (((rd_T53 l0 x5_1).f2) != (wrap64 ((wrap64 (x1_1 + 1)) + 1))) = false:=bne_eq_false_iff_eq.mpr c7
        clear c7
        by_cases c8 : ((rd_T53 l0 x5_1).f3) = (wrap64 ((wrap64 ((wrap64 (x1_1 + 1)) + 1)) + 1))
        ·rw [if_pos c8] at H
         have c8b0 : (((rd_T53 l0 x5_1).f3) == (wrap64 ((wrap64 ((wrap64 (x1_1 + 1)) + 1)) + 1))) = true:=beq_iff_eq.mpr c8
         have c8b1 : (((rd_T53 l0 x5_1).f3) != (wrap64 ((wrap64 ((wrap64 (x1_1 + 1)) + 1)) + 1))) = false:=bne_eq_false_iff_eq.mpr c8
         clear c8
         by_cases c9 : ((rd_T53 l0 x5_1).f4) = (wrap64 ((wrap64 ((wrap64 ((wrap64 (x1_1 + 1)) + 1)) + 1)) + 1))
         ·rw [if_pos c9] at H
          have c9b0 : (((rd_T53 l0 x5_1).f4) == (wrap64 ((wrap64 ((wrap64 ((wrap64 (x1_1 + 1)) + 1)) + 1)) + 1))) = true:=beq_iff_eq.mpr c9
          have c9b1 : (((rd_T53 l0 x5_1).f4) != (wrap64 ((wrap64 ((wrap64 ((wrap64 (x1_1 + 1)) + 1)) + 1)) + 1))) = false:=bne_eq_false_iff_eq.mpr c9
          clear c9
          by_cases c10 : ((rd_T53 l0 x5_1).f5) = (wrap64 ((wrap64 ((wrap64 ((wrap64 ((wrap64 (x1_1 + 1)) + 1)) + 1)) + 1)) + 1))
          ·rw [if_pos c10] at H
           have c10b0 : (((rd_T53 l0 x5_1).f5) == (wrap64 ((wrap64 ((wrap64 ((wrap64 ((wrap64 (x1_1 + 1)) + 1)) + 1)) + 1)) + 1))) = true:=beq_iff_eq.mpr c10
           have c10b1 : (((rd_T53 l0 x5_1).f5) != (wrap64 ((wrap64 ((wrap64 ((wrap64 ((wrap64 (x1_1 + 1)) + 1)) + 1)) + 1)) + 1))) = false:=bne_eq_false_iff_eq.mpr c10
           clear c10
           replace H:=Option.bind_eq_some_iff.mp H
           obtain ⟨t418,A110,H⟩:=H
           replace H : (if ((rd_T53 l0 x5_1).f6).toList = t418.toList then (laws_heldSegmentS.l0 k1 l0 (wrap64 ((wrap64 ((wrap64 ((wrap64 ((wrap64 ((wrap64 ((wrap64 (x1_1 + 1)) + 1)) + 1)) + 1)) + 1)) + 1)) + 1)) (wrap64 (x5_1 + 1))) else (some (-1))) = some r:=H
           have A11:=aMk A110
           clear A110
           by_cases c12 : ((rd_T53 l0 x5_1).f6).toList = t418.toList
           ·rw [if_pos c12] at H
            have c12b0 : (((rd_T53 l0 x5_1).f6).toList == t418.toList) = true:=beq_iff_eq.mpr c12
            have c12b1 : (((rd_T53 l0 x5_1).f6).toList != t418.toList) = false:=bne_eq_false_iff_eq.mpr c12
            clear c12
            have H':=aMk H
            clear H
            have p411 : 0 ≤ (x5_1 : Int):=of_decide_eq_true (by first|(with_reducible assumption) | assumption)
            have q411 : x5_1 < (l0.length : Int):=of_decide_eq_true (by first|(with_reducible assumption) | assumption)
            obtain ⟨ad411,e411,hx411_0,hx411_1,hx411_2,hx411_3,hx411_4,hx411_5,hx411_6⟩:=at_T53 HR0.out x5_1 p411 q411
            cases e411
            replace hx411_0:=(HB.out.cell (wLt w _ hx411_0)).trans hx411_0
            replace hx411_1:=(HB.out.cell (wLt w _ hx411_1)).trans hx411_1
            replace hx411_2:=(HB.out.cell (wLt w _ hx411_2)).trans hx411_2
            replace hx411_3:=(HB.out.cell (wLt w _ hx411_3)).trans hx411_3
            replace hx411_4:=(HB.out.cell (wLt w _ hx411_4)).trans hx411_4
            replace hx411_5:=(HB.out.cell (wLt w _ hx411_5)).trans hx411_5
            replace hx411_6:=(HB.out.cell (wLt w _ hx411_6)).trans hx411_6
            replace p411:=eq_true p411
            replace q411:=eq_true q411
            have p412 : 0 ≤ (x5_1 : Int):=of_decide_eq_true (by first|(with_reducible assumption) | assumption)
            have q412 : x5_1 < (l0.length : Int):=of_decide_eq_true (by first|(with_reducible assumption) | assumption)
            obtain ⟨ad412,e412,hx412_0,hx412_1,hx412_2,hx412_3,hx412_4,hx412_5,hx412_6⟩:=at_T53 HR0.out x5_1 p412 q412
            obtain rfl : ad411 = ad412:=(by injection e412)
            replace hx412_0:=(HB.out.cell (wLt w _ hx412_0)).trans hx412_0
            replace hx412_1:=(HB.out.cell (wLt w _ hx412_1)).trans hx412_1
            replace hx412_2:=(HB.out.cell (wLt w _ hx412_2)).trans hx412_2
            replace hx412_3:=(HB.out.cell (wLt w _ hx412_3)).trans hx412_3
            replace hx412_4:=(HB.out.cell (wLt w _ hx412_4)).trans hx412_4
            replace hx412_5:=(HB.out.cell (wLt w _ hx412_5)).trans hx412_5
            replace hx412_6:=(HB.out.cell (wLt w _ hx412_6)).trans hx412_6
            replace p412:=eq_true p412
            replace q412:=eq_true q412
            have p413 : 0 ≤ (x5_1 : Int):=of_decide_eq_true (by first|(with_reducible assumption) | assumption)
            have q413 : x5_1 < (l0.length : Int):=of_decide_eq_true (by first|(with_reducible assumption) | assumption)
            obtain ⟨ad413,e413,hx413_0,hx413_1,hx413_2,hx413_3,hx413_4,hx413_5,hx413_6⟩:=at_T53 HR0.out x5_1 p413 q413
            obtain rfl : ad411 = ad413:=(by injection e413)
            replace hx413_0:=(HB.out.cell (wLt w _ hx413_0)).trans hx413_0
            replace hx413_1:=(HB.out.cell (wLt w _ hx413_1)).trans hx413_1
            replace hx413_2:=(HB.out.cell (wLt w _ hx413_2)).trans hx413_2
            replace hx413_3:=(HB.out.cell (wLt w _ hx413_3)).trans hx413_3
            replace hx413_4:=(HB.out.cell (wLt w _ hx413_4)).trans hx413_4
            replace hx413_5:=(HB.out.cell (wLt w _ hx413_5)).trans hx413_5
            replace hx413_6:=(HB.out.cell (wLt w _ hx413_6)).trans hx413_6
            replace p413:=eq_true p413
            replace q413:=eq_true q413
            have p414 : 0 ≤ (x5_1 : Int):=of_decide_eq_true (by first|(with_reducible assumption) | assumption)
            have q414 : x5_1 < (l0.length : Int):=of_decide_eq_true (by first|(with_reducible assumption) | assumption)
            obtain ⟨ad414,e414,hx414_0,hx414_1,hx414_2,hx414_3,hx414_4,hx414_5,hx414_6⟩:=at_T53 HR0.out x5_1 p414 q414
            obtain rfl : ad411 = ad414:=(by injection e414)
            replace hx414_0:=(HB.out.cell (wLt w _ hx414_0)).trans hx414_0
            replace hx414_1:=(HB.out.cell (wLt w _ hx414_1)).trans hx414_1
            replace hx414_2:=(HB.out.cell (wLt w _ hx414_2)).trans hx414_2
            replace hx414_3:=(HB.out.cell (wLt w _ hx414_3)).trans hx414_3
            replace hx414_4:=(HB.out.cell (wLt w _ hx414_4)).trans hx414_4
            replace hx414_5:=(HB.out.cell (wLt w _ hx414_5)).trans hx414_5
            replace hx414_6:=(HB.out.cell (wLt w _ hx414_6)).trans hx414_6
            replace p414:=eq_true p414
            replace q414:=eq_true q414
            have p415 : 0 ≤ (x5_1 : Int):=of_decide_eq_true (by first|(with_reducible assumption) | assumption)
            have q415 : x5_1 < (l0.length : Int):=of_decide_eq_true (by first|(with_reducible assumption) | assumption)
            obtain ⟨ad415,e415,hx415_0,hx415_1,hx415_2,hx415_3,hx415_4,hx415_5,hx415_6⟩:=at_T53 HR0.out x5_1 p415 q415
            obtain rfl : ad411 = ad415:=(by injection e415)
            replace hx415_0:=(HB.out.cell (wLt w _ hx415_0)).trans hx415_0
            replace hx415_1:=(HB.out.cell (wLt w _ hx415_1)).trans hx415_1
            replace hx415_2:=(HB.out.cell (wLt w _ hx415_2)).trans hx415_2
            replace hx415_3:=(HB.out.cell (wLt w _ hx415_3)).trans hx415_3
            replace hx415_4:=(HB.out.cell (wLt w _ hx415_4)).trans hx415_4
            replace hx415_5:=(HB.out.cell (wLt w _ hx415_5)).trans hx415_5
            replace hx415_6:=(HB.out.cell (wLt w _ hx415_6)).trans hx415_6
            replace p415:=eq_true p415
            replace q415:=eq_true q415
            have p416 : 0 ≤ (x5_1 : Int):=of_decide_eq_true (by first|(with_reducible assumption) | assumption)
            have q416 : x5_1 < (l0.length : Int):=of_decide_eq_true (by first|(with_reducible assumption) | assumption)
            obtain ⟨ad416,e416,hx416_0,hx416_1,hx416_2,hx416_3,hx416_4,hx416_5,hx416_6⟩:=at_T53 HR0.out x5_1 p416 q416
            obtain rfl : ad411 = ad416:=(by injection e416)
            replace hx416_0:=(HB.out.cell (wLt w _ hx416_0)).trans hx416_0
            replace hx416_1:=(HB.out.cell (wLt w _ hx416_1)).trans hx416_1
            replace hx416_2:=(HB.out.cell (wLt w _ hx416_2)).trans hx416_2
            replace hx416_3:=(HB.out.cell (wLt w _ hx416_3)).trans hx416_3
            replace hx416_4:=(HB.out.cell (wLt w _ hx416_4)).trans hx416_4
            replace hx416_5:=(HB.out.cell (wLt w _ hx416_5)).trans hx416_5
            replace hx416_6:=(HB.out.cell (wLt w _ hx416_6)).trans hx416_6
            replace p416:=eq_true p416
            replace q416:=eq_true q416
            try go_wp2
            have n0_:=aMk (bw1 HB.out)
            clear HB
            have HB:=n0_
            clear n0_
            have p417 : 0 ≤ (x5_1 : Int):=of_decide_eq_true (by first|(with_reducible assumption) | assumption)
            have q417 : x5_1 < (l0.length : Int):=of_decide_eq_true (by first|(with_reducible assumption) | assumption)
            obtain ⟨ad417,e417,hx417_0,hx417_1,hx417_2,hx417_3,hx417_4,hx417_5,hx417_6⟩:=at_T53 HR0.out x5_1 p417 q417
            have hw417_6:=hx417_6
            have hw417_5:=hx417_5
            have hw417_4:=hx417_4
            have hw417_3:=hx417_3
            have hw417_2:=hx417_2
            have hw417_1:=hx417_1
            have hw417_0:=hx417_0
            obtain rfl : ad411 = ad417:=(by injection e417)
            replace hx417_0:=(HB.out.cell (wLt w _ hx417_0)).trans hx417_0
            replace hx417_1:=(HB.out.cell (wLt w _ hx417_1)).trans hx417_1
            replace hx417_2:=(HB.out.cell (wLt w _ hx417_2)).trans hx417_2
            replace hx417_3:=(HB.out.cell (wLt w _ hx417_3)).trans hx417_3
            replace hx417_4:=(HB.out.cell (wLt w _ hx417_4)).trans hx417_4
            replace hx417_5:=(HB.out.cell (wLt w _ hx417_5)).trans hx417_5
            replace hx417_6:=(HB.out.cell (wLt w _ hx417_6)).trans hx417_6
            replace p417:=eq_true p417
            replace q417:=eq_true q417
            refine start_ (n:=8) (S:=fun w' => w'.cell? (ad411.add ((x5_1).toNat * 7)) = some (.int .i64 ((rd_T53 l0 x5_1).f0)) ∧ w'.cell? ⟨(ad411.add ((x5_1).toNat * 7)).block,(ad411.add ((x5_1).toNat * 7)).off + 1,none⟩ = some (.int .i64 ((rd_T53 l0 x5_1).f1)) ∧ w'.cell? ⟨(ad411.add ((x5_1).toNat * 7)).block,(ad411.add ((x5_1).toNat * 7)).off + 2,none⟩ = some (.int .i64 ((rd_T53 l0 x5_1).f2)) ∧ w'.cell? ⟨(ad411.add ((x5_1).toNat * 7)).block,(ad411.add ((x5_1).toNat * 7)).off + 3,none⟩ = some (.int .i64 ((rd_T53 l0 x5_1).f3)) ∧ w'.cell? ⟨(ad411.add ((x5_1).toNat * 7)).block,(ad411.add ((x5_1).toNat * 7)).off + 4,none⟩ = some (.int .i64 ((rd_T53 l0 x5_1).f4)) ∧ w'.cell? ⟨(ad411.add ((x5_1).toNat * 7)).block,(ad411.add ((x5_1).toNat * 7)).off + 5,none⟩ = some (.int .i64 ((rd_T53 l0 x5_1).f5)) ∧ w'.cell? ⟨(ad411.add ((x5_1).toNat * 7)).block,(ad411.add ((x5_1).toNat * 7)).off + 6,none⟩ = some (.string ((rd_T53 l0 x5_1).f6))) (ds:=[]) #[false,false,false,false,false,false,false,false] (by kernel_rfl) rfl rfl ⟨((HB.out.cell (wLt w _ hw417_0)).trans hw417_0),((HB.out.cell (wLt w _ hw417_1)).trans hw417_1),((HB.out.cell (wLt w _ hw417_2)).trans hw417_2),((HB.out.cell (wLt w _ hw417_3)).trans hw417_3),((HB.out.cell (wLt w _ hw417_4)).trans hw417_4),((HB.out.cell (wLt w _ hw417_5)).trans hw417_5),((HB.out.cell (wLt w _ hw417_6)).trans hw417_6)⟩ (fun hHeld => ?_);refine with_tabW laws_heldSegmentS.tab22 laws_heldSegmentS.bits22 (fun HT_ HW_ => ?_)
            generalize wr.drew = w13 at HB hx417_0 hx417_1 hx417_2 hx417_3 hx417_4 hx417_5 hx417_6 hHeld ⊢
            refine pure_ (i:=0) (N:=some 66) (v:=?_) (a':=?_) #[true,false,false,false,false,false,false,false] rfl rfl (any_of HT_.out (by kernel_rfl)) (fun _ _ _ h => h) (Or.inl ⟨by rfl,?_⟩) ?_ ?_
            rotate_left
            ·intro w'
             go_simp
             with_reducible rfl
            rotate_left
            ·simp only [Act.put,List.setIfInBounds_toArray,List.set_cons_zero,List.set_cons_succ,i64_w,i32_w]
             rfl
            refine pure_ (i:=1) (N:=some 67) (v:=?_) (a':=?_) #[true,true,false,false,false,false,false,false] rfl rfl (any_of HT_.out (by kernel_rfl)) (fun _ _ _ h => h) (Or.inl ⟨by rfl,?_⟩) ?_ ?_
            rotate_left
            ·intro w'
             go_simp
             with_reducible rfl
            rotate_left
            ·simp only [Act.put,List.setIfInBounds_toArray,List.set_cons_zero,List.set_cons_succ,i64_w,i32_w]
             rfl
            refine pure_ (i:=2) (N:=some 68) (v:=?_) (a':=?_) #[true,true,true,false,false,false,false,false] rfl rfl (any_of HT_.out (by kernel_rfl)) (fun _ _ _ h => h) (Or.inl ⟨by rfl,?_⟩) ?_ ?_
            rotate_left
            ·intro w'
             go_simp
             with_reducible rfl
            rotate_left
            ·simp only [Act.put,List.setIfInBounds_toArray,List.set_cons_zero,List.set_cons_succ,i64_w,i32_w]
             rfl
            refine pure_ (i:=3) (N:=some 69) (v:=?_) (a':=?_) #[true,true,true,true,false,false,false,false] rfl rfl (any_of HT_.out (by kernel_rfl)) (fun _ _ _ h => h) (Or.inl ⟨by rfl,?_⟩) ?_ ?_
            rotate_left
            ·intro w'
             go_simp
             with_reducible rfl
            rotate_left
            ·simp only [Act.put,List.setIfInBounds_toArray,List.set_cons_zero,List.set_cons_succ,i64_w,i32_w]
             rfl
            refine pure_ (i:=5) (N:=some 71) (v:=?_) (a':=?_) #[true,true,true,true,false,true,false,false] rfl rfl (any_of HT_.out (by kernel_rfl)) (fun _ _ _ h => h) (Or.inl ⟨by rfl,?_⟩) ?_ ?_
            rotate_left
            ·intro w'
             go_simp
             with_reducible rfl
            rotate_left
            ·simp only [Act.put,List.setIfInBounds_toArray,List.set_cons_zero,List.set_cons_succ,i64_w,i32_w]
             rfl
            refine take_ (i:=4) (N:=some 70) (v:=?_) (a':=?_) #[true,true,true,true,true,true,false,false] rfl rfl (take_ofW HT_.out HW_.out (by kernel_rfl)) (fun _ _ _ h => h) (Or.inl ⟨by rfl,?_⟩) hHeld ?_ ?_
            rotate_left
            ·rintro w' ⟨s0,s1,s2,s3,s4,s5,s6⟩
             go_simp
             with_reducible rfl
            rotate_left
            ·simp only [Act.put,List.setIfInBounds_toArray,List.set_cons_zero,List.set_cons_succ,i64_w,i32_w]
             rfl
            refine one_ (i:=6) (N:=some 72) #[true,true,true,true,true,true,true,false] rfl rfl (one_of HT_.out (by kernel_rfl)) (by decide) (fun K hK => ?_)
            refine goes_ Try.func89 (by kernel_rfl) rfl #[.int .i64 (wrap64 ((wrap64 ((wrap64 ((wrap64 ((wrap64 ((wrap64 (x1_1 + 1)) + 1)) + 1)) + 1)) + 1)) + 1))] (by rfl) rfl rfl (by (try simp only [List.map_toArray,List.map_cons,List.map_nil]);first | done | rfl|(simp only [List.length_drop,List.length_take];rfl)) ?_
            with_reducible refine (laws_markText.calls k1 (wrap64 ((wrap64 ((wrap64 ((wrap64 ((wrap64 ((wrap64 (x1_1 + 1)) + 1)) + 1)) + 1)) + 1)) + 1)) t418 _ A11.out).mono ?_
            rintro e w14 ⟨rfl,hb⟩
            refine ⟨_,rfl,?_⟩
            have n0_:=aMk (below_step (by repeat first|exact HB.out|apply bwA|apply bwN|apply bw1) hb)
            clear HB
            have HB:=n0_
            clear n0_
            (try clear hb)
            (try clear hb2)
            (try clear hk)
            (try clear hi)
            refine hK.out _ _ ⟨((HB.out.cell (wLt w _ hw417_0)).trans hw417_0),((HB.out.cell (wLt w _ hw417_1)).trans hw417_1),((HB.out.cell (wLt w _ hw417_2)).trans hw417_2),((HB.out.cell (wLt w _ hw417_3)).trans hw417_3),((HB.out.cell (wLt w _ hw417_4)).trans hw417_4),((HB.out.cell (wLt w _ hw417_5)).trans hw417_5),((HB.out.cell (wLt w _ hw417_6)).trans hw417_6)⟩ (fun hHeld => ?_)
            clear hK K
            refine norm_ (a':=?_) ?_ ?_
            rotate_left
            ·show Act.put _ (some 72) _ = _
             simp only [Act.put,List.setIfInBounds_toArray,List.set_cons_zero,List.set_cons_succ,i64_w,i32_w]
             rfl
            refine pure_ (i:=7) (N:=some 73) (v:=?_) (a':=?_) #[true,true,true,true,true,true,true,true] rfl rfl (any_of HT_.out (by kernel_rfl)) (fun _ _ _ h => h) (Or.inl ⟨by rfl,?_⟩) ?_ ?_
            rotate_left
            ·intro w'
             go_simp
             with_reducible rfl
            rotate_left
            ·simp only [Act.put,List.setIfInBounds_toArray,List.set_cons_zero,List.set_cons_succ,i64_w,i32_w]
             rfl
            refine done_ (done_of HT_.out (by kernel_rfl)) ?_
            try go_wp2
            go_roundg k1
            case measure => have:=HK1.out;omega
            case rel => exact ⟨(wrap64 ((wrap64 ((wrap64 ((wrap64 ((wrap64 ((wrap64 ((wrap64 (x1_1 + 1)) + 1)) + 1)) + 1)) + 1)) + 1)) + 1)),(wrap64 (x5_1 + 1)),(by first | rfl|(simp;done)|(simp [*];done)|(simp [ne_nil_b];done)|(simp [ne_nil_b, *];done)),(by first | rfl|(simp;done)|(simp [*];done)|(simp [ne_nil_b];done)|(simp [ne_nil_b, *];done)),H',⟨by have:=HK1.out;omega⟩,⟨by repeat (first|(with_reducible first|exact HB.out|apply bwA|apply bwN|apply bw1)|exact HB.out)⟩⟩
           ·rw [if_neg c12] at H
            have c12b0 : (((rd_T53 l0 x5_1).f6).toList == t418.toList) = false:=beq_eq_false_iff_ne.mpr c12
            have c12b1 : (((rd_T53 l0 x5_1).f6).toList != t418.toList) = true:=bne_iff_ne.mpr c12
            obtain rfl:=Option.some.inj H
            have p411 : 0 ≤ (x5_1 : Int):=of_decide_eq_true (by first|(with_reducible assumption) | assumption)
            have q411 : x5_1 < (l0.length : Int):=of_decide_eq_true (by first|(with_reducible assumption) | assumption)
            obtain ⟨ad411,e411,hx411_0,hx411_1,hx411_2,hx411_3,hx411_4,hx411_5,hx411_6⟩:=at_T53 HR0.out x5_1 p411 q411
            cases e411
            replace hx411_0:=(HB.out.cell (wLt w _ hx411_0)).trans hx411_0
            replace hx411_1:=(HB.out.cell (wLt w _ hx411_1)).trans hx411_1
            replace hx411_2:=(HB.out.cell (wLt w _ hx411_2)).trans hx411_2
            replace hx411_3:=(HB.out.cell (wLt w _ hx411_3)).trans hx411_3
            replace hx411_4:=(HB.out.cell (wLt w _ hx411_4)).trans hx411_4
            replace hx411_5:=(HB.out.cell (wLt w _ hx411_5)).trans hx411_5
            replace hx411_6:=(HB.out.cell (wLt w _ hx411_6)).trans hx411_6
            replace p411:=eq_true p411
            replace q411:=eq_true q411
            have p412 : 0 ≤ (x5_1 : Int):=of_decide_eq_true (by first|(with_reducible assumption) | assumption)
            have q412 : x5_1 < (l0.length : Int):=of_decide_eq_true (by first|(with_reducible assumption) | assumption)
            obtain ⟨ad412,e412,hx412_0,hx412_1,hx412_2,hx412_3,hx412_4,hx412_5,hx412_6⟩:=at_T53 HR0.out x5_1 p412 q412
            obtain rfl : ad411 = ad412:=(by injection e412)
            replace hx412_0:=(HB.out.cell (wLt w _ hx412_0)).trans hx412_0
            replace hx412_1:=(HB.out.cell (wLt w _ hx412_1)).trans hx412_1
            replace hx412_2:=(HB.out.cell (wLt w _ hx412_2)).trans hx412_2
            replace hx412_3:=(HB.out.cell (wLt w _ hx412_3)).trans hx412_3
            replace hx412_4:=(HB.out.cell (wLt w _ hx412_4)).trans hx412_4
            replace hx412_5:=(HB.out.cell (wLt w _ hx412_5)).trans hx412_5
            replace hx412_6:=(HB.out.cell (wLt w _ hx412_6)).trans hx412_6
            replace p412:=eq_true p412
            replace q412:=eq_true q412
            have p413 : 0 ≤ (x5_1 : Int):=of_decide_eq_true (by first|(with_reducible assumption) | assumption)
            have q413 : x5_1 < (l0.length : Int):=of_decide_eq_true (by first|(with_reducible assumption) | assumption)
            obtain ⟨ad413,e413,hx413_0,hx413_1,hx413_2,hx413_3,hx413_4,hx413_5,hx413_6⟩:=at_T53 HR0.out x5_1 p413 q413
            obtain rfl : ad411 = ad413:=(by injection e413)
            replace hx413_0:=(HB.out.cell (wLt w _ hx413_0)).trans hx413_0
            replace hx413_1:=(HB.out.cell (wLt w _ hx413_1)).trans hx413_1
            replace hx413_2:=(HB.out.cell (wLt w _ hx413_2)).trans hx413_2
            replace hx413_3:=(HB.out.cell (wLt w _ hx413_3)).trans hx413_3
            replace hx413_4:=(HB.out.cell (wLt w _ hx413_4)).trans hx413_4
            replace hx413_5:=(HB.out.cell (wLt w _ hx413_5)).trans hx413_5
            replace hx413_6:=(HB.out.cell (wLt w _ hx413_6)).trans hx413_6
            replace p413:=eq_true p413
            replace q413:=eq_true q413
            have p414 : 0 ≤ (x5_1 : Int):=of_decide_eq_true (by first|(with_reducible assumption) | assumption)
            have q414 : x5_1 < (l0.length : Int):=of_decide_eq_true (by first|(with_reducible assumption) | assumption)
            obtain ⟨ad414,e414,hx414_0,hx414_1,hx414_2,hx414_3,hx414_4,hx414_5,hx414_6⟩:=at_T53 HR0.out x5_1 p414 q414
            obtain rfl : ad411 = ad414:=(by injection e414)
            replace hx414_0:=(HB.out.cell (wLt w _ hx414_0)).trans hx414_0
            replace hx414_1:=(HB.out.cell (wLt w _ hx414_1)).trans hx414_1
            replace hx414_2:=(HB.out.cell (wLt w _ hx414_2)).trans hx414_2
            replace hx414_3:=(HB.out.cell (wLt w _ hx414_3)).trans hx414_3
            replace hx414_4:=(HB.out.cell (wLt w _ hx414_4)).trans hx414_4
            replace hx414_5:=(HB.out.cell (wLt w _ hx414_5)).trans hx414_5
            replace hx414_6:=(HB.out.cell (wLt w _ hx414_6)).trans hx414_6
            replace p414:=eq_true p414
            replace q414:=eq_true q414
            have p415 : 0 ≤ (x5_1 : Int):=of_decide_eq_true (by first|(with_reducible assumption) | assumption)
            have q415 : x5_1 < (l0.length : Int):=of_decide_eq_true (by first|(with_reducible assumption) | assumption)
            obtain ⟨ad415,e415,hx415_0,hx415_1,hx415_2,hx415_3,hx415_4,hx415_5,hx415_6⟩:=at_T53 HR0.out x5_1 p415 q415
            obtain rfl : ad411 = ad415:=(by injection e415)
            replace hx415_0:=(HB.out.cell (wLt w _ hx415_0)).trans hx415_0
            replace hx415_1:=(HB.out.cell (wLt w _ hx415_1)).trans hx415_1
            replace hx415_2:=(HB.out.cell (wLt w _ hx415_2)).trans hx415_2
            replace hx415_3:=(HB.out.cell (wLt w _ hx415_3)).trans hx415_3
            replace hx415_4:=(HB.out.cell (wLt w _ hx415_4)).trans hx415_4
            replace hx415_5:=(HB.out.cell (wLt w _ hx415_5)).trans hx415_5
            replace hx415_6:=(HB.out.cell (wLt w _ hx415_6)).trans hx415_6
            replace p415:=eq_true p415
            replace q415:=eq_true q415
            have p416 : 0 ≤ (x5_1 : Int):=of_decide_eq_true (by first|(with_reducible assumption) | assumption)
            have q416 : x5_1 < (l0.length : Int):=of_decide_eq_true (by first|(with_reducible assumption) | assumption)
            obtain ⟨ad416,e416,hx416_0,hx416_1,hx416_2,hx416_3,hx416_4,hx416_5,hx416_6⟩:=at_T53 HR0.out x5_1 p416 q416
            obtain rfl : ad411 = ad416:=(by injection e416)
            replace hx416_0:=(HB.out.cell (wLt w _ hx416_0)).trans hx416_0
            replace hx416_1:=(HB.out.cell (wLt w _ hx416_1)).trans hx416_1
            replace hx416_2:=(HB.out.cell (wLt w _ hx416_2)).trans hx416_2
            replace hx416_3:=(HB.out.cell (wLt w _ hx416_3)).trans hx416_3
            replace hx416_4:=(HB.out.cell (wLt w _ hx416_4)).trans hx416_4
            replace hx416_5:=(HB.out.cell (wLt w _ hx416_5)).trans hx416_5
            replace hx416_6:=(HB.out.cell (wLt w _ hx416_6)).trans hx416_6
            replace p416:=eq_true p416
            replace q416:=eq_true q416
            try go_wp2
            have n0_:=aMk (bw1 HB.out)
            clear HB
            have HB:=n0_
            clear n0_
            have p417 : 0 ≤ (x5_1 : Int):=of_decide_eq_true (by first|(with_reducible assumption) | assumption)
            have q417 : x5_1 < (l0.length : Int):=of_decide_eq_true (by first|(with_reducible assumption) | assumption)
            obtain ⟨ad417,e417,hx417_0,hx417_1,hx417_2,hx417_3,hx417_4,hx417_5,hx417_6⟩:=at_T53 HR0.out x5_1 p417 q417
            have hw417_6:=hx417_6
            have hw417_5:=hx417_5
            have hw417_4:=hx417_4
            have hw417_3:=hx417_3
            have hw417_2:=hx417_2
            have hw417_1:=hx417_1
            have hw417_0:=hx417_0
            obtain rfl : ad411 = ad417:=(by injection e417)
            replace hx417_0:=(HB.out.cell (wLt w _ hx417_0)).trans hx417_0
            replace hx417_1:=(HB.out.cell (wLt w _ hx417_1)).trans hx417_1
            replace hx417_2:=(HB.out.cell (wLt w _ hx417_2)).trans hx417_2
            replace hx417_3:=(HB.out.cell (wLt w _ hx417_3)).trans hx417_3
            replace hx417_4:=(HB.out.cell (wLt w _ hx417_4)).trans hx417_4
            replace hx417_5:=(HB.out.cell (wLt w _ hx417_5)).trans hx417_5
            replace hx417_6:=(HB.out.cell (wLt w _ hx417_6)).trans hx417_6
            replace p417:=eq_true p417
            replace q417:=eq_true q417
            refine start_ (n:=8) (S:=fun w' => w'.cell? (ad411.add ((x5_1).toNat * 7)) = some (.int .i64 ((rd_T53 l0 x5_1).f0)) ∧ w'.cell? ⟨(ad411.add ((x5_1).toNat * 7)).block,(ad411.add ((x5_1).toNat * 7)).off + 1,none⟩ = some (.int .i64 ((rd_T53 l0 x5_1).f1)) ∧ w'.cell? ⟨(ad411.add ((x5_1).toNat * 7)).block,(ad411.add ((x5_1).toNat * 7)).off + 2,none⟩ = some (.int .i64 ((rd_T53 l0 x5_1).f2)) ∧ w'.cell? ⟨(ad411.add ((x5_1).toNat * 7)).block,(ad411.add ((x5_1).toNat * 7)).off + 3,none⟩ = some (.int .i64 ((rd_T53 l0 x5_1).f3)) ∧ w'.cell? ⟨(ad411.add ((x5_1).toNat * 7)).block,(ad411.add ((x5_1).toNat * 7)).off + 4,none⟩ = some (.int .i64 ((rd_T53 l0 x5_1).f4)) ∧ w'.cell? ⟨(ad411.add ((x5_1).toNat * 7)).block,(ad411.add ((x5_1).toNat * 7)).off + 5,none⟩ = some (.int .i64 ((rd_T53 l0 x5_1).f5)) ∧ w'.cell? ⟨(ad411.add ((x5_1).toNat * 7)).block,(ad411.add ((x5_1).toNat * 7)).off + 6,none⟩ = some (.string ((rd_T53 l0 x5_1).f6))) (ds:=[]) #[false,false,false,false,false,false,false,false] (by kernel_rfl) rfl rfl ⟨((HB.out.cell (wLt w _ hw417_0)).trans hw417_0),((HB.out.cell (wLt w _ hw417_1)).trans hw417_1),((HB.out.cell (wLt w _ hw417_2)).trans hw417_2),((HB.out.cell (wLt w _ hw417_3)).trans hw417_3),((HB.out.cell (wLt w _ hw417_4)).trans hw417_4),((HB.out.cell (wLt w _ hw417_5)).trans hw417_5),((HB.out.cell (wLt w _ hw417_6)).trans hw417_6)⟩ (fun hHeld => ?_);refine with_tabW laws_heldSegmentS.tab22 laws_heldSegmentS.bits22 (fun HT_ HW_ => ?_)
            generalize wr.drew = w15 at HB hx417_0 hx417_1 hx417_2 hx417_3 hx417_4 hx417_5 hx417_6 hHeld ⊢
            refine pure_ (i:=0) (N:=some 66) (v:=?_) (a':=?_) #[true,false,false,false,false,false,false,false] rfl rfl (any_of HT_.out (by kernel_rfl)) (fun _ _ _ h => h) (Or.inl ⟨by rfl,?_⟩) ?_ ?_
            rotate_left
            ·intro w'
             go_simp
             with_reducible rfl
            rotate_left
            ·simp only [Act.put,List.setIfInBounds_toArray,List.set_cons_zero,List.set_cons_succ,i64_w,i32_w]
             rfl
            refine pure_ (i:=1) (N:=some 67) (v:=?_) (a':=?_) #[true,true,false,false,false,false,false,false] rfl rfl (any_of HT_.out (by kernel_rfl)) (fun _ _ _ h => h) (Or.inl ⟨by rfl,?_⟩) ?_ ?_
            rotate_left
            ·intro w'
             go_simp
             with_reducible rfl
            rotate_left
            ·simp only [Act.put,List.setIfInBounds_toArray,List.set_cons_zero,List.set_cons_succ,i64_w,i32_w]
             rfl
            refine pure_ (i:=2) (N:=some 68) (v:=?_) (a':=?_) #[true,true,true,false,false,false,false,false] rfl rfl (any_of HT_.out (by kernel_rfl)) (fun _ _ _ h => h) (Or.inl ⟨by rfl,?_⟩) ?_ ?_
            rotate_left
            ·intro w'
             go_simp
             with_reducible rfl
            rotate_left
            ·simp only [Act.put,List.setIfInBounds_toArray,List.set_cons_zero,List.set_cons_succ,i64_w,i32_w]
             rfl
            refine pure_ (i:=3) (N:=some 69) (v:=?_) (a':=?_) #[true,true,true,true,false,false,false,false] rfl rfl (any_of HT_.out (by kernel_rfl)) (fun _ _ _ h => h) (Or.inl ⟨by rfl,?_⟩) ?_ ?_
            rotate_left
            ·intro w'
             go_simp
             with_reducible rfl
            rotate_left
            ·simp only [Act.put,List.setIfInBounds_toArray,List.set_cons_zero,List.set_cons_succ,i64_w,i32_w]
             rfl
            refine pure_ (i:=5) (N:=some 71) (v:=?_) (a':=?_) #[true,true,true,true,false,true,false,false] rfl rfl (any_of HT_.out (by kernel_rfl)) (fun _ _ _ h => h) (Or.inl ⟨by rfl,?_⟩) ?_ ?_
            rotate_left
            ·intro w'
             go_simp
             with_reducible rfl
            rotate_left
            ·simp only [Act.put,List.setIfInBounds_toArray,List.set_cons_zero,List.set_cons_succ,i64_w,i32_w]
             rfl
            refine take_ (i:=4) (N:=some 70) (v:=?_) (a':=?_) #[true,true,true,true,true,true,false,false] rfl rfl (take_ofW HT_.out HW_.out (by kernel_rfl)) (fun _ _ _ h => h) (Or.inl ⟨by rfl,?_⟩) hHeld ?_ ?_
            rotate_left
            ·rintro w' ⟨s0,s1,s2,s3,s4,s5,s6⟩
             go_simp
             with_reducible rfl
            rotate_left
            ·simp only [Act.put,List.setIfInBounds_toArray,List.set_cons_zero,List.set_cons_succ,i64_w,i32_w]
             rfl
            refine one_ (i:=6) (N:=some 72) #[true,true,true,true,true,true,true,false] rfl rfl (one_of HT_.out (by kernel_rfl)) (by decide) (fun K hK => ?_)
            refine goes_ Try.func89 (by kernel_rfl) rfl #[.int .i64 (wrap64 ((wrap64 ((wrap64 ((wrap64 ((wrap64 ((wrap64 (x1_1 + 1)) + 1)) + 1)) + 1)) + 1)) + 1))] (by rfl) rfl rfl (by (try simp only [List.map_toArray,List.map_cons,List.map_nil]);first | done | rfl|(simp only [List.length_drop,List.length_take];rfl)) ?_
            with_reducible refine (laws_markText.calls k1 (wrap64 ((wrap64 ((wrap64 ((wrap64 ((wrap64 ((wrap64 (x1_1 + 1)) + 1)) + 1)) + 1)) + 1)) + 1)) t418 _ A11.out).mono ?_
            rintro e w16 ⟨rfl,hb⟩
            refine ⟨_,rfl,?_⟩
            have n0_:=aMk (below_step (by repeat first|exact HB.out|apply bwA|apply bwN|apply bw1) hb)
            clear HB
            have HB:=n0_
            clear n0_
            (try clear hb)
            (try clear hb2)
            (try clear hk)
            (try clear hi)
            refine hK.out _ _ ⟨((HB.out.cell (wLt w _ hw417_0)).trans hw417_0),((HB.out.cell (wLt w _ hw417_1)).trans hw417_1),((HB.out.cell (wLt w _ hw417_2)).trans hw417_2),((HB.out.cell (wLt w _ hw417_3)).trans hw417_3),((HB.out.cell (wLt w _ hw417_4)).trans hw417_4),((HB.out.cell (wLt w _ hw417_5)).trans hw417_5),((HB.out.cell (wLt w _ hw417_6)).trans hw417_6)⟩ (fun hHeld => ?_)
            clear hK K
            refine norm_ (a':=?_) ?_ ?_
            rotate_left
            ·show Act.put _ (some 72) _ = _
             simp only [Act.put,List.setIfInBounds_toArray,List.set_cons_zero,List.set_cons_succ,i64_w,i32_w]
             rfl
            refine pure_ (i:=7) (N:=some 73) (v:=?_) (a':=?_) #[true,true,true,true,true,true,true,true] rfl rfl (any_of HT_.out (by kernel_rfl)) (fun _ _ _ h => h) (Or.inl ⟨by rfl,?_⟩) ?_ ?_
            rotate_left
            ·intro w'
             go_simp
             with_reducible rfl
            rotate_left
            ·simp only [Act.put,List.setIfInBounds_toArray,List.set_cons_zero,List.set_cons_succ,i64_w,i32_w]
             rfl
            refine done_ (done_of HT_.out (by kernel_rfl)) ?_
            try go_wp2
            go_ret
            exact ⟨by first | rfl|(simp [errW_none,errW_some] <;> rfl)|(simp [*,errW_none,errW_some] <;> rfl),by repeat (first|(with_reducible first|exact HB.out|apply bwA|apply bwN|apply bw1)|exact HB.out)⟩
          ·rw [if_neg c10] at H
           have c10b0 : (((rd_T53 l0 x5_1).f5) == (wrap64 ((wrap64 ((wrap64 ((wrap64 ((wrap64 (x1_1 + 1)) + 1)) + 1)) + 1)) + 1))) = false:=beq_eq_false_iff_ne.mpr c10
           have c10b1 : (((rd_T53 l0 x5_1).f5) != (wrap64 ((wrap64 ((wrap64 ((wrap64 ((wrap64 (x1_1 + 1)) + 1)) + 1)) + 1)) + 1))) = true:=bne_iff_ne.mpr c10
           obtain rfl:=Option.some.inj H
           have p411 : 0 ≤ (x5_1 : Int):=of_decide_eq_true (by first|(with_reducible assumption) | assumption)
           have q411 : x5_1 < (l0.length : Int):=of_decide_eq_true (by first|(with_reducible assumption) | assumption)
           obtain ⟨ad411,e411,hx411_0,hx411_1,hx411_2,hx411_3,hx411_4,hx411_5,hx411_6⟩:=at_T53 HR0.out x5_1 p411 q411
           cases e411
           replace hx411_0:=(HB.out.cell (wLt w _ hx411_0)).trans hx411_0
           replace hx411_1:=(HB.out.cell (wLt w _ hx411_1)).trans hx411_1
           replace hx411_2:=(HB.out.cell (wLt w _ hx411_2)).trans hx411_2
           replace hx411_3:=(HB.out.cell (wLt w _ hx411_3)).trans hx411_3
           replace hx411_4:=(HB.out.cell (wLt w _ hx411_4)).trans hx411_4
           replace hx411_5:=(HB.out.cell (wLt w _ hx411_5)).trans hx411_5
           replace hx411_6:=(HB.out.cell (wLt w _ hx411_6)).trans hx411_6
           replace p411:=eq_true p411
           replace q411:=eq_true q411
           have p412 : 0 ≤ (x5_1 : Int):=of_decide_eq_true (by first|(with_reducible assumption) | assumption)
           have q412 : x5_1 < (l0.length : Int):=of_decide_eq_true (by first|(with_reducible assumption) | assumption)
           obtain ⟨ad412,e412,hx412_0,hx412_1,hx412_2,hx412_3,hx412_4,hx412_5,hx412_6⟩:=at_T53 HR0.out x5_1 p412 q412
           obtain rfl : ad411 = ad412:=(by injection e412)
           replace hx412_0:=(HB.out.cell (wLt w _ hx412_0)).trans hx412_0
           replace hx412_1:=(HB.out.cell (wLt w _ hx412_1)).trans hx412_1
           replace hx412_2:=(HB.out.cell (wLt w _ hx412_2)).trans hx412_2
           replace hx412_3:=(HB.out.cell (wLt w _ hx412_3)).trans hx412_3
           replace hx412_4:=(HB.out.cell (wLt w _ hx412_4)).trans hx412_4
           replace hx412_5:=(HB.out.cell (wLt w _ hx412_5)).trans hx412_5
           replace hx412_6:=(HB.out.cell (wLt w _ hx412_6)).trans hx412_6
           replace p412:=eq_true p412
           replace q412:=eq_true q412
           have p413 : 0 ≤ (x5_1 : Int):=of_decide_eq_true (by first|(with_reducible assumption) | assumption)
           have q413 : x5_1 < (l0.length : Int):=of_decide_eq_true (by first|(with_reducible assumption) | assumption)
           obtain ⟨ad413,e413,hx413_0,hx413_1,hx413_2,hx413_3,hx413_4,hx413_5,hx413_6⟩:=at_T53 HR0.out x5_1 p413 q413
           obtain rfl : ad411 = ad413:=(by injection e413)
           replace hx413_0:=(HB.out.cell (wLt w _ hx413_0)).trans hx413_0
           replace hx413_1:=(HB.out.cell (wLt w _ hx413_1)).trans hx413_1
           replace hx413_2:=(HB.out.cell (wLt w _ hx413_2)).trans hx413_2
           replace hx413_3:=(HB.out.cell (wLt w _ hx413_3)).trans hx413_3
           replace hx413_4:=(HB.out.cell (wLt w _ hx413_4)).trans hx413_4
           replace hx413_5:=(HB.out.cell (wLt w _ hx413_5)).trans hx413_5
           replace hx413_6:=(HB.out.cell (wLt w _ hx413_6)).trans hx413_6
           replace p413:=eq_true p413
           replace q413:=eq_true q413
           have p414 : 0 ≤ (x5_1 : Int):=of_decide_eq_true (by first|(with_reducible assumption) | assumption)
           have q414 : x5_1 < (l0.length : Int):=of_decide_eq_true (by first|(with_reducible assumption) | assumption)
           obtain ⟨ad414,e414,hx414_0,hx414_1,hx414_2,hx414_3,hx414_4,hx414_5,hx414_6⟩:=at_T53 HR0.out x5_1 p414 q414
           obtain rfl : ad411 = ad414:=(by injection e414)
           replace hx414_0:=(HB.out.cell (wLt w _ hx414_0)).trans hx414_0
           replace hx414_1:=(HB.out.cell (wLt w _ hx414_1)).trans hx414_1
           replace hx414_2:=(HB.out.cell (wLt w _ hx414_2)).trans hx414_2
           replace hx414_3:=(HB.out.cell (wLt w _ hx414_3)).trans hx414_3
           replace hx414_4:=(HB.out.cell (wLt w _ hx414_4)).trans hx414_4
           replace hx414_5:=(HB.out.cell (wLt w _ hx414_5)).trans hx414_5
           replace hx414_6:=(HB.out.cell (wLt w _ hx414_6)).trans hx414_6
           replace p414:=eq_true p414
           replace q414:=eq_true q414
           have p415 : 0 ≤ (x5_1 : Int):=of_decide_eq_true (by first|(with_reducible assumption) | assumption)
           have q415 : x5_1 < (l0.length : Int):=of_decide_eq_true (by first|(with_reducible assumption) | assumption)
           obtain ⟨ad415,e415,hx415_0,hx415_1,hx415_2,hx415_3,hx415_4,hx415_5,hx415_6⟩:=at_T53 HR0.out x5_1 p415 q415
           obtain rfl : ad411 = ad415:=(by injection e415)
           replace hx415_0:=(HB.out.cell (wLt w _ hx415_0)).trans hx415_0
           replace hx415_1:=(HB.out.cell (wLt w _ hx415_1)).trans hx415_1
           replace hx415_2:=(HB.out.cell (wLt w _ hx415_2)).trans hx415_2
           replace hx415_3:=(HB.out.cell (wLt w _ hx415_3)).trans hx415_3
           replace hx415_4:=(HB.out.cell (wLt w _ hx415_4)).trans hx415_4
           replace hx415_5:=(HB.out.cell (wLt w _ hx415_5)).trans hx415_5
           replace hx415_6:=(HB.out.cell (wLt w _ hx415_6)).trans hx415_6
           replace p415:=eq_true p415
           replace q415:=eq_true q415
           have p416 : 0 ≤ (x5_1 : Int):=of_decide_eq_true (by first|(with_reducible assumption) | assumption)
           have q416 : x5_1 < (l0.length : Int):=of_decide_eq_true (by first|(with_reducible assumption) | assumption)
           obtain ⟨ad416,e416,hx416_0,hx416_1,hx416_2,hx416_3,hx416_4,hx416_5,hx416_6⟩:=at_T53 HR0.out x5_1 p416 q416
           obtain rfl : ad411 = ad416:=(by injection e416)
           replace hx416_0:=(HB.out.cell (wLt w _ hx416_0)).trans hx416_0
           replace hx416_1:=(HB.out.cell (wLt w _ hx416_1)).trans hx416_1
           replace hx416_2:=(HB.out.cell (wLt w _ hx416_2)).trans hx416_2
           replace hx416_3:=(HB.out.cell (wLt w _ hx416_3)).trans hx416_3
           replace hx416_4:=(HB.out.cell (wLt w _ hx416_4)).trans hx416_4
           replace hx416_5:=(HB.out.cell (wLt w _ hx416_5)).trans hx416_5
           replace hx416_6:=(HB.out.cell (wLt w _ hx416_6)).trans hx416_6
           replace p416:=eq_true p416
           replace q416:=eq_true q416
           go_wp2
           go_ret
           exact ⟨by first | rfl|(simp [errW_none,errW_some] <;> rfl)|(simp [*,errW_none,errW_some] <;> rfl),by repeat (first|(with_reducible first|exact HB.out|apply bwA|apply bwN|apply bw1)|exact HB.out)⟩
         ·rw [if_neg c9] at H
          have c9b0 : (((rd_T53 l0 x5_1).f4) == (wrap64 ((wrap64 ((wrap64 ((wrap64 (x1_1 + 1)) + 1)) + 1)) + 1))) = false:=beq_eq_false_iff_ne.mpr c9
          have c9b1 : (((rd_T53 l0 x5_1).f4) != (wrap64 ((wrap64 ((wrap64 ((wrap64 (x1_1 + 1)) + 1)) + 1)) + 1))) = true:=bne_iff_ne.mpr c9
          obtain rfl:=Option.some.inj H
          have p411 : 0 ≤ (x5_1 : Int):=of_decide_eq_true (by first|(with_reducible assumption) | assumption)
          have q411 : x5_1 < (l0.length : Int):=of_decide_eq_true (by first|(with_reducible assumption) | assumption)
          obtain ⟨ad411,e411,hx411_0,hx411_1,hx411_2,hx411_3,hx411_4,hx411_5,hx411_6⟩:=at_T53 HR0.out x5_1 p411 q411
          cases e411
          replace hx411_0:=(HB.out.cell (wLt w _ hx411_0)).trans hx411_0
          replace hx411_1:=(HB.out.cell (wLt w _ hx411_1)).trans hx411_1
          replace hx411_2:=(HB.out.cell (wLt w _ hx411_2)).trans hx411_2
          replace hx411_3:=(HB.out.cell (wLt w _ hx411_3)).trans hx411_3
          replace hx411_4:=(HB.out.cell (wLt w _ hx411_4)).trans hx411_4
          replace hx411_5:=(HB.out.cell (wLt w _ hx411_5)).trans hx411_5
          replace hx411_6:=(HB.out.cell (wLt w _ hx411_6)).trans hx411_6
          replace p411:=eq_true p411
          replace q411:=eq_true q411
          have p412 : 0 ≤ (x5_1 : Int):=of_decide_eq_true (by first|(with_reducible assumption) | assumption)
          have q412 : x5_1 < (l0.length : Int):=of_decide_eq_true (by first|(with_reducible assumption) | assumption)
          obtain ⟨ad412,e412,hx412_0,hx412_1,hx412_2,hx412_3,hx412_4,hx412_5,hx412_6⟩:=at_T53 HR0.out x5_1 p412 q412
          obtain rfl : ad411 = ad412:=(by injection e412)
          replace hx412_0:=(HB.out.cell (wLt w _ hx412_0)).trans hx412_0
          replace hx412_1:=(HB.out.cell (wLt w _ hx412_1)).trans hx412_1
          replace hx412_2:=(HB.out.cell (wLt w _ hx412_2)).trans hx412_2
          replace hx412_3:=(HB.out.cell (wLt w _ hx412_3)).trans hx412_3
          replace hx412_4:=(HB.out.cell (wLt w _ hx412_4)).trans hx412_4
          replace hx412_5:=(HB.out.cell (wLt w _ hx412_5)).trans hx412_5
          replace hx412_6:=(HB.out.cell (wLt w _ hx412_6)).trans hx412_6
          replace p412:=eq_true p412
          replace q412:=eq_true q412
          have p413 : 0 ≤ (x5_1 : Int):=of_decide_eq_true (by first|(with_reducible assumption) | assumption)
          have q413 : x5_1 < (l0.length : Int):=of_decide_eq_true (by first|(with_reducible assumption) | assumption)
          obtain ⟨ad413,e413,hx413_0,hx413_1,hx413_2,hx413_3,hx413_4,hx413_5,hx413_6⟩:=at_T53 HR0.out x5_1 p413 q413
          obtain rfl : ad411 = ad413:=(by injection e413)
          replace hx413_0:=(HB.out.cell (wLt w _ hx413_0)).trans hx413_0
          replace hx413_1:=(HB.out.cell (wLt w _ hx413_1)).trans hx413_1
          replace hx413_2:=(HB.out.cell (wLt w _ hx413_2)).trans hx413_2
          replace hx413_3:=(HB.out.cell (wLt w _ hx413_3)).trans hx413_3
          replace hx413_4:=(HB.out.cell (wLt w _ hx413_4)).trans hx413_4
          replace hx413_5:=(HB.out.cell (wLt w _ hx413_5)).trans hx413_5
          replace hx413_6:=(HB.out.cell (wLt w _ hx413_6)).trans hx413_6
          replace p413:=eq_true p413
          replace q413:=eq_true q413
          have p414 : 0 ≤ (x5_1 : Int):=of_decide_eq_true (by first|(with_reducible assumption) | assumption)
          have q414 : x5_1 < (l0.length : Int):=of_decide_eq_true (by first|(with_reducible assumption) | assumption)
          obtain ⟨ad414,e414,hx414_0,hx414_1,hx414_2,hx414_3,hx414_4,hx414_5,hx414_6⟩:=at_T53 HR0.out x5_1 p414 q414
          obtain rfl : ad411 = ad414:=(by injection e414)
          replace hx414_0:=(HB.out.cell (wLt w _ hx414_0)).trans hx414_0
          replace hx414_1:=(HB.out.cell (wLt w _ hx414_1)).trans hx414_1
          replace hx414_2:=(HB.out.cell (wLt w _ hx414_2)).trans hx414_2
          replace hx414_3:=(HB.out.cell (wLt w _ hx414_3)).trans hx414_3
          replace hx414_4:=(HB.out.cell (wLt w _ hx414_4)).trans hx414_4
          replace hx414_5:=(HB.out.cell (wLt w _ hx414_5)).trans hx414_5
          replace hx414_6:=(HB.out.cell (wLt w _ hx414_6)).trans hx414_6
          replace p414:=eq_true p414
          replace q414:=eq_true q414
          have p415 : 0 ≤ (x5_1 : Int):=of_decide_eq_true (by first|(with_reducible assumption) | assumption)
          have q415 : x5_1 < (l0.length : Int):=of_decide_eq_true (by first|(with_reducible assumption) | assumption)
          obtain ⟨ad415,e415,hx415_0,hx415_1,hx415_2,hx415_3,hx415_4,hx415_5,hx415_6⟩:=at_T53 HR0.out x5_1 p415 q415
          obtain rfl : ad411 = ad415:=(by injection e415)
          replace hx415_0:=(HB.out.cell (wLt w _ hx415_0)).trans hx415_0
          replace hx415_1:=(HB.out.cell (wLt w _ hx415_1)).trans hx415_1
          replace hx415_2:=(HB.out.cell (wLt w _ hx415_2)).trans hx415_2
          replace hx415_3:=(HB.out.cell (wLt w _ hx415_3)).trans hx415_3
          replace hx415_4:=(HB.out.cell (wLt w _ hx415_4)).trans hx415_4
          replace hx415_5:=(HB.out.cell (wLt w _ hx415_5)).trans hx415_5
          replace hx415_6:=(HB.out.cell (wLt w _ hx415_6)).trans hx415_6
          replace p415:=eq_true p415
          replace q415:=eq_true q415
          go_wp2
          go_ret
          exact ⟨by first | rfl|(simp [errW_none,errW_some] <;> rfl)|(simp [*,errW_none,errW_some] <;> rfl),by repeat (first|(with_reducible first|exact HB.out|apply bwA|apply bwN|apply bw1)|exact HB.out)⟩
        ·rw [if_neg c8] at H
         have c8b0 : (((rd_T53 l0 x5_1).f3) == (wrap64 ((wrap64 ((wrap64 (x1_1 + 1)) + 1)) + 1))) = false:=beq_eq_false_iff_ne.mpr c8
         have c8b1 : (((rd_T53 l0 x5_1).f3) != (wrap64 ((wrap64 ((wrap64 (x1_1 + 1)) + 1)) + 1))) = true:=bne_iff_ne.mpr c8
         obtain rfl:=Option.some.inj H
         have p411 : 0 ≤ (x5_1 : Int):=of_decide_eq_true (by first|(with_reducible assumption) | assumption)
         have q411 : x5_1 < (l0.length : Int):=of_decide_eq_true (by first|(with_reducible assumption) | assumption)
         obtain ⟨ad411,e411,hx411_0,hx411_1,hx411_2,hx411_3,hx411_4,hx411_5,hx411_6⟩:=at_T53 HR0.out x5_1 p411 q411
         cases e411
         replace hx411_0:=(HB.out.cell (wLt w _ hx411_0)).trans hx411_0
         replace hx411_1:=(HB.out.cell (wLt w _ hx411_1)).trans hx411_1
         replace hx411_2:=(HB.out.cell (wLt w _ hx411_2)).trans hx411_2
         replace hx411_3:=(HB.out.cell (wLt w _ hx411_3)).trans hx411_3
         replace hx411_4:=(HB.out.cell (wLt w _ hx411_4)).trans hx411_4
         replace hx411_5:=(HB.out.cell (wLt w _ hx411_5)).trans hx411_5
         replace hx411_6:=(HB.out.cell (wLt w _ hx411_6)).trans hx411_6
         replace p411:=eq_true p411
         replace q411:=eq_true q411
         have p412 : 0 ≤ (x5_1 : Int):=of_decide_eq_true (by first|(with_reducible assumption) | assumption)
         have q412 : x5_1 < (l0.length : Int):=of_decide_eq_true (by first|(with_reducible assumption) | assumption)
         obtain ⟨ad412,e412,hx412_0,hx412_1,hx412_2,hx412_3,hx412_4,hx412_5,hx412_6⟩:=at_T53 HR0.out x5_1 p412 q412
         obtain rfl : ad411 = ad412:=(by injection e412)
         replace hx412_0:=(HB.out.cell (wLt w _ hx412_0)).trans hx412_0
         replace hx412_1:=(HB.out.cell (wLt w _ hx412_1)).trans hx412_1
         replace hx412_2:=(HB.out.cell (wLt w _ hx412_2)).trans hx412_2
         replace hx412_3:=(HB.out.cell (wLt w _ hx412_3)).trans hx412_3
         replace hx412_4:=(HB.out.cell (wLt w _ hx412_4)).trans hx412_4
         replace hx412_5:=(HB.out.cell (wLt w _ hx412_5)).trans hx412_5
         replace hx412_6:=(HB.out.cell (wLt w _ hx412_6)).trans hx412_6
         replace p412:=eq_true p412
         replace q412:=eq_true q412
         have p413 : 0 ≤ (x5_1 : Int):=of_decide_eq_true (by first|(with_reducible assumption) | assumption)
         have q413 : x5_1 < (l0.length : Int):=of_decide_eq_true (by first|(with_reducible assumption) | assumption)
         obtain ⟨ad413,e413,hx413_0,hx413_1,hx413_2,hx413_3,hx413_4,hx413_5,hx413_6⟩:=at_T53 HR0.out x5_1 p413 q413
         obtain rfl : ad411 = ad413:=(by injection e413)
         replace hx413_0:=(HB.out.cell (wLt w _ hx413_0)).trans hx413_0
         replace hx413_1:=(HB.out.cell (wLt w _ hx413_1)).trans hx413_1
         replace hx413_2:=(HB.out.cell (wLt w _ hx413_2)).trans hx413_2
         replace hx413_3:=(HB.out.cell (wLt w _ hx413_3)).trans hx413_3
         replace hx413_4:=(HB.out.cell (wLt w _ hx413_4)).trans hx413_4
         replace hx413_5:=(HB.out.cell (wLt w _ hx413_5)).trans hx413_5
         replace hx413_6:=(HB.out.cell (wLt w _ hx413_6)).trans hx413_6
         replace p413:=eq_true p413
         replace q413:=eq_true q413
         have p414 : 0 ≤ (x5_1 : Int):=of_decide_eq_true (by first|(with_reducible assumption) | assumption)
         have q414 : x5_1 < (l0.length : Int):=of_decide_eq_true (by first|(with_reducible assumption) | assumption)
         obtain ⟨ad414,e414,hx414_0,hx414_1,hx414_2,hx414_3,hx414_4,hx414_5,hx414_6⟩:=at_T53 HR0.out x5_1 p414 q414
         obtain rfl : ad411 = ad414:=(by injection e414)
         replace hx414_0:=(HB.out.cell (wLt w _ hx414_0)).trans hx414_0
         replace hx414_1:=(HB.out.cell (wLt w _ hx414_1)).trans hx414_1
         replace hx414_2:=(HB.out.cell (wLt w _ hx414_2)).trans hx414_2
         replace hx414_3:=(HB.out.cell (wLt w _ hx414_3)).trans hx414_3
         replace hx414_4:=(HB.out.cell (wLt w _ hx414_4)).trans hx414_4
         replace hx414_5:=(HB.out.cell (wLt w _ hx414_5)).trans hx414_5
         replace hx414_6:=(HB.out.cell (wLt w _ hx414_6)).trans hx414_6
         replace p414:=eq_true p414
         replace q414:=eq_true q414
         go_wp2
         go_ret
         exact ⟨by first | rfl|(simp [errW_none,errW_some] <;> rfl)|(simp [*,errW_none,errW_some] <;> rfl),by repeat (first|(with_reducible first|exact HB.out|apply bwA|apply bwN|apply bw1)|exact HB.out)⟩
       ·rw [if_neg c7] at H
        have c7b0 : (((rd_T53 l0 x5_1).f2) == (wrap64 ((wrap64 (x1_1 + 1)) + 1))) = false:=beq_eq_false_iff_ne.mpr c7
        have c7b1 : (((rd_T53 l0 x5_1).f2) != (wrap64 ((wrap64 (x1_1 + 1)) + 1))) = true:=bne_iff_ne.mpr c7
        obtain rfl:=Option.some.inj H
        have p411 : 0 ≤ (x5_1 : Int):=of_decide_eq_true (by first|(with_reducible assumption) | assumption)
        have q411 : x5_1 < (l0.length : Int):=of_decide_eq_true (by first|(with_reducible assumption) | assumption)
        obtain ⟨ad411,e411,hx411_0,hx411_1,hx411_2,hx411_3,hx411_4,hx411_5,hx411_6⟩:=at_T53 HR0.out x5_1 p411 q411
        cases e411
        replace hx411_0:=(HB.out.cell (wLt w _ hx411_0)).trans hx411_0
        replace hx411_1:=(HB.out.cell (wLt w _ hx411_1)).trans hx411_1
        replace hx411_2:=(HB.out.cell (wLt w _ hx411_2)).trans hx411_2
        replace hx411_3:=(HB.out.cell (wLt w _ hx411_3)).trans hx411_3
        replace hx411_4:=(HB.out.cell (wLt w _ hx411_4)).trans hx411_4
        replace hx411_5:=(HB.out.cell (wLt w _ hx411_5)).trans hx411_5
        replace hx411_6:=(HB.out.cell (wLt w _ hx411_6)).trans hx411_6
        replace p411:=eq_true p411
        replace q411:=eq_true q411
        have p412 : 0 ≤ (x5_1 : Int):=of_decide_eq_true (by first|(with_reducible assumption) | assumption)
        have q412 : x5_1 < (l0.length : Int):=of_decide_eq_true (by first|(with_reducible assumption) | assumption)
        obtain ⟨ad412,e412,hx412_0,hx412_1,hx412_2,hx412_3,hx412_4,hx412_5,hx412_6⟩:=at_T53 HR0.out x5_1 p412 q412
        obtain rfl : ad411 = ad412:=(by injection e412)
        replace hx412_0:=(HB.out.cell (wLt w _ hx412_0)).trans hx412_0
        replace hx412_1:=(HB.out.cell (wLt w _ hx412_1)).trans hx412_1
        replace hx412_2:=(HB.out.cell (wLt w _ hx412_2)).trans hx412_2
        replace hx412_3:=(HB.out.cell (wLt w _ hx412_3)).trans hx412_3
        replace hx412_4:=(HB.out.cell (wLt w _ hx412_4)).trans hx412_4
        replace hx412_5:=(HB.out.cell (wLt w _ hx412_5)).trans hx412_5
        replace hx412_6:=(HB.out.cell (wLt w _ hx412_6)).trans hx412_6
        replace p412:=eq_true p412
        replace q412:=eq_true q412
        have p413 : 0 ≤ (x5_1 : Int):=of_decide_eq_true (by first|(with_reducible assumption) | assumption)
        have q413 : x5_1 < (l0.length : Int):=of_decide_eq_true (by first|(with_reducible assumption) | assumption)
        obtain ⟨ad413,e413,hx413_0,hx413_1,hx413_2,hx413_3,hx413_4,hx413_5,hx413_6⟩:=at_T53 HR0.out x5_1 p413 q413
        obtain rfl : ad411 = ad413:=(by injection e413)
        replace hx413_0:=(HB.out.cell (wLt w _ hx413_0)).trans hx413_0
        replace hx413_1:=(HB.out.cell (wLt w _ hx413_1)).trans hx413_1
        replace hx413_2:=(HB.out.cell (wLt w _ hx413_2)).trans hx413_2
        replace hx413_3:=(HB.out.cell (wLt w _ hx413_3)).trans hx413_3
        replace hx413_4:=(HB.out.cell (wLt w _ hx413_4)).trans hx413_4
        replace hx413_5:=(HB.out.cell (wLt w _ hx413_5)).trans hx413_5
        replace hx413_6:=(HB.out.cell (wLt w _ hx413_6)).trans hx413_6
        replace p413:=eq_true p413
        replace q413:=eq_true q413
        go_wp2
        go_ret
        exact ⟨by first | rfl|(simp [errW_none,errW_some] <;> rfl)|(simp [*,errW_none,errW_some] <;> rfl),by repeat (first|(with_reducible first|exact HB.out|apply bwA|apply bwN|apply bw1)|exact HB.out)⟩
      ·rw [if_neg c6] at H
       have c6b0 : (((rd_T53 l0 x5_1).f1) == (wrap64 (x1_1 + 1))) = false:=beq_eq_false_iff_ne.mpr c6
       have c6b1 : (((rd_T53 l0 x5_1).f1) != (wrap64 (x1_1 + 1))) = true:=bne_iff_ne.mpr c6
       obtain rfl:=Option.some.inj H
       have p411 : 0 ≤ (x5_1 : Int):=of_decide_eq_true (by first|(with_reducible assumption) | assumption)
       have q411 : x5_1 < (l0.length : Int):=of_decide_eq_true (by first|(with_reducible assumption) | assumption)
       obtain ⟨ad411,e411,hx411_0,hx411_1,hx411_2,hx411_3,hx411_4,hx411_5,hx411_6⟩:=at_T53 HR0.out x5_1 p411 q411
       cases e411
       replace hx411_0:=(HB.out.cell (wLt w _ hx411_0)).trans hx411_0
       replace hx411_1:=(HB.out.cell (wLt w _ hx411_1)).trans hx411_1
       replace hx411_2:=(HB.out.cell (wLt w _ hx411_2)).trans hx411_2
       replace hx411_3:=(HB.out.cell (wLt w _ hx411_3)).trans hx411_3
       replace hx411_4:=(HB.out.cell (wLt w _ hx411_4)).trans hx411_4
       replace hx411_5:=(HB.out.cell (wLt w _ hx411_5)).trans hx411_5
       replace hx411_6:=(HB.out.cell (wLt w _ hx411_6)).trans hx411_6
       replace p411:=eq_true p411
       replace q411:=eq_true q411
       have p412 : 0 ≤ (x5_1 : Int):=of_decide_eq_true (by first|(with_reducible assumption) | assumption)
       have q412 : x5_1 < (l0.length : Int):=of_decide_eq_true (by first|(with_reducible assumption) | assumption)
       obtain ⟨ad412,e412,hx412_0,hx412_1,hx412_2,hx412_3,hx412_4,hx412_5,hx412_6⟩:=at_T53 HR0.out x5_1 p412 q412
       obtain rfl : ad411 = ad412:=(by injection e412)
       replace hx412_0:=(HB.out.cell (wLt w _ hx412_0)).trans hx412_0
       replace hx412_1:=(HB.out.cell (wLt w _ hx412_1)).trans hx412_1
       replace hx412_2:=(HB.out.cell (wLt w _ hx412_2)).trans hx412_2
       replace hx412_3:=(HB.out.cell (wLt w _ hx412_3)).trans hx412_3
       replace hx412_4:=(HB.out.cell (wLt w _ hx412_4)).trans hx412_4
       replace hx412_5:=(HB.out.cell (wLt w _ hx412_5)).trans hx412_5
       replace hx412_6:=(HB.out.cell (wLt w _ hx412_6)).trans hx412_6
       replace p412:=eq_true p412
       replace q412:=eq_true q412
       go_wp2
       go_ret
       exact ⟨by first | rfl|(simp [errW_none,errW_some] <;> rfl)|(simp [*,errW_none,errW_some] <;> rfl),by repeat (first|(with_reducible first|exact HB.out|apply bwA|apply bwN|apply bw1)|exact HB.out)⟩
     ·rw [if_neg c5] at H
      have c5b0 : (((rd_T53 l0 x5_1).f0) == x1_1) = false:=beq_eq_false_iff_ne.mpr c5
      have c5b1 : (((rd_T53 l0 x5_1).f0) != x1_1) = true:=bne_iff_ne.mpr c5
      obtain rfl:=Option.some.inj H
      have p411 : 0 ≤ (x5_1 : Int):=of_decide_eq_true (by first|(with_reducible assumption) | assumption)
      have q411 : x5_1 < (l0.length : Int):=of_decide_eq_true (by first|(with_reducible assumption) | assumption)
      obtain ⟨ad411,e411,hx411_0,hx411_1,hx411_2,hx411_3,hx411_4,hx411_5,hx411_6⟩:=at_T53 HR0.out x5_1 p411 q411
      cases e411
      replace hx411_0:=(HB.out.cell (wLt w _ hx411_0)).trans hx411_0
      replace hx411_1:=(HB.out.cell (wLt w _ hx411_1)).trans hx411_1
      replace hx411_2:=(HB.out.cell (wLt w _ hx411_2)).trans hx411_2
      replace hx411_3:=(HB.out.cell (wLt w _ hx411_3)).trans hx411_3
      replace hx411_4:=(HB.out.cell (wLt w _ hx411_4)).trans hx411_4
      replace hx411_5:=(HB.out.cell (wLt w _ hx411_5)).trans hx411_5
      replace hx411_6:=(HB.out.cell (wLt w _ hx411_6)).trans hx411_6
      replace p411:=eq_true p411
      replace q411:=eq_true q411
      go_wp2
      go_ret
      exact ⟨by first | rfl|(simp [errW_none,errW_some] <;> rfl)|(simp [*,errW_none,errW_some] <;> rfl),by repeat (first|(with_reducible first|exact HB.out|apply bwA|apply bwN|apply bw1)|exact HB.out)⟩
    ·rw [if_neg c4] at H
     exact absurd H (by simp)
   ·rw [if_neg c3] at H
    have c3b0 : decide (x5_1 < (l0.length : Int)) = false:=decide_eq_false c3
    clear c3
    obtain rfl:=Option.some.inj H
    go_wp2
    go_ret
    exact ⟨by first | rfl|(simp [errW_none,errW_some] <;> rfl)|(simp [*,errW_none,errW_some] <;> rfl),by repeat (first|(with_reducible first|exact HB.out|apply bwA|apply bwN|apply bw1)|exact HB.out)⟩
end
section
/-! ### spec_l01In: function 64 -/
def spec_l01In.f (a0 : Int) (a1 : Int) (a2 : Int) : Option (Bool):=if a1 ≤ a0 then (some (decide (a0 ≤ a2))) else (some false)
set_option maxHeartbeats 8000000 in
set_option maxRecDepth 100000 in
theorem spec_l01In.calls (a0 : Int) (a1 : Int) (a2 : Int) (r : Bool) (w : World) (h : spec_l01In.f a0 a1 a2 = some r) :
  Calls Try.prog 64 #[.int .i64 a0,.int .i64 a1,.int .i64 a2] w fun e w' => e = .returned (.bool r) ∧ Drawn0 w w':=by
 have H : (if a1 ≤ a0 then (some (decide (a0 ≤ a2))) else (some false)) = some r:=h
 clear h
 by_cases c4 : a1 ≤ a0
 ·rw [if_pos c4] at H
  have c4b0 : decide (a1 ≤ a0) = true:=decide_eq_true c4
  clear c4
  obtain rfl:=Option.some.inj H
  go_enter Try.func64,Try.ntmps64
  go_wp2
  go_ret
  exact ⟨by first | rfl|(simp;done)|(simp [*];done)|(simp [ne_nil_b];done)|(simp [ne_nil_b, *];done),by repeat (first|exact Drawn0.refl _|apply Drawn0.step)⟩
 ·rw [if_neg c4] at H
  have c4b0 : decide (a1 ≤ a0) = false:=decide_eq_false c4
  clear c4
  obtain rfl:=Option.some.inj H
  go_enter Try.func64,Try.ntmps64
  go_wp2
  go_ret
  exact ⟨by first | rfl|(simp;done)|(simp [*];done)|(simp [ne_nil_b];done)|(simp [ne_nil_b, *];done),by repeat (first|exact Drawn0.refl _|apply Drawn0.step)⟩
end
section
/-! ### spec_l01Ip: function 59 -/
def spec_l01Ip.f (a0 : Int) : Option (Bool):=(spec_l01In.f a0 0 4294967295).bind fun t101 => (some t101)
set_option maxHeartbeats 8000000 in
set_option maxRecDepth 100000 in
theorem spec_l01Ip.calls (a0 : Int) (r : Bool) (w : World) (h : spec_l01Ip.f a0 = some r) :
  Calls Try.prog 59 #[.int .i64 a0] w fun e w' => e = .returned (.bool r) ∧ Drawn0 w w':=by
 have H : ((spec_l01In.f a0 0 4294967295).bind fun t101 => (some t101)) = some r:=h
 clear h
 replace H:=Option.bind_eq_some_iff.mp H
 obtain ⟨t101,A20,H⟩:=H
 replace H : (some t101) = some r:=H
 have A2:=aMk A20
 clear A20
 obtain rfl:=Option.some.inj H
 go_enter Try.func59,Try.ntmps59
 go_wp2_with (first|((with_reducible refine gate_callee (f:=64) rfl ?_);refine goesL_ (some 4) rfl rfl Try.func64 (by kernel_rfl) rfl #[.int .i64 a0,.int .i64 0,.int .i64 4294967295] rfl (by (try simp only [List.map_toArray,List.map_cons,List.map_nil]);first | done | rfl|(simp only [List.length_drop,List.length_take];rfl)) ?_;(with_reducible refine (spec_l01In.calls a0 0 4294967295 t101 _ A2.out).mono ?_);rintro e w' ⟨rfl,⟨nd,rfl⟩⟩;refine ⟨_,rfl,?_⟩))
 go_ret
 exact ⟨by first | rfl|(simp;done)|(simp [*];done)|(simp [ne_nil_b];done)|(simp [ne_nil_b, *];done),by repeat (first|exact Drawn0.refl _|apply Drawn0.step)⟩
end
section
/-! ### spec_l01Mac: function 68 -/
def spec_l01Mac.f (a0 : ByteArray) : Option (Bool):=some ((a0.size : Int) == 6)
set_option maxHeartbeats 8000000 in
set_option maxRecDepth 100000 in
theorem spec_l01Mac.calls (a0 : ByteArray) (r : Bool) (w : World) (h : spec_l01Mac.f a0 = some r) :
  Calls Try.prog 68 #[.string a0] w fun e w' => e = .returned (.bool r) ∧ Drawn0 w w':=by
 have H : (some ((a0.size : Int) == 6)) = some r:=h
 clear h
 obtain rfl:=Option.some.inj H
 go_enter Try.func68,Try.ntmps68
 go_wp2
 go_ret
 exact ⟨by first | rfl|(simp;done)|(simp [*];done)|(simp [ne_nil_b];done)|(simp [ne_nil_b, *];done),by repeat (first|exact Drawn0.refl _|apply Drawn0.step)⟩
end
section
/-! ### spec_l02Port: function 105 -/
def spec_l02Port.f (a0 : Int) : Option (Bool):=(spec_l01In.f a0 0 65535).bind fun t146 => (some t146)
set_option maxHeartbeats 8000000 in
set_option maxRecDepth 100000 in
theorem spec_l02Port.calls (a0 : Int) (r : Bool) (w : World) (h : spec_l02Port.f a0 = some r) :
  Calls Try.prog 105 #[.int .i64 a0] w fun e w' => e = .returned (.bool r) ∧ Drawn0 w w':=by
 have H : ((spec_l01In.f a0 0 65535).bind fun t146 => (some t146)) = some r:=h
 clear h
 replace H:=Option.bind_eq_some_iff.mp H
 obtain ⟨t146,A20,H⟩:=H
 replace H : (some t146) = some r:=H
 have A2:=aMk A20
 clear A20
 obtain rfl:=Option.some.inj H
 go_enter Try.func105,Try.ntmps105
 go_wp2_with (first|((with_reducible refine gate_callee (f:=64) rfl ?_);refine goesL_ (some 4) rfl rfl Try.func64 (by kernel_rfl) rfl #[.int .i64 a0,.int .i64 0,.int .i64 65535] rfl (by (try simp only [List.map_toArray,List.map_cons,List.map_nil]);first | done | rfl|(simp only [List.length_drop,List.length_take];rfl)) ?_;(with_reducible refine (spec_l01In.calls a0 0 65535 t146 _ A2.out).mono ?_);rintro e w' ⟨rfl,⟨nd,rfl⟩⟩;refine ⟨_,rfl,?_⟩))
 go_ret
 exact ⟨by first | rfl|(simp;done)|(simp [*];done)|(simp [ne_nil_b];done)|(simp [ne_nil_b, *];done),by repeat (first|exact Drawn0.refl _|apply Drawn0.step)⟩
end
section
/-! ### spec_l07Ask: function 69 -/
def spec_l07Ask.f (a0 : Int) (a1 : Int) : Option (Bool):=(spec_l01Ip.f a0).bind fun t147 => (if t147 = true then ((spec_l02Port.f a1).bind fun t148 => (some t148)) else (some false))
set_option maxHeartbeats 8000000 in
set_option maxRecDepth 100000 in
theorem spec_l07Ask.calls (a0 : Int) (a1 : Int) (r : Bool) (w : World) (h : spec_l07Ask.f a0 a1 = some r) :
  Calls Try.prog 69 #[.int .i64 a0,.int .i64 a1] w fun e w' => e = .returned (.bool r) ∧ Drawn0 w w':=by
 have H : ((spec_l01Ip.f a0).bind fun t147 => (if t147 = true then ((spec_l02Port.f a1).bind fun t148 => (some t148)) else (some false))) = some r:=h
 clear h
 replace H:=Option.bind_eq_some_iff.mp H
 obtain ⟨t147,A30,H⟩:=H
 replace H : (if t147 = true then ((spec_l02Port.f a1).bind fun t148 => (some t148)) else (some false)) = some r:=H
 have A3:=aMk A30
 clear A30
 by_cases c4 : t147 = true
 ·subst c4
  have H1 : ((spec_l02Port.f a1).bind fun t148 => (some t148)) = some r:=by rw [if_pos rfl] at H;exact H
  clear H
  have H:=H1
  clear H1
  replace H:=Option.bind_eq_some_iff.mp H
  obtain ⟨t148,A50,H⟩:=H
  replace H : (some t148) = some r:=H
  have A5:=aMk A50
  clear A50
  obtain rfl:=Option.some.inj H
  go_enter Try.func69,Try.ntmps69
  go_wp2_with (first|((with_reducible refine gate_callee (f:=59) rfl ?_);refine goesL_ (some 6) rfl rfl Try.func59 (by kernel_rfl) rfl #[.int .i64 a0] rfl (by (try simp only [List.map_toArray,List.map_cons,List.map_nil]);first | done | rfl|(simp only [List.length_drop,List.length_take];rfl)) ?_;(with_reducible refine (spec_l01Ip.calls a0 true _ A3.out).mono ?_);rintro e w' ⟨rfl,⟨nd,rfl⟩⟩;refine ⟨_,rfl,?_⟩)|(go_at_call 105;(with_reducible refine (spec_l02Port.calls a1 t148 _ A5.out).mono ?_);rintro e w' ⟨rfl,⟨nd,rfl⟩⟩))
  go_ret
  exact ⟨by first | rfl|(simp;done)|(simp [*];done)|(simp [ne_nil_b];done)|(simp [ne_nil_b, *];done),by repeat (first|exact Drawn0.refl _|apply Drawn0.step)⟩
 ·replace c4:=Bool.eq_false_iff.mpr c4
  subst c4
  have H1 : (some false) = some r:=by rw [if_neg (show ¬ (false = true) by decide)] at H;exact H
  clear H
  have H:=H1
  clear H1
  obtain rfl:=Option.some.inj H
  go_enter Try.func69,Try.ntmps69
  go_wp2_with (first|((with_reducible refine gate_callee (f:=59) rfl ?_);refine goesL_ (some 6) rfl rfl Try.func59 (by kernel_rfl) rfl #[.int .i64 a0] rfl (by (try simp only [List.map_toArray,List.map_cons,List.map_nil]);first | done | rfl|(simp only [List.length_drop,List.length_take];rfl)) ?_;(with_reducible refine (spec_l01Ip.calls a0 false _ A3.out).mono ?_);rintro e w' ⟨rfl,⟨nd,rfl⟩⟩;refine ⟨_,rfl,?_⟩))
  go_ret
  exact ⟨by first | rfl|(simp;done)|(simp [*];done)|(simp [ne_nil_b];done)|(simp [ne_nil_b, *];done),by repeat (first|exact Drawn0.refl _|apply Drawn0.step)⟩
end
section
/-! ### spec_l10Seq: function 70 -/
def spec_l10Seq.f (a0 : Int) : Option (Int):=some (Go.bits .and .i64 a0 4294967295)
set_option maxHeartbeats 8000000 in
set_option maxRecDepth 100000 in
theorem spec_l10Seq.calls (a0 : Int) (r : Int) (w : World) (h : spec_l10Seq.f a0 = some r) :
  Calls Try.prog 70 #[.int .i64 a0] w fun e w' => e = .returned (.int .i64 r) ∧ Drawn0 w w':=by
 have H : (some (Go.bits .and .i64 a0 4294967295)) = some r:=h
 clear h
 obtain rfl:=Option.some.inj H
 go_enter Try.func70,Try.ntmps70
 go_wp2
 go_ret
 exact ⟨by first | rfl|(simp;done)|(simp [*];done)|(simp [ne_nil_b];done)|(simp [ne_nil_b, *];done),by repeat (first|exact Drawn0.refl _|apply Drawn0.step)⟩
end
section
/-! ### spec_l01Bit: function 106 -/
def spec_l01Bit.f (a0 : Bool) : Option (Int):=if a0 = true then (some 1) else (some 0)
set_option maxHeartbeats 8000000 in
set_option maxRecDepth 100000 in
theorem spec_l01Bit.calls (a0 : Bool) (r : Int) (w : World) (h : spec_l01Bit.f a0 = some r) :
  Calls Try.prog 106 #[.bool a0] w fun e w' => e = .returned (.int .i64 r) ∧ Drawn0 w w':=by
 have H : (if a0 = true then (some 1) else (some 0)) = some r:=h
 clear h
 by_cases c2 : a0 = true
 ·subst c2
  have H1 : (some 1) = some r:=by rw [if_pos rfl] at H;exact H
  clear H
  have H:=H1
  clear H1
  obtain rfl:=Option.some.inj H
  go_enter Try.func106,Try.ntmps106
  go_wp2
  go_ret
  exact ⟨by first | rfl|(simp;done)|(simp [*];done)|(simp [ne_nil_b];done)|(simp [ne_nil_b, *];done),by repeat (first|exact Drawn0.refl _|apply Drawn0.step)⟩
 ·replace c2:=Bool.eq_false_iff.mpr c2
  subst c2
  have H1 : (some 0) = some r:=by rw [if_neg (show ¬ (false = true) by decide)] at H;exact H
  clear H
  have H:=H1
  clear H1
  obtain rfl:=Option.some.inj H
  go_enter Try.func106,Try.ntmps106
  go_wp2
  go_ret
  exact ⟨by first | rfl|(simp;done)|(simp [*];done)|(simp [ne_nil_b];done)|(simp [ne_nil_b, *];done),by repeat (first|exact Drawn0.refl _|apply Drawn0.step)⟩
end
section
/-! ### spec_l10Sent: function 71 -/
def spec_l10Sent.f (a0_0 : ByteArray) (a0_1 : Int) (a0_2 : Int) (a0_3 : Int) (a0_4 : Int) (a0_5 : Int) (a0_6 : Int) (a0_7 : Int) (a0_8 : ByteArray) (a0_9 : ByteArray) (a0_10 : Bool) : Option (Int):=(spec_l01Bit.f a0_10).bind fun t150 => ((spec_l01Bit.f (a0_4 == 1)).bind fun t151 => (some (wrap64 ((wrap64 ((a0_9.size : Int) + t150)) + t151))))
set_option maxHeartbeats 8000000 in
set_option maxRecDepth 100000 in
theorem spec_l10Sent.calls (a0_0 : ByteArray) (a0_1 : Int) (a0_2 : Int) (a0_3 : Int) (a0_4 : Int) (a0_5 : Int) (a0_6 : Int) (a0_7 : Int) (a0_8 : ByteArray) (a0_9 : ByteArray) (a0_10 : Bool) (r : Int) (w : World) (h : spec_l10Sent.f a0_0 a0_1 a0_2 a0_3 a0_4 a0_5 a0_6 a0_7 a0_8 a0_9 a0_10 = some r) :
  Calls Try.prog 71 #[.agg #[.string a0_0,.int .i64 a0_1,.int .i64 a0_2,.int .i64 a0_3,.int .i64 a0_4,.int .i64 a0_5,.int .i64 a0_6,.int .i64 a0_7,.string a0_8,.string a0_9,.bool a0_10]] w fun e w' => e = .returned (.int .i64 r) ∧ Below w.heap.size w w':=by
 have hu34:=Try.underlying34
 have HB:=aMk (Below.refl w.heap.size w)
 have H : ((spec_l01Bit.f a0_10).bind fun t150 => ((spec_l01Bit.f (a0_4 == 1)).bind fun t151 => (some (wrap64 ((wrap64 ((a0_9.size : Int) + t150)) + t151))))) = some r:=h
 clear h
 replace H:=Option.bind_eq_some_iff.mp H
 obtain ⟨t150,A20,H⟩:=H
 replace H : ((spec_l01Bit.f (a0_4 == 1)).bind fun t151 => (some (wrap64 ((wrap64 ((a0_9.size : Int) + t150)) + t151)))) = some r:=H
 have A2:=aMk A20
 clear A20
 replace H:=Option.bind_eq_some_iff.mp H
 obtain ⟨t151,A30,H⟩:=H
 replace H : (some (wrap64 ((wrap64 ((a0_9.size : Int) + t150)) + t151))) = some r:=H
 have A3:=aMk A30
 clear A30
 obtain rfl:=Option.some.inj H
 go_enter Try.func71,Try.ntmps71
 go_wp2_with (first|((with_reducible refine gate_dst (N:=1) rfl ?_);refine box_event ?hg (N:=1) ?hd (cs:=#[.string a0_0,.int .i64 a0_1,.int .i64 a0_2,.int .i64 a0_3,.int .i64 a0_4,.int .i64 a0_5,.int .i64 a0_6,.int .i64 a0_7,.string a0_8,.string a0_9,.bool a0_10]) (t:=34) ?hr ?_;(case hd => rfl);(case hg => rfl);(case hr => first|(go_simp;done)|(go_simp;rfl));intro gb149 hg w4 hbox hb;have n0_:=aMk (below_step (by repeat first|exact HB.out|apply bwA|apply bwN|apply bw1) hb);have n1_:=aMk (hbox);have n2_:=aMk ((by rw [hg];exact (below_size (by repeat first|exact HB.out|apply bwA|apply bwN|apply bw1)) : w.heap.size ≤ gb149));have n3_:=aMk ((by rw [hg];exact (below_size (by repeat first|exact HB.out|apply bwA|apply bwN|apply bw1)) : w.heap.size ≤ gb149));clear HB;have HB:=n0_;have BK149:=n1_;have GW149:=n2_;have GE149:=n3_;clear n0_ n1_ n2_ n3_;clear hb hbox hg;have hcz5_0 : w4.cell? ⟨gb149,0,none⟩ = some (.string a0_0):=(bCe BK149.out 0).trans rfl;have hcz5_1 : w4.cell? ⟨gb149,1,none⟩ = some (.int .i64 a0_1):=(bCe BK149.out 1).trans rfl;have hcz5_2 : w4.cell? ⟨gb149,2,none⟩ = some (.int .i64 a0_2):=(bCe BK149.out 2).trans rfl;have hcz5_3 : w4.cell? ⟨gb149,3,none⟩ = some (.int .i64 a0_3):=(bCe BK149.out 3).trans rfl;have hcz5_4 : w4.cell? ⟨gb149,4,none⟩ = some (.int .i64 a0_4):=(bCe BK149.out 4).trans rfl;have hcz5_5 : w4.cell? ⟨gb149,5,none⟩ = some (.int .i64 a0_5):=(bCe BK149.out 5).trans rfl;have hcz5_6 : w4.cell? ⟨gb149,6,none⟩ = some (.int .i64 a0_6):=(bCe BK149.out 6).trans rfl;have hcz5_7 : w4.cell? ⟨gb149,7,none⟩ = some (.int .i64 a0_7):=(bCe BK149.out 7).trans rfl;have hcz5_8 : w4.cell? ⟨gb149,8,none⟩ = some (.string a0_8):=(bCe BK149.out 8).trans rfl;have hcz5_9 : w4.cell? ⟨gb149,9,none⟩ = some (.string a0_9):=(bCe BK149.out 9).trans rfl;have hcz5_10 : w4.cell? ⟨gb149,10,none⟩ = some (.bool a0_10):=(bCe BK149.out 10).trans rfl;have hfz5_0:=bFr BK149.out 0;have hfz5_1:=bFr BK149.out 1;have hfz5_2:=bFr BK149.out 2;have hfz5_3:=bFr BK149.out 3;have hfz5_4:=bFr BK149.out 4;have hfz5_5:=bFr BK149.out 5;have hfz5_6:=bFr BK149.out 6;have hfz5_7:=bFr BK149.out 7;have hfz5_8:=bFr BK149.out 8;have hfz5_9:=bFr BK149.out 9;have hfz5_10:=bFr BK149.out 10)|(go_at_call 106;(with_reducible refine (spec_l01Bit.calls a0_10 t150 _ A2.out).mono ?_);rintro e w' ⟨rfl,⟨nd,rfl⟩⟩;(try first|exact ⟨rfl,_,World.drewN_drewN _ _ _⟩|exact ⟨rfl,_,Eq.trans (World.drewN_drewN _ _ _) (congrArg (World.drewN _) (Nat.add_assoc _ _ _))⟩))|(go_at_call 106;(with_reducible refine (spec_l01Bit.calls (a0_4 == 1) t151 _ A3.out).mono ?_);rintro e w' ⟨rfl,⟨nd,rfl⟩⟩;(try first|exact ⟨rfl,_,World.drewN_drewN _ _ _⟩|exact ⟨rfl,_,Eq.trans (World.drewN_drewN _ _ _) (congrArg (World.drewN _) (Nat.add_assoc _ _ _))⟩)))
 repeat (go_quiet (first|((with_reducible refine gate_dst (N:=1) rfl ?_);refine box_event ?hg (N:=1) ?hd (cs:=#[.string a0_0,.int .i64 a0_1,.int .i64 a0_2,.int .i64 a0_3,.int .i64 a0_4,.int .i64 a0_5,.int .i64 a0_6,.int .i64 a0_7,.string a0_8,.string a0_9,.bool a0_10]) (t:=34) ?hr ?_;(case hd => rfl);(case hg => rfl);(case hr => first|(go_simp;done)|(go_simp;rfl));intro gb149 hg w4 hbox hb;have n0_:=aMk (below_step (by repeat first|exact HB.out|apply bwA|apply bwN|apply bw1) hb);have n1_:=aMk (hbox);have n2_:=aMk ((by rw [hg];exact (below_size (by repeat first|exact HB.out|apply bwA|apply bwN|apply bw1)) : w.heap.size ≤ gb149));have n3_:=aMk ((by rw [hg];exact (below_size (by repeat first|exact HB.out|apply bwA|apply bwN|apply bw1)) : w.heap.size ≤ gb149));clear HB;have HB:=n0_;have BK149:=n1_;have GW149:=n2_;have GE149:=n3_;clear n0_ n1_ n2_ n3_;clear hb hbox hg;have hcz5_0 : w4.cell? ⟨gb149,0,none⟩ = some (.string a0_0):=(bCe BK149.out 0).trans rfl;have hcz5_1 : w4.cell? ⟨gb149,1,none⟩ = some (.int .i64 a0_1):=(bCe BK149.out 1).trans rfl;have hcz5_2 : w4.cell? ⟨gb149,2,none⟩ = some (.int .i64 a0_2):=(bCe BK149.out 2).trans rfl;have hcz5_3 : w4.cell? ⟨gb149,3,none⟩ = some (.int .i64 a0_3):=(bCe BK149.out 3).trans rfl;have hcz5_4 : w4.cell? ⟨gb149,4,none⟩ = some (.int .i64 a0_4):=(bCe BK149.out 4).trans rfl;have hcz5_5 : w4.cell? ⟨gb149,5,none⟩ = some (.int .i64 a0_5):=(bCe BK149.out 5).trans rfl;have hcz5_6 : w4.cell? ⟨gb149,6,none⟩ = some (.int .i64 a0_6):=(bCe BK149.out 6).trans rfl;have hcz5_7 : w4.cell? ⟨gb149,7,none⟩ = some (.int .i64 a0_7):=(bCe BK149.out 7).trans rfl;have hcz5_8 : w4.cell? ⟨gb149,8,none⟩ = some (.string a0_8):=(bCe BK149.out 8).trans rfl;have hcz5_9 : w4.cell? ⟨gb149,9,none⟩ = some (.string a0_9):=(bCe BK149.out 9).trans rfl;have hcz5_10 : w4.cell? ⟨gb149,10,none⟩ = some (.bool a0_10):=(bCe BK149.out 10).trans rfl;have hfz5_0:=bFr BK149.out 0;have hfz5_1:=bFr BK149.out 1;have hfz5_2:=bFr BK149.out 2;have hfz5_3:=bFr BK149.out 3;have hfz5_4:=bFr BK149.out 4;have hfz5_5:=bFr BK149.out 5;have hfz5_6:=bFr BK149.out 6;have hfz5_7:=bFr BK149.out 7;have hfz5_8:=bFr BK149.out 8;have hfz5_9:=bFr BK149.out 9;have hfz5_10:=bFr BK149.out 10)|(go_at_call 106;(with_reducible refine (spec_l01Bit.calls a0_10 t150 _ A2.out).mono ?_);rintro e w' ⟨rfl,⟨nd,rfl⟩⟩;(try first|exact ⟨rfl,_,World.drewN_drewN _ _ _⟩|exact ⟨rfl,_,Eq.trans (World.drewN_drewN _ _ _) (congrArg (World.drewN _) (Nat.add_assoc _ _ _))⟩))|(go_at_call 106;(with_reducible refine (spec_l01Bit.calls (a0_4 == 1) t151 _ A3.out).mono ?_);rintro e w' ⟨rfl,⟨nd,rfl⟩⟩;(try first|exact ⟨rfl,_,World.drewN_drewN _ _ _⟩|exact ⟨rfl,_,Eq.trans (World.drewN_drewN _ _ _) (congrArg (World.drewN _) (Nat.add_assoc _ _ _))⟩)));try go_wp2_with (first|((with_reducible refine gate_dst (N:=1) rfl ?_);refine box_event ?hg (N:=1) ?hd (cs:=#[.string a0_0,.int .i64 a0_1,.int .i64 a0_2,.int .i64 a0_3,.int .i64 a0_4,.int .i64 a0_5,.int .i64 a0_6,.int .i64 a0_7,.string a0_8,.string a0_9,.bool a0_10]) (t:=34) ?hr ?_;(case hd => rfl);(case hg => rfl);(case hr => first|(go_simp;done)|(go_simp;rfl));intro gb149 hg w4 hbox hb;have n0_:=aMk (below_step (by repeat first|exact HB.out|apply bwA|apply bwN|apply bw1) hb);have n1_:=aMk (hbox);have n2_:=aMk ((by rw [hg];exact (below_size (by repeat first|exact HB.out|apply bwA|apply bwN|apply bw1)) : w.heap.size ≤ gb149));have n3_:=aMk ((by rw [hg];exact (below_size (by repeat first|exact HB.out|apply bwA|apply bwN|apply bw1)) : w.heap.size ≤ gb149));clear HB;have HB:=n0_;have BK149:=n1_;have GW149:=n2_;have GE149:=n3_;clear n0_ n1_ n2_ n3_;clear hb hbox hg;have hcz5_0 : w4.cell? ⟨gb149,0,none⟩ = some (.string a0_0):=(bCe BK149.out 0).trans rfl;have hcz5_1 : w4.cell? ⟨gb149,1,none⟩ = some (.int .i64 a0_1):=(bCe BK149.out 1).trans rfl;have hcz5_2 : w4.cell? ⟨gb149,2,none⟩ = some (.int .i64 a0_2):=(bCe BK149.out 2).trans rfl;have hcz5_3 : w4.cell? ⟨gb149,3,none⟩ = some (.int .i64 a0_3):=(bCe BK149.out 3).trans rfl;have hcz5_4 : w4.cell? ⟨gb149,4,none⟩ = some (.int .i64 a0_4):=(bCe BK149.out 4).trans rfl;have hcz5_5 : w4.cell? ⟨gb149,5,none⟩ = some (.int .i64 a0_5):=(bCe BK149.out 5).trans rfl;have hcz5_6 : w4.cell? ⟨gb149,6,none⟩ = some (.int .i64 a0_6):=(bCe BK149.out 6).trans rfl;have hcz5_7 : w4.cell? ⟨gb149,7,none⟩ = some (.int .i64 a0_7):=(bCe BK149.out 7).trans rfl;have hcz5_8 : w4.cell? ⟨gb149,8,none⟩ = some (.string a0_8):=(bCe BK149.out 8).trans rfl;have hcz5_9 : w4.cell? ⟨gb149,9,none⟩ = some (.string a0_9):=(bCe BK149.out 9).trans rfl;have hcz5_10 : w4.cell? ⟨gb149,10,none⟩ = some (.bool a0_10):=(bCe BK149.out 10).trans rfl;have hfz5_0:=bFr BK149.out 0;have hfz5_1:=bFr BK149.out 1;have hfz5_2:=bFr BK149.out 2;have hfz5_3:=bFr BK149.out 3;have hfz5_4:=bFr BK149.out 4;have hfz5_5:=bFr BK149.out 5;have hfz5_6:=bFr BK149.out 6;have hfz5_7:=bFr BK149.out 7;have hfz5_8:=bFr BK149.out 8;have hfz5_9:=bFr BK149.out 9;have hfz5_10:=bFr BK149.out 10)|(go_at_call 106;(with_reducible refine (spec_l01Bit.calls a0_10 t150 _ A2.out).mono ?_);rintro e w' ⟨rfl,⟨nd,rfl⟩⟩;(try first|exact ⟨rfl,_,World.drewN_drewN _ _ _⟩|exact ⟨rfl,_,Eq.trans (World.drewN_drewN _ _ _) (congrArg (World.drewN _) (Nat.add_assoc _ _ _))⟩))|(go_at_call 106;(with_reducible refine (spec_l01Bit.calls (a0_4 == 1) t151 _ A3.out).mono ?_);rintro e w' ⟨rfl,⟨nd,rfl⟩⟩;(try first|exact ⟨rfl,_,World.drewN_drewN _ _ _⟩|exact ⟨rfl,_,Eq.trans (World.drewN_drewN _ _ _) (congrArg (World.drewN _) (Nat.add_assoc _ _ _))⟩))))
 go_ret
 exact ⟨by first | rfl|(simp [errW_none,errW_some] <;> rfl)|(simp [*,errW_none,errW_some] <;> rfl),by repeat (first|(with_reducible first|exact HB.out|apply bwA|apply bwN|apply bw1|refine below_set ?_ GE149.out)|exact HB.out)⟩
end
section
/-! ### spec_ConnOK: function 23 -/
mutual
def spec_ConnOK.j0 : Nat → Bool → ByteArray → Int → Int → Int → Int → Int → Int → Int → ByteArray → ByteArray → Bool → Option (Bool)
 | 0,_,_,_,_,_,_,_,_,_,_,_,_ => none
 | k + 1,x56,x153000,x153001,x153002,x153003,x153004,x153005,x153006,x153007,x153008,x153009,x153010 => if x56 = true then (some false) else (if x153004 = 1 then (if x153008.toList = ([] : List UInt8) then (if (x153010 != (x153004 == 3)) = true then (spec_ConnOK.j1 k true x153000 x153001 x153002 x153003 x153004 x153005 x153006 x153007 x153008 x153009 x153010) else (if x153010 = true then (spec_ConnOK.j1 k false x153000 x153001 x153002 x153003 x153004 x153005 x153006 x153007 x153008 x153009 x153010) else (spec_ConnOK.j1 k (x153009.toList != ([] : List UInt8)) x153000 x153001 x153002 x153003 x153004 x153005 x153006 x153007 x153008 x153009 x153010))) else (spec_ConnOK.j1 k true x153000 x153001 x153002 x153003 x153004 x153005 x153006 x153007 x153008 x153009 x153010)) else (if (x153010 != (x153004 == 3)) = true then (spec_ConnOK.j1 k true x153000 x153001 x153002 x153003 x153004 x153005 x153006 x153007 x153008 x153009 x153010) else (if x153010 = true then (spec_ConnOK.j1 k false x153000 x153001 x153002 x153003 x153004 x153005 x153006 x153007 x153008 x153009 x153010) else (spec_ConnOK.j1 k (x153009.toList != ([] : List UInt8)) x153000 x153001 x153002 x153003 x153004 x153005 x153006 x153007 x153008 x153009 x153010))))
def spec_ConnOK.j1 : Nat → Bool → ByteArray → Int → Int → Int → Int → Int → Int → Int → ByteArray → ByteArray → Bool → Option (Bool)
 | 0,_,_,_,_,_,_,_,_,_,_,_,_ => none
 | k + 1,x82,x153000,x153001,x153002,x153003,x153004,x153005,x153006,x153007,x153008,x153009,x153010 => if x82 = true then (some false) else ((spec_l10Seq.f (wrap64 (x153006 - x153005))).bind fun t160 => ((spec_l10Sent.f x153000 x153001 x153002 x153003 x153004 x153005 x153006 x153007 x153008 x153009 x153010).bind fun t161 => (some (t160 == t161))))
end
def spec_ConnOK.f (k : Nat) (a0_0 : ByteArray) (a0_1 : Int) (a0_2 : Int) (a0_3 : Int) (a0_4 : Int) (a0_5 : Int) (a0_6 : Int) (a0_7 : Int) (a0_8 : ByteArray) (a0_9 : ByteArray) (a0_10 : Bool) : Option (Bool):=(spec_l01Mac.f a0_0).bind fun t153 => (if t153 = true then ((spec_l07Ask.f a0_1 a0_2).bind fun t154 => (if t154 = true then ((spec_l01Ip.f a0_3).bind fun t155 => (if t155 = true then ((spec_l01In.f a0_4 1 4).bind fun t156 => (if t156 = true then ((spec_l01Ip.f a0_5).bind fun t157 => (if t157 = true then ((spec_l01Ip.f a0_6).bind fun t158 => (if t158 = true then ((spec_l01Ip.f a0_7).bind fun t159 => (if t159 = true then (if (a0_8.size : Int) > 300 then (spec_ConnOK.j0 k true a0_0 a0_1 a0_2 a0_3 a0_4 a0_5 a0_6 a0_7 a0_8 a0_9 a0_10) else (spec_ConnOK.j0 k (decide ((a0_9.size : Int) > 300)) a0_0 a0_1 a0_2 a0_3 a0_4 a0_5 a0_6 a0_7 a0_8 a0_9 a0_10)) else (spec_ConnOK.j0 k true a0_0 a0_1 a0_2 a0_3 a0_4 a0_5 a0_6 a0_7 a0_8 a0_9 a0_10))) else (spec_ConnOK.j0 k true a0_0 a0_1 a0_2 a0_3 a0_4 a0_5 a0_6 a0_7 a0_8 a0_9 a0_10))) else (spec_ConnOK.j0 k true a0_0 a0_1 a0_2 a0_3 a0_4 a0_5 a0_6 a0_7 a0_8 a0_9 a0_10))) else (spec_ConnOK.j0 k true a0_0 a0_1 a0_2 a0_3 a0_4 a0_5 a0_6 a0_7 a0_8 a0_9 a0_10))) else (spec_ConnOK.j0 k true a0_0 a0_1 a0_2 a0_3 a0_4 a0_5 a0_6 a0_7 a0_8 a0_9 a0_10))) else (spec_ConnOK.j0 k true a0_0 a0_1 a0_2 a0_3 a0_4 a0_5 a0_6 a0_7 a0_8 a0_9 a0_10))) else (spec_ConnOK.j0 k true a0_0 a0_1 a0_2 a0_3 a0_4 a0_5 a0_6 a0_7 a0_8 a0_9 a0_10))
theorem spec_ConnOK.mono_l : ∀ k,(∀ y0 y1 y2 y3 y4 y5 y6 y7 y8 y9 y10 y11,LeO (spec_ConnOK.j0 k y0 y1 y2 y3 y4 y5 y6 y7 y8 y9 y10 y11) (spec_ConnOK.j0 (k + 1) y0 y1 y2 y3 y4 y5 y6 y7 y8 y9 y10 y11)) ∧ (∀ y0 y1 y2 y3 y4 y5 y6 y7 y8 y9 y10 y11,LeO (spec_ConnOK.j1 k y0 y1 y2 y3 y4 y5 y6 y7 y8 y9 y10 y11) (spec_ConnOK.j1 (k + 1) y0 y1 y2 y3 y4 y5 y6 y7 y8 y9 y10 y11))
 | 0 => ⟨fun _ _ _ _ _ _ _ _ _ _ _ _ r h => by simp [spec_ConnOK.j0] at h,fun _ _ _ _ _ _ _ _ _ _ _ _ r h => by simp [spec_ConnOK.j1] at h⟩
 | k + 1 => by
  obtain ⟨ih0,ih1⟩:=spec_ConnOK.mono_l k
  refine ⟨?_,?_⟩
  ·intro y0 y1 y2 y3 y4 y5 y6 y7 y8 y9 y10 y11
   unfold spec_ConnOK.j0
   repeat' first
   | (with_reducible exact ih0 _ _ _ _ _ _ _ _ _ _ _ _)
   | (with_reducible exact ih1 _ _ _ _ _ _ _ _ _ _ _ _)
   | (with_reducible exact LeO.refl _)
   | (with_reducible exact LeO.none _)
   | (with_reducible refine LeO.ite ?_ ?_)
   | (with_reducible refine LeO.bind ?_ (fun _ => ?_))
   | exact ih0 _ _ _ _ _ _ _ _ _ _ _ _
   | exact ih1 _ _ _ _ _ _ _ _ _ _ _ _
   | exact LeO.none _
   | refine LeO.ite ?_ ?_
   | refine LeO.bind ?_ (fun _ => ?_)
  ·intro y0 y1 y2 y3 y4 y5 y6 y7 y8 y9 y10 y11
   unfold spec_ConnOK.j1
   repeat' first
   | (with_reducible exact ih0 _ _ _ _ _ _ _ _ _ _ _ _)
   | (with_reducible exact ih1 _ _ _ _ _ _ _ _ _ _ _ _)
   | (with_reducible exact LeO.refl _)
   | (with_reducible exact LeO.none _)
   | (with_reducible refine LeO.ite ?_ ?_)
   | (with_reducible refine LeO.bind ?_ (fun _ => ?_))
   | exact ih0 _ _ _ _ _ _ _ _ _ _ _ _
   | exact ih1 _ _ _ _ _ _ _ _ _ _ _ _
   | exact LeO.none _
   | refine LeO.ite ?_ ?_
   | refine LeO.bind ?_ (fun _ => ?_)
theorem spec_ConnOK.mono : ∀ a0 a1 a2 a3 a4 a5 a6 a7 a8 a9 a10 k,LeO (spec_ConnOK.f k a0 a1 a2 a3 a4 a5 a6 a7 a8 a9 a10) (spec_ConnOK.f (k + 1) a0 a1 a2 a3 a4 a5 a6 a7 a8 a9 a10):=by
 intro a0 a1 a2 a3 a4 a5 a6 a7 a8 a9 a10 k
 obtain ⟨ih0,ih1⟩:=spec_ConnOK.mono_l k
 unfold spec_ConnOK.f
 repeat' first
   | (with_reducible exact ih0 _ _ _ _ _ _ _ _ _ _ _ _)
   | (with_reducible exact ih1 _ _ _ _ _ _ _ _ _ _ _ _)
   | (with_reducible exact LeO.refl _)
   | (with_reducible exact LeO.none _)
   | (with_reducible refine LeO.ite ?_ ?_)
   | (with_reducible refine LeO.bind ?_ (fun _ => ?_))
   | exact ih0 _ _ _ _ _ _ _ _ _ _ _ _
   | exact ih1 _ _ _ _ _ _ _ _ _ _ _ _
   | exact LeO.none _
   | refine LeO.ite ?_ ?_
   | refine LeO.bind ?_ (fun _ => ?_)
def spec_ConnOK.T5 : Bool × List (List Nat × List Nat):=(true,[([],[]),([0],[0]),([],[]),([2],[2]),([1,3],[1,3]),([4],[4]),([],[]),([6,5],[6]),([5,7],[5,7]),([8,7,0,1,2,3,4,5,6,7,8],[8])])
def spec_ConnOK.B5 : List Nat:=[0,1,0,4,15,31,0,127,255,511]
theorem spec_ConnOK.tab5 : rtab .any (opsOf Try.f23 5) = spec_ConnOK.T5:=by kernel_rfl
theorem spec_ConnOK.bits5 : waitsOk spec_ConnOK.T5.2 spec_ConnOK.B5 = true:=by kernel_rfl
set_option maxHeartbeats 8000000 in
set_option maxRecDepth 100000 in
theorem spec_ConnOK.calls (k : Nat) (a0_0 : ByteArray) (a0_1 : Int) (a0_2 : Int) (a0_3 : Int) (a0_4 : Int) (a0_5 : Int) (a0_6 : Int) (a0_7 : Int) (a0_8 : ByteArray) (a0_9 : ByteArray) (a0_10 : Bool) (r : Bool) (w : World) (h : spec_ConnOK.f k a0_0 a0_1 a0_2 a0_3 a0_4 a0_5 a0_6 a0_7 a0_8 a0_9 a0_10 = some r) :
  Calls Try.prog 23 #[.agg #[.string a0_0,.int .i64 a0_1,.int .i64 a0_2,.int .i64 a0_3,.int .i64 a0_4,.int .i64 a0_5,.int .i64 a0_6,.int .i64 a0_7,.string a0_8,.string a0_9,.bool a0_10]] w fun e w' => e = .returned (.bool r) ∧ Below w.heap.size w w':=by
 have hu34:=Try.underlying34
 have HB:=aMk (Below.refl w.heap.size w)
 have H : ((spec_l01Mac.f a0_0).bind fun t153 => (if t153 = true then ((spec_l07Ask.f a0_1 a0_2).bind fun t154 => (if t154 = true then ((spec_l01Ip.f a0_3).bind fun t155 => (if t155 = true then ((spec_l01In.f a0_4 1 4).bind fun t156 => (if t156 = true then ((spec_l01Ip.f a0_5).bind fun t157 => (if t157 = true then ((spec_l01Ip.f a0_6).bind fun t158 => (if t158 = true then ((spec_l01Ip.f a0_7).bind fun t159 => (if t159 = true then (if (a0_8.size : Int) > 300 then (spec_ConnOK.j0 k true a0_0 a0_1 a0_2 a0_3 a0_4 a0_5 a0_6 a0_7 a0_8 a0_9 a0_10) else (spec_ConnOK.j0 k (decide ((a0_9.size : Int) > 300)) a0_0 a0_1 a0_2 a0_3 a0_4 a0_5 a0_6 a0_7 a0_8 a0_9 a0_10)) else (spec_ConnOK.j0 k true a0_0 a0_1 a0_2 a0_3 a0_4 a0_5 a0_6 a0_7 a0_8 a0_9 a0_10))) else (spec_ConnOK.j0 k true a0_0 a0_1 a0_2 a0_3 a0_4 a0_5 a0_6 a0_7 a0_8 a0_9 a0_10))) else (spec_ConnOK.j0 k true a0_0 a0_1 a0_2 a0_3 a0_4 a0_5 a0_6 a0_7 a0_8 a0_9 a0_10))) else (spec_ConnOK.j0 k true a0_0 a0_1 a0_2 a0_3 a0_4 a0_5 a0_6 a0_7 a0_8 a0_9 a0_10))) else (spec_ConnOK.j0 k true a0_0 a0_1 a0_2 a0_3 a0_4 a0_5 a0_6 a0_7 a0_8 a0_9 a0_10))) else (spec_ConnOK.j0 k true a0_0 a0_1 a0_2 a0_3 a0_4 a0_5 a0_6 a0_7 a0_8 a0_9 a0_10))) else (spec_ConnOK.j0 k true a0_0 a0_1 a0_2 a0_3 a0_4 a0_5 a0_6 a0_7 a0_8 a0_9 a0_10))) = some r:=h
 clear h
 have HC2:=aMk H
 clear H
 go_enter Try.func23,Try.ntmps23
 go_upto_region 1 with (first|((with_reducible refine gate_dst (N:=1) rfl ?_);(try (refine gate_guard (by rfl) ?_;dsimp only));refine box_event ?hg (N:=1) ?hd (cs:=#[.string a0_0,.int .i64 a0_1,.int .i64 a0_2,.int .i64 a0_3,.int .i64 a0_4,.int .i64 a0_5,.int .i64 a0_6,.int .i64 a0_7,.string a0_8,.string a0_9,.bool a0_10]) (t:=34) ?hr ?_;(case hd => rfl);(case hg => rfl);(case hr => first|(go_simp;done)|(go_simp;rfl));intro gb152 hg w3 hbox hb;have n0_:=aMk (below_step (by repeat first|exact HB.out|apply bwA|apply bwN|apply bw1) hb);have n1_:=aMk (hbox);have n2_:=aMk ((by rw [hg];exact (below_size (by repeat first|exact HB.out|apply bwA|apply bwN|apply bw1)) : w.heap.size ≤ gb152));have n3_:=aMk ((by rw [hg];exact (below_size (by repeat first|exact HB.out|apply bwA|apply bwN|apply bw1)) : w.heap.size ≤ gb152));clear HB;have HB:=n0_;have BK152:=n1_;have GW152:=n2_;have GE152:=n3_;clear n0_ n1_ n2_ n3_;clear hb hbox hg))
 (try simp only [Act.put,List.setIfInBounds_toArray,List.set_cons_zero,List.set_cons_succ])
 go_cut [56] (fun v56 wc => ∃ (kq : Nat) (x56_1 : Bool),v56 = .bool x56_1 ∧ Aside0 (spec_ConnOK.j0 kq x56_1 a0_0 a0_1 a0_2 a0_3 a0_4 a0_5 a0_6 a0_7 a0_8 a0_9 a0_10 = some r) ∧ Aside0 (kq ≤ k) ∧ Aside0 (wc.heap[gb152]? = some (.cells #[.string a0_0,.int .i64 a0_1,.int .i64 a0_2,.int .i64 a0_3,.int .i64 a0_4,.int .i64 a0_5,.int .i64 a0_6,.int .i64 a0_7,.string a0_8,.string a0_9,.bool a0_10] 34 (0,0))) ∧ Aside0 (Below w.heap.size w wc))
 case first =>
  have H:=HC2.out
  clear HC2
  replace H:=Option.bind_eq_some_iff.mp H
  obtain ⟨t153,A40,H⟩:=H
  replace H : (if t153 = true then ((spec_l07Ask.f a0_1 a0_2).bind fun t154 => (if t154 = true then ((spec_l01Ip.f a0_3).bind fun t155 => (if t155 = true then ((spec_l01In.f a0_4 1 4).bind fun t156 => (if t156 = true then ((spec_l01Ip.f a0_5).bind fun t157 => (if t157 = true then ((spec_l01Ip.f a0_6).bind fun t158 => (if t158 = true then ((spec_l01Ip.f a0_7).bind fun t159 => (if t159 = true then (if (a0_8.size : Int) > 300 then (spec_ConnOK.j0 k true a0_0 a0_1 a0_2 a0_3 a0_4 a0_5 a0_6 a0_7 a0_8 a0_9 a0_10) else (spec_ConnOK.j0 k (decide ((a0_9.size : Int) > 300)) a0_0 a0_1 a0_2 a0_3 a0_4 a0_5 a0_6 a0_7 a0_8 a0_9 a0_10)) else (spec_ConnOK.j0 k true a0_0 a0_1 a0_2 a0_3 a0_4 a0_5 a0_6 a0_7 a0_8 a0_9 a0_10))) else (spec_ConnOK.j0 k true a0_0 a0_1 a0_2 a0_3 a0_4 a0_5 a0_6 a0_7 a0_8 a0_9 a0_10))) else (spec_ConnOK.j0 k true a0_0 a0_1 a0_2 a0_3 a0_4 a0_5 a0_6 a0_7 a0_8 a0_9 a0_10))) else (spec_ConnOK.j0 k true a0_0 a0_1 a0_2 a0_3 a0_4 a0_5 a0_6 a0_7 a0_8 a0_9 a0_10))) else (spec_ConnOK.j0 k true a0_0 a0_1 a0_2 a0_3 a0_4 a0_5 a0_6 a0_7 a0_8 a0_9 a0_10))) else (spec_ConnOK.j0 k true a0_0 a0_1 a0_2 a0_3 a0_4 a0_5 a0_6 a0_7 a0_8 a0_9 a0_10))) else (spec_ConnOK.j0 k true a0_0 a0_1 a0_2 a0_3 a0_4 a0_5 a0_6 a0_7 a0_8 a0_9 a0_10)) = some r:=H
  have A4:=aMk A40
  clear A40
  by_cases c5 : t153 = true
  ·subst c5
   have H1 : ((spec_l07Ask.f a0_1 a0_2).bind fun t154 => (if t154 = true then ((spec_l01Ip.f a0_3).bind fun t155 => (if t155 = true then ((spec_l01In.f a0_4 1 4).bind fun t156 => (if t156 = true then ((spec_l01Ip.f a0_5).bind fun t157 => (if t157 = true then ((spec_l01Ip.f a0_6).bind fun t158 => (if t158 = true then ((spec_l01Ip.f a0_7).bind fun t159 => (if t159 = true then (if (a0_8.size : Int) > 300 then (spec_ConnOK.j0 k true a0_0 a0_1 a0_2 a0_3 a0_4 a0_5 a0_6 a0_7 a0_8 a0_9 a0_10) else (spec_ConnOK.j0 k (decide ((a0_9.size : Int) > 300)) a0_0 a0_1 a0_2 a0_3 a0_4 a0_5 a0_6 a0_7 a0_8 a0_9 a0_10)) else (spec_ConnOK.j0 k true a0_0 a0_1 a0_2 a0_3 a0_4 a0_5 a0_6 a0_7 a0_8 a0_9 a0_10))) else (spec_ConnOK.j0 k true a0_0 a0_1 a0_2 a0_3 a0_4 a0_5 a0_6 a0_7 a0_8 a0_9 a0_10))) else (spec_ConnOK.j0 k true a0_0 a0_1 a0_2 a0_3 a0_4 a0_5 a0_6 a0_7 a0_8 a0_9 a0_10))) else (spec_ConnOK.j0 k true a0_0 a0_1 a0_2 a0_3 a0_4 a0_5 a0_6 a0_7 a0_8 a0_9 a0_10))) else (spec_ConnOK.j0 k true a0_0 a0_1 a0_2 a0_3 a0_4 a0_5 a0_6 a0_7 a0_8 a0_9 a0_10))) else (spec_ConnOK.j0 k true a0_0 a0_1 a0_2 a0_3 a0_4 a0_5 a0_6 a0_7 a0_8 a0_9 a0_10))) = some r:=by rw [if_pos rfl] at H;exact H
   clear H
   have H:=H1
   clear H1
   replace H:=Option.bind_eq_some_iff.mp H
   obtain ⟨t154,A60,H⟩:=H
   replace H : (if t154 = true then ((spec_l01Ip.f a0_3).bind fun t155 => (if t155 = true then ((spec_l01In.f a0_4 1 4).bind fun t156 => (if t156 = true then ((spec_l01Ip.f a0_5).bind fun t157 => (if t157 = true then ((spec_l01Ip.f a0_6).bind fun t158 => (if t158 = true then ((spec_l01Ip.f a0_7).bind fun t159 => (if t159 = true then (if (a0_8.size : Int) > 300 then (spec_ConnOK.j0 k true a0_0 a0_1 a0_2 a0_3 a0_4 a0_5 a0_6 a0_7 a0_8 a0_9 a0_10) else (spec_ConnOK.j0 k (decide ((a0_9.size : Int) > 300)) a0_0 a0_1 a0_2 a0_3 a0_4 a0_5 a0_6 a0_7 a0_8 a0_9 a0_10)) else (spec_ConnOK.j0 k true a0_0 a0_1 a0_2 a0_3 a0_4 a0_5 a0_6 a0_7 a0_8 a0_9 a0_10))) else (spec_ConnOK.j0 k true a0_0 a0_1 a0_2 a0_3 a0_4 a0_5 a0_6 a0_7 a0_8 a0_9 a0_10))) else (spec_ConnOK.j0 k true a0_0 a0_1 a0_2 a0_3 a0_4 a0_5 a0_6 a0_7 a0_8 a0_9 a0_10))) else (spec_ConnOK.j0 k true a0_0 a0_1 a0_2 a0_3 a0_4 a0_5 a0_6 a0_7 a0_8 a0_9 a0_10))) else (spec_ConnOK.j0 k true a0_0 a0_1 a0_2 a0_3 a0_4 a0_5 a0_6 a0_7 a0_8 a0_9 a0_10))) else (spec_ConnOK.j0 k true a0_0 a0_1 a0_2 a0_3 a0_4 a0_5 a0_6 a0_7 a0_8 a0_9 a0_10)) = some r:=H
   have A6:=aMk A60
   clear A60
   by_cases c7 : t154 = true
   ·subst c7
    have H1 : ((spec_l01Ip.f a0_3).bind fun t155 => (if t155 = true then ((spec_l01In.f a0_4 1 4).bind fun t156 => (if t156 = true then ((spec_l01Ip.f a0_5).bind fun t157 => (if t157 = true then ((spec_l01Ip.f a0_6).bind fun t158 => (if t158 = true then ((spec_l01Ip.f a0_7).bind fun t159 => (if t159 = true then (if (a0_8.size : Int) > 300 then (spec_ConnOK.j0 k true a0_0 a0_1 a0_2 a0_3 a0_4 a0_5 a0_6 a0_7 a0_8 a0_9 a0_10) else (spec_ConnOK.j0 k (decide ((a0_9.size : Int) > 300)) a0_0 a0_1 a0_2 a0_3 a0_4 a0_5 a0_6 a0_7 a0_8 a0_9 a0_10)) else (spec_ConnOK.j0 k true a0_0 a0_1 a0_2 a0_3 a0_4 a0_5 a0_6 a0_7 a0_8 a0_9 a0_10))) else (spec_ConnOK.j0 k true a0_0 a0_1 a0_2 a0_3 a0_4 a0_5 a0_6 a0_7 a0_8 a0_9 a0_10))) else (spec_ConnOK.j0 k true a0_0 a0_1 a0_2 a0_3 a0_4 a0_5 a0_6 a0_7 a0_8 a0_9 a0_10))) else (spec_ConnOK.j0 k true a0_0 a0_1 a0_2 a0_3 a0_4 a0_5 a0_6 a0_7 a0_8 a0_9 a0_10))) else (spec_ConnOK.j0 k true a0_0 a0_1 a0_2 a0_3 a0_4 a0_5 a0_6 a0_7 a0_8 a0_9 a0_10))) = some r:=by rw [if_pos rfl] at H;exact H
    clear H
    have H:=H1
    clear H1
    replace H:=Option.bind_eq_some_iff.mp H
    obtain ⟨t155,A80,H⟩:=H
    replace H : (if t155 = true then ((spec_l01In.f a0_4 1 4).bind fun t156 => (if t156 = true then ((spec_l01Ip.f a0_5).bind fun t157 => (if t157 = true then ((spec_l01Ip.f a0_6).bind fun t158 => (if t158 = true then ((spec_l01Ip.f a0_7).bind fun t159 => (if t159 = true then (if (a0_8.size : Int) > 300 then (spec_ConnOK.j0 k true a0_0 a0_1 a0_2 a0_3 a0_4 a0_5 a0_6 a0_7 a0_8 a0_9 a0_10) else (spec_ConnOK.j0 k (decide ((a0_9.size : Int) > 300)) a0_0 a0_1 a0_2 a0_3 a0_4 a0_5 a0_6 a0_7 a0_8 a0_9 a0_10)) else (spec_ConnOK.j0 k true a0_0 a0_1 a0_2 a0_3 a0_4 a0_5 a0_6 a0_7 a0_8 a0_9 a0_10))) else (spec_ConnOK.j0 k true a0_0 a0_1 a0_2 a0_3 a0_4 a0_5 a0_6 a0_7 a0_8 a0_9 a0_10))) else (spec_ConnOK.j0 k true a0_0 a0_1 a0_2 a0_3 a0_4 a0_5 a0_6 a0_7 a0_8 a0_9 a0_10))) else (spec_ConnOK.j0 k true a0_0 a0_1 a0_2 a0_3 a0_4 a0_5 a0_6 a0_7 a0_8 a0_9 a0_10))) else (spec_ConnOK.j0 k true a0_0 a0_1 a0_2 a0_3 a0_4 a0_5 a0_6 a0_7 a0_8 a0_9 a0_10)) = some r:=H
    have A8:=aMk A80
    clear A80
    by_cases c9 : t155 = true
    ·subst c9
     have H1 : ((spec_l01In.f a0_4 1 4).bind fun t156 => (if t156 = true then ((spec_l01Ip.f a0_5).bind fun t157 => (if t157 = true then ((spec_l01Ip.f a0_6).bind fun t158 => (if t158 = true then ((spec_l01Ip.f a0_7).bind fun t159 => (if t159 = true then (if (a0_8.size : Int) > 300 then (spec_ConnOK.j0 k true a0_0 a0_1 a0_2 a0_3 a0_4 a0_5 a0_6 a0_7 a0_8 a0_9 a0_10) else (spec_ConnOK.j0 k (decide ((a0_9.size : Int) > 300)) a0_0 a0_1 a0_2 a0_3 a0_4 a0_5 a0_6 a0_7 a0_8 a0_9 a0_10)) else (spec_ConnOK.j0 k true a0_0 a0_1 a0_2 a0_3 a0_4 a0_5 a0_6 a0_7 a0_8 a0_9 a0_10))) else (spec_ConnOK.j0 k true a0_0 a0_1 a0_2 a0_3 a0_4 a0_5 a0_6 a0_7 a0_8 a0_9 a0_10))) else (spec_ConnOK.j0 k true a0_0 a0_1 a0_2 a0_3 a0_4 a0_5 a0_6 a0_7 a0_8 a0_9 a0_10))) else (spec_ConnOK.j0 k true a0_0 a0_1 a0_2 a0_3 a0_4 a0_5 a0_6 a0_7 a0_8 a0_9 a0_10))) = some r:=by rw [if_pos rfl] at H;exact H
     clear H
     have H:=H1
     clear H1
     replace H:=Option.bind_eq_some_iff.mp H
     obtain ⟨t156,A100,H⟩:=H
     replace H : (if t156 = true then ((spec_l01Ip.f a0_5).bind fun t157 => (if t157 = true then ((spec_l01Ip.f a0_6).bind fun t158 => (if t158 = true then ((spec_l01Ip.f a0_7).bind fun t159 => (if t159 = true then (if (a0_8.size : Int) > 300 then (spec_ConnOK.j0 k true a0_0 a0_1 a0_2 a0_3 a0_4 a0_5 a0_6 a0_7 a0_8 a0_9 a0_10) else (spec_ConnOK.j0 k (decide ((a0_9.size : Int) > 300)) a0_0 a0_1 a0_2 a0_3 a0_4 a0_5 a0_6 a0_7 a0_8 a0_9 a0_10)) else (spec_ConnOK.j0 k true a0_0 a0_1 a0_2 a0_3 a0_4 a0_5 a0_6 a0_7 a0_8 a0_9 a0_10))) else (spec_ConnOK.j0 k true a0_0 a0_1 a0_2 a0_3 a0_4 a0_5 a0_6 a0_7 a0_8 a0_9 a0_10))) else (spec_ConnOK.j0 k true a0_0 a0_1 a0_2 a0_3 a0_4 a0_5 a0_6 a0_7 a0_8 a0_9 a0_10))) else (spec_ConnOK.j0 k true a0_0 a0_1 a0_2 a0_3 a0_4 a0_5 a0_6 a0_7 a0_8 a0_9 a0_10)) = some r:=H
     have A10:=aMk A100
     clear A100
     by_cases c11 : t156 = true
     ·subst c11
      have H1 : ((spec_l01Ip.f a0_5).bind fun t157 => (if t157 = true then ((spec_l01Ip.f a0_6).bind fun t158 => (if t158 = true then ((spec_l01Ip.f a0_7).bind fun t159 => (if t159 = true then (if (a0_8.size : Int) > 300 then (spec_ConnOK.j0 k true a0_0 a0_1 a0_2 a0_3 a0_4 a0_5 a0_6 a0_7 a0_8 a0_9 a0_10) else (spec_ConnOK.j0 k (decide ((a0_9.size : Int) > 300)) a0_0 a0_1 a0_2 a0_3 a0_4 a0_5 a0_6 a0_7 a0_8 a0_9 a0_10)) else (spec_ConnOK.j0 k true a0_0 a0_1 a0_2 a0_3 a0_4 a0_5 a0_6 a0_7 a0_8 a0_9 a0_10))) else (spec_ConnOK.j0 k true a0_0 a0_1 a0_2 a0_3 a0_4 a0_5 a0_6 a0_7 a0_8 a0_9 a0_10))) else (spec_ConnOK.j0 k true a0_0 a0_1 a0_2 a0_3 a0_4 a0_5 a0_6 a0_7 a0_8 a0_9 a0_10))) = some r:=by rw [if_pos rfl] at H;exact H
      clear H
      have H:=H1
      clear H1
      replace H:=Option.bind_eq_some_iff.mp H
      obtain ⟨t157,A120,H⟩:=H
      replace H : (if t157 = true then ((spec_l01Ip.f a0_6).bind fun t158 => (if t158 = true then ((spec_l01Ip.f a0_7).bind fun t159 => (if t159 = true then (if (a0_8.size : Int) > 300 then (spec_ConnOK.j0 k true a0_0 a0_1 a0_2 a0_3 a0_4 a0_5 a0_6 a0_7 a0_8 a0_9 a0_10) else (spec_ConnOK.j0 k (decide ((a0_9.size : Int) > 300)) a0_0 a0_1 a0_2 a0_3 a0_4 a0_5 a0_6 a0_7 a0_8 a0_9 a0_10)) else (spec_ConnOK.j0 k true a0_0 a0_1 a0_2 a0_3 a0_4 a0_5 a0_6 a0_7 a0_8 a0_9 a0_10))) else (spec_ConnOK.j0 k true a0_0 a0_1 a0_2 a0_3 a0_4 a0_5 a0_6 a0_7 a0_8 a0_9 a0_10))) else (spec_ConnOK.j0 k true a0_0 a0_1 a0_2 a0_3 a0_4 a0_5 a0_6 a0_7 a0_8 a0_9 a0_10)) = some r:=H
      have A12:=aMk A120
      clear A120
      by_cases c13 : t157 = true
      ·subst c13
       have H1 : ((spec_l01Ip.f a0_6).bind fun t158 => (if t158 = true then ((spec_l01Ip.f a0_7).bind fun t159 => (if t159 = true then (if (a0_8.size : Int) > 300 then (spec_ConnOK.j0 k true a0_0 a0_1 a0_2 a0_3 a0_4 a0_5 a0_6 a0_7 a0_8 a0_9 a0_10) else (spec_ConnOK.j0 k (decide ((a0_9.size : Int) > 300)) a0_0 a0_1 a0_2 a0_3 a0_4 a0_5 a0_6 a0_7 a0_8 a0_9 a0_10)) else (spec_ConnOK.j0 k true a0_0 a0_1 a0_2 a0_3 a0_4 a0_5 a0_6 a0_7 a0_8 a0_9 a0_10))) else (spec_ConnOK.j0 k true a0_0 a0_1 a0_2 a0_3 a0_4 a0_5 a0_6 a0_7 a0_8 a0_9 a0_10))) = some r:=by rw [if_pos rfl] at H;exact H
       clear H
       have H:=H1
       clear H1
       replace H:=Option.bind_eq_some_iff.mp H
       obtain ⟨t158,A140,H⟩:=H
       replace H : (if t158 = true then ((spec_l01Ip.f a0_7).bind fun t159 => (if t159 = true then (if (a0_8.size : Int) > 300 then (spec_ConnOK.j0 k true a0_0 a0_1 a0_2 a0_3 a0_4 a0_5 a0_6 a0_7 a0_8 a0_9 a0_10) else (spec_ConnOK.j0 k (decide ((a0_9.size : Int) > 300)) a0_0 a0_1 a0_2 a0_3 a0_4 a0_5 a0_6 a0_7 a0_8 a0_9 a0_10)) else (spec_ConnOK.j0 k true a0_0 a0_1 a0_2 a0_3 a0_4 a0_5 a0_6 a0_7 a0_8 a0_9 a0_10))) else (spec_ConnOK.j0 k true a0_0 a0_1 a0_2 a0_3 a0_4 a0_5 a0_6 a0_7 a0_8 a0_9 a0_10)) = some r:=H
       have A14:=aMk A140
       clear A140
       by_cases c15 : t158 = true
       ·subst c15
        have H1 : ((spec_l01Ip.f a0_7).bind fun t159 => (if t159 = true then (if (a0_8.size : Int) > 300 then (spec_ConnOK.j0 k true a0_0 a0_1 a0_2 a0_3 a0_4 a0_5 a0_6 a0_7 a0_8 a0_9 a0_10) else (spec_ConnOK.j0 k (decide ((a0_9.size : Int) > 300)) a0_0 a0_1 a0_2 a0_3 a0_4 a0_5 a0_6 a0_7 a0_8 a0_9 a0_10)) else (spec_ConnOK.j0 k true a0_0 a0_1 a0_2 a0_3 a0_4 a0_5 a0_6 a0_7 a0_8 a0_9 a0_10))) = some r:=by rw [if_pos rfl] at H;exact H
        clear H
        have H:=H1
        clear H1
        replace H:=Option.bind_eq_some_iff.mp H
        obtain ⟨t159,A160,H⟩:=H
        replace H : (if t159 = true then (if (a0_8.size : Int) > 300 then (spec_ConnOK.j0 k true a0_0 a0_1 a0_2 a0_3 a0_4 a0_5 a0_6 a0_7 a0_8 a0_9 a0_10) else (spec_ConnOK.j0 k (decide ((a0_9.size : Int) > 300)) a0_0 a0_1 a0_2 a0_3 a0_4 a0_5 a0_6 a0_7 a0_8 a0_9 a0_10)) else (spec_ConnOK.j0 k true a0_0 a0_1 a0_2 a0_3 a0_4 a0_5 a0_6 a0_7 a0_8 a0_9 a0_10)) = some r:=H
        have A16:=aMk A160
        clear A160
        by_cases c17 : t159 = true
        ·subst c17
         have H1 : (if (a0_8.size : Int) > 300 then (spec_ConnOK.j0 k true a0_0 a0_1 a0_2 a0_3 a0_4 a0_5 a0_6 a0_7 a0_8 a0_9 a0_10) else (spec_ConnOK.j0 k (decide ((a0_9.size : Int) > 300)) a0_0 a0_1 a0_2 a0_3 a0_4 a0_5 a0_6 a0_7 a0_8 a0_9 a0_10)) = some r:=by rw [if_pos rfl] at H;exact H
         clear H
         have H:=H1
         clear H1
         by_cases c18 : (a0_8.size : Int) > 300
         ·rw [if_pos c18] at H
          have c18b0 : decide (300 < (a0_8.size : Int)) = true:=decide_eq_true c18
          have c18b1 : decide (300 < a0_8.size) = true:=decide_eq_true (by omega)
          clear c18
          (first|rw [c18b0]|(simp only [i64_w,i32_w];rw [c18b0]) | skip)
          have H':=aMk H
          clear H
          have hcz19_0 : w3.cell? ⟨gb152,0,none⟩ = some (.string a0_0):=(bCe BK152.out 0).trans rfl
          have hcz19_1 : w3.cell? ⟨gb152,1,none⟩ = some (.int .i64 a0_1):=(bCe BK152.out 1).trans rfl
          have hcz19_2 : w3.cell? ⟨gb152,2,none⟩ = some (.int .i64 a0_2):=(bCe BK152.out 2).trans rfl
          have hcz19_3 : w3.cell? ⟨gb152,3,none⟩ = some (.int .i64 a0_3):=(bCe BK152.out 3).trans rfl
          have hcz19_4 : w3.cell? ⟨gb152,4,none⟩ = some (.int .i64 a0_4):=(bCe BK152.out 4).trans rfl
          have hcz19_5 : w3.cell? ⟨gb152,5,none⟩ = some (.int .i64 a0_5):=(bCe BK152.out 5).trans rfl
          have hcz19_6 : w3.cell? ⟨gb152,6,none⟩ = some (.int .i64 a0_6):=(bCe BK152.out 6).trans rfl
          have hcz19_7 : w3.cell? ⟨gb152,7,none⟩ = some (.int .i64 a0_7):=(bCe BK152.out 7).trans rfl
          have hcz19_8 : w3.cell? ⟨gb152,8,none⟩ = some (.string a0_8):=(bCe BK152.out 8).trans rfl
          have hcz19_9 : w3.cell? ⟨gb152,9,none⟩ = some (.string a0_9):=(bCe BK152.out 9).trans rfl
          have hcz19_10 : w3.cell? ⟨gb152,10,none⟩ = some (.bool a0_10):=(bCe BK152.out 10).trans rfl
          have hfz19_0:=bFr BK152.out 0
          have hfz19_1:=bFr BK152.out 1
          have hfz19_2:=bFr BK152.out 2
          have hfz19_3:=bFr BK152.out 3
          have hfz19_4:=bFr BK152.out 4
          have hfz19_5:=bFr BK152.out 5
          have hfz19_6:=bFr BK152.out 6
          have hfz19_7:=bFr BK152.out 7
          have hfz19_8:=bFr BK152.out 8
          have hfz19_9:=bFr BK152.out 9
          have hfz19_10:=bFr BK152.out 10
          go_wp2_with (first|((with_reducible refine gate_callee (f:=68) rfl ?_);refine goesL_ (some 5) rfl rfl Try.func68 (by kernel_rfl) rfl #[.string a0_0] rfl (by (try simp only [List.map_toArray,List.map_cons,List.map_nil]);first | done | rfl|(simp only [List.length_drop,List.length_take];rfl)) ?_;(with_reducible refine (spec_l01Mac.calls a0_0 true _ A4.out).mono ?_);rintro e w' ⟨rfl,⟨nd,rfl⟩⟩;refine ⟨_,rfl,?_⟩)|(go_at_call 69;(with_reducible refine (spec_l07Ask.calls a0_1 a0_2 true _ A6.out).mono ?_);rintro e w' ⟨rfl,⟨nd,rfl⟩⟩)|(go_at_call 59;(with_reducible refine (spec_l01Ip.calls a0_3 true _ A8.out).mono ?_);rintro e w' ⟨rfl,⟨nd,rfl⟩⟩)|(go_at_call 64;(with_reducible refine (spec_l01In.calls a0_4 1 4 true _ A10.out).mono ?_);rintro e w' ⟨rfl,⟨nd,rfl⟩⟩)|(go_at_call 59;(with_reducible refine (spec_l01Ip.calls a0_5 true _ A12.out).mono ?_);rintro e w' ⟨rfl,⟨nd,rfl⟩⟩)|(go_at_call 59;(with_reducible refine (spec_l01Ip.calls a0_6 true _ A14.out).mono ?_);rintro e w' ⟨rfl,⟨nd,rfl⟩⟩)|(go_at_call 59;(with_reducible refine (spec_l01Ip.calls a0_7 true _ A16.out).mono ?_);rintro e w' ⟨rfl,⟨nd,rfl⟩⟩))
          go_meet
          case rel => exact ⟨_,(true),(by first | rfl|(simp;done)|(simp [*];done)|(simp [ne_nil_b];done)|(simp [ne_nil_b, *];done)),H',⟨by first | omega|exact Nat.le_refl _⟩,⟨by (with_reducible repeat (first|refine bDn ?_ _|refine bDr ?_|refine bAl ?_ _));exact BK152.out⟩,⟨by repeat (first|(with_reducible first|exact HB.out|apply bwA|apply bwN|apply bw1|refine below_set ?_ GE152.out)|exact HB.out)⟩⟩
         ·rw [if_neg c18] at H
          have c18b0 : decide (300 < (a0_8.size : Int)) = false:=decide_eq_false c18
          have c18b1 : decide (300 < a0_8.size) = false:=decide_eq_false (by omega)
          clear c18
          (first|rw [c18b0]|(simp only [i64_w,i32_w];rw [c18b0]) | skip)
          have H':=aMk H
          clear H
          have hcz20_0 : w3.cell? ⟨gb152,0,none⟩ = some (.string a0_0):=(bCe BK152.out 0).trans rfl
          have hcz20_1 : w3.cell? ⟨gb152,1,none⟩ = some (.int .i64 a0_1):=(bCe BK152.out 1).trans rfl
          have hcz20_2 : w3.cell? ⟨gb152,2,none⟩ = some (.int .i64 a0_2):=(bCe BK152.out 2).trans rfl
          have hcz20_3 : w3.cell? ⟨gb152,3,none⟩ = some (.int .i64 a0_3):=(bCe BK152.out 3).trans rfl
          have hcz20_4 : w3.cell? ⟨gb152,4,none⟩ = some (.int .i64 a0_4):=(bCe BK152.out 4).trans rfl
          have hcz20_5 : w3.cell? ⟨gb152,5,none⟩ = some (.int .i64 a0_5):=(bCe BK152.out 5).trans rfl
          have hcz20_6 : w3.cell? ⟨gb152,6,none⟩ = some (.int .i64 a0_6):=(bCe BK152.out 6).trans rfl
          have hcz20_7 : w3.cell? ⟨gb152,7,none⟩ = some (.int .i64 a0_7):=(bCe BK152.out 7).trans rfl
          have hcz20_8 : w3.cell? ⟨gb152,8,none⟩ = some (.string a0_8):=(bCe BK152.out 8).trans rfl
          have hcz20_9 : w3.cell? ⟨gb152,9,none⟩ = some (.string a0_9):=(bCe BK152.out 9).trans rfl
          have hcz20_10 : w3.cell? ⟨gb152,10,none⟩ = some (.bool a0_10):=(bCe BK152.out 10).trans rfl
          have hfz20_0:=bFr BK152.out 0
          have hfz20_1:=bFr BK152.out 1
          have hfz20_2:=bFr BK152.out 2
          have hfz20_3:=bFr BK152.out 3
          have hfz20_4:=bFr BK152.out 4
          have hfz20_5:=bFr BK152.out 5
          have hfz20_6:=bFr BK152.out 6
          have hfz20_7:=bFr BK152.out 7
          have hfz20_8:=bFr BK152.out 8
          have hfz20_9:=bFr BK152.out 9
          have hfz20_10:=bFr BK152.out 10
          go_wp2_with (first|((with_reducible refine gate_callee (f:=68) rfl ?_);refine goesL_ (some 5) rfl rfl Try.func68 (by kernel_rfl) rfl #[.string a0_0] rfl (by (try simp only [List.map_toArray,List.map_cons,List.map_nil]);first | done | rfl|(simp only [List.length_drop,List.length_take];rfl)) ?_;(with_reducible refine (spec_l01Mac.calls a0_0 true _ A4.out).mono ?_);rintro e w' ⟨rfl,⟨nd,rfl⟩⟩;refine ⟨_,rfl,?_⟩)|(go_at_call 69;(with_reducible refine (spec_l07Ask.calls a0_1 a0_2 true _ A6.out).mono ?_);rintro e w' ⟨rfl,⟨nd,rfl⟩⟩)|(go_at_call 59;(with_reducible refine (spec_l01Ip.calls a0_3 true _ A8.out).mono ?_);rintro e w' ⟨rfl,⟨nd,rfl⟩⟩)|(go_at_call 64;(with_reducible refine (spec_l01In.calls a0_4 1 4 true _ A10.out).mono ?_);rintro e w' ⟨rfl,⟨nd,rfl⟩⟩)|(go_at_call 59;(with_reducible refine (spec_l01Ip.calls a0_5 true _ A12.out).mono ?_);rintro e w' ⟨rfl,⟨nd,rfl⟩⟩)|(go_at_call 59;(with_reducible refine (spec_l01Ip.calls a0_6 true _ A14.out).mono ?_);rintro e w' ⟨rfl,⟨nd,rfl⟩⟩)|(go_at_call 59;(with_reducible refine (spec_l01Ip.calls a0_7 true _ A16.out).mono ?_);rintro e w' ⟨rfl,⟨nd,rfl⟩⟩))
          go_meet
          case rel => exact ⟨_,(decide ((a0_9.size : Int) > 300)),(by first | rfl|(simp;done)|(simp [*];done)|(simp [ne_nil_b];done)|(simp [ne_nil_b, *];done)),H',⟨by first | omega|exact Nat.le_refl _⟩,⟨by (with_reducible repeat (first|refine bDn ?_ _|refine bDr ?_|refine bAl ?_ _));exact BK152.out⟩,⟨by repeat (first|(with_reducible first|exact HB.out|apply bwA|apply bwN|apply bw1|refine below_set ?_ GE152.out)|exact HB.out)⟩⟩
        ·replace c17:=Bool.eq_false_iff.mpr c17
         subst c17
         have H1 : (spec_ConnOK.j0 k true a0_0 a0_1 a0_2 a0_3 a0_4 a0_5 a0_6 a0_7 a0_8 a0_9 a0_10) = some r:=by rw [if_neg (show ¬ (false = true) by decide)] at H;exact H
         clear H
         have H:=H1
         clear H1
         have H':=aMk H
         clear H
         have hcz21_0 : w3.cell? ⟨gb152,0,none⟩ = some (.string a0_0):=(bCe BK152.out 0).trans rfl
         have hcz21_1 : w3.cell? ⟨gb152,1,none⟩ = some (.int .i64 a0_1):=(bCe BK152.out 1).trans rfl
         have hcz21_2 : w3.cell? ⟨gb152,2,none⟩ = some (.int .i64 a0_2):=(bCe BK152.out 2).trans rfl
         have hcz21_3 : w3.cell? ⟨gb152,3,none⟩ = some (.int .i64 a0_3):=(bCe BK152.out 3).trans rfl
         have hcz21_4 : w3.cell? ⟨gb152,4,none⟩ = some (.int .i64 a0_4):=(bCe BK152.out 4).trans rfl
         have hcz21_5 : w3.cell? ⟨gb152,5,none⟩ = some (.int .i64 a0_5):=(bCe BK152.out 5).trans rfl
         have hcz21_6 : w3.cell? ⟨gb152,6,none⟩ = some (.int .i64 a0_6):=(bCe BK152.out 6).trans rfl
         have hcz21_7 : w3.cell? ⟨gb152,7,none⟩ = some (.int .i64 a0_7):=(bCe BK152.out 7).trans rfl
         have hcz21_8 : w3.cell? ⟨gb152,8,none⟩ = some (.string a0_8):=(bCe BK152.out 8).trans rfl
         have hcz21_9 : w3.cell? ⟨gb152,9,none⟩ = some (.string a0_9):=(bCe BK152.out 9).trans rfl
         have hcz21_10 : w3.cell? ⟨gb152,10,none⟩ = some (.bool a0_10):=(bCe BK152.out 10).trans rfl
         have hfz21_0:=bFr BK152.out 0
         have hfz21_1:=bFr BK152.out 1
         have hfz21_2:=bFr BK152.out 2
         have hfz21_3:=bFr BK152.out 3
         have hfz21_4:=bFr BK152.out 4
         have hfz21_5:=bFr BK152.out 5
         have hfz21_6:=bFr BK152.out 6
         have hfz21_7:=bFr BK152.out 7
         have hfz21_8:=bFr BK152.out 8
         have hfz21_9:=bFr BK152.out 9
         have hfz21_10:=bFr BK152.out 10
         go_wp2_with (first|((with_reducible refine gate_callee (f:=68) rfl ?_);refine goesL_ (some 5) rfl rfl Try.func68 (by kernel_rfl) rfl #[.string a0_0] rfl (by (try simp only [List.map_toArray,List.map_cons,List.map_nil]);first | done | rfl|(simp only [List.length_drop,List.length_take];rfl)) ?_;(with_reducible refine (spec_l01Mac.calls a0_0 true _ A4.out).mono ?_);rintro e w' ⟨rfl,⟨nd,rfl⟩⟩;refine ⟨_,rfl,?_⟩)|(go_at_call 69;(with_reducible refine (spec_l07Ask.calls a0_1 a0_2 true _ A6.out).mono ?_);rintro e w' ⟨rfl,⟨nd,rfl⟩⟩)|(go_at_call 59;(with_reducible refine (spec_l01Ip.calls a0_3 true _ A8.out).mono ?_);rintro e w' ⟨rfl,⟨nd,rfl⟩⟩)|(go_at_call 64;(with_reducible refine (spec_l01In.calls a0_4 1 4 true _ A10.out).mono ?_);rintro e w' ⟨rfl,⟨nd,rfl⟩⟩)|(go_at_call 59;(with_reducible refine (spec_l01Ip.calls a0_5 true _ A12.out).mono ?_);rintro e w' ⟨rfl,⟨nd,rfl⟩⟩)|(go_at_call 59;(with_reducible refine (spec_l01Ip.calls a0_6 true _ A14.out).mono ?_);rintro e w' ⟨rfl,⟨nd,rfl⟩⟩)|(go_at_call 59;(with_reducible refine (spec_l01Ip.calls a0_7 false _ A16.out).mono ?_);rintro e w' ⟨rfl,⟨nd,rfl⟩⟩))
         go_meet
         case rel => exact ⟨_,(true),(by first | rfl|(simp;done)|(simp [*];done)|(simp [ne_nil_b];done)|(simp [ne_nil_b, *];done)),H',⟨by first | omega|exact Nat.le_refl _⟩,⟨by (with_reducible repeat (first|refine bDn ?_ _|refine bDr ?_|refine bAl ?_ _));exact BK152.out⟩,⟨by repeat (first|(with_reducible first|exact HB.out|apply bwA|apply bwN|apply bw1|refine below_set ?_ GE152.out)|exact HB.out)⟩⟩
       ·replace c15:=Bool.eq_false_iff.mpr c15
        subst c15
        have H1 : (spec_ConnOK.j0 k true a0_0 a0_1 a0_2 a0_3 a0_4 a0_5 a0_6 a0_7 a0_8 a0_9 a0_10) = some r:=by rw [if_neg (show ¬ (false = true) by decide)] at H;exact H
        clear H
        have H:=H1
        clear H1
        have H':=aMk H
        clear H
        have hcz22_0 : w3.cell? ⟨gb152,0,none⟩ = some (.string a0_0):=(bCe BK152.out 0).trans rfl
        have hcz22_1 : w3.cell? ⟨gb152,1,none⟩ = some (.int .i64 a0_1):=(bCe BK152.out 1).trans rfl
        have hcz22_2 : w3.cell? ⟨gb152,2,none⟩ = some (.int .i64 a0_2):=(bCe BK152.out 2).trans rfl
        have hcz22_3 : w3.cell? ⟨gb152,3,none⟩ = some (.int .i64 a0_3):=(bCe BK152.out 3).trans rfl
        have hcz22_4 : w3.cell? ⟨gb152,4,none⟩ = some (.int .i64 a0_4):=(bCe BK152.out 4).trans rfl
        have hcz22_5 : w3.cell? ⟨gb152,5,none⟩ = some (.int .i64 a0_5):=(bCe BK152.out 5).trans rfl
        have hcz22_6 : w3.cell? ⟨gb152,6,none⟩ = some (.int .i64 a0_6):=(bCe BK152.out 6).trans rfl
        have hcz22_7 : w3.cell? ⟨gb152,7,none⟩ = some (.int .i64 a0_7):=(bCe BK152.out 7).trans rfl
        have hcz22_8 : w3.cell? ⟨gb152,8,none⟩ = some (.string a0_8):=(bCe BK152.out 8).trans rfl
        have hcz22_9 : w3.cell? ⟨gb152,9,none⟩ = some (.string a0_9):=(bCe BK152.out 9).trans rfl
        have hcz22_10 : w3.cell? ⟨gb152,10,none⟩ = some (.bool a0_10):=(bCe BK152.out 10).trans rfl
        have hfz22_0:=bFr BK152.out 0
        have hfz22_1:=bFr BK152.out 1
        have hfz22_2:=bFr BK152.out 2
        have hfz22_3:=bFr BK152.out 3
        have hfz22_4:=bFr BK152.out 4
        have hfz22_5:=bFr BK152.out 5
        have hfz22_6:=bFr BK152.out 6
        have hfz22_7:=bFr BK152.out 7
        have hfz22_8:=bFr BK152.out 8
        have hfz22_9:=bFr BK152.out 9
        have hfz22_10:=bFr BK152.out 10
        go_wp2_with (first|((with_reducible refine gate_callee (f:=68) rfl ?_);refine goesL_ (some 5) rfl rfl Try.func68 (by kernel_rfl) rfl #[.string a0_0] rfl (by (try simp only [List.map_toArray,List.map_cons,List.map_nil]);first | done | rfl|(simp only [List.length_drop,List.length_take];rfl)) ?_;(with_reducible refine (spec_l01Mac.calls a0_0 true _ A4.out).mono ?_);rintro e w' ⟨rfl,⟨nd,rfl⟩⟩;refine ⟨_,rfl,?_⟩)|(go_at_call 69;(with_reducible refine (spec_l07Ask.calls a0_1 a0_2 true _ A6.out).mono ?_);rintro e w' ⟨rfl,⟨nd,rfl⟩⟩)|(go_at_call 59;(with_reducible refine (spec_l01Ip.calls a0_3 true _ A8.out).mono ?_);rintro e w' ⟨rfl,⟨nd,rfl⟩⟩)|(go_at_call 64;(with_reducible refine (spec_l01In.calls a0_4 1 4 true _ A10.out).mono ?_);rintro e w' ⟨rfl,⟨nd,rfl⟩⟩)|(go_at_call 59;(with_reducible refine (spec_l01Ip.calls a0_5 true _ A12.out).mono ?_);rintro e w' ⟨rfl,⟨nd,rfl⟩⟩)|(go_at_call 59;(with_reducible refine (spec_l01Ip.calls a0_6 false _ A14.out).mono ?_);rintro e w' ⟨rfl,⟨nd,rfl⟩⟩))
        go_meet
        case rel => exact ⟨_,(true),(by first | rfl|(simp;done)|(simp [*];done)|(simp [ne_nil_b];done)|(simp [ne_nil_b, *];done)),H',⟨by first | omega|exact Nat.le_refl _⟩,⟨by (with_reducible repeat (first|refine bDn ?_ _|refine bDr ?_|refine bAl ?_ _));exact BK152.out⟩,⟨by repeat (first|(with_reducible first|exact HB.out|apply bwA|apply bwN|apply bw1|refine below_set ?_ GE152.out)|exact HB.out)⟩⟩
      ·replace c13:=Bool.eq_false_iff.mpr c13
       subst c13
       have H1 : (spec_ConnOK.j0 k true a0_0 a0_1 a0_2 a0_3 a0_4 a0_5 a0_6 a0_7 a0_8 a0_9 a0_10) = some r:=by rw [if_neg (show ¬ (false = true) by decide)] at H;exact H
       clear H
       have H:=H1
       clear H1
       have H':=aMk H
       clear H
       have hcz23_0 : w3.cell? ⟨gb152,0,none⟩ = some (.string a0_0):=(bCe BK152.out 0).trans rfl
       have hcz23_1 : w3.cell? ⟨gb152,1,none⟩ = some (.int .i64 a0_1):=(bCe BK152.out 1).trans rfl
       have hcz23_2 : w3.cell? ⟨gb152,2,none⟩ = some (.int .i64 a0_2):=(bCe BK152.out 2).trans rfl
       have hcz23_3 : w3.cell? ⟨gb152,3,none⟩ = some (.int .i64 a0_3):=(bCe BK152.out 3).trans rfl
       have hcz23_4 : w3.cell? ⟨gb152,4,none⟩ = some (.int .i64 a0_4):=(bCe BK152.out 4).trans rfl
       have hcz23_5 : w3.cell? ⟨gb152,5,none⟩ = some (.int .i64 a0_5):=(bCe BK152.out 5).trans rfl
       have hcz23_6 : w3.cell? ⟨gb152,6,none⟩ = some (.int .i64 a0_6):=(bCe BK152.out 6).trans rfl
       have hcz23_7 : w3.cell? ⟨gb152,7,none⟩ = some (.int .i64 a0_7):=(bCe BK152.out 7).trans rfl
       have hcz23_8 : w3.cell? ⟨gb152,8,none⟩ = some (.string a0_8):=(bCe BK152.out 8).trans rfl
       have hcz23_9 : w3.cell? ⟨gb152,9,none⟩ = some (.string a0_9):=(bCe BK152.out 9).trans rfl
       have hcz23_10 : w3.cell? ⟨gb152,10,none⟩ = some (.bool a0_10):=(bCe BK152.out 10).trans rfl
       have hfz23_0:=bFr BK152.out 0
       have hfz23_1:=bFr BK152.out 1
       have hfz23_2:=bFr BK152.out 2
       have hfz23_3:=bFr BK152.out 3
       have hfz23_4:=bFr BK152.out 4
       have hfz23_5:=bFr BK152.out 5
       have hfz23_6:=bFr BK152.out 6
       have hfz23_7:=bFr BK152.out 7
       have hfz23_8:=bFr BK152.out 8
       have hfz23_9:=bFr BK152.out 9
       have hfz23_10:=bFr BK152.out 10
       go_wp2_with (first|((with_reducible refine gate_callee (f:=68) rfl ?_);refine goesL_ (some 5) rfl rfl Try.func68 (by kernel_rfl) rfl #[.string a0_0] rfl (by (try simp only [List.map_toArray,List.map_cons,List.map_nil]);first | done | rfl|(simp only [List.length_drop,List.length_take];rfl)) ?_;(with_reducible refine (spec_l01Mac.calls a0_0 true _ A4.out).mono ?_);rintro e w' ⟨rfl,⟨nd,rfl⟩⟩;refine ⟨_,rfl,?_⟩)|(go_at_call 69;(with_reducible refine (spec_l07Ask.calls a0_1 a0_2 true _ A6.out).mono ?_);rintro e w' ⟨rfl,⟨nd,rfl⟩⟩)|(go_at_call 59;(with_reducible refine (spec_l01Ip.calls a0_3 true _ A8.out).mono ?_);rintro e w' ⟨rfl,⟨nd,rfl⟩⟩)|(go_at_call 64;(with_reducible refine (spec_l01In.calls a0_4 1 4 true _ A10.out).mono ?_);rintro e w' ⟨rfl,⟨nd,rfl⟩⟩)|(go_at_call 59;(with_reducible refine (spec_l01Ip.calls a0_5 false _ A12.out).mono ?_);rintro e w' ⟨rfl,⟨nd,rfl⟩⟩))
       go_meet
       case rel => exact ⟨_,(true),(by first | rfl|(simp;done)|(simp [*];done)|(simp [ne_nil_b];done)|(simp [ne_nil_b, *];done)),H',⟨by first | omega|exact Nat.le_refl _⟩,⟨by (with_reducible repeat (first|refine bDn ?_ _|refine bDr ?_|refine bAl ?_ _));exact BK152.out⟩,⟨by repeat (first|(with_reducible first|exact HB.out|apply bwA|apply bwN|apply bw1|refine below_set ?_ GE152.out)|exact HB.out)⟩⟩
     ·replace c11:=Bool.eq_false_iff.mpr c11
      subst c11
      have H1 : (spec_ConnOK.j0 k true a0_0 a0_1 a0_2 a0_3 a0_4 a0_5 a0_6 a0_7 a0_8 a0_9 a0_10) = some r:=by rw [if_neg (show ¬ (false = true) by decide)] at H;exact H
      clear H
      have H:=H1
      clear H1
      have H':=aMk H
      clear H
      have hcz24_0 : w3.cell? ⟨gb152,0,none⟩ = some (.string a0_0):=(bCe BK152.out 0).trans rfl
      have hcz24_1 : w3.cell? ⟨gb152,1,none⟩ = some (.int .i64 a0_1):=(bCe BK152.out 1).trans rfl
      have hcz24_2 : w3.cell? ⟨gb152,2,none⟩ = some (.int .i64 a0_2):=(bCe BK152.out 2).trans rfl
      have hcz24_3 : w3.cell? ⟨gb152,3,none⟩ = some (.int .i64 a0_3):=(bCe BK152.out 3).trans rfl
      have hcz24_4 : w3.cell? ⟨gb152,4,none⟩ = some (.int .i64 a0_4):=(bCe BK152.out 4).trans rfl
      have hcz24_5 : w3.cell? ⟨gb152,5,none⟩ = some (.int .i64 a0_5):=(bCe BK152.out 5).trans rfl
      have hcz24_6 : w3.cell? ⟨gb152,6,none⟩ = some (.int .i64 a0_6):=(bCe BK152.out 6).trans rfl
      have hcz24_7 : w3.cell? ⟨gb152,7,none⟩ = some (.int .i64 a0_7):=(bCe BK152.out 7).trans rfl
      have hcz24_8 : w3.cell? ⟨gb152,8,none⟩ = some (.string a0_8):=(bCe BK152.out 8).trans rfl
      have hcz24_9 : w3.cell? ⟨gb152,9,none⟩ = some (.string a0_9):=(bCe BK152.out 9).trans rfl
      have hcz24_10 : w3.cell? ⟨gb152,10,none⟩ = some (.bool a0_10):=(bCe BK152.out 10).trans rfl
      have hfz24_0:=bFr BK152.out 0
      have hfz24_1:=bFr BK152.out 1
      have hfz24_2:=bFr BK152.out 2
      have hfz24_3:=bFr BK152.out 3
      have hfz24_4:=bFr BK152.out 4
      have hfz24_5:=bFr BK152.out 5
      have hfz24_6:=bFr BK152.out 6
      have hfz24_7:=bFr BK152.out 7
      have hfz24_8:=bFr BK152.out 8
      have hfz24_9:=bFr BK152.out 9
      have hfz24_10:=bFr BK152.out 10
      go_wp2_with (first|((with_reducible refine gate_callee (f:=68) rfl ?_);refine goesL_ (some 5) rfl rfl Try.func68 (by kernel_rfl) rfl #[.string a0_0] rfl (by (try simp only [List.map_toArray,List.map_cons,List.map_nil]);first | done | rfl|(simp only [List.length_drop,List.length_take];rfl)) ?_;(with_reducible refine (spec_l01Mac.calls a0_0 true _ A4.out).mono ?_);rintro e w' ⟨rfl,⟨nd,rfl⟩⟩;refine ⟨_,rfl,?_⟩)|(go_at_call 69;(with_reducible refine (spec_l07Ask.calls a0_1 a0_2 true _ A6.out).mono ?_);rintro e w' ⟨rfl,⟨nd,rfl⟩⟩)|(go_at_call 59;(with_reducible refine (spec_l01Ip.calls a0_3 true _ A8.out).mono ?_);rintro e w' ⟨rfl,⟨nd,rfl⟩⟩)|(go_at_call 64;(with_reducible refine (spec_l01In.calls a0_4 1 4 false _ A10.out).mono ?_);rintro e w' ⟨rfl,⟨nd,rfl⟩⟩))
      go_meet
      case rel => exact ⟨_,(true),(by first | rfl|(simp;done)|(simp [*];done)|(simp [ne_nil_b];done)|(simp [ne_nil_b, *];done)),H',⟨by first | omega|exact Nat.le_refl _⟩,⟨by (with_reducible repeat (first|refine bDn ?_ _|refine bDr ?_|refine bAl ?_ _));exact BK152.out⟩,⟨by repeat (first|(with_reducible first|exact HB.out|apply bwA|apply bwN|apply bw1|refine below_set ?_ GE152.out)|exact HB.out)⟩⟩
    ·replace c9:=Bool.eq_false_iff.mpr c9
     subst c9
     have H1 : (spec_ConnOK.j0 k true a0_0 a0_1 a0_2 a0_3 a0_4 a0_5 a0_6 a0_7 a0_8 a0_9 a0_10) = some r:=by rw [if_neg (show ¬ (false = true) by decide)] at H;exact H
     clear H
     have H:=H1
     clear H1
     have H':=aMk H
     clear H
     have hcz25_0 : w3.cell? ⟨gb152,0,none⟩ = some (.string a0_0):=(bCe BK152.out 0).trans rfl
     have hcz25_1 : w3.cell? ⟨gb152,1,none⟩ = some (.int .i64 a0_1):=(bCe BK152.out 1).trans rfl
     have hcz25_2 : w3.cell? ⟨gb152,2,none⟩ = some (.int .i64 a0_2):=(bCe BK152.out 2).trans rfl
     have hcz25_3 : w3.cell? ⟨gb152,3,none⟩ = some (.int .i64 a0_3):=(bCe BK152.out 3).trans rfl
     have hcz25_4 : w3.cell? ⟨gb152,4,none⟩ = some (.int .i64 a0_4):=(bCe BK152.out 4).trans rfl
     have hcz25_5 : w3.cell? ⟨gb152,5,none⟩ = some (.int .i64 a0_5):=(bCe BK152.out 5).trans rfl
     have hcz25_6 : w3.cell? ⟨gb152,6,none⟩ = some (.int .i64 a0_6):=(bCe BK152.out 6).trans rfl
     have hcz25_7 : w3.cell? ⟨gb152,7,none⟩ = some (.int .i64 a0_7):=(bCe BK152.out 7).trans rfl
     have hcz25_8 : w3.cell? ⟨gb152,8,none⟩ = some (.string a0_8):=(bCe BK152.out 8).trans rfl
     have hcz25_9 : w3.cell? ⟨gb152,9,none⟩ = some (.string a0_9):=(bCe BK152.out 9).trans rfl
     have hcz25_10 : w3.cell? ⟨gb152,10,none⟩ = some (.bool a0_10):=(bCe BK152.out 10).trans rfl
     have hfz25_0:=bFr BK152.out 0
     have hfz25_1:=bFr BK152.out 1
     have hfz25_2:=bFr BK152.out 2
     have hfz25_3:=bFr BK152.out 3
     have hfz25_4:=bFr BK152.out 4
     have hfz25_5:=bFr BK152.out 5
     have hfz25_6:=bFr BK152.out 6
     have hfz25_7:=bFr BK152.out 7
     have hfz25_8:=bFr BK152.out 8
     have hfz25_9:=bFr BK152.out 9
     have hfz25_10:=bFr BK152.out 10
     go_wp2_with (first|((with_reducible refine gate_callee (f:=68) rfl ?_);refine goesL_ (some 5) rfl rfl Try.func68 (by kernel_rfl) rfl #[.string a0_0] rfl (by (try simp only [List.map_toArray,List.map_cons,List.map_nil]);first | done | rfl|(simp only [List.length_drop,List.length_take];rfl)) ?_;(with_reducible refine (spec_l01Mac.calls a0_0 true _ A4.out).mono ?_);rintro e w' ⟨rfl,⟨nd,rfl⟩⟩;refine ⟨_,rfl,?_⟩)|(go_at_call 69;(with_reducible refine (spec_l07Ask.calls a0_1 a0_2 true _ A6.out).mono ?_);rintro e w' ⟨rfl,⟨nd,rfl⟩⟩)|(go_at_call 59;(with_reducible refine (spec_l01Ip.calls a0_3 false _ A8.out).mono ?_);rintro e w' ⟨rfl,⟨nd,rfl⟩⟩))
     go_meet
     case rel => exact ⟨_,(true),(by first | rfl|(simp;done)|(simp [*];done)|(simp [ne_nil_b];done)|(simp [ne_nil_b, *];done)),H',⟨by first | omega|exact Nat.le_refl _⟩,⟨by (with_reducible repeat (first|refine bDn ?_ _|refine bDr ?_|refine bAl ?_ _));exact BK152.out⟩,⟨by repeat (first|(with_reducible first|exact HB.out|apply bwA|apply bwN|apply bw1|refine below_set ?_ GE152.out)|exact HB.out)⟩⟩
   ·replace c7:=Bool.eq_false_iff.mpr c7
    subst c7
    have H1 : (spec_ConnOK.j0 k true a0_0 a0_1 a0_2 a0_3 a0_4 a0_5 a0_6 a0_7 a0_8 a0_9 a0_10) = some r:=by rw [if_neg (show ¬ (false = true) by decide)] at H;exact H
    clear H
    have H:=H1
    clear H1
    have H':=aMk H
    clear H
    have hcz26_0 : w3.cell? ⟨gb152,0,none⟩ = some (.string a0_0):=(bCe BK152.out 0).trans rfl
    have hcz26_1 : w3.cell? ⟨gb152,1,none⟩ = some (.int .i64 a0_1):=(bCe BK152.out 1).trans rfl
    have hcz26_2 : w3.cell? ⟨gb152,2,none⟩ = some (.int .i64 a0_2):=(bCe BK152.out 2).trans rfl
    have hcz26_3 : w3.cell? ⟨gb152,3,none⟩ = some (.int .i64 a0_3):=(bCe BK152.out 3).trans rfl
    have hcz26_4 : w3.cell? ⟨gb152,4,none⟩ = some (.int .i64 a0_4):=(bCe BK152.out 4).trans rfl
    have hcz26_5 : w3.cell? ⟨gb152,5,none⟩ = some (.int .i64 a0_5):=(bCe BK152.out 5).trans rfl
    have hcz26_6 : w3.cell? ⟨gb152,6,none⟩ = some (.int .i64 a0_6):=(bCe BK152.out 6).trans rfl
    have hcz26_7 : w3.cell? ⟨gb152,7,none⟩ = some (.int .i64 a0_7):=(bCe BK152.out 7).trans rfl
    have hcz26_8 : w3.cell? ⟨gb152,8,none⟩ = some (.string a0_8):=(bCe BK152.out 8).trans rfl
    have hcz26_9 : w3.cell? ⟨gb152,9,none⟩ = some (.string a0_9):=(bCe BK152.out 9).trans rfl
    have hcz26_10 : w3.cell? ⟨gb152,10,none⟩ = some (.bool a0_10):=(bCe BK152.out 10).trans rfl
    have hfz26_0:=bFr BK152.out 0
    have hfz26_1:=bFr BK152.out 1
    have hfz26_2:=bFr BK152.out 2
    have hfz26_3:=bFr BK152.out 3
    have hfz26_4:=bFr BK152.out 4
    have hfz26_5:=bFr BK152.out 5
    have hfz26_6:=bFr BK152.out 6
    have hfz26_7:=bFr BK152.out 7
    have hfz26_8:=bFr BK152.out 8
    have hfz26_9:=bFr BK152.out 9
    have hfz26_10:=bFr BK152.out 10
    go_wp2_with (first|((with_reducible refine gate_callee (f:=68) rfl ?_);refine goesL_ (some 5) rfl rfl Try.func68 (by kernel_rfl) rfl #[.string a0_0] rfl (by (try simp only [List.map_toArray,List.map_cons,List.map_nil]);first | done | rfl|(simp only [List.length_drop,List.length_take];rfl)) ?_;(with_reducible refine (spec_l01Mac.calls a0_0 true _ A4.out).mono ?_);rintro e w' ⟨rfl,⟨nd,rfl⟩⟩;refine ⟨_,rfl,?_⟩)|(go_at_call 69;(with_reducible refine (spec_l07Ask.calls a0_1 a0_2 false _ A6.out).mono ?_);rintro e w' ⟨rfl,⟨nd,rfl⟩⟩))
    go_meet
    case rel => exact ⟨_,(true),(by first | rfl|(simp;done)|(simp [*];done)|(simp [ne_nil_b];done)|(simp [ne_nil_b, *];done)),H',⟨by first | omega|exact Nat.le_refl _⟩,⟨by (with_reducible repeat (first|refine bDn ?_ _|refine bDr ?_|refine bAl ?_ _));exact BK152.out⟩,⟨by repeat (first|(with_reducible first|exact HB.out|apply bwA|apply bwN|apply bw1|refine below_set ?_ GE152.out)|exact HB.out)⟩⟩
  ·replace c5:=Bool.eq_false_iff.mpr c5
   subst c5
   have H1 : (spec_ConnOK.j0 k true a0_0 a0_1 a0_2 a0_3 a0_4 a0_5 a0_6 a0_7 a0_8 a0_9 a0_10) = some r:=by rw [if_neg (show ¬ (false = true) by decide)] at H;exact H
   clear H
   have H:=H1
   clear H1
   have H':=aMk H
   clear H
   have hcz27_0 : w3.cell? ⟨gb152,0,none⟩ = some (.string a0_0):=(bCe BK152.out 0).trans rfl
   have hcz27_1 : w3.cell? ⟨gb152,1,none⟩ = some (.int .i64 a0_1):=(bCe BK152.out 1).trans rfl
   have hcz27_2 : w3.cell? ⟨gb152,2,none⟩ = some (.int .i64 a0_2):=(bCe BK152.out 2).trans rfl
   have hcz27_3 : w3.cell? ⟨gb152,3,none⟩ = some (.int .i64 a0_3):=(bCe BK152.out 3).trans rfl
   have hcz27_4 : w3.cell? ⟨gb152,4,none⟩ = some (.int .i64 a0_4):=(bCe BK152.out 4).trans rfl
   have hcz27_5 : w3.cell? ⟨gb152,5,none⟩ = some (.int .i64 a0_5):=(bCe BK152.out 5).trans rfl
   have hcz27_6 : w3.cell? ⟨gb152,6,none⟩ = some (.int .i64 a0_6):=(bCe BK152.out 6).trans rfl
   have hcz27_7 : w3.cell? ⟨gb152,7,none⟩ = some (.int .i64 a0_7):=(bCe BK152.out 7).trans rfl
   have hcz27_8 : w3.cell? ⟨gb152,8,none⟩ = some (.string a0_8):=(bCe BK152.out 8).trans rfl
   have hcz27_9 : w3.cell? ⟨gb152,9,none⟩ = some (.string a0_9):=(bCe BK152.out 9).trans rfl
   have hcz27_10 : w3.cell? ⟨gb152,10,none⟩ = some (.bool a0_10):=(bCe BK152.out 10).trans rfl
   have hfz27_0:=bFr BK152.out 0
   have hfz27_1:=bFr BK152.out 1
   have hfz27_2:=bFr BK152.out 2
   have hfz27_3:=bFr BK152.out 3
   have hfz27_4:=bFr BK152.out 4
   have hfz27_5:=bFr BK152.out 5
   have hfz27_6:=bFr BK152.out 6
   have hfz27_7:=bFr BK152.out 7
   have hfz27_8:=bFr BK152.out 8
   have hfz27_9:=bFr BK152.out 9
   have hfz27_10:=bFr BK152.out 10
   go_wp2_with (first|((with_reducible refine gate_callee (f:=68) rfl ?_);refine goesL_ (some 5) rfl rfl Try.func68 (by kernel_rfl) rfl #[.string a0_0] rfl (by (try simp only [List.map_toArray,List.map_cons,List.map_nil]);first | done | rfl|(simp only [List.length_drop,List.length_take];rfl)) ?_;(with_reducible refine (spec_l01Mac.calls a0_0 false _ A4.out).mono ?_);rintro e w' ⟨rfl,⟨nd,rfl⟩⟩;refine ⟨_,rfl,?_⟩))
   go_meet
   case rel => exact ⟨_,(true),(by first | rfl|(simp;done)|(simp [*];done)|(simp [ne_nil_b];done)|(simp [ne_nil_b, *];done)),H',⟨by first | omega|exact Nat.le_refl _⟩,⟨by (with_reducible repeat (first|refine bDn ?_ _|refine bDr ?_|refine bAl ?_ _));exact BK152.out⟩,⟨by repeat (first|(with_reducible first|exact HB.out|apply bwA|apply bwN|apply bw1|refine below_set ?_ GE152.out)|exact HB.out)⟩⟩
 case rest =>
  clear HC2
  try clear c1
  try clear c2
  try clear p2
  try clear c5
  try clear c6
  try clear c7
  try clear c9
  try clear c11
  try clear c13
  try clear c15
  try clear c17
  try clear c18
  try clear c18b0
  try clear c18b1
  try clear c23
  try clear hcz19_0
  try clear hcz19_1
  try clear hcz19_10
  try clear hcz19_2
  try clear hcz19_3
  try clear hcz19_4
  try clear hcz19_5
  try clear hcz19_6
  try clear hcz19_7
  try clear hcz19_8
  try clear hcz19_9
  try clear hcz20_0
  try clear hcz20_1
  try clear hcz20_10
  try clear hcz20_2
  try clear hcz20_3
  try clear hcz20_4
  try clear hcz20_5
  try clear hcz20_6
  try clear hcz20_7
  try clear hcz20_8
  try clear hcz20_9
  try clear hcz21_0
  try clear hcz21_1
  try clear hcz21_10
  try clear hcz21_2
  try clear hcz21_3
  try clear hcz21_4
  try clear hcz21_5
  try clear hcz21_6
  try clear hcz21_7
  try clear hcz21_8
  try clear hcz21_9
  try clear hcz22_0
  try clear hcz22_1
  try clear hcz22_10
  try clear hcz22_2
  try clear hcz22_3
  try clear hcz22_4
  try clear hcz22_5
  try clear hcz22_6
  try clear hcz22_7
  try clear hcz22_8
  try clear hcz22_9
  try clear hcz23_0
  try clear hcz23_1
  try clear hcz23_10
  try clear hcz23_2
  try clear hcz23_3
  try clear hcz23_4
  try clear hcz23_5
  try clear hcz23_6
  try clear hcz23_7
  try clear hcz23_8
  try clear hcz23_9
  try clear hcz24_0
  try clear hcz24_1
  try clear hcz24_10
  try clear hcz24_2
  try clear hcz24_3
  try clear hcz24_4
  try clear hcz24_5
  try clear hcz24_6
  try clear hcz24_7
  try clear hcz24_8
  try clear hcz24_9
  try clear hcz25_0
  try clear hcz25_1
  try clear hcz25_10
  try clear hcz25_2
  try clear hcz25_3
  try clear hcz25_4
  try clear hcz25_5
  try clear hcz25_6
  try clear hcz25_7
  try clear hcz25_8
  try clear hcz25_9
  try clear hcz26_0
  try clear hcz26_1
  try clear hcz26_10
  try clear hcz26_2
  try clear hcz26_3
  try clear hcz26_4
  try clear hcz26_5
  try clear hcz26_6
  try clear hcz26_7
  try clear hcz26_8
  try clear hcz26_9
  try clear hcz27_0
  try clear hcz27_1
  try clear hcz27_10
  try clear hcz27_2
  try clear hcz27_3
  try clear hcz27_4
  try clear hcz27_5
  try clear hcz27_6
  try clear hcz27_7
  try clear hcz27_8
  try clear hcz27_9
  try clear hfz19_0
  try clear hfz19_1
  try clear hfz19_10
  try clear hfz19_2
  try clear hfz19_3
  try clear hfz19_4
  try clear hfz19_5
  try clear hfz19_6
  try clear hfz19_7
  try clear hfz19_8
  try clear hfz19_9
  try clear hfz20_0
  try clear hfz20_1
  try clear hfz20_10
  try clear hfz20_2
  try clear hfz20_3
  try clear hfz20_4
  try clear hfz20_5
  try clear hfz20_6
  try clear hfz20_7
  try clear hfz20_8
  try clear hfz20_9
  try clear hfz21_0
  try clear hfz21_1
  try clear hfz21_10
  try clear hfz21_2
  try clear hfz21_3
  try clear hfz21_4
  try clear hfz21_5
  try clear hfz21_6
  try clear hfz21_7
  try clear hfz21_8
  try clear hfz21_9
  try clear hfz22_0
  try clear hfz22_1
  try clear hfz22_10
  try clear hfz22_2
  try clear hfz22_3
  try clear hfz22_4
  try clear hfz22_5
  try clear hfz22_6
  try clear hfz22_7
  try clear hfz22_8
  try clear hfz22_9
  try clear hfz23_0
  try clear hfz23_1
  try clear hfz23_10
  try clear hfz23_2
  try clear hfz23_3
  try clear hfz23_4
  try clear hfz23_5
  try clear hfz23_6
  try clear hfz23_7
  try clear hfz23_8
  try clear hfz23_9
  try clear hfz24_0
  try clear hfz24_1
  try clear hfz24_10
  try clear hfz24_2
  try clear hfz24_3
  try clear hfz24_4
  try clear hfz24_5
  try clear hfz24_6
  try clear hfz24_7
  try clear hfz24_8
  try clear hfz24_9
  try clear hfz25_0
  try clear hfz25_1
  try clear hfz25_10
  try clear hfz25_2
  try clear hfz25_3
  try clear hfz25_4
  try clear hfz25_5
  try clear hfz25_6
  try clear hfz25_7
  try clear hfz25_8
  try clear hfz25_9
  try clear hfz26_0
  try clear hfz26_1
  try clear hfz26_10
  try clear hfz26_2
  try clear hfz26_3
  try clear hfz26_4
  try clear hfz26_5
  try clear hfz26_6
  try clear hfz26_7
  try clear hfz26_8
  try clear hfz26_9
  try clear hfz27_0
  try clear hfz27_1
  try clear hfz27_10
  try clear hfz27_2
  try clear hfz27_3
  try clear hfz27_4
  try clear hfz27_5
  try clear hfz27_6
  try clear hfz27_7
  try clear hfz27_8
  try clear hfz27_9
  obtain ⟨kq,x56_1,rfl,HA,HJ1,BK152,HB⟩:=hcut
  cases kq with
  | zero => exact absurd HA.out (by simp [spec_ConnOK.j0])
  | succ kj1 =>
   have H:=HA.out
   clear HA
   simp only [spec_ConnOK.j0] at H
   by_cases c28 : x56_1 = true
   ·subst c28
    have H1 : (some false) = some r:=by rw [if_pos rfl] at H;exact H
    clear H
    have H:=H1
    clear H1
    obtain rfl:=Option.some.inj H
    go_wp2
    go_ret
    exact ⟨by first | rfl|(simp [errW_none,errW_some] <;> rfl)|(simp [*,errW_none,errW_some] <;> rfl),by repeat (first|(with_reducible first|exact HB.out|apply bwA|apply bwN|apply bw1|refine below_set ?_ GE152.out)|exact HB.out)⟩
   ·replace c28:=Bool.eq_false_iff.mpr c28
    subst c28
    have H1 : (if a0_4 = 1 then (if a0_8.toList = ([] : List UInt8) then (if (a0_10 != (a0_4 == 3)) = true then (spec_ConnOK.j1 kj1 true a0_0 a0_1 a0_2 a0_3 a0_4 a0_5 a0_6 a0_7 a0_8 a0_9 a0_10) else (if a0_10 = true then (spec_ConnOK.j1 kj1 false a0_0 a0_1 a0_2 a0_3 a0_4 a0_5 a0_6 a0_7 a0_8 a0_9 a0_10) else (spec_ConnOK.j1 kj1 (a0_9.toList != ([] : List UInt8)) a0_0 a0_1 a0_2 a0_3 a0_4 a0_5 a0_6 a0_7 a0_8 a0_9 a0_10))) else (spec_ConnOK.j1 kj1 true a0_0 a0_1 a0_2 a0_3 a0_4 a0_5 a0_6 a0_7 a0_8 a0_9 a0_10)) else (if (a0_10 != (a0_4 == 3)) = true then (spec_ConnOK.j1 kj1 true a0_0 a0_1 a0_2 a0_3 a0_4 a0_5 a0_6 a0_7 a0_8 a0_9 a0_10) else (if a0_10 = true then (spec_ConnOK.j1 kj1 false a0_0 a0_1 a0_2 a0_3 a0_4 a0_5 a0_6 a0_7 a0_8 a0_9 a0_10) else (spec_ConnOK.j1 kj1 (a0_9.toList != ([] : List UInt8)) a0_0 a0_1 a0_2 a0_3 a0_4 a0_5 a0_6 a0_7 a0_8 a0_9 a0_10)))) = some r:=by rw [if_neg (show ¬ (false = true) by decide)] at H;exact H
    clear H
    have H:=H1
    clear H1
    have HC29:=aMk H
    clear H
    go_upto_region 3 with (fail)
    go_cut [82] (fun v82 wc => ∃ (kq : Nat) (x82_28 : Bool),v82 = .bool x82_28 ∧ Aside0 (spec_ConnOK.j1 kq x82_28 a0_0 a0_1 a0_2 a0_3 a0_4 a0_5 a0_6 a0_7 a0_8 a0_9 a0_10 = some r) ∧ Aside0 (kq ≤ kj1) ∧ Aside0 (wc.heap[gb152]? = some (.cells #[.string a0_0,.int .i64 a0_1,.int .i64 a0_2,.int .i64 a0_3,.int .i64 a0_4,.int .i64 a0_5,.int .i64 a0_6,.int .i64 a0_7,.string a0_8,.string a0_9,.bool a0_10] 34 (0,0))) ∧ Aside0 (Below w.heap.size w wc))
    case first =>
     have H:=HC29.out
     clear HC29
     by_cases c30 : a0_4 = 1
     ·rw [if_pos c30] at H
      have c30b0 : (a0_4 == 1) = true:=beq_iff_eq.mpr c30
      have c30b1 : (a0_4 != 1) = false:=bne_eq_false_iff_eq.mpr c30
      clear c30
      (first|rw [c30b0]|(simp only [i64_w,i32_w];rw [c30b0]) | skip)
      by_cases c31 : a0_8.toList = ([] : List UInt8)
      ·rw [if_pos c31] at H
       have c31b0 : (a0_8.toList == ([] : List UInt8)) = true:=beq_iff_eq.mpr c31
       have c31b1 : (a0_8.toList != ([] : List UInt8)) = false:=bne_eq_false_iff_eq.mpr c31
       clear c31
       by_cases c32 : (a0_10 != (a0_4 == 3)) = true
       ·rw [if_pos c32] at H
        have c32b0 : (a0_10 != (a0_4 == 3)) = true:=c32
        (try (have c32b1 : decide (a0_10 = (a0_4 == 3)) = false:=by simpa using c32))
        (try (have c32b2 : (a0_10 == (a0_4 == 3)) = false:=by simpa using c32))
        (try (have c32b3 : ¬ (a0_10 = (a0_4 == 3)):=by simpa using c32))
        clear c32
        have H':=aMk H
        clear H
        have hcz33_0 : wc.cell? ⟨gb152,0,none⟩ = some (.string a0_0):=(bCe BK152.out 0).trans rfl
        have hcz33_1 : wc.cell? ⟨gb152,1,none⟩ = some (.int .i64 a0_1):=(bCe BK152.out 1).trans rfl
        have hcz33_2 : wc.cell? ⟨gb152,2,none⟩ = some (.int .i64 a0_2):=(bCe BK152.out 2).trans rfl
        have hcz33_3 : wc.cell? ⟨gb152,3,none⟩ = some (.int .i64 a0_3):=(bCe BK152.out 3).trans rfl
        have hcz33_4 : wc.cell? ⟨gb152,4,none⟩ = some (.int .i64 a0_4):=(bCe BK152.out 4).trans rfl
        have hcz33_5 : wc.cell? ⟨gb152,5,none⟩ = some (.int .i64 a0_5):=(bCe BK152.out 5).trans rfl
        have hcz33_6 : wc.cell? ⟨gb152,6,none⟩ = some (.int .i64 a0_6):=(bCe BK152.out 6).trans rfl
        have hcz33_7 : wc.cell? ⟨gb152,7,none⟩ = some (.int .i64 a0_7):=(bCe BK152.out 7).trans rfl
        have hcz33_8 : wc.cell? ⟨gb152,8,none⟩ = some (.string a0_8):=(bCe BK152.out 8).trans rfl
        have hcz33_9 : wc.cell? ⟨gb152,9,none⟩ = some (.string a0_9):=(bCe BK152.out 9).trans rfl
        have hcz33_10 : wc.cell? ⟨gb152,10,none⟩ = some (.bool a0_10):=(bCe BK152.out 10).trans rfl
        have hfz33_0:=bFr BK152.out 0
        have hfz33_1:=bFr BK152.out 1
        have hfz33_2:=bFr BK152.out 2
        have hfz33_3:=bFr BK152.out 3
        have hfz33_4:=bFr BK152.out 4
        have hfz33_5:=bFr BK152.out 5
        have hfz33_6:=bFr BK152.out 6
        have hfz33_7:=bFr BK152.out 7
        have hfz33_8:=bFr BK152.out 8
        have hfz33_9:=bFr BK152.out 9
        have hfz33_10:=bFr BK152.out 10
        go_wp2
        go_meet
        case rel => exact ⟨_,(true),(by first | rfl|(simp;done)|(simp [*];done)|(simp [ne_nil_b];done)|(simp [ne_nil_b, *];done)),H',⟨by have:=HJ1.out;first | omega|exact Nat.le_refl _⟩,⟨by (with_reducible repeat (first|refine bDn ?_ _|refine bDr ?_|refine bAl ?_ _));exact BK152.out⟩,⟨by repeat (first|(with_reducible first|exact HB.out|apply bwA|apply bwN|apply bw1|refine below_set ?_ GE152.out)|exact HB.out)⟩⟩
       ·rw [if_neg c32] at H
        have c32b0 : (a0_10 != (a0_4 == 3)) = false:=by simpa using c32
        (try (have c32b1 : decide (a0_10 = (a0_4 == 3)) = true:=by simpa using c32))
        (try (have c32b2 : (a0_10 == (a0_4 == 3)) = true:=by simpa using c32))
        clear c32
        by_cases c34 : a0_10 = true
        ·subst c34
         have H1 : (spec_ConnOK.j1 kj1 false a0_0 a0_1 a0_2 a0_3 a0_4 a0_5 a0_6 a0_7 a0_8 a0_9 true) = some r:=by rw [if_pos rfl] at H;exact H
         clear H
         have H:=H1
         clear H1
         have H':=aMk H
         clear H
         have hcz35_0 : wc.cell? ⟨gb152,0,none⟩ = some (.string a0_0):=(bCe BK152.out 0).trans rfl
         have hcz35_1 : wc.cell? ⟨gb152,1,none⟩ = some (.int .i64 a0_1):=(bCe BK152.out 1).trans rfl
         have hcz35_2 : wc.cell? ⟨gb152,2,none⟩ = some (.int .i64 a0_2):=(bCe BK152.out 2).trans rfl
         have hcz35_3 : wc.cell? ⟨gb152,3,none⟩ = some (.int .i64 a0_3):=(bCe BK152.out 3).trans rfl
         have hcz35_4 : wc.cell? ⟨gb152,4,none⟩ = some (.int .i64 a0_4):=(bCe BK152.out 4).trans rfl
         have hcz35_5 : wc.cell? ⟨gb152,5,none⟩ = some (.int .i64 a0_5):=(bCe BK152.out 5).trans rfl
         have hcz35_6 : wc.cell? ⟨gb152,6,none⟩ = some (.int .i64 a0_6):=(bCe BK152.out 6).trans rfl
         have hcz35_7 : wc.cell? ⟨gb152,7,none⟩ = some (.int .i64 a0_7):=(bCe BK152.out 7).trans rfl
         have hcz35_8 : wc.cell? ⟨gb152,8,none⟩ = some (.string a0_8):=(bCe BK152.out 8).trans rfl
         have hcz35_9 : wc.cell? ⟨gb152,9,none⟩ = some (.string a0_9):=(bCe BK152.out 9).trans rfl
         have hcz35_10 : wc.cell? ⟨gb152,10,none⟩ = some (.bool true):=(bCe BK152.out 10).trans rfl
         have hfz35_0:=bFr BK152.out 0
         have hfz35_1:=bFr BK152.out 1
         have hfz35_2:=bFr BK152.out 2
         have hfz35_3:=bFr BK152.out 3
         have hfz35_4:=bFr BK152.out 4
         have hfz35_5:=bFr BK152.out 5
         have hfz35_6:=bFr BK152.out 6
         have hfz35_7:=bFr BK152.out 7
         have hfz35_8:=bFr BK152.out 8
         have hfz35_9:=bFr BK152.out 9
         have hfz35_10:=bFr BK152.out 10
         go_wp2
         go_meet
         case rel => exact ⟨_,(false),(by first | rfl|(simp;done)|(simp [*];done)|(simp [ne_nil_b];done)|(simp [ne_nil_b, *];done)),H',⟨by have:=HJ1.out;first | omega|exact Nat.le_refl _⟩,⟨by (with_reducible repeat (first|refine bDn ?_ _|refine bDr ?_|refine bAl ?_ _));exact BK152.out⟩,⟨by repeat (first|(with_reducible first|exact HB.out|apply bwA|apply bwN|apply bw1|refine below_set ?_ GE152.out)|exact HB.out)⟩⟩
        ·replace c34:=Bool.eq_false_iff.mpr c34
         subst c34
         have H1 : (spec_ConnOK.j1 kj1 (a0_9.toList != ([] : List UInt8)) a0_0 a0_1 a0_2 a0_3 a0_4 a0_5 a0_6 a0_7 a0_8 a0_9 false) = some r:=by rw [if_neg (show ¬ (false = true) by decide)] at H;exact H
         clear H
         have H:=H1
         clear H1
         have H':=aMk H
         clear H
         have hcz36_0 : wc.cell? ⟨gb152,0,none⟩ = some (.string a0_0):=(bCe BK152.out 0).trans rfl
         have hcz36_1 : wc.cell? ⟨gb152,1,none⟩ = some (.int .i64 a0_1):=(bCe BK152.out 1).trans rfl
         have hcz36_2 : wc.cell? ⟨gb152,2,none⟩ = some (.int .i64 a0_2):=(bCe BK152.out 2).trans rfl
         have hcz36_3 : wc.cell? ⟨gb152,3,none⟩ = some (.int .i64 a0_3):=(bCe BK152.out 3).trans rfl
         have hcz36_4 : wc.cell? ⟨gb152,4,none⟩ = some (.int .i64 a0_4):=(bCe BK152.out 4).trans rfl
         have hcz36_5 : wc.cell? ⟨gb152,5,none⟩ = some (.int .i64 a0_5):=(bCe BK152.out 5).trans rfl
         have hcz36_6 : wc.cell? ⟨gb152,6,none⟩ = some (.int .i64 a0_6):=(bCe BK152.out 6).trans rfl
         have hcz36_7 : wc.cell? ⟨gb152,7,none⟩ = some (.int .i64 a0_7):=(bCe BK152.out 7).trans rfl
         have hcz36_8 : wc.cell? ⟨gb152,8,none⟩ = some (.string a0_8):=(bCe BK152.out 8).trans rfl
         have hcz36_9 : wc.cell? ⟨gb152,9,none⟩ = some (.string a0_9):=(bCe BK152.out 9).trans rfl
         have hcz36_10 : wc.cell? ⟨gb152,10,none⟩ = some (.bool false):=(bCe BK152.out 10).trans rfl
         have hfz36_0:=bFr BK152.out 0
         have hfz36_1:=bFr BK152.out 1
         have hfz36_2:=bFr BK152.out 2
         have hfz36_3:=bFr BK152.out 3
         have hfz36_4:=bFr BK152.out 4
         have hfz36_5:=bFr BK152.out 5
         have hfz36_6:=bFr BK152.out 6
         have hfz36_7:=bFr BK152.out 7
         have hfz36_8:=bFr BK152.out 8
         have hfz36_9:=bFr BK152.out 9
         have hfz36_10:=bFr BK152.out 10
         go_wp2
         go_meet
         case rel => exact ⟨_,((a0_9.toList != ([] : List UInt8))),(by first | rfl|(simp;done)|(simp [*];done)|(simp [ne_nil_b];done)|(simp [ne_nil_b, *];done)),H',⟨by have:=HJ1.out;first | omega|exact Nat.le_refl _⟩,⟨by (with_reducible repeat (first|refine bDn ?_ _|refine bDr ?_|refine bAl ?_ _));exact BK152.out⟩,⟨by repeat (first|(with_reducible first|exact HB.out|apply bwA|apply bwN|apply bw1|refine below_set ?_ GE152.out)|exact HB.out)⟩⟩
      ·rw [if_neg c31] at H
       have c31b0 : (a0_8.toList == ([] : List UInt8)) = false:=beq_eq_false_iff_ne.mpr c31
       have c31b1 : (a0_8.toList != ([] : List UInt8)) = true:=bne_iff_ne.mpr c31
       have H':=aMk H
       clear H
       have hcz37_0 : wc.cell? ⟨gb152,0,none⟩ = some (.string a0_0):=(bCe BK152.out 0).trans rfl
       have hcz37_1 : wc.cell? ⟨gb152,1,none⟩ = some (.int .i64 a0_1):=(bCe BK152.out 1).trans rfl
       have hcz37_2 : wc.cell? ⟨gb152,2,none⟩ = some (.int .i64 a0_2):=(bCe BK152.out 2).trans rfl
       have hcz37_3 : wc.cell? ⟨gb152,3,none⟩ = some (.int .i64 a0_3):=(bCe BK152.out 3).trans rfl
       have hcz37_4 : wc.cell? ⟨gb152,4,none⟩ = some (.int .i64 a0_4):=(bCe BK152.out 4).trans rfl
       have hcz37_5 : wc.cell? ⟨gb152,5,none⟩ = some (.int .i64 a0_5):=(bCe BK152.out 5).trans rfl
       have hcz37_6 : wc.cell? ⟨gb152,6,none⟩ = some (.int .i64 a0_6):=(bCe BK152.out 6).trans rfl
       have hcz37_7 : wc.cell? ⟨gb152,7,none⟩ = some (.int .i64 a0_7):=(bCe BK152.out 7).trans rfl
       have hcz37_8 : wc.cell? ⟨gb152,8,none⟩ = some (.string a0_8):=(bCe BK152.out 8).trans rfl
       have hcz37_9 : wc.cell? ⟨gb152,9,none⟩ = some (.string a0_9):=(bCe BK152.out 9).trans rfl
       have hcz37_10 : wc.cell? ⟨gb152,10,none⟩ = some (.bool a0_10):=(bCe BK152.out 10).trans rfl
       have hfz37_0:=bFr BK152.out 0
       have hfz37_1:=bFr BK152.out 1
       have hfz37_2:=bFr BK152.out 2
       have hfz37_3:=bFr BK152.out 3
       have hfz37_4:=bFr BK152.out 4
       have hfz37_5:=bFr BK152.out 5
       have hfz37_6:=bFr BK152.out 6
       have hfz37_7:=bFr BK152.out 7
       have hfz37_8:=bFr BK152.out 8
       have hfz37_9:=bFr BK152.out 9
       have hfz37_10:=bFr BK152.out 10
       go_wp2
       go_meet
       case rel => exact ⟨_,(true),(by first | rfl|(simp;done)|(simp [*];done)|(simp [ne_nil_b];done)|(simp [ne_nil_b, *];done)),H',⟨by have:=HJ1.out;first | omega|exact Nat.le_refl _⟩,⟨by (with_reducible repeat (first|refine bDn ?_ _|refine bDr ?_|refine bAl ?_ _));exact BK152.out⟩,⟨by repeat (first|(with_reducible first|exact HB.out|apply bwA|apply bwN|apply bw1|refine below_set ?_ GE152.out)|exact HB.out)⟩⟩
     ·rw [if_neg c30] at H
      have c30b0 : (a0_4 == 1) = false:=beq_eq_false_iff_ne.mpr c30
      have c30b1 : (a0_4 != 1) = true:=bne_iff_ne.mpr c30
      (first|rw [c30b0]|(simp only [i64_w,i32_w];rw [c30b0]) | skip)
      by_cases c38 : (a0_10 != (a0_4 == 3)) = true
      ·rw [if_pos c38] at H
       have c38b0 : (a0_10 != (a0_4 == 3)) = true:=c38
       (try (have c38b1 : decide (a0_10 = (a0_4 == 3)) = false:=by simpa using c38))
       (try (have c38b2 : (a0_10 == (a0_4 == 3)) = false:=by simpa using c38))
       (try (have c38b3 : ¬ (a0_10 = (a0_4 == 3)):=by simpa using c38))
       clear c38
       have H':=aMk H
       clear H
       have hcz39_0 : wc.cell? ⟨gb152,0,none⟩ = some (.string a0_0):=(bCe BK152.out 0).trans rfl
       have hcz39_1 : wc.cell? ⟨gb152,1,none⟩ = some (.int .i64 a0_1):=(bCe BK152.out 1).trans rfl
       have hcz39_2 : wc.cell? ⟨gb152,2,none⟩ = some (.int .i64 a0_2):=(bCe BK152.out 2).trans rfl
       have hcz39_3 : wc.cell? ⟨gb152,3,none⟩ = some (.int .i64 a0_3):=(bCe BK152.out 3).trans rfl
       have hcz39_4 : wc.cell? ⟨gb152,4,none⟩ = some (.int .i64 a0_4):=(bCe BK152.out 4).trans rfl
       have hcz39_5 : wc.cell? ⟨gb152,5,none⟩ = some (.int .i64 a0_5):=(bCe BK152.out 5).trans rfl
       have hcz39_6 : wc.cell? ⟨gb152,6,none⟩ = some (.int .i64 a0_6):=(bCe BK152.out 6).trans rfl
       have hcz39_7 : wc.cell? ⟨gb152,7,none⟩ = some (.int .i64 a0_7):=(bCe BK152.out 7).trans rfl
       have hcz39_8 : wc.cell? ⟨gb152,8,none⟩ = some (.string a0_8):=(bCe BK152.out 8).trans rfl
       have hcz39_9 : wc.cell? ⟨gb152,9,none⟩ = some (.string a0_9):=(bCe BK152.out 9).trans rfl
       have hcz39_10 : wc.cell? ⟨gb152,10,none⟩ = some (.bool a0_10):=(bCe BK152.out 10).trans rfl
       have hfz39_0:=bFr BK152.out 0
       have hfz39_1:=bFr BK152.out 1
       have hfz39_2:=bFr BK152.out 2
       have hfz39_3:=bFr BK152.out 3
       have hfz39_4:=bFr BK152.out 4
       have hfz39_5:=bFr BK152.out 5
       have hfz39_6:=bFr BK152.out 6
       have hfz39_7:=bFr BK152.out 7
       have hfz39_8:=bFr BK152.out 8
       have hfz39_9:=bFr BK152.out 9
       have hfz39_10:=bFr BK152.out 10
       go_wp2
       go_meet
       case rel => exact ⟨_,(true),(by first | rfl|(simp;done)|(simp [*];done)|(simp [ne_nil_b];done)|(simp [ne_nil_b, *];done)),H',⟨by have:=HJ1.out;first | omega|exact Nat.le_refl _⟩,⟨by (with_reducible repeat (first|refine bDn ?_ _|refine bDr ?_|refine bAl ?_ _));exact BK152.out⟩,⟨by repeat (first|(with_reducible first|exact HB.out|apply bwA|apply bwN|apply bw1|refine below_set ?_ GE152.out)|exact HB.out)⟩⟩
      ·rw [if_neg c38] at H
       have c38b0 : (a0_10 != (a0_4 == 3)) = false:=by simpa using c38
       (try (have c38b1 : decide (a0_10 = (a0_4 == 3)) = true:=by simpa using c38))
       (try (have c38b2 : (a0_10 == (a0_4 == 3)) = true:=by simpa using c38))
       clear c38
       by_cases c40 : a0_10 = true
       ·subst c40
        have H1 : (spec_ConnOK.j1 kj1 false a0_0 a0_1 a0_2 a0_3 a0_4 a0_5 a0_6 a0_7 a0_8 a0_9 true) = some r:=by rw [if_pos rfl] at H;exact H
        clear H
        have H:=H1
        clear H1
        have H':=aMk H
        clear H
        have hcz41_0 : wc.cell? ⟨gb152,0,none⟩ = some (.string a0_0):=(bCe BK152.out 0).trans rfl
        have hcz41_1 : wc.cell? ⟨gb152,1,none⟩ = some (.int .i64 a0_1):=(bCe BK152.out 1).trans rfl
        have hcz41_2 : wc.cell? ⟨gb152,2,none⟩ = some (.int .i64 a0_2):=(bCe BK152.out 2).trans rfl
        have hcz41_3 : wc.cell? ⟨gb152,3,none⟩ = some (.int .i64 a0_3):=(bCe BK152.out 3).trans rfl
        have hcz41_4 : wc.cell? ⟨gb152,4,none⟩ = some (.int .i64 a0_4):=(bCe BK152.out 4).trans rfl
        have hcz41_5 : wc.cell? ⟨gb152,5,none⟩ = some (.int .i64 a0_5):=(bCe BK152.out 5).trans rfl
        have hcz41_6 : wc.cell? ⟨gb152,6,none⟩ = some (.int .i64 a0_6):=(bCe BK152.out 6).trans rfl
        have hcz41_7 : wc.cell? ⟨gb152,7,none⟩ = some (.int .i64 a0_7):=(bCe BK152.out 7).trans rfl
        have hcz41_8 : wc.cell? ⟨gb152,8,none⟩ = some (.string a0_8):=(bCe BK152.out 8).trans rfl
        have hcz41_9 : wc.cell? ⟨gb152,9,none⟩ = some (.string a0_9):=(bCe BK152.out 9).trans rfl
        have hcz41_10 : wc.cell? ⟨gb152,10,none⟩ = some (.bool true):=(bCe BK152.out 10).trans rfl
        have hfz41_0:=bFr BK152.out 0
        have hfz41_1:=bFr BK152.out 1
        have hfz41_2:=bFr BK152.out 2
        have hfz41_3:=bFr BK152.out 3
        have hfz41_4:=bFr BK152.out 4
        have hfz41_5:=bFr BK152.out 5
        have hfz41_6:=bFr BK152.out 6
        have hfz41_7:=bFr BK152.out 7
        have hfz41_8:=bFr BK152.out 8
        have hfz41_9:=bFr BK152.out 9
        have hfz41_10:=bFr BK152.out 10
        go_wp2
        go_meet
        case rel => exact ⟨_,(false),(by first | rfl|(simp;done)|(simp [*];done)|(simp [ne_nil_b];done)|(simp [ne_nil_b, *];done)),H',⟨by have:=HJ1.out;first | omega|exact Nat.le_refl _⟩,⟨by (with_reducible repeat (first|refine bDn ?_ _|refine bDr ?_|refine bAl ?_ _));exact BK152.out⟩,⟨by repeat (first|(with_reducible first|exact HB.out|apply bwA|apply bwN|apply bw1|refine below_set ?_ GE152.out)|exact HB.out)⟩⟩
       ·replace c40:=Bool.eq_false_iff.mpr c40
        subst c40
        have H1 : (spec_ConnOK.j1 kj1 (a0_9.toList != ([] : List UInt8)) a0_0 a0_1 a0_2 a0_3 a0_4 a0_5 a0_6 a0_7 a0_8 a0_9 false) = some r:=by rw [if_neg (show ¬ (false = true) by decide)] at H;exact H
        clear H
        have H:=H1
        clear H1
        have H':=aMk H
        clear H
        have hcz42_0 : wc.cell? ⟨gb152,0,none⟩ = some (.string a0_0):=(bCe BK152.out 0).trans rfl
        have hcz42_1 : wc.cell? ⟨gb152,1,none⟩ = some (.int .i64 a0_1):=(bCe BK152.out 1).trans rfl
        have hcz42_2 : wc.cell? ⟨gb152,2,none⟩ = some (.int .i64 a0_2):=(bCe BK152.out 2).trans rfl
        have hcz42_3 : wc.cell? ⟨gb152,3,none⟩ = some (.int .i64 a0_3):=(bCe BK152.out 3).trans rfl
        have hcz42_4 : wc.cell? ⟨gb152,4,none⟩ = some (.int .i64 a0_4):=(bCe BK152.out 4).trans rfl
        have hcz42_5 : wc.cell? ⟨gb152,5,none⟩ = some (.int .i64 a0_5):=(bCe BK152.out 5).trans rfl
        have hcz42_6 : wc.cell? ⟨gb152,6,none⟩ = some (.int .i64 a0_6):=(bCe BK152.out 6).trans rfl
        have hcz42_7 : wc.cell? ⟨gb152,7,none⟩ = some (.int .i64 a0_7):=(bCe BK152.out 7).trans rfl
        have hcz42_8 : wc.cell? ⟨gb152,8,none⟩ = some (.string a0_8):=(bCe BK152.out 8).trans rfl
        have hcz42_9 : wc.cell? ⟨gb152,9,none⟩ = some (.string a0_9):=(bCe BK152.out 9).trans rfl
        have hcz42_10 : wc.cell? ⟨gb152,10,none⟩ = some (.bool false):=(bCe BK152.out 10).trans rfl
        have hfz42_0:=bFr BK152.out 0
        have hfz42_1:=bFr BK152.out 1
        have hfz42_2:=bFr BK152.out 2
        have hfz42_3:=bFr BK152.out 3
        have hfz42_4:=bFr BK152.out 4
        have hfz42_5:=bFr BK152.out 5
        have hfz42_6:=bFr BK152.out 6
        have hfz42_7:=bFr BK152.out 7
        have hfz42_8:=bFr BK152.out 8
        have hfz42_9:=bFr BK152.out 9
        have hfz42_10:=bFr BK152.out 10
        go_wp2
        go_meet
        case rel => exact ⟨_,((a0_9.toList != ([] : List UInt8))),(by first | rfl|(simp;done)|(simp [*];done)|(simp [ne_nil_b];done)|(simp [ne_nil_b, *];done)),H',⟨by have:=HJ1.out;first | omega|exact Nat.le_refl _⟩,⟨by (with_reducible repeat (first|refine bDn ?_ _|refine bDr ?_|refine bAl ?_ _));exact BK152.out⟩,⟨by repeat (first|(with_reducible first|exact HB.out|apply bwA|apply bwN|apply bw1|refine below_set ?_ GE152.out)|exact HB.out)⟩⟩
    case rest =>
     clear HC29
     try clear c1
     try clear c2
     try clear p2
     try clear c3
     try clear c4
     try clear c5
     try clear c6
     try clear c7
     try clear c9
     try clear c11
     try clear c13
     try clear c15
     try clear c17
     try clear c18
     try clear c18b0
     try clear c18b1
     try clear c23
     try clear c28
     try clear c30
     try clear c30b0
     try clear c30b1
     try clear c31
     try clear c31b0
     try clear c31b1
     try clear c32
     try clear c32b0
     try clear c32b1
     try clear c32b2
     try clear c34
     try clear c38
     try clear c38b0
     try clear c38b1
     try clear c38b2
     try clear c40
     try clear hcz19_0
     try clear hcz19_1
     try clear hcz19_10
     try clear hcz19_2
     try clear hcz19_3
     try clear hcz19_4
     try clear hcz19_5
     try clear hcz19_6
     try clear hcz19_7
     try clear hcz19_8
     try clear hcz19_9
     try clear hcz20_0
     try clear hcz20_1
     try clear hcz20_10
     try clear hcz20_2
     try clear hcz20_3
     try clear hcz20_4
     try clear hcz20_5
     try clear hcz20_6
     try clear hcz20_7
     try clear hcz20_8
     try clear hcz20_9
     try clear hcz21_0
     try clear hcz21_1
     try clear hcz21_10
     try clear hcz21_2
     try clear hcz21_3
     try clear hcz21_4
     try clear hcz21_5
     try clear hcz21_6
     try clear hcz21_7
     try clear hcz21_8
     try clear hcz21_9
     try clear hcz22_0
     try clear hcz22_1
     try clear hcz22_10
     try clear hcz22_2
     try clear hcz22_3
     try clear hcz22_4
     try clear hcz22_5
     try clear hcz22_6
     try clear hcz22_7
     try clear hcz22_8
     try clear hcz22_9
     try clear hcz23_0
     try clear hcz23_1
     try clear hcz23_10
     try clear hcz23_2
     try clear hcz23_3
     try clear hcz23_4
     try clear hcz23_5
     try clear hcz23_6
     try clear hcz23_7
     try clear hcz23_8
     try clear hcz23_9
     try clear hcz24_0
     try clear hcz24_1
     try clear hcz24_10
     try clear hcz24_2
     try clear hcz24_3
     try clear hcz24_4
     try clear hcz24_5
     try clear hcz24_6
     try clear hcz24_7
     try clear hcz24_8
     try clear hcz24_9
     try clear hcz25_0
     try clear hcz25_1
     try clear hcz25_10
     try clear hcz25_2
     try clear hcz25_3
     try clear hcz25_4
     try clear hcz25_5
     try clear hcz25_6
     try clear hcz25_7
     try clear hcz25_8
     try clear hcz25_9
     try clear hcz26_0
     try clear hcz26_1
     try clear hcz26_10
     try clear hcz26_2
     try clear hcz26_3
     try clear hcz26_4
     try clear hcz26_5
     try clear hcz26_6
     try clear hcz26_7
     try clear hcz26_8
     try clear hcz26_9
     try clear hcz27_0
     try clear hcz27_1
     try clear hcz27_10
     try clear hcz27_2
     try clear hcz27_3
     try clear hcz27_4
     try clear hcz27_5
     try clear hcz27_6
     try clear hcz27_7
     try clear hcz27_8
     try clear hcz27_9
     try clear hcz33_0
     try clear hcz33_1
     try clear hcz33_10
     try clear hcz33_2
     try clear hcz33_3
     try clear hcz33_4
     try clear hcz33_5
     try clear hcz33_6
     try clear hcz33_7
     try clear hcz33_8
     try clear hcz33_9
     try clear hcz35_0
     try clear hcz35_1
     try clear hcz35_10
     try clear hcz35_2
     try clear hcz35_3
     try clear hcz35_4
     try clear hcz35_5
     try clear hcz35_6
     try clear hcz35_7
     try clear hcz35_8
     try clear hcz35_9
     try clear hcz36_0
     try clear hcz36_1
     try clear hcz36_10
     try clear hcz36_2
     try clear hcz36_3
     try clear hcz36_4
     try clear hcz36_5
     try clear hcz36_6
     try clear hcz36_7
     try clear hcz36_8
     try clear hcz36_9
     try clear hcz37_0
     try clear hcz37_1
     try clear hcz37_10
     try clear hcz37_2
     try clear hcz37_3
     try clear hcz37_4
     try clear hcz37_5
     try clear hcz37_6
     try clear hcz37_7
     try clear hcz37_8
     try clear hcz37_9
     try clear hcz39_0
     try clear hcz39_1
     try clear hcz39_10
     try clear hcz39_2
     try clear hcz39_3
     try clear hcz39_4
     try clear hcz39_5
     try clear hcz39_6
     try clear hcz39_7
     try clear hcz39_8
     try clear hcz39_9
     try clear hcz41_0
     try clear hcz41_1
     try clear hcz41_10
     try clear hcz41_2
     try clear hcz41_3
     try clear hcz41_4
     try clear hcz41_5
     try clear hcz41_6
     try clear hcz41_7
     try clear hcz41_8
     try clear hcz41_9
     try clear hcz42_0
     try clear hcz42_1
     try clear hcz42_10
     try clear hcz42_2
     try clear hcz42_3
     try clear hcz42_4
     try clear hcz42_5
     try clear hcz42_6
     try clear hcz42_7
     try clear hcz42_8
     try clear hcz42_9
     try clear hfz19_0
     try clear hfz19_1
     try clear hfz19_10
     try clear hfz19_2
     try clear hfz19_3
     try clear hfz19_4
     try clear hfz19_5
     try clear hfz19_6
     try clear hfz19_7
     try clear hfz19_8
     try clear hfz19_9
     try clear hfz20_0
     try clear hfz20_1
     try clear hfz20_10
     try clear hfz20_2
     try clear hfz20_3
     try clear hfz20_4
     try clear hfz20_5
     try clear hfz20_6
     try clear hfz20_7
     try clear hfz20_8
     try clear hfz20_9
     try clear hfz21_0
     try clear hfz21_1
     try clear hfz21_10
     try clear hfz21_2
     try clear hfz21_3
     try clear hfz21_4
     try clear hfz21_5
     try clear hfz21_6
     try clear hfz21_7
     try clear hfz21_8
     try clear hfz21_9
     try clear hfz22_0
     try clear hfz22_1
     try clear hfz22_10
     try clear hfz22_2
     try clear hfz22_3
     try clear hfz22_4
     try clear hfz22_5
     try clear hfz22_6
     try clear hfz22_7
     try clear hfz22_8
     try clear hfz22_9
     try clear hfz23_0
     try clear hfz23_1
     try clear hfz23_10
     try clear hfz23_2
     try clear hfz23_3
     try clear hfz23_4
     try clear hfz23_5
     try clear hfz23_6
     try clear hfz23_7
     try clear hfz23_8
     try clear hfz23_9
     try clear hfz24_0
     try clear hfz24_1
     try clear hfz24_10
     try clear hfz24_2
     try clear hfz24_3
     try clear hfz24_4
     try clear hfz24_5
     try clear hfz24_6
     try clear hfz24_7
     try clear hfz24_8
     try clear hfz24_9
     try clear hfz25_0
     try clear hfz25_1
     try clear hfz25_10
     try clear hfz25_2
     try clear hfz25_3
     try clear hfz25_4
     try clear hfz25_5
     try clear hfz25_6
     try clear hfz25_7
     try clear hfz25_8
     try clear hfz25_9
     try clear hfz26_0
     try clear hfz26_1
     try clear hfz26_10
     try clear hfz26_2
     try clear hfz26_3
     try clear hfz26_4
     try clear hfz26_5
     try clear hfz26_6
     try clear hfz26_7
     try clear hfz26_8
     try clear hfz26_9
     try clear hfz27_0
     try clear hfz27_1
     try clear hfz27_10
     try clear hfz27_2
     try clear hfz27_3
     try clear hfz27_4
     try clear hfz27_5
     try clear hfz27_6
     try clear hfz27_7
     try clear hfz27_8
     try clear hfz27_9
     try clear hfz33_0
     try clear hfz33_1
     try clear hfz33_10
     try clear hfz33_2
     try clear hfz33_3
     try clear hfz33_4
     try clear hfz33_5
     try clear hfz33_6
     try clear hfz33_7
     try clear hfz33_8
     try clear hfz33_9
     try clear hfz35_0
     try clear hfz35_1
     try clear hfz35_10
     try clear hfz35_2
     try clear hfz35_3
     try clear hfz35_4
     try clear hfz35_5
     try clear hfz35_6
     try clear hfz35_7
     try clear hfz35_8
     try clear hfz35_9
     try clear hfz36_0
     try clear hfz36_1
     try clear hfz36_10
     try clear hfz36_2
     try clear hfz36_3
     try clear hfz36_4
     try clear hfz36_5
     try clear hfz36_6
     try clear hfz36_7
     try clear hfz36_8
     try clear hfz36_9
     try clear hfz37_0
     try clear hfz37_1
     try clear hfz37_10
     try clear hfz37_2
     try clear hfz37_3
     try clear hfz37_4
     try clear hfz37_5
     try clear hfz37_6
     try clear hfz37_7
     try clear hfz37_8
     try clear hfz37_9
     try clear hfz39_0
     try clear hfz39_1
     try clear hfz39_10
     try clear hfz39_2
     try clear hfz39_3
     try clear hfz39_4
     try clear hfz39_5
     try clear hfz39_6
     try clear hfz39_7
     try clear hfz39_8
     try clear hfz39_9
     try clear hfz41_0
     try clear hfz41_1
     try clear hfz41_10
     try clear hfz41_2
     try clear hfz41_3
     try clear hfz41_4
     try clear hfz41_5
     try clear hfz41_6
     try clear hfz41_7
     try clear hfz41_8
     try clear hfz41_9
     try clear hfz42_0
     try clear hfz42_1
     try clear hfz42_10
     try clear hfz42_2
     try clear hfz42_3
     try clear hfz42_4
     try clear hfz42_5
     try clear hfz42_6
     try clear hfz42_7
     try clear hfz42_8
     try clear hfz42_9
     try clear p2
     obtain ⟨kq,x82_28,rfl,HA,HJ28,BK152,HB⟩:=hcut
     cases kq with
     | zero => exact absurd HA.out (by simp [spec_ConnOK.j1])
     | succ kj28 =>
      have H:=HA.out
      clear HA
      simp only [spec_ConnOK.j1] at H
      by_cases c43 : x82_28 = true
      ·subst c43
       have H1 : (some false) = some r:=by rw [if_pos rfl] at H;exact H
       clear H
       have H:=H1
       clear H1
       obtain rfl:=Option.some.inj H
       go_wp2
       go_ret
       exact ⟨by first | rfl|(simp [errW_none,errW_some] <;> rfl)|(simp [*,errW_none,errW_some] <;> rfl),by repeat (first|(with_reducible first|exact HB.out|apply bwA|apply bwN|apply bw1|refine below_set ?_ GE152.out)|exact HB.out)⟩
      ·replace c43:=Bool.eq_false_iff.mpr c43
       subst c43
       have H1 : ((spec_l10Seq.f (wrap64 (a0_6 - a0_5))).bind fun t160 => ((spec_l10Sent.f a0_0 a0_1 a0_2 a0_3 a0_4 a0_5 a0_6 a0_7 a0_8 a0_9 a0_10).bind fun t161 => (some (t160 == t161)))) = some r:=by rw [if_neg (show ¬ (false = true) by decide)] at H;exact H
       clear H
       have H:=H1
       clear H1
       replace H:=Option.bind_eq_some_iff.mp H
       obtain ⟨t160,A440,H⟩:=H
       replace H : ((spec_l10Sent.f a0_0 a0_1 a0_2 a0_3 a0_4 a0_5 a0_6 a0_7 a0_8 a0_9 a0_10).bind fun t161 => (some (t160 == t161))) = some r:=H
       have A44:=aMk A440
       clear A440
       replace H:=Option.bind_eq_some_iff.mp H
       obtain ⟨t161,A450,H⟩:=H
       replace H : (some (t160 == t161)) = some r:=H
       have A45:=aMk A450
       clear A450
       obtain rfl:=Option.some.inj H
       try go_wp2
       have n0_:=aMk (bDr BK152.out)
       have n1_:=aMk (bw1 HB.out)
       clear BK152
       clear HB
       have BK152:=n0_
       have HB:=n1_
       clear n0_ n1_
       refine start_ (n:=10) (S:=fun w' => w'.cell? ⟨gb152,0,none⟩ = some (.string a0_0) ∧ w'.cell? ⟨gb152,1,none⟩ = some (.int .i64 a0_1) ∧ w'.cell? ⟨gb152,2,none⟩ = some (.int .i64 a0_2) ∧ w'.cell? ⟨gb152,3,none⟩ = some (.int .i64 a0_3) ∧ w'.cell? ⟨gb152,4,none⟩ = some (.int .i64 a0_4) ∧ w'.cell? ⟨gb152,5,none⟩ = some (.int .i64 a0_5) ∧ w'.cell? ⟨gb152,6,none⟩ = some (.int .i64 a0_6) ∧ w'.cell? ⟨gb152,7,none⟩ = some (.int .i64 a0_7) ∧ w'.cell? ⟨gb152,8,none⟩ = some (.string a0_8) ∧ w'.cell? ⟨gb152,9,none⟩ = some (.string a0_9) ∧ w'.cell? ⟨gb152,10,none⟩ = some (.bool a0_10)) (ds:=[]) #[false,false,false,false,false,false,false,false,false,false] (by kernel_rfl) rfl rfl ⟨(bCe BK152.out 0).trans rfl,(bCe BK152.out 1).trans rfl,(bCe BK152.out 2).trans rfl,(bCe BK152.out 3).trans rfl,(bCe BK152.out 4).trans rfl,(bCe BK152.out 5).trans rfl,(bCe BK152.out 6).trans rfl,(bCe BK152.out 7).trans rfl,(bCe BK152.out 8).trans rfl,(bCe BK152.out 9).trans rfl,(bCe BK152.out 10).trans rfl⟩ (fun hHeld => ?_);refine with_tabW spec_ConnOK.tab5 spec_ConnOK.bits5 (fun HT_ HW_ => ?_)
       generalize wc.drew = w46 at BK152 HB hHeld ⊢
       refine pure_ (i:=0) (N:=some 83) (v:=?_) (a':=?_) #[true,false,false,false,false,false,false,false,false,false] rfl rfl (any_of HT_.out (by kernel_rfl)) (fun _ _ _ h => h) (Or.inl ⟨by rfl,?_⟩) ?_ ?_
       rotate_left
       ·intro w'
        go_simp
        with_reducible rfl
       rotate_left
       ·simp only [Act.put,List.setIfInBounds_toArray,List.set_cons_zero,List.set_cons_succ,i64_w,i32_w]
        rfl
       refine pure_ (i:=2) (N:=some 85) (v:=?_) (a':=?_) #[true,false,true,false,false,false,false,false,false,false] rfl rfl (any_of HT_.out (by kernel_rfl)) (fun _ _ _ h => h) (Or.inl ⟨by rfl,?_⟩) ?_ ?_
       rotate_left
       ·intro w'
        go_simp
        with_reducible rfl
       rotate_left
       ·simp only [Act.put,List.setIfInBounds_toArray,List.set_cons_zero,List.set_cons_succ,i64_w,i32_w]
        rfl
       refine take_ (i:=1) (N:=some 84) (v:=?_) (a':=?_) #[true,true,true,false,false,false,false,false,false,false] rfl rfl (take_ofW HT_.out HW_.out (by kernel_rfl)) (fun _ _ _ h => h) (Or.inl ⟨by rfl,?_⟩) hHeld ?_ ?_
       rotate_left
       ·rintro w' ⟨s0,s1,s2,s3,s4,s5,s6,s7,s8,s9,s10⟩
        go_simp
        with_reducible rfl
       rotate_left
       ·simp only [Act.put,List.setIfInBounds_toArray,List.set_cons_zero,List.set_cons_succ,i64_w,i32_w]
        rfl
       refine take_ (i:=3) (N:=some 86) (v:=?_) (a':=?_) #[true,true,true,true,false,false,false,false,false,false] rfl rfl (take_ofW HT_.out HW_.out (by kernel_rfl)) (fun _ _ _ h => h) (Or.inl ⟨by rfl,?_⟩) hHeld ?_ ?_
       rotate_left
       ·rintro w' ⟨s0,s1,s2,s3,s4,s5,s6,s7,s8,s9,s10⟩
        go_simp
        with_reducible rfl
       rotate_left
       ·simp only [Act.put,List.setIfInBounds_toArray,List.set_cons_zero,List.set_cons_succ,i64_w,i32_w]
        rfl
       refine pure_ (i:=4) (N:=some 87) (v:=?_) (a':=?_) #[true,true,true,true,true,false,false,false,false,false] rfl rfl (any_of HT_.out (by kernel_rfl)) (fun _ _ _ h => h) (Or.inl ⟨by rfl,?_⟩) ?_ ?_
       rotate_left
       ·intro w'
        go_simp
        with_reducible rfl
       rotate_left
       ·simp only [Act.put,List.setIfInBounds_toArray,List.set_cons_zero,List.set_cons_succ,i64_w,i32_w]
        rfl
       refine take_ (i:=6) (N:=some 89) (v:=?_) (a':=?_) #[true,true,true,true,true,false,true,false,false,false] rfl rfl (take_ofW HT_.out HW_.out (by kernel_rfl)) (fun _ _ _ h => h) (Or.inl ⟨by rfl,?_⟩) hHeld ?_ ?_
       rotate_left
       ·rintro w' ⟨s0,s1,s2,s3,s4,s5,s6,s7,s8,s9,s10⟩
        go_simp
        with_reducible rfl
       rotate_left
       ·simp only [Act.put,List.setIfInBounds_toArray,List.set_cons_zero,List.set_cons_succ,i64_w,i32_w]
        rfl
       refine one_ (i:=5) (N:=some 88) #[true,true,true,true,true,true,true,false,false,false] rfl rfl (one_of HT_.out (by kernel_rfl)) (by decide) (fun K hK => ?_)
       refine goes_ Try.func70 (by kernel_rfl) rfl #[.int .i64 (wrap64 (a0_6 - a0_5))] (by rfl) rfl rfl (by (try simp only [List.map_toArray,List.map_cons,List.map_nil]);first | done | rfl|(simp only [List.length_drop,List.length_take];rfl)) ?_
       with_reducible refine (spec_l10Seq.calls (wrap64 (a0_6 - a0_5)) t160 _ A44.out).mono ?_
       rintro e w' ⟨rfl,⟨nd,rfl⟩⟩
       refine ⟨_,rfl,?_⟩
       refine hK.out _ _ ⟨(bCe BK152.out 0).trans rfl,(bCe BK152.out 1).trans rfl,(bCe BK152.out 2).trans rfl,(bCe BK152.out 3).trans rfl,(bCe BK152.out 4).trans rfl,(bCe BK152.out 5).trans rfl,(bCe BK152.out 6).trans rfl,(bCe BK152.out 7).trans rfl,(bCe BK152.out 8).trans rfl,(bCe BK152.out 9).trans rfl,(bCe BK152.out 10).trans rfl⟩ (fun hHeld => ?_)
       clear hK K
       refine norm_ (a':=?_) ?_ ?_
       rotate_left
       ·show Act.put _ (some 88) _ = _
        simp only [Act.put,List.setIfInBounds_toArray,List.set_cons_zero,List.set_cons_succ,i64_w,i32_w]
        rfl
       refine one_ (i:=7) (N:=some 90) #[true,true,true,true,true,true,true,true,false,false] rfl rfl (one_of HT_.out (by kernel_rfl)) (by decide) (fun K hK => ?_)
       refine goes_ Try.func71 (by kernel_rfl) rfl #[.agg #[.string a0_0,.int .i64 a0_1,.int .i64 a0_2,.int .i64 a0_3,.int .i64 a0_4,.int .i64 a0_5,.int .i64 a0_6,.int .i64 a0_7,.string a0_8,.string a0_9,.bool a0_10]] (by rfl) rfl rfl (by (try simp only [List.map_toArray,List.map_cons,List.map_nil]);first | done | rfl|(simp only [List.length_drop,List.length_take];rfl)) ?_
       with_reducible refine (spec_l10Sent.calls a0_0 a0_1 a0_2 a0_3 a0_4 a0_5 a0_6 a0_7 a0_8 a0_9 a0_10 t161 _ A45.out).mono ?_
       rintro e w47 ⟨rfl,hb⟩
       refine ⟨_,rfl,?_⟩
       have n0_:=aMk (blk_below (g:=gb152) (o:=.cells #[.string a0_0,.int .i64 a0_1,.int .i64 a0_2,.int .i64 a0_3,.int .i64 a0_4,.int .i64 a0_5,.int .i64 a0_6,.int .i64 a0_7,.string a0_8,.string a0_9,.bool a0_10] 34 (0,0)) (by (with_reducible repeat (first|refine bDn ?_ _|refine bDr ?_|refine bAl ?_ _));exact BK152.out) hb)
       have n1_:=aMk (below_step (by repeat (first|(with_reducible first|exact HB.out|apply bwA|apply bwN|apply bw1|refine below_set ?_ GE152.out)|exact HB.out)) hb)
       clear BK152
       clear HB
       have BK152:=n0_
       have HB:=n1_
       clear n0_ n1_
       (try clear hb)
       (try clear hb2)
       (try clear hk)
       (try clear hi)
       refine hK.out _ _ ⟨(bCe BK152.out 0).trans rfl,(bCe BK152.out 1).trans rfl,(bCe BK152.out 2).trans rfl,(bCe BK152.out 3).trans rfl,(bCe BK152.out 4).trans rfl,(bCe BK152.out 5).trans rfl,(bCe BK152.out 6).trans rfl,(bCe BK152.out 7).trans rfl,(bCe BK152.out 8).trans rfl,(bCe BK152.out 9).trans rfl,(bCe BK152.out 10).trans rfl⟩ (fun hHeld => ?_)
       clear hK K
       refine norm_ (a':=?_) ?_ ?_
       rotate_left
       ·show Act.put _ (some 90) _ = _
        simp only [Act.put,List.setIfInBounds_toArray,List.set_cons_zero,List.set_cons_succ,i64_w,i32_w]
        rfl
       refine pure_ (i:=8) (N:=some 91) (v:=?_) (a':=?_) #[true,true,true,true,true,true,true,true,true,false] rfl rfl (any_of HT_.out (by kernel_rfl)) (fun _ _ _ h => h) (Or.inl ⟨by rfl,?_⟩) ?_ ?_
       rotate_left
       ·intro w'
        go_simp
        with_reducible rfl
       rotate_left
       ·simp only [Act.put,List.setIfInBounds_toArray,List.set_cons_zero,List.set_cons_succ,i64_w,i32_w]
        rfl
       refine pure_ (i:=9) (N:=some 2) (v:=?_) (a':=?_) #[true,true,true,true,true,true,true,true,true,true] rfl rfl (any_of HT_.out (by kernel_rfl)) (fun _ _ _ h => h) (Or.inl ⟨by rfl,?_⟩) ?_ ?_
       rotate_left
       ·intro w'
        go_simp
        with_reducible rfl
       rotate_left
       ·simp only [Act.put,List.setIfInBounds_toArray,List.set_cons_zero,List.set_cons_succ,i64_w,i32_w]
        rfl
       refine done_ (done_of HT_.out (by kernel_rfl)) ?_
       try go_wp2
       go_ret
       exact ⟨by first | rfl|(simp [errW_none,errW_some] <;> rfl)|(simp [*,errW_none,errW_some] <;> rfl),by repeat (first|(with_reducible first|exact HB.out|apply bwA|apply bwN|apply bw1|refine below_set ?_ GE152.out)|exact HB.out)⟩
end
section
/-! ### spec_l10Reply: function 111 -/
def spec_l10Reply.f (a0_0 : ByteArray) (a0_1 : Int) (a0_2 : Int) (a0_3 : Int) (a0_4 : Int) (a0_5 : Int) (a0_6 : Int) (a0_7 : Int) (a0_8 : ByteArray) (a0_9 : ByteArray) (a0_10 : Bool) (a1 : Int) (a2 : Int) (a3 : ByteArray) : Option (Int × Int × Int × Int × Int × Int × ByteArray):=some (80,a0_2,a1,a0_7,a2,1000,a3)
set_option maxHeartbeats 8000000 in
set_option maxRecDepth 100000 in
theorem spec_l10Reply.calls (a0_0 : ByteArray) (a0_1 : Int) (a0_2 : Int) (a0_3 : Int) (a0_4 : Int) (a0_5 : Int) (a0_6 : Int) (a0_7 : Int) (a0_8 : ByteArray) (a0_9 : ByteArray) (a0_10 : Bool) (a1 : Int) (a2 : Int) (a3 : ByteArray) (r1 : Int) (r2 : Int) (r3 : Int) (r4 : Int) (r5 : Int) (r6 : Int) (r7 : ByteArray) (w : World) (h : spec_l10Reply.f a0_0 a0_1 a0_2 a0_3 a0_4 a0_5 a0_6 a0_7 a0_8 a0_9 a0_10 a1 a2 a3 = some (r1,r2,r3,r4,r5,r6,r7)) :
  Calls Try.prog 111 #[.agg #[.string a0_0,.int .i64 a0_1,.int .i64 a0_2,.int .i64 a0_3,.int .i64 a0_4,.int .i64 a0_5,.int .i64 a0_6,.int .i64 a0_7,.string a0_8,.string a0_9,.bool a0_10],.int .i64 a1,.int .i64 a2,.string a3] w fun e w' => e = .returned (.agg #[.int .i64 r1,.int .i64 r2,.int .i64 r3,.int .i64 r4,.int .i64 r5,.int .i64 r6,.string r7]) ∧ Below w.heap.size w w':=by
 have hu34:=Try.underlying34
 have hu53:=Try.underlying53
 have HB:=aMk (Below.refl w.heap.size w)
 have H : (some (80,a0_2,a1,a0_7,a2,1000,a3)) = some (r1,r2,r3,r4,r5,r6,r7):=h
 clear h
 simp only [Option.some.injEq,Prod.mk.injEq] at H
 obtain ⟨rfl,rfl,rfl,rfl,rfl,rfl,rfl⟩:=H
 go_enter Try.func111,Try.ntmps111
 go_wp2_with (first|((with_reducible refine gate_dst (N:=4) rfl ?_);refine box_event ?hg (N:=4) ?hd (cs:=#[.string a0_0,.int .i64 a0_1,.int .i64 a0_2,.int .i64 a0_3,.int .i64 a0_4,.int .i64 a0_5,.int .i64 a0_6,.int .i64 a0_7,.string a0_8,.string a0_9,.bool a0_10]) (t:=34) ?hr ?_;(case hd => rfl);(case hg => rfl);(case hr => first|(go_simp;done)|(go_simp;rfl));intro gb293 hg w5 hbox hb;have n0_:=aMk (below_step (by repeat first|exact HB.out|apply bwA|apply bwN|apply bw1) hb);have n1_:=aMk (hbox);have n2_:=aMk ((by rw [hg];exact (below_size (by repeat first|exact HB.out|apply bwA|apply bwN|apply bw1)) : w.heap.size ≤ gb293));have n3_:=aMk ((by rw [hg];exact (below_size (by repeat first|exact HB.out|apply bwA|apply bwN|apply bw1)) : w.heap.size ≤ gb293));clear HB;have HB:=n0_;have BK293:=n1_;have GW293:=n2_;have GE293:=n3_;clear n0_ n1_ n2_ n3_;clear hb hbox hg)|((with_reducible refine gate_dst (N:=8) rfl ?_);refine box_event ?hg (N:=8) ?hd (cs:=#[.int .i64 0,.int .i64 0,.int .i64 0,.int .i64 0,.int .i64 0,.int .i64 0,.string (⟨#[]⟩ : ByteArray)]) (t:=53) ?hr ?_;(case hd => rfl);(case hg => rfl);(case hr => first|(go_simp;done)|(go_simp;rfl));intro gb294 hg w6 hbox hb;have n0_:=aMk (blk_below (g:=gb293) (o:=.cells #[.string a0_0,.int .i64 a0_1,.int .i64 a0_2,.int .i64 a0_3,.int .i64 a0_4,.int .i64 a0_5,.int .i64 a0_6,.int .i64 a0_7,.string a0_8,.string a0_9,.bool a0_10] 34 (0,0)) (by (with_reducible repeat (first|refine bDn ?_ _|refine bDr ?_|refine bAl ?_ _));exact BK293.out) hb);have n1_:=aMk (below_step (by repeat (first|(with_reducible first|exact HB.out|apply bwA|apply bwN|apply bw1|refine below_set ?_ GE293.out)|exact HB.out)) hb);have n2_:=aMk (hbox);have n3_:=aMk ((by rw [hg];exact (below_size (by repeat (first|(with_reducible first|exact HB.out|apply bwA|apply bwN|apply bw1|refine below_set ?_ GE293.out)|exact HB.out))) : w.heap.size ≤ gb294));have n4_:=aMk ((by rw [hg];exact (below_size (by repeat (first|(with_reducible first|exact HB.out|apply bwA|apply bwN|apply bw1|refine below_set ?_ GE293.out)|exact HB.out))) : w.heap.size ≤ gb294));have n5_:=aMk ((by rw [hg];exact Nat.ne_of_lt (blk_lt (g:=gb293) (o:=.cells #[.string a0_0,.int .i64 a0_1,.int .i64 a0_2,.int .i64 a0_3,.int .i64 a0_4,.int .i64 a0_5,.int .i64 a0_6,.int .i64 a0_7,.string a0_8,.string a0_9,.bool a0_10] 34 (0,0)) (by (with_reducible repeat (first|refine bDn ?_ _|refine bDr ?_|refine bAl ?_ _));exact BK293.out)) : gb293 ≠ gb294));have n6_:=aMk ((by rw [hg];exact Nat.ne_of_gt (blk_lt (g:=gb293) (o:=.cells #[.string a0_0,.int .i64 a0_1,.int .i64 a0_2,.int .i64 a0_3,.int .i64 a0_4,.int .i64 a0_5,.int .i64 a0_6,.int .i64 a0_7,.string a0_8,.string a0_9,.bool a0_10] 34 (0,0)) (by (with_reducible repeat (first|refine bDn ?_ _|refine bDr ?_|refine bAl ?_ _));exact BK293.out)) : gb294 ≠ gb293));clear BK293;clear HB;have BK293:=n0_;have HB:=n1_;have BK294:=n2_;have GW294:=n3_;have GE294:=n4_;have NB293_294:=n5_;have NB294_293:=n6_;clear n0_ n1_ n2_ n3_ n4_ n5_ n6_;clear hb hbox hg;have hnb7:=NB293_294.out;have hnc7:=NB294_293.out;have hcz8_0 : w6.cell? ⟨gb293,0,none⟩ = some (.string a0_0):=(bCe BK293.out 0).trans rfl;have hcz8_1 : w6.cell? ⟨gb293,1,none⟩ = some (.int .i64 a0_1):=(bCe BK293.out 1).trans rfl;have hcz8_2 : w6.cell? ⟨gb293,2,none⟩ = some (.int .i64 a0_2):=(bCe BK293.out 2).trans rfl;have hcz8_3 : w6.cell? ⟨gb293,3,none⟩ = some (.int .i64 a0_3):=(bCe BK293.out 3).trans rfl;have hcz8_4 : w6.cell? ⟨gb293,4,none⟩ = some (.int .i64 a0_4):=(bCe BK293.out 4).trans rfl;have hcz8_5 : w6.cell? ⟨gb293,5,none⟩ = some (.int .i64 a0_5):=(bCe BK293.out 5).trans rfl;have hcz8_6 : w6.cell? ⟨gb293,6,none⟩ = some (.int .i64 a0_6):=(bCe BK293.out 6).trans rfl;have hcz8_7 : w6.cell? ⟨gb293,7,none⟩ = some (.int .i64 a0_7):=(bCe BK293.out 7).trans rfl;have hcz8_8 : w6.cell? ⟨gb293,8,none⟩ = some (.string a0_8):=(bCe BK293.out 8).trans rfl;have hcz8_9 : w6.cell? ⟨gb293,9,none⟩ = some (.string a0_9):=(bCe BK293.out 9).trans rfl;have hcz8_10 : w6.cell? ⟨gb293,10,none⟩ = some (.bool a0_10):=(bCe BK293.out 10).trans rfl;have hfz8_0:=bFr BK293.out 0;have hfz8_1:=bFr BK293.out 1;have hfz8_2:=bFr BK293.out 2;have hfz8_3:=bFr BK293.out 3;have hfz8_4:=bFr BK293.out 4;have hfz8_5:=bFr BK293.out 5;have hfz8_6:=bFr BK293.out 6;have hfz8_7:=bFr BK293.out 7;have hfz8_8:=bFr BK293.out 8;have hfz8_9:=bFr BK293.out 9;have hfz8_10:=bFr BK293.out 10;have hcz9_0 : w6.cell? ⟨gb294,0,none⟩ = some (.int .i64 0):=(bCe BK294.out 0).trans rfl;have hcz9_1 : w6.cell? ⟨gb294,1,none⟩ = some (.int .i64 0):=(bCe BK294.out 1).trans rfl;have hcz9_2 : w6.cell? ⟨gb294,2,none⟩ = some (.int .i64 0):=(bCe BK294.out 2).trans rfl;have hcz9_3 : w6.cell? ⟨gb294,3,none⟩ = some (.int .i64 0):=(bCe BK294.out 3).trans rfl;have hcz9_4 : w6.cell? ⟨gb294,4,none⟩ = some (.int .i64 0):=(bCe BK294.out 4).trans rfl;have hcz9_5 : w6.cell? ⟨gb294,5,none⟩ = some (.int .i64 0):=(bCe BK294.out 5).trans rfl;have hcz9_6 : w6.cell? ⟨gb294,6,none⟩ = some (.string (⟨#[]⟩ : ByteArray)):=(bCe BK294.out 6).trans rfl;have hfz9_0:=bFr BK294.out 0;have hfz9_1:=bFr BK294.out 1;have hfz9_2:=bFr BK294.out 2;have hfz9_3:=bFr BK294.out 3;have hfz9_4:=bFr BK294.out 4;have hfz9_5:=bFr BK294.out 5;have hfz9_6:=bFr BK294.out 6))
 refine bodyPost_ret (results_cell_row rfl _ _ gb294 53 #[.int .i64 80,.int .i64 a0_2,.int .i64 a1,.int .i64 a0_7,.int .i64 a2,.int .i64 1000,.string a3] (0,0) _ rfl (by (with_reducible repeat (first|refine bDn ?_ _|refine bDr ?_|refine bAl ?_ _));refine blk_put (cs:=#[.int .i64 80,.int .i64 a0_2,.int .i64 a1,.int .i64 a0_7,.int .i64 a2,.int .i64 1000,.string (⟨#[]⟩ : ByteArray)]) ?_ 6 _ rfl;(with_reducible repeat (first|refine bDn ?_ _|refine bDr ?_|refine bAl ?_ _));refine blk_put (cs:=#[.int .i64 80,.int .i64 a0_2,.int .i64 a1,.int .i64 a0_7,.int .i64 a2,.int .i64 0,.string (⟨#[]⟩ : ByteArray)]) ?_ 5 _ rfl;(with_reducible repeat (first|refine bDn ?_ _|refine bDr ?_|refine bAl ?_ _));refine blk_put (cs:=#[.int .i64 80,.int .i64 a0_2,.int .i64 a1,.int .i64 a0_7,.int .i64 0,.int .i64 0,.string (⟨#[]⟩ : ByteArray)]) ?_ 4 _ rfl;(with_reducible repeat (first|refine bDn ?_ _|refine bDr ?_|refine bAl ?_ _));refine blk_put (cs:=#[.int .i64 80,.int .i64 a0_2,.int .i64 a1,.int .i64 0,.int .i64 0,.int .i64 0,.string (⟨#[]⟩ : ByteArray)]) ?_ 3 _ rfl;(with_reducible repeat (first|refine bDn ?_ _|refine bDr ?_|refine bAl ?_ _));refine blk_put (cs:=#[.int .i64 80,.int .i64 a0_2,.int .i64 0,.int .i64 0,.int .i64 0,.int .i64 0,.string (⟨#[]⟩ : ByteArray)]) ?_ 2 _ rfl;(with_reducible repeat (first|refine bDn ?_ _|refine bDr ?_|refine bAl ?_ _));refine blk_put (cs:=#[.int .i64 80,.int .i64 0,.int .i64 0,.int .i64 0,.int .i64 0,.int .i64 0,.string (⟨#[]⟩ : ByteArray)]) ?_ 1 _ rfl;(with_reducible repeat (first|refine bDn ?_ _|refine bDr ?_|refine bAl ?_ _));refine blk_put (cs:=#[.int .i64 0,.int .i64 0,.int .i64 0,.int .i64 0,.int .i64 0,.int .i64 0,.string (⟨#[]⟩ : ByteArray)]) ?_ 0 _ rfl;(with_reducible repeat (first|refine bDn ?_ _|refine bDr ?_|refine bAl ?_ _));exact BK294.out) Try.underlying53 rfl (by kernel_rfl)) rfl ?_
 exact ⟨by first | rfl|(simp [errW_none,errW_some] <;> rfl)|(simp [*,errW_none,errW_some] <;> rfl),by repeat (first|(with_reducible first|exact HB.out|apply bwA|apply bwN|apply bw1|refine below_set ?_ GE293.out|refine below_set ?_ GE294.out)|exact HB.out)⟩
end
section
/-! ### spec_l10Pieces: function 114 -/
def spec_l10Pieces.l0 : Nat → Int → ByteArray → Bool → List (S53) → ByteArray → Int → Int → Int → Int → Int → Int → Int → ByteArray → ByteArray → Bool → Option ((List (S53)))
 | 0,_,_,_,_,_,_,_,_,_,_,_,_,_,_,_ => none
 | k + 1,x1,x2,x3,x9,x499000,x499001,x499002,x499003,x499004,x499005,x499006,x499007,x499008,x499009,x499010 => if (x2.size : Int) > 0 then (if 0 ≤ (mn (x2.size : Int) 200) then (if (mn (x2.size : Int) 200) ≤ (x2.size : Int) then ((spec_l10Reply.f x499000 x499001 x499002 x499003 x499004 x499005 x499006 x499007 x499008 x499009 x499010 x1 24 (x2.extract 0 ((mn (x2.size : Int) 200) : Int).toNat)).bind fun bt502 => (if x9.length < 2199023255552 then ((spec_l10Seq.f (wrap64 (x1 + (mn (x2.size : Int) 200)))).bind fun t512 => (spec_l10Pieces.l0 k t512 (x2.extract ((mn (x2.size : Int) 200) : Int).toNat x2.size) x3 (x9 ++ [(⟨bt502.1,bt502.2.1,bt502.2.2.1,bt502.2.2.2.1,bt502.2.2.2.2.1,bt502.2.2.2.2.2.1,bt502.2.2.2.2.2.2⟩ : S53)]) x499000 x499001 x499002 x499003 x499004 x499005 x499006 x499007 x499008 x499009 x499010)) else (none))) else (none)) else (none)) else (if x3 = true then ((spec_l10Reply.f x499000 x499001 x499002 x499003 x499004 x499005 x499006 x499007 x499008 x499009 x499010 x1 17 (⟨#[]⟩ : ByteArray)).bind fun bt513 => (if x9.length < 2199023255552 then (some (x9 ++ [(⟨bt513.1,bt513.2.1,bt513.2.2.1,bt513.2.2.2.1,bt513.2.2.2.2.1,bt513.2.2.2.2.2.1,bt513.2.2.2.2.2.2⟩ : S53)])) else (none))) else (some x9))
def spec_l10Pieces.f (k : Nat) (a0_0 : ByteArray) (a0_1 : Int) (a0_2 : Int) (a0_3 : Int) (a0_4 : Int) (a0_5 : Int) (a0_6 : Int) (a0_7 : Int) (a0_8 : ByteArray) (a0_9 : ByteArray) (a0_10 : Bool) (a1 : Int) (a2 : ByteArray) (a3 : Bool) : Option ((List (S53))):=spec_l10Pieces.l0 k a1 a2 a3 (([] : List (S53))) a0_0 a0_1 a0_2 a0_3 a0_4 a0_5 a0_6 a0_7 a0_8 a0_9 a0_10
theorem spec_l10Pieces.mono_l : ∀ k,(∀ y0 y1 y2 y3 y4 y5 y6 y7 y8 y9 y10 y11 y12 y13 y14,LeO (spec_l10Pieces.l0 k y0 y1 y2 y3 y4 y5 y6 y7 y8 y9 y10 y11 y12 y13 y14) (spec_l10Pieces.l0 (k + 1) y0 y1 y2 y3 y4 y5 y6 y7 y8 y9 y10 y11 y12 y13 y14))
 | 0 => fun _ _ _ _ _ _ _ _ _ _ _ _ _ _ _ r h => by simp [spec_l10Pieces.l0] at h
 | k + 1 => by
  have ih0:=spec_l10Pieces.mono_l k
  ·intro y0 y1 y2 y3 y4 y5 y6 y7 y8 y9 y10 y11 y12 y13 y14
   unfold spec_l10Pieces.l0
   repeat' first
   | (with_reducible exact ih0 _ _ _ _ _ _ _ _ _ _ _ _ _ _ _)
   | (with_reducible exact LeO.refl _)
   | (with_reducible exact LeO.none _)
   | (with_reducible refine LeO.ite ?_ ?_)
   | (with_reducible refine LeO.bind ?_ (fun _ => ?_))
   | exact ih0 _ _ _ _ _ _ _ _ _ _ _ _ _ _ _
   | exact LeO.none _
   | refine LeO.ite ?_ ?_
   | refine LeO.bind ?_ (fun _ => ?_)
theorem spec_l10Pieces.mono : ∀ a0 a1 a2 a3 a4 a5 a6 a7 a8 a9 a10 a11 a12 a13 k,LeO (spec_l10Pieces.f k a0 a1 a2 a3 a4 a5 a6 a7 a8 a9 a10 a11 a12 a13) (spec_l10Pieces.f (k + 1) a0 a1 a2 a3 a4 a5 a6 a7 a8 a9 a10 a11 a12 a13):=by
 intro a0 a1 a2 a3 a4 a5 a6 a7 a8 a9 a10 a11 a12 a13 k
 have ih0:=spec_l10Pieces.mono_l k
 unfold spec_l10Pieces.f
 repeat' first
   | (with_reducible exact ih0 _ _ _ _ _ _ _ _ _ _ _ _ _ _ _)
   | (with_reducible exact LeO.refl _)
   | (with_reducible exact LeO.none _)
   | (with_reducible refine LeO.ite ?_ ?_)
   | (with_reducible refine LeO.bind ?_ (fun _ => ?_))
   | exact ih0 _ _ _ _ _ _ _ _ _ _ _ _ _ _ _
   | exact LeO.none _
   | refine LeO.ite ?_ ?_
   | refine LeO.bind ?_ (fun _ => ?_)
def spec_l10Pieces.T4 : Bool × List (List Nat × List Nat):=(true,[([],[]),([],[]),([],[]),([],[]),([],[]),([3,4],[3,4]),([1,2,5],[1,2,5]),([6],[6]),([0,7,6],[0,7]),([8,8,0,1,2,3,4,5,6,7,8],[0,8])])
def spec_l10Pieces.B4 : List Nat:=[0,0,0,0,0,24,62,126,255,511]
theorem spec_l10Pieces.tab4 : rtab .any (opsOf Try.f114 4) = spec_l10Pieces.T4:=by kernel_rfl
theorem spec_l10Pieces.bits4 : waitsOk spec_l10Pieces.T4.2 spec_l10Pieces.B4 = true:=by kernel_rfl
set_option maxHeartbeats 8000000 in
set_option maxRecDepth 100000 in
theorem spec_l10Pieces.calls (k : Nat) (a0_0 : ByteArray) (a0_1 : Int) (a0_2 : Int) (a0_3 : Int) (a0_4 : Int) (a0_5 : Int) (a0_6 : Int) (a0_7 : Int) (a0_8 : ByteArray) (a0_9 : ByteArray) (a0_10 : Bool) (a1 : Int) (a2 : ByteArray) (a3 : Bool) (r : List (S53)) (w : World) (h : spec_l10Pieces.f k a0_0 a0_1 a0_2 a0_3 a0_4 a0_5 a0_6 a0_7 a0_8 a0_9 a0_10 a1 a2 a3 = some r) :
  Calls Try.prog 114 #[.agg #[.string a0_0,.int .i64 a0_1,.int .i64 a0_2,.int .i64 a0_3,.int .i64 a0_4,.int .i64 a0_5,.int .i64 a0_6,.int .i64 a0_7,.string a0_8,.string a0_9,.bool a0_10],.int .i64 a1,.string a2,.bool a3] w fun e w' => ∃ v0_ : Value,e = .returned (v0_) ∧ Kd.R k53 53 w' w.heap.size (fun _ => True) v0_ r ∧ Below w.heap.size w w':=by
 have hu34:=Try.underlying34
 have HB:=aMk (Below.refl w.heap.size w)
 have H : (spec_l10Pieces.l0 k a1 a2 a3 (([] : List (S53))) a0_0 a0_1 a0_2 a0_3 a0_4 a0_5 a0_6 a0_7 a0_8 a0_9 a0_10) = some r:=h
 clear h
 obtain ⟨y499,hy499⟩ : ∃ y_ : List (S53),y_ = (([] : List (S53))):=⟨_,rfl⟩
 replace H : (spec_l10Pieces.l0 k a1 a2 a3 y499 a0_0 a0_1 a0_2 a0_3 a0_4 a0_5 a0_6 a0_7 a0_8 a0_9 a0_10) = some r:=by first|(rw [hy499];with_reducible exact H)|(have H2_:=(Option.bind_some _ _).symm.trans H;rw [hy499];with_reducible exact H2_)|(have H2_:=(Option.bind_some _ _).symm.trans H;with_reducible exact H2_) | with_reducible exact H|(rw [hy499];exact H)|exact H
 have Ny499:=aMk hy499
 clear hy499
 have H':=aMk H
 clear H
 go_enter Try.func114,Try.ntmps114
 go_wp2_with (first|((with_reducible refine gate_dst (N:=4) rfl ?_);refine box_event ?hg (N:=4) ?hd (cs:=#[.string a0_0,.int .i64 a0_1,.int .i64 a0_2,.int .i64 a0_3,.int .i64 a0_4,.int .i64 a0_5,.int .i64 a0_6,.int .i64 a0_7,.string a0_8,.string a0_9,.bool a0_10]) (t:=34) ?hr ?_;(case hd => rfl);(case hg => rfl);(case hr => first|(go_simp;done)|(go_simp;rfl));intro gb498 hg w5 hbox hb;have n0_:=aMk (below_step (by repeat first|exact HB.out|apply bwA|apply bwN|apply bw1) hb);have n1_:=aMk (hbox);have n2_:=aMk ((by rw [hg];exact (below_size (by repeat first|exact HB.out|apply bwA|apply bwN|apply bw1)) : w.heap.size ≤ gb498));have n3_:=aMk ((by rw [hg];exact (below_size (by repeat first|exact HB.out|apply bwA|apply bwN|apply bw1)) : w.heap.size ≤ gb498));clear HB;have HB:=n0_;have BK498:=n1_;have GW498:=n2_;have GE498:=n3_;clear n0_ n1_ n2_ n3_;clear hb hbox hg)|((with_reducible refine gate_dst (N:=11) rfl ?_);refine Kd.R_lit k53 _ 53 ?hg (N:=11) ?hd (xs:=([] : List (S53))) (inner:=[]) (ok:=fun _ => True) (okp:=fun _ => True) ?hr ?hp (fun _ hk => hk) trivial (Below.refl _ _) (Nat.le_refl _) (by simp) ?_;(case hd => rfl);(case hg => rfl);(case hr => first|(go_simp;done)|(go_simp;rfl));(case hp => exact (Reps.none _ _));intro v500 w6 ho7 hb hg_ hnew_;clear hg_ hnew_;(first|rw [← Ny499.out] at ho7|(simp only [Int.reduceToNat] at ho7;rw [← Ny499.out] at ho7));have n0_:=aMk (Kd.R_lower ho7 (below_size (by repeat (first|(with_reducible first|exact HB.out|apply bwA|apply bwN|apply bw1|refine below_set ?_ GE498.out)|exact HB.out))));have n1_:=aMk (blk_below (g:=gb498) (o:=.cells #[.string a0_0,.int .i64 a0_1,.int .i64 a0_2,.int .i64 a0_3,.int .i64 a0_4,.int .i64 a0_5,.int .i64 a0_6,.int .i64 a0_7,.string a0_8,.string a0_9,.bool a0_10] 34 (0,0)) (by (with_reducible repeat (first|refine bDn ?_ _|refine bDr ?_|refine bAl ?_ _));exact BK498.out) hb);have n2_:=aMk (below_step (by repeat (first|(with_reducible first|exact HB.out|apply bwA|apply bwN|apply bw1|refine below_set ?_ GE498.out)|exact HB.out)) hb);clear BK498;clear HB;have HO501:=n0_;have BK498:=n1_;have HB:=n2_;clear n0_ n1_ n2_;clear hb ho7))
 go_loopg [1,2,9] k (fun kq v1 v2 v9 w' => ∃ (x1_1 : Int) (x2_1 : ByteArray) (x9_1 : List (S53)),v1 = .int .i64 x1_1 ∧ v2 = .string x2_1 ∧ Aside0 (spec_l10Pieces.l0 kq x1_1 x2_1 a3 x9_1 a0_0 a0_1 a0_2 a0_3 a0_4 a0_5 a0_6 a0_7 a0_8 a0_9 a0_10 = some r) ∧ Aside0 (kq ≤ k) ∧ Aside0 (Kd.R k53 53 w' w.heap.size (fun _ => True) v9 x9_1) ∧ Aside0 (w'.heap[gb498]? = some (.cells #[.string a0_0,.int .i64 a0_1,.int .i64 a0_2,.int .i64 a0_3,.int .i64 a0_4,.int .i64 a0_5,.int .i64 a0_6,.int .i64 a0_7,.string a0_8,.string a0_9,.bool a0_10] 34 (0,0))) ∧ Aside0 (Below w.heap.size w w'))
 case atStart => exact ⟨(a1),(a2),(y499),(by first | rfl|(simp;done)|(simp [*];done)|(simp [ne_nil_b];done)|(simp [ne_nil_b, *];done)),(by first | rfl|(simp;done)|(simp [*];done)|(simp [ne_nil_b];done)|(simp [ne_nil_b, *];done)),H',⟨Nat.le_refl _⟩,⟨by (with_reducible repeat (first|apply Kd.R_alloc|apply Kd.R_drewN|apply Kd.R_drew));exact HO501.out⟩,⟨by (with_reducible repeat (first|refine bDn ?_ _|refine bDr ?_|refine bAl ?_ _));exact BK498.out⟩,⟨by repeat (first|(with_reducible first|exact HB.out|apply bwA|apply bwN|apply bw1|refine below_set ?_ GE498.out)|exact HB.out)⟩⟩
 case round =>
  clear H'
  try clear c1
  try clear p2
  obtain ⟨x1_1,x2_1,x9_1,rfl,rfl,HA,HK1,HO_9,BK498,HB⟩:=hrel
  cases gk with
  | zero => exact absurd HA.out (by simp [spec_l10Pieces.l0])
  | succ k1 =>
   have H:=HA.out
   clear HA
   simp only [spec_l10Pieces.l0] at H
   by_cases c8 : (x2_1.size : Int) > 0
   ·rw [if_pos c8] at H
    have c8b0 : decide (0 < (x2_1.size : Int)) = true:=decide_eq_true c8
    have c8b1 : decide (0 < x2_1.size) = true:=decide_eq_true (by omega)
    clear c8
    obtain ⟨ji9,hji9⟩ : ∃ j_ : Int,(mn (x2_1.size : Int) 200) = j_:=⟨_,rfl⟩
    replace H : (if 0 ≤ (ji9) then (if (ji9) ≤ (x2_1.size : Int) then ((spec_l10Reply.f a0_0 a0_1 a0_2 a0_3 a0_4 a0_5 a0_6 a0_7 a0_8 a0_9 a0_10 x1_1 24 (x2_1.extract 0 ((ji9) : Int).toNat)).bind fun bt502 => (if x9_1.length < 2199023255552 then ((spec_l10Seq.f (wrap64 (x1_1 + (ji9)))).bind fun t512 => (spec_l10Pieces.l0 k1 t512 (x2_1.extract ((ji9) : Int).toNat x2_1.size) a3 (x9_1 ++ [(⟨bt502.1,bt502.2.1,bt502.2.2.1,bt502.2.2.2.1,bt502.2.2.2.2.1,bt502.2.2.2.2.2.1,bt502.2.2.2.2.2.2⟩ : S53)]) a0_0 a0_1 a0_2 a0_3 a0_4 a0_5 a0_6 a0_7 a0_8 a0_9 a0_10)) else (none))) else (none)) else (none)) = some r:=by first|(rw [hji9] at H;exact H)|(simp only [hji9] at H ⊢;exact H)
    have hji9_ : (if 200 < (x2_1.size : Int) then 200 else (x2_1.size : Int)) = ji9:=hji9
    by_cases c10 : 0 ≤ (ji9)
    ·rw [if_pos c10] at H
     have c10b0:=eq_true c10
     have c10b1 : decide (0 ≤ (ji9)) = true:=decide_eq_true c10
     clear c10
     by_cases c11 : (ji9) ≤ (x2_1.size : Int)
     ·rw [if_pos c11] at H
      have c11b0:=eq_true c11
      have c11b1 : decide ((ji9) ≤ (x2_1.size : Int)) = true:=decide_eq_true c11
      clear c11
      replace H:=Option.bind_eq_some_iff.mp H
      obtain ⟨⟨t502,t503,t504,t505,t506,t507,t508⟩,A120,H⟩:=H
      replace H : (if x9_1.length < 2199023255552 then ((spec_l10Seq.f (wrap64 (x1_1 + (ji9)))).bind fun t512 => (spec_l10Pieces.l0 k1 t512 (x2_1.extract ((ji9) : Int).toNat x2_1.size) a3 (x9_1 ++ [(⟨t502,t503,t504,t505,t506,t507,t508⟩ : S53)]) a0_0 a0_1 a0_2 a0_3 a0_4 a0_5 a0_6 a0_7 a0_8 a0_9 a0_10)) else (none)) = some r:=H
      have A12:=aMk A120
      clear A120
      by_cases c13 : x9_1.length < 2199023255552
      ·rw [if_pos c13] at H
       have LMc13:=aMk c13
       clear c13
       obtain ⟨y509,hy509⟩ : ∃ y_ : List (S53),y_ = (x9_1 ++ [(⟨t502,t503,t504,t505,t506,t507,t508⟩ : S53)]):=⟨_,rfl⟩
       replace H : ((spec_l10Seq.f (wrap64 (x1_1 + (ji9)))).bind fun t512 => (spec_l10Pieces.l0 k1 t512 (x2_1.extract ((ji9) : Int).toNat x2_1.size) a3 y509 a0_0 a0_1 a0_2 a0_3 a0_4 a0_5 a0_6 a0_7 a0_8 a0_9 a0_10)) = some r:=by first|(rw [hy509];with_reducible exact H)|(have H2_:=(Option.bind_some _ _).symm.trans H;rw [hy509];with_reducible exact H2_)|(have H2_:=(Option.bind_some _ _).symm.trans H;with_reducible exact H2_) | with_reducible exact H|(rw [hy509];exact H)|exact H
       have Ny509:=aMk hy509
       clear hy509
       replace H:=Option.bind_eq_some_iff.mp H
       obtain ⟨t512,A140,H⟩:=H
       replace H : (spec_l10Pieces.l0 k1 t512 (x2_1.extract ((ji9) : Int).toNat x2_1.size) a3 y509 a0_0 a0_1 a0_2 a0_3 a0_4 a0_5 a0_6 a0_7 a0_8 a0_9 a0_10) = some r:=H
       have A14:=aMk A140
       clear A140
       have c15b0:=eq_true (of_decide_eq_true (by first|(with_reducible assumption) | assumption) : 0 ≤ (ji9))
       have c16b0:=eq_true (of_decide_eq_true (by first|(with_reducible assumption) | assumption) : (ji9) ≤ (x2_1.size : Int))
       have H':=aMk H
       clear H
       try go_wp2
       have n0_:=aMk (Kd.R_drew HO_9.out)
       have n1_:=aMk (bDr BK498.out)
       have n2_:=aMk (bw1 HB.out)
       clear HO_9
       clear BK498
       clear HB
       have HO_9:=n0_
       have BK498:=n1_
       have HB:=n2_
       clear n0_ n1_ n2_
       refine start_ (n:=10) (S:=fun w' => w'.cell? ⟨gb498,0,none⟩ = some (.string a0_0) ∧ w'.cell? ⟨gb498,1,none⟩ = some (.int .i64 a0_1) ∧ w'.cell? ⟨gb498,2,none⟩ = some (.int .i64 a0_2) ∧ w'.cell? ⟨gb498,3,none⟩ = some (.int .i64 a0_3) ∧ w'.cell? ⟨gb498,4,none⟩ = some (.int .i64 a0_4) ∧ w'.cell? ⟨gb498,5,none⟩ = some (.int .i64 a0_5) ∧ w'.cell? ⟨gb498,6,none⟩ = some (.int .i64 a0_6) ∧ w'.cell? ⟨gb498,7,none⟩ = some (.int .i64 a0_7) ∧ w'.cell? ⟨gb498,8,none⟩ = some (.string a0_8) ∧ w'.cell? ⟨gb498,9,none⟩ = some (.string a0_9) ∧ w'.cell? ⟨gb498,10,none⟩ = some (.bool a0_10)) (ds:=[]) #[false,false,false,false,false,false,false,false,false,false] (by kernel_rfl) rfl rfl ⟨(bCe BK498.out 0).trans rfl,(bCe BK498.out 1).trans rfl,(bCe BK498.out 2).trans rfl,(bCe BK498.out 3).trans rfl,(bCe BK498.out 4).trans rfl,(bCe BK498.out 5).trans rfl,(bCe BK498.out 6).trans rfl,(bCe BK498.out 7).trans rfl,(bCe BK498.out 8).trans rfl,(bCe BK498.out 9).trans rfl,(bCe BK498.out 10).trans rfl⟩ (fun hHeld => ?_);refine with_tabW spec_l10Pieces.tab4 spec_l10Pieces.bits4 (fun HT_ HW_ => ?_)
       generalize wr.drew = w17 at HO_9 BK498 HB hHeld ⊢
       refine pure_ (i:=0) (N:=some 18) (v:=?_) (a':=?_) #[true,false,false,false,false,false,false,false,false,false] rfl rfl (any_of HT_.out (by kernel_rfl)) (fun _ _ _ h => h) (Or.inl ⟨by rfl,?_⟩) ?_ ?_
       rotate_left
       ·intro w'
        go_simp
        with_reducible rfl
       rotate_left
       ·simp only [Act.put,List.setIfInBounds_toArray,List.set_cons_zero,List.set_cons_succ,i64_w,i32_w]
        rfl
       refine pure_ (i:=2) (N:=some 20) (v:=?_) (a':=?_) #[true,false,true,false,false,false,false,false,false,false] rfl rfl (any_of HT_.out (by kernel_rfl)) (fun _ _ _ h => h) (Or.inl ⟨by rfl,?_⟩) ?_ ?_
       rotate_left
       ·intro w'
        go_simp
        with_reducible rfl
       rotate_left
       ·simp only [Act.put,List.setIfInBounds_toArray,List.set_cons_zero,List.set_cons_succ,i64_w,i32_w]
        rfl
       refine pure_ (i:=3) (N:=some 21) (v:=?_) (a':=?_) #[true,false,true,true,false,false,false,false,false,false] rfl rfl (any_of HT_.out (by kernel_rfl)) (fun _ _ _ h => h) (Or.inl ⟨by rfl,?_⟩) ?_ ?_
       rotate_left
       ·intro w'
        go_simp
        with_reducible rfl
       rotate_left
       ·simp only [Act.put,List.setIfInBounds_toArray,List.set_cons_zero,List.set_cons_succ,i64_w,i32_w]
        rfl
       refine pure_ (i:=4) (N:=some 22) (v:=?_) (a':=?_) #[true,false,true,true,true,false,false,false,false,false] rfl rfl (any_of HT_.out (by kernel_rfl)) (fun _ _ _ h => h) (Or.inl ⟨by rfl,?_⟩) ?_ ?_
       rotate_left
       ·intro w'
        go_simp
        with_reducible rfl
       rotate_left
       ·simp only [Act.put,List.setIfInBounds_toArray,List.set_cons_zero,List.set_cons_succ,i64_w,i32_w]
        rfl
       refine pure_ (i:=5) (N:=some 23) (v:=?_) (a':=?_) #[true,false,true,true,true,true,false,false,false,false] rfl rfl (any_of HT_.out (by kernel_rfl)) (fun _ _ _ h => h) (Or.inl ⟨by rfl,?_⟩) ?_ ?_
       rotate_left
       ·intro w'
        go_simp
        with_reducible rfl
       rotate_left
       ·simp only [Act.put,List.setIfInBounds_toArray,List.set_cons_zero,List.set_cons_succ,i64_w,i32_w]
        rfl
       refine take_ (i:=1) (N:=some 19) (v:=?_) (a':=?_) #[true,true,true,true,true,true,false,false,false,false] rfl rfl (take_ofW HT_.out HW_.out (by kernel_rfl)) (fun _ _ _ h => h) (Or.inl ⟨by rfl,?_⟩) hHeld ?_ ?_
       rotate_left
       ·rintro w' ⟨s0,s1,s2,s3,s4,s5,s6,s7,s8,s9,s10⟩
        go_simp
        with_reducible rfl
       rotate_left
       ·simp only [Act.put,List.setIfInBounds_toArray,List.set_cons_zero,List.set_cons_succ,i64_w,i32_w]
        rfl
       refine one_ (i:=6) (N:=some 24) #[true,true,true,true,true,true,true,false,false,false] rfl rfl (one_of HT_.out (by kernel_rfl)) (by decide) (fun K hK => ?_)
       refine goes_ Try.func111 (by kernel_rfl) rfl #[.agg #[.string a0_0,.int .i64 a0_1,.int .i64 a0_2,.int .i64 a0_3,.int .i64 a0_4,.int .i64 a0_5,.int .i64 a0_6,.int .i64 a0_7,.string a0_8,.string a0_9,.bool a0_10],.int .i64 x1_1,.int .i64 24,.string (x2_1.extract 0 ((ji9) : Int).toNat)] (by rfl) rfl rfl (by (try simp only [List.map_toArray,List.map_cons,List.map_nil]);first | done|(simp only [hji9];rfl) | rfl|(simp only [List.length_drop,List.length_take];rfl)) ?_
       with_reducible refine (spec_l10Reply.calls a0_0 a0_1 a0_2 a0_3 a0_4 a0_5 a0_6 a0_7 a0_8 a0_9 a0_10 x1_1 24 (x2_1.extract 0 ((ji9) : Int).toNat) t502 t503 t504 t505 t506 t507 t508 _ A12.out).mono ?_
       rintro e w18 ⟨rfl,hb⟩
       refine ⟨_,rfl,?_⟩
       have n0_:=aMk (Kd.R_below (by (with_reducible repeat (first|apply Kd.R_alloc|apply Kd.R_drewN|apply Kd.R_drew));exact HO_9.out) hb)
       have n1_:=aMk (blk_below (g:=gb498) (o:=.cells #[.string a0_0,.int .i64 a0_1,.int .i64 a0_2,.int .i64 a0_3,.int .i64 a0_4,.int .i64 a0_5,.int .i64 a0_6,.int .i64 a0_7,.string a0_8,.string a0_9,.bool a0_10] 34 (0,0)) (by (with_reducible repeat (first|refine bDn ?_ _|refine bDr ?_|refine bAl ?_ _));exact BK498.out) hb)
       have n2_:=aMk (below_step (by repeat (first|(with_reducible first|exact HB.out|apply bwA|apply bwN|apply bw1|refine below_set ?_ GE498.out)|exact HB.out)) hb)
       clear HO_9
       clear BK498
       clear HB
       have HO_9:=n0_
       have BK498:=n1_
       have HB:=n2_
       clear n0_ n1_ n2_
       (try clear hb)
       (try clear hb2)
       (try clear hk)
       (try clear hi)
       refine hK.out _ _ ⟨(bCe BK498.out 0).trans rfl,(bCe BK498.out 1).trans rfl,(bCe BK498.out 2).trans rfl,(bCe BK498.out 3).trans rfl,(bCe BK498.out 4).trans rfl,(bCe BK498.out 5).trans rfl,(bCe BK498.out 6).trans rfl,(bCe BK498.out 7).trans rfl,(bCe BK498.out 8).trans rfl,(bCe BK498.out 9).trans rfl,(bCe BK498.out 10).trans rfl⟩ (fun hHeld => ?_)
       clear hK K
       refine norm_ (a':=?_) ?_ ?_
       rotate_left
       ·show Act.put _ (some 24) _ = _
        simp only [Act.put,List.setIfInBounds_toArray,List.set_cons_zero,List.set_cons_succ,i64_w,i32_w]
        rfl
       refine one_ (i:=7) (N:=some 25) #[true,true,true,true,true,true,true,true,false,false] rfl rfl (one_of HT_.out (by kernel_rfl)) (by decide) (fun K hK => ?_)
       refine value_ (w1:=?_) (v:=?_) (by rfl) rfl ?_ ?_
       rotate_left 2
       ·go_simp
        constructor
        ·rfl
        ·rfl
       refine hK.out _ _ ⟨(bCe (bAl BK498.out _) 0).trans rfl,(bCe (bAl BK498.out _) 1).trans rfl,(bCe (bAl BK498.out _) 2).trans rfl,(bCe (bAl BK498.out _) 3).trans rfl,(bCe (bAl BK498.out _) 4).trans rfl,(bCe (bAl BK498.out _) 5).trans rfl,(bCe (bAl BK498.out _) 6).trans rfl,(bCe (bAl BK498.out _) 7).trans rfl,(bCe (bAl BK498.out _) 8).trans rfl,(bCe (bAl BK498.out _) 9).trans rfl,(bCe (bAl BK498.out _) 10).trans rfl⟩ (fun hHeld => ?_)
       clear hK K
       refine norm_ (a':=?_) ?_ ?_
       rotate_left
       ·show Act.put _ (some 25) _ = _
        simp only [Act.put,List.setIfInBounds_toArray,List.set_cons_zero,List.set_cons_succ,i64_w,i32_w]
        rfl
       refine one_ (i:=8) (N:=some 26) #[true,true,true,true,true,true,true,true,true,false] rfl rfl (one_of HT_.out (by kernel_rfl)) (by decide) (fun K hK => ?_)
       refine Kd.R_append_step k53 (w0:=w) w.heap.size (by rfl) (.tmp 18) (.tmp 25) 50 53 (.agg #[(.int .i64 0),(.int .i64 0),(.int .i64 0),(.int .i64 0),(.int .i64 0),(.int .i64 0),(.string ⟨#[]⟩)]) 64 rfl Try.underlying50 info53 rfl (by decide) (by omega) u9 x9_1 (⟨t502,t503,t504,t505,t506,t507,t508⟩ : S53) [.int .i64 t502,.int .i64 t503,.int .i64 t504,.int .i64 t505,.int .i64 t506,.int .i64 t507,.string t508] (fun _ => True) (fun _ => False) rfl rfl ?aP (fun _ hk => hk.elim) ?aF ?aO ?aB ?aS ?aL ?_
       (case aP => exact k53_mkM _ _ _ (⟨t502,t503,t504,t505,t506,t507,t508⟩ : S53))
       (case aB => exact (by repeat (first|(with_reducible first|exact HB.out|apply bwA|apply bwN|apply bw1|refine below_set ?_ GE498.out)|exact HB.out)))
       (case aF => exact (fun _ _ => trivial))
       (case aO => exact (by (with_reducible repeat (first|apply Kd.R_alloc|apply Kd.R_drewN|apply Kd.R_drew));exact HO_9.out))
       (case aS => exact (below_size (by repeat (first|(with_reducible first|exact HB.out|apply bwA|apply bwN|apply bw1|refine below_set ?_ GE498.out)|exact HB.out))))
       (case aL => have:=LMc13.out;omega)
       intro v510 w19 ho hb hg hat
       rw [← Ny509.out] at ho
       have n0_:=aMk (blk_grown (g:=gb498) (o:=.cells #[.string a0_0,.int .i64 a0_1,.int .i64 a0_2,.int .i64 a0_3,.int .i64 a0_4,.int .i64 a0_5,.int .i64 a0_6,.int .i64 a0_7,.string a0_8,.string a0_9,.bool a0_10] 34 (0,0)) (by (with_reducible repeat (first|refine bDn ?_ _|refine bDr ?_|refine bAl ?_ _));exact BK498.out) hg (Kd.R_ne HO_9.out BK498.out (by decide)))
       have n1_:=aMk (hb)
       have n2_:=aMk (ho)
       clear BK498
       clear HB
       clear HO_9
       have BK498:=n0_
       have HB:=n1_
       have HO511:=n2_
       clear n0_ n1_ n2_
       clear ho hb hg hat
       refine hK.out _ _ ⟨(bCe BK498.out 0).trans rfl,(bCe BK498.out 1).trans rfl,(bCe BK498.out 2).trans rfl,(bCe BK498.out 3).trans rfl,(bCe BK498.out 4).trans rfl,(bCe BK498.out 5).trans rfl,(bCe BK498.out 6).trans rfl,(bCe BK498.out 7).trans rfl,(bCe BK498.out 8).trans rfl,(bCe BK498.out 9).trans rfl,(bCe BK498.out 10).trans rfl⟩ (fun hHeld => ?_)
       clear hK K
       refine norm_ (a':=?_) ?_ ?_
       rotate_left
       ·show Act.put _ (some 26) _ = _
        simp only [Act.put,List.setIfInBounds_toArray,List.set_cons_zero,List.set_cons_succ,i64_w,i32_w]
        rfl
       refine pure_ (i:=9) (N:=some 9) (v:=?_) (a':=?_) #[true,true,true,true,true,true,true,true,true,true] rfl rfl (any_of HT_.out (by kernel_rfl)) (fun _ _ _ h => h) (Or.inl ⟨by rfl,?_⟩) ?_ ?_
       rotate_left
       ·intro w'
        go_simp
        with_reducible rfl
       rotate_left
       ·simp only [Act.put,List.setIfInBounds_toArray,List.set_cons_zero,List.set_cons_succ,i64_w,i32_w]
        rfl
       refine done_ (done_of HT_.out (by kernel_rfl)) ?_
       try go_wp2_with (first|((with_reducible refine gate_callee (f:=70) rfl ?_);refine goesL_ (some 30) rfl rfl Try.func70 (by kernel_rfl) rfl #[.int .i64 (wrap64 (x1_1 + (ji9)))] rfl (by (try simp only [List.map_toArray,List.map_cons,List.map_nil]);first | done|(simp only [hji9];rfl) | rfl|(simp only [List.length_drop,List.length_take];rfl)) ?_;(with_reducible refine (spec_l10Seq.calls (wrap64 (x1_1 + (ji9))) t512 _ A14.out).mono ?_);rintro e w' ⟨rfl,⟨nd,rfl⟩⟩;refine ⟨_,rfl,?_⟩))
       go_roundg k1
       case measure => have:=HK1.out;omega
       case rel => exact ⟨(t512),(x2_1.extract ((ji9) : Int).toNat x2_1.size),(y509),(by first | rfl|(simp;done)|(simp [*];done)|(simp [ne_nil_b];done)|(simp [ne_nil_b, *];done)),(by first | rfl|(simp;done)|(simp only [← hji9] <;> (first|rfl | simp))|(simp [*];done)|(simp [ne_nil_b];done)|(simp [ne_nil_b, *];done)),H',⟨by have:=HK1.out;omega⟩,⟨by (with_reducible repeat (first|apply Kd.R_alloc|apply Kd.R_drewN|apply Kd.R_drew));exact HO511.out⟩,⟨by (with_reducible repeat (first|refine bDn ?_ _|refine bDr ?_|refine bAl ?_ _));exact BK498.out⟩,⟨by repeat (first|(with_reducible first|exact HB.out|apply bwA|apply bwN|apply bw1|refine below_set ?_ GE498.out)|exact HB.out)⟩⟩
      ·rw [if_neg c13] at H
       exact absurd H (by simp)
     ·rw [if_neg c11] at H
      exact absurd H (by simp)
    ·rw [if_neg c10] at H
     exact absurd H (by simp)
   ·rw [if_neg c8] at H
    have c8b0 : decide (0 < (x2_1.size : Int)) = false:=decide_eq_false c8
    have c8b1 : decide (0 < x2_1.size) = false:=decide_eq_false (by omega)
    clear c8
    by_cases c20 : a3 = true
    ·subst c20
     have H1 : ((spec_l10Reply.f a0_0 a0_1 a0_2 a0_3 a0_4 a0_5 a0_6 a0_7 a0_8 a0_9 a0_10 x1_1 17 (⟨#[]⟩ : ByteArray)).bind fun bt513 => (if x9_1.length < 2199023255552 then (some (x9_1 ++ [(⟨bt513.1,bt513.2.1,bt513.2.2.1,bt513.2.2.2.1,bt513.2.2.2.2.1,bt513.2.2.2.2.2.1,bt513.2.2.2.2.2.2⟩ : S53)])) else (none))) = some r:=by rw [if_pos rfl] at H;exact H
     clear H
     have H:=H1
     clear H1
     replace H:=Option.bind_eq_some_iff.mp H
     obtain ⟨⟨t513,t514,t515,t516,t517,t518,t519⟩,A210,H⟩:=H
     replace H : (if x9_1.length < 2199023255552 then (some (x9_1 ++ [(⟨t513,t514,t515,t516,t517,t518,t519⟩ : S53)])) else (none)) = some r:=H
     have A21:=aMk A210
     clear A210
     by_cases c22 : x9_1.length < 2199023255552
     ·rw [if_pos c22] at H
      have LMc22:=aMk c22
      clear c22
      obtain ⟨y520,hy520⟩ : ∃ y_ : List (S53),y_ = (x9_1 ++ [(⟨t513,t514,t515,t516,t517,t518,t519⟩ : S53)]):=⟨_,rfl⟩
      replace H : (some y520) = some r:=by first|(rw [hy520];with_reducible exact H)|(have H2_:=(Option.bind_some _ _).symm.trans H;rw [hy520];with_reducible exact H2_)|(have H2_:=(Option.bind_some _ _).symm.trans H;with_reducible exact H2_) | with_reducible exact H|(rw [hy520];exact H)|exact H
      have Ny520:=aMk hy520
      clear hy520
      obtain rfl:=Option.some.inj H
      have hcz23_0 : wr.cell? ⟨gb498,0,none⟩ = some (.string a0_0):=(bCe BK498.out 0).trans rfl
      have hcz23_1 : wr.cell? ⟨gb498,1,none⟩ = some (.int .i64 a0_1):=(bCe BK498.out 1).trans rfl
      have hcz23_2 : wr.cell? ⟨gb498,2,none⟩ = some (.int .i64 a0_2):=(bCe BK498.out 2).trans rfl
      have hcz23_3 : wr.cell? ⟨gb498,3,none⟩ = some (.int .i64 a0_3):=(bCe BK498.out 3).trans rfl
      have hcz23_4 : wr.cell? ⟨gb498,4,none⟩ = some (.int .i64 a0_4):=(bCe BK498.out 4).trans rfl
      have hcz23_5 : wr.cell? ⟨gb498,5,none⟩ = some (.int .i64 a0_5):=(bCe BK498.out 5).trans rfl
      have hcz23_6 : wr.cell? ⟨gb498,6,none⟩ = some (.int .i64 a0_6):=(bCe BK498.out 6).trans rfl
      have hcz23_7 : wr.cell? ⟨gb498,7,none⟩ = some (.int .i64 a0_7):=(bCe BK498.out 7).trans rfl
      have hcz23_8 : wr.cell? ⟨gb498,8,none⟩ = some (.string a0_8):=(bCe BK498.out 8).trans rfl
      have hcz23_9 : wr.cell? ⟨gb498,9,none⟩ = some (.string a0_9):=(bCe BK498.out 9).trans rfl
      have hcz23_10 : wr.cell? ⟨gb498,10,none⟩ = some (.bool a0_10):=(bCe BK498.out 10).trans rfl
      have hfz23_0:=bFr BK498.out 0
      have hfz23_1:=bFr BK498.out 1
      have hfz23_2:=bFr BK498.out 2
      have hfz23_3:=bFr BK498.out 3
      have hfz23_4:=bFr BK498.out 4
      have hfz23_5:=bFr BK498.out 5
      have hfz23_6:=bFr BK498.out 6
      have hfz23_7:=bFr BK498.out 7
      have hfz23_8:=bFr BK498.out 8
      have hfz23_9:=bFr BK498.out 9
      have hfz23_10:=bFr BK498.out 10
      go_wp2_with (first|((with_reducible refine gate_callee (f:=111) rfl ?_);refine goesL_ (some 38) rfl rfl Try.func111 (by kernel_rfl) rfl #[.agg #[.string a0_0,.int .i64 a0_1,.int .i64 a0_2,.int .i64 a0_3,.int .i64 a0_4,.int .i64 a0_5,.int .i64 a0_6,.int .i64 a0_7,.string a0_8,.string a0_9,.bool a0_10],.int .i64 x1_1,.int .i64 17,.string (⟨#[]⟩ : ByteArray)] rfl (by (try simp only [List.map_toArray,List.map_cons,List.map_nil]);first | done | rfl|(simp only [List.length_drop,List.length_take];rfl)) ?_;(with_reducible refine (spec_l10Reply.calls a0_0 a0_1 a0_2 a0_3 a0_4 a0_5 a0_6 a0_7 a0_8 a0_9 a0_10 x1_1 17 (⟨#[]⟩ : ByteArray) t513 t514 t515 t516 t517 t518 t519 _ A21.out).mono ?_);rintro e w24 ⟨rfl,hb⟩;refine ⟨_,rfl,?_⟩;have n0_:=aMk (Kd.R_below (by (with_reducible repeat (first|apply Kd.R_alloc|apply Kd.R_drewN|apply Kd.R_drew));exact HO_9.out) hb);have n1_:=aMk (blk_below (g:=gb498) (o:=.cells #[.string a0_0,.int .i64 a0_1,.int .i64 a0_2,.int .i64 a0_3,.int .i64 a0_4,.int .i64 a0_5,.int .i64 a0_6,.int .i64 a0_7,.string a0_8,.string a0_9,.bool a0_10] 34 (0,0)) (by (with_reducible repeat (first|refine bDn ?_ _|refine bDr ?_|refine bAl ?_ _));exact BK498.out) hb);have n2_:=aMk (below_step (by repeat (first|(with_reducible first|exact HB.out|apply bwA|apply bwN|apply bw1|refine below_set ?_ GE498.out)|exact HB.out)) hb);clear HO_9;clear BK498;clear HB;have HO_9:=n0_;have BK498:=n1_;have HB:=n2_;clear n0_ n1_ n2_;(try clear hb);(try clear hb2);(try clear hk);(try clear hi))|((with_reducible refine gate_builtin (b:=.append) (xs:=#[.tmp 35,.tmp 39]) rfl ?_);at_builtin;refine Kd.R_append k53 (w0:=w) w.heap.size rfl (.tmp 35) (.tmp 39) 50 53 (.agg #[(.int .i64 0),(.int .i64 0),(.int .i64 0),(.int .i64 0),(.int .i64 0),(.int .i64 0),(.string ⟨#[]⟩)]) 64 rfl Try.underlying50 info53 rfl (by decide) (by omega) u9 x9_1 (⟨t513,t514,t515,t516,t517,t518,t519⟩ : S53) [.int .i64 t513,.int .i64 t514,.int .i64 t515,.int .i64 t516,.int .i64 t517,.int .i64 t518,.string t519] (fun _ => True) (fun _ => False) rfl rfl ?aP (fun _ hk => hk.elim) ?aF ?aO ?aB ?aS ?aL ?_;(case aP => exact k53_mkM _ _ _ (⟨t513,t514,t515,t516,t517,t518,t519⟩ : S53));(case aB => exact (by repeat (first|(with_reducible first|exact HB.out|apply bwA|apply bwN|apply bw1|refine below_set ?_ GE498.out)|exact HB.out)));(case aF => exact (fun _ _ => trivial));(case aO => exact (by (with_reducible repeat (first|apply Kd.R_alloc|apply Kd.R_drewN|apply Kd.R_drew));exact HO_9.out));(case aS => exact (below_size (by repeat (first|(with_reducible first|exact HB.out|apply bwA|apply bwN|apply bw1|refine below_set ?_ GE498.out)|exact HB.out))));(case aL => have:=LMc22.out;omega);intro v521 w25 ho hb hg hat;rw [← Ny520.out] at ho;have n0_:=aMk (blk_grown (g:=gb498) (o:=.cells #[.string a0_0,.int .i64 a0_1,.int .i64 a0_2,.int .i64 a0_3,.int .i64 a0_4,.int .i64 a0_5,.int .i64 a0_6,.int .i64 a0_7,.string a0_8,.string a0_9,.bool a0_10] 34 (0,0)) (by (with_reducible repeat (first|refine bDn ?_ _|refine bDr ?_|refine bAl ?_ _));exact BK498.out) hg (Kd.R_ne HO_9.out BK498.out (by decide)));have n1_:=aMk (hb);have n2_:=aMk (ho);clear BK498;clear HB;clear HO_9;have BK498:=n0_;have HB:=n1_;have HO522:=n2_;clear n0_ n1_ n2_;clear ho hb hg hat))
      go_ret
      exact ⟨_,by first | rfl|(simp [errW_none,errW_some] <;> rfl)|(simp [*,errW_none,errW_some] <;> rfl),by (with_reducible repeat (first|apply Kd.R_alloc|apply Kd.R_drewN|apply Kd.R_drew));exact HO522.out,by repeat (first|(with_reducible first|exact HB.out|apply bwA|apply bwN|apply bw1|refine below_set ?_ GE498.out)|exact HB.out)⟩
     ·rw [if_neg c22] at H
      exact absurd H (by simp)
    ·replace c20:=Bool.eq_false_iff.mpr c20
     subst c20
     have H1 : (some x9_1) = some r:=by rw [if_neg (show ¬ (false = true) by decide)] at H;exact H
     clear H
     have H:=H1
     clear H1
     obtain rfl:=Option.some.inj H
     go_wp2
     go_ret
     exact ⟨_,by first | rfl|(simp [errW_none,errW_some] <;> rfl)|(simp [*,errW_none,errW_some] <;> rfl),by (with_reducible repeat (first|apply Kd.R_alloc|apply Kd.R_drewN|apply Kd.R_drew));exact HO_9.out,by repeat (first|(with_reducible first|exact HB.out|apply bwA|apply bwN|apply bw1|refine below_set ?_ GE498.out)|exact HB.out)⟩
end
section
/-! ### spec_l10Say: function 92 -/
def spec_l10Say.f (k : Nat) (a0_0 : ByteArray) (a0_1 : Int) (a0_2 : Int) (a0_3 : Int) (a0_4 : Int) (a0_5 : Int) (a0_6 : Int) (a0_7 : Int) (a0_8 : ByteArray) (a0_9 : ByteArray) (a0_10 : Bool) (a1 : ByteArray) : Option (ByteArray × Int × Int × Int × Int × Int × Int × Int × ByteArray × ByteArray × Bool × (List (S53))):=(spec_l10Pieces.f k a0_0 a0_1 a0_2 a0_3 a0_4 a0_5 a0_6 a0_7 a0_8 a0_9 a0_10 a0_6 a1 true).bind fun t638 => (if a0_9.size + a1.size ≤ 9223372036854775807 then ((spec_l10Seq.f (wrap64 ((wrap64 (a0_6 + (a1.size : Int))) + 1))).bind fun t641 => (some (a0_0,a0_1,a0_2,a0_3,3,a0_5,t641,a0_7,a0_8,a0_9 ++ a1,true,t638))) else (none))
theorem spec_l10Say.mono : ∀ a0 a1 a2 a3 a4 a5 a6 a7 a8 a9 a10 a11 k,LeO (spec_l10Say.f k a0 a1 a2 a3 a4 a5 a6 a7 a8 a9 a10 a11) (spec_l10Say.f (k + 1) a0 a1 a2 a3 a4 a5 a6 a7 a8 a9 a10 a11):=by
 intro a0 a1 a2 a3 a4 a5 a6 a7 a8 a9 a10 a11 k
 unfold spec_l10Say.f
 repeat' first
   | (with_reducible exact spec_l10Pieces.mono ..)
   | (with_reducible exact LeO.refl _)
   | (with_reducible exact LeO.none _)
   | (with_reducible refine LeO.ite ?_ ?_)
   | (with_reducible refine LeO.bind ?_ (fun _ => ?_))
   | exact spec_l10Pieces.mono ..
   | exact LeO.none _
   | refine LeO.ite ?_ ?_
   | refine LeO.bind ?_ (fun _ => ?_)
set_option maxHeartbeats 8000000 in
set_option maxRecDepth 100000 in
theorem spec_l10Say.calls (k : Nat) (a0_0 : ByteArray) (a0_1 : Int) (a0_2 : Int) (a0_3 : Int) (a0_4 : Int) (a0_5 : Int) (a0_6 : Int) (a0_7 : Int) (a0_8 : ByteArray) (a0_9 : ByteArray) (a0_10 : Bool) (a1 : ByteArray) (r1 : ByteArray) (r2 : Int) (r3 : Int) (r4 : Int) (r5 : Int) (r6 : Int) (r7 : Int) (r8 : Int) (r9 : ByteArray) (r10 : ByteArray) (r11 : Bool) (r12 : List (S53)) (w : World) (h : spec_l10Say.f k a0_0 a0_1 a0_2 a0_3 a0_4 a0_5 a0_6 a0_7 a0_8 a0_9 a0_10 a1 = some (r1,r2,r3,r4,r5,r6,r7,r8,r9,r10,r11,r12)) :
  Calls Try.prog 92 #[.agg #[.string a0_0,.int .i64 a0_1,.int .i64 a0_2,.int .i64 a0_3,.int .i64 a0_4,.int .i64 a0_5,.int .i64 a0_6,.int .i64 a0_7,.string a0_8,.string a0_9,.bool a0_10],.string a1] w fun e w' => ∃ v11_ : Value,e = .returned (.tuple #[.agg #[.string r1,.int .i64 r2,.int .i64 r3,.int .i64 r4,.int .i64 r5,.int .i64 r6,.int .i64 r7,.int .i64 r8,.string r9,.string r10,.bool r11],v11_]) ∧ Kd.R k53 53 w' w.heap.size (fun _ => True) v11_ r12 ∧ Below w.heap.size w w':=by
 have hu34:=Try.underlying34
 have HB:=aMk (Below.refl w.heap.size w)
 have H : ((spec_l10Pieces.f k a0_0 a0_1 a0_2 a0_3 a0_4 a0_5 a0_6 a0_7 a0_8 a0_9 a0_10 a0_6 a1 true).bind fun t638 => (if a0_9.size + a1.size ≤ 9223372036854775807 then ((spec_l10Seq.f (wrap64 ((wrap64 (a0_6 + (a1.size : Int))) + 1))).bind fun t641 => (some (a0_0,a0_1,a0_2,a0_3,3,a0_5,t641,a0_7,a0_8,a0_9 ++ a1,true,t638))) else (none))) = some (r1,r2,r3,r4,r5,r6,r7,r8,r9,r10,r11,r12):=h
 clear h
 replace H:=Option.bind_eq_some_iff.mp H
 obtain ⟨t638,A30,H⟩:=H
 replace H : (if a0_9.size + a1.size ≤ 9223372036854775807 then ((spec_l10Seq.f (wrap64 ((wrap64 (a0_6 + (a1.size : Int))) + 1))).bind fun t641 => (some (a0_0,a0_1,a0_2,a0_3,3,a0_5,t641,a0_7,a0_8,a0_9 ++ a1,true,t638))) else (none)) = some (r1,r2,r3,r4,r5,r6,r7,r8,r9,r10,r11,r12):=H
 have A3:=aMk A30
 clear A30
 by_cases c4 : a0_9.size + a1.size ≤ 9223372036854775807
 ·rw [if_pos c4] at H
  have c4b0:=eq_true c4
  have c4b1 : decide (a0_9.size + a1.size ≤ 9223372036854775807) = true:=decide_eq_true c4
  try have c4b2 : (9223372036854775807 < a0_9.size + a1.size) = False:=eq_false (Nat.not_lt.2 c4)
  replace H:=Option.bind_eq_some_iff.mp H
  obtain ⟨t641,A50,H⟩:=H
  replace H : (some (a0_0,a0_1,a0_2,a0_3,3,a0_5,t641,a0_7,a0_8,a0_9 ++ a1,true,t638)) = some (r1,r2,r3,r4,r5,r6,r7,r8,r9,r10,r11,r12):=H
  have A5:=aMk A50
  clear A50
  simp only [Option.some.injEq,Prod.mk.injEq] at H
  obtain ⟨rfl,rfl,rfl,rfl,rfl,rfl,rfl,rfl,rfl,rfl,rfl,rfl⟩:=H
  go_enter Try.func92,Try.ntmps92
  go_wp2_with (first|((with_reducible refine gate_dst (N:=2) rfl ?_);refine box_event ?hg (N:=2) ?hd (cs:=#[.string a0_0,.int .i64 a0_1,.int .i64 a0_2,.int .i64 a0_3,.int .i64 a0_4,.int .i64 a0_5,.int .i64 a0_6,.int .i64 a0_7,.string a0_8,.string a0_9,.bool a0_10]) (t:=34) ?hr ?_;(case hd => rfl);(case hg => rfl);(case hr => first|(go_simp;done)|(go_simp;rfl));intro gb636 hg w6 hbox hb;have n0_:=aMk (below_step (by repeat first|exact HB.out|apply bwA|apply bwN|apply bw1) hb);have n1_:=aMk (hbox);have n2_:=aMk ((by rw [hg];exact (below_size (by repeat first|exact HB.out|apply bwA|apply bwN|apply bw1)) : w.heap.size ≤ gb636));have n3_:=aMk ((by rw [hg];exact (below_size (by repeat first|exact HB.out|apply bwA|apply bwN|apply bw1)) : w.heap.size ≤ gb636));clear HB;have HB:=n0_;have BK636:=n1_;have GW636:=n2_;have GE636:=n3_;clear n0_ n1_ n2_ n3_;clear hb hbox hg)|((with_reducible refine gate_dst (N:=4) rfl ?_);refine box_event ?hg (N:=4) ?hd (cs:=#[.string (⟨#[]⟩ : ByteArray),.int .i64 0,.int .i64 0,.int .i64 0,.int .i64 0,.int .i64 0,.int .i64 0,.int .i64 0,.string (⟨#[]⟩ : ByteArray),.string (⟨#[]⟩ : ByteArray),.bool false]) (t:=34) ?hr ?_;(case hd => rfl);(case hg => rfl);(case hr => first|(go_simp;done)|(go_simp;rfl));intro gb637 hg w7 hbox hb;have n0_:=aMk (blk_below (g:=gb636) (o:=.cells #[.string a0_0,.int .i64 a0_1,.int .i64 a0_2,.int .i64 a0_3,.int .i64 a0_4,.int .i64 a0_5,.int .i64 a0_6,.int .i64 a0_7,.string a0_8,.string a0_9,.bool a0_10] 34 (0,0)) (by (with_reducible repeat (first|refine bDn ?_ _|refine bDr ?_|refine bAl ?_ _));exact BK636.out) hb);have n1_:=aMk (below_step (by repeat (first|(with_reducible first|exact HB.out|apply bwA|apply bwN|apply bw1|refine below_set ?_ GE636.out)|exact HB.out)) hb);have n2_:=aMk (hbox);have n3_:=aMk ((by rw [hg];exact (below_size (by repeat (first|(with_reducible first|exact HB.out|apply bwA|apply bwN|apply bw1|refine below_set ?_ GE636.out)|exact HB.out))) : w.heap.size ≤ gb637));have n4_:=aMk ((by rw [hg];exact (below_size (by repeat (first|(with_reducible first|exact HB.out|apply bwA|apply bwN|apply bw1|refine below_set ?_ GE636.out)|exact HB.out))) : w.heap.size ≤ gb637));have n5_:=aMk ((by rw [hg];exact Nat.ne_of_lt (blk_lt (g:=gb636) (o:=.cells #[.string a0_0,.int .i64 a0_1,.int .i64 a0_2,.int .i64 a0_3,.int .i64 a0_4,.int .i64 a0_5,.int .i64 a0_6,.int .i64 a0_7,.string a0_8,.string a0_9,.bool a0_10] 34 (0,0)) (by (with_reducible repeat (first|refine bDn ?_ _|refine bDr ?_|refine bAl ?_ _));exact BK636.out)) : gb636 ≠ gb637));have n6_:=aMk ((by rw [hg];exact Nat.ne_of_gt (blk_lt (g:=gb636) (o:=.cells #[.string a0_0,.int .i64 a0_1,.int .i64 a0_2,.int .i64 a0_3,.int .i64 a0_4,.int .i64 a0_5,.int .i64 a0_6,.int .i64 a0_7,.string a0_8,.string a0_9,.bool a0_10] 34 (0,0)) (by (with_reducible repeat (first|refine bDn ?_ _|refine bDr ?_|refine bAl ?_ _));exact BK636.out)) : gb637 ≠ gb636));clear BK636;clear HB;have BK636:=n0_;have HB:=n1_;have BK637:=n2_;have GW637:=n3_;have GE637:=n4_;have NB636_637:=n5_;have NB637_636:=n6_;clear n0_ n1_ n2_ n3_ n4_ n5_ n6_;clear hb hbox hg;have hnb8:=NB636_637.out;have hnc8:=NB637_636.out;have hcz9_0 : w7.cell? ⟨gb636,0,none⟩ = some (.string a0_0):=(bCe BK636.out 0).trans rfl;have hcz9_1 : w7.cell? ⟨gb636,1,none⟩ = some (.int .i64 a0_1):=(bCe BK636.out 1).trans rfl;have hcz9_2 : w7.cell? ⟨gb636,2,none⟩ = some (.int .i64 a0_2):=(bCe BK636.out 2).trans rfl;have hcz9_3 : w7.cell? ⟨gb636,3,none⟩ = some (.int .i64 a0_3):=(bCe BK636.out 3).trans rfl;have hcz9_4 : w7.cell? ⟨gb636,4,none⟩ = some (.int .i64 a0_4):=(bCe BK636.out 4).trans rfl;have hcz9_5 : w7.cell? ⟨gb636,5,none⟩ = some (.int .i64 a0_5):=(bCe BK636.out 5).trans rfl;have hcz9_6 : w7.cell? ⟨gb636,6,none⟩ = some (.int .i64 a0_6):=(bCe BK636.out 6).trans rfl;have hcz9_7 : w7.cell? ⟨gb636,7,none⟩ = some (.int .i64 a0_7):=(bCe BK636.out 7).trans rfl;have hcz9_8 : w7.cell? ⟨gb636,8,none⟩ = some (.string a0_8):=(bCe BK636.out 8).trans rfl;have hcz9_9 : w7.cell? ⟨gb636,9,none⟩ = some (.string a0_9):=(bCe BK636.out 9).trans rfl;have hcz9_10 : w7.cell? ⟨gb636,10,none⟩ = some (.bool a0_10):=(bCe BK636.out 10).trans rfl;have hfz9_0:=bFr BK636.out 0;have hfz9_1:=bFr BK636.out 1;have hfz9_2:=bFr BK636.out 2;have hfz9_3:=bFr BK636.out 3;have hfz9_4:=bFr BK636.out 4;have hfz9_5:=bFr BK636.out 5;have hfz9_6:=bFr BK636.out 6;have hfz9_7:=bFr BK636.out 7;have hfz9_8:=bFr BK636.out 8;have hfz9_9:=bFr BK636.out 9;have hfz9_10:=bFr BK636.out 10)|((with_reducible refine gate_callee (f:=114) rfl ?_);refine goesL_ (some 11) rfl rfl Try.func114 (by kernel_rfl) rfl #[.agg #[.string a0_0,.int .i64 a0_1,.int .i64 a0_2,.int .i64 a0_3,.int .i64 a0_4,.int .i64 a0_5,.int .i64 a0_6,.int .i64 a0_7,.string a0_8,.string a0_9,.bool a0_10],.int .i64 a0_6,.string a1,.bool true] rfl (by (try simp only [List.map_toArray,List.map_cons,List.map_nil]);first | done | rfl|(simp only [List.length_drop,List.length_take];rfl)) ?_;(with_reducible refine (spec_l10Pieces.calls k a0_0 a0_1 a0_2 a0_3 a0_4 a0_5 a0_6 a0_7 a0_8 a0_9 a0_10 a0_6 a1 true t638 _ A3.out).mono ?_);rintro e w10 ⟨v639,rfl,ho0,hb⟩;refine ⟨_,rfl,?_⟩;have n0_:=aMk (Kd.R_lower ho0 (below_size (by repeat (first|(with_reducible first|exact HB.out|apply bwA|apply bwN|apply bw1|refine below_set ?_ GE636.out|refine below_set ?_ GE637.out)|exact HB.out))));have n1_:=aMk (blk_below (g:=gb636) (o:=.cells #[.string a0_0,.int .i64 a0_1,.int .i64 a0_2,.int .i64 a0_3,.int .i64 a0_4,.int .i64 a0_5,.int .i64 a0_6,.int .i64 a0_7,.string a0_8,.string a0_9,.bool a0_10] 34 (0,0)) (by (with_reducible repeat (first|refine bDn ?_ _|refine bDr ?_|refine bAl ?_ _));exact BK636.out) hb);have n2_:=aMk (blk_below (g:=gb637) (o:=.cells #[.string (⟨#[]⟩ : ByteArray),.int .i64 0,.int .i64 0,.int .i64 0,.int .i64 0,.int .i64 0,.int .i64 0,.int .i64 0,.string (⟨#[]⟩ : ByteArray),.string (⟨#[]⟩ : ByteArray),.bool false] 34 (0,0)) (by (with_reducible repeat (first|refine bDn ?_ _|refine bDr ?_|refine bAl ?_ _));exact BK637.out) hb);have n3_:=aMk (below_step (by repeat (first|(with_reducible first|exact HB.out|apply bwA|apply bwN|apply bw1|refine below_set ?_ GE636.out|refine below_set ?_ GE637.out)|exact HB.out)) hb);clear BK636;clear BK637;clear HB;have HO640:=n0_;have BK636:=n1_;have BK637:=n2_;have HB:=n3_;clear n0_ n1_ n2_ n3_;(try clear hb);(try clear hb2);(try clear hk);(try clear hi);(try clear ho0);have hcz11_0 : w10.cell? ⟨gb636,0,none⟩ = some (.string a0_0):=(bCe BK636.out 0).trans rfl;have hcz11_1 : w10.cell? ⟨gb636,1,none⟩ = some (.int .i64 a0_1):=(bCe BK636.out 1).trans rfl;have hcz11_2 : w10.cell? ⟨gb636,2,none⟩ = some (.int .i64 a0_2):=(bCe BK636.out 2).trans rfl;have hcz11_3 : w10.cell? ⟨gb636,3,none⟩ = some (.int .i64 a0_3):=(bCe BK636.out 3).trans rfl;have hcz11_4 : w10.cell? ⟨gb636,4,none⟩ = some (.int .i64 a0_4):=(bCe BK636.out 4).trans rfl;have hcz11_5 : w10.cell? ⟨gb636,5,none⟩ = some (.int .i64 a0_5):=(bCe BK636.out 5).trans rfl;have hcz11_6 : w10.cell? ⟨gb636,6,none⟩ = some (.int .i64 a0_6):=(bCe BK636.out 6).trans rfl;have hcz11_7 : w10.cell? ⟨gb636,7,none⟩ = some (.int .i64 a0_7):=(bCe BK636.out 7).trans rfl;have hcz11_8 : w10.cell? ⟨gb636,8,none⟩ = some (.string a0_8):=(bCe BK636.out 8).trans rfl;have hcz11_9 : w10.cell? ⟨gb636,9,none⟩ = some (.string a0_9):=(bCe BK636.out 9).trans rfl;have hcz11_10 : w10.cell? ⟨gb636,10,none⟩ = some (.bool a0_10):=(bCe BK636.out 10).trans rfl;have hfz11_0:=bFr BK636.out 0;have hfz11_1:=bFr BK636.out 1;have hfz11_2:=bFr BK636.out 2;have hfz11_3:=bFr BK636.out 3;have hfz11_4:=bFr BK636.out 4;have hfz11_5:=bFr BK636.out 5;have hfz11_6:=bFr BK636.out 6;have hfz11_7:=bFr BK636.out 7;have hfz11_8:=bFr BK636.out 8;have hfz11_9:=bFr BK636.out 9;have hfz11_10:=bFr BK636.out 10)|((with_reducible refine gate_callee (f:=70) rfl ?_);refine goesL_ (some 25) rfl rfl Try.func70 (by kernel_rfl) rfl #[.int .i64 (wrap64 ((wrap64 (a0_6 + (a1.size : Int))) + 1))] rfl (by (try simp only [List.map_toArray,List.map_cons,List.map_nil]);first | done | rfl|(simp only [List.length_drop,List.length_take];rfl)) ?_;(with_reducible refine (spec_l10Seq.calls (wrap64 ((wrap64 (a0_6 + (a1.size : Int))) + 1)) t641 _ A5.out).mono ?_);rintro e w' ⟨rfl,⟨nd,rfl⟩⟩;refine ⟨_,rfl,?_⟩;have hcz12_0 : w10.cell? ⟨gb637,0,none⟩ = some (.string (⟨#[]⟩ : ByteArray)):=(bCe BK637.out 0).trans rfl;have hcz12_1 : w10.cell? ⟨gb637,1,none⟩ = some (.int .i64 0):=(bCe BK637.out 1).trans rfl;have hcz12_2 : w10.cell? ⟨gb637,2,none⟩ = some (.int .i64 0):=(bCe BK637.out 2).trans rfl;have hcz12_3 : w10.cell? ⟨gb637,3,none⟩ = some (.int .i64 0):=(bCe BK637.out 3).trans rfl;have hcz12_4 : w10.cell? ⟨gb637,4,none⟩ = some (.int .i64 0):=(bCe BK637.out 4).trans rfl;have hcz12_5 : w10.cell? ⟨gb637,5,none⟩ = some (.int .i64 0):=(bCe BK637.out 5).trans rfl;have hcz12_6 : w10.cell? ⟨gb637,6,none⟩ = some (.int .i64 0):=(bCe BK637.out 6).trans rfl;have hcz12_7 : w10.cell? ⟨gb637,7,none⟩ = some (.int .i64 0):=(bCe BK637.out 7).trans rfl;have hcz12_8 : w10.cell? ⟨gb637,8,none⟩ = some (.string (⟨#[]⟩ : ByteArray)):=(bCe BK637.out 8).trans rfl;have hcz12_9 : w10.cell? ⟨gb637,9,none⟩ = some (.string (⟨#[]⟩ : ByteArray)):=(bCe BK637.out 9).trans rfl;have hcz12_10 : w10.cell? ⟨gb637,10,none⟩ = some (.bool false):=(bCe BK637.out 10).trans rfl;have hfz12_0:=bFr BK637.out 0;have hfz12_1:=bFr BK637.out 1;have hfz12_2:=bFr BK637.out 2;have hfz12_3:=bFr BK637.out 3;have hfz12_4:=bFr BK637.out 4;have hfz12_5:=bFr BK637.out 5;have hfz12_6:=bFr BK637.out 6;have hfz12_7:=bFr BK637.out 7;have hfz12_8:=bFr BK637.out 8;have hfz12_9:=bFr BK637.out 9;have hfz12_10:=bFr BK637.out 10))
  refine bodyPost_ret (results_ct rfl _ _ gb637 34 #[.string a0_0,.int .i64 a0_1,.int .i64 a0_2,.int .i64 a0_3,.int .i64 3,.int .i64 a0_5,.int .i64 t641,.int .i64 a0_7,.string a0_8,.string (a0_9 ++ a1),.bool true] (0,0) _ rfl (by (with_reducible repeat (first|refine bDn ?_ _|refine bDr ?_|refine bAl ?_ _));refine blk_put (cs:=#[.string a0_0,.int .i64 a0_1,.int .i64 a0_2,.int .i64 a0_3,.int .i64 3,.int .i64 a0_5,.int .i64 t641,.int .i64 a0_7,.string a0_8,.string (a0_9 ++ a1),.bool false]) ?_ 10 _ rfl;(with_reducible repeat (first|refine bDn ?_ _|refine bDr ?_|refine bAl ?_ _));refine blk_put (cs:=#[.string a0_0,.int .i64 a0_1,.int .i64 a0_2,.int .i64 a0_3,.int .i64 3,.int .i64 a0_5,.int .i64 t641,.int .i64 a0_7,.string a0_8,.string (⟨#[]⟩ : ByteArray),.bool false]) ?_ 9 _ rfl;(with_reducible repeat (first|refine bDn ?_ _|refine bDr ?_|refine bAl ?_ _));refine blk_put (cs:=#[.string a0_0,.int .i64 a0_1,.int .i64 a0_2,.int .i64 a0_3,.int .i64 3,.int .i64 a0_5,.int .i64 t641,.int .i64 a0_7,.string (⟨#[]⟩ : ByteArray),.string (⟨#[]⟩ : ByteArray),.bool false]) ?_ 8 _ rfl;(with_reducible repeat (first|refine bDn ?_ _|refine bDr ?_|refine bAl ?_ _));refine blk_put (cs:=#[.string a0_0,.int .i64 a0_1,.int .i64 a0_2,.int .i64 a0_3,.int .i64 3,.int .i64 a0_5,.int .i64 t641,.int .i64 0,.string (⟨#[]⟩ : ByteArray),.string (⟨#[]⟩ : ByteArray),.bool false]) ?_ 7 _ rfl;(with_reducible repeat (first|refine bDn ?_ _|refine bDr ?_|refine bAl ?_ _));refine blk_put (cs:=#[.string a0_0,.int .i64 a0_1,.int .i64 a0_2,.int .i64 a0_3,.int .i64 3,.int .i64 a0_5,.int .i64 0,.int .i64 0,.string (⟨#[]⟩ : ByteArray),.string (⟨#[]⟩ : ByteArray),.bool false]) ?_ 6 _ rfl;(with_reducible repeat (first|refine bDn ?_ _|refine bDr ?_|refine bAl ?_ _));refine blk_put (cs:=#[.string a0_0,.int .i64 a0_1,.int .i64 a0_2,.int .i64 a0_3,.int .i64 3,.int .i64 0,.int .i64 0,.int .i64 0,.string (⟨#[]⟩ : ByteArray),.string (⟨#[]⟩ : ByteArray),.bool false]) ?_ 5 _ rfl;(with_reducible repeat (first|refine bDn ?_ _|refine bDr ?_|refine bAl ?_ _));refine blk_put (cs:=#[.string a0_0,.int .i64 a0_1,.int .i64 a0_2,.int .i64 a0_3,.int .i64 0,.int .i64 0,.int .i64 0,.int .i64 0,.string (⟨#[]⟩ : ByteArray),.string (⟨#[]⟩ : ByteArray),.bool false]) ?_ 4 _ rfl;(with_reducible repeat (first|refine bDn ?_ _|refine bDr ?_|refine bAl ?_ _));refine blk_put (cs:=#[.string a0_0,.int .i64 a0_1,.int .i64 a0_2,.int .i64 0,.int .i64 0,.int .i64 0,.int .i64 0,.int .i64 0,.string (⟨#[]⟩ : ByteArray),.string (⟨#[]⟩ : ByteArray),.bool false]) ?_ 3 _ rfl;(with_reducible repeat (first|refine bDn ?_ _|refine bDr ?_|refine bAl ?_ _));refine blk_put (cs:=#[.string a0_0,.int .i64 a0_1,.int .i64 0,.int .i64 0,.int .i64 0,.int .i64 0,.int .i64 0,.int .i64 0,.string (⟨#[]⟩ : ByteArray),.string (⟨#[]⟩ : ByteArray),.bool false]) ?_ 2 _ rfl;(with_reducible repeat (first|refine bDn ?_ _|refine bDr ?_|refine bAl ?_ _));refine blk_put (cs:=#[.string a0_0,.int .i64 0,.int .i64 0,.int .i64 0,.int .i64 0,.int .i64 0,.int .i64 0,.int .i64 0,.string (⟨#[]⟩ : ByteArray),.string (⟨#[]⟩ : ByteArray),.bool false]) ?_ 1 _ rfl;(with_reducible repeat (first|refine bDn ?_ _|refine bDr ?_|refine bAl ?_ _));refine blk_put (cs:=#[.string (⟨#[]⟩ : ByteArray),.int .i64 0,.int .i64 0,.int .i64 0,.int .i64 0,.int .i64 0,.int .i64 0,.int .i64 0,.string (⟨#[]⟩ : ByteArray),.string (⟨#[]⟩ : ByteArray),.bool false]) ?_ 0 _ rfl;(with_reducible repeat (first|refine bDn ?_ _|refine bDr ?_|refine bAl ?_ _));refine blk_far ?_ NB637_636.out _;(with_reducible repeat (first|refine bDn ?_ _|refine bDr ?_|refine bAl ?_ _));refine blk_far ?_ NB637_636.out _;(with_reducible repeat (first|refine bDn ?_ _|refine bDr ?_|refine bAl ?_ _));refine blk_far ?_ NB637_636.out _;(with_reducible repeat (first|refine bDn ?_ _|refine bDr ?_|refine bAl ?_ _));refine blk_far ?_ NB637_636.out _;(with_reducible repeat (first|refine bDn ?_ _|refine bDr ?_|refine bAl ?_ _));exact BK637.out) Try.underlying34 rfl (by kernel_rfl)) rfl ?_
  exact ⟨_,by first | rfl|(simp [errW_none,errW_some] <;> rfl)|(simp [*,errW_none,errW_some] <;> rfl),by (with_reducible repeat (first|apply Kd.R_alloc|apply Kd.R_drewN|apply Kd.R_drew));(have Q_:=Kd.R_types (Kd.R_types HO640.out BK636.out (by decide)) BK637.out (by decide);refine Kd.R_mono (ok:=?ok_) ?_ ?_;rotate_left;(repeat (first|with_reducible apply Kd.R_drewN | with_reducible apply Kd.R_drew | with_reducible apply Kd.R_alloc|(with_reducible refine Kd.R_far ?_ ?_ _)));exact Q_;all_goals first|exact fun _ hk => hk.2|exact fun _ hk => hk.1.2|exact fun _ hk => hk.1.1.2|exact fun _ _ => trivial),by repeat (first|(with_reducible first|exact HB.out|apply bwA|apply bwN|apply bw1|refine below_set ?_ GE636.out|refine below_set ?_ GE637.out)|exact HB.out)⟩
 ·rw [if_neg c4] at H
  exact absurd H (by simp)
end
end Go.Proofs.Ytlpkldomoniegaa.X
