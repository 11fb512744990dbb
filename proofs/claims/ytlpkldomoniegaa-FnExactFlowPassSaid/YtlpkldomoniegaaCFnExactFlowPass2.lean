/- Texts that the row of FnExactFlowPass stands on: functions of the program and of the reference, each as a Lean function with the same answers, and the plain lemmas. Conditions: none beside those that each theorem names. -/
import Derived.Test.YtlpkldomoniegaaCFnExactFlowPass1
namespace Go.Proofs.Ytlpkldomoniegaa.X
open Go.RowKit Go.Proofs.YtlpkldomoniegaaW.PrintWords Go.Proofs.YtlpkldomoniegaaW.PrintLast Go.Proofs.YtlpkldomoniegaaW.PrintMore
attribute [local go_sem] max2_int min2_int max_two min_two max_three min_three max_four min_four   -- for this text's walks alone
set_option linter.unusedVariables false
set_option linter.unusedSimpArgs false
open Go.Proofs.YtlpkldomoniegaaW.PrintWords renaming blk_drewN -> bDn
open Go.Proofs.YtlpkldomoniegaaW.PrintWords renaming blk_drew -> bDr
open Go.Proofs.YtlpkldomoniegaaW.PrintWords renaming blk_alloc -> bAl
open Go.Proofs.YtlpkldomoniegaaW.PrintWords renaming blk_frozen -> bFr
open Go.Proofs.YtlpkldomoniegaaW.PrintWords renaming blk_cell -> bCe
open Go.Proofs.YtlpkldomoniegaaW.PrintWords.Aside0 renaming mk -> aMk
open Go.World renaming block_lt_of_cell? -> wLt
open Go.Proofs.YtlpkldomoniegaaW.PrintWords renaming pw_below_drewN -> bwN
open Go.Proofs.YtlpkldomoniegaaW.PrintWords renaming below_drew1 -> bw1
open Go.Proofs.YtlpkldomoniegaaW.PrintWords renaming below_alloc -> bwA
section
/-! ### laws_heldFlowS: function 48 -/
def laws_heldFlowS.l0 : Nat → List (S71) → Int → Int → Option (Int)
 | 0,_,_,_ => none
 | k + 1,x0,x1,x5 => if x5 < (x0.length : Int) then (if 0 ≤ x5 then (if ((rd_T71 x0 x5).f0) = x1 then ((laws_markText.f k (wrap64 (x1 + 1))).bind fun t874 => (if ((rd_T71 x0 x5).f1).toList = t874.toList then (if ((rd_T71 x0 x5).f2) = (wrap64 ((wrap64 (x1 + 1)) + 1)) then (if ((rd_T71 x0 x5).f3) = (wrap64 ((wrap64 ((wrap64 (x1 + 1)) + 1)) + 1)) then (if ((rd_T71 x0 x5).f4) = (wrap64 ((wrap64 ((wrap64 ((wrap64 (x1 + 1)) + 1)) + 1)) + 1)) then (if ((rd_T71 x0 x5).f5) = (wrap64 ((wrap64 ((wrap64 ((wrap64 ((wrap64 (x1 + 1)) + 1)) + 1)) + 1)) + 1)) then (if ((rd_T71 x0 x5).f6) = (wrap64 ((wrap64 ((wrap64 ((wrap64 ((wrap64 ((wrap64 (x1 + 1)) + 1)) + 1)) + 1)) + 1)) + 1)) then (if ((rd_T71 x0 x5).f7) = (wrap64 ((wrap64 ((wrap64 ((wrap64 ((wrap64 ((wrap64 ((wrap64 (x1 + 1)) + 1)) + 1)) + 1)) + 1)) + 1)) + 1)) then (if ((rd_T71 x0 x5).f8) = (wrap64 ((wrap64 ((wrap64 ((wrap64 ((wrap64 ((wrap64 ((wrap64 ((wrap64 (x1 + 1)) + 1)) + 1)) + 1)) + 1)) + 1)) + 1)) + 1)) then (laws_heldFlowS.l0 k x0 (wrap64 ((wrap64 ((wrap64 ((wrap64 ((wrap64 ((wrap64 ((wrap64 ((wrap64 ((wrap64 (x1 + 1)) + 1)) + 1)) + 1)) + 1)) + 1)) + 1)) + 1)) + 1)) (wrap64 (x5 + 1))) else (some (-1))) else (some (-1))) else (some (-1))) else (some (-1))) else (some (-1))) else (some (-1))) else (some (-1))) else (some (-1)))) else (some (-1))) else (none)) else (some x1)
def laws_heldFlowS.f (k : Nat) (l0 : List (S71)) (a1 : Int) : Option (Int):=laws_heldFlowS.l0 k l0 a1 0
theorem laws_heldFlowS.mono_l : ∀ k,(∀ y0 y1 y2,LeO (laws_heldFlowS.l0 k y0 y1 y2) (laws_heldFlowS.l0 (k + 1) y0 y1 y2))
 | 0 => fun _ _ _ r h => by simp [laws_heldFlowS.l0] at h
 | k + 1 => by
  have ih0:=laws_heldFlowS.mono_l k
  ·intro y0 y1 y2
   unfold laws_heldFlowS.l0
   repeat' first
   | (with_reducible exact ih0 _ _ _)
   | (with_reducible exact laws_markText.mono ..)
   | (with_reducible exact LeO.refl _)
   | (with_reducible exact LeO.none _)
   | (with_reducible refine LeO.ite ?_ ?_)
   | (with_reducible refine LeO.bind ?_ (fun _ => ?_))
   | exact ih0 _ _ _
   | exact laws_markText.mono ..
   | exact LeO.none _
   | refine LeO.ite ?_ ?_
   | refine LeO.bind ?_ (fun _ => ?_)
theorem laws_heldFlowS.mono : ∀ a0 a1 k,LeO (laws_heldFlowS.f k a0 a1) (laws_heldFlowS.f (k + 1) a0 a1):=by
 intro a0 a1 k
 have ih0:=laws_heldFlowS.mono_l k
 unfold laws_heldFlowS.f
 repeat' first
   | (with_reducible exact ih0 _ _ _)
   | (with_reducible exact laws_markText.mono ..)
   | (with_reducible exact LeO.refl _)
   | (with_reducible exact LeO.none _)
   | (with_reducible refine LeO.ite ?_ ?_)
   | (with_reducible refine LeO.bind ?_ (fun _ => ?_))
   | exact ih0 _ _ _
   | exact laws_markText.mono ..
   | exact LeO.none _
   | refine LeO.ite ?_ ?_
   | refine LeO.bind ?_ (fun _ => ?_)
def laws_heldFlowS.T7 : Bool × List (List Nat × List Nat):=(true,[([],[]),([],[]),([0,1],[0,1]),([2],[2]),([3],[3]),([],[]),([5],[5]),([4,6],[4,6])])
def laws_heldFlowS.B7 : List Nat:=[0,0,3,7,15,0,32,127]
theorem laws_heldFlowS.tab7 : rtab .any (opsOf Try.f48 7) = laws_heldFlowS.T7:=by kernel_rfl
theorem laws_heldFlowS.bits7 : waitsOk laws_heldFlowS.T7.2 laws_heldFlowS.B7 = true:=by kernel_rfl
set_option maxHeartbeats 8000000 in
set_option maxRecDepth 100000 in
theorem laws_heldFlowS.calls (k : Nat) (A0 : Option Addr) (c0 : Nat) (l0 : List (S71)) (a1 : Int) (r : Int) (w : World) (hr0 : Kd.C k71 w A0 l0.length l0) (hc0 : l0.length ≤ c0) (h : laws_heldFlowS.f k l0 a1 = some r) :
  Calls Try.prog 48 #[.slice A0 l0.length c0,.int .i64 a1] w fun e w' => e = .returned (.int .i64 r) ∧ Below w.heap.size w w':=by
 have HR0:=aMk hr0
 have HC0:=aMk hc0
 clear hr0 hc0
 have HB:=aMk (Below.refl w.heap.size w)
 have H : (laws_heldFlowS.l0 k l0 a1 0) = some r:=h
 clear h
 have H':=aMk H
 clear H
 go_enter Try.func48,Try.ntmps48
 go_wp2
 go_loopg [1,5] k (fun kq v1 v5 w' => ∃ (x1_1 : Int) (x5_1 : Int),v1 = .int .i64 x1_1 ∧ v5 = .int .i64 x5_1 ∧ Aside0 (laws_heldFlowS.l0 kq l0 x1_1 x5_1 = some r) ∧ Aside0 (kq ≤ k) ∧ Aside0 (Below w.heap.size w w'))
 case atStart => exact ⟨(a1),(0),(by first | rfl|(simp;done)|(simp [*];done)|(simp [ne_nil_b];done)|(simp [ne_nil_b, *];done)),(by first | rfl|(simp;done)|(simp [*];done)|(simp [ne_nil_b];done)|(simp [ne_nil_b, *];done)),H',⟨Nat.le_refl _⟩,⟨by repeat (first|(with_reducible first|exact HB.out|apply bwA|apply bwN|apply bw1)|exact HB.out)⟩⟩
 case round =>
  clear H'
  try clear p2
  obtain ⟨x1_1,x5_1,rfl,rfl,HA,HK1,HB⟩:=hrel
  cases gk with
  | zero => exact absurd HA.out (by simp [laws_heldFlowS.l0])
  | succ k1 =>
   have H:=HA.out
   clear HA
   simp only [laws_heldFlowS.l0] at H
   by_cases c3 : x5_1 < (l0.length : Int)
   ·rw [if_pos c3] at H
    have c3b0 : decide (x5_1 < (l0.length : Int)) = true:=decide_eq_true c3
    clear c3
    by_cases c4 : 0 ≤ x5_1
    ·rw [if_pos c4] at H
     have c4b0 : decide (0 ≤ x5_1) = true:=decide_eq_true c4
     clear c4
     by_cases c5 : ((rd_T71 l0 x5_1).f0) = x1_1
     ·rw [if_pos c5] at H
      have c5b0 : (((rd_T71 l0 x5_1).f0) == x1_1) = true:=beq_iff_eq.mpr c5
      have c5b1 : (((rd_T71 l0 x5_1).f0) != x1_1) = false:=bne_eq_false_iff_eq.mpr c5
      clear c5
      replace H:=Option.bind_eq_some_iff.mp H
      obtain ⟨t874,A60,H⟩:=H
      replace H : (if ((rd_T71 l0 x5_1).f1).toList = t874.toList then (if ((rd_T71 l0 x5_1).f2) = (wrap64 ((wrap64 (x1_1 + 1)) + 1)) then (if ((rd_T71 l0 x5_1).f3) = (wrap64 ((wrap64 ((wrap64 (x1_1 + 1)) + 1)) + 1)) then (if ((rd_T71 l0 x5_1).f4) = (wrap64 ((wrap64 ((wrap64 ((wrap64 (x1_1 + 1)) + 1)) + 1)) + 1)) then (if ((rd_T71 l0 x5_1).f5) = (wrap64 ((wrap64 ((wrap64 ((wrap64 ((wrap64 (x1_1 + 1)) + 1)) + 1)) + 1)) + 1)) then (if ((rd_T71 l0 x5_1).f6) = (wrap64 ((wrap64 ((wrap64 ((wrap64 ((wrap64 ((wrap64 (x1_1 + 1)) + 1)) + 1)) + 1)) + 1)) + 1)) then (if ((rd_T71 l0 x5_1).f7) = (wrap64 ((wrap64 ((wrap64 ((wrap64 ((wrap64 ((wrap64 ((wrap64 (x1_1 + 1)) + 1)) + 1)) + 1)) + 1)) + 1)) + 1)) then (if ((rd_T71 l0 x5_1).f8) = (wrap64 ((wrap64 ((wrap64 ((wrap64 ((wrap64 ((wrap64 ((wrap64 ((wrap64 (x1_1 + 1)) + 1)) + 1)) + 1)) + 1)) + 1)) + 1)) + 1)) then (laws_heldFlowS.l0 k1 l0 (wrap64 ((wrap64 ((wrap64 ((wrap64 ((wrap64 ((wrap64 ((wrap64 ((wrap64 ((wrap64 (x1_1 + 1)) + 1)) + 1)) + 1)) + 1)) + 1)) + 1)) + 1)) + 1)) (wrap64 (x5_1 + 1))) else (some (-1))) else (some (-1))) else (some (-1))) else (some (-1))) else (some (-1))) else (some (-1))) else (some (-1))) else (some (-1))) = some r:=H
      have A6:=aMk A60
      clear A60
      by_cases c7 : ((rd_T71 l0 x5_1).f1).toList = t874.toList
      ·rw [if_pos c7] at H
       have c7b0 : (((rd_T71 l0 x5_1).f1).toList == t874.toList) = true:=beq_iff_eq.mpr c7
       have c7b1 : (((rd_T71 l0 x5_1).f1).toList != t874.toList) = false:=bne_eq_false_iff_eq.mpr c7
       clear c7
       by_cases c8 : ((rd_T71 l0 x5_1).f2) = (wrap64 ((wrap64 (x1_1 + 1)) + 1))
       ·rw [if_pos c8] at H
        have c8b0 : (((rd_T71 l0 x5_1).f2) == (wrap64 ((wrap64 (x1_1 + 1)) + 1))) = true:=beq_iff_eq.mpr c8
        have c8b1 : (((rd_T71 l0 x5_1).f2) != (wrap64 ((wrap64 (x1_1 + 1)) + 1))) = false:=bne_eq_false_iff_eq.mpr c8
        clear c8
        by_cases c9 : ((rd_T71 l0 x5_1).f3) = (wrap64 ((wrap64 ((wrap64 (x1_1 + 1)) + 1)) + 1))
        ·rw [if_pos c9] at H
         have c9b0 : (((rd_T71 l0 x5_1).f3) == (wrap64 ((wrap64 ((wrap64 (x1_1 + 1)) + 1)) + 1))) = true:=beq_iff_eq.mpr c9
         have c9b1 : (((rd_T71 l0 x5_1).f3) != (wrap64 ((wrap64 ((wrap64 (x1_1 + 1)) + 1)) + 1))) = false:=bne_eq_false_iff_eq.mpr c9
         clear c9
         by_cases c10 : ((rd_T71 l0 x5_1).f4) = (wrap64 ((wrap64 ((wrap64 ((wrap64 (x1_1 + 1)) + 1)) + 1)) + 1))
         ·rw [if_pos c10] at H
          have c10b0 : (((rd_T71 l0 x5_1).f4) == (wrap64 ((wrap64 ((wrap64 ((wrap64 (x1_1 + 1)) + 1)) + 1)) + 1))) = true:=beq_iff_eq.mpr c10
          have c10b1 : (((rd_T71 l0 x5_1).f4) != (wrap64 ((wrap64 ((wrap64 ((wrap64 (x1_1 + 1)) + 1)) + 1)) + 1))) = false:=bne_eq_false_iff_eq.mpr c10
          clear c10
          by_cases c11 : ((rd_T71 l0 x5_1).f5) = (wrap64 ((wrap64 ((wrap64 ((wrap64 ((wrap64 (x1_1 + 1)) + 1)) + 1)) + 1)) + 1))
          ·rw [if_pos c11] at H
           have c11b0 : (((rd_T71 l0 x5_1).f5) == (wrap64 ((wrap64 ((wrap64 ((wrap64 ((wrap64 (x1_1 + 1)) + 1)) + 1)) + 1)) + 1))) = true:=beq_iff_eq.mpr c11
           have c11b1 : (((rd_T71 l0 x5_1).f5) != (wrap64 ((wrap64 ((wrap64 ((wrap64 ((wrap64 (x1_1 + 1)) + 1)) + 1)) + 1)) + 1))) = false:=bne_eq_false_iff_eq.mpr c11
           clear c11
           by_cases c12 : ((rd_T71 l0 x5_1).f6) = (wrap64 ((wrap64 ((wrap64 ((wrap64 ((wrap64 ((wrap64 (x1_1 + 1)) + 1)) + 1)) + 1)) + 1)) + 1))
           ·rw [if_pos c12] at H
            have c12b0 : (((rd_T71 l0 x5_1).f6) == (wrap64 ((wrap64 ((wrap64 ((wrap64 ((wrap64 ((wrap64 (x1_1 + 1)) + 1)) + 1)) + 1)) + 1)) + 1))) = true:=beq_iff_eq.mpr c12
            have c12b1 : (((rd_T71 l0 x5_1).f6) != (wrap64 ((wrap64 ((wrap64 ((wrap64 ((wrap64 ((wrap64 (x1_1 + 1)) + 1)) + 1)) + 1)) + 1)) + 1))) = false:=bne_eq_false_iff_eq.mpr c12
            clear c12
            by_cases c13 : ((rd_T71 l0 x5_1).f7) = (wrap64 ((wrap64 ((wrap64 ((wrap64 ((wrap64 ((wrap64 ((wrap64 (x1_1 + 1)) + 1)) + 1)) + 1)) + 1)) + 1)) + 1))
            ·rw [if_pos c13] at H
             have c13b0 : (((rd_T71 l0 x5_1).f7) == (wrap64 ((wrap64 ((wrap64 ((wrap64 ((wrap64 ((wrap64 ((wrap64 (x1_1 + 1)) + 1)) + 1)) + 1)) + 1)) + 1)) + 1))) = true:=beq_iff_eq.mpr c13
             have c13b1 : (((rd_T71 l0 x5_1).f7) != (wrap64 ((wrap64 ((wrap64 ((wrap64 ((wrap64 ((wrap64 ((wrap64 (x1_1 + 1)) + 1)) + 1)) + 1)) + 1)) + 1)) + 1))) = false:=bne_eq_false_iff_eq.mpr c13
             clear c13
             by_cases c14 : ((rd_T71 l0 x5_1).f8) = (wrap64 ((wrap64 ((wrap64 ((wrap64 ((wrap64 ((wrap64 ((wrap64 ((wrap64 (x1_1 + 1)) + 1)) + 1)) + 1)) + 1)) + 1)) + 1)) + 1))
             ·rw [if_pos c14] at H
              have c14b0 : (((rd_T71 l0 x5_1).f8) == (wrap64 ((wrap64 ((wrap64 ((wrap64 ((wrap64 ((wrap64 ((wrap64 ((wrap64 (x1_1 + 1)) + 1)) + 1)) + 1)) + 1)) + 1)) + 1)) + 1))) = true:=beq_iff_eq.mpr c14
              have c14b1 : (((rd_T71 l0 x5_1).f8) != (wrap64 ((wrap64 ((wrap64 ((wrap64 ((wrap64 ((wrap64 ((wrap64 ((wrap64 (x1_1 + 1)) + 1)) + 1)) + 1)) + 1)) + 1)) + 1)) + 1))) = false:=bne_eq_false_iff_eq.mpr c14
              clear c14
              have H':=aMk H
              clear H
              have p872 : 0 ≤ (x5_1 : Int):=of_decide_eq_true (by first|(with_reducible assumption) | assumption)
              have q872 : x5_1 < (l0.length : Int):=of_decide_eq_true (by first|(with_reducible assumption) | assumption)
              obtain ⟨ad872,e872,hx872_0,hx872_1,hx872_2,hx872_3,hx872_4,hx872_5,hx872_6,hx872_7,hx872_8⟩:=at_T71 HR0.out x5_1 p872 q872
              cases e872
              replace hx872_0:=bXc HB.out hx872_0
              replace hx872_1:=bXc HB.out hx872_1
              replace hx872_2:=bXc HB.out hx872_2
              replace hx872_3:=bXc HB.out hx872_3
              replace hx872_4:=bXc HB.out hx872_4
              replace hx872_5:=bXc HB.out hx872_5
              replace hx872_6:=bXc HB.out hx872_6
              replace hx872_7:=bXc HB.out hx872_7
              replace hx872_8:=bXc HB.out hx872_8
              replace p872:=eq_true p872
              replace q872:=eq_true q872
              try go_wp2
              have n0_:=aMk (bw1 HB.out)
              clear HB
              have HB:=n0_
              clear n0_
              have p873 : 0 ≤ (x5_1 : Int):=of_decide_eq_true (by first|(with_reducible assumption) | assumption)
              have q873 : x5_1 < (l0.length : Int):=of_decide_eq_true (by first|(with_reducible assumption) | assumption)
              obtain ⟨ad873,e873,hx873_0,hx873_1,hx873_2,hx873_3,hx873_4,hx873_5,hx873_6,hx873_7,hx873_8⟩:=at_T71 HR0.out x5_1 p873 q873
              have hw873_8:=hx873_8
              have hw873_7:=hx873_7
              have hw873_6:=hx873_6
              have hw873_5:=hx873_5
              have hw873_4:=hx873_4
              have hw873_3:=hx873_3
              have hw873_2:=hx873_2
              have hw873_1:=hx873_1
              have hw873_0:=hx873_0
              obtain rfl : ad872 = ad873:=(by injection e873)
              replace hx873_0:=bXc HB.out hx873_0
              replace hx873_1:=bXc HB.out hx873_1
              replace hx873_2:=bXc HB.out hx873_2
              replace hx873_3:=bXc HB.out hx873_3
              replace hx873_4:=bXc HB.out hx873_4
              replace hx873_5:=bXc HB.out hx873_5
              replace hx873_6:=bXc HB.out hx873_6
              replace hx873_7:=bXc HB.out hx873_7
              replace hx873_8:=bXc HB.out hx873_8
              replace p873:=eq_true p873
              replace q873:=eq_true q873
              refine start_ (n:=8) (S:=fun w' => w'.cell? (ad872.add ((x5_1).toNat * 9)) = some (.int .i64 ((rd_T71 l0 x5_1).f0)) ∧ w'.cell? ⟨(ad872.add ((x5_1).toNat * 9)).block,(ad872.add ((x5_1).toNat * 9)).off + 1,none⟩ = some (.string ((rd_T71 l0 x5_1).f1)) ∧ w'.cell? ⟨(ad872.add ((x5_1).toNat * 9)).block,(ad872.add ((x5_1).toNat * 9)).off + 2,none⟩ = some (.int .i64 ((rd_T71 l0 x5_1).f2)) ∧ w'.cell? ⟨(ad872.add ((x5_1).toNat * 9)).block,(ad872.add ((x5_1).toNat * 9)).off + 3,none⟩ = some (.int .i64 ((rd_T71 l0 x5_1).f3)) ∧ w'.cell? ⟨(ad872.add ((x5_1).toNat * 9)).block,(ad872.add ((x5_1).toNat * 9)).off + 4,none⟩ = some (.int .i64 ((rd_T71 l0 x5_1).f4)) ∧ w'.cell? ⟨(ad872.add ((x5_1).toNat * 9)).block,(ad872.add ((x5_1).toNat * 9)).off + 5,none⟩ = some (.int .i64 ((rd_T71 l0 x5_1).f5)) ∧ w'.cell? ⟨(ad872.add ((x5_1).toNat * 9)).block,(ad872.add ((x5_1).toNat * 9)).off + 6,none⟩ = some (.int .i64 ((rd_T71 l0 x5_1).f6)) ∧ w'.cell? ⟨(ad872.add ((x5_1).toNat * 9)).block,(ad872.add ((x5_1).toNat * 9)).off + 7,none⟩ = some (.int .i64 ((rd_T71 l0 x5_1).f7)) ∧ w'.cell? ⟨(ad872.add ((x5_1).toNat * 9)).block,(ad872.add ((x5_1).toNat * 9)).off + 8,none⟩ = some (.int .i64 ((rd_T71 l0 x5_1).f8))) (ds:=[]) #[false,false,false,false,false,false,false,false] (by kernel_rfl) rfl rfl ⟨((HB.out.cell (wLt w _ hw873_0)).trans hw873_0),((HB.out.cell (wLt w _ hw873_1)).trans hw873_1),((HB.out.cell (wLt w _ hw873_2)).trans hw873_2),((HB.out.cell (wLt w _ hw873_3)).trans hw873_3),((HB.out.cell (wLt w _ hw873_4)).trans hw873_4),((HB.out.cell (wLt w _ hw873_5)).trans hw873_5),((HB.out.cell (wLt w _ hw873_6)).trans hw873_6),((HB.out.cell (wLt w _ hw873_7)).trans hw873_7),((HB.out.cell (wLt w _ hw873_8)).trans hw873_8)⟩ (fun hHeld => ?_);refine with_tabW laws_heldFlowS.tab7 laws_heldFlowS.bits7 (fun HT_ HW_ => ?_)
              generalize wr.drew = w15 at HB hx873_0 hx873_1 hx873_2 hx873_3 hx873_4 hx873_5 hx873_6 hx873_7 hx873_8 hHeld ⊢
              refine pure_ (i:=0) (N:=some 21) (v:=?_) (a':=?_) #[true,false,false,false,false,false,false,false] rfl rfl (any_of HT_.out (by kernel_rfl)) (fun _ _ _ h => h) (Or.inl ⟨by rfl,?_⟩) ?_ ?_
              rotate_left
              ·intro w'
               go_simp
               with_reducible rfl
              rotate_left
              ·simp only [Act.put,List.setIfInBounds_toArray,List.set_cons_zero,List.set_cons_succ,i64_w,i32_w]
               rfl
              refine pure_ (i:=1) (N:=some 22) (v:=?_) (a':=?_) #[true,true,false,false,false,false,false,false] rfl rfl (any_of HT_.out (by kernel_rfl)) (fun _ _ _ h => h) (Or.inl ⟨by rfl,?_⟩) ?_ ?_
              rotate_left
              ·intro w'
               go_simp
               with_reducible rfl
              rotate_left
              ·simp only [Act.put,List.setIfInBounds_toArray,List.set_cons_zero,List.set_cons_succ,i64_w,i32_w]
               rfl
              refine pure_ (i:=2) (N:=some 23) (v:=?_) (a':=?_) #[true,true,true,false,false,false,false,false] rfl rfl (any_of HT_.out (by kernel_rfl)) (fun _ _ _ h => h) (Or.inl ⟨by rfl,?_⟩) ?_ ?_
              rotate_left
              ·intro w'
               go_simp
               with_reducible rfl
              rotate_left
              ·simp only [Act.put,List.setIfInBounds_toArray,List.set_cons_zero,List.set_cons_succ,i64_w,i32_w]
               rfl
              refine pure_ (i:=3) (N:=some 24) (v:=?_) (a':=?_) #[true,true,true,true,false,false,false,false] rfl rfl (any_of HT_.out (by kernel_rfl)) (fun _ _ _ h => h) (Or.inl ⟨by rfl,?_⟩) ?_ ?_
              rotate_left
              ·intro w'
               go_simp
               with_reducible rfl
              rotate_left
              ·simp only [Act.put,List.setIfInBounds_toArray,List.set_cons_zero,List.set_cons_succ,i64_w,i32_w]
               rfl
              refine pure_ (i:=5) (N:=some 26) (v:=?_) (a':=?_) #[true,true,true,true,false,true,false,false] rfl rfl (any_of HT_.out (by kernel_rfl)) (fun _ _ _ h => h) (Or.inl ⟨by rfl,?_⟩) ?_ ?_
              rotate_left
              ·intro w'
               go_simp
               with_reducible rfl
              rotate_left
              ·simp only [Act.put,List.setIfInBounds_toArray,List.set_cons_zero,List.set_cons_succ,i64_w,i32_w]
               rfl
              refine take_ (i:=4) (N:=some 25) (v:=?_) (a':=?_) #[true,true,true,true,true,true,false,false] rfl rfl (take_ofW HT_.out HW_.out (by kernel_rfl)) (fun _ _ _ h => h) (Or.inl ⟨by rfl,?_⟩) hHeld ?_ ?_
              rotate_left
              ·rintro w' ⟨s0,s1,s2,s3,s4,s5,s6,s7,s8⟩
               go_simp
               with_reducible rfl
              rotate_left
              ·simp only [Act.put,List.setIfInBounds_toArray,List.set_cons_zero,List.set_cons_succ,i64_w,i32_w]
               rfl
              refine one_ (i:=6) (N:=some 27) #[true,true,true,true,true,true,true,false] rfl rfl (one_of HT_.out (by kernel_rfl)) (by decide) (fun K hK => ?_)
              refine goes_ Try.func89 (by kernel_rfl) rfl #[.int .i64 (wrap64 (x1_1 + 1))] (by rfl) rfl rfl (by (try simp only [List.map_toArray,List.map_cons,List.map_nil]);first | done | rfl|(simp only [List.length_drop,List.length_take];rfl)) ?_
              with_reducible refine (laws_markText.calls k1 (wrap64 (x1_1 + 1)) t874 _ A6.out).mono ?_
              rintro e w16 ⟨rfl,hb⟩
              refine ⟨_,rfl,?_⟩
              have n0_:=aMk (bSt hb)
              clear HB
              have HB:=n0_
              clear n0_
              (try clear hb)
              (try clear hb2)
              (try clear hk)
              (try clear hi)
              refine hK.out _ _ ⟨((HB.out.cell (wLt w _ hw873_0)).trans hw873_0),((HB.out.cell (wLt w _ hw873_1)).trans hw873_1),((HB.out.cell (wLt w _ hw873_2)).trans hw873_2),((HB.out.cell (wLt w _ hw873_3)).trans hw873_3),((HB.out.cell (wLt w _ hw873_4)).trans hw873_4),((HB.out.cell (wLt w _ hw873_5)).trans hw873_5),((HB.out.cell (wLt w _ hw873_6)).trans hw873_6),((HB.out.cell (wLt w _ hw873_7)).trans hw873_7),((HB.out.cell (wLt w _ hw873_8)).trans hw873_8)⟩ (fun hHeld => ?_)
              clear hK K
              refine norm_ (a':=?_) ?_ ?_
              rotate_left
              ·show Act.put _ (some 27) _ = _
               simp only [Act.put,List.setIfInBounds_toArray,List.set_cons_zero,List.set_cons_succ,i64_w,i32_w]
               rfl
              refine pure_ (i:=7) (N:=some 28) (v:=?_) (a':=?_) #[true,true,true,true,true,true,true,true] rfl rfl (any_of HT_.out (by kernel_rfl)) (fun _ _ _ h => h) (Or.inl ⟨by rfl,?_⟩) ?_ ?_
              rotate_left
              ·intro w'
               go_simp
               with_reducible rfl
              rotate_left
              ·simp only [Act.put,List.setIfInBounds_toArray,List.set_cons_zero,List.set_cons_succ,i64_w,i32_w]
               rfl
              refine done_ (done_of HT_.out (by kernel_rfl)) ?_
              have p875 : 0 ≤ (x5_1 : Int):=of_decide_eq_true (by first|(with_reducible assumption) | assumption)
              have q875 : x5_1 < (l0.length : Int):=of_decide_eq_true (by first|(with_reducible assumption) | assumption)
              obtain ⟨ad875,e875,hx875_0,hx875_1,hx875_2,hx875_3,hx875_4,hx875_5,hx875_6,hx875_7,hx875_8⟩:=at_T71 HR0.out x5_1 p875 q875
              obtain rfl : ad872 = ad875:=(by injection e875)
              replace hx875_0:=bXc HB.out hx875_0
              replace hx875_1:=bXc HB.out hx875_1
              replace hx875_2:=bXc HB.out hx875_2
              replace hx875_3:=bXc HB.out hx875_3
              replace hx875_4:=bXc HB.out hx875_4
              replace hx875_5:=bXc HB.out hx875_5
              replace hx875_6:=bXc HB.out hx875_6
              replace hx875_7:=bXc HB.out hx875_7
              replace hx875_8:=bXc HB.out hx875_8
              replace p875:=eq_true p875
              replace q875:=eq_true q875
              have p876 : 0 ≤ (x5_1 : Int):=of_decide_eq_true (by first|(with_reducible assumption) | assumption)
              have q876 : x5_1 < (l0.length : Int):=of_decide_eq_true (by first|(with_reducible assumption) | assumption)
              obtain ⟨ad876,e876,hx876_0,hx876_1,hx876_2,hx876_3,hx876_4,hx876_5,hx876_6,hx876_7,hx876_8⟩:=at_T71 HR0.out x5_1 p876 q876
              obtain rfl : ad872 = ad876:=(by injection e876)
              replace hx876_0:=bXc HB.out hx876_0
              replace hx876_1:=bXc HB.out hx876_1
              replace hx876_2:=bXc HB.out hx876_2
              replace hx876_3:=bXc HB.out hx876_3
              replace hx876_4:=bXc HB.out hx876_4
              replace hx876_5:=bXc HB.out hx876_5
              replace hx876_6:=bXc HB.out hx876_6
              replace hx876_7:=bXc HB.out hx876_7
              replace hx876_8:=bXc HB.out hx876_8
              replace p876:=eq_true p876
              replace q876:=eq_true q876
              have p877 : 0 ≤ (x5_1 : Int):=of_decide_eq_true (by first|(with_reducible assumption) | assumption)
              have q877 : x5_1 < (l0.length : Int):=of_decide_eq_true (by first|(with_reducible assumption) | assumption)
              obtain ⟨ad877,e877,hx877_0,hx877_1,hx877_2,hx877_3,hx877_4,hx877_5,hx877_6,hx877_7,hx877_8⟩:=at_T71 HR0.out x5_1 p877 q877
              obtain rfl : ad872 = ad877:=(by injection e877)
              replace hx877_0:=bXc HB.out hx877_0
              replace hx877_1:=bXc HB.out hx877_1
              replace hx877_2:=bXc HB.out hx877_2
              replace hx877_3:=bXc HB.out hx877_3
              replace hx877_4:=bXc HB.out hx877_4
              replace hx877_5:=bXc HB.out hx877_5
              replace hx877_6:=bXc HB.out hx877_6
              replace hx877_7:=bXc HB.out hx877_7
              replace hx877_8:=bXc HB.out hx877_8
              replace p877:=eq_true p877
              replace q877:=eq_true q877
              have p878 : 0 ≤ (x5_1 : Int):=of_decide_eq_true (by first|(with_reducible assumption) | assumption)
              have q878 : x5_1 < (l0.length : Int):=of_decide_eq_true (by first|(with_reducible assumption) | assumption)
              obtain ⟨ad878,e878,hx878_0,hx878_1,hx878_2,hx878_3,hx878_4,hx878_5,hx878_6,hx878_7,hx878_8⟩:=at_T71 HR0.out x5_1 p878 q878
              obtain rfl : ad872 = ad878:=(by injection e878)
              replace hx878_0:=bXc HB.out hx878_0
              replace hx878_1:=bXc HB.out hx878_1
              replace hx878_2:=bXc HB.out hx878_2
              replace hx878_3:=bXc HB.out hx878_3
              replace hx878_4:=bXc HB.out hx878_4
              replace hx878_5:=bXc HB.out hx878_5
              replace hx878_6:=bXc HB.out hx878_6
              replace hx878_7:=bXc HB.out hx878_7
              replace hx878_8:=bXc HB.out hx878_8
              replace p878:=eq_true p878
              replace q878:=eq_true q878
              have p879 : 0 ≤ (x5_1 : Int):=of_decide_eq_true (by first|(with_reducible assumption) | assumption)
              have q879 : x5_1 < (l0.length : Int):=of_decide_eq_true (by first|(with_reducible assumption) | assumption)
              obtain ⟨ad879,e879,hx879_0,hx879_1,hx879_2,hx879_3,hx879_4,hx879_5,hx879_6,hx879_7,hx879_8⟩:=at_T71 HR0.out x5_1 p879 q879
              obtain rfl : ad872 = ad879:=(by injection e879)
              replace hx879_0:=bXc HB.out hx879_0
              replace hx879_1:=bXc HB.out hx879_1
              replace hx879_2:=bXc HB.out hx879_2
              replace hx879_3:=bXc HB.out hx879_3
              replace hx879_4:=bXc HB.out hx879_4
              replace hx879_5:=bXc HB.out hx879_5
              replace hx879_6:=bXc HB.out hx879_6
              replace hx879_7:=bXc HB.out hx879_7
              replace hx879_8:=bXc HB.out hx879_8
              replace p879:=eq_true p879
              replace q879:=eq_true q879
              have p880 : 0 ≤ (x5_1 : Int):=of_decide_eq_true (by first|(with_reducible assumption) | assumption)
              have q880 : x5_1 < (l0.length : Int):=of_decide_eq_true (by first|(with_reducible assumption) | assumption)
              obtain ⟨ad880,e880,hx880_0,hx880_1,hx880_2,hx880_3,hx880_4,hx880_5,hx880_6,hx880_7,hx880_8⟩:=at_T71 HR0.out x5_1 p880 q880
              obtain rfl : ad872 = ad880:=(by injection e880)
              replace hx880_0:=bXc HB.out hx880_0
              replace hx880_1:=bXc HB.out hx880_1
              replace hx880_2:=bXc HB.out hx880_2
              replace hx880_3:=bXc HB.out hx880_3
              replace hx880_4:=bXc HB.out hx880_4
              replace hx880_5:=bXc HB.out hx880_5
              replace hx880_6:=bXc HB.out hx880_6
              replace hx880_7:=bXc HB.out hx880_7
              replace hx880_8:=bXc HB.out hx880_8
              replace p880:=eq_true p880
              replace q880:=eq_true q880
              have p881 : 0 ≤ (x5_1 : Int):=of_decide_eq_true (by first|(with_reducible assumption) | assumption)
              have q881 : x5_1 < (l0.length : Int):=of_decide_eq_true (by first|(with_reducible assumption) | assumption)
              obtain ⟨ad881,e881,hx881_0,hx881_1,hx881_2,hx881_3,hx881_4,hx881_5,hx881_6,hx881_7,hx881_8⟩:=at_T71 HR0.out x5_1 p881 q881
              obtain rfl : ad872 = ad881:=(by injection e881)
              replace hx881_0:=bXc HB.out hx881_0
              replace hx881_1:=bXc HB.out hx881_1
              replace hx881_2:=bXc HB.out hx881_2
              replace hx881_3:=bXc HB.out hx881_3
              replace hx881_4:=bXc HB.out hx881_4
              replace hx881_5:=bXc HB.out hx881_5
              replace hx881_6:=bXc HB.out hx881_6
              replace hx881_7:=bXc HB.out hx881_7
              replace hx881_8:=bXc HB.out hx881_8
              replace p881:=eq_true p881
              replace q881:=eq_true q881
              try go_wp2
              go_roundg k1
              case measure => have:=HK1.out;omega
              case rel => exact ⟨(wrap64 ((wrap64 ((wrap64 ((wrap64 ((wrap64 ((wrap64 ((wrap64 ((wrap64 ((wrap64 (x1_1 + 1)) + 1)) + 1)) + 1)) + 1)) + 1)) + 1)) + 1)) + 1)),(wrap64 (x5_1 + 1)),(by first | rfl|(simp;done)|(simp [*];done)|(simp [ne_nil_b];done)|(simp [ne_nil_b, *];done)),(by first | rfl|(simp;done)|(simp [*];done)|(simp [ne_nil_b];done)|(simp [ne_nil_b, *];done)),H',⟨by have:=HK1.out;omega⟩,⟨by repeat (first|(with_reducible first|exact HB.out|apply bwA|apply bwN|apply bw1)|exact HB.out)⟩⟩
             ·rw [if_neg c14] at H
              have c14b0 : (((rd_T71 l0 x5_1).f8) == (wrap64 ((wrap64 ((wrap64 ((wrap64 ((wrap64 ((wrap64 ((wrap64 ((wrap64 (x1_1 + 1)) + 1)) + 1)) + 1)) + 1)) + 1)) + 1)) + 1))) = false:=beq_eq_false_iff_ne.mpr c14
              have c14b1 : (((rd_T71 l0 x5_1).f8) != (wrap64 ((wrap64 ((wrap64 ((wrap64 ((wrap64 ((wrap64 ((wrap64 ((wrap64 (x1_1 + 1)) + 1)) + 1)) + 1)) + 1)) + 1)) + 1)) + 1))) = true:=bne_iff_ne.mpr c14
              obtain rfl:=Option.some.inj H
              have p872 : 0 ≤ (x5_1 : Int):=of_decide_eq_true (by first|(with_reducible assumption) | assumption)
              have q872 : x5_1 < (l0.length : Int):=of_decide_eq_true (by first|(with_reducible assumption) | assumption)
              obtain ⟨ad872,e872,hx872_0,hx872_1,hx872_2,hx872_3,hx872_4,hx872_5,hx872_6,hx872_7,hx872_8⟩:=at_T71 HR0.out x5_1 p872 q872
              cases e872
              replace hx872_0:=bXc HB.out hx872_0
              replace hx872_1:=bXc HB.out hx872_1
              replace hx872_2:=bXc HB.out hx872_2
              replace hx872_3:=bXc HB.out hx872_3
              replace hx872_4:=bXc HB.out hx872_4
              replace hx872_5:=bXc HB.out hx872_5
              replace hx872_6:=bXc HB.out hx872_6
              replace hx872_7:=bXc HB.out hx872_7
              replace hx872_8:=bXc HB.out hx872_8
              replace p872:=eq_true p872
              replace q872:=eq_true q872
              try go_wp2
              have n0_:=aMk (bw1 HB.out)
              clear HB
              have HB:=n0_
              clear n0_
              have p873 : 0 ≤ (x5_1 : Int):=of_decide_eq_true (by first|(with_reducible assumption) | assumption)
              have q873 : x5_1 < (l0.length : Int):=of_decide_eq_true (by first|(with_reducible assumption) | assumption)
              obtain ⟨ad873,e873,hx873_0,hx873_1,hx873_2,hx873_3,hx873_4,hx873_5,hx873_6,hx873_7,hx873_8⟩:=at_T71 HR0.out x5_1 p873 q873
              have hw873_8:=hx873_8
              have hw873_7:=hx873_7
              have hw873_6:=hx873_6
              have hw873_5:=hx873_5
              have hw873_4:=hx873_4
              have hw873_3:=hx873_3
              have hw873_2:=hx873_2
              have hw873_1:=hx873_1
              have hw873_0:=hx873_0
              obtain rfl : ad872 = ad873:=(by injection e873)
              replace hx873_0:=bXc HB.out hx873_0
              replace hx873_1:=bXc HB.out hx873_1
              replace hx873_2:=bXc HB.out hx873_2
              replace hx873_3:=bXc HB.out hx873_3
              replace hx873_4:=bXc HB.out hx873_4
              replace hx873_5:=bXc HB.out hx873_5
              replace hx873_6:=bXc HB.out hx873_6
              replace hx873_7:=bXc HB.out hx873_7
              replace hx873_8:=bXc HB.out hx873_8
              replace p873:=eq_true p873
              replace q873:=eq_true q873
              refine start_ (n:=8) (S:=fun w' => w'.cell? (ad872.add ((x5_1).toNat * 9)) = some (.int .i64 ((rd_T71 l0 x5_1).f0)) ∧ w'.cell? ⟨(ad872.add ((x5_1).toNat * 9)).block,(ad872.add ((x5_1).toNat * 9)).off + 1,none⟩ = some (.string ((rd_T71 l0 x5_1).f1)) ∧ w'.cell? ⟨(ad872.add ((x5_1).toNat * 9)).block,(ad872.add ((x5_1).toNat * 9)).off + 2,none⟩ = some (.int .i64 ((rd_T71 l0 x5_1).f2)) ∧ w'.cell? ⟨(ad872.add ((x5_1).toNat * 9)).block,(ad872.add ((x5_1).toNat * 9)).off + 3,none⟩ = some (.int .i64 ((rd_T71 l0 x5_1).f3)) ∧ w'.cell? ⟨(ad872.add ((x5_1).toNat * 9)).block,(ad872.add ((x5_1).toNat * 9)).off + 4,none⟩ = some (.int .i64 ((rd_T71 l0 x5_1).f4)) ∧ w'.cell? ⟨(ad872.add ((x5_1).toNat * 9)).block,(ad872.add ((x5_1).toNat * 9)).off + 5,none⟩ = some (.int .i64 ((rd_T71 l0 x5_1).f5)) ∧ w'.cell? ⟨(ad872.add ((x5_1).toNat * 9)).block,(ad872.add ((x5_1).toNat * 9)).off + 6,none⟩ = some (.int .i64 ((rd_T71 l0 x5_1).f6)) ∧ w'.cell? ⟨(ad872.add ((x5_1).toNat * 9)).block,(ad872.add ((x5_1).toNat * 9)).off + 7,none⟩ = some (.int .i64 ((rd_T71 l0 x5_1).f7)) ∧ w'.cell? ⟨(ad872.add ((x5_1).toNat * 9)).block,(ad872.add ((x5_1).toNat * 9)).off + 8,none⟩ = some (.int .i64 ((rd_T71 l0 x5_1).f8))) (ds:=[]) #[false,false,false,false,false,false,false,false] (by kernel_rfl) rfl rfl ⟨((HB.out.cell (wLt w _ hw873_0)).trans hw873_0),((HB.out.cell (wLt w _ hw873_1)).trans hw873_1),((HB.out.cell (wLt w _ hw873_2)).trans hw873_2),((HB.out.cell (wLt w _ hw873_3)).trans hw873_3),((HB.out.cell (wLt w _ hw873_4)).trans hw873_4),((HB.out.cell (wLt w _ hw873_5)).trans hw873_5),((HB.out.cell (wLt w _ hw873_6)).trans hw873_6),((HB.out.cell (wLt w _ hw873_7)).trans hw873_7),((HB.out.cell (wLt w _ hw873_8)).trans hw873_8)⟩ (fun hHeld => ?_);refine with_tabW laws_heldFlowS.tab7 laws_heldFlowS.bits7 (fun HT_ HW_ => ?_)
              generalize wr.drew = w17 at HB hx873_0 hx873_1 hx873_2 hx873_3 hx873_4 hx873_5 hx873_6 hx873_7 hx873_8 hHeld ⊢
              refine pure_ (i:=0) (N:=some 21) (v:=?_) (a':=?_) #[true,false,false,false,false,false,false,false] rfl rfl (any_of HT_.out (by kernel_rfl)) (fun _ _ _ h => h) (Or.inl ⟨by rfl,?_⟩) ?_ ?_
              rotate_left
              ·intro w'
               go_simp
               with_reducible rfl
              rotate_left
              ·simp only [Act.put,List.setIfInBounds_toArray,List.set_cons_zero,List.set_cons_succ,i64_w,i32_w]
               rfl
              refine pure_ (i:=1) (N:=some 22) (v:=?_) (a':=?_) #[true,true,false,false,false,false,false,false] rfl rfl (any_of HT_.out (by kernel_rfl)) (fun _ _ _ h => h) (Or.inl ⟨by rfl,?_⟩) ?_ ?_
              rotate_left
              ·intro w'
               go_simp
               with_reducible rfl
              rotate_left
              ·simp only [Act.put,List.setIfInBounds_toArray,List.set_cons_zero,List.set_cons_succ,i64_w,i32_w]
               rfl
              refine pure_ (i:=2) (N:=some 23) (v:=?_) (a':=?_) #[true,true,true,false,false,false,false,false] rfl rfl (any_of HT_.out (by kernel_rfl)) (fun _ _ _ h => h) (Or.inl ⟨by rfl,?_⟩) ?_ ?_
              rotate_left
              ·intro w'
               go_simp
               with_reducible rfl
              rotate_left
              ·simp only [Act.put,List.setIfInBounds_toArray,List.set_cons_zero,List.set_cons_succ,i64_w,i32_w]
               rfl
              refine pure_ (i:=3) (N:=some 24) (v:=?_) (a':=?_) #[true,true,true,true,false,false,false,false] rfl rfl (any_of HT_.out (by kernel_rfl)) (fun _ _ _ h => h) (Or.inl ⟨by rfl,?_⟩) ?_ ?_
              rotate_left
              ·intro w'
               go_simp
               with_reducible rfl
              rotate_left
              ·simp only [Act.put,List.setIfInBounds_toArray,List.set_cons_zero,List.set_cons_succ,i64_w,i32_w]
               rfl
              refine pure_ (i:=5) (N:=some 26) (v:=?_) (a':=?_) #[true,true,true,true,false,true,false,false] rfl rfl (any_of HT_.out (by kernel_rfl)) (fun _ _ _ h => h) (Or.inl ⟨by rfl,?_⟩) ?_ ?_
              rotate_left
              ·intro w'
               go_simp
               with_reducible rfl
              rotate_left
              ·simp only [Act.put,List.setIfInBounds_toArray,List.set_cons_zero,List.set_cons_succ,i64_w,i32_w]
               rfl
              refine take_ (i:=4) (N:=some 25) (v:=?_) (a':=?_) #[true,true,true,true,true,true,false,false] rfl rfl (take_ofW HT_.out HW_.out (by kernel_rfl)) (fun _ _ _ h => h) (Or.inl ⟨by rfl,?_⟩) hHeld ?_ ?_
              rotate_left
              ·rintro w' ⟨s0,s1,s2,s3,s4,s5,s6,s7,s8⟩
               go_simp
               with_reducible rfl
              rotate_left
              ·simp only [Act.put,List.setIfInBounds_toArray,List.set_cons_zero,List.set_cons_succ,i64_w,i32_w]
               rfl
              refine one_ (i:=6) (N:=some 27) #[true,true,true,true,true,true,true,false] rfl rfl (one_of HT_.out (by kernel_rfl)) (by decide) (fun K hK => ?_)
              refine goes_ Try.func89 (by kernel_rfl) rfl #[.int .i64 (wrap64 (x1_1 + 1))] (by rfl) rfl rfl (by (try simp only [List.map_toArray,List.map_cons,List.map_nil]);first | done | rfl|(simp only [List.length_drop,List.length_take];rfl)) ?_
              with_reducible refine (laws_markText.calls k1 (wrap64 (x1_1 + 1)) t874 _ A6.out).mono ?_
              rintro e w18 ⟨rfl,hb⟩
              refine ⟨_,rfl,?_⟩
              have n0_:=aMk (bSt hb)
              clear HB
              have HB:=n0_
              clear n0_
              (try clear hb)
              (try clear hb2)
              (try clear hk)
              (try clear hi)
              refine hK.out _ _ ⟨((HB.out.cell (wLt w _ hw873_0)).trans hw873_0),((HB.out.cell (wLt w _ hw873_1)).trans hw873_1),((HB.out.cell (wLt w _ hw873_2)).trans hw873_2),((HB.out.cell (wLt w _ hw873_3)).trans hw873_3),((HB.out.cell (wLt w _ hw873_4)).trans hw873_4),((HB.out.cell (wLt w _ hw873_5)).trans hw873_5),((HB.out.cell (wLt w _ hw873_6)).trans hw873_6),((HB.out.cell (wLt w _ hw873_7)).trans hw873_7),((HB.out.cell (wLt w _ hw873_8)).trans hw873_8)⟩ (fun hHeld => ?_)
              clear hK K
              refine norm_ (a':=?_) ?_ ?_
              rotate_left
              ·show Act.put _ (some 27) _ = _
               simp only [Act.put,List.setIfInBounds_toArray,List.set_cons_zero,List.set_cons_succ,i64_w,i32_w]
               rfl
              refine pure_ (i:=7) (N:=some 28) (v:=?_) (a':=?_) #[true,true,true,true,true,true,true,true] rfl rfl (any_of HT_.out (by kernel_rfl)) (fun _ _ _ h => h) (Or.inl ⟨by rfl,?_⟩) ?_ ?_
              rotate_left
              ·intro w'
               go_simp
               with_reducible rfl
              rotate_left
              ·simp only [Act.put,List.setIfInBounds_toArray,List.set_cons_zero,List.set_cons_succ,i64_w,i32_w]
               rfl
              refine done_ (done_of HT_.out (by kernel_rfl)) ?_
              have p875 : 0 ≤ (x5_1 : Int):=of_decide_eq_true (by first|(with_reducible assumption) | assumption)
              have q875 : x5_1 < (l0.length : Int):=of_decide_eq_true (by first|(with_reducible assumption) | assumption)
              obtain ⟨ad875,e875,hx875_0,hx875_1,hx875_2,hx875_3,hx875_4,hx875_5,hx875_6,hx875_7,hx875_8⟩:=at_T71 HR0.out x5_1 p875 q875
              obtain rfl : ad872 = ad875:=(by injection e875)
              replace hx875_0:=bXc HB.out hx875_0
              replace hx875_1:=bXc HB.out hx875_1
              replace hx875_2:=bXc HB.out hx875_2
              replace hx875_3:=bXc HB.out hx875_3
              replace hx875_4:=bXc HB.out hx875_4
              replace hx875_5:=bXc HB.out hx875_5
              replace hx875_6:=bXc HB.out hx875_6
              replace hx875_7:=bXc HB.out hx875_7
              replace hx875_8:=bXc HB.out hx875_8
              replace p875:=eq_true p875
              replace q875:=eq_true q875
              have p876 : 0 ≤ (x5_1 : Int):=of_decide_eq_true (by first|(with_reducible assumption) | assumption)
              have q876 : x5_1 < (l0.length : Int):=of_decide_eq_true (by first|(with_reducible assumption) | assumption)
              obtain ⟨ad876,e876,hx876_0,hx876_1,hx876_2,hx876_3,hx876_4,hx876_5,hx876_6,hx876_7,hx876_8⟩:=at_T71 HR0.out x5_1 p876 q876
              obtain rfl : ad872 = ad876:=(by injection e876)
              replace hx876_0:=bXc HB.out hx876_0
              replace hx876_1:=bXc HB.out hx876_1
              replace hx876_2:=bXc HB.out hx876_2
              replace hx876_3:=bXc HB.out hx876_3
              replace hx876_4:=bXc HB.out hx876_4
              replace hx876_5:=bXc HB.out hx876_5
              replace hx876_6:=bXc HB.out hx876_6
              replace hx876_7:=bXc HB.out hx876_7
              replace hx876_8:=bXc HB.out hx876_8
              replace p876:=eq_true p876
              replace q876:=eq_true q876
              have p877 : 0 ≤ (x5_1 : Int):=of_decide_eq_true (by first|(with_reducible assumption) | assumption)
              have q877 : x5_1 < (l0.length : Int):=of_decide_eq_true (by first|(with_reducible assumption) | assumption)
              obtain ⟨ad877,e877,hx877_0,hx877_1,hx877_2,hx877_3,hx877_4,hx877_5,hx877_6,hx877_7,hx877_8⟩:=at_T71 HR0.out x5_1 p877 q877
              obtain rfl : ad872 = ad877:=(by injection e877)
              replace hx877_0:=bXc HB.out hx877_0
              replace hx877_1:=bXc HB.out hx877_1
              replace hx877_2:=bXc HB.out hx877_2
              replace hx877_3:=bXc HB.out hx877_3
              replace hx877_4:=bXc HB.out hx877_4
              replace hx877_5:=bXc HB.out hx877_5
              replace hx877_6:=bXc HB.out hx877_6
              replace hx877_7:=bXc HB.out hx877_7
              replace hx877_8:=bXc HB.out hx877_8
              replace p877:=eq_true p877
              replace q877:=eq_true q877
              have p878 : 0 ≤ (x5_1 : Int):=of_decide_eq_true (by first|(with_reducible assumption) | assumption)
              have q878 : x5_1 < (l0.length : Int):=of_decide_eq_true (by first|(with_reducible assumption) | assumption)
              obtain ⟨ad878,e878,hx878_0,hx878_1,hx878_2,hx878_3,hx878_4,hx878_5,hx878_6,hx878_7,hx878_8⟩:=at_T71 HR0.out x5_1 p878 q878
              obtain rfl : ad872 = ad878:=(by injection e878)
              replace hx878_0:=bXc HB.out hx878_0
              replace hx878_1:=bXc HB.out hx878_1
              replace hx878_2:=bXc HB.out hx878_2
              replace hx878_3:=bXc HB.out hx878_3
              replace hx878_4:=bXc HB.out hx878_4
              replace hx878_5:=bXc HB.out hx878_5
              replace hx878_6:=bXc HB.out hx878_6
              replace hx878_7:=bXc HB.out hx878_7
              replace hx878_8:=bXc HB.out hx878_8
              replace p878:=eq_true p878
              replace q878:=eq_true q878
              have p879 : 0 ≤ (x5_1 : Int):=of_decide_eq_true (by first|(with_reducible assumption) | assumption)
              have q879 : x5_1 < (l0.length : Int):=of_decide_eq_true (by first|(with_reducible assumption) | assumption)
              obtain ⟨ad879,e879,hx879_0,hx879_1,hx879_2,hx879_3,hx879_4,hx879_5,hx879_6,hx879_7,hx879_8⟩:=at_T71 HR0.out x5_1 p879 q879
              obtain rfl : ad872 = ad879:=(by injection e879)
              replace hx879_0:=bXc HB.out hx879_0
              replace hx879_1:=bXc HB.out hx879_1
              replace hx879_2:=bXc HB.out hx879_2
              replace hx879_3:=bXc HB.out hx879_3
              replace hx879_4:=bXc HB.out hx879_4
              replace hx879_5:=bXc HB.out hx879_5
              replace hx879_6:=bXc HB.out hx879_6
              replace hx879_7:=bXc HB.out hx879_7
              replace hx879_8:=bXc HB.out hx879_8
              replace p879:=eq_true p879
              replace q879:=eq_true q879
              have p880 : 0 ≤ (x5_1 : Int):=of_decide_eq_true (by first|(with_reducible assumption) | assumption)
              have q880 : x5_1 < (l0.length : Int):=of_decide_eq_true (by first|(with_reducible assumption) | assumption)
              obtain ⟨ad880,e880,hx880_0,hx880_1,hx880_2,hx880_3,hx880_4,hx880_5,hx880_6,hx880_7,hx880_8⟩:=at_T71 HR0.out x5_1 p880 q880
              obtain rfl : ad872 = ad880:=(by injection e880)
              replace hx880_0:=bXc HB.out hx880_0
              replace hx880_1:=bXc HB.out hx880_1
              replace hx880_2:=bXc HB.out hx880_2
              replace hx880_3:=bXc HB.out hx880_3
              replace hx880_4:=bXc HB.out hx880_4
              replace hx880_5:=bXc HB.out hx880_5
              replace hx880_6:=bXc HB.out hx880_6
              replace hx880_7:=bXc HB.out hx880_7
              replace hx880_8:=bXc HB.out hx880_8
              replace p880:=eq_true p880
              replace q880:=eq_true q880
              have p881 : 0 ≤ (x5_1 : Int):=of_decide_eq_true (by first|(with_reducible assumption) | assumption)
              have q881 : x5_1 < (l0.length : Int):=of_decide_eq_true (by first|(with_reducible assumption) | assumption)
              obtain ⟨ad881,e881,hx881_0,hx881_1,hx881_2,hx881_3,hx881_4,hx881_5,hx881_6,hx881_7,hx881_8⟩:=at_T71 HR0.out x5_1 p881 q881
              obtain rfl : ad872 = ad881:=(by injection e881)
              replace hx881_0:=bXc HB.out hx881_0
              replace hx881_1:=bXc HB.out hx881_1
              replace hx881_2:=bXc HB.out hx881_2
              replace hx881_3:=bXc HB.out hx881_3
              replace hx881_4:=bXc HB.out hx881_4
              replace hx881_5:=bXc HB.out hx881_5
              replace hx881_6:=bXc HB.out hx881_6
              replace hx881_7:=bXc HB.out hx881_7
              replace hx881_8:=bXc HB.out hx881_8
              replace p881:=eq_true p881
              replace q881:=eq_true q881
              try go_wp2
              go_ret
              exact ⟨eRf,by repeat (first|(with_reducible first|exact HB.out|apply bwA|apply bwN|apply bw1)|exact HB.out)⟩
            ·rw [if_neg c13] at H
             have c13b0 : (((rd_T71 l0 x5_1).f7) == (wrap64 ((wrap64 ((wrap64 ((wrap64 ((wrap64 ((wrap64 ((wrap64 (x1_1 + 1)) + 1)) + 1)) + 1)) + 1)) + 1)) + 1))) = false:=beq_eq_false_iff_ne.mpr c13
             have c13b1 : (((rd_T71 l0 x5_1).f7) != (wrap64 ((wrap64 ((wrap64 ((wrap64 ((wrap64 ((wrap64 ((wrap64 (x1_1 + 1)) + 1)) + 1)) + 1)) + 1)) + 1)) + 1))) = true:=bne_iff_ne.mpr c13
             obtain rfl:=Option.some.inj H
             have p872 : 0 ≤ (x5_1 : Int):=of_decide_eq_true (by first|(with_reducible assumption) | assumption)
             have q872 : x5_1 < (l0.length : Int):=of_decide_eq_true (by first|(with_reducible assumption) | assumption)
             obtain ⟨ad872,e872,hx872_0,hx872_1,hx872_2,hx872_3,hx872_4,hx872_5,hx872_6,hx872_7,hx872_8⟩:=at_T71 HR0.out x5_1 p872 q872
             cases e872
             replace hx872_0:=bXc HB.out hx872_0
             replace hx872_1:=bXc HB.out hx872_1
             replace hx872_2:=bXc HB.out hx872_2
             replace hx872_3:=bXc HB.out hx872_3
             replace hx872_4:=bXc HB.out hx872_4
             replace hx872_5:=bXc HB.out hx872_5
             replace hx872_6:=bXc HB.out hx872_6
             replace hx872_7:=bXc HB.out hx872_7
             replace hx872_8:=bXc HB.out hx872_8
             replace p872:=eq_true p872
             replace q872:=eq_true q872
             try go_wp2
             have n0_:=aMk (bw1 HB.out)
             clear HB
             have HB:=n0_
             clear n0_
             have p873 : 0 ≤ (x5_1 : Int):=of_decide_eq_true (by first|(with_reducible assumption) | assumption)
             have q873 : x5_1 < (l0.length : Int):=of_decide_eq_true (by first|(with_reducible assumption) | assumption)
             obtain ⟨ad873,e873,hx873_0,hx873_1,hx873_2,hx873_3,hx873_4,hx873_5,hx873_6,hx873_7,hx873_8⟩:=at_T71 HR0.out x5_1 p873 q873
             have hw873_8:=hx873_8
             have hw873_7:=hx873_7
             have hw873_6:=hx873_6
             have hw873_5:=hx873_5
             have hw873_4:=hx873_4
             have hw873_3:=hx873_3
             have hw873_2:=hx873_2
             have hw873_1:=hx873_1
             have hw873_0:=hx873_0
             obtain rfl : ad872 = ad873:=(by injection e873)
             replace hx873_0:=bXc HB.out hx873_0
             replace hx873_1:=bXc HB.out hx873_1
             replace hx873_2:=bXc HB.out hx873_2
             replace hx873_3:=bXc HB.out hx873_3
             replace hx873_4:=bXc HB.out hx873_4
             replace hx873_5:=bXc HB.out hx873_5
             replace hx873_6:=bXc HB.out hx873_6
             replace hx873_7:=bXc HB.out hx873_7
             replace hx873_8:=bXc HB.out hx873_8
             replace p873:=eq_true p873
             replace q873:=eq_true q873
             refine start_ (n:=8) (S:=fun w' => w'.cell? (ad872.add ((x5_1).toNat * 9)) = some (.int .i64 ((rd_T71 l0 x5_1).f0)) ∧ w'.cell? ⟨(ad872.add ((x5_1).toNat * 9)).block,(ad872.add ((x5_1).toNat * 9)).off + 1,none⟩ = some (.string ((rd_T71 l0 x5_1).f1)) ∧ w'.cell? ⟨(ad872.add ((x5_1).toNat * 9)).block,(ad872.add ((x5_1).toNat * 9)).off + 2,none⟩ = some (.int .i64 ((rd_T71 l0 x5_1).f2)) ∧ w'.cell? ⟨(ad872.add ((x5_1).toNat * 9)).block,(ad872.add ((x5_1).toNat * 9)).off + 3,none⟩ = some (.int .i64 ((rd_T71 l0 x5_1).f3)) ∧ w'.cell? ⟨(ad872.add ((x5_1).toNat * 9)).block,(ad872.add ((x5_1).toNat * 9)).off + 4,none⟩ = some (.int .i64 ((rd_T71 l0 x5_1).f4)) ∧ w'.cell? ⟨(ad872.add ((x5_1).toNat * 9)).block,(ad872.add ((x5_1).toNat * 9)).off + 5,none⟩ = some (.int .i64 ((rd_T71 l0 x5_1).f5)) ∧ w'.cell? ⟨(ad872.add ((x5_1).toNat * 9)).block,(ad872.add ((x5_1).toNat * 9)).off + 6,none⟩ = some (.int .i64 ((rd_T71 l0 x5_1).f6)) ∧ w'.cell? ⟨(ad872.add ((x5_1).toNat * 9)).block,(ad872.add ((x5_1).toNat * 9)).off + 7,none⟩ = some (.int .i64 ((rd_T71 l0 x5_1).f7)) ∧ w'.cell? ⟨(ad872.add ((x5_1).toNat * 9)).block,(ad872.add ((x5_1).toNat * 9)).off + 8,none⟩ = some (.int .i64 ((rd_T71 l0 x5_1).f8))) (ds:=[]) #[false,false,false,false,false,false,false,false] (by kernel_rfl) rfl rfl ⟨((HB.out.cell (wLt w _ hw873_0)).trans hw873_0),((HB.out.cell (wLt w _ hw873_1)).trans hw873_1),((HB.out.cell (wLt w _ hw873_2)).trans hw873_2),((HB.out.cell (wLt w _ hw873_3)).trans hw873_3),((HB.out.cell (wLt w _ hw873_4)).trans hw873_4),((HB.out.cell (wLt w _ hw873_5)).trans hw873_5),((HB.out.cell (wLt w _ hw873_6)).trans hw873_6),((HB.out.cell (wLt w _ hw873_7)).trans hw873_7),((HB.out.cell (wLt w _ hw873_8)).trans hw873_8)⟩ (fun hHeld => ?_);refine with_tabW laws_heldFlowS.tab7 laws_heldFlowS.bits7 (fun HT_ HW_ => ?_)
             generalize wr.drew = w19 at HB hx873_0 hx873_1 hx873_2 hx873_3 hx873_4 hx873_5 hx873_6 hx873_7 hx873_8 hHeld ⊢
             refine pure_ (i:=0) (N:=some 21) (v:=?_) (a':=?_) #[true,false,false,false,false,false,false,false] rfl rfl (any_of HT_.out (by kernel_rfl)) (fun _ _ _ h => h) (Or.inl ⟨by rfl,?_⟩) ?_ ?_
             rotate_left
             ·intro w'
              go_simp
              with_reducible rfl
             rotate_left
             ·simp only [Act.put,List.setIfInBounds_toArray,List.set_cons_zero,List.set_cons_succ,i64_w,i32_w]
              rfl
             refine pure_ (i:=1) (N:=some 22) (v:=?_) (a':=?_) #[true,true,false,false,false,false,false,false] rfl rfl (any_of HT_.out (by kernel_rfl)) (fun _ _ _ h => h) (Or.inl ⟨by rfl,?_⟩) ?_ ?_
             rotate_left
             ·intro w'
              go_simp
              with_reducible rfl
             rotate_left
             ·simp only [Act.put,List.setIfInBounds_toArray,List.set_cons_zero,List.set_cons_succ,i64_w,i32_w]
              rfl
             refine pure_ (i:=2) (N:=some 23) (v:=?_) (a':=?_) #[true,true,true,false,false,false,false,false] rfl rfl (any_of HT_.out (by kernel_rfl)) (fun _ _ _ h => h) (Or.inl ⟨by rfl,?_⟩) ?_ ?_
             rotate_left
             ·intro w'
              go_simp
              with_reducible rfl
             rotate_left
             ·simp only [Act.put,List.setIfInBounds_toArray,List.set_cons_zero,List.set_cons_succ,i64_w,i32_w]
              rfl
             refine pure_ (i:=3) (N:=some 24) (v:=?_) (a':=?_) #[true,true,true,true,false,false,false,false] rfl rfl (any_of HT_.out (by kernel_rfl)) (fun _ _ _ h => h) (Or.inl ⟨by rfl,?_⟩) ?_ ?_
             rotate_left
             ·intro w'
              go_simp
              with_reducible rfl
             rotate_left
             ·simp only [Act.put,List.setIfInBounds_toArray,List.set_cons_zero,List.set_cons_succ,i64_w,i32_w]
              rfl
             refine pure_ (i:=5) (N:=some 26) (v:=?_) (a':=?_) #[true,true,true,true,false,true,false,false] rfl rfl (any_of HT_.out (by kernel_rfl)) (fun _ _ _ h => h) (Or.inl ⟨by rfl,?_⟩) ?_ ?_
             rotate_left
             ·intro w'
              go_simp
              with_reducible rfl
             rotate_left
             ·simp only [Act.put,List.setIfInBounds_toArray,List.set_cons_zero,List.set_cons_succ,i64_w,i32_w]
              rfl
             refine take_ (i:=4) (N:=some 25) (v:=?_) (a':=?_) #[true,true,true,true,true,true,false,false] rfl rfl (take_ofW HT_.out HW_.out (by kernel_rfl)) (fun _ _ _ h => h) (Or.inl ⟨by rfl,?_⟩) hHeld ?_ ?_
             rotate_left
             ·rintro w' ⟨s0,s1,s2,s3,s4,s5,s6,s7,s8⟩
              go_simp
              with_reducible rfl
             rotate_left
             ·simp only [Act.put,List.setIfInBounds_toArray,List.set_cons_zero,List.set_cons_succ,i64_w,i32_w]
              rfl
             refine one_ (i:=6) (N:=some 27) #[true,true,true,true,true,true,true,false] rfl rfl (one_of HT_.out (by kernel_rfl)) (by decide) (fun K hK => ?_)
             refine goes_ Try.func89 (by kernel_rfl) rfl #[.int .i64 (wrap64 (x1_1 + 1))] (by rfl) rfl rfl (by (try simp only [List.map_toArray,List.map_cons,List.map_nil]);first | done | rfl|(simp only [List.length_drop,List.length_take];rfl)) ?_
             with_reducible refine (laws_markText.calls k1 (wrap64 (x1_1 + 1)) t874 _ A6.out).mono ?_
             rintro e w20 ⟨rfl,hb⟩
             refine ⟨_,rfl,?_⟩
             have n0_:=aMk (bSt hb)
             clear HB
             have HB:=n0_
             clear n0_
             (try clear hb)
             (try clear hb2)
             (try clear hk)
             (try clear hi)
             refine hK.out _ _ ⟨((HB.out.cell (wLt w _ hw873_0)).trans hw873_0),((HB.out.cell (wLt w _ hw873_1)).trans hw873_1),((HB.out.cell (wLt w _ hw873_2)).trans hw873_2),((HB.out.cell (wLt w _ hw873_3)).trans hw873_3),((HB.out.cell (wLt w _ hw873_4)).trans hw873_4),((HB.out.cell (wLt w _ hw873_5)).trans hw873_5),((HB.out.cell (wLt w _ hw873_6)).trans hw873_6),((HB.out.cell (wLt w _ hw873_7)).trans hw873_7),((HB.out.cell (wLt w _ hw873_8)).trans hw873_8)⟩ (fun hHeld => ?_)
             clear hK K
             refine norm_ (a':=?_) ?_ ?_
             rotate_left
             ·show Act.put _ (some 27) _ = _
              simp only [Act.put,List.setIfInBounds_toArray,List.set_cons_zero,List.set_cons_succ,i64_w,i32_w]
              rfl
             refine pure_ (i:=7) (N:=some 28) (v:=?_) (a':=?_) #[true,true,true,true,true,true,true,true] rfl rfl (any_of HT_.out (by kernel_rfl)) (fun _ _ _ h => h) (Or.inl ⟨by rfl,?_⟩) ?_ ?_
             rotate_left
             ·intro w'
              go_simp
              with_reducible rfl
             rotate_left
             ·simp only [Act.put,List.setIfInBounds_toArray,List.set_cons_zero,List.set_cons_succ,i64_w,i32_w]
              rfl
             refine done_ (done_of HT_.out (by kernel_rfl)) ?_
             have p875 : 0 ≤ (x5_1 : Int):=of_decide_eq_true (by first|(with_reducible assumption) | assumption)
             have q875 : x5_1 < (l0.length : Int):=of_decide_eq_true (by first|(with_reducible assumption) | assumption)
             obtain ⟨ad875,e875,hx875_0,hx875_1,hx875_2,hx875_3,hx875_4,hx875_5,hx875_6,hx875_7,hx875_8⟩:=at_T71 HR0.out x5_1 p875 q875
             obtain rfl : ad872 = ad875:=(by injection e875)
             replace hx875_0:=bXc HB.out hx875_0
             replace hx875_1:=bXc HB.out hx875_1
             replace hx875_2:=bXc HB.out hx875_2
             replace hx875_3:=bXc HB.out hx875_3
             replace hx875_4:=bXc HB.out hx875_4
             replace hx875_5:=bXc HB.out hx875_5
             replace hx875_6:=bXc HB.out hx875_6
             replace hx875_7:=bXc HB.out hx875_7
             replace hx875_8:=bXc HB.out hx875_8
             replace p875:=eq_true p875
             replace q875:=eq_true q875
             have p876 : 0 ≤ (x5_1 : Int):=of_decide_eq_true (by first|(with_reducible assumption) | assumption)
             have q876 : x5_1 < (l0.length : Int):=of_decide_eq_true (by first|(with_reducible assumption) | assumption)
             obtain ⟨ad876,e876,hx876_0,hx876_1,hx876_2,hx876_3,hx876_4,hx876_5,hx876_6,hx876_7,hx876_8⟩:=at_T71 HR0.out x5_1 p876 q876
             obtain rfl : ad872 = ad876:=(by injection e876)
             replace hx876_0:=bXc HB.out hx876_0
             replace hx876_1:=bXc HB.out hx876_1
             replace hx876_2:=bXc HB.out hx876_2
             replace hx876_3:=bXc HB.out hx876_3
             replace hx876_4:=bXc HB.out hx876_4
             replace hx876_5:=bXc HB.out hx876_5
             replace hx876_6:=bXc HB.out hx876_6
             replace hx876_7:=bXc HB.out hx876_7
             replace hx876_8:=bXc HB.out hx876_8
             replace p876:=eq_true p876
             replace q876:=eq_true q876
             have p877 : 0 ≤ (x5_1 : Int):=of_decide_eq_true (by first|(with_reducible assumption) | assumption)
             have q877 : x5_1 < (l0.length : Int):=of_decide_eq_true (by first|(with_reducible assumption) | assumption)
             obtain ⟨ad877,e877,hx877_0,hx877_1,hx877_2,hx877_3,hx877_4,hx877_5,hx877_6,hx877_7,hx877_8⟩:=at_T71 HR0.out x5_1 p877 q877
             obtain rfl : ad872 = ad877:=(by injection e877)
             replace hx877_0:=bXc HB.out hx877_0
             replace hx877_1:=bXc HB.out hx877_1
             replace hx877_2:=bXc HB.out hx877_2
             replace hx877_3:=bXc HB.out hx877_3
             replace hx877_4:=bXc HB.out hx877_4
             replace hx877_5:=bXc HB.out hx877_5
             replace hx877_6:=bXc HB.out hx877_6
             replace hx877_7:=bXc HB.out hx877_7
             replace hx877_8:=bXc HB.out hx877_8
             replace p877:=eq_true p877
             replace q877:=eq_true q877
             have p878 : 0 ≤ (x5_1 : Int):=of_decide_eq_true (by first|(with_reducible assumption) | assumption)
             have q878 : x5_1 < (l0.length : Int):=of_decide_eq_true (by first|(with_reducible assumption) | assumption)
             obtain ⟨ad878,e878,hx878_0,hx878_1,hx878_2,hx878_3,hx878_4,hx878_5,hx878_6,hx878_7,hx878_8⟩:=at_T71 HR0.out x5_1 p878 q878
             obtain rfl : ad872 = ad878:=(by injection e878)
             replace hx878_0:=bXc HB.out hx878_0
             replace hx878_1:=bXc HB.out hx878_1
             replace hx878_2:=bXc HB.out hx878_2
             replace hx878_3:=bXc HB.out hx878_3
             replace hx878_4:=bXc HB.out hx878_4
             replace hx878_5:=bXc HB.out hx878_5
             replace hx878_6:=bXc HB.out hx878_6
             replace hx878_7:=bXc HB.out hx878_7
             replace hx878_8:=bXc HB.out hx878_8
             replace p878:=eq_true p878
             replace q878:=eq_true q878
             have p879 : 0 ≤ (x5_1 : Int):=of_decide_eq_true (by first|(with_reducible assumption) | assumption)
             have q879 : x5_1 < (l0.length : Int):=of_decide_eq_true (by first|(with_reducible assumption) | assumption)
             obtain ⟨ad879,e879,hx879_0,hx879_1,hx879_2,hx879_3,hx879_4,hx879_5,hx879_6,hx879_7,hx879_8⟩:=at_T71 HR0.out x5_1 p879 q879
             obtain rfl : ad872 = ad879:=(by injection e879)
             replace hx879_0:=bXc HB.out hx879_0
             replace hx879_1:=bXc HB.out hx879_1
             replace hx879_2:=bXc HB.out hx879_2
             replace hx879_3:=bXc HB.out hx879_3
             replace hx879_4:=bXc HB.out hx879_4
             replace hx879_5:=bXc HB.out hx879_5
             replace hx879_6:=bXc HB.out hx879_6
             replace hx879_7:=bXc HB.out hx879_7
             replace hx879_8:=bXc HB.out hx879_8
             replace p879:=eq_true p879
             replace q879:=eq_true q879
             have p880 : 0 ≤ (x5_1 : Int):=of_decide_eq_true (by first|(with_reducible assumption) | assumption)
             have q880 : x5_1 < (l0.length : Int):=of_decide_eq_true (by first|(with_reducible assumption) | assumption)
             obtain ⟨ad880,e880,hx880_0,hx880_1,hx880_2,hx880_3,hx880_4,hx880_5,hx880_6,hx880_7,hx880_8⟩:=at_T71 HR0.out x5_1 p880 q880
             obtain rfl : ad872 = ad880:=(by injection e880)
             replace hx880_0:=bXc HB.out hx880_0
             replace hx880_1:=bXc HB.out hx880_1
             replace hx880_2:=bXc HB.out hx880_2
             replace hx880_3:=bXc HB.out hx880_3
             replace hx880_4:=bXc HB.out hx880_4
             replace hx880_5:=bXc HB.out hx880_5
             replace hx880_6:=bXc HB.out hx880_6
             replace hx880_7:=bXc HB.out hx880_7
             replace hx880_8:=bXc HB.out hx880_8
             replace p880:=eq_true p880
             replace q880:=eq_true q880
             try go_wp2
             go_ret
             exact ⟨eRf,by repeat (first|(with_reducible first|exact HB.out|apply bwA|apply bwN|apply bw1)|exact HB.out)⟩
           ·rw [if_neg c12] at H
            have c12b0 : (((rd_T71 l0 x5_1).f6) == (wrap64 ((wrap64 ((wrap64 ((wrap64 ((wrap64 ((wrap64 (x1_1 + 1)) + 1)) + 1)) + 1)) + 1)) + 1))) = false:=beq_eq_false_iff_ne.mpr c12
            have c12b1 : (((rd_T71 l0 x5_1).f6) != (wrap64 ((wrap64 ((wrap64 ((wrap64 ((wrap64 ((wrap64 (x1_1 + 1)) + 1)) + 1)) + 1)) + 1)) + 1))) = true:=bne_iff_ne.mpr c12
            obtain rfl:=Option.some.inj H
            have p872 : 0 ≤ (x5_1 : Int):=of_decide_eq_true (by first|(with_reducible assumption) | assumption)
            have q872 : x5_1 < (l0.length : Int):=of_decide_eq_true (by first|(with_reducible assumption) | assumption)
            obtain ⟨ad872,e872,hx872_0,hx872_1,hx872_2,hx872_3,hx872_4,hx872_5,hx872_6,hx872_7,hx872_8⟩:=at_T71 HR0.out x5_1 p872 q872
            cases e872
            replace hx872_0:=bXc HB.out hx872_0
            replace hx872_1:=bXc HB.out hx872_1
            replace hx872_2:=bXc HB.out hx872_2
            replace hx872_3:=bXc HB.out hx872_3
            replace hx872_4:=bXc HB.out hx872_4
            replace hx872_5:=bXc HB.out hx872_5
            replace hx872_6:=bXc HB.out hx872_6
            replace hx872_7:=bXc HB.out hx872_7
            replace hx872_8:=bXc HB.out hx872_8
            replace p872:=eq_true p872
            replace q872:=eq_true q872
            try go_wp2
            have n0_:=aMk (bw1 HB.out)
            clear HB
            have HB:=n0_
            clear n0_
            have p873 : 0 ≤ (x5_1 : Int):=of_decide_eq_true (by first|(with_reducible assumption) | assumption)
            have q873 : x5_1 < (l0.length : Int):=of_decide_eq_true (by first|(with_reducible assumption) | assumption)
            obtain ⟨ad873,e873,hx873_0,hx873_1,hx873_2,hx873_3,hx873_4,hx873_5,hx873_6,hx873_7,hx873_8⟩:=at_T71 HR0.out x5_1 p873 q873
            have hw873_8:=hx873_8
            have hw873_7:=hx873_7
            have hw873_6:=hx873_6
            have hw873_5:=hx873_5
            have hw873_4:=hx873_4
            have hw873_3:=hx873_3
            have hw873_2:=hx873_2
            have hw873_1:=hx873_1
            have hw873_0:=hx873_0
            obtain rfl : ad872 = ad873:=(by injection e873)
            replace hx873_0:=bXc HB.out hx873_0
            replace hx873_1:=bXc HB.out hx873_1
            replace hx873_2:=bXc HB.out hx873_2
            replace hx873_3:=bXc HB.out hx873_3
            replace hx873_4:=bXc HB.out hx873_4
            replace hx873_5:=bXc HB.out hx873_5
            replace hx873_6:=bXc HB.out hx873_6
            replace hx873_7:=bXc HB.out hx873_7
            replace hx873_8:=bXc HB.out hx873_8
            replace p873:=eq_true p873
            replace q873:=eq_true q873
            refine start_ (n:=8) (S:=fun w' => w'.cell? (ad872.add ((x5_1).toNat * 9)) = some (.int .i64 ((rd_T71 l0 x5_1).f0)) ∧ w'.cell? ⟨(ad872.add ((x5_1).toNat * 9)).block,(ad872.add ((x5_1).toNat * 9)).off + 1,none⟩ = some (.string ((rd_T71 l0 x5_1).f1)) ∧ w'.cell? ⟨(ad872.add ((x5_1).toNat * 9)).block,(ad872.add ((x5_1).toNat * 9)).off + 2,none⟩ = some (.int .i64 ((rd_T71 l0 x5_1).f2)) ∧ w'.cell? ⟨(ad872.add ((x5_1).toNat * 9)).block,(ad872.add ((x5_1).toNat * 9)).off + 3,none⟩ = some (.int .i64 ((rd_T71 l0 x5_1).f3)) ∧ w'.cell? ⟨(ad872.add ((x5_1).toNat * 9)).block,(ad872.add ((x5_1).toNat * 9)).off + 4,none⟩ = some (.int .i64 ((rd_T71 l0 x5_1).f4)) ∧ w'.cell? ⟨(ad872.add ((x5_1).toNat * 9)).block,(ad872.add ((x5_1).toNat * 9)).off + 5,none⟩ = some (.int .i64 ((rd_T71 l0 x5_1).f5)) ∧ w'.cell? ⟨(ad872.add ((x5_1).toNat * 9)).block,(ad872.add ((x5_1).toNat * 9)).off + 6,none⟩ = some (.int .i64 ((rd_T71 l0 x5_1).f6)) ∧ w'.cell? ⟨(ad872.add ((x5_1).toNat * 9)).block,(ad872.add ((x5_1).toNat * 9)).off + 7,none⟩ = some (.int .i64 ((rd_T71 l0 x5_1).f7)) ∧ w'.cell? ⟨(ad872.add ((x5_1).toNat * 9)).block,(ad872.add ((x5_1).toNat * 9)).off + 8,none⟩ = some (.int .i64 ((rd_T71 l0 x5_1).f8))) (ds:=[]) #[false,false,false,false,false,false,false,false] (by kernel_rfl) rfl rfl ⟨((HB.out.cell (wLt w _ hw873_0)).trans hw873_0),((HB.out.cell (wLt w _ hw873_1)).trans hw873_1),((HB.out.cell (wLt w _ hw873_2)).trans hw873_2),((HB.out.cell (wLt w _ hw873_3)).trans hw873_3),((HB.out.cell (wLt w _ hw873_4)).trans hw873_4),((HB.out.cell (wLt w _ hw873_5)).trans hw873_5),((HB.out.cell (wLt w _ hw873_6)).trans hw873_6),((HB.out.cell (wLt w _ hw873_7)).trans hw873_7),((HB.out.cell (wLt w _ hw873_8)).trans hw873_8)⟩ (fun hHeld => ?_);refine with_tabW laws_heldFlowS.tab7 laws_heldFlowS.bits7 (fun HT_ HW_ => ?_)
            generalize wr.drew = w21 at HB hx873_0 hx873_1 hx873_2 hx873_3 hx873_4 hx873_5 hx873_6 hx873_7 hx873_8 hHeld ⊢
            refine pure_ (i:=0) (N:=some 21) (v:=?_) (a':=?_) #[true,false,false,false,false,false,false,false] rfl rfl (any_of HT_.out (by kernel_rfl)) (fun _ _ _ h => h) (Or.inl ⟨by rfl,?_⟩) ?_ ?_
            rotate_left
            ·intro w'
             go_simp
             with_reducible rfl
            rotate_left
            ·simp only [Act.put,List.setIfInBounds_toArray,List.set_cons_zero,List.set_cons_succ,i64_w,i32_w]
             rfl
            refine pure_ (i:=1) (N:=some 22) (v:=?_) (a':=?_) #[true,true,false,false,false,false,false,false] rfl rfl (any_of HT_.out (by kernel_rfl)) (fun _ _ _ h => h) (Or.inl ⟨by rfl,?_⟩) ?_ ?_
            rotate_left
            ·intro w'
             go_simp
             with_reducible rfl
            rotate_left
            ·simp only [Act.put,List.setIfInBounds_toArray,List.set_cons_zero,List.set_cons_succ,i64_w,i32_w]
             rfl
            refine pure_ (i:=2) (N:=some 23) (v:=?_) (a':=?_) #[true,true,true,false,false,false,false,false] rfl rfl (any_of HT_.out (by kernel_rfl)) (fun _ _ _ h => h) (Or.inl ⟨by rfl,?_⟩) ?_ ?_
            rotate_left
            ·intro w'
             go_simp
             with_reducible rfl
            rotate_left
            ·simp only [Act.put,List.setIfInBounds_toArray,List.set_cons_zero,List.set_cons_succ,i64_w,i32_w]
             rfl
            refine pure_ (i:=3) (N:=some 24) (v:=?_) (a':=?_) #[true,true,true,true,false,false,false,false] rfl rfl (any_of HT_.out (by kernel_rfl)) (fun _ _ _ h => h) (Or.inl ⟨by rfl,?_⟩) ?_ ?_
            rotate_left
            ·intro w'
             go_simp
             with_reducible rfl
            rotate_left
            ·simp only [Act.put,List.setIfInBounds_toArray,List.set_cons_zero,List.set_cons_succ,i64_w,i32_w]
             rfl
            refine pure_ (i:=5) (N:=some 26) (v:=?_) (a':=?_) #[true,true,true,true,false,true,false,false] rfl rfl (any_of HT_.out (by kernel_rfl)) (fun _ _ _ h => h) (Or.inl ⟨by rfl,?_⟩) ?_ ?_
            rotate_left
            ·intro w'
             go_simp
             with_reducible rfl
            rotate_left
            ·simp only [Act.put,List.setIfInBounds_toArray,List.set_cons_zero,List.set_cons_succ,i64_w,i32_w]
             rfl
            refine take_ (i:=4) (N:=some 25) (v:=?_) (a':=?_) #[true,true,true,true,true,true,false,false] rfl rfl (take_ofW HT_.out HW_.out (by kernel_rfl)) (fun _ _ _ h => h) (Or.inl ⟨by rfl,?_⟩) hHeld ?_ ?_
            rotate_left
            ·rintro w' ⟨s0,s1,s2,s3,s4,s5,s6,s7,s8⟩
             go_simp
             with_reducible rfl
            rotate_left
            ·simp only [Act.put,List.setIfInBounds_toArray,List.set_cons_zero,List.set_cons_succ,i64_w,i32_w]
             rfl
            refine one_ (i:=6) (N:=some 27) #[true,true,true,true,true,true,true,false] rfl rfl (one_of HT_.out (by kernel_rfl)) (by decide) (fun K hK => ?_)
            refine goes_ Try.func89 (by kernel_rfl) rfl #[.int .i64 (wrap64 (x1_1 + 1))] (by rfl) rfl rfl (by (try simp only [List.map_toArray,List.map_cons,List.map_nil]);first | done | rfl|(simp only [List.length_drop,List.length_take];rfl)) ?_
            with_reducible refine (laws_markText.calls k1 (wrap64 (x1_1 + 1)) t874 _ A6.out).mono ?_
            rintro e w22 ⟨rfl,hb⟩
            refine ⟨_,rfl,?_⟩
            have n0_:=aMk (bSt hb)
            clear HB
            have HB:=n0_
            clear n0_
            (try clear hb)
            (try clear hb2)
            (try clear hk)
            (try clear hi)
            refine hK.out _ _ ⟨((HB.out.cell (wLt w _ hw873_0)).trans hw873_0),((HB.out.cell (wLt w _ hw873_1)).trans hw873_1),((HB.out.cell (wLt w _ hw873_2)).trans hw873_2),((HB.out.cell (wLt w _ hw873_3)).trans hw873_3),((HB.out.cell (wLt w _ hw873_4)).trans hw873_4),((HB.out.cell (wLt w _ hw873_5)).trans hw873_5),((HB.out.cell (wLt w _ hw873_6)).trans hw873_6),((HB.out.cell (wLt w _ hw873_7)).trans hw873_7),((HB.out.cell (wLt w _ hw873_8)).trans hw873_8)⟩ (fun hHeld => ?_)
            clear hK K
            refine norm_ (a':=?_) ?_ ?_
            rotate_left
            ·show Act.put _ (some 27) _ = _
             simp only [Act.put,List.setIfInBounds_toArray,List.set_cons_zero,List.set_cons_succ,i64_w,i32_w]
             rfl
            refine pure_ (i:=7) (N:=some 28) (v:=?_) (a':=?_) #[true,true,true,true,true,true,true,true] rfl rfl (any_of HT_.out (by kernel_rfl)) (fun _ _ _ h => h) (Or.inl ⟨by rfl,?_⟩) ?_ ?_
            rotate_left
            ·intro w'
             go_simp
             with_reducible rfl
            rotate_left
            ·simp only [Act.put,List.setIfInBounds_toArray,List.set_cons_zero,List.set_cons_succ,i64_w,i32_w]
             rfl
            refine done_ (done_of HT_.out (by kernel_rfl)) ?_
            have p875 : 0 ≤ (x5_1 : Int):=of_decide_eq_true (by first|(with_reducible assumption) | assumption)
            have q875 : x5_1 < (l0.length : Int):=of_decide_eq_true (by first|(with_reducible assumption) | assumption)
            obtain ⟨ad875,e875,hx875_0,hx875_1,hx875_2,hx875_3,hx875_4,hx875_5,hx875_6,hx875_7,hx875_8⟩:=at_T71 HR0.out x5_1 p875 q875
            obtain rfl : ad872 = ad875:=(by injection e875)
            replace hx875_0:=bXc HB.out hx875_0
            replace hx875_1:=bXc HB.out hx875_1
            replace hx875_2:=bXc HB.out hx875_2
            replace hx875_3:=bXc HB.out hx875_3
            replace hx875_4:=bXc HB.out hx875_4
            replace hx875_5:=bXc HB.out hx875_5
            replace hx875_6:=bXc HB.out hx875_6
            replace hx875_7:=bXc HB.out hx875_7
            replace hx875_8:=bXc HB.out hx875_8
            replace p875:=eq_true p875
            replace q875:=eq_true q875
            have p876 : 0 ≤ (x5_1 : Int):=of_decide_eq_true (by first|(with_reducible assumption) | assumption)
            have q876 : x5_1 < (l0.length : Int):=of_decide_eq_true (by first|(with_reducible assumption) | assumption)
            obtain ⟨ad876,e876,hx876_0,hx876_1,hx876_2,hx876_3,hx876_4,hx876_5,hx876_6,hx876_7,hx876_8⟩:=at_T71 HR0.out x5_1 p876 q876
            obtain rfl : ad872 = ad876:=(by injection e876)
            replace hx876_0:=bXc HB.out hx876_0
            replace hx876_1:=bXc HB.out hx876_1
            replace hx876_2:=bXc HB.out hx876_2
            replace hx876_3:=bXc HB.out hx876_3
            replace hx876_4:=bXc HB.out hx876_4
            replace hx876_5:=bXc HB.out hx876_5
            replace hx876_6:=bXc HB.out hx876_6
            replace hx876_7:=bXc HB.out hx876_7
            replace hx876_8:=bXc HB.out hx876_8
            replace p876:=eq_true p876
            replace q876:=eq_true q876
            have p877 : 0 ≤ (x5_1 : Int):=of_decide_eq_true (by first|(with_reducible assumption) | assumption)
            have q877 : x5_1 < (l0.length : Int):=of_decide_eq_true (by first|(with_reducible assumption) | assumption)
            obtain ⟨ad877,e877,hx877_0,hx877_1,hx877_2,hx877_3,hx877_4,hx877_5,hx877_6,hx877_7,hx877_8⟩:=at_T71 HR0.out x5_1 p877 q877
            obtain rfl : ad872 = ad877:=(by injection e877)
            replace hx877_0:=bXc HB.out hx877_0
            replace hx877_1:=bXc HB.out hx877_1
            replace hx877_2:=bXc HB.out hx877_2
            replace hx877_3:=bXc HB.out hx877_3
            replace hx877_4:=bXc HB.out hx877_4
            replace hx877_5:=bXc HB.out hx877_5
            replace hx877_6:=bXc HB.out hx877_6
            replace hx877_7:=bXc HB.out hx877_7
            replace hx877_8:=bXc HB.out hx877_8
            replace p877:=eq_true p877
            replace q877:=eq_true q877
            have p878 : 0 ≤ (x5_1 : Int):=of_decide_eq_true (by first|(with_reducible assumption) | assumption)
            have q878 : x5_1 < (l0.length : Int):=of_decide_eq_true (by first|(with_reducible assumption) | assumption)
            obtain ⟨ad878,e878,hx878_0,hx878_1,hx878_2,hx878_3,hx878_4,hx878_5,hx878_6,hx878_7,hx878_8⟩:=at_T71 HR0.out x5_1 p878 q878
            obtain rfl : ad872 = ad878:=(by injection e878)
            replace hx878_0:=bXc HB.out hx878_0
            replace hx878_1:=bXc HB.out hx878_1
            replace hx878_2:=bXc HB.out hx878_2
            replace hx878_3:=bXc HB.out hx878_3
            replace hx878_4:=bXc HB.out hx878_4
            replace hx878_5:=bXc HB.out hx878_5
            replace hx878_6:=bXc HB.out hx878_6
            replace hx878_7:=bXc HB.out hx878_7
            replace hx878_8:=bXc HB.out hx878_8
            replace p878:=eq_true p878
            replace q878:=eq_true q878
            have p879 : 0 ≤ (x5_1 : Int):=of_decide_eq_true (by first|(with_reducible assumption) | assumption)
            have q879 : x5_1 < (l0.length : Int):=of_decide_eq_true (by first|(with_reducible assumption) | assumption)
            obtain ⟨ad879,e879,hx879_0,hx879_1,hx879_2,hx879_3,hx879_4,hx879_5,hx879_6,hx879_7,hx879_8⟩:=at_T71 HR0.out x5_1 p879 q879
            obtain rfl : ad872 = ad879:=(by injection e879)
            replace hx879_0:=bXc HB.out hx879_0
            replace hx879_1:=bXc HB.out hx879_1
            replace hx879_2:=bXc HB.out hx879_2
            replace hx879_3:=bXc HB.out hx879_3
            replace hx879_4:=bXc HB.out hx879_4
            replace hx879_5:=bXc HB.out hx879_5
            replace hx879_6:=bXc HB.out hx879_6
            replace hx879_7:=bXc HB.out hx879_7
            replace hx879_8:=bXc HB.out hx879_8
            replace p879:=eq_true p879
            replace q879:=eq_true q879
            try go_wp2
            go_ret
            exact ⟨eRf,by repeat (first|(with_reducible first|exact HB.out|apply bwA|apply bwN|apply bw1)|exact HB.out)⟩
          ·rw [if_neg c11] at H
           have c11b0 : (((rd_T71 l0 x5_1).f5) == (wrap64 ((wrap64 ((wrap64 ((wrap64 ((wrap64 (x1_1 + 1)) + 1)) + 1)) + 1)) + 1))) = false:=beq_eq_false_iff_ne.mpr c11
           have c11b1 : (((rd_T71 l0 x5_1).f5) != (wrap64 ((wrap64 ((wrap64 ((wrap64 ((wrap64 (x1_1 + 1)) + 1)) + 1)) + 1)) + 1))) = true:=bne_iff_ne.mpr c11
           obtain rfl:=Option.some.inj H
           have p872 : 0 ≤ (x5_1 : Int):=of_decide_eq_true (by first|(with_reducible assumption) | assumption)
           have q872 : x5_1 < (l0.length : Int):=of_decide_eq_true (by first|(with_reducible assumption) | assumption)
           obtain ⟨ad872,e872,hx872_0,hx872_1,hx872_2,hx872_3,hx872_4,hx872_5,hx872_6,hx872_7,hx872_8⟩:=at_T71 HR0.out x5_1 p872 q872
           cases e872
           replace hx872_0:=bXc HB.out hx872_0
           replace hx872_1:=bXc HB.out hx872_1
           replace hx872_2:=bXc HB.out hx872_2
           replace hx872_3:=bXc HB.out hx872_3
           replace hx872_4:=bXc HB.out hx872_4
           replace hx872_5:=bXc HB.out hx872_5
           replace hx872_6:=bXc HB.out hx872_6
           replace hx872_7:=bXc HB.out hx872_7
           replace hx872_8:=bXc HB.out hx872_8
           replace p872:=eq_true p872
           replace q872:=eq_true q872
           try go_wp2
           have n0_:=aMk (bw1 HB.out)
           clear HB
           have HB:=n0_
           clear n0_
           have p873 : 0 ≤ (x5_1 : Int):=of_decide_eq_true (by first|(with_reducible assumption) | assumption)
           have q873 : x5_1 < (l0.length : Int):=of_decide_eq_true (by first|(with_reducible assumption) | assumption)
           obtain ⟨ad873,e873,hx873_0,hx873_1,hx873_2,hx873_3,hx873_4,hx873_5,hx873_6,hx873_7,hx873_8⟩:=at_T71 HR0.out x5_1 p873 q873
           have hw873_8:=hx873_8
           have hw873_7:=hx873_7
           have hw873_6:=hx873_6
           have hw873_5:=hx873_5
           have hw873_4:=hx873_4
           have hw873_3:=hx873_3
           have hw873_2:=hx873_2
           have hw873_1:=hx873_1
           have hw873_0:=hx873_0
           obtain rfl : ad872 = ad873:=(by injection e873)
           replace hx873_0:=bXc HB.out hx873_0
           replace hx873_1:=bXc HB.out hx873_1
           replace hx873_2:=bXc HB.out hx873_2
           replace hx873_3:=bXc HB.out hx873_3
           replace hx873_4:=bXc HB.out hx873_4
           replace hx873_5:=bXc HB.out hx873_5
           replace hx873_6:=bXc HB.out hx873_6
           replace hx873_7:=bXc HB.out hx873_7
           replace hx873_8:=bXc HB.out hx873_8
           replace p873:=eq_true p873
           replace q873:=eq_true q873
           refine start_ (n:=8) (S:=fun w' => w'.cell? (ad872.add ((x5_1).toNat * 9)) = some (.int .i64 ((rd_T71 l0 x5_1).f0)) ∧ w'.cell? ⟨(ad872.add ((x5_1).toNat * 9)).block,(ad872.add ((x5_1).toNat * 9)).off + 1,none⟩ = some (.string ((rd_T71 l0 x5_1).f1)) ∧ w'.cell? ⟨(ad872.add ((x5_1).toNat * 9)).block,(ad872.add ((x5_1).toNat * 9)).off + 2,none⟩ = some (.int .i64 ((rd_T71 l0 x5_1).f2)) ∧ w'.cell? ⟨(ad872.add ((x5_1).toNat * 9)).block,(ad872.add ((x5_1).toNat * 9)).off + 3,none⟩ = some (.int .i64 ((rd_T71 l0 x5_1).f3)) ∧ w'.cell? ⟨(ad872.add ((x5_1).toNat * 9)).block,(ad872.add ((x5_1).toNat * 9)).off + 4,none⟩ = some (.int .i64 ((rd_T71 l0 x5_1).f4)) ∧ w'.cell? ⟨(ad872.add ((x5_1).toNat * 9)).block,(ad872.add ((x5_1).toNat * 9)).off + 5,none⟩ = some (.int .i64 ((rd_T71 l0 x5_1).f5)) ∧ w'.cell? ⟨(ad872.add ((x5_1).toNat * 9)).block,(ad872.add ((x5_1).toNat * 9)).off + 6,none⟩ = some (.int .i64 ((rd_T71 l0 x5_1).f6)) ∧ w'.cell? ⟨(ad872.add ((x5_1).toNat * 9)).block,(ad872.add ((x5_1).toNat * 9)).off + 7,none⟩ = some (.int .i64 ((rd_T71 l0 x5_1).f7)) ∧ w'.cell? ⟨(ad872.add ((x5_1).toNat * 9)).block,(ad872.add ((x5_1).toNat * 9)).off + 8,none⟩ = some (.int .i64 ((rd_T71 l0 x5_1).f8))) (ds:=[]) #[false,false,false,false,false,false,false,false] (by kernel_rfl) rfl rfl ⟨((HB.out.cell (wLt w _ hw873_0)).trans hw873_0),((HB.out.cell (wLt w _ hw873_1)).trans hw873_1),((HB.out.cell (wLt w _ hw873_2)).trans hw873_2),((HB.out.cell (wLt w _ hw873_3)).trans hw873_3),((HB.out.cell (wLt w _ hw873_4)).trans hw873_4),((HB.out.cell (wLt w _ hw873_5)).trans hw873_5),((HB.out.cell (wLt w _ hw873_6)).trans hw873_6),((HB.out.cell (wLt w _ hw873_7)).trans hw873_7),((HB.out.cell (wLt w _ hw873_8)).trans hw873_8)⟩ (fun hHeld => ?_);refine with_tabW laws_heldFlowS.tab7 laws_heldFlowS.bits7 (fun HT_ HW_ => ?_)
           generalize wr.drew = w23 at HB hx873_0 hx873_1 hx873_2 hx873_3 hx873_4 hx873_5 hx873_6 hx873_7 hx873_8 hHeld ⊢
           refine pure_ (i:=0) (N:=some 21) (v:=?_) (a':=?_) #[true,false,false,false,false,false,false,false] rfl rfl (any_of HT_.out (by kernel_rfl)) (fun _ _ _ h => h) (Or.inl ⟨by rfl,?_⟩) ?_ ?_
           rotate_left
           ·intro w'
            go_simp
            with_reducible rfl
           rotate_left
           ·simp only [Act.put,List.setIfInBounds_toArray,List.set_cons_zero,List.set_cons_succ,i64_w,i32_w]
            rfl
           refine pure_ (i:=1) (N:=some 22) (v:=?_) (a':=?_) #[true,true,false,false,false,false,false,false] rfl rfl (any_of HT_.out (by kernel_rfl)) (fun _ _ _ h => h) (Or.inl ⟨by rfl,?_⟩) ?_ ?_
           rotate_left
           ·intro w'
            go_simp
            with_reducible rfl
           rotate_left
           ·simp only [Act.put,List.setIfInBounds_toArray,List.set_cons_zero,List.set_cons_succ,i64_w,i32_w]
            rfl
           refine pure_ (i:=2) (N:=some 23) (v:=?_) (a':=?_) #[true,true,true,false,false,false,false,false] rfl rfl (any_of HT_.out (by kernel_rfl)) (fun _ _ _ h => h) (Or.inl ⟨by rfl,?_⟩) ?_ ?_
           rotate_left
           ·intro w'
            go_simp
            with_reducible rfl
           rotate_left
           ·simp only [Act.put,List.setIfInBounds_toArray,List.set_cons_zero,List.set_cons_succ,i64_w,i32_w]
            rfl
           refine pure_ (i:=3) (N:=some 24) (v:=?_) (a':=?_) #[true,true,true,true,false,false,false,false] rfl rfl (any_of HT_.out (by kernel_rfl)) (fun _ _ _ h => h) (Or.inl ⟨by rfl,?_⟩) ?_ ?_
           rotate_left
           ·intro w'
            go_simp
            with_reducible rfl
           rotate_left
           ·simp only [Act.put,List.setIfInBounds_toArray,List.set_cons_zero,List.set_cons_succ,i64_w,i32_w]
            rfl
           refine pure_ (i:=5) (N:=some 26) (v:=?_) (a':=?_) #[true,true,true,true,false,true,false,false] rfl rfl (any_of HT_.out (by kernel_rfl)) (fun _ _ _ h => h) (Or.inl ⟨by rfl,?_⟩) ?_ ?_
           rotate_left
           ·intro w'
            go_simp
            with_reducible rfl
           rotate_left
           ·simp only [Act.put,List.setIfInBounds_toArray,List.set_cons_zero,List.set_cons_succ,i64_w,i32_w]
            rfl
           refine take_ (i:=4) (N:=some 25) (v:=?_) (a':=?_) #[true,true,true,true,true,true,false,false] rfl rfl (take_ofW HT_.out HW_.out (by kernel_rfl)) (fun _ _ _ h => h) (Or.inl ⟨by rfl,?_⟩) hHeld ?_ ?_
           rotate_left
           ·rintro w' ⟨s0,s1,s2,s3,s4,s5,s6,s7,s8⟩
            go_simp
            with_reducible rfl
           rotate_left
           ·simp only [Act.put,List.setIfInBounds_toArray,List.set_cons_zero,List.set_cons_succ,i64_w,i32_w]
            rfl
           refine one_ (i:=6) (N:=some 27) #[true,true,true,true,true,true,true,false] rfl rfl (one_of HT_.out (by kernel_rfl)) (by decide) (fun K hK => ?_)
           refine goes_ Try.func89 (by kernel_rfl) rfl #[.int .i64 (wrap64 (x1_1 + 1))] (by rfl) rfl rfl (by (try simp only [List.map_toArray,List.map_cons,List.map_nil]);first | done | rfl|(simp only [List.length_drop,List.length_take];rfl)) ?_
           with_reducible refine (laws_markText.calls k1 (wrap64 (x1_1 + 1)) t874 _ A6.out).mono ?_
           rintro e w24 ⟨rfl,hb⟩
           refine ⟨_,rfl,?_⟩
           have n0_:=aMk (bSt hb)
           clear HB
           have HB:=n0_
           clear n0_
           (try clear hb)
           (try clear hb2)
           (try clear hk)
           (try clear hi)
           refine hK.out _ _ ⟨((HB.out.cell (wLt w _ hw873_0)).trans hw873_0),((HB.out.cell (wLt w _ hw873_1)).trans hw873_1),((HB.out.cell (wLt w _ hw873_2)).trans hw873_2),((HB.out.cell (wLt w _ hw873_3)).trans hw873_3),((HB.out.cell (wLt w _ hw873_4)).trans hw873_4),((HB.out.cell (wLt w _ hw873_5)).trans hw873_5),((HB.out.cell (wLt w _ hw873_6)).trans hw873_6),((HB.out.cell (wLt w _ hw873_7)).trans hw873_7),((HB.out.cell (wLt w _ hw873_8)).trans hw873_8)⟩ (fun hHeld => ?_)
           clear hK K
           refine norm_ (a':=?_) ?_ ?_
           rotate_left
           ·show Act.put _ (some 27) _ = _
            simp only [Act.put,List.setIfInBounds_toArray,List.set_cons_zero,List.set_cons_succ,i64_w,i32_w]
            rfl
           refine pure_ (i:=7) (N:=some 28) (v:=?_) (a':=?_) #[true,true,true,true,true,true,true,true] rfl rfl (any_of HT_.out (by kernel_rfl)) (fun _ _ _ h => h) (Or.inl ⟨by rfl,?_⟩) ?_ ?_
           rotate_left
           ·intro w'
            go_simp
            with_reducible rfl
           rotate_left
           ·simp only [Act.put,List.setIfInBounds_toArray,List.set_cons_zero,List.set_cons_succ,i64_w,i32_w]
            rfl
           refine done_ (done_of HT_.out (by kernel_rfl)) ?_
           have p875 : 0 ≤ (x5_1 : Int):=of_decide_eq_true (by first|(with_reducible assumption) | assumption)
           have q875 : x5_1 < (l0.length : Int):=of_decide_eq_true (by first|(with_reducible assumption) | assumption)
           obtain ⟨ad875,e875,hx875_0,hx875_1,hx875_2,hx875_3,hx875_4,hx875_5,hx875_6,hx875_7,hx875_8⟩:=at_T71 HR0.out x5_1 p875 q875
           obtain rfl : ad872 = ad875:=(by injection e875)
           replace hx875_0:=bXc HB.out hx875_0
           replace hx875_1:=bXc HB.out hx875_1
           replace hx875_2:=bXc HB.out hx875_2
           replace hx875_3:=bXc HB.out hx875_3
           replace hx875_4:=bXc HB.out hx875_4
           replace hx875_5:=bXc HB.out hx875_5
           replace hx875_6:=bXc HB.out hx875_6
           replace hx875_7:=bXc HB.out hx875_7
           replace hx875_8:=bXc HB.out hx875_8
           replace p875:=eq_true p875
           replace q875:=eq_true q875
           have p876 : 0 ≤ (x5_1 : Int):=of_decide_eq_true (by first|(with_reducible assumption) | assumption)
           have q876 : x5_1 < (l0.length : Int):=of_decide_eq_true (by first|(with_reducible assumption) | assumption)
           obtain ⟨ad876,e876,hx876_0,hx876_1,hx876_2,hx876_3,hx876_4,hx876_5,hx876_6,hx876_7,hx876_8⟩:=at_T71 HR0.out x5_1 p876 q876
           obtain rfl : ad872 = ad876:=(by injection e876)
           replace hx876_0:=bXc HB.out hx876_0
           replace hx876_1:=bXc HB.out hx876_1
           replace hx876_2:=bXc HB.out hx876_2
           replace hx876_3:=bXc HB.out hx876_3
           replace hx876_4:=bXc HB.out hx876_4
           replace hx876_5:=bXc HB.out hx876_5
           replace hx876_6:=bXc HB.out hx876_6
           replace hx876_7:=bXc HB.out hx876_7
           replace hx876_8:=bXc HB.out hx876_8
           replace p876:=eq_true p876
           replace q876:=eq_true q876
           have p877 : 0 ≤ (x5_1 : Int):=of_decide_eq_true (by first|(with_reducible assumption) | assumption)
           have q877 : x5_1 < (l0.length : Int):=of_decide_eq_true (by first|(with_reducible assumption) | assumption)
           obtain ⟨ad877,e877,hx877_0,hx877_1,hx877_2,hx877_3,hx877_4,hx877_5,hx877_6,hx877_7,hx877_8⟩:=at_T71 HR0.out x5_1 p877 q877
           obtain rfl : ad872 = ad877:=(by injection e877)
           replace hx877_0:=bXc HB.out hx877_0
           replace hx877_1:=bXc HB.out hx877_1
           replace hx877_2:=bXc HB.out hx877_2
           replace hx877_3:=bXc HB.out hx877_3
           replace hx877_4:=bXc HB.out hx877_4
           replace hx877_5:=bXc HB.out hx877_5
           replace hx877_6:=bXc HB.out hx877_6
           replace hx877_7:=bXc HB.out hx877_7
           replace hx877_8:=bXc HB.out hx877_8
           replace p877:=eq_true p877
           replace q877:=eq_true q877
           have p878 : 0 ≤ (x5_1 : Int):=of_decide_eq_true (by first|(with_reducible assumption) | assumption)
           have q878 : x5_1 < (l0.length : Int):=of_decide_eq_true (by first|(with_reducible assumption) | assumption)
           obtain ⟨ad878,e878,hx878_0,hx878_1,hx878_2,hx878_3,hx878_4,hx878_5,hx878_6,hx878_7,hx878_8⟩:=at_T71 HR0.out x5_1 p878 q878
           obtain rfl : ad872 = ad878:=(by injection e878)
           replace hx878_0:=bXc HB.out hx878_0
           replace hx878_1:=bXc HB.out hx878_1
           replace hx878_2:=bXc HB.out hx878_2
           replace hx878_3:=bXc HB.out hx878_3
           replace hx878_4:=bXc HB.out hx878_4
           replace hx878_5:=bXc HB.out hx878_5
           replace hx878_6:=bXc HB.out hx878_6
           replace hx878_7:=bXc HB.out hx878_7
           replace hx878_8:=bXc HB.out hx878_8
           replace p878:=eq_true p878
           replace q878:=eq_true q878
           try go_wp2
           go_ret
           exact ⟨eRf,by repeat (first|(with_reducible first|exact HB.out|apply bwA|apply bwN|apply bw1)|exact HB.out)⟩
         ·rw [if_neg c10] at H
          have c10b0 : (((rd_T71 l0 x5_1).f4) == (wrap64 ((wrap64 ((wrap64 ((wrap64 (x1_1 + 1)) + 1)) + 1)) + 1))) = false:=beq_eq_false_iff_ne.mpr c10
          have c10b1 : (((rd_T71 l0 x5_1).f4) != (wrap64 ((wrap64 ((wrap64 ((wrap64 (x1_1 + 1)) + 1)) + 1)) + 1))) = true:=bne_iff_ne.mpr c10
          obtain rfl:=Option.some.inj H
          have p872 : 0 ≤ (x5_1 : Int):=of_decide_eq_true (by first|(with_reducible assumption) | assumption)
          have q872 : x5_1 < (l0.length : Int):=of_decide_eq_true (by first|(with_reducible assumption) | assumption)
          obtain ⟨ad872,e872,hx872_0,hx872_1,hx872_2,hx872_3,hx872_4,hx872_5,hx872_6,hx872_7,hx872_8⟩:=at_T71 HR0.out x5_1 p872 q872
          cases e872
          replace hx872_0:=bXc HB.out hx872_0
          replace hx872_1:=bXc HB.out hx872_1
          replace hx872_2:=bXc HB.out hx872_2
          replace hx872_3:=bXc HB.out hx872_3
          replace hx872_4:=bXc HB.out hx872_4
          replace hx872_5:=bXc HB.out hx872_5
          replace hx872_6:=bXc HB.out hx872_6
          replace hx872_7:=bXc HB.out hx872_7
          replace hx872_8:=bXc HB.out hx872_8
          replace p872:=eq_true p872
          replace q872:=eq_true q872
          try go_wp2
          have n0_:=aMk (bw1 HB.out)
          clear HB
          have HB:=n0_
          clear n0_
          have p873 : 0 ≤ (x5_1 : Int):=of_decide_eq_true (by first|(with_reducible assumption) | assumption)
          have q873 : x5_1 < (l0.length : Int):=of_decide_eq_true (by first|(with_reducible assumption) | assumption)
          obtain ⟨ad873,e873,hx873_0,hx873_1,hx873_2,hx873_3,hx873_4,hx873_5,hx873_6,hx873_7,hx873_8⟩:=at_T71 HR0.out x5_1 p873 q873
          have hw873_8:=hx873_8
          have hw873_7:=hx873_7
          have hw873_6:=hx873_6
          have hw873_5:=hx873_5
          have hw873_4:=hx873_4
          have hw873_3:=hx873_3
          have hw873_2:=hx873_2
          have hw873_1:=hx873_1
          have hw873_0:=hx873_0
          obtain rfl : ad872 = ad873:=(by injection e873)
          replace hx873_0:=bXc HB.out hx873_0
          replace hx873_1:=bXc HB.out hx873_1
          replace hx873_2:=bXc HB.out hx873_2
          replace hx873_3:=bXc HB.out hx873_3
          replace hx873_4:=bXc HB.out hx873_4
          replace hx873_5:=bXc HB.out hx873_5
          replace hx873_6:=bXc HB.out hx873_6
          replace hx873_7:=bXc HB.out hx873_7
          replace hx873_8:=bXc HB.out hx873_8
          replace p873:=eq_true p873
          replace q873:=eq_true q873
          refine start_ (n:=8) (S:=fun w' => w'.cell? (ad872.add ((x5_1).toNat * 9)) = some (.int .i64 ((rd_T71 l0 x5_1).f0)) ∧ w'.cell? ⟨(ad872.add ((x5_1).toNat * 9)).block,(ad872.add ((x5_1).toNat * 9)).off + 1,none⟩ = some (.string ((rd_T71 l0 x5_1).f1)) ∧ w'.cell? ⟨(ad872.add ((x5_1).toNat * 9)).block,(ad872.add ((x5_1).toNat * 9)).off + 2,none⟩ = some (.int .i64 ((rd_T71 l0 x5_1).f2)) ∧ w'.cell? ⟨(ad872.add ((x5_1).toNat * 9)).block,(ad872.add ((x5_1).toNat * 9)).off + 3,none⟩ = some (.int .i64 ((rd_T71 l0 x5_1).f3)) ∧ w'.cell? ⟨(ad872.add ((x5_1).toNat * 9)).block,(ad872.add ((x5_1).toNat * 9)).off + 4,none⟩ = some (.int .i64 ((rd_T71 l0 x5_1).f4)) ∧ w'.cell? ⟨(ad872.add ((x5_1).toNat * 9)).block,(ad872.add ((x5_1).toNat * 9)).off + 5,none⟩ = some (.int .i64 ((rd_T71 l0 x5_1).f5)) ∧ w'.cell? ⟨(ad872.add ((x5_1).toNat * 9)).block,(ad872.add ((x5_1).toNat * 9)).off + 6,none⟩ = some (.int .i64 ((rd_T71 l0 x5_1).f6)) ∧ w'.cell? ⟨(ad872.add ((x5_1).toNat * 9)).block,(ad872.add ((x5_1).toNat * 9)).off + 7,none⟩ = some (.int .i64 ((rd_T71 l0 x5_1).f7)) ∧ w'.cell? ⟨(ad872.add ((x5_1).toNat * 9)).block,(ad872.add ((x5_1).toNat * 9)).off + 8,none⟩ = some (.int .i64 ((rd_T71 l0 x5_1).f8))) (ds:=[]) #[false,false,false,false,false,false,false,false] (by kernel_rfl) rfl rfl ⟨((HB.out.cell (wLt w _ hw873_0)).trans hw873_0),((HB.out.cell (wLt w _ hw873_1)).trans hw873_1),((HB.out.cell (wLt w _ hw873_2)).trans hw873_2),((HB.out.cell (wLt w _ hw873_3)).trans hw873_3),((HB.out.cell (wLt w _ hw873_4)).trans hw873_4),((HB.out.cell (wLt w _ hw873_5)).trans hw873_5),((HB.out.cell (wLt w _ hw873_6)).trans hw873_6),((HB.out.cell (wLt w _ hw873_7)).trans hw873_7),((HB.out.cell (wLt w _ hw873_8)).trans hw873_8)⟩ (fun hHeld => ?_);refine with_tabW laws_heldFlowS.tab7 laws_heldFlowS.bits7 (fun HT_ HW_ => ?_)
          generalize wr.drew = w25 at HB hx873_0 hx873_1 hx873_2 hx873_3 hx873_4 hx873_5 hx873_6 hx873_7 hx873_8 hHeld ⊢
          refine pure_ (i:=0) (N:=some 21) (v:=?_) (a':=?_) #[true,false,false,false,false,false,false,false] rfl rfl (any_of HT_.out (by kernel_rfl)) (fun _ _ _ h => h) (Or.inl ⟨by rfl,?_⟩) ?_ ?_
          rotate_left
          ·intro w'
           go_simp
           with_reducible rfl
          rotate_left
          ·simp only [Act.put,List.setIfInBounds_toArray,List.set_cons_zero,List.set_cons_succ,i64_w,i32_w]
           rfl
          refine pure_ (i:=1) (N:=some 22) (v:=?_) (a':=?_) #[true,true,false,false,false,false,false,false] rfl rfl (any_of HT_.out (by kernel_rfl)) (fun _ _ _ h => h) (Or.inl ⟨by rfl,?_⟩) ?_ ?_
          rotate_left
          ·intro w'
           go_simp
           with_reducible rfl
          rotate_left
          ·simp only [Act.put,List.setIfInBounds_toArray,List.set_cons_zero,List.set_cons_succ,i64_w,i32_w]
           rfl
          refine pure_ (i:=2) (N:=some 23) (v:=?_) (a':=?_) #[true,true,true,false,false,false,false,false] rfl rfl (any_of HT_.out (by kernel_rfl)) (fun _ _ _ h => h) (Or.inl ⟨by rfl,?_⟩) ?_ ?_
          rotate_left
          ·intro w'
           go_simp
           with_reducible rfl
          rotate_left
          ·simp only [Act.put,List.setIfInBounds_toArray,List.set_cons_zero,List.set_cons_succ,i64_w,i32_w]
           rfl
          refine pure_ (i:=3) (N:=some 24) (v:=?_) (a':=?_) #[true,true,true,true,false,false,false,false] rfl rfl (any_of HT_.out (by kernel_rfl)) (fun _ _ _ h => h) (Or.inl ⟨by rfl,?_⟩) ?_ ?_
          rotate_left
          ·intro w'
           go_simp
           with_reducible rfl
          rotate_left
          ·simp only [Act.put,List.setIfInBounds_toArray,List.set_cons_zero,List.set_cons_succ,i64_w,i32_w]
           rfl
          refine pure_ (i:=5) (N:=some 26) (v:=?_) (a':=?_) #[true,true,true,true,false,true,false,false] rfl rfl (any_of HT_.out (by kernel_rfl)) (fun _ _ _ h => h) (Or.inl ⟨by rfl,?_⟩) ?_ ?_
          rotate_left
          ·intro w'
           go_simp
           with_reducible rfl
          rotate_left
          ·simp only [Act.put,List.setIfInBounds_toArray,List.set_cons_zero,List.set_cons_succ,i64_w,i32_w]
           rfl
          refine take_ (i:=4) (N:=some 25) (v:=?_) (a':=?_) #[true,true,true,true,true,true,false,false] rfl rfl (take_ofW HT_.out HW_.out (by kernel_rfl)) (fun _ _ _ h => h) (Or.inl ⟨by rfl,?_⟩) hHeld ?_ ?_
          rotate_left
          ·rintro w' ⟨s0,s1,s2,s3,s4,s5,s6,s7,s8⟩
           go_simp
           with_reducible rfl
          rotate_left
          ·simp only [Act.put,List.setIfInBounds_toArray,List.set_cons_zero,List.set_cons_succ,i64_w,i32_w]
           rfl
          refine one_ (i:=6) (N:=some 27) #[true,true,true,true,true,true,true,false] rfl rfl (one_of HT_.out (by kernel_rfl)) (by decide) (fun K hK => ?_)
          refine goes_ Try.func89 (by kernel_rfl) rfl #[.int .i64 (wrap64 (x1_1 + 1))] (by rfl) rfl rfl (by (try simp only [List.map_toArray,List.map_cons,List.map_nil]);first | done | rfl|(simp only [List.length_drop,List.length_take];rfl)) ?_
          with_reducible refine (laws_markText.calls k1 (wrap64 (x1_1 + 1)) t874 _ A6.out).mono ?_
          rintro e w26 ⟨rfl,hb⟩
          refine ⟨_,rfl,?_⟩
          have n0_:=aMk (bSt hb)
          clear HB
          have HB:=n0_
          clear n0_
          (try clear hb)
          (try clear hb2)
          (try clear hk)
          (try clear hi)
          refine hK.out _ _ ⟨((HB.out.cell (wLt w _ hw873_0)).trans hw873_0),((HB.out.cell (wLt w _ hw873_1)).trans hw873_1),((HB.out.cell (wLt w _ hw873_2)).trans hw873_2),((HB.out.cell (wLt w _ hw873_3)).trans hw873_3),((HB.out.cell (wLt w _ hw873_4)).trans hw873_4),((HB.out.cell (wLt w _ hw873_5)).trans hw873_5),((HB.out.cell (wLt w _ hw873_6)).trans hw873_6),((HB.out.cell (wLt w _ hw873_7)).trans hw873_7),((HB.out.cell (wLt w _ hw873_8)).trans hw873_8)⟩ (fun hHeld => ?_)
          clear hK K
          refine norm_ (a':=?_) ?_ ?_
          rotate_left
          ·show Act.put _ (some 27) _ = _
           simp only [Act.put,List.setIfInBounds_toArray,List.set_cons_zero,List.set_cons_succ,i64_w,i32_w]
           rfl
          refine pure_ (i:=7) (N:=some 28) (v:=?_) (a':=?_) #[true,true,true,true,true,true,true,true] rfl rfl (any_of HT_.out (by kernel_rfl)) (fun _ _ _ h => h) (Or.inl ⟨by rfl,?_⟩) ?_ ?_
          rotate_left
          ·intro w'
           go_simp
           with_reducible rfl
          rotate_left
          ·simp only [Act.put,List.setIfInBounds_toArray,List.set_cons_zero,List.set_cons_succ,i64_w,i32_w]
           rfl
          refine done_ (done_of HT_.out (by kernel_rfl)) ?_
          have p875 : 0 ≤ (x5_1 : Int):=of_decide_eq_true (by first|(with_reducible assumption) | assumption)
          have q875 : x5_1 < (l0.length : Int):=of_decide_eq_true (by first|(with_reducible assumption) | assumption)
          obtain ⟨ad875,e875,hx875_0,hx875_1,hx875_2,hx875_3,hx875_4,hx875_5,hx875_6,hx875_7,hx875_8⟩:=at_T71 HR0.out x5_1 p875 q875
          obtain rfl : ad872 = ad875:=(by injection e875)
          replace hx875_0:=bXc HB.out hx875_0
          replace hx875_1:=bXc HB.out hx875_1
          replace hx875_2:=bXc HB.out hx875_2
          replace hx875_3:=bXc HB.out hx875_3
          replace hx875_4:=bXc HB.out hx875_4
          replace hx875_5:=bXc HB.out hx875_5
          replace hx875_6:=bXc HB.out hx875_6
          replace hx875_7:=bXc HB.out hx875_7
          replace hx875_8:=bXc HB.out hx875_8
          replace p875:=eq_true p875
          replace q875:=eq_true q875
          have p876 : 0 ≤ (x5_1 : Int):=of_decide_eq_true (by first|(with_reducible assumption) | assumption)
          have q876 : x5_1 < (l0.length : Int):=of_decide_eq_true (by first|(with_reducible assumption) | assumption)
          obtain ⟨ad876,e876,hx876_0,hx876_1,hx876_2,hx876_3,hx876_4,hx876_5,hx876_6,hx876_7,hx876_8⟩:=at_T71 HR0.out x5_1 p876 q876
          obtain rfl : ad872 = ad876:=(by injection e876)
          replace hx876_0:=bXc HB.out hx876_0
          replace hx876_1:=bXc HB.out hx876_1
          replace hx876_2:=bXc HB.out hx876_2
          replace hx876_3:=bXc HB.out hx876_3
          replace hx876_4:=bXc HB.out hx876_4
          replace hx876_5:=bXc HB.out hx876_5
          replace hx876_6:=bXc HB.out hx876_6
          replace hx876_7:=bXc HB.out hx876_7
          replace hx876_8:=bXc HB.out hx876_8
          replace p876:=eq_true p876
          replace q876:=eq_true q876
          have p877 : 0 ≤ (x5_1 : Int):=of_decide_eq_true (by first|(with_reducible assumption) | assumption)
          have q877 : x5_1 < (l0.length : Int):=of_decide_eq_true (by first|(with_reducible assumption) | assumption)
          obtain ⟨ad877,e877,hx877_0,hx877_1,hx877_2,hx877_3,hx877_4,hx877_5,hx877_6,hx877_7,hx877_8⟩:=at_T71 HR0.out x5_1 p877 q877
          obtain rfl : ad872 = ad877:=(by injection e877)
          replace hx877_0:=bXc HB.out hx877_0
          replace hx877_1:=bXc HB.out hx877_1
          replace hx877_2:=bXc HB.out hx877_2
          replace hx877_3:=bXc HB.out hx877_3
          replace hx877_4:=bXc HB.out hx877_4
          replace hx877_5:=bXc HB.out hx877_5
          replace hx877_6:=bXc HB.out hx877_6
          replace hx877_7:=bXc HB.out hx877_7
          replace hx877_8:=bXc HB.out hx877_8
          replace p877:=eq_true p877
          replace q877:=eq_true q877
          try go_wp2
          go_ret
          exact ⟨eRf,by repeat (first|(with_reducible first|exact HB.out|apply bwA|apply bwN|apply bw1)|exact HB.out)⟩
        ·rw [if_neg c9] at H
         have c9b0 : (((rd_T71 l0 x5_1).f3) == (wrap64 ((wrap64 ((wrap64 (x1_1 + 1)) + 1)) + 1))) = false:=beq_eq_false_iff_ne.mpr c9
         have c9b1 : (((rd_T71 l0 x5_1).f3) != (wrap64 ((wrap64 ((wrap64 (x1_1 + 1)) + 1)) + 1))) = true:=bne_iff_ne.mpr c9
         obtain rfl:=Option.some.inj H
         have p872 : 0 ≤ (x5_1 : Int):=of_decide_eq_true (by first|(with_reducible assumption) | assumption)
         have q872 : x5_1 < (l0.length : Int):=of_decide_eq_true (by first|(with_reducible assumption) | assumption)
         obtain ⟨ad872,e872,hx872_0,hx872_1,hx872_2,hx872_3,hx872_4,hx872_5,hx872_6,hx872_7,hx872_8⟩:=at_T71 HR0.out x5_1 p872 q872
         cases e872
         replace hx872_0:=bXc HB.out hx872_0
         replace hx872_1:=bXc HB.out hx872_1
         replace hx872_2:=bXc HB.out hx872_2
         replace hx872_3:=bXc HB.out hx872_3
         replace hx872_4:=bXc HB.out hx872_4
         replace hx872_5:=bXc HB.out hx872_5
         replace hx872_6:=bXc HB.out hx872_6
         replace hx872_7:=bXc HB.out hx872_7
         replace hx872_8:=bXc HB.out hx872_8
         replace p872:=eq_true p872
         replace q872:=eq_true q872
         try go_wp2
         have n0_:=aMk (bw1 HB.out)
         clear HB
         have HB:=n0_
         clear n0_
         have p873 : 0 ≤ (x5_1 : Int):=of_decide_eq_true (by first|(with_reducible assumption) | assumption)
         have q873 : x5_1 < (l0.length : Int):=of_decide_eq_true (by first|(with_reducible assumption) | assumption)
         obtain ⟨ad873,e873,hx873_0,hx873_1,hx873_2,hx873_3,hx873_4,hx873_5,hx873_6,hx873_7,hx873_8⟩:=at_T71 HR0.out x5_1 p873 q873
         have hw873_8:=hx873_8
         have hw873_7:=hx873_7
         have hw873_6:=hx873_6
         have hw873_5:=hx873_5
         have hw873_4:=hx873_4
         have hw873_3:=hx873_3
         have hw873_2:=hx873_2
         have hw873_1:=hx873_1
         have hw873_0:=hx873_0
         obtain rfl : ad872 = ad873:=(by injection e873)
         replace hx873_0:=bXc HB.out hx873_0
         replace hx873_1:=bXc HB.out hx873_1
         replace hx873_2:=bXc HB.out hx873_2
         replace hx873_3:=bXc HB.out hx873_3
         replace hx873_4:=bXc HB.out hx873_4
         replace hx873_5:=bXc HB.out hx873_5
         replace hx873_6:=bXc HB.out hx873_6
         replace hx873_7:=bXc HB.out hx873_7
         replace hx873_8:=bXc HB.out hx873_8
         replace p873:=eq_true p873
         replace q873:=eq_true q873
         refine start_ (n:=8) (S:=fun w' => w'.cell? (ad872.add ((x5_1).toNat * 9)) = some (.int .i64 ((rd_T71 l0 x5_1).f0)) ∧ w'.cell? ⟨(ad872.add ((x5_1).toNat * 9)).block,(ad872.add ((x5_1).toNat * 9)).off + 1,none⟩ = some (.string ((rd_T71 l0 x5_1).f1)) ∧ w'.cell? ⟨(ad872.add ((x5_1).toNat * 9)).block,(ad872.add ((x5_1).toNat * 9)).off + 2,none⟩ = some (.int .i64 ((rd_T71 l0 x5_1).f2)) ∧ w'.cell? ⟨(ad872.add ((x5_1).toNat * 9)).block,(ad872.add ((x5_1).toNat * 9)).off + 3,none⟩ = some (.int .i64 ((rd_T71 l0 x5_1).f3)) ∧ w'.cell? ⟨(ad872.add ((x5_1).toNat * 9)).block,(ad872.add ((x5_1).toNat * 9)).off + 4,none⟩ = some (.int .i64 ((rd_T71 l0 x5_1).f4)) ∧ w'.cell? ⟨(ad872.add ((x5_1).toNat * 9)).block,(ad872.add ((x5_1).toNat * 9)).off + 5,none⟩ = some (.int .i64 ((rd_T71 l0 x5_1).f5)) ∧ w'.cell? ⟨(ad872.add ((x5_1).toNat * 9)).block,(ad872.add ((x5_1).toNat * 9)).off + 6,none⟩ = some (.int .i64 ((rd_T71 l0 x5_1).f6)) ∧ w'.cell? ⟨(ad872.add ((x5_1).toNat * 9)).block,(ad872.add ((x5_1).toNat * 9)).off + 7,none⟩ = some (.int .i64 ((rd_T71 l0 x5_1).f7)) ∧ w'.cell? ⟨(ad872.add ((x5_1).toNat * 9)).block,(ad872.add ((x5_1).toNat * 9)).off + 8,none⟩ = some (.int .i64 ((rd_T71 l0 x5_1).f8))) (ds:=[]) #[false,false,false,false,false,false,false,false] (by kernel_rfl) rfl rfl ⟨((HB.out.cell (wLt w _ hw873_0)).trans hw873_0),((HB.out.cell (wLt w _ hw873_1)).trans hw873_1),((HB.out.cell (wLt w _ hw873_2)).trans hw873_2),((HB.out.cell (wLt w _ hw873_3)).trans hw873_3),((HB.out.cell (wLt w _ hw873_4)).trans hw873_4),((HB.out.cell (wLt w _ hw873_5)).trans hw873_5),((HB.out.cell (wLt w _ hw873_6)).trans hw873_6),((HB.out.cell (wLt w _ hw873_7)).trans hw873_7),((HB.out.cell (wLt w _ hw873_8)).trans hw873_8)⟩ (fun hHeld => ?_);refine with_tabW laws_heldFlowS.tab7 laws_heldFlowS.bits7 (fun HT_ HW_ => ?_)
         generalize wr.drew = w27 at HB hx873_0 hx873_1 hx873_2 hx873_3 hx873_4 hx873_5 hx873_6 hx873_7 hx873_8 hHeld ⊢
         refine pure_ (i:=0) (N:=some 21) (v:=?_) (a':=?_) #[true,false,false,false,false,false,false,false] rfl rfl (any_of HT_.out (by kernel_rfl)) (fun _ _ _ h => h) (Or.inl ⟨by rfl,?_⟩) ?_ ?_
         rotate_left
         ·intro w'
          go_simp
          with_reducible rfl
         rotate_left
         ·simp only [Act.put,List.setIfInBounds_toArray,List.set_cons_zero,List.set_cons_succ,i64_w,i32_w]
          rfl
         refine pure_ (i:=1) (N:=some 22) (v:=?_) (a':=?_) #[true,true,false,false,false,false,false,false] rfl rfl (any_of HT_.out (by kernel_rfl)) (fun _ _ _ h => h) (Or.inl ⟨by rfl,?_⟩) ?_ ?_
         rotate_left
         ·intro w'
          go_simp
          with_reducible rfl
         rotate_left
         ·simp only [Act.put,List.setIfInBounds_toArray,List.set_cons_zero,List.set_cons_succ,i64_w,i32_w]
          rfl
         refine pure_ (i:=2) (N:=some 23) (v:=?_) (a':=?_) #[true,true,true,false,false,false,false,false] rfl rfl (any_of HT_.out (by kernel_rfl)) (fun _ _ _ h => h) (Or.inl ⟨by rfl,?_⟩) ?_ ?_
         rotate_left
         ·intro w'
          go_simp
          with_reducible rfl
         rotate_left
         ·simp only [Act.put,List.setIfInBounds_toArray,List.set_cons_zero,List.set_cons_succ,i64_w,i32_w]
          rfl
         refine pure_ (i:=3) (N:=some 24) (v:=?_) (a':=?_) #[true,true,true,true,false,false,false,false] rfl rfl (any_of HT_.out (by kernel_rfl)) (fun _ _ _ h => h) (Or.inl ⟨by rfl,?_⟩) ?_ ?_
         rotate_left
         ·intro w'
          go_simp
          with_reducible rfl
         rotate_left
         ·simp only [Act.put,List.setIfInBounds_toArray,List.set_cons_zero,List.set_cons_succ,i64_w,i32_w]
          rfl
         refine pure_ (i:=5) (N:=some 26) (v:=?_) (a':=?_) #[true,true,true,true,false,true,false,false] rfl rfl (any_of HT_.out (by kernel_rfl)) (fun _ _ _ h => h) (Or.inl ⟨by rfl,?_⟩) ?_ ?_
         rotate_left
         ·intro w'
          go_simp
          with_reducible rfl
         rotate_left
         ·simp only [Act.put,List.setIfInBounds_toArray,List.set_cons_zero,List.set_cons_succ,i64_w,i32_w]
          rfl
         refine take_ (i:=4) (N:=some 25) (v:=?_) (a':=?_) #[true,true,true,true,true,true,false,false] rfl rfl (take_ofW HT_.out HW_.out (by kernel_rfl)) (fun _ _ _ h => h) (Or.inl ⟨by rfl,?_⟩) hHeld ?_ ?_
         rotate_left
         ·rintro w' ⟨s0,s1,s2,s3,s4,s5,s6,s7,s8⟩
          go_simp
          with_reducible rfl
         rotate_left
         ·simp only [Act.put,List.setIfInBounds_toArray,List.set_cons_zero,List.set_cons_succ,i64_w,i32_w]
          rfl
         refine one_ (i:=6) (N:=some 27) #[true,true,true,true,true,true,true,false] rfl rfl (one_of HT_.out (by kernel_rfl)) (by decide) (fun K hK => ?_)
         refine goes_ Try.func89 (by kernel_rfl) rfl #[.int .i64 (wrap64 (x1_1 + 1))] (by rfl) rfl rfl (by (try simp only [List.map_toArray,List.map_cons,List.map_nil]);first | done | rfl|(simp only [List.length_drop,List.length_take];rfl)) ?_
         with_reducible refine (laws_markText.calls k1 (wrap64 (x1_1 + 1)) t874 _ A6.out).mono ?_
         rintro e w28 ⟨rfl,hb⟩
         refine ⟨_,rfl,?_⟩
         have n0_:=aMk (bSt hb)
         clear HB
         have HB:=n0_
         clear n0_
         (try clear hb)
         (try clear hb2)
         (try clear hk)
         (try clear hi)
         refine hK.out _ _ ⟨((HB.out.cell (wLt w _ hw873_0)).trans hw873_0),((HB.out.cell (wLt w _ hw873_1)).trans hw873_1),((HB.out.cell (wLt w _ hw873_2)).trans hw873_2),((HB.out.cell (wLt w _ hw873_3)).trans hw873_3),((HB.out.cell (wLt w _ hw873_4)).trans hw873_4),((HB.out.cell (wLt w _ hw873_5)).trans hw873_5),((HB.out.cell (wLt w _ hw873_6)).trans hw873_6),((HB.out.cell (wLt w _ hw873_7)).trans hw873_7),((HB.out.cell (wLt w _ hw873_8)).trans hw873_8)⟩ (fun hHeld => ?_)
         clear hK K
         refine norm_ (a':=?_) ?_ ?_
         rotate_left
         ·show Act.put _ (some 27) _ = _
          simp only [Act.put,List.setIfInBounds_toArray,List.set_cons_zero,List.set_cons_succ,i64_w,i32_w]
          rfl
         refine pure_ (i:=7) (N:=some 28) (v:=?_) (a':=?_) #[true,true,true,true,true,true,true,true] rfl rfl (any_of HT_.out (by kernel_rfl)) (fun _ _ _ h => h) (Or.inl ⟨by rfl,?_⟩) ?_ ?_
         rotate_left
         ·intro w'
          go_simp
          with_reducible rfl
         rotate_left
         ·simp only [Act.put,List.setIfInBounds_toArray,List.set_cons_zero,List.set_cons_succ,i64_w,i32_w]
          rfl
         refine done_ (done_of HT_.out (by kernel_rfl)) ?_
         have p875 : 0 ≤ (x5_1 : Int):=of_decide_eq_true (by first|(with_reducible assumption) | assumption)
         have q875 : x5_1 < (l0.length : Int):=of_decide_eq_true (by first|(with_reducible assumption) | assumption)
         obtain ⟨ad875,e875,hx875_0,hx875_1,hx875_2,hx875_3,hx875_4,hx875_5,hx875_6,hx875_7,hx875_8⟩:=at_T71 HR0.out x5_1 p875 q875
         obtain rfl : ad872 = ad875:=(by injection e875)
         replace hx875_0:=bXc HB.out hx875_0
         replace hx875_1:=bXc HB.out hx875_1
         replace hx875_2:=bXc HB.out hx875_2
         replace hx875_3:=bXc HB.out hx875_3
         replace hx875_4:=bXc HB.out hx875_4
         replace hx875_5:=bXc HB.out hx875_5
         replace hx875_6:=bXc HB.out hx875_6
         replace hx875_7:=bXc HB.out hx875_7
         replace hx875_8:=bXc HB.out hx875_8
         replace p875:=eq_true p875
         replace q875:=eq_true q875
         have p876 : 0 ≤ (x5_1 : Int):=of_decide_eq_true (by first|(with_reducible assumption) | assumption)
         have q876 : x5_1 < (l0.length : Int):=of_decide_eq_true (by first|(with_reducible assumption) | assumption)
         obtain ⟨ad876,e876,hx876_0,hx876_1,hx876_2,hx876_3,hx876_4,hx876_5,hx876_6,hx876_7,hx876_8⟩:=at_T71 HR0.out x5_1 p876 q876
         obtain rfl : ad872 = ad876:=(by injection e876)
         replace hx876_0:=bXc HB.out hx876_0
         replace hx876_1:=bXc HB.out hx876_1
         replace hx876_2:=bXc HB.out hx876_2
         replace hx876_3:=bXc HB.out hx876_3
         replace hx876_4:=bXc HB.out hx876_4
         replace hx876_5:=bXc HB.out hx876_5
         replace hx876_6:=bXc HB.out hx876_6
         replace hx876_7:=bXc HB.out hx876_7
         replace hx876_8:=bXc HB.out hx876_8
         replace p876:=eq_true p876
         replace q876:=eq_true q876
         try go_wp2
         go_ret
         exact ⟨eRf,by repeat (first|(with_reducible first|exact HB.out|apply bwA|apply bwN|apply bw1)|exact HB.out)⟩
       ·rw [if_neg c8] at H
        have c8b0 : (((rd_T71 l0 x5_1).f2) == (wrap64 ((wrap64 (x1_1 + 1)) + 1))) = false:=beq_eq_false_iff_ne.mpr c8
        have c8b1 : (((rd_T71 l0 x5_1).f2) != (wrap64 ((wrap64 (x1_1 + 1)) + 1))) = true:=bne_iff_ne.mpr c8
        obtain rfl:=Option.some.inj H
        have p872 : 0 ≤ (x5_1 : Int):=of_decide_eq_true (by first|(with_reducible assumption) | assumption)
        have q872 : x5_1 < (l0.length : Int):=of_decide_eq_true (by first|(with_reducible assumption) | assumption)
        obtain ⟨ad872,e872,hx872_0,hx872_1,hx872_2,hx872_3,hx872_4,hx872_5,hx872_6,hx872_7,hx872_8⟩:=at_T71 HR0.out x5_1 p872 q872
        cases e872
        replace hx872_0:=bXc HB.out hx872_0
        replace hx872_1:=bXc HB.out hx872_1
        replace hx872_2:=bXc HB.out hx872_2
        replace hx872_3:=bXc HB.out hx872_3
        replace hx872_4:=bXc HB.out hx872_4
        replace hx872_5:=bXc HB.out hx872_5
        replace hx872_6:=bXc HB.out hx872_6
        replace hx872_7:=bXc HB.out hx872_7
        replace hx872_8:=bXc HB.out hx872_8
        replace p872:=eq_true p872
        replace q872:=eq_true q872
        try go_wp2
        have n0_:=aMk (bw1 HB.out)
        clear HB
        have HB:=n0_
        clear n0_
        have p873 : 0 ≤ (x5_1 : Int):=of_decide_eq_true (by first|(with_reducible assumption) | assumption)
        have q873 : x5_1 < (l0.length : Int):=of_decide_eq_true (by first|(with_reducible assumption) | assumption)
        obtain ⟨ad873,e873,hx873_0,hx873_1,hx873_2,hx873_3,hx873_4,hx873_5,hx873_6,hx873_7,hx873_8⟩:=at_T71 HR0.out x5_1 p873 q873
        have hw873_8:=hx873_8
        have hw873_7:=hx873_7
        have hw873_6:=hx873_6
        have hw873_5:=hx873_5
        have hw873_4:=hx873_4
        have hw873_3:=hx873_3
        have hw873_2:=hx873_2
        have hw873_1:=hx873_1
        have hw873_0:=hx873_0
        obtain rfl : ad872 = ad873:=(by injection e873)
        replace hx873_0:=bXc HB.out hx873_0
        replace hx873_1:=bXc HB.out hx873_1
        replace hx873_2:=bXc HB.out hx873_2
        replace hx873_3:=bXc HB.out hx873_3
        replace hx873_4:=bXc HB.out hx873_4
        replace hx873_5:=bXc HB.out hx873_5
        replace hx873_6:=bXc HB.out hx873_6
        replace hx873_7:=bXc HB.out hx873_7
        replace hx873_8:=bXc HB.out hx873_8
        replace p873:=eq_true p873
        replace q873:=eq_true q873
        refine start_ (n:=8) (S:=fun w' => w'.cell? (ad872.add ((x5_1).toNat * 9)) = some (.int .i64 ((rd_T71 l0 x5_1).f0)) ∧ w'.cell? ⟨(ad872.add ((x5_1).toNat * 9)).block,(ad872.add ((x5_1).toNat * 9)).off + 1,none⟩ = some (.string ((rd_T71 l0 x5_1).f1)) ∧ w'.cell? ⟨(ad872.add ((x5_1).toNat * 9)).block,(ad872.add ((x5_1).toNat * 9)).off + 2,none⟩ = some (.int .i64 ((rd_T71 l0 x5_1).f2)) ∧ w'.cell? ⟨(ad872.add ((x5_1).toNat * 9)).block,(ad872.add ((x5_1).toNat * 9)).off + 3,none⟩ = some (.int .i64 ((rd_T71 l0 x5_1).f3)) ∧ w'.cell? ⟨(ad872.add ((x5_1).toNat * 9)).block,(ad872.add ((x5_1).toNat * 9)).off + 4,none⟩ = some (.int .i64 ((rd_T71 l0 x5_1).f4)) ∧ w'.cell? ⟨(ad872.add ((x5_1).toNat * 9)).block,(ad872.add ((x5_1).toNat * 9)).off + 5,none⟩ = some (.int .i64 ((rd_T71 l0 x5_1).f5)) ∧ w'.cell? ⟨(ad872.add ((x5_1).toNat * 9)).block,(ad872.add ((x5_1).toNat * 9)).off + 6,none⟩ = some (.int .i64 ((rd_T71 l0 x5_1).f6)) ∧ w'.cell? ⟨(ad872.add ((x5_1).toNat * 9)).block,(ad872.add ((x5_1).toNat * 9)).off + 7,none⟩ = some (.int .i64 ((rd_T71 l0 x5_1).f7)) ∧ w'.cell? ⟨(ad872.add ((x5_1).toNat * 9)).block,(ad872.add ((x5_1).toNat * 9)).off + 8,none⟩ = some (.int .i64 ((rd_T71 l0 x5_1).f8))) (ds:=[]) #[false,false,false,false,false,false,false,false] (by kernel_rfl) rfl rfl ⟨((HB.out.cell (wLt w _ hw873_0)).trans hw873_0),((HB.out.cell (wLt w _ hw873_1)).trans hw873_1),((HB.out.cell (wLt w _ hw873_2)).trans hw873_2),((HB.out.cell (wLt w _ hw873_3)).trans hw873_3),((HB.out.cell (wLt w _ hw873_4)).trans hw873_4),((HB.out.cell (wLt w _ hw873_5)).trans hw873_5),((HB.out.cell (wLt w _ hw873_6)).trans hw873_6),((HB.out.cell (wLt w _ hw873_7)).trans hw873_7),((HB.out.cell (wLt w _ hw873_8)).trans hw873_8)⟩ (fun hHeld => ?_);refine with_tabW laws_heldFlowS.tab7 laws_heldFlowS.bits7 (fun HT_ HW_ => ?_)
        generalize wr.drew = w29 at HB hx873_0 hx873_1 hx873_2 hx873_3 hx873_4 hx873_5 hx873_6 hx873_7 hx873_8 hHeld ⊢
        refine pure_ (i:=0) (N:=some 21) (v:=?_) (a':=?_) #[true,false,false,false,false,false,false,false] rfl rfl (any_of HT_.out (by kernel_rfl)) (fun _ _ _ h => h) (Or.inl ⟨by rfl,?_⟩) ?_ ?_
        rotate_left
        ·intro w'
         go_simp
         with_reducible rfl
        rotate_left
        ·simp only [Act.put,List.setIfInBounds_toArray,List.set_cons_zero,List.set_cons_succ,i64_w,i32_w]
         rfl
        refine pure_ (i:=1) (N:=some 22) (v:=?_) (a':=?_) #[true,true,false,false,false,false,false,false] rfl rfl (any_of HT_.out (by kernel_rfl)) (fun _ _ _ h => h) (Or.inl ⟨by rfl,?_⟩) ?_ ?_
        rotate_left
        ·intro w'
         go_simp
         with_reducible rfl
        rotate_left
        ·simp only [Act.put,List.setIfInBounds_toArray,List.set_cons_zero,List.set_cons_succ,i64_w,i32_w]
         rfl
        refine pure_ (i:=2) (N:=some 23) (v:=?_) (a':=?_) #[true,true,true,false,false,false,false,false] rfl rfl (any_of HT_.out (by kernel_rfl)) (fun _ _ _ h => h) (Or.inl ⟨by rfl,?_⟩) ?_ ?_
        rotate_left
        ·intro w'
         go_simp
         with_reducible rfl
        rotate_left
        ·simp only [Act.put,List.setIfInBounds_toArray,List.set_cons_zero,List.set_cons_succ,i64_w,i32_w]
         rfl
        refine pure_ (i:=3) (N:=some 24) (v:=?_) (a':=?_) #[true,true,true,true,false,false,false,false] rfl rfl (any_of HT_.out (by kernel_rfl)) (fun _ _ _ h => h) (Or.inl ⟨by rfl,?_⟩) ?_ ?_
        rotate_left
        ·intro w'
         go_simp
         with_reducible rfl
        rotate_left
        ·simp only [Act.put,List.setIfInBounds_toArray,List.set_cons_zero,List.set_cons_succ,i64_w,i32_w]
         rfl
        refine pure_ (i:=5) (N:=some 26) (v:=?_) (a':=?_) #[true,true,true,true,false,true,false,false] rfl rfl (any_of HT_.out (by kernel_rfl)) (fun _ _ _ h => h) (Or.inl ⟨by rfl,?_⟩) ?_ ?_
        rotate_left
        ·intro w'
         go_simp
         with_reducible rfl
        rotate_left
        ·simp only [Act.put,List.setIfInBounds_toArray,List.set_cons_zero,List.set_cons_succ,i64_w,i32_w]
         rfl
        refine take_ (i:=4) (N:=some 25) (v:=?_) (a':=?_) #[true,true,true,true,true,true,false,false] rfl rfl (take_ofW HT_.out HW_.out (by kernel_rfl)) (fun _ _ _ h => h) (Or.inl ⟨by rfl,?_⟩) hHeld ?_ ?_
        rotate_left
        ·rintro w' ⟨s0,s1,s2,s3,s4,s5,s6,s7,s8⟩
         go_simp
         with_reducible rfl
        rotate_left
        ·simp only [Act.put,List.setIfInBounds_toArray,List.set_cons_zero,List.set_cons_succ,i64_w,i32_w]
         rfl
        refine one_ (i:=6) (N:=some 27) #[true,true,true,true,true,true,true,false] rfl rfl (one_of HT_.out (by kernel_rfl)) (by decide) (fun K hK => ?_)
        refine goes_ Try.func89 (by kernel_rfl) rfl #[.int .i64 (wrap64 (x1_1 + 1))] (by rfl) rfl rfl (by (try simp only [List.map_toArray,List.map_cons,List.map_nil]);first | done | rfl|(simp only [List.length_drop,List.length_take];rfl)) ?_
        with_reducible refine (laws_markText.calls k1 (wrap64 (x1_1 + 1)) t874 _ A6.out).mono ?_
        rintro e w30 ⟨rfl,hb⟩
        refine ⟨_,rfl,?_⟩
        have n0_:=aMk (bSt hb)
        clear HB
        have HB:=n0_
        clear n0_
        (try clear hb)
        (try clear hb2)
        (try clear hk)
        (try clear hi)
        refine hK.out _ _ ⟨((HB.out.cell (wLt w _ hw873_0)).trans hw873_0),((HB.out.cell (wLt w _ hw873_1)).trans hw873_1),((HB.out.cell (wLt w _ hw873_2)).trans hw873_2),((HB.out.cell (wLt w _ hw873_3)).trans hw873_3),((HB.out.cell (wLt w _ hw873_4)).trans hw873_4),((HB.out.cell (wLt w _ hw873_5)).trans hw873_5),((HB.out.cell (wLt w _ hw873_6)).trans hw873_6),((HB.out.cell (wLt w _ hw873_7)).trans hw873_7),((HB.out.cell (wLt w _ hw873_8)).trans hw873_8)⟩ (fun hHeld => ?_)
        clear hK K
        refine norm_ (a':=?_) ?_ ?_
        rotate_left
        ·show Act.put _ (some 27) _ = _
         simp only [Act.put,List.setIfInBounds_toArray,List.set_cons_zero,List.set_cons_succ,i64_w,i32_w]
         rfl
        refine pure_ (i:=7) (N:=some 28) (v:=?_) (a':=?_) #[true,true,true,true,true,true,true,true] rfl rfl (any_of HT_.out (by kernel_rfl)) (fun _ _ _ h => h) (Or.inl ⟨by rfl,?_⟩) ?_ ?_
        rotate_left
        ·intro w'
         go_simp
         with_reducible rfl
        rotate_left
        ·simp only [Act.put,List.setIfInBounds_toArray,List.set_cons_zero,List.set_cons_succ,i64_w,i32_w]
         rfl
        refine done_ (done_of HT_.out (by kernel_rfl)) ?_
        have p875 : 0 ≤ (x5_1 : Int):=of_decide_eq_true (by first|(with_reducible assumption) | assumption)
        have q875 : x5_1 < (l0.length : Int):=of_decide_eq_true (by first|(with_reducible assumption) | assumption)
        obtain ⟨ad875,e875,hx875_0,hx875_1,hx875_2,hx875_3,hx875_4,hx875_5,hx875_6,hx875_7,hx875_8⟩:=at_T71 HR0.out x5_1 p875 q875
        obtain rfl : ad872 = ad875:=(by injection e875)
        replace hx875_0:=bXc HB.out hx875_0
        replace hx875_1:=bXc HB.out hx875_1
        replace hx875_2:=bXc HB.out hx875_2
        replace hx875_3:=bXc HB.out hx875_3
        replace hx875_4:=bXc HB.out hx875_4
        replace hx875_5:=bXc HB.out hx875_5
        replace hx875_6:=bXc HB.out hx875_6
        replace hx875_7:=bXc HB.out hx875_7
        replace hx875_8:=bXc HB.out hx875_8
        replace p875:=eq_true p875
        replace q875:=eq_true q875
        try go_wp2
        go_ret
        exact ⟨eRf,by repeat (first|(with_reducible first|exact HB.out|apply bwA|apply bwN|apply bw1)|exact HB.out)⟩
      ·rw [if_neg c7] at H
       have c7b0 : (((rd_T71 l0 x5_1).f1).toList == t874.toList) = false:=beq_eq_false_iff_ne.mpr c7
       have c7b1 : (((rd_T71 l0 x5_1).f1).toList != t874.toList) = true:=bne_iff_ne.mpr c7
       obtain rfl:=Option.some.inj H
       have p872 : 0 ≤ (x5_1 : Int):=of_decide_eq_true (by first|(with_reducible assumption) | assumption)
       have q872 : x5_1 < (l0.length : Int):=of_decide_eq_true (by first|(with_reducible assumption) | assumption)
       obtain ⟨ad872,e872,hx872_0,hx872_1,hx872_2,hx872_3,hx872_4,hx872_5,hx872_6,hx872_7,hx872_8⟩:=at_T71 HR0.out x5_1 p872 q872
       cases e872
       replace hx872_0:=bXc HB.out hx872_0
       replace hx872_1:=bXc HB.out hx872_1
       replace hx872_2:=bXc HB.out hx872_2
       replace hx872_3:=bXc HB.out hx872_3
       replace hx872_4:=bXc HB.out hx872_4
       replace hx872_5:=bXc HB.out hx872_5
       replace hx872_6:=bXc HB.out hx872_6
       replace hx872_7:=bXc HB.out hx872_7
       replace hx872_8:=bXc HB.out hx872_8
       replace p872:=eq_true p872
       replace q872:=eq_true q872
       try go_wp2
       have n0_:=aMk (bw1 HB.out)
       clear HB
       have HB:=n0_
       clear n0_
       have p873 : 0 ≤ (x5_1 : Int):=of_decide_eq_true (by first|(with_reducible assumption) | assumption)
       have q873 : x5_1 < (l0.length : Int):=of_decide_eq_true (by first|(with_reducible assumption) | assumption)
       obtain ⟨ad873,e873,hx873_0,hx873_1,hx873_2,hx873_3,hx873_4,hx873_5,hx873_6,hx873_7,hx873_8⟩:=at_T71 HR0.out x5_1 p873 q873
       have hw873_8:=hx873_8
       have hw873_7:=hx873_7
       have hw873_6:=hx873_6
       have hw873_5:=hx873_5
       have hw873_4:=hx873_4
       have hw873_3:=hx873_3
       have hw873_2:=hx873_2
       have hw873_1:=hx873_1
       have hw873_0:=hx873_0
       obtain rfl : ad872 = ad873:=(by injection e873)
       replace hx873_0:=bXc HB.out hx873_0
       replace hx873_1:=bXc HB.out hx873_1
       replace hx873_2:=bXc HB.out hx873_2
       replace hx873_3:=bXc HB.out hx873_3
       replace hx873_4:=bXc HB.out hx873_4
       replace hx873_5:=bXc HB.out hx873_5
       replace hx873_6:=bXc HB.out hx873_6
       replace hx873_7:=bXc HB.out hx873_7
       replace hx873_8:=bXc HB.out hx873_8
       replace p873:=eq_true p873
       replace q873:=eq_true q873
       refine start_ (n:=8) (S:=fun w' => w'.cell? (ad872.add ((x5_1).toNat * 9)) = some (.int .i64 ((rd_T71 l0 x5_1).f0)) ∧ w'.cell? ⟨(ad872.add ((x5_1).toNat * 9)).block,(ad872.add ((x5_1).toNat * 9)).off + 1,none⟩ = some (.string ((rd_T71 l0 x5_1).f1)) ∧ w'.cell? ⟨(ad872.add ((x5_1).toNat * 9)).block,(ad872.add ((x5_1).toNat * 9)).off + 2,none⟩ = some (.int .i64 ((rd_T71 l0 x5_1).f2)) ∧ w'.cell? ⟨(ad872.add ((x5_1).toNat * 9)).block,(ad872.add ((x5_1).toNat * 9)).off + 3,none⟩ = some (.int .i64 ((rd_T71 l0 x5_1).f3)) ∧ w'.cell? ⟨(ad872.add ((x5_1).toNat * 9)).block,(ad872.add ((x5_1).toNat * 9)).off + 4,none⟩ = some (.int .i64 ((rd_T71 l0 x5_1).f4)) ∧ w'.cell? ⟨(ad872.add ((x5_1).toNat * 9)).block,(ad872.add ((x5_1).toNat * 9)).off + 5,none⟩ = some (.int .i64 ((rd_T71 l0 x5_1).f5)) ∧ w'.cell? ⟨(ad872.add ((x5_1).toNat * 9)).block,(ad872.add ((x5_1).toNat * 9)).off + 6,none⟩ = some (.int .i64 ((rd_T71 l0 x5_1).f6)) ∧ w'.cell? ⟨(ad872.add ((x5_1).toNat * 9)).block,(ad872.add ((x5_1).toNat * 9)).off + 7,none⟩ = some (.int .i64 ((rd_T71 l0 x5_1).f7)) ∧ w'.cell? ⟨(ad872.add ((x5_1).toNat * 9)).block,(ad872.add ((x5_1).toNat * 9)).off + 8,none⟩ = some (.int .i64 ((rd_T71 l0 x5_1).f8))) (ds:=[]) #[false,false,false,false,false,false,false,false] (by kernel_rfl) rfl rfl ⟨((HB.out.cell (wLt w _ hw873_0)).trans hw873_0),((HB.out.cell (wLt w _ hw873_1)).trans hw873_1),((HB.out.cell (wLt w _ hw873_2)).trans hw873_2),((HB.out.cell (wLt w _ hw873_3)).trans hw873_3),((HB.out.cell (wLt w _ hw873_4)).trans hw873_4),((HB.out.cell (wLt w _ hw873_5)).trans hw873_5),((HB.out.cell (wLt w _ hw873_6)).trans hw873_6),((HB.out.cell (wLt w _ hw873_7)).trans hw873_7),((HB.out.cell (wLt w _ hw873_8)).trans hw873_8)⟩ (fun hHeld => ?_);refine with_tabW laws_heldFlowS.tab7 laws_heldFlowS.bits7 (fun HT_ HW_ => ?_)
       generalize wr.drew = w31 at HB hx873_0 hx873_1 hx873_2 hx873_3 hx873_4 hx873_5 hx873_6 hx873_7 hx873_8 hHeld ⊢
       refine pure_ (i:=0) (N:=some 21) (v:=?_) (a':=?_) #[true,false,false,false,false,false,false,false] rfl rfl (any_of HT_.out (by kernel_rfl)) (fun _ _ _ h => h) (Or.inl ⟨by rfl,?_⟩) ?_ ?_
       rotate_left
       ·intro w'
        go_simp
        with_reducible rfl
       rotate_left
       ·simp only [Act.put,List.setIfInBounds_toArray,List.set_cons_zero,List.set_cons_succ,i64_w,i32_w]
        rfl
       refine pure_ (i:=1) (N:=some 22) (v:=?_) (a':=?_) #[true,true,false,false,false,false,false,false] rfl rfl (any_of HT_.out (by kernel_rfl)) (fun _ _ _ h => h) (Or.inl ⟨by rfl,?_⟩) ?_ ?_
       rotate_left
       ·intro w'
        go_simp
        with_reducible rfl
       rotate_left
       ·simp only [Act.put,List.setIfInBounds_toArray,List.set_cons_zero,List.set_cons_succ,i64_w,i32_w]
        rfl
       refine pure_ (i:=2) (N:=some 23) (v:=?_) (a':=?_) #[true,true,true,false,false,false,false,false] rfl rfl (any_of HT_.out (by kernel_rfl)) (fun _ _ _ h => h) (Or.inl ⟨by rfl,?_⟩) ?_ ?_
       rotate_left
       ·intro w'
        go_simp
        with_reducible rfl
       rotate_left
       ·simp only [Act.put,List.setIfInBounds_toArray,List.set_cons_zero,List.set_cons_succ,i64_w,i32_w]
        rfl
       refine pure_ (i:=3) (N:=some 24) (v:=?_) (a':=?_) #[true,true,true,true,false,false,false,false] rfl rfl (any_of HT_.out (by kernel_rfl)) (fun _ _ _ h => h) (Or.inl ⟨by rfl,?_⟩) ?_ ?_
       rotate_left
       ·intro w'
        go_simp
        with_reducible rfl
       rotate_left
       ·simp only [Act.put,List.setIfInBounds_toArray,List.set_cons_zero,List.set_cons_succ,i64_w,i32_w]
        rfl
       refine pure_ (i:=5) (N:=some 26) (v:=?_) (a':=?_) #[true,true,true,true,false,true,false,false] rfl rfl (any_of HT_.out (by kernel_rfl)) (fun _ _ _ h => h) (Or.inl ⟨by rfl,?_⟩) ?_ ?_
       rotate_left
       ·intro w'
        go_simp
        with_reducible rfl
       rotate_left
       ·simp only [Act.put,List.setIfInBounds_toArray,List.set_cons_zero,List.set_cons_succ,i64_w,i32_w]
        rfl
       refine take_ (i:=4) (N:=some 25) (v:=?_) (a':=?_) #[true,true,true,true,true,true,false,false] rfl rfl (take_ofW HT_.out HW_.out (by kernel_rfl)) (fun _ _ _ h => h) (Or.inl ⟨by rfl,?_⟩) hHeld ?_ ?_
       rotate_left
       ·rintro w' ⟨s0,s1,s2,s3,s4,s5,s6,s7,s8⟩
        go_simp
        with_reducible rfl
       rotate_left
       ·simp only [Act.put,List.setIfInBounds_toArray,List.set_cons_zero,List.set_cons_succ,i64_w,i32_w]
        rfl
       refine one_ (i:=6) (N:=some 27) #[true,true,true,true,true,true,true,false] rfl rfl (one_of HT_.out (by kernel_rfl)) (by decide) (fun K hK => ?_)
       refine goes_ Try.func89 (by kernel_rfl) rfl #[.int .i64 (wrap64 (x1_1 + 1))] (by rfl) rfl rfl (by (try simp only [List.map_toArray,List.map_cons,List.map_nil]);first | done | rfl|(simp only [List.length_drop,List.length_take];rfl)) ?_
       with_reducible refine (laws_markText.calls k1 (wrap64 (x1_1 + 1)) t874 _ A6.out).mono ?_
       rintro e w32 ⟨rfl,hb⟩
       refine ⟨_,rfl,?_⟩
       have n0_:=aMk (bSt hb)
       clear HB
       have HB:=n0_
       clear n0_
       (try clear hb)
       (try clear hb2)
       (try clear hk)
       (try clear hi)
       refine hK.out _ _ ⟨((HB.out.cell (wLt w _ hw873_0)).trans hw873_0),((HB.out.cell (wLt w _ hw873_1)).trans hw873_1),((HB.out.cell (wLt w _ hw873_2)).trans hw873_2),((HB.out.cell (wLt w _ hw873_3)).trans hw873_3),((HB.out.cell (wLt w _ hw873_4)).trans hw873_4),((HB.out.cell (wLt w _ hw873_5)).trans hw873_5),((HB.out.cell (wLt w _ hw873_6)).trans hw873_6),((HB.out.cell (wLt w _ hw873_7)).trans hw873_7),((HB.out.cell (wLt w _ hw873_8)).trans hw873_8)⟩ (fun hHeld => ?_)
       clear hK K
       refine norm_ (a':=?_) ?_ ?_
       rotate_left
       ·show Act.put _ (some 27) _ = _
        simp only [Act.put,List.setIfInBounds_toArray,List.set_cons_zero,List.set_cons_succ,i64_w,i32_w]
        rfl
       refine pure_ (i:=7) (N:=some 28) (v:=?_) (a':=?_) #[true,true,true,true,true,true,true,true] rfl rfl (any_of HT_.out (by kernel_rfl)) (fun _ _ _ h => h) (Or.inl ⟨by rfl,?_⟩) ?_ ?_
       rotate_left
       ·intro w'
        go_simp
        with_reducible rfl
       rotate_left
       ·simp only [Act.put,List.setIfInBounds_toArray,List.set_cons_zero,List.set_cons_succ,i64_w,i32_w]
        rfl
       refine done_ (done_of HT_.out (by kernel_rfl)) ?_
       try go_wp2
       go_ret
       exact ⟨eRf,by repeat (first|(with_reducible first|exact HB.out|apply bwA|apply bwN|apply bw1)|exact HB.out)⟩
     ·rw [if_neg c5] at H
      have c5b0 : (((rd_T71 l0 x5_1).f0) == x1_1) = false:=beq_eq_false_iff_ne.mpr c5
      have c5b1 : (((rd_T71 l0 x5_1).f0) != x1_1) = true:=bne_iff_ne.mpr c5
      obtain rfl:=Option.some.inj H
      have p872 : 0 ≤ (x5_1 : Int):=of_decide_eq_true (by first|(with_reducible assumption) | assumption)
      have q872 : x5_1 < (l0.length : Int):=of_decide_eq_true (by first|(with_reducible assumption) | assumption)
      obtain ⟨ad872,e872,hx872_0,hx872_1,hx872_2,hx872_3,hx872_4,hx872_5,hx872_6,hx872_7,hx872_8⟩:=at_T71 HR0.out x5_1 p872 q872
      cases e872
      replace hx872_0:=bXc HB.out hx872_0
      replace hx872_1:=bXc HB.out hx872_1
      replace hx872_2:=bXc HB.out hx872_2
      replace hx872_3:=bXc HB.out hx872_3
      replace hx872_4:=bXc HB.out hx872_4
      replace hx872_5:=bXc HB.out hx872_5
      replace hx872_6:=bXc HB.out hx872_6
      replace hx872_7:=bXc HB.out hx872_7
      replace hx872_8:=bXc HB.out hx872_8
      replace p872:=eq_true p872
      replace q872:=eq_true q872
      go_wp2
      go_ret
      exact ⟨eRf,by repeat (first|(with_reducible first|exact HB.out|apply bwA|apply bwN|apply bw1)|exact HB.out)⟩
    ·rw [if_neg c4] at H
     exact absurd H (by simp)
   ·rw [if_neg c3] at H
    have c3b0 : decide (x5_1 < (l0.length : Int)) = false:=decide_eq_false c3
    clear c3
    obtain rfl:=Option.some.inj H
    go_wp2
    go_ret
    exact ⟨eRf,by repeat (first|(with_reducible first|exact HB.out|apply bwA|apply bwN|apply bw1)|exact HB.out)⟩
end
section
/-! ### spec_l09Wait: function 65 -/
def spec_l09Wait.f (a0 : Int) (a1 : Int) : Option (Int):=if a0 = 6 then (if a1 = 2 then (some 30) else (some 3)) else (some 5)
set_option maxHeartbeats 8000000 in
set_option maxRecDepth 100000 in
theorem spec_l09Wait.calls0 (a0 : Int) (a1 : Int) (r : Int) (w : World) (h : spec_l09Wait.f a0 a1 = some r) :
  Calls Try.prog 65 #[.int .i64 a0,.int .i64 a1] w fun e w' => e = .returned (.int .i64 r) ∧ Drawn0 w w':=by
 have H : (if a0 = 6 then (if a1 = 2 then (some 30) else (some 3)) else (some 5)) = some r:=h
 clear h
 by_cases c3 : a0 = 6
 ·rw [if_pos c3] at H
  have c3b0 : (a0 == 6) = true:=beq_iff_eq.mpr c3
  have c3b1 : (a0 != 6) = false:=bne_eq_false_iff_eq.mpr c3
  clear c3
  by_cases c4 : a1 = 2
  ·rw [if_pos c4] at H
   have c4b0 : (a1 == 2) = true:=beq_iff_eq.mpr c4
   have c4b1 : (a1 != 2) = false:=bne_eq_false_iff_eq.mpr c4
   clear c4
   obtain rfl:=Option.some.inj H
   go_enter Try.func65,Try.ntmps65
   go_wp2
   go_ret
   exact ⟨by first | rfl|(simp;done)|(simp [*];done)|(simp [ne_nil_b];done)|(simp [ne_nil_b, *];done),by repeat (first|exact Drawn0.refl _|apply Drawn0.step)⟩
  ·rw [if_neg c4] at H
   have c4b0 : (a1 == 2) = false:=beq_eq_false_iff_ne.mpr c4
   have c4b1 : (a1 != 2) = true:=bne_iff_ne.mpr c4
   obtain rfl:=Option.some.inj H
   go_enter Try.func65,Try.ntmps65
   go_wp2
   go_ret
   exact ⟨by first | rfl|(simp;done)|(simp [*];done)|(simp [ne_nil_b];done)|(simp [ne_nil_b, *];done),by repeat (first|exact Drawn0.refl _|apply Drawn0.step)⟩
 ·rw [if_neg c3] at H
  have c3b0 : (a0 == 6) = false:=beq_eq_false_iff_ne.mpr c3
  have c3b1 : (a0 != 6) = true:=bne_iff_ne.mpr c3
  obtain rfl:=Option.some.inj H
  go_enter Try.func65,Try.ntmps65
  go_wp2
  go_ret
  exact ⟨by first | rfl|(simp;done)|(simp [*];done)|(simp [ne_nil_b];done)|(simp [ne_nil_b, *];done),by repeat (first|exact Drawn0.refl _|apply Drawn0.step)⟩

theorem spec_l09Wait.calls (a0 : Int) (a1 : Int) (r : Int) (w : World) (h : spec_l09Wait.f a0 a1 = some r) :
  Calls Try.prog 65 #[.int .i64 a0,.int .i64 a1] w fun e w' => e = .returned (.int .i64 r) ∧ Below w.heap.size w w':=by
 refine (spec_l09Wait.calls0 a0 a1 r w h).mono fun e w' hh => ⟨hh.1,?_⟩
 obtain ⟨nd,hq⟩:=hh.2
 rw [hq]
 exact bwN (Below.refl _ _) nd
end
section
/-! ### spec_l09Pass: function 101 -/
mutual
def spec_l09Pass.j0 : Nat → List (S71) → Int → Int → Int → List (S71) → Bool → Option ((List (S71)))
 | 0,_,_,_,_,_,_ => none
 | k + 1,x0,x1,x3,x4,x11,x26 => if x26 = true then (if 0 ≤ x1 then (if x1 < (x11.length : Int) then (spec_l09Pass.j1 k x0 x1 x3 x4 (x11.set (x1 : Int).toNat (⟨(rd_T71 x11 x1).f0,(rd_T71 x11 x1).f1,(rd_T71 x11 x1).f2,(rd_T71 x11 x1).f3,(rd_T71 x11 x1).f4,(rd_T71 x11 x1).f5,2,(rd_T71 x11 x1).f7,(rd_T71 x11 x1).f8⟩ : S71))) else (none)) else (none)) else (spec_l09Pass.j1 k x0 x1 x3 x4 x11)
def spec_l09Pass.j1 : Nat → List (S71) → Int → Int → Int → List (S71) → Option ((List (S71)))
 | 0,_,_,_,_,_ => none
 | k + 1,x0,x1,x3,x4,x11 => if 0 ≤ x1 then (if x1 < (x11.length : Int) then (if ((rd_T71 x11 x1).f0) = 6 then (if (Go.bits .and .i64 x3 4) = 0 then (if (Go.bits .and .i64 x3 1) = 0 then ((spec_l09Wait.f ((rd_T71 x11 x1).f0) ((rd_T71 x11 x1).f6)).bind fun t1112 => (some (x11.set (x1 : Int).toNat (⟨(rd_T71 x11 x1).f0,(rd_T71 x11 x1).f1,(rd_T71 x11 x1).f2,(rd_T71 x11 x1).f3,(rd_T71 x11 x1).f4,(rd_T71 x11 x1).f5,(rd_T71 x11 x1).f6,wrap64 (x4 + t1112),(rd_T71 x11 x1).f8⟩ : S71)))) else ((some (x11.set (x1 : Int).toNat (⟨(rd_T71 x11 x1).f0,(rd_T71 x11 x1).f1,(rd_T71 x11 x1).f2,(rd_T71 x11 x1).f3,(rd_T71 x11 x1).f4,(rd_T71 x11 x1).f5,3,(rd_T71 x11 x1).f7,(rd_T71 x11 x1).f8⟩ : S71) : List (S71))).bind fun y1114 => ((spec_l09Wait.f ((rd_T71 y1114 x1).f0) ((rd_T71 y1114 x1).f6)).bind fun t1117 => (some (y1114.set (x1 : Int).toNat (⟨(rd_T71 y1114 x1).f0,(rd_T71 y1114 x1).f1,(rd_T71 y1114 x1).f2,(rd_T71 y1114 x1).f3,(rd_T71 y1114 x1).f4,(rd_T71 y1114 x1).f5,(rd_T71 y1114 x1).f6,wrap64 (x4 + t1117),(rd_T71 y1114 x1).f8⟩ : S71)))))) else ((some (([] : List (S71)) : List (S71))).bind fun y1119 => (if x1 ≤ (x0.length : Int) then ((some (x0.take (x1 : Int).toNat : List (S71))).bind fun y1122 => (if y1119.length + y1122.length < 1759218604441 then ((some (y1119 ++ y1122 : List (S71))).bind fun y1126 => (if 0 ≤ (wrap64 (x1 + 1)) then (if (wrap64 (x1 + 1)) ≤ (x0.length : Int) then ((some (x0.drop ((wrap64 (x1 + 1)) : Int).toNat : List (S71))).bind fun y1129 => (if y1126.length + y1129.length < 1759218604441 then (some (y1126 ++ y1129)) else (none))) else (none)) else (none))) else (none))) else (none)))) else ((spec_l09Wait.f ((rd_T71 x11 x1).f0) ((rd_T71 x11 x1).f6)).bind fun t1138 => (some (x11.set (x1 : Int).toNat (⟨(rd_T71 x11 x1).f0,(rd_T71 x11 x1).f1,(rd_T71 x11 x1).f2,(rd_T71 x11 x1).f3,(rd_T71 x11 x1).f4,(rd_T71 x11 x1).f5,(rd_T71 x11 x1).f6,wrap64 (x4 + t1138),(rd_T71 x11 x1).f8⟩ : S71))))) else (none)) else (none)
end
def spec_l09Pass.f (k : Nat) (l0 : List (S71)) (a1 : Int) (a2 : Bool) (a3 : Int) (a4 : Int) : Option ((List (S71))):=(some (([] : List (S71)) : List (S71))).bind fun y1100 => (if y1100.length + l0.length < 1759218604441 then ((some (y1100 ++ l0 : List (S71))).bind fun y1103 => (if 0 ≤ a1 then (if a1 < (y1103.length : Int) then (if a2 = true then (spec_l09Pass.j0 k l0 a1 a3 a4 y1103 (((rd_T71 y1103 a1).f6) == 1)) else (spec_l09Pass.j0 k l0 a1 a3 a4 y1103 false)) else (none)) else (none))) else (none))
theorem spec_l09Pass.mono_l : ∀ k,(∀ y0 y1 y2 y3 y4 y5,LeO (spec_l09Pass.j0 k y0 y1 y2 y3 y4 y5) (spec_l09Pass.j0 (k + 1) y0 y1 y2 y3 y4 y5)) ∧ (∀ y0 y1 y2 y3 y4,LeO (spec_l09Pass.j1 k y0 y1 y2 y3 y4) (spec_l09Pass.j1 (k + 1) y0 y1 y2 y3 y4))
 | 0 => ⟨fun _ _ _ _ _ _ r h => by simp [spec_l09Pass.j0] at h,fun _ _ _ _ _ r h => by simp [spec_l09Pass.j1] at h⟩
 | k + 1 => by
  obtain ⟨ih0,ih1⟩:=spec_l09Pass.mono_l k
  refine ⟨?_,?_⟩
  ·intro y0 y1 y2 y3 y4 y5
   unfold spec_l09Pass.j0
   repeat' first
   | (with_reducible exact ih0 _ _ _ _ _ _)
   | (with_reducible exact ih1 _ _ _ _ _)
   | (with_reducible exact LeO.refl _)
   | (with_reducible exact LeO.none _)
   | (with_reducible refine LeO.ite ?_ ?_)
   | (with_reducible refine LeO.bind ?_ (fun _ => ?_))
   | exact ih0 _ _ _ _ _ _
   | exact ih1 _ _ _ _ _
   | exact LeO.none _
   | refine LeO.ite ?_ ?_
   | refine LeO.bind ?_ (fun _ => ?_)
  ·intro y0 y1 y2 y3 y4
   unfold spec_l09Pass.j1
   repeat' first
   | (with_reducible exact ih0 _ _ _ _ _ _)
   | (with_reducible exact ih1 _ _ _ _ _)
   | (with_reducible exact LeO.refl _)
   | (with_reducible exact LeO.none _)
   | (with_reducible refine LeO.ite ?_ ?_)
   | (with_reducible refine LeO.bind ?_ (fun _ => ?_))
   | exact ih0 _ _ _ _ _ _
   | exact ih1 _ _ _ _ _
   | exact LeO.none _
   | refine LeO.ite ?_ ?_
   | refine LeO.bind ?_ (fun _ => ?_)
theorem spec_l09Pass.mono : ∀ a0 a1 a2 a3 a4 k,LeO (spec_l09Pass.f k a0 a1 a2 a3 a4) (spec_l09Pass.f (k + 1) a0 a1 a2 a3 a4):=by
 intro a0 a1 a2 a3 a4 k
 obtain ⟨ih0,ih1⟩:=spec_l09Pass.mono_l k
 unfold spec_l09Pass.f
 repeat' first
   | (with_reducible exact ih0 _ _ _ _ _ _)
   | (with_reducible exact ih1 _ _ _ _ _)
   | (with_reducible exact LeO.refl _)
   | (with_reducible exact LeO.none _)
   | (with_reducible refine LeO.ite ?_ ?_)
   | (with_reducible refine LeO.bind ?_ (fun _ => ?_))
   | exact ih0 _ _ _ _ _ _
   | exact ih1 _ _ _ _ _
   | exact LeO.none _
   | refine LeO.ite ?_ ?_
   | refine LeO.bind ?_ (fun _ => ?_)
def spec_l09Pass.T7 : Bool × List (List Nat × List Nat):=(true,[([],[]),([],[]),([],[]),([1,2],[1,2]),([0,3],[0,3]),([],[]),([],[]),([6],[6]),([5,7],[5,7]),([4,8,4],[4,8]),([9,9,0,1,2,3,4,5,6,7,8,9],[9])])
def spec_l09Pass.B7 : List Nat:=[0,0,0,6,15,0,0,64,224,511,1023]
theorem spec_l09Pass.tab7 : rtab .any (opsOf Try.f101 7) = spec_l09Pass.T7:=by kernel_rfl
theorem spec_l09Pass.bits7 : waitsOk spec_l09Pass.T7.2 spec_l09Pass.B7 = true:=by kernel_rfl
def spec_l09Pass.T10 : Bool × List (List Nat × List Nat):=(true,[([],[]),([],[]),([],[]),([2],[2]),([3],[3]),([4],[4]),([],[]),([6],[6]),([7],[7]),([8],[8]),([5,9],[5,9]),([1,10],[1,10]),([0,0,1,2,3,4,5,6,7,8,9,10,11],[0]),([12,0,1,2,3,4,5,6,7,8,9,10,11],[12]),([13,11,10,0,1,2,3,4,5,6,7,8,9,10,11],[11,13])])
def spec_l09Pass.B10 : List Nat:=[0,0,0,4,12,28,0,64,192,448,1020,2046,4095,8191,16383]
theorem spec_l09Pass.tab10 : rtab .any (opsOf Try.f101 10) = spec_l09Pass.T10:=by kernel_rfl
theorem spec_l09Pass.bits10 : waitsOk spec_l09Pass.T10.2 spec_l09Pass.B10 = true:=by kernel_rfl
set_option maxHeartbeats 8000000 in
set_option maxRecDepth 100000 in
theorem spec_l09Pass.calls (k : Nat) (A0 : Option Addr) (c0 : Nat) (l0 : List (S71)) (a1 : Int) (a2 : Bool) (a3 : Int) (a4 : Int) (r : List (S71)) (w : World) (hr0 : Kd.C k71 w A0 l0.length l0) (hc0 : l0.length ≤ c0) (h : spec_l09Pass.f k l0 a1 a2 a3 a4 = some r) :
  Calls Try.prog 101 #[.slice A0 l0.length c0,.int .i64 a1,.bool a2,.int .i64 a3,.int .i64 a4] w fun e w' => ∃ v0_ : Value,e = .returned (v0_) ∧ Kd.R k71 71 w' w.heap.size (fun _ => True) v0_ r ∧ Below w.heap.size w w':=by
 have HR0:=aMk hr0
 have HC0:=aMk hc0
 clear hr0 hc0
 have HB:=aMk (Below.refl w.heap.size w)
 have H : ((some (([] : List (S71)) : List (S71))).bind fun y1100 => (if y1100.length + l0.length < 1759218604441 then ((some (y1100 ++ l0 : List (S71))).bind fun y1103 => (if 0 ≤ a1 then (if a1 < (y1103.length : Int) then (if a2 = true then (spec_l09Pass.j0 k l0 a1 a3 a4 y1103 (((rd_T71 y1103 a1).f6) == 1)) else (spec_l09Pass.j0 k l0 a1 a3 a4 y1103 false)) else (none)) else (none))) else (none))) = some r:=h
 clear h
 obtain ⟨y1100,hy1100⟩ : ∃ y_ : List (S71),y_ = (([] : List (S71))):=⟨_,rfl⟩
 replace H : (if y1100.length + l0.length < 1759218604441 then ((some (y1100 ++ l0 : List (S71))).bind fun y1103 => (if 0 ≤ a1 then (if a1 < (y1103.length : Int) then (if a2 = true then (spec_l09Pass.j0 k l0 a1 a3 a4 y1103 (((rd_T71 y1103 a1).f6) == 1)) else (spec_l09Pass.j0 k l0 a1 a3 a4 y1103 false)) else (none)) else (none))) else (none)) = some r:=by first|(rw [hy1100];with_reducible exact H)|(have H2_:=(Option.bind_some _ _).symm.trans H;rw [hy1100];with_reducible exact H2_)|(have H2_:=(Option.bind_some _ _).symm.trans H;with_reducible exact H2_) | with_reducible exact H|(rw [hy1100];exact H)|exact H
 have Ny1100:=aMk hy1100
 clear hy1100
 by_cases c6 : y1100.length + l0.length < 1759218604441
 ·rw [if_pos c6] at H
  have LMc6:=aMk c6
  clear c6
  obtain ⟨y1103,hy1103⟩ : ∃ y_ : List (S71),y_ = (y1100 ++ l0):=⟨_,rfl⟩
  replace H : (if 0 ≤ a1 then (if a1 < (y1103.length : Int) then (if a2 = true then (spec_l09Pass.j0 k l0 a1 a3 a4 y1103 (((rd_T71 y1103 a1).f6) == 1)) else (spec_l09Pass.j0 k l0 a1 a3 a4 y1103 false)) else (none)) else (none)) = some r:=by first|(rw [hy1103];with_reducible exact H)|(have H2_:=(Option.bind_some _ _).symm.trans H;rw [hy1103];with_reducible exact H2_)|(have H2_:=(Option.bind_some _ _).symm.trans H;with_reducible exact H2_) | with_reducible exact H|(rw [hy1103];exact H)|exact H
  have Ny1103:=aMk hy1103
  clear hy1103
  by_cases c7 : 0 ≤ a1
  ·rw [if_pos c7] at H
   have c7b0 : decide (0 ≤ a1) = true:=decide_eq_true c7
   clear c7
   by_cases c8 : a1 < (y1103.length : Int)
   ·rw [if_pos c8] at H
    have c8b0 : decide (a1 < (y1103.length : Int)) = true:=decide_eq_true c8
    clear c8
    have HC9:=aMk H
    clear H
    go_enter Try.func101,Try.ntmps101
    go_upto_region 3 with (first|((with_reducible refine gate_dst (N:=13) rfl ?_);refine Kd.R_lit k71 _ 71 ?hg (N:=13) ?hd (xs:=([] : List (S71))) (inner:=[]) (ok:=fun _ => True) (okp:=fun _ => True) ?hr ?hp (fun _ hk => hk) trivial (Below.refl _ _) (Nat.le_refl _) (by simp) ?_;(case hd => rfl);(case hg => rfl);(case hr => first|(go_simp;done)|(go_simp;rfl));(case hp => exact (Reps.none _ _));intro v1101 w10 ho11 hb hg_ hnew_;clear hg_ hnew_;(first|rw [← Ny1100.out] at ho11|(simp only [Int.reduceToNat] at ho11;rw [← Ny1100.out] at ho11));have n0_:=aMk (Kd.R_lower ho11 bSz);have n1_:=aMk (bSt hb);clear HB;have HO1102:=n0_;have HB:=n1_;clear n0_ n1_;clear hb ho11)|((with_reducible refine gate_builtin (b:=.append) (xs:=#[.tmp 13,.tmp 14]) rfl ?_);at_builtin;refine Kd.R_append_rows k71 (w0:=w) w.heap.size rfl (.tmp 13) (.tmp 14) 40 71 (.agg #[(.int .i64 0),(.string ⟨#[]⟩),(.int .i64 0),(.int .i64 0),(.int .i64 0),(.int .i64 0),(.int .i64 0),(.int .i64 0),(.int .i64 0)]) 80 rfl Try.underlying40 info71 rfl (by decide) (by omega) v1101 y1100 l0 _ _ _ (fun _ => True) (fun _ => False) rfl rfl ?aO ?aR (fun _ _ h => h) (fun _ h => h.elim) ?aF ?aB ?aS ?aL ?_;(case aR => repeat (first|exact (Kd.C_below HR0.out HB.out)|(with_reducible refine Kd.C_alloc ?_ _)|(with_reducible refine Kd.C_drewN ?_ _)|(with_reducible refine Kd.C_drew ?_)));(case aB => exact (by repeat first|exact HB.out|apply bwA|apply bwN|apply bw1));(case aF => exact (fun _ _ => trivial));(case aO => exact (by (with_reducible repeat (first|apply Kd.R_alloc|apply Kd.R_drewN|apply Kd.R_drew));exact HO1102.out));(case aS => exact bSz);(case aL => have:=LMc6.out;omega);intro v1104 w12 ho hb hg hat;rw [← Ny1103.out] at ho;have n0_:=aMk (hb);have n1_:=aMk (ho);clear HB;clear HO1102;have HB:=n0_;have HO1105:=n1_;clear n0_ n1_;clear ho hb hg hat;obtain ⟨Ao13,co13,eo13⟩:=Kd.R_slice HO1105.out;subst eo13;have p1106 : 0 ≤ (a1 : Int):=of_decide_eq_true (by first|(with_reducible assumption) | assumption);have q1106 : a1 < (y1103.length : Int):=of_decide_eq_true (by first|(with_reducible assumption) | assumption);obtain ⟨ad1106,e1106,hx1106_0,hx1106_1,hx1106_2,hx1106_3,hx1106_4,hx1106_5,hx1106_6,hx1106_7,hx1106_8⟩:=at_T71 (Kd.R_reads' HO1105.out).2.2 a1 p1106 q1106;cases e1106;replace p1106:=eq_true p1106;replace q1106:=eq_true q1106))
    (try simp only [Act.put,List.setIfInBounds_toArray,List.set_cons_zero,List.set_cons_succ])
    go_cut [26] (fun v26 wc => ∃ (kq : Nat) (x26_8 : Bool),v26 = .bool x26_8 ∧ Aside0 (spec_l09Pass.j0 kq l0 a1 a3 a4 y1103 x26_8 = some r) ∧ Aside0 (kq ≤ k) ∧ Aside0 (Kd.R k71 71 wc w.heap.size (fun _ => True) (.slice (some ad1106) y1103.length co13) y1103) ∧ Aside0 (Below w.heap.size w wc))
    case first =>
     have H:=HC9.out
     clear HC9
     by_cases c14 : a2 = true
     ·subst c14
      have H1 : (spec_l09Pass.j0 k l0 a1 a3 a4 y1103 (((rd_T71 y1103 a1).f6) == 1)) = some r:=by rw [if_pos rfl] at H;exact H
      clear H
      have H:=H1
      clear H1
      have H':=aMk H
      clear H
      have p1107 : 0 ≤ (a1 : Int):=of_decide_eq_true (by first|(with_reducible assumption) | assumption)
      have q1107 : a1 < (y1103.length : Int):=of_decide_eq_true (by first|(with_reducible assumption) | assumption)
      obtain ⟨ad1107,e1107,hx1107_0,hx1107_1,hx1107_2,hx1107_3,hx1107_4,hx1107_5,hx1107_6,hx1107_7,hx1107_8⟩:=at_T71 (Kd.R_reads' HO1105.out).2.2 a1 p1107 q1107
      obtain rfl : ad1106 = ad1107:=(by injection e1107)
      replace p1107:=eq_true p1107
      replace q1107:=eq_true q1107
      go_wp2
      go_meet
      case rel => exact ⟨_,((((rd_T71 y1103 a1).f6) == 1)),(by first | rfl|(simp;done)|(simp [*];done)|(simp [ne_nil_b];done)|(simp [ne_nil_b, *];done)),H',⟨by first | omega|exact Nat.le_refl _⟩,⟨by (with_reducible repeat (first|apply Kd.R_alloc|apply Kd.R_drewN|apply Kd.R_drew));exact HO1105.out⟩,⟨by repeat (first|(with_reducible first|exact HB.out|apply bwA|apply bwN|apply bw1)|exact HB.out)⟩⟩
     ·replace c14:=Bool.eq_false_iff.mpr c14
      subst c14
      have H1 : (spec_l09Pass.j0 k l0 a1 a3 a4 y1103 false) = some r:=by rw [if_neg (show ¬ (false = true) by decide)] at H;exact H
      clear H
      have H:=H1
      clear H1
      have H':=aMk H
      clear H
      go_wp2
      go_meet
      case rel => exact ⟨_,(false),(by first | rfl|(simp;done)|(simp [*];done)|(simp [ne_nil_b];done)|(simp [ne_nil_b, *];done)),H',⟨by first | omega|exact Nat.le_refl _⟩,⟨by (with_reducible repeat (first|apply Kd.R_alloc|apply Kd.R_drewN|apply Kd.R_drew));exact HO1105.out⟩,⟨by repeat (first|(with_reducible first|exact HB.out|apply bwA|apply bwN|apply bw1)|exact HB.out)⟩⟩
    case rest =>
     clear HC9
     try clear c1
     try clear p1
     try clear q1
     try clear hx1
     try clear p2
     try clear c6
     try clear c7
     try clear c7b0
     try clear c8
     try clear c8b0
     try clear c10
     try clear p11
     try clear q11
     try clear hx11
     try clear c14
     try clear hx1106_0
     try clear hx1106_1
     try clear hx1106_2
     try clear hx1106_3
     try clear hx1106_4
     try clear hx1106_5
     try clear hx1106_6
     try clear hx1106_7
     try clear hx1106_8
     try clear hx1107_0
     try clear hx1107_1
     try clear hx1107_2
     try clear hx1107_3
     try clear hx1107_4
     try clear hx1107_5
     try clear hx1107_6
     try clear hx1107_7
     try clear hx1107_8
     try clear p1106
     try clear p1107
     try clear q1106
     try clear q1107
     obtain ⟨kq,x26_8,rfl,HA,HJ8,HO_11,HB⟩:=hcut
     cases kq with
     | zero => exact absurd HA.out (by simp [spec_l09Pass.j0])
     | succ kj8 =>
      have H:=HA.out
      clear HA
      simp only [spec_l09Pass.j0] at H
      have HC15:=aMk H
      clear H
      go_upto_if 26 with (fail)
      go_cut [] (fun wc => ∃ (kq : Nat) (x11_14 : List (S71)),Aside0 (spec_l09Pass.j1 kq l0 a1 a3 a4 x11_14 = some r) ∧ Aside0 (kq ≤ kj8) ∧ Aside0 (Kd.R k71 71 wc w.heap.size (fun _ => True) (.slice (some ad1106) y1103.length co13) x11_14) ∧ Aside0 (Below w.heap.size w wc))
      case first =>
       have H:=HC15.out
       clear HC15
       by_cases c16 : x26_8 = true
       ·subst c16
        have H1 : (if 0 ≤ a1 then (if a1 < (y1103.length : Int) then (spec_l09Pass.j1 kj8 l0 a1 a3 a4 (y1103.set (a1 : Int).toNat (⟨(rd_T71 y1103 a1).f0,(rd_T71 y1103 a1).f1,(rd_T71 y1103 a1).f2,(rd_T71 y1103 a1).f3,(rd_T71 y1103 a1).f4,(rd_T71 y1103 a1).f5,2,(rd_T71 y1103 a1).f7,(rd_T71 y1103 a1).f8⟩ : S71))) else (none)) else (none)) = some r:=by rw [if_pos rfl] at H;exact H
        clear H
        have H:=H1
        clear H1
        by_cases c17 : 0 ≤ a1
        ·rw [if_pos c17] at H
         have c17b0 : decide (0 ≤ a1) = true:=decide_eq_true c17
         clear c17
         (first|rw [c17b0]|(simp only [i64_w,i32_w];rw [c17b0]) | skip)
         by_cases c18 : a1 < (y1103.length : Int)
         ·rw [if_pos c18] at H
          have c18b0 : decide (a1 < (y1103.length : Int)) = true:=decide_eq_true c18
          clear c18
          obtain ⟨y1108,hy1108⟩ : ∃ y_ : List (S71),y_ = (y1103.set (a1 : Int).toNat (⟨(rd_T71 y1103 a1).f0,(rd_T71 y1103 a1).f1,(rd_T71 y1103 a1).f2,(rd_T71 y1103 a1).f3,(rd_T71 y1103 a1).f4,(rd_T71 y1103 a1).f5,2,(rd_T71 y1103 a1).f7,(rd_T71 y1103 a1).f8⟩ : S71)):=⟨_,rfl⟩
          replace H : (spec_l09Pass.j1 kj8 l0 a1 a3 a4 y1108) = some r:=by first|(rw [hy1108];with_reducible exact H)|(have H2_:=(Option.bind_some _ _).symm.trans H;rw [hy1108];with_reducible exact H2_)|(have H2_:=(Option.bind_some _ _).symm.trans H;with_reducible exact H2_) | with_reducible exact H|(rw [hy1108];exact H)|exact H
          have Ny1108:=aMk hy1108
          clear hy1108
          have H':=aMk H
          clear H
          have p19 : 0 ≤ (a1 : Int):=of_decide_eq_true (by first|(with_reducible assumption) | assumption)
          have q19 : (a1 : Int) < ((y1103.length : Int) : Int):=of_decide_eq_true (by first|(with_reducible assumption) | assumption)
          obtain ⟨go19,co19,eo19,gb19,gl19,cl19,HG19⟩:=Kd.R_form HO_11.out (by omega)
          (first|cases eo19|(injection eo19 with ea_ en_ ec_;(first|subst ea_|(injection ea_ with ea_;subst ea_));subst ec_;clear en_))
          have GB19:=aMk gb19
          have GG19:=aMk HG19
          clear gb19 gl19 HG19
          (first|simp only [add_plain] at hx1106_0 | skip)
          (first|simp only [add_plain] at hx1106_1 | skip)
          (first|simp only [add_plain] at hx1106_2 | skip)
          (first|simp only [add_plain] at hx1106_3 | skip)
          (first|simp only [add_plain] at hx1106_4 | skip)
          (first|simp only [add_plain] at hx1106_5 | skip)
          (first|simp only [add_plain] at hx1106_6 | skip)
          (first|simp only [add_plain] at hx1106_7 | skip)
          (first|simp only [add_plain] at hx1106_8 | skip)
          (first|simp only [add_plain] at hx1107_0 | skip)
          (first|simp only [add_plain] at hx1107_1 | skip)
          (first|simp only [add_plain] at hx1107_2 | skip)
          (first|simp only [add_plain] at hx1107_3 | skip)
          (first|simp only [add_plain] at hx1107_4 | skip)
          (first|simp only [add_plain] at hx1107_5 | skip)
          (first|simp only [add_plain] at hx1107_6 | skip)
          (first|simp only [add_plain] at hx1107_7 | skip)
          (first|simp only [add_plain] at hx1107_8 | skip)
          obtain ⟨ce19,hcl19,hM19,hcc19,hfr19⟩:=Kd.R_elem HO_11.out z71 (a1 : Int) p19 q19
          obtain rfl:=k71_openM hM19
          have hx19_0 : wc.cell? ⟨go19,(a1 : Int).toNat * 9,none⟩ = some (.int .i64 ((rd_T71 y1103 a1).f0)):=hcc19 0 _ rfl
          have hx19_1 : wc.cell? ⟨go19,(a1 : Int).toNat * 9 + 1,none⟩ = some (.string ((rd_T71 y1103 a1).f1)):=hcc19 1 _ rfl
          have hx19_2 : wc.cell? ⟨go19,(a1 : Int).toNat * 9 + 2,none⟩ = some (.int .i64 ((rd_T71 y1103 a1).f2)):=hcc19 2 _ rfl
          have hx19_3 : wc.cell? ⟨go19,(a1 : Int).toNat * 9 + 3,none⟩ = some (.int .i64 ((rd_T71 y1103 a1).f3)):=hcc19 3 _ rfl
          have hx19_4 : wc.cell? ⟨go19,(a1 : Int).toNat * 9 + 4,none⟩ = some (.int .i64 ((rd_T71 y1103 a1).f4)):=hcc19 4 _ rfl
          have hx19_5 : wc.cell? ⟨go19,(a1 : Int).toNat * 9 + 5,none⟩ = some (.int .i64 ((rd_T71 y1103 a1).f5)):=hcc19 5 _ rfl
          have hx19_6 : wc.cell? ⟨go19,(a1 : Int).toNat * 9 + 6,none⟩ = some (.int .i64 ((rd_T71 y1103 a1).f6)):=hcc19 6 _ rfl
          have hx19_7 : wc.cell? ⟨go19,(a1 : Int).toNat * 9 + 7,none⟩ = some (.int .i64 ((rd_T71 y1103 a1).f7)):=hcc19 7 _ rfl
          have hx19_8 : wc.cell? ⟨go19,(a1 : Int).toNat * 9 + 8,none⟩ = some (.int .i64 ((rd_T71 y1103 a1).f8)):=hcc19 8 _ rfl
          have hf19_0 : wc.frozen? ⟨go19,(a1 : Int).toNat * 9,none⟩ = false:=hfr19 0
          have hf19_1 : wc.frozen? ⟨go19,(a1 : Int).toNat * 9 + 1,none⟩ = false:=hfr19 1
          have hf19_2 : wc.frozen? ⟨go19,(a1 : Int).toNat * 9 + 2,none⟩ = false:=hfr19 2
          have hf19_3 : wc.frozen? ⟨go19,(a1 : Int).toNat * 9 + 3,none⟩ = false:=hfr19 3
          have hf19_4 : wc.frozen? ⟨go19,(a1 : Int).toNat * 9 + 4,none⟩ = false:=hfr19 4
          have hf19_5 : wc.frozen? ⟨go19,(a1 : Int).toNat * 9 + 5,none⟩ = false:=hfr19 5
          have hf19_6 : wc.frozen? ⟨go19,(a1 : Int).toNat * 9 + 6,none⟩ = false:=hfr19 6
          have hf19_7 : wc.frozen? ⟨go19,(a1 : Int).toNat * 9 + 7,none⟩ = false:=hfr19 7
          have hf19_8 : wc.frozen? ⟨go19,(a1 : Int).toNat * 9 + 8,none⟩ = false:=hfr19 8
          clear hcl19 hcc19 hfr19 hM19
          replace p19:=eq_true p19
          replace q19:=eq_true q19
          have HX20:=aMk (show Kd.R k71 71 wc w.heap.size (fun _ => True) (.slice (some ⟨go19,0,none⟩) y1103.length co13) y1103 from (by (with_reducible repeat (first|apply Kd.R_alloc|apply Kd.R_drewN|apply Kd.R_drew));exact HO_11.out))
          obtain ⟨ce20,hcl20,hM20,hcc20,hfr20⟩:=Kd.R_elem HX20.out z71 (a1 : Int) (of_decide_eq_true (by first|(with_reducible assumption) | assumption)) (by have h_ : (a1 : Int) < ((y1103.length : Int) : Int):=of_decide_eq_true (by first|(with_reducible assumption) | assumption);first|exact h_|(have e_:=(Kd.R_reads' HO_11.out).1;omega) | simpa using h_)
          obtain rfl:=k71_openM hM20
          have HP20:=Kd.R_seg HX20.out (a1 : Int) (of_decide_eq_true (by first|(with_reducible assumption) | assumption)) (by have h_ : (a1 : Int) < ((y1103.length : Int) : Int):=of_decide_eq_true (by first|(with_reducible assumption) | assumption);first|exact h_|(have e_:=(Kd.R_reads' HO_11.out).1;omega) | simpa using h_) (seg:=[.int .i64 2]) (j:=6) hcl20 hcc20 (show 7 ≤ 9 from by decide) (x':=(⟨(rd_T71 y1103 a1).f0,(rd_T71 y1103 a1).f1,(rd_T71 y1103 a1).f2,(rd_T71 y1103 a1).f3,(rd_T71 y1103 a1).f4,(rd_T71 y1103 a1).f5,2,(rd_T71 y1103 a1).f7,(rd_T71 y1103 a1).f8⟩ : S71)) (k71_mkM _ _ _ (⟨(rd_T71 y1103 a1).f0,(rd_T71 y1103 a1).f1,(rd_T71 y1103 a1).f2,(rd_T71 y1103 a1).f3,(rd_T71 y1103 a1).f4,(rd_T71 y1103 a1).f5,2,(rd_T71 y1103 a1).f7,(rd_T71 y1103 a1).f8⟩ : S71) ) (fun _ hk => hk)
          have hx20_6:=hcc20 6 _ rfl
          (try simp only [show (k71).sz = 9 from rfl,Nat.mul_one,Nat.add_zero] at hx20_6)
          have hf20_6:=hfr20 6
          (try simp only [show (k71).sz = 9 from rfl,Nat.mul_one,Nat.add_zero] at hf20_6)
          clear hcl20 hcc20 hfr20 hM20
          go_wp2_with (first|((with_reducible refine gate_store (t:=3) (p:=29) rfl ?_);refine store_event (t:=3) (p:=29) (v:=?vo_w21) (w1:=(wc.setCell ⟨go19,(a1 : Int).toNat * 9 + 6,none⟩ (.int .i64 2))) ?hg ?ho ?hn ?hr ?_;(case ho => rfl);(case hg => rfl);(case hn => rfl);(case hr => first|(go_simp;done)|(go_simp;rfl));intro w21 hw;have hg : wc.grownBy w21 (some go19):=(by rw [hw];exact HP20.2);have hp_ : Kd.R k71 71 w21 w.heap.size (fun _ => True) (.slice (some ⟨go19,0,none⟩) y1103.length co13) y1108:=(by rw [hw,Ny1108.out];exact HP20.1);clear HP20;have n0_:=aMk (hp_);have n1_:=aMk ((by rw [hw];exact below_set (HB.out) GB19.out : Below w.heap.size w w21));clear HO_11;clear HB;have HO_11:=n0_;have HB:=n1_;clear n0_ n1_;clear hg hw hp_))
          go_meet
          case rel => exact ⟨_,(y1108),H',⟨by have:=HJ8.out;first | omega|exact Nat.le_refl _⟩,⟨by (with_reducible repeat (first|apply Kd.R_alloc|apply Kd.R_drewN|apply Kd.R_drew));exact HO_11.out⟩,⟨by repeat (first|(with_reducible first|exact HB.out|apply bwA|apply bwN|apply bw1)|exact HB.out)⟩⟩
         ·rw [if_neg c18] at H
          exact absurd H (by simp)
        ·rw [if_neg c17] at H
         exact absurd H (by simp)
       ·replace c16:=Bool.eq_false_iff.mpr c16
        subst c16
        have H1 : (spec_l09Pass.j1 kj8 l0 a1 a3 a4 y1103) = some r:=by rw [if_neg (show ¬ (false = true) by decide)] at H;exact H
        clear H
        have H:=H1
        clear H1
        have H':=aMk H
        clear H
        go_wp2
        go_meet
        case rel => exact ⟨_,(y1103),H',⟨by have:=HJ8.out;first | omega|exact Nat.le_refl _⟩,⟨by (with_reducible repeat (first|apply Kd.R_alloc|apply Kd.R_drewN|apply Kd.R_drew));exact HO_11.out⟩,⟨by repeat (first|(with_reducible first|exact HB.out|apply bwA|apply bwN|apply bw1)|exact HB.out)⟩⟩
      case rest =>
       clear HC15
       try clear c1
       try clear p1
       try clear q1
       try clear hx1
       try clear c2
       try clear p2
       try clear hx2
       try clear c6
       try clear c7
       try clear c7b0
       try clear c8
       try clear c8b0
       try clear c10
       try clear p11
       try clear q11
       try clear hx11
       try clear c14
       try clear c16
       try clear c17
       try clear c17b0
       try clear c18
       try clear c18b0
       try clear c19
       try clear p19
       try clear q19
       try clear hx19
       try clear hf19
       try clear c20
       try clear hx20
       try clear hf20
       try clear hx1106_0
       try clear hx1106_1
       try clear hx1106_2
       try clear hx1106_3
       try clear hx1106_4
       try clear hx1106_5
       try clear hx1106_6
       try clear hx1106_7
       try clear hx1106_8
       try clear hx1107_0
       try clear hx1107_1
       try clear hx1107_2
       try clear hx1107_3
       try clear hx1107_4
       try clear hx1107_5
       try clear hx1107_6
       try clear hx1107_7
       try clear hx1107_8
       try clear hx19_0
       try clear hx19_1
       try clear hx19_2
       try clear hx19_3
       try clear hx19_4
       try clear hx19_5
       try clear hx19_6
       try clear hx19_7
       try clear hx19_8
       try clear hx20_6
       try clear p1
       try clear p11
       try clear p1106
       try clear p1107
       try clear p19
       try clear p2
       try clear q1
       try clear q11
       try clear q1106
       try clear q1107
       try clear q19
       obtain ⟨kq,x11_14,HA,HJ14,HO_11,HB⟩:=hcut
       have hl11_14:=(Kd.R_reads' HO_11.out).1
       rw [hl11_14] at HO_11
       (try simp only [hl11_14])
       cases kq with
       | zero => exact absurd HA.out (by simp [spec_l09Pass.j1])
       | succ kj14 =>
        have H:=HA.out
        clear HA
        simp only [spec_l09Pass.j1] at H
        by_cases c22 : 0 ≤ a1
        ·rw [if_pos c22] at H
         have c22b0 : decide (0 ≤ a1) = true:=decide_eq_true c22
         clear c22
         by_cases c23 : a1 < (x11_14.length : Int)
         ·rw [if_pos c23] at H
          have c23b0 : decide (a1 < (x11_14.length : Int)) = true:=decide_eq_true c23
          clear c23
          by_cases c24 : ((rd_T71 x11_14 a1).f0) = 6
          ·rw [if_pos c24] at H
           have c24b0 : (((rd_T71 x11_14 a1).f0) == 6) = true:=beq_iff_eq.mpr c24
           have c24b1 : (((rd_T71 x11_14 a1).f0) != 6) = false:=bne_eq_false_iff_eq.mpr c24
           clear c24
           by_cases c25 : (Go.bits .and .i64 a3 4) = 0
           ·rw [if_pos c25] at H
            have c25b0 : ((Go.bits .and .i64 a3 4) == 0) = true:=beq_iff_eq.mpr c25
            have c25b1 : ((Go.bits .and .i64 a3 4) != 0) = false:=bne_eq_false_iff_eq.mpr c25
            clear c25
            by_cases c26 : (Go.bits .and .i64 a3 1) = 0
            ·rw [if_pos c26] at H
             have c26b0 : ((Go.bits .and .i64 a3 1) == 0) = true:=beq_iff_eq.mpr c26
             have c26b1 : ((Go.bits .and .i64 a3 1) != 0) = false:=bne_eq_false_iff_eq.mpr c26
             clear c26
             replace H:=Option.bind_eq_some_iff.mp H
             obtain ⟨t1112,A270,H⟩:=H
             replace H : (some (x11_14.set (a1 : Int).toNat (⟨(rd_T71 x11_14 a1).f0,(rd_T71 x11_14 a1).f1,(rd_T71 x11_14 a1).f2,(rd_T71 x11_14 a1).f3,(rd_T71 x11_14 a1).f4,(rd_T71 x11_14 a1).f5,(rd_T71 x11_14 a1).f6,wrap64 (a4 + t1112),(rd_T71 x11_14 a1).f8⟩ : S71))) = some r:=H
             have A27:=aMk A270
             clear A270
             obtain ⟨y1113,hy1113⟩ : ∃ y_ : List (S71),y_ = (x11_14.set (a1 : Int).toNat (⟨(rd_T71 x11_14 a1).f0,(rd_T71 x11_14 a1).f1,(rd_T71 x11_14 a1).f2,(rd_T71 x11_14 a1).f3,(rd_T71 x11_14 a1).f4,(rd_T71 x11_14 a1).f5,(rd_T71 x11_14 a1).f6,wrap64 (a4 + t1112),(rd_T71 x11_14 a1).f8⟩ : S71)):=⟨_,rfl⟩
             replace H : (some y1113) = some r:=by first|(rw [hy1113];with_reducible exact H)|(have H2_:=(Option.bind_some _ _).symm.trans H;rw [hy1113];with_reducible exact H2_)|(have H2_:=(Option.bind_some _ _).symm.trans H;with_reducible exact H2_) | with_reducible exact H|(rw [hy1113];exact H)|exact H
             have Ny1113:=aMk hy1113
             clear hy1113
             obtain rfl:=Option.some.inj H
             have p1109 : 0 ≤ (a1 : Int):=of_decide_eq_true (by first|(with_reducible assumption) | assumption)
             have q1109 : a1 < (x11_14.length : Int):=of_decide_eq_true (by first|(with_reducible assumption) | assumption)
             obtain ⟨ad1109,e1109,hx1109_0,hx1109_1,hx1109_2,hx1109_3,hx1109_4,hx1109_5,hx1109_6,hx1109_7,hx1109_8⟩:=at_T71 (Kd.R_reads' HO_11.out).2.2 a1 p1109 q1109
             obtain rfl : ad1106 = ad1109:=(by injection e1109)
             replace p1109:=eq_true p1109
             replace q1109:=eq_true q1109
             try go_wp2
             have n0_:=aMk (Kd.R_drew HO_11.out)
             have n1_:=aMk (bw1 HB.out)
             clear HO_11
             clear HB
             have HO_11:=n0_
             have HB:=n1_
             clear n0_ n1_
             have p1110 : 0 ≤ (a1 : Int):=of_decide_eq_true (by first|(with_reducible assumption) | assumption)
             have q1110 : a1 < (x11_14.length : Int):=of_decide_eq_true (by first|(with_reducible assumption) | assumption)
             obtain ⟨ad1110,e1110,hx1110_0,hx1110_1,hx1110_2,hx1110_3,hx1110_4,hx1110_5,hx1110_6,hx1110_7,hx1110_8⟩:=at_T71 (Kd.R_reads' HO_11.out).2.2 a1 p1110 q1110
             obtain rfl : ad1106 = ad1110:=(by injection e1110)
             replace p1110:=eq_true p1110
             replace q1110:=eq_true q1110
             have p1111 : 0 ≤ (a1 : Int):=of_decide_eq_true (by first|(with_reducible assumption) | assumption)
             have q1111 : a1 < (x11_14.length : Int):=of_decide_eq_true (by first|(with_reducible assumption) | assumption)
             obtain ⟨ad1111,e1111,hx1111_0,hx1111_1,hx1111_2,hx1111_3,hx1111_4,hx1111_5,hx1111_6,hx1111_7,hx1111_8⟩:=at_T71 (Kd.R_reads' HO_11.out).2.2 a1 p1111 q1111
             obtain rfl : ad1106 = ad1111:=(by injection e1111)
             replace p1111:=eq_true p1111
             replace q1111:=eq_true q1111
             refine start_ (n:=15) (S:=fun w' => w'.cell? (ad1106.add ((a1).toNat * 9)) = some (.int .i64 ((rd_T71 x11_14 a1).f0)) ∧ w'.cell? ⟨(ad1106.add ((a1).toNat * 9)).block,(ad1106.add ((a1).toNat * 9)).off + 1,none⟩ = some (.string ((rd_T71 x11_14 a1).f1)) ∧ w'.cell? ⟨(ad1106.add ((a1).toNat * 9)).block,(ad1106.add ((a1).toNat * 9)).off + 2,none⟩ = some (.int .i64 ((rd_T71 x11_14 a1).f2)) ∧ w'.cell? ⟨(ad1106.add ((a1).toNat * 9)).block,(ad1106.add ((a1).toNat * 9)).off + 3,none⟩ = some (.int .i64 ((rd_T71 x11_14 a1).f3)) ∧ w'.cell? ⟨(ad1106.add ((a1).toNat * 9)).block,(ad1106.add ((a1).toNat * 9)).off + 4,none⟩ = some (.int .i64 ((rd_T71 x11_14 a1).f4)) ∧ w'.cell? ⟨(ad1106.add ((a1).toNat * 9)).block,(ad1106.add ((a1).toNat * 9)).off + 5,none⟩ = some (.int .i64 ((rd_T71 x11_14 a1).f5)) ∧ w'.cell? ⟨(ad1106.add ((a1).toNat * 9)).block,(ad1106.add ((a1).toNat * 9)).off + 6,none⟩ = some (.int .i64 ((rd_T71 x11_14 a1).f6)) ∧ w'.cell? ⟨(ad1106.add ((a1).toNat * 9)).block,(ad1106.add ((a1).toNat * 9)).off + 7,none⟩ = some (.int .i64 ((rd_T71 x11_14 a1).f7)) ∧ w'.cell? ⟨(ad1106.add ((a1).toNat * 9)).block,(ad1106.add ((a1).toNat * 9)).off + 8,none⟩ = some (.int .i64 ((rd_T71 x11_14 a1).f8)) ∧ w'.cell? (ad1106.add ((a1).toNat * 9)) = some (.int .i64 ((rd_T71 x11_14 a1).f0)) ∧ w'.cell? ⟨(ad1106.add ((a1).toNat * 9)).block,(ad1106.add ((a1).toNat * 9)).off + 1,none⟩ = some (.string ((rd_T71 x11_14 a1).f1)) ∧ w'.cell? ⟨(ad1106.add ((a1).toNat * 9)).block,(ad1106.add ((a1).toNat * 9)).off + 2,none⟩ = some (.int .i64 ((rd_T71 x11_14 a1).f2)) ∧ w'.cell? ⟨(ad1106.add ((a1).toNat * 9)).block,(ad1106.add ((a1).toNat * 9)).off + 3,none⟩ = some (.int .i64 ((rd_T71 x11_14 a1).f3)) ∧ w'.cell? ⟨(ad1106.add ((a1).toNat * 9)).block,(ad1106.add ((a1).toNat * 9)).off + 4,none⟩ = some (.int .i64 ((rd_T71 x11_14 a1).f4)) ∧ w'.cell? ⟨(ad1106.add ((a1).toNat * 9)).block,(ad1106.add ((a1).toNat * 9)).off + 5,none⟩ = some (.int .i64 ((rd_T71 x11_14 a1).f5)) ∧ w'.cell? ⟨(ad1106.add ((a1).toNat * 9)).block,(ad1106.add ((a1).toNat * 9)).off + 6,none⟩ = some (.int .i64 ((rd_T71 x11_14 a1).f6)) ∧ w'.cell? ⟨(ad1106.add ((a1).toNat * 9)).block,(ad1106.add ((a1).toNat * 9)).off + 7,none⟩ = some (.int .i64 ((rd_T71 x11_14 a1).f7)) ∧ w'.cell? ⟨(ad1106.add ((a1).toNat * 9)).block,(ad1106.add ((a1).toNat * 9)).off + 8,none⟩ = some (.int .i64 ((rd_T71 x11_14 a1).f8))) (ds:=[14]) #[false,false,false,false,false,false,false,false,false,false,false,false,false,false,false] (by kernel_rfl) rfl rfl ⟨hx1110_0,hx1110_1,hx1110_2,hx1110_3,hx1110_4,hx1110_5,hx1110_6,hx1110_7,hx1110_8,hx1111_0,hx1111_1,hx1111_2,hx1111_3,hx1111_4,hx1111_5,hx1111_6,hx1111_7,hx1111_8⟩ (fun hHeld => ?_);refine with_tabW spec_l09Pass.tab10 spec_l09Pass.bits10 (fun HT_ HW_ => ?_)
             generalize wc.drew = w29 at HO_11 HB hx1110_0 hx1110_1 hx1110_2 hx1110_3 hx1110_4 hx1110_5 hx1110_6 hx1110_7 hx1110_8 hx1111_0 hx1111_1 hx1111_2 hx1111_3 hx1111_4 hx1111_5 hx1111_6 hx1111_7 hx1111_8 hHeld ⊢
             refine pure_ (i:=0) (N:=some 54) (v:=?_) (a':=?_) #[true,false,false,false,false,false,false,false,false,false,false,false,false,false,false] rfl rfl (any_of HT_.out (by kernel_rfl)) (fun _ _ _ h => h) (Or.inl ⟨by rfl,?_⟩) ?_ ?_
             rotate_left
             ·intro w'
              go_simp
              with_reducible rfl
             rotate_left
             ·simp only [Act.put,List.setIfInBounds_toArray,List.set_cons_zero,List.set_cons_succ,i64_w,i32_w]
              rfl
             refine pure_ (i:=1) (N:=some 55) (v:=?_) (a':=?_) #[true,true,false,false,false,false,false,false,false,false,false,false,false,false,false] rfl rfl (any_of HT_.out (by kernel_rfl)) (fun _ _ _ h => h) (Or.inl ⟨by rfl,?_⟩) ?_ ?_
             rotate_left
             ·intro w'
              go_simp
              with_reducible rfl
             rotate_left
             ·simp only [Act.put,List.setIfInBounds_toArray,List.set_cons_zero,List.set_cons_succ,i64_w,i32_w]
              rfl
             refine pure_ (i:=2) (N:=some 56) (v:=?_) (a':=?_) #[true,true,true,false,false,false,false,false,false,false,false,false,false,false,false] rfl rfl (any_of HT_.out (by kernel_rfl)) (fun _ _ _ h => h) (Or.inl ⟨by rfl,?_⟩) ?_ ?_
             rotate_left
             ·intro w'
              go_simp
              with_reducible rfl
             rotate_left
             ·simp only [Act.put,List.setIfInBounds_toArray,List.set_cons_zero,List.set_cons_succ,i64_w,i32_w]
              rfl
             refine pure_ (i:=3) (N:=some 57) (v:=?_) (a':=?_) #[true,true,true,true,false,false,false,false,false,false,false,false,false,false,false] rfl rfl (any_of HT_.out (by kernel_rfl)) (fun _ _ _ h => h) (Or.inl ⟨by rfl,?_⟩) ?_ ?_
             rotate_left
             ·intro w'
              go_simp
              with_reducible rfl
             rotate_left
             ·simp only [Act.put,List.setIfInBounds_toArray,List.set_cons_zero,List.set_cons_succ,i64_w,i32_w]
              rfl
             refine pure_ (i:=4) (N:=some 58) (v:=?_) (a':=?_) #[true,true,true,true,true,false,false,false,false,false,false,false,false,false,false] rfl rfl (any_of HT_.out (by kernel_rfl)) (fun _ _ _ h => h) (Or.inl ⟨by rfl,?_⟩) ?_ ?_
             rotate_left
             ·intro w'
              go_simp
              with_reducible rfl
             rotate_left
             ·simp only [Act.put,List.setIfInBounds_toArray,List.set_cons_zero,List.set_cons_succ,i64_w,i32_w]
              rfl
             refine pure_ (i:=6) (N:=some 60) (v:=?_) (a':=?_) #[true,true,true,true,true,false,true,false,false,false,false,false,false,false,false] rfl rfl (any_of HT_.out (by kernel_rfl)) (fun _ _ _ h => h) (Or.inl ⟨by rfl,?_⟩) ?_ ?_
             rotate_left
             ·intro w'
              go_simp
              with_reducible rfl
             rotate_left
             ·simp only [Act.put,List.setIfInBounds_toArray,List.set_cons_zero,List.set_cons_succ,i64_w,i32_w]
              rfl
             refine pure_ (i:=7) (N:=some 61) (v:=?_) (a':=?_) #[true,true,true,true,true,false,true,true,false,false,false,false,false,false,false] rfl rfl (any_of HT_.out (by kernel_rfl)) (fun _ _ _ h => h) (Or.inl ⟨by rfl,?_⟩) ?_ ?_
             rotate_left
             ·intro w'
              go_simp
              with_reducible rfl
             rotate_left
             ·simp only [Act.put,List.setIfInBounds_toArray,List.set_cons_zero,List.set_cons_succ,i64_w,i32_w]
              rfl
             refine pure_ (i:=8) (N:=some 62) (v:=?_) (a':=?_) #[true,true,true,true,true,false,true,true,true,false,false,false,false,false,false] rfl rfl (any_of HT_.out (by kernel_rfl)) (fun _ _ _ h => h) (Or.inl ⟨by rfl,?_⟩) ?_ ?_
             rotate_left
             ·intro w'
              go_simp
              with_reducible rfl
             rotate_left
             ·simp only [Act.put,List.setIfInBounds_toArray,List.set_cons_zero,List.set_cons_succ,i64_w,i32_w]
              rfl
             refine take_ (i:=5) (N:=some 59) (v:=?_) (a':=?_) #[true,true,true,true,true,true,true,true,true,false,false,false,false,false,false] rfl rfl (take_ofW HT_.out HW_.out (by kernel_rfl)) (fun _ _ _ h => h) (Or.inl ⟨by rfl,?_⟩) hHeld ?_ ?_
             rotate_left
             ·rintro w' ⟨s0,s1,s2,s3,s4,s5,s6,s7,s8,s9,s10,s11,s12,s13,s14,s15,s16,s17⟩
              go_simp
              with_reducible rfl
             rotate_left
             ·simp only [Act.put,List.setIfInBounds_toArray,List.set_cons_zero,List.set_cons_succ,i64_w,i32_w]
              rfl
             refine take_ (i:=9) (N:=some 63) (v:=?_) (a':=?_) #[true,true,true,true,true,true,true,true,true,true,false,false,false,false,false] rfl rfl (take_ofW HT_.out HW_.out (by kernel_rfl)) (fun _ _ _ h => h) (Or.inl ⟨by rfl,?_⟩) hHeld ?_ ?_
             rotate_left
             ·rintro w' ⟨s0,s1,s2,s3,s4,s5,s6,s7,s8,s9,s10,s11,s12,s13,s14,s15,s16,s17⟩
              go_simp
              with_reducible rfl
             rotate_left
             ·simp only [Act.put,List.setIfInBounds_toArray,List.set_cons_zero,List.set_cons_succ,i64_w,i32_w]
              rfl
             refine one_ (i:=10) (N:=some 64) #[true,true,true,true,true,true,true,true,true,true,true,false,false,false,false] rfl rfl (one_of HT_.out (by kernel_rfl)) (by decide) (fun K hK => ?_)
             refine goes_ Try.func65 (by kernel_rfl) rfl #[.int .i64 ((rd_T71 x11_14 a1).f0),.int .i64 ((rd_T71 x11_14 a1).f6)] (by rfl) rfl rfl (by (try simp only [List.map_toArray,List.map_cons,List.map_nil]);first | done | rfl|(simp only [List.length_drop,List.length_take];rfl)) ?_
             with_reducible refine (spec_l09Wait.calls ((rd_T71 x11_14 a1).f0) ((rd_T71 x11_14 a1).f6) t1112 _ A27.out).mono ?_
             rintro e w30 ⟨rfl,hb⟩
             have HS0_:=(hb.cell (wLt _ _ (hHeld.1))).trans (hHeld.1)
             have HS1_:=(hb.cell (wLt _ _ (hHeld.2.1))).trans (hHeld.2.1)
             have HS2_:=(hb.cell (wLt _ _ (hHeld.2.2.1))).trans (hHeld.2.2.1)
             have HS3_:=(hb.cell (wLt _ _ (hHeld.2.2.2.1))).trans (hHeld.2.2.2.1)
             have HS4_:=(hb.cell (wLt _ _ (hHeld.2.2.2.2.1))).trans (hHeld.2.2.2.2.1)
             have HS5_:=(hb.cell (wLt _ _ (hHeld.2.2.2.2.2.1))).trans (hHeld.2.2.2.2.2.1)
             have HS6_:=(hb.cell (wLt _ _ (hHeld.2.2.2.2.2.2.1))).trans (hHeld.2.2.2.2.2.2.1)
             have HS7_:=(hb.cell (wLt _ _ (hHeld.2.2.2.2.2.2.2.1))).trans (hHeld.2.2.2.2.2.2.2.1)
             have HS8_:=(hb.cell (wLt _ _ (hHeld.2.2.2.2.2.2.2.2.1))).trans (hHeld.2.2.2.2.2.2.2.2.1)
             have HS9_:=(hb.cell (wLt _ _ (hHeld.2.2.2.2.2.2.2.2.2.1))).trans (hHeld.2.2.2.2.2.2.2.2.2.1)
             have HS10_:=(hb.cell (wLt _ _ (hHeld.2.2.2.2.2.2.2.2.2.2.1))).trans (hHeld.2.2.2.2.2.2.2.2.2.2.1)
             have HS11_:=(hb.cell (wLt _ _ (hHeld.2.2.2.2.2.2.2.2.2.2.2.1))).trans (hHeld.2.2.2.2.2.2.2.2.2.2.2.1)
             have HS12_:=(hb.cell (wLt _ _ (hHeld.2.2.2.2.2.2.2.2.2.2.2.2.1))).trans (hHeld.2.2.2.2.2.2.2.2.2.2.2.2.1)
             have HS13_:=(hb.cell (wLt _ _ (hHeld.2.2.2.2.2.2.2.2.2.2.2.2.2.1))).trans (hHeld.2.2.2.2.2.2.2.2.2.2.2.2.2.1)
             have HS14_:=(hb.cell (wLt _ _ (hHeld.2.2.2.2.2.2.2.2.2.2.2.2.2.2.1))).trans (hHeld.2.2.2.2.2.2.2.2.2.2.2.2.2.2.1)
             have HS15_:=(hb.cell (wLt _ _ (hHeld.2.2.2.2.2.2.2.2.2.2.2.2.2.2.2.1))).trans (hHeld.2.2.2.2.2.2.2.2.2.2.2.2.2.2.2.1)
             have HS16_:=(hb.cell (wLt _ _ (hHeld.2.2.2.2.2.2.2.2.2.2.2.2.2.2.2.2.1))).trans (hHeld.2.2.2.2.2.2.2.2.2.2.2.2.2.2.2.2.1)
             have HS17_:=(hb.cell (wLt _ _ (hHeld.2.2.2.2.2.2.2.2.2.2.2.2.2.2.2.2.2))).trans (hHeld.2.2.2.2.2.2.2.2.2.2.2.2.2.2.2.2.2)
             refine ⟨_,rfl,?_⟩
             have n0_:=aMk (Kd.R_below (by (with_reducible repeat (first|apply Kd.R_alloc|apply Kd.R_drewN|apply Kd.R_drew));exact HO_11.out) hb)
             have n1_:=aMk (bSt hb)
             clear HO_11
             clear HB
             have HO_11:=n0_
             have HB:=n1_
             clear n0_ n1_
             (try clear hb)
             (try clear hb2)
             (try clear hk)
             (try clear hi)
             have p28 : 0 ≤ (a1 : Int):=of_decide_eq_true (by first|(with_reducible assumption) | assumption)
             have q28 : (a1 : Int) < ((x11_14.length : Int) : Int):=of_decide_eq_true (by first|(with_reducible assumption) | assumption)
             obtain ⟨go28,co28,eo28,gb28,gl28,cl28,HG28⟩:=Kd.R_form HO_11.out (by omega)
             (first|cases eo28|(injection eo28 with ea_ en_ ec_;(first|subst ea_|(injection ea_ with ea_;subst ea_));subst ec_;clear en_))
             have GB28:=aMk gb28
             have GG28:=aMk HG28
             clear gb28 gl28 HG28
             (first|simp only [add_plain] at hx1109_0 | skip)
             (first|simp only [add_plain] at hx1109_1 | skip)
             (first|simp only [add_plain] at hx1109_2 | skip)
             (first|simp only [add_plain] at hx1109_3 | skip)
             (first|simp only [add_plain] at hx1109_4 | skip)
             (first|simp only [add_plain] at hx1109_5 | skip)
             (first|simp only [add_plain] at hx1109_6 | skip)
             (first|simp only [add_plain] at hx1109_7 | skip)
             (first|simp only [add_plain] at hx1109_8 | skip)
             (first|simp only [add_plain] at hx1110_0 | skip)
             (first|simp only [add_plain] at hx1110_1 | skip)
             (first|simp only [add_plain] at hx1110_2 | skip)
             (first|simp only [add_plain] at hx1110_3 | skip)
             (first|simp only [add_plain] at hx1110_4 | skip)
             (first|simp only [add_plain] at hx1110_5 | skip)
             (first|simp only [add_plain] at hx1110_6 | skip)
             (first|simp only [add_plain] at hx1110_7 | skip)
             (first|simp only [add_plain] at hx1110_8 | skip)
             (first|simp only [add_plain] at hx1111_0 | skip)
             (first|simp only [add_plain] at hx1111_1 | skip)
             (first|simp only [add_plain] at hx1111_2 | skip)
             (first|simp only [add_plain] at hx1111_3 | skip)
             (first|simp only [add_plain] at hx1111_4 | skip)
             (first|simp only [add_plain] at hx1111_5 | skip)
             (first|simp only [add_plain] at hx1111_6 | skip)
             (first|simp only [add_plain] at hx1111_7 | skip)
             (first|simp only [add_plain] at hx1111_8 | skip)
             obtain ⟨ce28,hcl28,hM28,hcc28,hfr28⟩:=Kd.R_elem HO_11.out z71 (a1 : Int) p28 q28
             obtain rfl:=k71_openM hM28
             have hx28_0 : World.cell? _ ⟨go28,(a1 : Int).toNat * 9,none⟩ = some (.int .i64 ((rd_T71 x11_14 a1).f0)):=hcc28 0 _ rfl
             have hx28_1 : World.cell? _ ⟨go28,(a1 : Int).toNat * 9 + 1,none⟩ = some (.string ((rd_T71 x11_14 a1).f1)):=hcc28 1 _ rfl
             have hx28_2 : World.cell? _ ⟨go28,(a1 : Int).toNat * 9 + 2,none⟩ = some (.int .i64 ((rd_T71 x11_14 a1).f2)):=hcc28 2 _ rfl
             have hx28_3 : World.cell? _ ⟨go28,(a1 : Int).toNat * 9 + 3,none⟩ = some (.int .i64 ((rd_T71 x11_14 a1).f3)):=hcc28 3 _ rfl
             have hx28_4 : World.cell? _ ⟨go28,(a1 : Int).toNat * 9 + 4,none⟩ = some (.int .i64 ((rd_T71 x11_14 a1).f4)):=hcc28 4 _ rfl
             have hx28_5 : World.cell? _ ⟨go28,(a1 : Int).toNat * 9 + 5,none⟩ = some (.int .i64 ((rd_T71 x11_14 a1).f5)):=hcc28 5 _ rfl
             have hx28_6 : World.cell? _ ⟨go28,(a1 : Int).toNat * 9 + 6,none⟩ = some (.int .i64 ((rd_T71 x11_14 a1).f6)):=hcc28 6 _ rfl
             have hx28_7 : World.cell? _ ⟨go28,(a1 : Int).toNat * 9 + 7,none⟩ = some (.int .i64 ((rd_T71 x11_14 a1).f7)):=hcc28 7 _ rfl
             have hx28_8 : World.cell? _ ⟨go28,(a1 : Int).toNat * 9 + 8,none⟩ = some (.int .i64 ((rd_T71 x11_14 a1).f8)):=hcc28 8 _ rfl
             have hf28_0 : World.frozen? _ ⟨go28,(a1 : Int).toNat * 9,none⟩ = false:=hfr28 0
             have hf28_1 : World.frozen? _ ⟨go28,(a1 : Int).toNat * 9 + 1,none⟩ = false:=hfr28 1
             have hf28_2 : World.frozen? _ ⟨go28,(a1 : Int).toNat * 9 + 2,none⟩ = false:=hfr28 2
             have hf28_3 : World.frozen? _ ⟨go28,(a1 : Int).toNat * 9 + 3,none⟩ = false:=hfr28 3
             have hf28_4 : World.frozen? _ ⟨go28,(a1 : Int).toNat * 9 + 4,none⟩ = false:=hfr28 4
             have hf28_5 : World.frozen? _ ⟨go28,(a1 : Int).toNat * 9 + 5,none⟩ = false:=hfr28 5
             have hf28_6 : World.frozen? _ ⟨go28,(a1 : Int).toNat * 9 + 6,none⟩ = false:=hfr28 6
             have hf28_7 : World.frozen? _ ⟨go28,(a1 : Int).toNat * 9 + 7,none⟩ = false:=hfr28 7
             have hf28_8 : World.frozen? _ ⟨go28,(a1 : Int).toNat * 9 + 8,none⟩ = false:=hfr28 8
             clear hcl28 hcc28 hfr28 hM28
             replace p28:=eq_true p28
             replace q28:=eq_true q28
             obtain ⟨ce31,hcl31,hM31,hcc31,hfr31⟩:=Kd.R_elem HO_11.out z71 (a1 : Int) (of_decide_eq_true (by first|(with_reducible assumption) | assumption)) (by have h_ : (a1 : Int) < ((x11_14.length : Int) : Int):=of_decide_eq_true (by first|(with_reducible assumption) | assumption);first|exact h_|(have e_:=(Kd.R_reads' HO_11.out).1;omega) | simpa using h_)
             obtain rfl:=k71_openM hM31
             have HP31:=(Kd.R_seg HO_11.out (a1 : Int) (of_decide_eq_true (by first|(with_reducible assumption) | assumption)) (by have h_ : (a1 : Int) < ((x11_14.length : Int) : Int):=of_decide_eq_true (by first|(with_reducible assumption) | assumption);first|exact h_|(have e_:=(Kd.R_reads' HO_11.out).1;omega) | simpa using h_) (seg:=[.int .i64 (wrap64 (a4 + t1112))]) (j:=7) hcl31 hcc31 (show 8 ≤ 9 from by decide) (x':=(⟨(rd_T71 x11_14 a1).f0,(rd_T71 x11_14 a1).f1,(rd_T71 x11_14 a1).f2,(rd_T71 x11_14 a1).f3,(rd_T71 x11_14 a1).f4,(rd_T71 x11_14 a1).f5,(rd_T71 x11_14 a1).f6,wrap64 (a4 + t1112),(rd_T71 x11_14 a1).f8⟩ : S71)) (k71_mkM _ _ _ (⟨(rd_T71 x11_14 a1).f0,(rd_T71 x11_14 a1).f1,(rd_T71 x11_14 a1).f2,(rd_T71 x11_14 a1).f3,(rd_T71 x11_14 a1).f4,(rd_T71 x11_14 a1).f5,(rd_T71 x11_14 a1).f6,wrap64 (a4 + t1112),(rd_T71 x11_14 a1).f8⟩ : S71) ) (fun _ hk => hk)).1
             rw [← Ny1113.out] at HP31
             have HQ31:=aMk HP31
             clear hcl31 hcc31 hfr31 hM31 HP31
             refine hK.out _ _ ⟨HS0_,HS1_,HS2_,HS3_,HS4_,HS5_,HS6_,HS7_,HS8_,HS9_,HS10_,HS11_,HS12_,HS13_,HS14_,HS15_,HS16_,HS17_⟩ (fun hHeld => ?_)
             clear hK K
             refine norm_ (a':=?_) ?_ ?_
             rotate_left
             ·show Act.put _ (some 64) _ = _
              simp only [Act.put,List.setIfInBounds_toArray,List.set_cons_zero,List.set_cons_succ,i64_w,i32_w]
              rfl
             refine pure_ (i:=11) (N:=some 65) (v:=?_) (a':=?_) #[true,true,true,true,true,true,true,true,true,true,true,true,false,false,false] rfl rfl (any_of HT_.out (by kernel_rfl)) (fun _ _ _ h => h) (Or.inl ⟨by rfl,?_⟩) ?_ ?_
             rotate_left
             ·intro w'
              go_simp
              with_reducible rfl
             rotate_left
             ·simp only [Act.put,List.setIfInBounds_toArray,List.set_cons_zero,List.set_cons_succ,i64_w,i32_w]
              rfl
             refine pure_ (i:=12) (N:=some 66) (v:=?_) (a':=?_) #[true,true,true,true,true,true,true,true,true,true,true,true,true,false,false] rfl rfl (any_of HT_.out (by kernel_rfl)) (fun _ _ _ h => h) (Or.inl ⟨by rfl,?_⟩) ?_ ?_
             rotate_left
             ·intro w'
              go_simp
              with_reducible rfl
             rotate_left
             ·simp only [Act.put,List.setIfInBounds_toArray,List.set_cons_zero,List.set_cons_succ,i64_w,i32_w]
              rfl
             refine pure_ (i:=13) (N:=some 67) (v:=?_) (a':=?_) #[true,true,true,true,true,true,true,true,true,true,true,true,true,true,false] rfl rfl (any_of HT_.out (by kernel_rfl)) (fun _ _ _ h => h) (Or.inl ⟨by rfl,?_⟩) ?_ ?_
             rotate_left
             ·intro w'
              go_simp
              with_reducible rfl
             rotate_left
             ·simp only [Act.put,List.setIfInBounds_toArray,List.set_cons_zero,List.set_cons_succ,i64_w,i32_w]
              rfl
             refine last_ (i:=14) (N:=none) #[true,true,true,true,true,true,true,true,true,true,true,true,true,true,true] rfl rfl (one_of HT_.out (by kernel_rfl)) (by decide) (fun K hK => ?_)
             refine skip_ (w1:=?_) (by rfl) rfl ?_ ?_
             rotate_left
             ·go_simp
              rfl
             refine hK.out _ _ ?_
             clear hK K
             refine done_ (done_of HT_.out (by kernel_rfl)) ?_
             try go_wp2
             go_ret
             exact ⟨_,by first | rfl|(simp [errW_none,errW_some] <;> rfl)|(simp [*,errW_none,errW_some] <;> rfl),by (with_reducible repeat (first|apply Kd.R_alloc|apply Kd.R_drewN|apply Kd.R_drew));exact HQ31.out,by repeat (first|(with_reducible first|exact HB.out|apply bwA|apply bwN|apply bw1|refine below_set ?_ GB28.out)|exact HB.out)⟩
            ·rw [if_neg c26] at H
             have c26b0 : ((Go.bits .and .i64 a3 1) == 0) = false:=beq_eq_false_iff_ne.mpr c26
             have c26b1 : ((Go.bits .and .i64 a3 1) != 0) = true:=bne_iff_ne.mpr c26
             obtain ⟨y1114,hy1114⟩ : ∃ y_ : List (S71),y_ = (x11_14.set (a1 : Int).toNat (⟨(rd_T71 x11_14 a1).f0,(rd_T71 x11_14 a1).f1,(rd_T71 x11_14 a1).f2,(rd_T71 x11_14 a1).f3,(rd_T71 x11_14 a1).f4,(rd_T71 x11_14 a1).f5,3,(rd_T71 x11_14 a1).f7,(rd_T71 x11_14 a1).f8⟩ : S71)):=⟨_,rfl⟩
             replace H : ((spec_l09Wait.f ((rd_T71 y1114 a1).f0) ((rd_T71 y1114 a1).f6)).bind fun t1117 => (some (y1114.set (a1 : Int).toNat (⟨(rd_T71 y1114 a1).f0,(rd_T71 y1114 a1).f1,(rd_T71 y1114 a1).f2,(rd_T71 y1114 a1).f3,(rd_T71 y1114 a1).f4,(rd_T71 y1114 a1).f5,(rd_T71 y1114 a1).f6,wrap64 (a4 + t1117),(rd_T71 y1114 a1).f8⟩ : S71)))) = some r:=by first|(rw [hy1114];with_reducible exact H)|(have H2_:=(Option.bind_some _ _).symm.trans H;rw [hy1114];with_reducible exact H2_)|(have H2_:=(Option.bind_some _ _).symm.trans H;with_reducible exact H2_) | with_reducible exact H|(rw [hy1114];exact H)|exact H
             have Ny1114:=aMk hy1114
             clear hy1114
             replace H:=Option.bind_eq_some_iff.mp H
             obtain ⟨t1117,A330,H⟩:=H
             replace H : (some (y1114.set (a1 : Int).toNat (⟨(rd_T71 y1114 a1).f0,(rd_T71 y1114 a1).f1,(rd_T71 y1114 a1).f2,(rd_T71 y1114 a1).f3,(rd_T71 y1114 a1).f4,(rd_T71 y1114 a1).f5,(rd_T71 y1114 a1).f6,wrap64 (a4 + t1117),(rd_T71 y1114 a1).f8⟩ : S71))) = some r:=H
             have A33:=aMk A330
             clear A330
             obtain ⟨y1118,hy1118⟩ : ∃ y_ : List (S71),y_ = (y1114.set (a1 : Int).toNat (⟨(rd_T71 y1114 a1).f0,(rd_T71 y1114 a1).f1,(rd_T71 y1114 a1).f2,(rd_T71 y1114 a1).f3,(rd_T71 y1114 a1).f4,(rd_T71 y1114 a1).f5,(rd_T71 y1114 a1).f6,wrap64 (a4 + t1117),(rd_T71 y1114 a1).f8⟩ : S71)):=⟨_,rfl⟩
             replace H : (some y1118) = some r:=by first|(rw [hy1118];with_reducible exact H)|(have H2_:=(Option.bind_some _ _).symm.trans H;rw [hy1118];with_reducible exact H2_)|(have H2_:=(Option.bind_some _ _).symm.trans H;with_reducible exact H2_) | with_reducible exact H|(rw [hy1118];exact H)|exact H
             have Ny1118:=aMk hy1118
             clear hy1118
             obtain rfl:=Option.some.inj H
             have p1109 : 0 ≤ (a1 : Int):=of_decide_eq_true (by first|(with_reducible assumption) | assumption)
             have q1109 : a1 < (x11_14.length : Int):=of_decide_eq_true (by first|(with_reducible assumption) | assumption)
             obtain ⟨ad1109,e1109,hx1109_0,hx1109_1,hx1109_2,hx1109_3,hx1109_4,hx1109_5,hx1109_6,hx1109_7,hx1109_8⟩:=at_T71 (Kd.R_reads' HO_11.out).2.2 a1 p1109 q1109
             obtain rfl : ad1106 = ad1109:=(by injection e1109)
             replace p1109:=eq_true p1109
             replace q1109:=eq_true q1109
             have p32 : 0 ≤ (a1 : Int):=of_decide_eq_true (by first|(with_reducible assumption) | assumption)
             have q32 : (a1 : Int) < ((x11_14.length : Int) : Int):=of_decide_eq_true (by first|(with_reducible assumption) | assumption)
             obtain ⟨go32,co32,eo32,gb32,gl32,cl32,HG32⟩:=Kd.R_form HO_11.out (by omega)
             (first|cases eo32|(injection eo32 with ea_ en_ ec_;(first|subst ea_|(injection ea_ with ea_;subst ea_));subst ec_;clear en_))
             have GB32:=aMk gb32
             have GG32:=aMk HG32
             clear gb32 gl32 HG32
             (first|simp only [add_plain] at hx1109_0 | skip)
             (first|simp only [add_plain] at hx1109_1 | skip)
             (first|simp only [add_plain] at hx1109_2 | skip)
             (first|simp only [add_plain] at hx1109_3 | skip)
             (first|simp only [add_plain] at hx1109_4 | skip)
             (first|simp only [add_plain] at hx1109_5 | skip)
             (first|simp only [add_plain] at hx1109_6 | skip)
             (first|simp only [add_plain] at hx1109_7 | skip)
             (first|simp only [add_plain] at hx1109_8 | skip)
             obtain ⟨ce32,hcl32,hM32,hcc32,hfr32⟩:=Kd.R_elem HO_11.out z71 (a1 : Int) p32 q32
             obtain rfl:=k71_openM hM32
             have hx32_0 : wc.cell? ⟨go32,(a1 : Int).toNat * 9,none⟩ = some (.int .i64 ((rd_T71 x11_14 a1).f0)):=hcc32 0 _ rfl
             have hx32_1 : wc.cell? ⟨go32,(a1 : Int).toNat * 9 + 1,none⟩ = some (.string ((rd_T71 x11_14 a1).f1)):=hcc32 1 _ rfl
             have hx32_2 : wc.cell? ⟨go32,(a1 : Int).toNat * 9 + 2,none⟩ = some (.int .i64 ((rd_T71 x11_14 a1).f2)):=hcc32 2 _ rfl
             have hx32_3 : wc.cell? ⟨go32,(a1 : Int).toNat * 9 + 3,none⟩ = some (.int .i64 ((rd_T71 x11_14 a1).f3)):=hcc32 3 _ rfl
             have hx32_4 : wc.cell? ⟨go32,(a1 : Int).toNat * 9 + 4,none⟩ = some (.int .i64 ((rd_T71 x11_14 a1).f4)):=hcc32 4 _ rfl
             have hx32_5 : wc.cell? ⟨go32,(a1 : Int).toNat * 9 + 5,none⟩ = some (.int .i64 ((rd_T71 x11_14 a1).f5)):=hcc32 5 _ rfl
             have hx32_6 : wc.cell? ⟨go32,(a1 : Int).toNat * 9 + 6,none⟩ = some (.int .i64 ((rd_T71 x11_14 a1).f6)):=hcc32 6 _ rfl
             have hx32_7 : wc.cell? ⟨go32,(a1 : Int).toNat * 9 + 7,none⟩ = some (.int .i64 ((rd_T71 x11_14 a1).f7)):=hcc32 7 _ rfl
             have hx32_8 : wc.cell? ⟨go32,(a1 : Int).toNat * 9 + 8,none⟩ = some (.int .i64 ((rd_T71 x11_14 a1).f8)):=hcc32 8 _ rfl
             have hf32_0 : wc.frozen? ⟨go32,(a1 : Int).toNat * 9,none⟩ = false:=hfr32 0
             have hf32_1 : wc.frozen? ⟨go32,(a1 : Int).toNat * 9 + 1,none⟩ = false:=hfr32 1
             have hf32_2 : wc.frozen? ⟨go32,(a1 : Int).toNat * 9 + 2,none⟩ = false:=hfr32 2
             have hf32_3 : wc.frozen? ⟨go32,(a1 : Int).toNat * 9 + 3,none⟩ = false:=hfr32 3
             have hf32_4 : wc.frozen? ⟨go32,(a1 : Int).toNat * 9 + 4,none⟩ = false:=hfr32 4
             have hf32_5 : wc.frozen? ⟨go32,(a1 : Int).toNat * 9 + 5,none⟩ = false:=hfr32 5
             have hf32_6 : wc.frozen? ⟨go32,(a1 : Int).toNat * 9 + 6,none⟩ = false:=hfr32 6
             have hf32_7 : wc.frozen? ⟨go32,(a1 : Int).toNat * 9 + 7,none⟩ = false:=hfr32 7
             have hf32_8 : wc.frozen? ⟨go32,(a1 : Int).toNat * 9 + 8,none⟩ = false:=hfr32 8
             clear hcl32 hcc32 hfr32 hM32
             replace p32:=eq_true p32
             replace q32:=eq_true q32
             have HX35:=aMk (show Kd.R k71 71 wc w.heap.size (fun _ => True) (.slice (some ⟨go32,0,none⟩) x11_14.length co13) x11_14 from (by (with_reducible repeat (first|apply Kd.R_alloc|apply Kd.R_drewN|apply Kd.R_drew));exact HO_11.out))
             obtain ⟨ce35,hcl35,hM35,hcc35,hfr35⟩:=Kd.R_elem HX35.out z71 (a1 : Int) (of_decide_eq_true (by first|(with_reducible assumption) | assumption)) (by have h_ : (a1 : Int) < ((x11_14.length : Int) : Int):=of_decide_eq_true (by first|(with_reducible assumption) | assumption);first|exact h_|(have e_:=(Kd.R_reads' HO_11.out).1;omega) | simpa using h_)
             obtain rfl:=k71_openM hM35
             have HP35:=Kd.R_seg HX35.out (a1 : Int) (of_decide_eq_true (by first|(with_reducible assumption) | assumption)) (by have h_ : (a1 : Int) < ((x11_14.length : Int) : Int):=of_decide_eq_true (by first|(with_reducible assumption) | assumption);first|exact h_|(have e_:=(Kd.R_reads' HO_11.out).1;omega) | simpa using h_) (seg:=[.int .i64 3]) (j:=6) hcl35 hcc35 (show 7 ≤ 9 from by decide) (x':=(⟨(rd_T71 x11_14 a1).f0,(rd_T71 x11_14 a1).f1,(rd_T71 x11_14 a1).f2,(rd_T71 x11_14 a1).f3,(rd_T71 x11_14 a1).f4,(rd_T71 x11_14 a1).f5,3,(rd_T71 x11_14 a1).f7,(rd_T71 x11_14 a1).f8⟩ : S71)) (k71_mkM _ _ _ (⟨(rd_T71 x11_14 a1).f0,(rd_T71 x11_14 a1).f1,(rd_T71 x11_14 a1).f2,(rd_T71 x11_14 a1).f3,(rd_T71 x11_14 a1).f4,(rd_T71 x11_14 a1).f5,3,(rd_T71 x11_14 a1).f7,(rd_T71 x11_14 a1).f8⟩ : S71) ) (fun _ hk => hk)
             have hx35_6:=hcc35 6 _ rfl
             (try simp only [show (k71).sz = 9 from rfl,Nat.mul_one,Nat.add_zero] at hx35_6)
             have hf35_6:=hfr35 6
             (try simp only [show (k71).sz = 9 from rfl,Nat.mul_one,Nat.add_zero] at hf35_6)
             clear hcl35 hcc35 hfr35 hM35
             try go_wp2_with (first|((with_reducible refine gate_store (t:=3) (p:=53) rfl ?_);refine store_event (t:=3) (p:=53) (v:=?vo_w36) (w1:=(wc.setCell ⟨go32,(a1 : Int).toNat * 9 + 6,none⟩ (.int .i64 3))) ?hg ?ho ?hn ?hr ?_;(case ho => rfl);(case hg => rfl);(case hn => rfl);(case hr => first|(go_simp;done)|(go_simp;rfl));intro w36 hw;have hg : wc.grownBy w36 (some go32):=(by rw [hw];exact HP35.2);have hp_ : Kd.R k71 71 w36 w.heap.size (fun _ => True) (.slice (some ⟨go32,0,none⟩) x11_14.length co13) y1114:=(by rw [hw,Ny1114.out];exact HP35.1);clear HP35;have n0_:=aMk (hp_);have n1_:=aMk ((by rw [hw];exact below_set (HB.out) GB32.out : Below w.heap.size w w36));clear HO_11;clear HB;have HO_11:=n0_;have HB:=n1_;clear n0_ n1_;clear hg hw hp_))
             have n0_:=aMk (Kd.R_drew HO_11.out)
             have n1_:=aMk (bw1 HB.out)
             clear HO_11
             clear HB
             have HO_11:=n0_
             have HB:=n1_
             clear n0_ n1_
             have p1115 : 0 ≤ (a1 : Int):=of_decide_eq_true (by first|(with_reducible assumption) | assumption)
             have q1115 : a1 < (y1114.length : Int):=(by have h_ : (a1 : Int) < ((x11_14.length : Int) : Int):=of_decide_eq_true (by first|(with_reducible assumption) | assumption);first|(have e_:=(Kd.R_reads' HO_11.out).1;omega) | simpa only [Ny1114.out,List.length_set] using h_)
             have ql1115 : ((a1 : Int) < ((x11_14.length : Int) : Int)) = True:=eq_true (of_decide_eq_true (by first|(with_reducible assumption) | assumption))
             obtain ⟨ad1115,e1115,hx1115_0,hx1115_1,hx1115_2,hx1115_3,hx1115_4,hx1115_5,hx1115_6,hx1115_7,hx1115_8⟩:=at_T71 (Kd.R_reads' HO_11.out).2.2 a1 p1115 q1115
             obtain rfl : (⟨go32,0,none⟩ : Addr) = ad1115:=(by injection e1115)
             (first|simp only [add_plain] at hx1115_0 | simp only [add_at] at hx1115_0 | simp only [Addr.add,Nat.zero_add] at hx1115_0 | skip)
             (first|simp only [add_plain] at hx1115_1 | simp only [add_at] at hx1115_1 | simp only [Addr.add,Nat.zero_add] at hx1115_1 | skip)
             (first|simp only [add_plain] at hx1115_2 | simp only [add_at] at hx1115_2 | simp only [Addr.add,Nat.zero_add] at hx1115_2 | skip)
             (first|simp only [add_plain] at hx1115_3 | simp only [add_at] at hx1115_3 | simp only [Addr.add,Nat.zero_add] at hx1115_3 | skip)
             (first|simp only [add_plain] at hx1115_4 | simp only [add_at] at hx1115_4 | simp only [Addr.add,Nat.zero_add] at hx1115_4 | skip)
             (first|simp only [add_plain] at hx1115_5 | simp only [add_at] at hx1115_5 | simp only [Addr.add,Nat.zero_add] at hx1115_5 | skip)
             (first|simp only [add_plain] at hx1115_6 | simp only [add_at] at hx1115_6 | simp only [Addr.add,Nat.zero_add] at hx1115_6 | skip)
             (first|simp only [add_plain] at hx1115_7 | simp only [add_at] at hx1115_7 | simp only [Addr.add,Nat.zero_add] at hx1115_7 | skip)
             (first|simp only [add_plain] at hx1115_8 | simp only [add_at] at hx1115_8 | simp only [Addr.add,Nat.zero_add] at hx1115_8 | skip)
             replace p1115:=eq_true p1115
             replace q1115:=eq_true q1115
             have p1116 : 0 ≤ (a1 : Int):=of_decide_eq_true (by first|(with_reducible assumption) | assumption)
             have q1116 : a1 < (y1114.length : Int):=(by have h_ : (a1 : Int) < ((x11_14.length : Int) : Int):=of_decide_eq_true (by first|(with_reducible assumption) | assumption);first|(have e_:=(Kd.R_reads' HO_11.out).1;omega) | simpa only [Ny1114.out,List.length_set] using h_)
             have ql1116 : ((a1 : Int) < ((x11_14.length : Int) : Int)) = True:=eq_true (of_decide_eq_true (by first|(with_reducible assumption) | assumption))
             obtain ⟨ad1116,e1116,hx1116_0,hx1116_1,hx1116_2,hx1116_3,hx1116_4,hx1116_5,hx1116_6,hx1116_7,hx1116_8⟩:=at_T71 (Kd.R_reads' HO_11.out).2.2 a1 p1116 q1116
             obtain rfl : (⟨go32,0,none⟩ : Addr) = ad1116:=(by injection e1116)
             (first|simp only [add_plain] at hx1116_0 | simp only [add_at] at hx1116_0 | simp only [Addr.add,Nat.zero_add] at hx1116_0 | skip)
             (first|simp only [add_plain] at hx1116_1 | simp only [add_at] at hx1116_1 | simp only [Addr.add,Nat.zero_add] at hx1116_1 | skip)
             (first|simp only [add_plain] at hx1116_2 | simp only [add_at] at hx1116_2 | simp only [Addr.add,Nat.zero_add] at hx1116_2 | skip)
             (first|simp only [add_plain] at hx1116_3 | simp only [add_at] at hx1116_3 | simp only [Addr.add,Nat.zero_add] at hx1116_3 | skip)
             (first|simp only [add_plain] at hx1116_4 | simp only [add_at] at hx1116_4 | simp only [Addr.add,Nat.zero_add] at hx1116_4 | skip)
             (first|simp only [add_plain] at hx1116_5 | simp only [add_at] at hx1116_5 | simp only [Addr.add,Nat.zero_add] at hx1116_5 | skip)
             (first|simp only [add_plain] at hx1116_6 | simp only [add_at] at hx1116_6 | simp only [Addr.add,Nat.zero_add] at hx1116_6 | skip)
             (first|simp only [add_plain] at hx1116_7 | simp only [add_at] at hx1116_7 | simp only [Addr.add,Nat.zero_add] at hx1116_7 | skip)
             (first|simp only [add_plain] at hx1116_8 | simp only [add_at] at hx1116_8 | simp only [Addr.add,Nat.zero_add] at hx1116_8 | skip)
             replace p1116:=eq_true p1116
             replace q1116:=eq_true q1116
             refine start_ (n:=15) (S:=fun w' => w'.cell? ⟨go32,(a1).toNat * 9,none⟩ = some (.int .i64 ((rd_T71 y1114 a1).f0)) ∧ w'.cell? ⟨go32,(a1).toNat * 9 + 1,none⟩ = some (.string ((rd_T71 y1114 a1).f1)) ∧ w'.cell? ⟨go32,(a1).toNat * 9 + 2,none⟩ = some (.int .i64 ((rd_T71 y1114 a1).f2)) ∧ w'.cell? ⟨go32,(a1).toNat * 9 + 3,none⟩ = some (.int .i64 ((rd_T71 y1114 a1).f3)) ∧ w'.cell? ⟨go32,(a1).toNat * 9 + 4,none⟩ = some (.int .i64 ((rd_T71 y1114 a1).f4)) ∧ w'.cell? ⟨go32,(a1).toNat * 9 + 5,none⟩ = some (.int .i64 ((rd_T71 y1114 a1).f5)) ∧ w'.cell? ⟨go32,(a1).toNat * 9 + 6,none⟩ = some (.int .i64 ((rd_T71 y1114 a1).f6)) ∧ w'.cell? ⟨go32,(a1).toNat * 9 + 7,none⟩ = some (.int .i64 ((rd_T71 y1114 a1).f7)) ∧ w'.cell? ⟨go32,(a1).toNat * 9 + 8,none⟩ = some (.int .i64 ((rd_T71 y1114 a1).f8)) ∧ w'.cell? ⟨go32,(a1).toNat * 9,none⟩ = some (.int .i64 ((rd_T71 y1114 a1).f0)) ∧ w'.cell? ⟨go32,(a1).toNat * 9 + 1,none⟩ = some (.string ((rd_T71 y1114 a1).f1)) ∧ w'.cell? ⟨go32,(a1).toNat * 9 + 2,none⟩ = some (.int .i64 ((rd_T71 y1114 a1).f2)) ∧ w'.cell? ⟨go32,(a1).toNat * 9 + 3,none⟩ = some (.int .i64 ((rd_T71 y1114 a1).f3)) ∧ w'.cell? ⟨go32,(a1).toNat * 9 + 4,none⟩ = some (.int .i64 ((rd_T71 y1114 a1).f4)) ∧ w'.cell? ⟨go32,(a1).toNat * 9 + 5,none⟩ = some (.int .i64 ((rd_T71 y1114 a1).f5)) ∧ w'.cell? ⟨go32,(a1).toNat * 9 + 6,none⟩ = some (.int .i64 ((rd_T71 y1114 a1).f6)) ∧ w'.cell? ⟨go32,(a1).toNat * 9 + 7,none⟩ = some (.int .i64 ((rd_T71 y1114 a1).f7)) ∧ w'.cell? ⟨go32,(a1).toNat * 9 + 8,none⟩ = some (.int .i64 ((rd_T71 y1114 a1).f8))) (ds:=[14]) #[false,false,false,false,false,false,false,false,false,false,false,false,false,false,false] (by kernel_rfl) rfl rfl ⟨hx1115_0,hx1115_1,hx1115_2,hx1115_3,hx1115_4,hx1115_5,hx1115_6,hx1115_7,hx1115_8,hx1116_0,hx1116_1,hx1116_2,hx1116_3,hx1116_4,hx1116_5,hx1116_6,hx1116_7,hx1116_8⟩ (fun hHeld => ?_);refine with_tabW spec_l09Pass.tab10 spec_l09Pass.bits10 (fun HT_ HW_ => ?_)
             generalize w36.drew = w37 at HO_11 HB hx1115_0 hx1115_1 hx1115_2 hx1115_3 hx1115_4 hx1115_5 hx1115_6 hx1115_7 hx1115_8 hx1116_0 hx1116_1 hx1116_2 hx1116_3 hx1116_4 hx1116_5 hx1116_6 hx1116_7 hx1116_8 hHeld ⊢
             refine pure_ (i:=0) (N:=some 54) (v:=?_) (a':=?_) #[true,false,false,false,false,false,false,false,false,false,false,false,false,false,false] rfl rfl (any_of HT_.out (by kernel_rfl)) (fun _ _ _ h => h) (Or.inl ⟨by rfl,?_⟩) ?_ ?_
             rotate_left
             ·intro w'
              go_simp
              with_reducible rfl
             rotate_left
             ·simp only [Act.put,List.setIfInBounds_toArray,List.set_cons_zero,List.set_cons_succ,i64_w,i32_w]
              rfl
             refine pure_ (i:=1) (N:=some 55) (v:=?_) (a':=?_) #[true,true,false,false,false,false,false,false,false,false,false,false,false,false,false] rfl rfl (any_of HT_.out (by kernel_rfl)) (fun _ _ _ h => h) (Or.inl ⟨by rfl,?_⟩) ?_ ?_
             rotate_left
             ·intro w'
              go_simp
              with_reducible rfl
             rotate_left
             ·simp only [Act.put,List.setIfInBounds_toArray,List.set_cons_zero,List.set_cons_succ,i64_w,i32_w]
              rfl
             refine pure_ (i:=2) (N:=some 56) (v:=?_) (a':=?_) #[true,true,true,false,false,false,false,false,false,false,false,false,false,false,false] rfl rfl (any_of HT_.out (by kernel_rfl)) (fun _ _ _ h => h) (Or.inl ⟨by rfl,?_⟩) ?_ ?_
             rotate_left
             ·intro w'
              go_simp
              with_reducible rfl
             rotate_left
             ·simp only [Act.put,List.setIfInBounds_toArray,List.set_cons_zero,List.set_cons_succ,i64_w,i32_w]
              rfl
             refine pure_ (i:=3) (N:=some 57) (v:=?_) (a':=?_) #[true,true,true,true,false,false,false,false,false,false,false,false,false,false,false] rfl rfl (any_of HT_.out (by kernel_rfl)) (fun _ _ _ h => h) (Or.inl ⟨by rfl,?_⟩) ?_ ?_
             rotate_left
             ·intro w'
              go_simp
              with_reducible rfl
             rotate_left
             ·simp only [Act.put,List.setIfInBounds_toArray,List.set_cons_zero,List.set_cons_succ,i64_w,i32_w]
              rfl
             refine pure_ (i:=4) (N:=some 58) (v:=?_) (a':=?_) #[true,true,true,true,true,false,false,false,false,false,false,false,false,false,false] rfl rfl (any_of HT_.out (by kernel_rfl)) (fun _ _ _ h => h) (Or.inl ⟨by rfl,?_⟩) ?_ ?_
             rotate_left
             ·intro w'
              go_simp
              with_reducible rfl
             rotate_left
             ·simp only [Act.put,List.setIfInBounds_toArray,List.set_cons_zero,List.set_cons_succ,i64_w,i32_w]
              rfl
             refine pure_ (i:=6) (N:=some 60) (v:=?_) (a':=?_) #[true,true,true,true,true,false,true,false,false,false,false,false,false,false,false] rfl rfl (any_of HT_.out (by kernel_rfl)) (fun _ _ _ h => h) (Or.inl ⟨by rfl,?_⟩) ?_ ?_
             rotate_left
             ·intro w'
              go_simp
              with_reducible rfl
             rotate_left
             ·simp only [Act.put,List.setIfInBounds_toArray,List.set_cons_zero,List.set_cons_succ,i64_w,i32_w]
              rfl
             refine pure_ (i:=7) (N:=some 61) (v:=?_) (a':=?_) #[true,true,true,true,true,false,true,true,false,false,false,false,false,false,false] rfl rfl (any_of HT_.out (by kernel_rfl)) (fun _ _ _ h => h) (Or.inl ⟨by rfl,?_⟩) ?_ ?_
             rotate_left
             ·intro w'
              go_simp
              with_reducible rfl
             rotate_left
             ·simp only [Act.put,List.setIfInBounds_toArray,List.set_cons_zero,List.set_cons_succ,i64_w,i32_w]
              rfl
             refine pure_ (i:=8) (N:=some 62) (v:=?_) (a':=?_) #[true,true,true,true,true,false,true,true,true,false,false,false,false,false,false] rfl rfl (any_of HT_.out (by kernel_rfl)) (fun _ _ _ h => h) (Or.inl ⟨by rfl,?_⟩) ?_ ?_
             rotate_left
             ·intro w'
              go_simp
              with_reducible rfl
             rotate_left
             ·simp only [Act.put,List.setIfInBounds_toArray,List.set_cons_zero,List.set_cons_succ,i64_w,i32_w]
              rfl
             refine take_ (i:=5) (N:=some 59) (v:=?_) (a':=?_) #[true,true,true,true,true,true,true,true,true,false,false,false,false,false,false] rfl rfl (take_ofW HT_.out HW_.out (by kernel_rfl)) (fun _ _ _ h => h) (Or.inl ⟨by rfl,?_⟩) hHeld ?_ ?_
             rotate_left
             ·rintro w' ⟨s0,s1,s2,s3,s4,s5,s6,s7,s8,s9,s10,s11,s12,s13,s14,s15,s16,s17⟩
              go_simp
              with_reducible rfl
             rotate_left
             ·simp only [Act.put,List.setIfInBounds_toArray,List.set_cons_zero,List.set_cons_succ,i64_w,i32_w]
              rfl
             refine take_ (i:=9) (N:=some 63) (v:=?_) (a':=?_) #[true,true,true,true,true,true,true,true,true,true,false,false,false,false,false] rfl rfl (take_ofW HT_.out HW_.out (by kernel_rfl)) (fun _ _ _ h => h) (Or.inl ⟨by rfl,?_⟩) hHeld ?_ ?_
             rotate_left
             ·rintro w' ⟨s0,s1,s2,s3,s4,s5,s6,s7,s8,s9,s10,s11,s12,s13,s14,s15,s16,s17⟩
              go_simp
              with_reducible rfl
             rotate_left
             ·simp only [Act.put,List.setIfInBounds_toArray,List.set_cons_zero,List.set_cons_succ,i64_w,i32_w]
              rfl
             refine one_ (i:=10) (N:=some 64) #[true,true,true,true,true,true,true,true,true,true,true,false,false,false,false] rfl rfl (one_of HT_.out (by kernel_rfl)) (by decide) (fun K hK => ?_)
             refine goes_ Try.func65 (by kernel_rfl) rfl #[.int .i64 ((rd_T71 y1114 a1).f0),.int .i64 ((rd_T71 y1114 a1).f6)] (by rfl) rfl rfl (by (try simp only [List.map_toArray,List.map_cons,List.map_nil]);first | done | rfl|(simp only [List.length_drop,List.length_take];rfl)) ?_
             with_reducible refine (spec_l09Wait.calls ((rd_T71 y1114 a1).f0) ((rd_T71 y1114 a1).f6) t1117 _ A33.out).mono ?_
             rintro e w38 ⟨rfl,hb⟩
             have HS0_:=(hb.cell (wLt _ _ (hHeld.1))).trans (hHeld.1)
             have HS1_:=(hb.cell (wLt _ _ (hHeld.2.1))).trans (hHeld.2.1)
             have HS2_:=(hb.cell (wLt _ _ (hHeld.2.2.1))).trans (hHeld.2.2.1)
             have HS3_:=(hb.cell (wLt _ _ (hHeld.2.2.2.1))).trans (hHeld.2.2.2.1)
             have HS4_:=(hb.cell (wLt _ _ (hHeld.2.2.2.2.1))).trans (hHeld.2.2.2.2.1)
             have HS5_:=(hb.cell (wLt _ _ (hHeld.2.2.2.2.2.1))).trans (hHeld.2.2.2.2.2.1)
             have HS6_:=(hb.cell (wLt _ _ (hHeld.2.2.2.2.2.2.1))).trans (hHeld.2.2.2.2.2.2.1)
             have HS7_:=(hb.cell (wLt _ _ (hHeld.2.2.2.2.2.2.2.1))).trans (hHeld.2.2.2.2.2.2.2.1)
             have HS8_:=(hb.cell (wLt _ _ (hHeld.2.2.2.2.2.2.2.2.1))).trans (hHeld.2.2.2.2.2.2.2.2.1)
             have HS9_:=(hb.cell (wLt _ _ (hHeld.2.2.2.2.2.2.2.2.2.1))).trans (hHeld.2.2.2.2.2.2.2.2.2.1)
             have HS10_:=(hb.cell (wLt _ _ (hHeld.2.2.2.2.2.2.2.2.2.2.1))).trans (hHeld.2.2.2.2.2.2.2.2.2.2.1)
             have HS11_:=(hb.cell (wLt _ _ (hHeld.2.2.2.2.2.2.2.2.2.2.2.1))).trans (hHeld.2.2.2.2.2.2.2.2.2.2.2.1)
             have HS12_:=(hb.cell (wLt _ _ (hHeld.2.2.2.2.2.2.2.2.2.2.2.2.1))).trans (hHeld.2.2.2.2.2.2.2.2.2.2.2.2.1)
             have HS13_:=(hb.cell (wLt _ _ (hHeld.2.2.2.2.2.2.2.2.2.2.2.2.2.1))).trans (hHeld.2.2.2.2.2.2.2.2.2.2.2.2.2.1)
             have HS14_:=(hb.cell (wLt _ _ (hHeld.2.2.2.2.2.2.2.2.2.2.2.2.2.2.1))).trans (hHeld.2.2.2.2.2.2.2.2.2.2.2.2.2.2.1)
             have HS15_:=(hb.cell (wLt _ _ (hHeld.2.2.2.2.2.2.2.2.2.2.2.2.2.2.2.1))).trans (hHeld.2.2.2.2.2.2.2.2.2.2.2.2.2.2.2.1)
             have HS16_:=(hb.cell (wLt _ _ (hHeld.2.2.2.2.2.2.2.2.2.2.2.2.2.2.2.2.1))).trans (hHeld.2.2.2.2.2.2.2.2.2.2.2.2.2.2.2.2.1)
             have HS17_:=(hb.cell (wLt _ _ (hHeld.2.2.2.2.2.2.2.2.2.2.2.2.2.2.2.2.2))).trans (hHeld.2.2.2.2.2.2.2.2.2.2.2.2.2.2.2.2.2)
             refine ⟨_,rfl,?_⟩
             have n0_:=aMk (Kd.R_below (by (with_reducible repeat (first|apply Kd.R_alloc|apply Kd.R_drewN|apply Kd.R_drew));exact HO_11.out) hb)
             have n1_:=aMk (bSt hb)
             clear HO_11
             clear HB
             have HO_11:=n0_
             have HB:=n1_
             clear n0_ n1_
             (try clear hb)
             (try clear hb2)
             (try clear hk)
             (try clear hi)
             have p34 : 0 ≤ (a1 : Int):=of_decide_eq_true (by first|(with_reducible assumption) | assumption)
             have q34 : (a1 : Int) < ((x11_14.length : Int) : Int):=of_decide_eq_true (by first|(with_reducible assumption) | assumption)
             obtain ⟨ce34,hcl34,hM34,hcc34,hfr34⟩:=Kd.R_elem HO_11.out z71 (a1 : Int) p34 q34
             obtain rfl:=k71_openM hM34
             have hx34_0 : World.cell? _ ⟨go32,(a1 : Int).toNat * 9,none⟩ = some (.int .i64 ((rd_T71 y1114 a1).f0)):=hcc34 0 _ rfl
             have hx34_1 : World.cell? _ ⟨go32,(a1 : Int).toNat * 9 + 1,none⟩ = some (.string ((rd_T71 y1114 a1).f1)):=hcc34 1 _ rfl
             have hx34_2 : World.cell? _ ⟨go32,(a1 : Int).toNat * 9 + 2,none⟩ = some (.int .i64 ((rd_T71 y1114 a1).f2)):=hcc34 2 _ rfl
             have hx34_3 : World.cell? _ ⟨go32,(a1 : Int).toNat * 9 + 3,none⟩ = some (.int .i64 ((rd_T71 y1114 a1).f3)):=hcc34 3 _ rfl
             have hx34_4 : World.cell? _ ⟨go32,(a1 : Int).toNat * 9 + 4,none⟩ = some (.int .i64 ((rd_T71 y1114 a1).f4)):=hcc34 4 _ rfl
             have hx34_5 : World.cell? _ ⟨go32,(a1 : Int).toNat * 9 + 5,none⟩ = some (.int .i64 ((rd_T71 y1114 a1).f5)):=hcc34 5 _ rfl
             have hx34_6 : World.cell? _ ⟨go32,(a1 : Int).toNat * 9 + 6,none⟩ = some (.int .i64 ((rd_T71 y1114 a1).f6)):=hcc34 6 _ rfl
             have hx34_7 : World.cell? _ ⟨go32,(a1 : Int).toNat * 9 + 7,none⟩ = some (.int .i64 ((rd_T71 y1114 a1).f7)):=hcc34 7 _ rfl
             have hx34_8 : World.cell? _ ⟨go32,(a1 : Int).toNat * 9 + 8,none⟩ = some (.int .i64 ((rd_T71 y1114 a1).f8)):=hcc34 8 _ rfl
             have hf34_0 : World.frozen? _ ⟨go32,(a1 : Int).toNat * 9,none⟩ = false:=hfr34 0
             have hf34_1 : World.frozen? _ ⟨go32,(a1 : Int).toNat * 9 + 1,none⟩ = false:=hfr34 1
             have hf34_2 : World.frozen? _ ⟨go32,(a1 : Int).toNat * 9 + 2,none⟩ = false:=hfr34 2
             have hf34_3 : World.frozen? _ ⟨go32,(a1 : Int).toNat * 9 + 3,none⟩ = false:=hfr34 3
             have hf34_4 : World.frozen? _ ⟨go32,(a1 : Int).toNat * 9 + 4,none⟩ = false:=hfr34 4
             have hf34_5 : World.frozen? _ ⟨go32,(a1 : Int).toNat * 9 + 5,none⟩ = false:=hfr34 5
             have hf34_6 : World.frozen? _ ⟨go32,(a1 : Int).toNat * 9 + 6,none⟩ = false:=hfr34 6
             have hf34_7 : World.frozen? _ ⟨go32,(a1 : Int).toNat * 9 + 7,none⟩ = false:=hfr34 7
             have hf34_8 : World.frozen? _ ⟨go32,(a1 : Int).toNat * 9 + 8,none⟩ = false:=hfr34 8
             clear hcl34 hcc34 hfr34 hM34
             replace p34:=eq_true p34
             replace q34:=eq_true q34
             obtain ⟨ce39,hcl39,hM39,hcc39,hfr39⟩:=Kd.R_elem HO_11.out z71 (a1 : Int) (of_decide_eq_true (by first|(with_reducible assumption) | assumption)) (by have h_ : (a1 : Int) < ((x11_14.length : Int) : Int):=of_decide_eq_true (by first|(with_reducible assumption) | assumption);first|exact h_|(have e_:=(Kd.R_reads' HO_11.out).1;omega) | simpa using h_)
             obtain rfl:=k71_openM hM39
             have HP39:=(Kd.R_seg HO_11.out (a1 : Int) (of_decide_eq_true (by first|(with_reducible assumption) | assumption)) (by have h_ : (a1 : Int) < ((x11_14.length : Int) : Int):=of_decide_eq_true (by first|(with_reducible assumption) | assumption);first|exact h_|(have e_:=(Kd.R_reads' HO_11.out).1;omega) | simpa using h_) (seg:=[.int .i64 (wrap64 (a4 + t1117))]) (j:=7) hcl39 hcc39 (show 8 ≤ 9 from by decide) (x':=(⟨(rd_T71 y1114 a1).f0,(rd_T71 y1114 a1).f1,(rd_T71 y1114 a1).f2,(rd_T71 y1114 a1).f3,(rd_T71 y1114 a1).f4,(rd_T71 y1114 a1).f5,(rd_T71 y1114 a1).f6,wrap64 (a4 + t1117),(rd_T71 y1114 a1).f8⟩ : S71)) (k71_mkM _ _ _ (⟨(rd_T71 y1114 a1).f0,(rd_T71 y1114 a1).f1,(rd_T71 y1114 a1).f2,(rd_T71 y1114 a1).f3,(rd_T71 y1114 a1).f4,(rd_T71 y1114 a1).f5,(rd_T71 y1114 a1).f6,wrap64 (a4 + t1117),(rd_T71 y1114 a1).f8⟩ : S71) ) (fun _ hk => hk)).1
             rw [← Ny1118.out] at HP39
             have HQ39:=aMk HP39
             clear hcl39 hcc39 hfr39 hM39 HP39
             refine hK.out _ _ ⟨HS0_,HS1_,HS2_,HS3_,HS4_,HS5_,HS6_,HS7_,HS8_,HS9_,HS10_,HS11_,HS12_,HS13_,HS14_,HS15_,HS16_,HS17_⟩ (fun hHeld => ?_)
             clear hK K
             refine norm_ (a':=?_) ?_ ?_
             rotate_left
             ·show Act.put _ (some 64) _ = _
              simp only [Act.put,List.setIfInBounds_toArray,List.set_cons_zero,List.set_cons_succ,i64_w,i32_w]
              rfl
             refine pure_ (i:=11) (N:=some 65) (v:=?_) (a':=?_) #[true,true,true,true,true,true,true,true,true,true,true,true,false,false,false] rfl rfl (any_of HT_.out (by kernel_rfl)) (fun _ _ _ h => h) (Or.inl ⟨by rfl,?_⟩) ?_ ?_
             rotate_left
             ·intro w'
              go_simp
              with_reducible rfl
             rotate_left
             ·simp only [Act.put,List.setIfInBounds_toArray,List.set_cons_zero,List.set_cons_succ,i64_w,i32_w]
              rfl
             refine pure_ (i:=12) (N:=some 66) (v:=?_) (a':=?_) #[true,true,true,true,true,true,true,true,true,true,true,true,true,false,false] rfl rfl (any_of HT_.out (by kernel_rfl)) (fun _ _ _ h => h) (Or.inl ⟨by rfl,?_⟩) ?_ ?_
             rotate_left
             ·intro w'
              go_simp
              with_reducible rfl
             rotate_left
             ·simp only [Act.put,List.setIfInBounds_toArray,List.set_cons_zero,List.set_cons_succ,i64_w,i32_w]
              rfl
             refine pure_ (i:=13) (N:=some 67) (v:=?_) (a':=?_) #[true,true,true,true,true,true,true,true,true,true,true,true,true,true,false] rfl rfl (any_of HT_.out (by kernel_rfl)) (fun _ _ _ h => h) (Or.inl ⟨by rfl,?_⟩) ?_ ?_
             rotate_left
             ·intro w'
              go_simp
              with_reducible rfl
             rotate_left
             ·simp only [Act.put,List.setIfInBounds_toArray,List.set_cons_zero,List.set_cons_succ,i64_w,i32_w]
              rfl
             refine last_ (i:=14) (N:=none) #[true,true,true,true,true,true,true,true,true,true,true,true,true,true,true] rfl rfl (one_of HT_.out (by kernel_rfl)) (by decide) (fun K hK => ?_)
             refine skip_ (w1:=?_) (by rfl) rfl ?_ ?_
             rotate_left
             ·go_simp
              rfl
             refine hK.out _ _ ?_
             clear hK K
             refine done_ (done_of HT_.out (by kernel_rfl)) ?_
             try go_wp2
             go_ret
             exact ⟨_,by first | rfl|(simp [errW_none,errW_some] <;> rfl)|(simp [*,errW_none,errW_some] <;> rfl),by (with_reducible repeat (first|apply Kd.R_alloc|apply Kd.R_drewN|apply Kd.R_drew));exact HQ39.out,by repeat (first|(with_reducible first|exact HB.out|apply bwA|apply bwN|apply bw1|refine below_set ?_ GB32.out)|exact HB.out)⟩
           ·rw [if_neg c25] at H
            have c25b0 : ((Go.bits .and .i64 a3 4) == 0) = false:=beq_eq_false_iff_ne.mpr c25
            have c25b1 : ((Go.bits .and .i64 a3 4) != 0) = true:=bne_iff_ne.mpr c25
            obtain ⟨y1119,hy1119⟩ : ∃ y_ : List (S71),y_ = (([] : List (S71))):=⟨_,rfl⟩
            replace H : (if a1 ≤ (l0.length : Int) then ((some (l0.take (a1 : Int).toNat : List (S71))).bind fun y1122 => (if y1119.length + y1122.length < 1759218604441 then ((some (y1119 ++ y1122 : List (S71))).bind fun y1126 => (if 0 ≤ (wrap64 (a1 + 1)) then (if (wrap64 (a1 + 1)) ≤ (l0.length : Int) then ((some (l0.drop ((wrap64 (a1 + 1)) : Int).toNat : List (S71))).bind fun y1129 => (if y1126.length + y1129.length < 1759218604441 then (some (y1126 ++ y1129)) else (none))) else (none)) else (none))) else (none))) else (none)) = some r:=by first|(rw [hy1119];with_reducible exact H)|(have H2_:=(Option.bind_some _ _).symm.trans H;rw [hy1119];with_reducible exact H2_)|(have H2_:=(Option.bind_some _ _).symm.trans H;with_reducible exact H2_) | with_reducible exact H|(rw [hy1119];exact H)|exact H
            have Ny1119:=aMk hy1119
            clear hy1119
            have c40b0:=eq_true (of_decide_eq_true (by first|(with_reducible assumption) | assumption) : 0 ≤ a1)
            by_cases c41 : a1 ≤ (l0.length : Int)
            ·rw [if_pos c41] at H
             have c41b0:=eq_true c41
             have c41b1 : decide (a1 ≤ (l0.length : Int)) = true:=decide_eq_true c41
             clear c41
             obtain ⟨y1122,hy1122⟩ : ∃ y_ : List (S71),y_ = (l0.take (a1 : Int).toNat):=⟨_,rfl⟩
             replace H : (if y1119.length + y1122.length < 1759218604441 then ((some (y1119 ++ y1122 : List (S71))).bind fun y1126 => (if 0 ≤ (wrap64 (a1 + 1)) then (if (wrap64 (a1 + 1)) ≤ (l0.length : Int) then ((some (l0.drop ((wrap64 (a1 + 1)) : Int).toNat : List (S71))).bind fun y1129 => (if y1126.length + y1129.length < 1759218604441 then (some (y1126 ++ y1129)) else (none))) else (none)) else (none))) else (none)) = some r:=by first|(rw [hy1122];with_reducible exact H)|(have H2_:=(Option.bind_some _ _).symm.trans H;rw [hy1122];with_reducible exact H2_)|(have H2_:=(Option.bind_some _ _).symm.trans H;with_reducible exact H2_) | with_reducible exact H|(rw [hy1122];exact H)|exact H
             have Ny1122:=aMk hy1122
             clear hy1122
             by_cases c42 : y1119.length + y1122.length < 1759218604441
             ·rw [if_pos c42] at H
              have LMc42:=aMk c42
              clear c42
              obtain ⟨y1126,hy1126⟩ : ∃ y_ : List (S71),y_ = (y1119 ++ y1122):=⟨_,rfl⟩
              replace H : (if 0 ≤ (wrap64 (a1 + 1)) then (if (wrap64 (a1 + 1)) ≤ (l0.length : Int) then ((some (l0.drop ((wrap64 (a1 + 1)) : Int).toNat : List (S71))).bind fun y1129 => (if y1126.length + y1129.length < 1759218604441 then (some (y1126 ++ y1129)) else (none))) else (none)) else (none)) = some r:=by first|(rw [hy1126];with_reducible exact H)|(have H2_:=(Option.bind_some _ _).symm.trans H;rw [hy1126];with_reducible exact H2_)|(have H2_:=(Option.bind_some _ _).symm.trans H;with_reducible exact H2_) | with_reducible exact H|(rw [hy1126];exact H)|exact H
              have Ny1126:=aMk hy1126
              clear hy1126
              obtain ⟨ji43,hji43⟩ : ∃ j_ : Int,(wrap64 (a1 + 1)) = j_:=⟨_,rfl⟩
              replace H : (if 0 ≤ (ji43) then (if (ji43) ≤ (l0.length : Int) then ((some (l0.drop ((ji43) : Int).toNat : List (S71))).bind fun y1129 => (if y1126.length + y1129.length < 1759218604441 then (some (y1126 ++ y1129)) else (none))) else (none)) else (none)) = some r:=by first|(rw [hji43] at H;exact H)|(simp only [hji43] at H ⊢;exact H)
              have hji43w : (IntKind.i64.wrap (a1 + 1)) = ji43:=(i64_w _).trans hji43
              by_cases c44 : 0 ≤ (ji43)
              ·rw [if_pos c44] at H
               have c44b0:=eq_true c44
               have c44b1 : decide (0 ≤ (ji43)) = true:=decide_eq_true c44
               clear c44
               by_cases c45 : (ji43) ≤ (l0.length : Int)
               ·rw [if_pos c45] at H
                have c45b0:=eq_true c45
                have c45b1 : decide ((ji43) ≤ (l0.length : Int)) = true:=decide_eq_true c45
                clear c45
                obtain ⟨y1129,hy1129⟩ : ∃ y_ : List (S71),y_ = (l0.drop ((ji43) : Int).toNat):=⟨_,rfl⟩
                replace H : (if y1126.length + y1129.length < 1759218604441 then (some (y1126 ++ y1129)) else (none)) = some r:=by first|(rw [hy1129];with_reducible exact H)|(have H2_:=(Option.bind_some _ _).symm.trans H;rw [hy1129];with_reducible exact H2_)|(have H2_:=(Option.bind_some _ _).symm.trans H;with_reducible exact H2_) | with_reducible exact H|(rw [hy1129];exact H)|exact H
                have Ny1129:=aMk hy1129
                clear hy1129
                by_cases c46 : y1126.length + y1129.length < 1759218604441
                ·rw [if_pos c46] at H
                 have LMc46:=aMk c46
                 clear c46
                 obtain ⟨y1133,hy1133⟩ : ∃ y_ : List (S71),y_ = (y1126 ++ y1129):=⟨_,rfl⟩
                 replace H : (some y1133) = some r:=by first|(rw [hy1133];with_reducible exact H)|(have H2_:=(Option.bind_some _ _).symm.trans H;rw [hy1133];with_reducible exact H2_)|(have H2_:=(Option.bind_some _ _).symm.trans H;with_reducible exact H2_) | with_reducible exact H|(rw [hy1133];exact H)|exact H
                 have Ny1133:=aMk hy1133
                 clear hy1133
                 obtain rfl:=Option.some.inj H
                 have p1109 : 0 ≤ (a1 : Int):=of_decide_eq_true (by first|(with_reducible assumption) | assumption)
                 have q1109 : a1 < (x11_14.length : Int):=of_decide_eq_true (by first|(with_reducible assumption) | assumption)
                 obtain ⟨ad1109,e1109,hx1109_0,hx1109_1,hx1109_2,hx1109_3,hx1109_4,hx1109_5,hx1109_6,hx1109_7,hx1109_8⟩:=at_T71 (Kd.R_reads' HO_11.out).2.2 a1 p1109 q1109
                 obtain rfl : ad1106 = ad1109:=(by injection e1109)
                 replace p1109:=eq_true p1109
                 replace q1109:=eq_true q1109
                 try go_wp2
                 have n0_:=aMk (Kd.R_drew HO_11.out)
                 have n1_:=aMk (bw1 HB.out)
                 clear HO_11
                 clear HB
                 have HO_11:=n0_
                 have HB:=n1_
                 clear n0_ n1_
                 have q48 : (a1 : Int) ≤ ((l0.length : Int) : Int):=of_decide_eq_true (by first|(with_reducible assumption) | assumption)
                 obtain ⟨i048,hi048,_,hsz48,_⟩:=info_parts info71
                 have hroom48 : l0.length ≤ c0:=HC0.out
                 have hC48 : Kd.C k71 _ A0 l0.length l0:=HR0.out
                 have hcut48:=cut_to (P:=Try.prog) 40 71 .i64 Try.underlying40 hi048 A0 l0.length c0 a1 (of_decide_eq_true (by first|(with_reducible assumption) | assumption)) q48 hroom48
                 have hr48:=Kd.C_take (m:=(a1 : Int).toNat) hC48 (by omega)
                 have hy48 : y1122.length = (a1 : Int).toNat:=(by rw [Ny1122.out,List.length_take];omega)
                 rw [← Ny1122.out] at hr48
                 rw [← hy48] at hcut48
                 have HR1125:=aMk hr48
                 have HC1125:=aMk (show y1122.length ≤ c0 from by omega)
                 clear hr48 hC48 hroom48 hi048 hsz48
                 have KY48:=aMk hy48
                 clear hy48
                 replace q48:=eq_true q48
                 have q49 : ((ji43) : Int) ≤ ((l0.length : Int) : Int):=of_decide_eq_true (by first|(with_reducible assumption) | assumption)
                 obtain ⟨i049,hi049,_,hsz49,_⟩:=info_parts info71
                 have hroom49 : l0.length ≤ c0:=HC0.out
                 have hC49 : Kd.C k71 _ A0 l0.length l0:=HR0.out
                 have q049 : (0 : Int) ≤ ((ji43) : Int):=of_decide_eq_true (by first|(with_reducible assumption) | assumption)
                 have hcut49:=cut_from (P:=Try.prog) 40 71 .i64 Try.underlying40 hi049 9 hsz49 A0 l0.length c0 (ji43) q049 q49
                 have hr49:=Kd.C_drop (m:=((ji43) : Int).toNat) (c:=c0) hC49 (by omega) hroom49
                 obtain ⟨A49,hA49⟩ : ∃ A1,A1 = (if c0 = ((ji43) : Int).toNat then A0 else (A0 : Option Addr).map (·.add (((ji43) : Int).toNat * 9))):=⟨_,rfl⟩
                 obtain ⟨c49,hc49⟩ : ∃ c1,c1 = c0 - ((ji43) : Int).toNat:=⟨_,rfl⟩
                 have hy49 : y1129.length = l0.length - ((ji43) : Int).toNat:=(by rw [Ny1129.out,List.length_drop] <;> omega)
                 rw [show (l0).drop ((ji43) : Int).toNat = y1129 from Ny1129.out.symm] at hr49
                 replace hr49 : Kd.C k71 _ A49 y1129.length y1129:=(by rw [hA49];exact hr49)
                 rw [← hy49,← hA49,← hc49] at hcut49
                 have HR1132:=aMk hr49
                 have HC1132:=aMk (show y1129.length ≤ c49 from by rw [hy49,hc49];exact Nat.sub_le_sub_right hroom49 _)
                 clear hr49 hC49 hroom49 hi049 hsz49 hc49
                 have KY49:=aMk hy49
                 have KA49:=aMk hA49
                 clear hy49 hA49
                 replace q49:=eq_true q49
                 refine start_ (n:=11) (S:=fun w' => True) (ds:=[]) #[false,false,false,false,false,false,false,false,false,false,false] (by kernel_rfl) rfl rfl trivial (fun hHeld => ?_);refine with_tabW spec_l09Pass.tab7 spec_l09Pass.bits7 (fun HT_ HW_ => ?_)
                 generalize wc.drew = w47 at HO_11 HB HR1125 HR1132 hHeld ⊢
                 refine pure_ (i:=1) (N:=some 39) (v:=?_) (a':=?_) #[false,true,false,false,false,false,false,false,false,false,false] rfl rfl (any_of HT_.out (by kernel_rfl)) (fun _ _ _ h => h) (Or.inl ⟨by rfl,?_⟩) ?_ ?_
                 rotate_left
                 ·intro w'
                  go_simp
                  with_reducible rfl
                 rotate_left
                 ·simp only [Act.put,List.setIfInBounds_toArray,List.set_cons_zero,List.set_cons_succ,i64_w,i32_w]
                  rfl
                 refine pure_ (i:=2) (N:=some 40) (v:=?_) (a':=?_) #[false,true,true,false,false,false,false,false,false,false,false] rfl rfl (any_of HT_.out (by kernel_rfl)) (fun _ _ _ h => h) (Or.inl ⟨by rfl,?_⟩) ?_ ?_
                 rotate_left
                 ·intro w'
                  go_simp
                  with_reducible rfl
                 rotate_left
                 ·simp only [Act.put,List.setIfInBounds_toArray,List.set_cons_zero,List.set_cons_succ,i64_w,i32_w]
                  rfl
                 refine pure_ (i:=3) (N:=some 41) (v:=?_) (a':=?_) #[false,true,true,true,false,false,false,false,false,false,false] rfl rfl (any_of HT_.out (by kernel_rfl)) (fun _ _ _ h => h) (Or.inl ⟨by rfl,?_⟩) ?_ ?_
                 rotate_left
                 ·intro w'
                  go_simp
                  with_reducible rfl
                 rotate_left
                 ·simp only [Act.put,List.setIfInBounds_toArray,List.set_cons_zero,List.set_cons_succ,i64_w,i32_w]
                  rfl
                 refine pure_ (i:=5) (N:=some 43) (v:=?_) (a':=?_) #[false,true,true,true,false,true,false,false,false,false,false] rfl rfl (any_of HT_.out (by kernel_rfl)) (fun _ _ _ h => h) (Or.inl ⟨by rfl,?_⟩) ?_ ?_
                 rotate_left
                 ·intro w'
                  go_simp
                  with_reducible rfl
                 rotate_left
                 ·simp only [Act.put,List.setIfInBounds_toArray,List.set_cons_zero,List.set_cons_succ,i64_w,i32_w]
                  rfl
                 refine pure_ (i:=6) (N:=some 44) (v:=?_) (a':=?_) #[false,true,true,true,false,true,true,false,false,false,false] rfl rfl (any_of HT_.out (by kernel_rfl)) (fun _ _ _ h => h) (Or.inl ⟨by rfl,?_⟩) ?_ ?_
                 rotate_left
                 ·intro w'
                  go_simp
                  with_reducible rfl
                 rotate_left
                 ·simp only [Act.put,List.setIfInBounds_toArray,List.set_cons_zero,List.set_cons_succ,i64_w,i32_w]
                  rfl
                 refine pure_ (i:=7) (N:=some 45) (v:=?_) (a':=?_) #[false,true,true,true,false,true,true,true,false,false,false] rfl rfl (any_of HT_.out (by kernel_rfl)) (fun _ _ _ h => h) (Or.inl ⟨by rfl,?_⟩) ?_ ?_
                 rotate_left
                 ·intro w'
                  go_simp
                  with_reducible rfl
                 rotate_left
                 ·simp only [Act.put,List.setIfInBounds_toArray,List.set_cons_zero,List.set_cons_succ,i64_w,i32_w]
                  rfl
                 refine pure_ (i:=8) (N:=some 46) (v:=?_) (a':=?_) #[false,true,true,true,false,true,true,true,true,false,false] rfl rfl (any_of HT_.out (by kernel_rfl)) (fun _ _ _ h => h) (Or.inl ⟨by rfl,?_⟩) ?_ ?_
                 rotate_left
                 ·intro w'
                  go_simp
                  with_reducible rfl
                 rotate_left
                 ·simp only [Act.put,List.setIfInBounds_toArray,List.set_cons_zero,List.set_cons_succ,i64_w,i32_w]
                  rfl
                 refine one_ (i:=0) (N:=some 38) #[true,true,true,true,false,true,true,true,true,false,false] rfl rfl (one_of HT_.out (by kernel_rfl)) (by decide) (fun K hK => ?_)
                 refine Kd.R_lit_step k71 _ 71 ?hg (N:=38) ?hd (xs:=([] : List (S71))) (inner:=[]) (ok:=fun _ => True) (okp:=fun _ => True) ?hr ?hp (fun _ hk => hk) trivial (Below.refl _ _) (Nat.le_refl _) (by simp) ?_;(case hd => rfl);(case hg => rfl);(case hr => first|(go_simp;done)|(go_simp;rfl));(case hp => exact (Reps.none _ _))
                 intro v1120 w50 ho51 hb hg_ hnew_
                 clear hg_ hnew_
                 (first|rw [← Ny1119.out] at ho51|(simp only [Int.reduceToNat] at ho51;rw [← Ny1119.out] at ho51))
                 have n0_:=aMk (Kd.R_elder' (by (with_reducible repeat (first|apply Kd.R_alloc|apply Kd.R_drewN|apply Kd.R_drew));exact HO_11.out) (Kd.R_base ho51) hb)
                 have n1_:=aMk (Kd.R_lower (Kd.R_new' ho51 (Kd.R_lt (by (with_reducible repeat (first|apply Kd.R_alloc|apply Kd.R_drewN|apply Kd.R_drew));exact HO_11.out))) bSz)
                 have n2_:=aMk (bSt hb)
                 clear HO_11
                 clear HB
                 have HO_11:=n0_
                 have HO1121:=n1_
                 have HB:=n2_
                 clear n0_ n1_ n2_
                 clear hb ho51
                 refine hK.out _ _ trivial (fun hHeld => ?_)
                 clear hK K
                 refine norm_ (a':=?_) ?_ ?_
                 rotate_left
                 ·show Act.put _ (some 38) _ = _
                  simp only [Act.put,List.setIfInBounds_toArray,List.set_cons_zero,List.set_cons_succ,i64_w,i32_w]
                  rfl
                 refine one_ (i:=4) (N:=some 42) #[true,true,true,true,true,true,true,true,true,false,false] rfl rfl (one_of HT_.out (by kernel_rfl)) (by decide) (fun K hK => ?_)
                 refine Kd.R_append_rows_step k71 (w0:=w) w.heap.size (by rfl) (.tmp 38) (.tmp 41) 40 71 (.agg #[(.int .i64 0),(.string ⟨#[]⟩),(.int .i64 0),(.int .i64 0),(.int .i64 0),(.int .i64 0),(.int .i64 0),(.int .i64 0),(.int .i64 0)]) 80 rfl Try.underlying40 info71 rfl (by decide) (by omega) v1120 y1119 y1122 _ _ _ (fun k_ => some k_ ≠ (.slice (some ad1106) x11_14.length co13 : Value).ownBlock) (fun _ => False) rfl rfl ?aO ?aR (fun _ _ h => h) (fun _ h => h.elim) ?aF ?aB ?aS ?aL ?_
                 (case aR => repeat (first|exact (Kd.C_below HR1125.out HB.out)|(with_reducible refine Kd.C_alloc ?_ _)|(with_reducible refine Kd.C_drewN ?_ _)|(with_reducible refine Kd.C_drew ?_)))
                 (case aB => exact (by repeat first|exact HB.out|apply bwA|apply bwN|apply bw1))
                 (case aF => exact (fun k_ hk => Kd.fresh' (Kd.R_lt (by (with_reducible repeat (first|apply Kd.R_alloc|apply Kd.R_drewN|apply Kd.R_drew));exact HO_11.out)) k_ hk))
                 (case aO => exact (by (with_reducible repeat (first|apply Kd.R_alloc|apply Kd.R_drewN|apply Kd.R_drew));exact Kd.R_mono HO1121.out (fun _ hk => hk.2)))
                 (case aS => exact bSz)
                 (case aL => have:=LMc42.out;omega)
                 intro v1127 w52 ho hb hg hat
                 rw [← Ny1126.out] at ho
                 have n0_:=aMk (Kd.R_after (ok:=(fun _ => True)) (by (with_reducible repeat (first|apply Kd.R_alloc|apply Kd.R_drewN|apply Kd.R_drew));exact HO_11.out) hg hat)
                 have n1_:=aMk (hb)
                 have n2_:=aMk (ho)
                 clear HO_11
                 clear HB
                 clear HO1121
                 have HO_11:=n0_
                 have HB:=n1_
                 have HO1128:=n2_
                 clear n0_ n1_ n2_
                 clear ho hb hg hat
                 refine hK.out _ _ trivial (fun hHeld => ?_)
                 clear hK K
                 refine norm_ (a':=?_) ?_ ?_
                 rotate_left
                 ·show Act.put _ (some 42) _ = _
                  simp only [Act.put,List.setIfInBounds_toArray,List.set_cons_zero,List.set_cons_succ,i64_w,i32_w]
                  rfl
                 refine one_ (i:=9) (N:=some 47) #[true,true,true,true,true,true,true,true,true,true,false] rfl rfl (one_of HT_.out (by kernel_rfl)) (by decide) (fun K hK => ?_)
                 refine Kd.R_append_rows_step k71 (w0:=w) w.heap.size (by rfl) (.tmp 42) (.tmp 46) 40 71 (.agg #[(.int .i64 0),(.string ⟨#[]⟩),(.int .i64 0),(.int .i64 0),(.int .i64 0),(.int .i64 0),(.int .i64 0),(.int .i64 0),(.int .i64 0)]) 80 rfl Try.underlying40 info71 rfl (by decide) (by omega) v1127 y1126 y1129 _ _ _ (fun k_ => some k_ ≠ (.slice (some ad1106) x11_14.length co13 : Value).ownBlock) (fun _ => False) rfl rfl ?aO ?aR (fun _ _ h => h) (fun _ h => h.elim) ?aF ?aB ?aS ?aL ?_
                 (case aR => repeat (first|exact (Kd.C_below HR1132.out HB.out)|(with_reducible refine Kd.C_alloc ?_ _)|(with_reducible refine Kd.C_drewN ?_ _)|(with_reducible refine Kd.C_drew ?_)))
                 (case aB => exact (by repeat first|exact HB.out|apply bwA|apply bwN|apply bw1))
                 (case aF => exact (fun k_ hk => Kd.fresh' (Kd.R_lt (by (with_reducible repeat (first|apply Kd.R_alloc|apply Kd.R_drewN|apply Kd.R_drew));exact HO_11.out)) k_ hk))
                 (case aO => exact (by (with_reducible repeat (first|apply Kd.R_alloc|apply Kd.R_drewN|apply Kd.R_drew));exact HO1128.out))
                 (case aS => exact bSz)
                 (case aL => have:=LMc46.out;omega)
                 intro v1134 w53 ho hb hg hat
                 rw [← Ny1133.out] at ho
                 have n0_:=aMk (Kd.R_after (ok:=(fun _ => True)) (by (with_reducible repeat (first|apply Kd.R_alloc|apply Kd.R_drewN|apply Kd.R_drew));exact HO_11.out) hg hat)
                 have n1_:=aMk (hb)
                 have n2_:=aMk (ho)
                 clear HO_11
                 clear HB
                 clear HO1128
                 have HO_11:=n0_
                 have HB:=n1_
                 have HO1135:=n2_
                 clear n0_ n1_ n2_
                 clear ho hb hg hat
                 refine hK.out _ _ trivial (fun hHeld => ?_)
                 clear hK K
                 refine norm_ (a':=?_) ?_ ?_
                 rotate_left
                 ·show Act.put _ (some 47) _ = _
                  simp only [Act.put,List.setIfInBounds_toArray,List.set_cons_zero,List.set_cons_succ,i64_w,i32_w]
                  rfl
                 refine pure_ (i:=10) (N:=some 10) (v:=?_) (a':=?_) #[true,true,true,true,true,true,true,true,true,true,true] rfl rfl (any_of HT_.out (by kernel_rfl)) (fun _ _ _ h => h) (Or.inl ⟨by rfl,?_⟩) ?_ ?_
                 rotate_left
                 ·intro w'
                  go_simp
                  with_reducible rfl
                 rotate_left
                 ·simp only [Act.put,List.setIfInBounds_toArray,List.set_cons_zero,List.set_cons_succ,i64_w,i32_w]
                  rfl
                 refine done_ (done_of HT_.out (by kernel_rfl)) ?_
                 try go_wp2
                 go_ret
                 exact ⟨_,by first | rfl|(simp [errW_none,errW_some] <;> rfl)|(simp only [← hji43];first | rfl|(simp [errW_none,errW_some] <;> rfl))|(simp [*,errW_none,errW_some] <;> rfl),by (with_reducible repeat (first|apply Kd.R_alloc|apply Kd.R_drewN|apply Kd.R_drew));exact Kd.R_mono HO1135.out (fun _ hk => trivial),by repeat (first|(with_reducible first|exact HB.out|apply bwA|apply bwN|apply bw1)|exact HB.out)⟩
                ·rw [if_neg c46] at H
                 exact absurd H (by simp)
               ·rw [if_neg c45] at H
                exact absurd H (by simp)
              ·rw [if_neg c44] at H
               exact absurd H (by simp)
             ·rw [if_neg c42] at H
              exact absurd H (by simp)
            ·rw [if_neg c41] at H
             exact absurd H (by simp)
          ·rw [if_neg c24] at H
           have c24b0 : (((rd_T71 x11_14 a1).f0) == 6) = false:=beq_eq_false_iff_ne.mpr c24
           have c24b1 : (((rd_T71 x11_14 a1).f0) != 6) = true:=bne_iff_ne.mpr c24
           replace H:=Option.bind_eq_some_iff.mp H
           obtain ⟨t1138,A540,H⟩:=H
           replace H : (some (x11_14.set (a1 : Int).toNat (⟨(rd_T71 x11_14 a1).f0,(rd_T71 x11_14 a1).f1,(rd_T71 x11_14 a1).f2,(rd_T71 x11_14 a1).f3,(rd_T71 x11_14 a1).f4,(rd_T71 x11_14 a1).f5,(rd_T71 x11_14 a1).f6,wrap64 (a4 + t1138),(rd_T71 x11_14 a1).f8⟩ : S71))) = some r:=H
           have A54:=aMk A540
           clear A540
           obtain ⟨y1139,hy1139⟩ : ∃ y_ : List (S71),y_ = (x11_14.set (a1 : Int).toNat (⟨(rd_T71 x11_14 a1).f0,(rd_T71 x11_14 a1).f1,(rd_T71 x11_14 a1).f2,(rd_T71 x11_14 a1).f3,(rd_T71 x11_14 a1).f4,(rd_T71 x11_14 a1).f5,(rd_T71 x11_14 a1).f6,wrap64 (a4 + t1138),(rd_T71 x11_14 a1).f8⟩ : S71)):=⟨_,rfl⟩
           replace H : (some y1139) = some r:=by first|(rw [hy1139];with_reducible exact H)|(have H2_:=(Option.bind_some _ _).symm.trans H;rw [hy1139];with_reducible exact H2_)|(have H2_:=(Option.bind_some _ _).symm.trans H;with_reducible exact H2_) | with_reducible exact H|(rw [hy1139];exact H)|exact H
           have Ny1139:=aMk hy1139
           clear hy1139
           obtain rfl:=Option.some.inj H
           have p1109 : 0 ≤ (a1 : Int):=of_decide_eq_true (by first|(with_reducible assumption) | assumption)
           have q1109 : a1 < (x11_14.length : Int):=of_decide_eq_true (by first|(with_reducible assumption) | assumption)
           obtain ⟨ad1109,e1109,hx1109_0,hx1109_1,hx1109_2,hx1109_3,hx1109_4,hx1109_5,hx1109_6,hx1109_7,hx1109_8⟩:=at_T71 (Kd.R_reads' HO_11.out).2.2 a1 p1109 q1109
           obtain rfl : ad1106 = ad1109:=(by injection e1109)
           replace p1109:=eq_true p1109
           replace q1109:=eq_true q1109
           try go_wp2
           have n0_:=aMk (Kd.R_drew HO_11.out)
           have n1_:=aMk (bw1 HB.out)
           clear HO_11
           clear HB
           have HO_11:=n0_
           have HB:=n1_
           clear n0_ n1_
           have p1136 : 0 ≤ (a1 : Int):=of_decide_eq_true (by first|(with_reducible assumption) | assumption)
           have q1136 : a1 < (x11_14.length : Int):=of_decide_eq_true (by first|(with_reducible assumption) | assumption)
           obtain ⟨ad1136,e1136,hx1136_0,hx1136_1,hx1136_2,hx1136_3,hx1136_4,hx1136_5,hx1136_6,hx1136_7,hx1136_8⟩:=at_T71 (Kd.R_reads' HO_11.out).2.2 a1 p1136 q1136
           obtain rfl : ad1106 = ad1136:=(by injection e1136)
           replace p1136:=eq_true p1136
           replace q1136:=eq_true q1136
           have p1137 : 0 ≤ (a1 : Int):=of_decide_eq_true (by first|(with_reducible assumption) | assumption)
           have q1137 : a1 < (x11_14.length : Int):=of_decide_eq_true (by first|(with_reducible assumption) | assumption)
           obtain ⟨ad1137,e1137,hx1137_0,hx1137_1,hx1137_2,hx1137_3,hx1137_4,hx1137_5,hx1137_6,hx1137_7,hx1137_8⟩:=at_T71 (Kd.R_reads' HO_11.out).2.2 a1 p1137 q1137
           obtain rfl : ad1106 = ad1137:=(by injection e1137)
           replace p1137:=eq_true p1137
           replace q1137:=eq_true q1137
           refine start_ (n:=15) (S:=fun w' => w'.cell? (ad1106.add ((a1).toNat * 9)) = some (.int .i64 ((rd_T71 x11_14 a1).f0)) ∧ w'.cell? ⟨(ad1106.add ((a1).toNat * 9)).block,(ad1106.add ((a1).toNat * 9)).off + 1,none⟩ = some (.string ((rd_T71 x11_14 a1).f1)) ∧ w'.cell? ⟨(ad1106.add ((a1).toNat * 9)).block,(ad1106.add ((a1).toNat * 9)).off + 2,none⟩ = some (.int .i64 ((rd_T71 x11_14 a1).f2)) ∧ w'.cell? ⟨(ad1106.add ((a1).toNat * 9)).block,(ad1106.add ((a1).toNat * 9)).off + 3,none⟩ = some (.int .i64 ((rd_T71 x11_14 a1).f3)) ∧ w'.cell? ⟨(ad1106.add ((a1).toNat * 9)).block,(ad1106.add ((a1).toNat * 9)).off + 4,none⟩ = some (.int .i64 ((rd_T71 x11_14 a1).f4)) ∧ w'.cell? ⟨(ad1106.add ((a1).toNat * 9)).block,(ad1106.add ((a1).toNat * 9)).off + 5,none⟩ = some (.int .i64 ((rd_T71 x11_14 a1).f5)) ∧ w'.cell? ⟨(ad1106.add ((a1).toNat * 9)).block,(ad1106.add ((a1).toNat * 9)).off + 6,none⟩ = some (.int .i64 ((rd_T71 x11_14 a1).f6)) ∧ w'.cell? ⟨(ad1106.add ((a1).toNat * 9)).block,(ad1106.add ((a1).toNat * 9)).off + 7,none⟩ = some (.int .i64 ((rd_T71 x11_14 a1).f7)) ∧ w'.cell? ⟨(ad1106.add ((a1).toNat * 9)).block,(ad1106.add ((a1).toNat * 9)).off + 8,none⟩ = some (.int .i64 ((rd_T71 x11_14 a1).f8)) ∧ w'.cell? (ad1106.add ((a1).toNat * 9)) = some (.int .i64 ((rd_T71 x11_14 a1).f0)) ∧ w'.cell? ⟨(ad1106.add ((a1).toNat * 9)).block,(ad1106.add ((a1).toNat * 9)).off + 1,none⟩ = some (.string ((rd_T71 x11_14 a1).f1)) ∧ w'.cell? ⟨(ad1106.add ((a1).toNat * 9)).block,(ad1106.add ((a1).toNat * 9)).off + 2,none⟩ = some (.int .i64 ((rd_T71 x11_14 a1).f2)) ∧ w'.cell? ⟨(ad1106.add ((a1).toNat * 9)).block,(ad1106.add ((a1).toNat * 9)).off + 3,none⟩ = some (.int .i64 ((rd_T71 x11_14 a1).f3)) ∧ w'.cell? ⟨(ad1106.add ((a1).toNat * 9)).block,(ad1106.add ((a1).toNat * 9)).off + 4,none⟩ = some (.int .i64 ((rd_T71 x11_14 a1).f4)) ∧ w'.cell? ⟨(ad1106.add ((a1).toNat * 9)).block,(ad1106.add ((a1).toNat * 9)).off + 5,none⟩ = some (.int .i64 ((rd_T71 x11_14 a1).f5)) ∧ w'.cell? ⟨(ad1106.add ((a1).toNat * 9)).block,(ad1106.add ((a1).toNat * 9)).off + 6,none⟩ = some (.int .i64 ((rd_T71 x11_14 a1).f6)) ∧ w'.cell? ⟨(ad1106.add ((a1).toNat * 9)).block,(ad1106.add ((a1).toNat * 9)).off + 7,none⟩ = some (.int .i64 ((rd_T71 x11_14 a1).f7)) ∧ w'.cell? ⟨(ad1106.add ((a1).toNat * 9)).block,(ad1106.add ((a1).toNat * 9)).off + 8,none⟩ = some (.int .i64 ((rd_T71 x11_14 a1).f8))) (ds:=[14]) #[false,false,false,false,false,false,false,false,false,false,false,false,false,false,false] (by kernel_rfl) rfl rfl ⟨hx1136_0,hx1136_1,hx1136_2,hx1136_3,hx1136_4,hx1136_5,hx1136_6,hx1136_7,hx1136_8,hx1137_0,hx1137_1,hx1137_2,hx1137_3,hx1137_4,hx1137_5,hx1137_6,hx1137_7,hx1137_8⟩ (fun hHeld => ?_);refine with_tabW spec_l09Pass.tab10 spec_l09Pass.bits10 (fun HT_ HW_ => ?_)
           generalize wc.drew = w56 at HO_11 HB hx1136_0 hx1136_1 hx1136_2 hx1136_3 hx1136_4 hx1136_5 hx1136_6 hx1136_7 hx1136_8 hx1137_0 hx1137_1 hx1137_2 hx1137_3 hx1137_4 hx1137_5 hx1137_6 hx1137_7 hx1137_8 hHeld ⊢
           refine pure_ (i:=0) (N:=some 54) (v:=?_) (a':=?_) #[true,false,false,false,false,false,false,false,false,false,false,false,false,false,false] rfl rfl (any_of HT_.out (by kernel_rfl)) (fun _ _ _ h => h) (Or.inl ⟨by rfl,?_⟩) ?_ ?_
           rotate_left
           ·intro w'
            go_simp
            with_reducible rfl
           rotate_left
           ·simp only [Act.put,List.setIfInBounds_toArray,List.set_cons_zero,List.set_cons_succ,i64_w,i32_w]
            rfl
           refine pure_ (i:=1) (N:=some 55) (v:=?_) (a':=?_) #[true,true,false,false,false,false,false,false,false,false,false,false,false,false,false] rfl rfl (any_of HT_.out (by kernel_rfl)) (fun _ _ _ h => h) (Or.inl ⟨by rfl,?_⟩) ?_ ?_
           rotate_left
           ·intro w'
            go_simp
            with_reducible rfl
           rotate_left
           ·simp only [Act.put,List.setIfInBounds_toArray,List.set_cons_zero,List.set_cons_succ,i64_w,i32_w]
            rfl
           refine pure_ (i:=2) (N:=some 56) (v:=?_) (a':=?_) #[true,true,true,false,false,false,false,false,false,false,false,false,false,false,false] rfl rfl (any_of HT_.out (by kernel_rfl)) (fun _ _ _ h => h) (Or.inl ⟨by rfl,?_⟩) ?_ ?_
           rotate_left
           ·intro w'
            go_simp
            with_reducible rfl
           rotate_left
           ·simp only [Act.put,List.setIfInBounds_toArray,List.set_cons_zero,List.set_cons_succ,i64_w,i32_w]
            rfl
           refine pure_ (i:=3) (N:=some 57) (v:=?_) (a':=?_) #[true,true,true,true,false,false,false,false,false,false,false,false,false,false,false] rfl rfl (any_of HT_.out (by kernel_rfl)) (fun _ _ _ h => h) (Or.inl ⟨by rfl,?_⟩) ?_ ?_
           rotate_left
           ·intro w'
            go_simp
            with_reducible rfl
           rotate_left
           ·simp only [Act.put,List.setIfInBounds_toArray,List.set_cons_zero,List.set_cons_succ,i64_w,i32_w]
            rfl
           refine pure_ (i:=4) (N:=some 58) (v:=?_) (a':=?_) #[true,true,true,true,true,false,false,false,false,false,false,false,false,false,false] rfl rfl (any_of HT_.out (by kernel_rfl)) (fun _ _ _ h => h) (Or.inl ⟨by rfl,?_⟩) ?_ ?_
           rotate_left
           ·intro w'
            go_simp
            with_reducible rfl
           rotate_left
           ·simp only [Act.put,List.setIfInBounds_toArray,List.set_cons_zero,List.set_cons_succ,i64_w,i32_w]
            rfl
           refine pure_ (i:=6) (N:=some 60) (v:=?_) (a':=?_) #[true,true,true,true,true,false,true,false,false,false,false,false,false,false,false] rfl rfl (any_of HT_.out (by kernel_rfl)) (fun _ _ _ h => h) (Or.inl ⟨by rfl,?_⟩) ?_ ?_
           rotate_left
           ·intro w'
            go_simp
            with_reducible rfl
           rotate_left
           ·simp only [Act.put,List.setIfInBounds_toArray,List.set_cons_zero,List.set_cons_succ,i64_w,i32_w]
            rfl
           refine pure_ (i:=7) (N:=some 61) (v:=?_) (a':=?_) #[true,true,true,true,true,false,true,true,false,false,false,false,false,false,false] rfl rfl (any_of HT_.out (by kernel_rfl)) (fun _ _ _ h => h) (Or.inl ⟨by rfl,?_⟩) ?_ ?_
           rotate_left
           ·intro w'
            go_simp
            with_reducible rfl
           rotate_left
           ·simp only [Act.put,List.setIfInBounds_toArray,List.set_cons_zero,List.set_cons_succ,i64_w,i32_w]
            rfl
           refine pure_ (i:=8) (N:=some 62) (v:=?_) (a':=?_) #[true,true,true,true,true,false,true,true,true,false,false,false,false,false,false] rfl rfl (any_of HT_.out (by kernel_rfl)) (fun _ _ _ h => h) (Or.inl ⟨by rfl,?_⟩) ?_ ?_
           rotate_left
           ·intro w'
            go_simp
            with_reducible rfl
           rotate_left
           ·simp only [Act.put,List.setIfInBounds_toArray,List.set_cons_zero,List.set_cons_succ,i64_w,i32_w]
            rfl
           refine take_ (i:=5) (N:=some 59) (v:=?_) (a':=?_) #[true,true,true,true,true,true,true,true,true,false,false,false,false,false,false] rfl rfl (take_ofW HT_.out HW_.out (by kernel_rfl)) (fun _ _ _ h => h) (Or.inl ⟨by rfl,?_⟩) hHeld ?_ ?_
           rotate_left
           ·rintro w' ⟨s0,s1,s2,s3,s4,s5,s6,s7,s8,s9,s10,s11,s12,s13,s14,s15,s16,s17⟩
            go_simp
            with_reducible rfl
           rotate_left
           ·simp only [Act.put,List.setIfInBounds_toArray,List.set_cons_zero,List.set_cons_succ,i64_w,i32_w]
            rfl
           refine take_ (i:=9) (N:=some 63) (v:=?_) (a':=?_) #[true,true,true,true,true,true,true,true,true,true,false,false,false,false,false] rfl rfl (take_ofW HT_.out HW_.out (by kernel_rfl)) (fun _ _ _ h => h) (Or.inl ⟨by rfl,?_⟩) hHeld ?_ ?_
           rotate_left
           ·rintro w' ⟨s0,s1,s2,s3,s4,s5,s6,s7,s8,s9,s10,s11,s12,s13,s14,s15,s16,s17⟩
            go_simp
            with_reducible rfl
           rotate_left
           ·simp only [Act.put,List.setIfInBounds_toArray,List.set_cons_zero,List.set_cons_succ,i64_w,i32_w]
            rfl
           refine one_ (i:=10) (N:=some 64) #[true,true,true,true,true,true,true,true,true,true,true,false,false,false,false] rfl rfl (one_of HT_.out (by kernel_rfl)) (by decide) (fun K hK => ?_)
           refine goes_ Try.func65 (by kernel_rfl) rfl #[.int .i64 ((rd_T71 x11_14 a1).f0),.int .i64 ((rd_T71 x11_14 a1).f6)] (by rfl) rfl rfl (by (try simp only [List.map_toArray,List.map_cons,List.map_nil]);first | done | rfl|(simp only [List.length_drop,List.length_take];rfl)) ?_
           with_reducible refine (spec_l09Wait.calls ((rd_T71 x11_14 a1).f0) ((rd_T71 x11_14 a1).f6) t1138 _ A54.out).mono ?_
           rintro e w57 ⟨rfl,hb⟩
           have HS0_:=(hb.cell (wLt _ _ (hHeld.1))).trans (hHeld.1)
           have HS1_:=(hb.cell (wLt _ _ (hHeld.2.1))).trans (hHeld.2.1)
           have HS2_:=(hb.cell (wLt _ _ (hHeld.2.2.1))).trans (hHeld.2.2.1)
           have HS3_:=(hb.cell (wLt _ _ (hHeld.2.2.2.1))).trans (hHeld.2.2.2.1)
           have HS4_:=(hb.cell (wLt _ _ (hHeld.2.2.2.2.1))).trans (hHeld.2.2.2.2.1)
           have HS5_:=(hb.cell (wLt _ _ (hHeld.2.2.2.2.2.1))).trans (hHeld.2.2.2.2.2.1)
           have HS6_:=(hb.cell (wLt _ _ (hHeld.2.2.2.2.2.2.1))).trans (hHeld.2.2.2.2.2.2.1)
           have HS7_:=(hb.cell (wLt _ _ (hHeld.2.2.2.2.2.2.2.1))).trans (hHeld.2.2.2.2.2.2.2.1)
           have HS8_:=(hb.cell (wLt _ _ (hHeld.2.2.2.2.2.2.2.2.1))).trans (hHeld.2.2.2.2.2.2.2.2.1)
           have HS9_:=(hb.cell (wLt _ _ (hHeld.2.2.2.2.2.2.2.2.2.1))).trans (hHeld.2.2.2.2.2.2.2.2.2.1)
           have HS10_:=(hb.cell (wLt _ _ (hHeld.2.2.2.2.2.2.2.2.2.2.1))).trans (hHeld.2.2.2.2.2.2.2.2.2.2.1)
           have HS11_:=(hb.cell (wLt _ _ (hHeld.2.2.2.2.2.2.2.2.2.2.2.1))).trans (hHeld.2.2.2.2.2.2.2.2.2.2.2.1)
           have HS12_:=(hb.cell (wLt _ _ (hHeld.2.2.2.2.2.2.2.2.2.2.2.2.1))).trans (hHeld.2.2.2.2.2.2.2.2.2.2.2.2.1)
           have HS13_:=(hb.cell (wLt _ _ (hHeld.2.2.2.2.2.2.2.2.2.2.2.2.2.1))).trans (hHeld.2.2.2.2.2.2.2.2.2.2.2.2.2.1)
           have HS14_:=(hb.cell (wLt _ _ (hHeld.2.2.2.2.2.2.2.2.2.2.2.2.2.2.1))).trans (hHeld.2.2.2.2.2.2.2.2.2.2.2.2.2.2.1)
           have HS15_:=(hb.cell (wLt _ _ (hHeld.2.2.2.2.2.2.2.2.2.2.2.2.2.2.2.1))).trans (hHeld.2.2.2.2.2.2.2.2.2.2.2.2.2.2.2.1)
           have HS16_:=(hb.cell (wLt _ _ (hHeld.2.2.2.2.2.2.2.2.2.2.2.2.2.2.2.2.1))).trans (hHeld.2.2.2.2.2.2.2.2.2.2.2.2.2.2.2.2.1)
           have HS17_:=(hb.cell (wLt _ _ (hHeld.2.2.2.2.2.2.2.2.2.2.2.2.2.2.2.2.2))).trans (hHeld.2.2.2.2.2.2.2.2.2.2.2.2.2.2.2.2.2)
           refine ⟨_,rfl,?_⟩
           have n0_:=aMk (Kd.R_below (by (with_reducible repeat (first|apply Kd.R_alloc|apply Kd.R_drewN|apply Kd.R_drew));exact HO_11.out) hb)
           have n1_:=aMk (bSt hb)
           clear HO_11
           clear HB
           have HO_11:=n0_
           have HB:=n1_
           clear n0_ n1_
           (try clear hb)
           (try clear hb2)
           (try clear hk)
           (try clear hi)
           have p55 : 0 ≤ (a1 : Int):=of_decide_eq_true (by first|(with_reducible assumption) | assumption)
           have q55 : (a1 : Int) < ((x11_14.length : Int) : Int):=of_decide_eq_true (by first|(with_reducible assumption) | assumption)
           obtain ⟨go55,co55,eo55,gb55,gl55,cl55,HG55⟩:=Kd.R_form HO_11.out (by omega)
           (first|cases eo55|(injection eo55 with ea_ en_ ec_;(first|subst ea_|(injection ea_ with ea_;subst ea_));subst ec_;clear en_))
           have GB55:=aMk gb55
           have GG55:=aMk HG55
           clear gb55 gl55 HG55
           (first|simp only [add_plain] at hx1109_0 | skip)
           (first|simp only [add_plain] at hx1109_1 | skip)
           (first|simp only [add_plain] at hx1109_2 | skip)
           (first|simp only [add_plain] at hx1109_3 | skip)
           (first|simp only [add_plain] at hx1109_4 | skip)
           (first|simp only [add_plain] at hx1109_5 | skip)
           (first|simp only [add_plain] at hx1109_6 | skip)
           (first|simp only [add_plain] at hx1109_7 | skip)
           (first|simp only [add_plain] at hx1109_8 | skip)
           (first|simp only [add_plain] at hx1136_0 | skip)
           (first|simp only [add_plain] at hx1136_1 | skip)
           (first|simp only [add_plain] at hx1136_2 | skip)
           (first|simp only [add_plain] at hx1136_3 | skip)
           (first|simp only [add_plain] at hx1136_4 | skip)
           (first|simp only [add_plain] at hx1136_5 | skip)
           (first|simp only [add_plain] at hx1136_6 | skip)
           (first|simp only [add_plain] at hx1136_7 | skip)
           (first|simp only [add_plain] at hx1136_8 | skip)
           (first|simp only [add_plain] at hx1137_0 | skip)
           (first|simp only [add_plain] at hx1137_1 | skip)
           (first|simp only [add_plain] at hx1137_2 | skip)
           (first|simp only [add_plain] at hx1137_3 | skip)
           (first|simp only [add_plain] at hx1137_4 | skip)
           (first|simp only [add_plain] at hx1137_5 | skip)
           (first|simp only [add_plain] at hx1137_6 | skip)
           (first|simp only [add_plain] at hx1137_7 | skip)
           (first|simp only [add_plain] at hx1137_8 | skip)
           obtain ⟨ce55,hcl55,hM55,hcc55,hfr55⟩:=Kd.R_elem HO_11.out z71 (a1 : Int) p55 q55
           obtain rfl:=k71_openM hM55
           have hx55_0 : World.cell? _ ⟨go55,(a1 : Int).toNat * 9,none⟩ = some (.int .i64 ((rd_T71 x11_14 a1).f0)):=hcc55 0 _ rfl
           have hx55_1 : World.cell? _ ⟨go55,(a1 : Int).toNat * 9 + 1,none⟩ = some (.string ((rd_T71 x11_14 a1).f1)):=hcc55 1 _ rfl
           have hx55_2 : World.cell? _ ⟨go55,(a1 : Int).toNat * 9 + 2,none⟩ = some (.int .i64 ((rd_T71 x11_14 a1).f2)):=hcc55 2 _ rfl
           have hx55_3 : World.cell? _ ⟨go55,(a1 : Int).toNat * 9 + 3,none⟩ = some (.int .i64 ((rd_T71 x11_14 a1).f3)):=hcc55 3 _ rfl
           have hx55_4 : World.cell? _ ⟨go55,(a1 : Int).toNat * 9 + 4,none⟩ = some (.int .i64 ((rd_T71 x11_14 a1).f4)):=hcc55 4 _ rfl
           have hx55_5 : World.cell? _ ⟨go55,(a1 : Int).toNat * 9 + 5,none⟩ = some (.int .i64 ((rd_T71 x11_14 a1).f5)):=hcc55 5 _ rfl
           have hx55_6 : World.cell? _ ⟨go55,(a1 : Int).toNat * 9 + 6,none⟩ = some (.int .i64 ((rd_T71 x11_14 a1).f6)):=hcc55 6 _ rfl
           have hx55_7 : World.cell? _ ⟨go55,(a1 : Int).toNat * 9 + 7,none⟩ = some (.int .i64 ((rd_T71 x11_14 a1).f7)):=hcc55 7 _ rfl
           have hx55_8 : World.cell? _ ⟨go55,(a1 : Int).toNat * 9 + 8,none⟩ = some (.int .i64 ((rd_T71 x11_14 a1).f8)):=hcc55 8 _ rfl
           have hf55_0 : World.frozen? _ ⟨go55,(a1 : Int).toNat * 9,none⟩ = false:=hfr55 0
           have hf55_1 : World.frozen? _ ⟨go55,(a1 : Int).toNat * 9 + 1,none⟩ = false:=hfr55 1
           have hf55_2 : World.frozen? _ ⟨go55,(a1 : Int).toNat * 9 + 2,none⟩ = false:=hfr55 2
           have hf55_3 : World.frozen? _ ⟨go55,(a1 : Int).toNat * 9 + 3,none⟩ = false:=hfr55 3
           have hf55_4 : World.frozen? _ ⟨go55,(a1 : Int).toNat * 9 + 4,none⟩ = false:=hfr55 4
           have hf55_5 : World.frozen? _ ⟨go55,(a1 : Int).toNat * 9 + 5,none⟩ = false:=hfr55 5
           have hf55_6 : World.frozen? _ ⟨go55,(a1 : Int).toNat * 9 + 6,none⟩ = false:=hfr55 6
           have hf55_7 : World.frozen? _ ⟨go55,(a1 : Int).toNat * 9 + 7,none⟩ = false:=hfr55 7
           have hf55_8 : World.frozen? _ ⟨go55,(a1 : Int).toNat * 9 + 8,none⟩ = false:=hfr55 8
           clear hcl55 hcc55 hfr55 hM55
           replace p55:=eq_true p55
           replace q55:=eq_true q55
           obtain ⟨ce58,hcl58,hM58,hcc58,hfr58⟩:=Kd.R_elem HO_11.out z71 (a1 : Int) (of_decide_eq_true (by first|(with_reducible assumption) | assumption)) (by have h_ : (a1 : Int) < ((x11_14.length : Int) : Int):=of_decide_eq_true (by first|(with_reducible assumption) | assumption);first|exact h_|(have e_:=(Kd.R_reads' HO_11.out).1;omega) | simpa using h_)
           obtain rfl:=k71_openM hM58
           have HP58:=(Kd.R_seg HO_11.out (a1 : Int) (of_decide_eq_true (by first|(with_reducible assumption) | assumption)) (by have h_ : (a1 : Int) < ((x11_14.length : Int) : Int):=of_decide_eq_true (by first|(with_reducible assumption) | assumption);first|exact h_|(have e_:=(Kd.R_reads' HO_11.out).1;omega) | simpa using h_) (seg:=[.int .i64 (wrap64 (a4 + t1138))]) (j:=7) hcl58 hcc58 (show 8 ≤ 9 from by decide) (x':=(⟨(rd_T71 x11_14 a1).f0,(rd_T71 x11_14 a1).f1,(rd_T71 x11_14 a1).f2,(rd_T71 x11_14 a1).f3,(rd_T71 x11_14 a1).f4,(rd_T71 x11_14 a1).f5,(rd_T71 x11_14 a1).f6,wrap64 (a4 + t1138),(rd_T71 x11_14 a1).f8⟩ : S71)) (k71_mkM _ _ _ (⟨(rd_T71 x11_14 a1).f0,(rd_T71 x11_14 a1).f1,(rd_T71 x11_14 a1).f2,(rd_T71 x11_14 a1).f3,(rd_T71 x11_14 a1).f4,(rd_T71 x11_14 a1).f5,(rd_T71 x11_14 a1).f6,wrap64 (a4 + t1138),(rd_T71 x11_14 a1).f8⟩ : S71) ) (fun _ hk => hk)).1
           rw [← Ny1139.out] at HP58
           have HQ58:=aMk HP58
           clear hcl58 hcc58 hfr58 hM58 HP58
           refine hK.out _ _ ⟨HS0_,HS1_,HS2_,HS3_,HS4_,HS5_,HS6_,HS7_,HS8_,HS9_,HS10_,HS11_,HS12_,HS13_,HS14_,HS15_,HS16_,HS17_⟩ (fun hHeld => ?_)
           clear hK K
           refine norm_ (a':=?_) ?_ ?_
           rotate_left
           ·show Act.put _ (some 64) _ = _
            simp only [Act.put,List.setIfInBounds_toArray,List.set_cons_zero,List.set_cons_succ,i64_w,i32_w]
            rfl
           refine pure_ (i:=11) (N:=some 65) (v:=?_) (a':=?_) #[true,true,true,true,true,true,true,true,true,true,true,true,false,false,false] rfl rfl (any_of HT_.out (by kernel_rfl)) (fun _ _ _ h => h) (Or.inl ⟨by rfl,?_⟩) ?_ ?_
           rotate_left
           ·intro w'
            go_simp
            with_reducible rfl
           rotate_left
           ·simp only [Act.put,List.setIfInBounds_toArray,List.set_cons_zero,List.set_cons_succ,i64_w,i32_w]
            rfl
           refine pure_ (i:=12) (N:=some 66) (v:=?_) (a':=?_) #[true,true,true,true,true,true,true,true,true,true,true,true,true,false,false] rfl rfl (any_of HT_.out (by kernel_rfl)) (fun _ _ _ h => h) (Or.inl ⟨by rfl,?_⟩) ?_ ?_
           rotate_left
           ·intro w'
            go_simp
            with_reducible rfl
           rotate_left
           ·simp only [Act.put,List.setIfInBounds_toArray,List.set_cons_zero,List.set_cons_succ,i64_w,i32_w]
            rfl
           refine pure_ (i:=13) (N:=some 67) (v:=?_) (a':=?_) #[true,true,true,true,true,true,true,true,true,true,true,true,true,true,false] rfl rfl (any_of HT_.out (by kernel_rfl)) (fun _ _ _ h => h) (Or.inl ⟨by rfl,?_⟩) ?_ ?_
           rotate_left
           ·intro w'
            go_simp
            with_reducible rfl
           rotate_left
           ·simp only [Act.put,List.setIfInBounds_toArray,List.set_cons_zero,List.set_cons_succ,i64_w,i32_w]
            rfl
           refine last_ (i:=14) (N:=none) #[true,true,true,true,true,true,true,true,true,true,true,true,true,true,true] rfl rfl (one_of HT_.out (by kernel_rfl)) (by decide) (fun K hK => ?_)
           refine skip_ (w1:=?_) (by rfl) rfl ?_ ?_
           rotate_left
           ·go_simp
            rfl
           refine hK.out _ _ ?_
           clear hK K
           refine done_ (done_of HT_.out (by kernel_rfl)) ?_
           try go_wp2
           go_ret
           exact ⟨_,by first | rfl|(simp [errW_none,errW_some] <;> rfl)|(simp [*,errW_none,errW_some] <;> rfl),by (with_reducible repeat (first|apply Kd.R_alloc|apply Kd.R_drewN|apply Kd.R_drew));exact HQ58.out,by repeat (first|(with_reducible first|exact HB.out|apply bwA|apply bwN|apply bw1|refine below_set ?_ GB55.out)|exact HB.out)⟩
         ·rw [if_neg c23] at H
          exact absurd H (by simp)
        ·rw [if_neg c22] at H
         exact absurd H (by simp)
   ·rw [if_neg c8] at H
    exact absurd H (by simp)
  ·rw [if_neg c7] at H
   exact absurd H (by simp)
 ·rw [if_neg c6] at H
  exact absurd H (by simp)
end
section
/-! ### spec_l01In: function 64 -/
def spec_l01In.f (a0 : Int) (a1 : Int) (a2 : Int) : Option (Bool):=if a1 ≤ a0 then (some (decide (a0 ≤ a2))) else (some false)
set_option maxHeartbeats 8000000 in
set_option maxRecDepth 100000 in
theorem spec_l01In.calls (a0 : Int) (a1 : Int) (a2 : Int) (r : Bool) (w : World) (h : spec_l01In.f a0 a1 a2 = some r) :
  Calls Try.prog 64 #[.int .i64 a0,.int .i64 a1,.int .i64 a2] w fun e w' => e = .returned (.bool r) ∧ Drawn0 w w':=by
 have H : (if a1 ≤ a0 then (some (decide (a0 ≤ a2))) else (some false)) = some r:=h
 clear h
 by_cases c4 : a1 ≤ a0
 ·rw [if_pos c4] at H
  have c4b0 : decide (a1 ≤ a0) = true:=decide_eq_true c4
  clear c4
  obtain rfl:=Option.some.inj H
  go_enter Try.func64,Try.ntmps64
  go_wp2
  go_ret
  exact ⟨by first | rfl|(simp;done)|(simp [*];done)|(simp [ne_nil_b];done)|(simp [ne_nil_b, *];done),by repeat (first|exact Drawn0.refl _|apply Drawn0.step)⟩
 ·rw [if_neg c4] at H
  have c4b0 : decide (a1 ≤ a0) = false:=decide_eq_false c4
  clear c4
  obtain rfl:=Option.some.inj H
  go_enter Try.func64,Try.ntmps64
  go_wp2
  go_ret
  exact ⟨by first | rfl|(simp;done)|(simp [*];done)|(simp [ne_nil_b];done)|(simp [ne_nil_b, *];done),by repeat (first|exact Drawn0.refl _|apply Drawn0.step)⟩
end
section
/-! ### spec_l02Port: function 105 -/
def spec_l02Port.f (a0 : Int) : Option (Bool):=(spec_l01In.f a0 0 65535).bind fun t146 => (some t146)
set_option maxHeartbeats 8000000 in
set_option maxRecDepth 100000 in
theorem spec_l02Port.calls (a0 : Int) (r : Bool) (w : World) (h : spec_l02Port.f a0 = some r) :
  Calls Try.prog 105 #[.int .i64 a0] w fun e w' => e = .returned (.bool r) ∧ Drawn0 w w':=by
 have H : ((spec_l01In.f a0 0 65535).bind fun t146 => (some t146)) = some r:=h
 clear h
 replace H:=Option.bind_eq_some_iff.mp H
 obtain ⟨t146,A20,H⟩:=H
 replace H : (some t146) = some r:=H
 have A2:=aMk A20
 clear A20
 obtain rfl:=Option.some.inj H
 go_enter Try.func105,Try.ntmps105
 go_wp2_with (first|((with_reducible refine gate_callee (f:=64) rfl ?_);refine gLs 4 Try.func64 #[.int .i64 a0,.int .i64 0,.int .i64 65535] ?_;(with_reducible refine (spec_l01In.calls a0 0 65535 t146 _ A2.out).mono ?_);rintro e w' ⟨rfl,⟨nd,rfl⟩⟩;refine ⟨_,rfl,?_⟩))
 go_ret
 exact ⟨by first | rfl|(simp;done)|(simp [*];done)|(simp [ne_nil_b];done)|(simp [ne_nil_b, *];done),by repeat (first|exact Drawn0.refl _|apply Drawn0.step)⟩
end
section
/-! ### spec_l01Ip: function 59 -/
def spec_l01Ip.f (a0 : Int) : Option (Bool):=(spec_l01In.f a0 0 4294967295).bind fun t101 => (some t101)
set_option maxHeartbeats 8000000 in
set_option maxRecDepth 100000 in
theorem spec_l01Ip.calls (a0 : Int) (r : Bool) (w : World) (h : spec_l01Ip.f a0 = some r) :
  Calls Try.prog 59 #[.int .i64 a0] w fun e w' => e = .returned (.bool r) ∧ Drawn0 w w':=by
 have H : ((spec_l01In.f a0 0 4294967295).bind fun t101 => (some t101)) = some r:=h
 clear h
 replace H:=Option.bind_eq_some_iff.mp H
 obtain ⟨t101,A20,H⟩:=H
 replace H : (some t101) = some r:=H
 have A2:=aMk A20
 clear A20
 obtain rfl:=Option.some.inj H
 go_enter Try.func59,Try.ntmps59
 go_wp2_with (first|((with_reducible refine gate_callee (f:=64) rfl ?_);refine gLs 4 Try.func64 #[.int .i64 a0,.int .i64 0,.int .i64 4294967295] ?_;(with_reducible refine (spec_l01In.calls a0 0 4294967295 t101 _ A2.out).mono ?_);rintro e w' ⟨rfl,⟨nd,rfl⟩⟩;refine ⟨_,rfl,?_⟩))
 go_ret
 exact ⟨by first | rfl|(simp;done)|(simp [*];done)|(simp [ne_nil_b];done)|(simp [ne_nil_b, *];done),by repeat (first|exact Drawn0.refl _|apply Drawn0.step)⟩
end
section
/-! ### spec_l01Mac: function 68 -/
def spec_l01Mac.f (a0 : ByteArray) : Option (Bool):=some ((a0.size : Int) == 6)
set_option maxHeartbeats 8000000 in
set_option maxRecDepth 100000 in
theorem spec_l01Mac.calls (a0 : ByteArray) (r : Bool) (w : World) (h : spec_l01Mac.f a0 = some r) :
  Calls Try.prog 68 #[.string a0] w fun e w' => e = .returned (.bool r) ∧ Drawn0 w w':=by
 have H : (some ((a0.size : Int) == 6)) = some r:=h
 clear h
 obtain rfl:=Option.some.inj H
 go_enter Try.func68,Try.ntmps68
 go_wp2
 go_ret
 exact ⟨by first | rfl|(simp;done)|(simp [*];done)|(simp [ne_nil_b];done)|(simp [ne_nil_b, *];done),by repeat (first|exact Drawn0.refl _|apply Drawn0.step)⟩
end
end Go.Proofs.Ytlpkldomoniegaa.X
