/- Texts that the row of FnForms stands on: functions of the program and of the reference, each as a Lean function with the same answers, and the plain lemmas. Conditions: none beside those that each theorem names. -/
import Derived.Test.YticjbpkgdbacpaaDoorCFnForms2
namespace Go.Proofs.YticjbpkgdbacpaaDoor.X
open Go.RowKit Go.Proofs.YticjbpkgdbacpaaDoorW.PrintWords Go.Proofs.YticjbpkgdbacpaaDoorW.PrintLast Go.Proofs.YticjbpkgdbacpaaDoorW.PrintMore
attribute [local go_sem] max2_int min2_int max_two min_two max_three min_three max_four min_four   -- for this text's walks alone
set_option linter.unusedVariables false
set_option linter.unusedSimpArgs false
open Go.Proofs.YticjbpkgdbacpaaDoorW.PrintWords renaming blk_drewN -> bDn
open Go.Proofs.YticjbpkgdbacpaaDoorW.PrintWords renaming blk_drew -> bDr
open Go.Proofs.YticjbpkgdbacpaaDoorW.PrintWords renaming blk_alloc -> bAl
open Go.Proofs.YticjbpkgdbacpaaDoorW.PrintWords renaming blk_frozen -> bFr
open Go.Proofs.YticjbpkgdbacpaaDoorW.PrintWords renaming blk_cell -> bCe
open Go.Proofs.YticjbpkgdbacpaaDoorW.PrintWords.Aside0 renaming mk -> aMk
open Go.World renaming block_lt_of_cell? -> wLt
open Go.Proofs.YticjbpkgdbacpaaDoorW.PrintWords renaming pw_below_drewN -> bwN
open Go.Proofs.YticjbpkgdbacpaaDoorW.PrintWords renaming below_drew1 -> bw1
open Go.Proofs.YticjbpkgdbacpaaDoorW.PrintWords renaming below_alloc -> bwA
section
/-! ### spec_FormText: function 21 -/
mutual
def spec_FormText.l0 : Nat → List (S55) → List ByteArray → Int → Option (ByteArray × Int)
 | 0,_,_,_ => none
 | k + 1,x0,x4,x5 => if x5 < (x0.length : Int) then (if 0 ≤ x5 then (if ((rd_T55 x0 x5).f0).toList = ([] : List UInt8) then (spec_FormText.j1 k x0 x4 x5 true) else (if (((rd_T55 x0 x5).f0).size : Int) > 40 then (spec_FormText.j1 k x0 x4 x5 true) else (spec_FormText.j1 k x0 x4 x5 (decide ((((rd_T55 x0 x5).f1).size : Int) > 40))))) else (none)) else ((spec_l00Join.f k x4 (⟨#[38]⟩ : ByteArray)).bind fun t438 => (some (t438,0)))
def spec_FormText.j1 : Nat → List (S55) → List ByteArray → Int → Bool → Option (ByteArray × Int)
 | 0,_,_,_,_ => none
 | k + 1,x0,x4,x5,x42 => if x42 = true then (some ((⟨#[]⟩ : ByteArray),4)) else (if 0 ≤ x5 then (if x5 < (x0.length : Int) then ((spec_l11Escape.f k ((rd_T55 x0 x5).f0)).bind fun t443 => (if t443.size + 1 ≤ 9223372036854775807 then ((spec_l11Escape.f k ((rd_T55 x0 x5).f1)).bind fun t445 => (if (t443 ++ (⟨#[61]⟩ : ByteArray)).size + t445.size ≤ 9223372036854775807 then (if x4.length < 8796093022208 then (spec_FormText.l0 k x0 (x4 ++ [(t443 ++ (⟨#[61]⟩ : ByteArray)) ++ t445]) (wrap64 (x5 + 1))) else (none)) else (none))) else (none))) else (none)) else (none))
end
def spec_FormText.f (k : Nat) (l0 : List (S55)) : Option (ByteArray × Int):=if (l0.length : Int) > 4096 then (some ((⟨#[]⟩ : ByteArray),2)) else (if (l0.length : Int) > 8 then (some ((⟨#[]⟩ : ByteArray),6)) else (spec_FormText.l0 k l0 (([] : List ByteArray)) 0))
theorem spec_FormText.mono_l : ∀ k,(∀ y0 y1 y2,LeO (spec_FormText.l0 k y0 y1 y2) (spec_FormText.l0 (k + 1) y0 y1 y2)) ∧ (∀ y0 y1 y2 y3,LeO (spec_FormText.j1 k y0 y1 y2 y3) (spec_FormText.j1 (k + 1) y0 y1 y2 y3))
 | 0 => ⟨fun _ _ _ r h => by simp [spec_FormText.l0] at h,fun _ _ _ _ r h => by simp [spec_FormText.j1] at h⟩
 | k + 1 => by
  obtain ⟨ih0,ih1⟩:=spec_FormText.mono_l k
  refine ⟨?_,?_⟩
  ·intro y0 y1 y2
   unfold spec_FormText.l0
   repeat' first
   | (with_reducible exact ih0 _ _ _)
   | (with_reducible exact ih1 _ _ _ _)
   | (with_reducible exact spec_l00Join.mono ..)
   | (with_reducible exact spec_l11Escape.mono ..)
   | (with_reducible exact LeO.refl _)
   | (with_reducible exact LeO.none _)
   | (with_reducible refine LeO.ite ?_ ?_)
   | (with_reducible refine LeO.bind ?_ (fun _ => ?_))
   | exact ih0 _ _ _
   | exact ih1 _ _ _ _
   | exact spec_l00Join.mono ..
   | exact spec_l11Escape.mono ..
   | exact LeO.none _
   | refine LeO.ite ?_ ?_
   | refine LeO.bind ?_ (fun _ => ?_)
  ·intro y0 y1 y2 y3
   unfold spec_FormText.j1
   repeat' first
   | (with_reducible exact ih0 _ _ _)
   | (with_reducible exact ih1 _ _ _ _)
   | (with_reducible exact spec_l00Join.mono ..)
   | (with_reducible exact spec_l11Escape.mono ..)
   | (with_reducible exact LeO.refl _)
   | (with_reducible exact LeO.none _)
   | (with_reducible refine LeO.ite ?_ ?_)
   | (with_reducible refine LeO.bind ?_ (fun _ => ?_))
   | exact ih0 _ _ _
   | exact ih1 _ _ _ _
   | exact spec_l00Join.mono ..
   | exact spec_l11Escape.mono ..
   | exact LeO.none _
   | refine LeO.ite ?_ ?_
   | refine LeO.bind ?_ (fun _ => ?_)
theorem spec_FormText.mono : ∀ a0 k,LeO (spec_FormText.f k a0) (spec_FormText.f (k + 1) a0):=by
 intro a0 k
 obtain ⟨ih0,ih1⟩:=spec_FormText.mono_l k
 unfold spec_FormText.f
 repeat' first
   | (with_reducible exact ih0 _ _ _)
   | (with_reducible exact ih1 _ _ _ _)
   | (with_reducible exact spec_l00Join.mono ..)
   | (with_reducible exact spec_l11Escape.mono ..)
   | (with_reducible exact LeO.refl _)
   | (with_reducible exact LeO.none _)
   | (with_reducible refine LeO.ite ?_ ?_)
   | (with_reducible refine LeO.bind ?_ (fun _ => ?_))
   | exact ih0 _ _ _
   | exact ih1 _ _ _ _
   | exact spec_l00Join.mono ..
   | exact spec_l11Escape.mono ..
   | exact LeO.none _
   | refine LeO.ite ?_ ?_
   | refine LeO.bind ?_ (fun _ => ?_)
def spec_FormText.T11 : Bool × List (List Nat × List Nat):=(true,[([],[]),([],[]),([],[]),([1,2],[1,2]),([3],[3]),([4],[4]),([5],[5]),([6],[6]),([],[]),([],[]),([8,9],[8,9]),([10],[10]),([11],[11]),([12,6],[12]),([7,13],[7,13]),([14],[14]),([0,15,13],[0,15]),([16,16,0,1,2,3,4,5,6,7,8,9,10,11,12,13,14,15,16],[0,16])])
def spec_FormText.B11 : List Nat:=[0,0,0,6,14,30,62,126,0,0,768,1792,3840,8062,16382,32766,65535,131071]
theorem spec_FormText.tab11 : rtab .any (opsOf Tryd.f21 11) = spec_FormText.T11:=by kernel_rfl
theorem spec_FormText.bits11 : waitsOk spec_FormText.T11.2 spec_FormText.B11 = true:=by kernel_rfl
set_option maxHeartbeats 8000000 in
set_option maxRecDepth 100000 in
theorem spec_FormText.calls (k : Nat) (A0 : Option Addr) (c0 : Nat) (l0 : List (S55)) (r1 : ByteArray) (r2 : Int) (w : World) (hr0 : Kd.C k55 w A0 l0.length l0) (hc0 : l0.length ≤ c0) (h : spec_FormText.f k l0 = some (r1,r2)) :
  Calls Tryd.prog 21 #[.slice A0 l0.length c0] w fun e w' => e = .returned (.tuple #[.string r1,.int .i64 r2]) ∧ Below w.heap.size w w':=by
 have HR0:=aMk hr0
 have HC0:=aMk hc0
 clear hr0 hc0
 have HB:=aMk (Below.refl w.heap.size w)
 have H : (if (l0.length : Int) > 4096 then (some ((⟨#[]⟩ : ByteArray),2)) else (if (l0.length : Int) > 8 then (some ((⟨#[]⟩ : ByteArray),6)) else (spec_FormText.l0 k l0 (([] : List ByteArray)) 0))) = some (r1,r2):=h
 clear h
 by_cases c2 : (l0.length : Int) > 4096
 ·rw [if_pos c2] at H
  have c2b0 : decide (4096 < (l0.length : Int)) = true:=decide_eq_true c2
  have c2b1 : decide (4096 < l0.length) = true:=decide_eq_true (by omega)
  clear c2
  simp only [Option.some.injEq,Prod.mk.injEq] at H
  obtain ⟨rfl,rfl⟩:=H
  go_enter Tryd.func21,Tryd.ntmps21
  go_wp2
  go_ret2
  exact ⟨by first | rfl|(simp [errW_none,errW_some] <;> rfl)|(simp [*,errW_none,errW_some] <;> rfl),by repeat (first|(with_reducible first|exact HB.out|apply bwA|apply bwN|apply bw1)|exact HB.out)⟩
 ·rw [if_neg c2] at H
  have c2b0 : decide (4096 < (l0.length : Int)) = false:=decide_eq_false c2
  have c2b1 : decide (4096 < l0.length) = false:=decide_eq_false (by omega)
  clear c2
  by_cases c3 : (l0.length : Int) > 8
  ·rw [if_pos c3] at H
   have c3b0 : decide (8 < (l0.length : Int)) = true:=decide_eq_true c3
   have c3b1 : decide (8 < l0.length) = true:=decide_eq_true (by omega)
   clear c3
   simp only [Option.some.injEq,Prod.mk.injEq] at H
   obtain ⟨rfl,rfl⟩:=H
   go_enter Tryd.func21,Tryd.ntmps21
   go_wp2
   go_ret2
   exact ⟨by first | rfl|(simp [errW_none,errW_some] <;> rfl)|(simp [*,errW_none,errW_some] <;> rfl),by repeat (first|(with_reducible first|exact HB.out|apply bwA|apply bwN|apply bw1)|exact HB.out)⟩
  ·rw [if_neg c3] at H
   have c3b0 : decide (8 < (l0.length : Int)) = false:=decide_eq_false c3
   have c3b1 : decide (8 < l0.length) = false:=decide_eq_false (by omega)
   clear c3
   obtain ⟨y435,hy435⟩ : ∃ y_ : List ByteArray,y_ = (([] : List ByteArray)):=⟨_,rfl⟩
   replace H : (spec_FormText.l0 k l0 y435 0) = some (r1,r2):=by first|(rw [hy435];with_reducible exact H)|(have H2_:=(Option.bind_some _ _).symm.trans H;rw [hy435];with_reducible exact H2_)|(have H2_:=(Option.bind_some _ _).symm.trans H;with_reducible exact H2_) | with_reducible exact H|(rw [hy435];exact H)|exact H
   have Ny435:=aMk hy435
   clear hy435
   have H':=aMk H
   clear H
   go_enter Tryd.func21,Tryd.ntmps21
   go_wp2_with (first|((with_reducible refine gate_dst (N:=12) rfl ?_);(try (refine gate_guard (by rfl) ?_;dsimp only));refine Kd.R_lit Kd.string _ 9 ?hg (N:=12) ?hd (xs:=([] : List ByteArray)) (inner:=[]) (ok:=fun _ => True) (okp:=fun _ => True) ?hr ?hp (fun _ hk => hk) trivial (Below.refl _ _) (Nat.le_refl _) (by simp) ?_;(case hd => rfl);(case hg => rfl);(case hr => first|(go_simp;done)|(go_simp;rfl));(case hp => exact (Reps.none _ _));intro v436 w4 ho5 hb hg_ hnew_;clear hg_ hnew_;(first|rw [← Ny435.out] at ho5|(simp only [Int.reduceToNat] at ho5;rw [← Ny435.out] at ho5));have n0_:=aMk (Kd.R_lower ho5 (below_size (by repeat first|exact HB.out|apply bwA|apply bwN|apply bw1)));have n1_:=aMk (below_step (by repeat first|exact HB.out|apply bwA|apply bwN|apply bw1) hb);clear HB;have HO437:=n0_;have HB:=n1_;clear n0_ n1_;clear hb ho5))
   go_loopg [4,5] k (fun kq v4 v5 w' => ∃ (x4_1 : List ByteArray) (x5_1 : Int),v5 = .int .i64 x5_1 ∧ Aside0 (spec_FormText.l0 kq l0 x4_1 x5_1 = some (r1,r2)) ∧ Aside0 (kq ≤ k) ∧ Aside0 (Kd.R Kd.string 9 w' w.heap.size (fun _ => True) v4 x4_1) ∧ Aside0 (Below w.heap.size w w'))
   case atStart => exact ⟨(y435),(0),(by first | rfl|(simp;done)|(simp [*];done)|(simp [ne_nil_b];done)|(simp [ne_nil_b, *];done)),H',⟨Nat.le_refl _⟩,⟨by (with_reducible repeat (first|apply Kd.R_alloc|apply Kd.R_drewN|apply Kd.R_drew));exact HO437.out⟩,⟨by repeat (first|(with_reducible first|exact HB.out|apply bwA|apply bwN|apply bw1)|exact HB.out)⟩⟩
   case round =>
    clear H'
    try clear c2
    try clear c2b0
    try clear c2b1
    try clear p2
    try clear c3
    try clear c3b0
    try clear c3b1
    obtain ⟨x4_1,x5_1,rfl,HA,HK1,HO_4,HB⟩:=hrel
    cases gk with
    | zero => exact absurd HA.out (by simp [spec_FormText.l0])
    | succ k1 =>
     have H:=HA.out
     clear HA
     simp only [spec_FormText.l0] at H
     by_cases c6 : x5_1 < (l0.length : Int)
     ·rw [if_pos c6] at H
      have c6b0 : decide (x5_1 < (l0.length : Int)) = true:=decide_eq_true c6
      clear c6
      have HC7:=aMk H
      clear H
      go_upto_region 9 with (fail)
      go_cut [42] (fun v42 wc => ∃ (kq : Nat) (x42_6 : Bool),v42 = .bool x42_6 ∧ Aside0 (spec_FormText.j1 kq l0 x4_1 x5_1 x42_6 = some (r1,r2)) ∧ Aside0 (kq ≤ k1) ∧ Aside0 (Kd.R Kd.string 9 wc w.heap.size (fun _ => True) u4 x4_1) ∧ Aside0 (Below w.heap.size w wc))
      case first =>
       have H:=HC7.out
       clear HC7
       by_cases c8 : 0 ≤ x5_1
       ·rw [if_pos c8] at H
        have c8b0 : decide (0 ≤ x5_1) = true:=decide_eq_true c8
        clear c8
        (first|rw [c8b0]|(simp only [i64_w,i32_w];rw [c8b0]) | skip)
        by_cases c9 : ((rd_T55 l0 x5_1).f0).toList = ([] : List UInt8)
        ·rw [if_pos c9] at H
         have c9b0 : (((rd_T55 l0 x5_1).f0).toList == ([] : List UInt8)) = true:=beq_iff_eq.mpr c9
         have c9b1 : (((rd_T55 l0 x5_1).f0).toList != ([] : List UInt8)) = false:=bne_eq_false_iff_eq.mpr c9
         clear c9
         have H':=aMk H
         clear H
         have p439 : 0 ≤ (x5_1 : Int):=of_decide_eq_true (by first|(with_reducible assumption) | assumption)
         have q439 : x5_1 < (l0.length : Int):=of_decide_eq_true (by first|(with_reducible assumption) | assumption)
         obtain ⟨ad439,e439,hx439_0,hx439_1⟩:=at_T55 HR0.out x5_1 p439 q439
         cases e439
         replace hx439_0:=(HB.out.cell (wLt w _ hx439_0)).trans hx439_0
         replace hx439_1:=(HB.out.cell (wLt w _ hx439_1)).trans hx439_1
         replace p439:=eq_true p439
         replace q439:=eq_true q439
         go_wp2
         go_meet
         case rel => exact ⟨_,(true),(by first | rfl|(simp;done)|(simp [*];done)|(simp [ne_nil_b];done)|(simp [ne_nil_b, *];done)),H',⟨by have:=HK1.out;first | omega|exact Nat.le_refl _⟩,⟨by (with_reducible repeat (first|apply Kd.R_alloc|apply Kd.R_drewN|apply Kd.R_drew));exact HO_4.out⟩,⟨by repeat (first|(with_reducible first|exact HB.out|apply bwA|apply bwN|apply bw1)|exact HB.out)⟩⟩
        ·rw [if_neg c9] at H
         have c9b0 : (((rd_T55 l0 x5_1).f0).toList == ([] : List UInt8)) = false:=beq_eq_false_iff_ne.mpr c9
         have c9b1 : (((rd_T55 l0 x5_1).f0).toList != ([] : List UInt8)) = true:=bne_iff_ne.mpr c9
         by_cases c10 : (((rd_T55 l0 x5_1).f0).size : Int) > 40
         ·rw [if_pos c10] at H
          have c10b0 : decide (40 < (((rd_T55 l0 x5_1).f0).size : Int)) = true:=decide_eq_true c10
          have c10b1 : decide (40 < ((rd_T55 l0 x5_1).f0).size) = true:=decide_eq_true (by omega)
          clear c10
          have H':=aMk H
          clear H
          have p439 : 0 ≤ (x5_1 : Int):=of_decide_eq_true (by first|(with_reducible assumption) | assumption)
          have q439 : x5_1 < (l0.length : Int):=of_decide_eq_true (by first|(with_reducible assumption) | assumption)
          obtain ⟨ad439,e439,hx439_0,hx439_1⟩:=at_T55 HR0.out x5_1 p439 q439
          cases e439
          replace hx439_0:=(HB.out.cell (wLt w _ hx439_0)).trans hx439_0
          replace hx439_1:=(HB.out.cell (wLt w _ hx439_1)).trans hx439_1
          replace p439:=eq_true p439
          replace q439:=eq_true q439
          have p440 : 0 ≤ (x5_1 : Int):=of_decide_eq_true (by first|(with_reducible assumption) | assumption)
          have q440 : x5_1 < (l0.length : Int):=of_decide_eq_true (by first|(with_reducible assumption) | assumption)
          obtain ⟨ad440,e440,hx440_0,hx440_1⟩:=at_T55 HR0.out x5_1 p440 q440
          obtain rfl : ad439 = ad440:=(by injection e440)
          replace hx440_0:=(HB.out.cell (wLt w _ hx440_0)).trans hx440_0
          replace hx440_1:=(HB.out.cell (wLt w _ hx440_1)).trans hx440_1
          replace p440:=eq_true p440
          replace q440:=eq_true q440
          go_wp2
          go_meet
          case rel => exact ⟨_,(true),(by first | rfl|(simp;done)|(simp [*];done)|(simp [ne_nil_b];done)|(simp [ne_nil_b, *];done)),H',⟨by have:=HK1.out;first | omega|exact Nat.le_refl _⟩,⟨by (with_reducible repeat (first|apply Kd.R_alloc|apply Kd.R_drewN|apply Kd.R_drew));exact HO_4.out⟩,⟨by repeat (first|(with_reducible first|exact HB.out|apply bwA|apply bwN|apply bw1)|exact HB.out)⟩⟩
         ·rw [if_neg c10] at H
          have c10b0 : decide (40 < (((rd_T55 l0 x5_1).f0).size : Int)) = false:=decide_eq_false c10
          have c10b1 : decide (40 < ((rd_T55 l0 x5_1).f0).size) = false:=decide_eq_false (by omega)
          clear c10
          have H':=aMk H
          clear H
          have p439 : 0 ≤ (x5_1 : Int):=of_decide_eq_true (by first|(with_reducible assumption) | assumption)
          have q439 : x5_1 < (l0.length : Int):=of_decide_eq_true (by first|(with_reducible assumption) | assumption)
          obtain ⟨ad439,e439,hx439_0,hx439_1⟩:=at_T55 HR0.out x5_1 p439 q439
          cases e439
          replace hx439_0:=(HB.out.cell (wLt w _ hx439_0)).trans hx439_0
          replace hx439_1:=(HB.out.cell (wLt w _ hx439_1)).trans hx439_1
          replace p439:=eq_true p439
          replace q439:=eq_true q439
          have p440 : 0 ≤ (x5_1 : Int):=of_decide_eq_true (by first|(with_reducible assumption) | assumption)
          have q440 : x5_1 < (l0.length : Int):=of_decide_eq_true (by first|(with_reducible assumption) | assumption)
          obtain ⟨ad440,e440,hx440_0,hx440_1⟩:=at_T55 HR0.out x5_1 p440 q440
          obtain rfl : ad439 = ad440:=(by injection e440)
          replace hx440_0:=(HB.out.cell (wLt w _ hx440_0)).trans hx440_0
          replace hx440_1:=(HB.out.cell (wLt w _ hx440_1)).trans hx440_1
          replace p440:=eq_true p440
          replace q440:=eq_true q440
          have p441 : 0 ≤ (x5_1 : Int):=of_decide_eq_true (by first|(with_reducible assumption) | assumption)
          have q441 : x5_1 < (l0.length : Int):=of_decide_eq_true (by first|(with_reducible assumption) | assumption)
          obtain ⟨ad441,e441,hx441_0,hx441_1⟩:=at_T55 HR0.out x5_1 p441 q441
          obtain rfl : ad439 = ad441:=(by injection e441)
          replace hx441_0:=(HB.out.cell (wLt w _ hx441_0)).trans hx441_0
          replace hx441_1:=(HB.out.cell (wLt w _ hx441_1)).trans hx441_1
          replace p441:=eq_true p441
          replace q441:=eq_true q441
          go_wp2
          go_meet
          case rel => exact ⟨_,(decide ((((rd_T55 l0 x5_1).f1).size : Int) > 40)),(by first | rfl|(simp;done)|(simp [*];done)|(simp [ne_nil_b];done)|(simp [ne_nil_b, *];done)),H',⟨by have:=HK1.out;first | omega|exact Nat.le_refl _⟩,⟨by (with_reducible repeat (first|apply Kd.R_alloc|apply Kd.R_drewN|apply Kd.R_drew));exact HO_4.out⟩,⟨by repeat (first|(with_reducible first|exact HB.out|apply bwA|apply bwN|apply bw1)|exact HB.out)⟩⟩
       ·rw [if_neg c8] at H
        exact absurd H (by simp)
      case rest =>
       clear HC7
       try clear c1
       try clear c2
       try clear c2b0
       try clear c2b1
       try clear p2
       try clear c3
       try clear c3b0
       try clear c3b1
       try clear p4
       try clear q4
       try clear hx4
       try clear c6
       try clear c6b0
       try clear c8
       try clear c8b0
       try clear c9
       try clear c9b0
       try clear c9b1
       try clear c10
       try clear c10b0
       try clear c10b1
       try clear hx439_0
       try clear hx439_1
       try clear hx440_0
       try clear hx440_1
       try clear hx441_0
       try clear hx441_1
       try clear p2
       try clear p439
       try clear p440
       try clear p441
       try clear q439
       try clear q440
       try clear q441
       obtain ⟨kq,x42_6,rfl,HA,HJ6,HO_4,HB⟩:=hcut
       cases kq with
       | zero => exact absurd HA.out (by simp [spec_FormText.j1])
       | succ kj6 =>
        have H:=HA.out
        clear HA
        simp only [spec_FormText.j1] at H
        by_cases c11 : x42_6 = true
        ·subst c11
         have H1 : (some ((⟨#[]⟩ : ByteArray),4)) = some (r1,r2):=by rw [if_pos rfl] at H;exact H
         clear H
         have H:=H1
         clear H1
         simp only [Option.some.injEq,Prod.mk.injEq] at H
         obtain ⟨rfl,rfl⟩:=H
         go_wp2
         go_ret2
         exact ⟨by first | rfl|(simp [errW_none,errW_some] <;> rfl)|(simp [*,errW_none,errW_some] <;> rfl),by repeat (first|(with_reducible first|exact HB.out|apply bwA|apply bwN|apply bw1)|exact HB.out)⟩
        ·replace c11:=Bool.eq_false_iff.mpr c11
         subst c11
         have H1 : (if 0 ≤ x5_1 then (if x5_1 < (l0.length : Int) then ((spec_l11Escape.f kj6 ((rd_T55 l0 x5_1).f0)).bind fun t443 => (if t443.size + 1 ≤ 9223372036854775807 then ((spec_l11Escape.f kj6 ((rd_T55 l0 x5_1).f1)).bind fun t445 => (if (t443 ++ (⟨#[61]⟩ : ByteArray)).size + t445.size ≤ 9223372036854775807 then (if x4_1.length < 8796093022208 then (spec_FormText.l0 kj6 l0 (x4_1 ++ [(t443 ++ (⟨#[61]⟩ : ByteArray)) ++ t445]) (wrap64 (x5_1 + 1))) else (none)) else (none))) else (none))) else (none)) else (none)) = some (r1,r2):=by rw [if_neg (show ¬ (false = true) by decide)] at H;exact H
         clear H
         have H:=H1
         clear H1
         by_cases c12 : 0 ≤ x5_1
         ·rw [if_pos c12] at H
          have c12b0 : decide (0 ≤ x5_1) = true:=decide_eq_true c12
          clear c12
          by_cases c13 : x5_1 < (l0.length : Int)
          ·rw [if_pos c13] at H
           have c13b0 : decide (x5_1 < (l0.length : Int)) = true:=decide_eq_true c13
           clear c13
           replace H:=Option.bind_eq_some_iff.mp H
           obtain ⟨t443,A140,H⟩:=H
           replace H : (if t443.size + 1 ≤ 9223372036854775807 then ((spec_l11Escape.f kj6 ((rd_T55 l0 x5_1).f1)).bind fun t445 => (if (t443 ++ (⟨#[61]⟩ : ByteArray)).size + t445.size ≤ 9223372036854775807 then (if x4_1.length < 8796093022208 then (spec_FormText.l0 kj6 l0 (x4_1 ++ [(t443 ++ (⟨#[61]⟩ : ByteArray)) ++ t445]) (wrap64 (x5_1 + 1))) else (none)) else (none))) else (none)) = some (r1,r2):=H
           have A14:=aMk A140
           clear A140
           by_cases c15 : t443.size + 1 ≤ 9223372036854775807
           ·rw [if_pos c15] at H
            have c15b0:=eq_true c15
            have c15b1 : decide (t443.size + 1 ≤ 9223372036854775807) = true:=decide_eq_true c15
            try have c15b2 : (9223372036854775807 < t443.size + 1) = False:=eq_false (Nat.not_lt.2 c15)
            replace H:=Option.bind_eq_some_iff.mp H
            obtain ⟨t445,A160,H⟩:=H
            replace H : (if (t443 ++ (⟨#[61]⟩ : ByteArray)).size + t445.size ≤ 9223372036854775807 then (if x4_1.length < 8796093022208 then (spec_FormText.l0 kj6 l0 (x4_1 ++ [(t443 ++ (⟨#[61]⟩ : ByteArray)) ++ t445]) (wrap64 (x5_1 + 1))) else (none)) else (none)) = some (r1,r2):=H
            have A16:=aMk A160
            clear A160
            by_cases c17 : (t443 ++ (⟨#[61]⟩ : ByteArray)).size + t445.size ≤ 9223372036854775807
            ·rw [if_pos c17] at H
             have c17b0:=eq_true c17
             have c17b1 : decide ((t443 ++ (⟨#[61]⟩ : ByteArray)).size + t445.size ≤ 9223372036854775807) = true:=decide_eq_true c17
             try have c17b2 : (9223372036854775807 < (t443 ++ (⟨#[61]⟩ : ByteArray)).size + t445.size) = False:=eq_false (Nat.not_lt.2 c17)
             try have c17b3 : (9223372036854775807 < t443.size + 1 + t445.size) = False:=by rw [← show (t443 ++ (⟨#[61]⟩ : ByteArray)).size = t443.size + 1 from by (simp only [ByteArray.size_append];rfl)];exact c17b2
             by_cases c18 : x4_1.length < 8796093022208
             ·rw [if_pos c18] at H
              have LMc18:=aMk c18
              clear c18
              obtain ⟨y446,hy446⟩ : ∃ y_ : List ByteArray,y_ = (x4_1 ++ [(t443 ++ (⟨#[61]⟩ : ByteArray)) ++ t445]):=⟨_,rfl⟩
              replace H : (spec_FormText.l0 kj6 l0 y446 (wrap64 (x5_1 + 1))) = some (r1,r2):=by first|(rw [hy446];with_reducible exact H)|(have H2_:=(Option.bind_some _ _).symm.trans H;rw [hy446];with_reducible exact H2_)|(have H2_:=(Option.bind_some _ _).symm.trans H;with_reducible exact H2_) | with_reducible exact H|(rw [hy446];exact H)|exact H
              have Ny446:=aMk hy446
              clear hy446
              have H':=aMk H
              clear H
              try go_wp2
              have n0_:=aMk (Kd.R_drew HO_4.out)
              have n1_:=aMk (bw1 HB.out)
              clear HO_4
              clear HB
              have HO_4:=n0_
              have HB:=n1_
              clear n0_ n1_
              have p442 : 0 ≤ (x5_1 : Int):=of_decide_eq_true (by first|(with_reducible assumption) | assumption)
              have q442 : x5_1 < (l0.length : Int):=of_decide_eq_true (by first|(with_reducible assumption) | assumption)
              obtain ⟨ad442,e442,hx442_0,hx442_1⟩:=at_T55 HR0.out x5_1 p442 q442
              have hw442_1:=hx442_1
              have hw442_0:=hx442_0
              cases e442
              replace hx442_0:=(HB.out.cell (wLt w _ hx442_0)).trans hx442_0
              replace hx442_1:=(HB.out.cell (wLt w _ hx442_1)).trans hx442_1
              replace p442:=eq_true p442
              replace q442:=eq_true q442
              have p444 : 0 ≤ (x5_1 : Int):=of_decide_eq_true (by first|(with_reducible assumption) | assumption)
              have q444 : x5_1 < (l0.length : Int):=of_decide_eq_true (by first|(with_reducible assumption) | assumption)
              obtain ⟨ad444,e444,hx444_0,hx444_1⟩:=at_T55 HR0.out x5_1 p444 q444
              have hw444_1:=hx444_1
              have hw444_0:=hx444_0
              obtain rfl : ad442 = ad444:=(by injection e444)
              replace hx444_0:=(HB.out.cell (wLt w _ hx444_0)).trans hx444_0
              replace hx444_1:=(HB.out.cell (wLt w _ hx444_1)).trans hx444_1
              replace p444:=eq_true p444
              replace q444:=eq_true q444
              refine start_ (n:=18) (S:=fun w' => w'.cell? (ad442.add ((x5_1).toNat * 2)) = some (.string ((rd_T55 l0 x5_1).f0)) ∧ w'.cell? ⟨(ad442.add ((x5_1).toNat * 2)).block,(ad442.add ((x5_1).toNat * 2)).off + 1,none⟩ = some (.string ((rd_T55 l0 x5_1).f1)) ∧ w'.cell? (ad442.add ((x5_1).toNat * 2)) = some (.string ((rd_T55 l0 x5_1).f0)) ∧ w'.cell? ⟨(ad442.add ((x5_1).toNat * 2)).block,(ad442.add ((x5_1).toNat * 2)).off + 1,none⟩ = some (.string ((rd_T55 l0 x5_1).f1))) (ds:=[]) #[false,false,false,false,false,false,false,false,false,false,false,false,false,false,false,false,false,false] (by kernel_rfl) rfl rfl ⟨((HB.out.cell (wLt w _ hw442_0)).trans hw442_0),((HB.out.cell (wLt w _ hw442_1)).trans hw442_1),((HB.out.cell (wLt w _ hw444_0)).trans hw444_0),((HB.out.cell (wLt w _ hw444_1)).trans hw444_1)⟩ (fun hHeld => ?_);refine with_tabW spec_FormText.tab11 spec_FormText.bits11 (fun HT_ HW_ => ?_)
              generalize wc.drew = w19 at HO_4 HB hx442_0 hx442_1 hx444_0 hx444_1 hHeld ⊢
              refine pure_ (i:=0) (N:=some 43) (v:=?_) (a':=?_) #[true,false,false,false,false,false,false,false,false,false,false,false,false,false,false,false,false,false] rfl rfl (any_of HT_.out (by kernel_rfl)) (fun _ _ _ h => h) (Or.inl ⟨by rfl,?_⟩) ?_ ?_
              rotate_left
              ·intro w'
               go_simp
               with_reducible rfl
              rotate_left
              ·simp only [Act.put,List.setIfInBounds_toArray,List.set_cons_zero,List.set_cons_succ,i64_w,i32_w]
               rfl
              refine pure_ (i:=1) (N:=some 44) (v:=?_) (a':=?_) #[true,true,false,false,false,false,false,false,false,false,false,false,false,false,false,false,false,false] rfl rfl (any_of HT_.out (by kernel_rfl)) (fun _ _ _ h => h) (Or.inl ⟨by rfl,?_⟩) ?_ ?_
              rotate_left
              ·intro w'
               go_simp
               with_reducible rfl
              rotate_left
              ·simp only [Act.put,List.setIfInBounds_toArray,List.set_cons_zero,List.set_cons_succ,i64_w,i32_w]
               rfl
              refine pure_ (i:=2) (N:=some 45) (v:=?_) (a':=?_) #[true,true,true,false,false,false,false,false,false,false,false,false,false,false,false,false,false,false] rfl rfl (any_of HT_.out (by kernel_rfl)) (fun _ _ _ h => h) (Or.inl ⟨by rfl,?_⟩) ?_ ?_
              rotate_left
              ·intro w'
               go_simp
               with_reducible rfl
              rotate_left
              ·simp only [Act.put,List.setIfInBounds_toArray,List.set_cons_zero,List.set_cons_succ,i64_w,i32_w]
               rfl
              refine pure_ (i:=3) (N:=some 46) (v:=?_) (a':=?_) #[true,true,true,true,false,false,false,false,false,false,false,false,false,false,false,false,false,false] rfl rfl (any_of HT_.out (by kernel_rfl)) (fun _ _ _ h => h) (Or.inl ⟨by rfl,?_⟩) ?_ ?_
              rotate_left
              ·intro w'
               go_simp
               with_reducible rfl
              rotate_left
              ·simp only [Act.put,List.setIfInBounds_toArray,List.set_cons_zero,List.set_cons_succ,i64_w,i32_w]
               rfl
              refine pure_ (i:=4) (N:=some 47) (v:=?_) (a':=?_) #[true,true,true,true,true,false,false,false,false,false,false,false,false,false,false,false,false,false] rfl rfl (any_of HT_.out (by kernel_rfl)) (fun _ _ _ h => h) (Or.inl ⟨by rfl,?_⟩) ?_ ?_
              rotate_left
              ·intro w'
               go_simp
               with_reducible rfl
              rotate_left
              ·simp only [Act.put,List.setIfInBounds_toArray,List.set_cons_zero,List.set_cons_succ,i64_w,i32_w]
               rfl
              refine pure_ (i:=8) (N:=some 51) (v:=?_) (a':=?_) #[true,true,true,true,true,false,false,false,true,false,false,false,false,false,false,false,false,false] rfl rfl (any_of HT_.out (by kernel_rfl)) (fun _ _ _ h => h) (Or.inl ⟨by rfl,?_⟩) ?_ ?_
              rotate_left
              ·intro w'
               go_simp
               with_reducible rfl
              rotate_left
              ·simp only [Act.put,List.setIfInBounds_toArray,List.set_cons_zero,List.set_cons_succ,i64_w,i32_w]
               rfl
              refine pure_ (i:=9) (N:=some 52) (v:=?_) (a':=?_) #[true,true,true,true,true,false,false,false,true,true,false,false,false,false,false,false,false,false] rfl rfl (any_of HT_.out (by kernel_rfl)) (fun _ _ _ h => h) (Or.inl ⟨by rfl,?_⟩) ?_ ?_
              rotate_left
              ·intro w'
               go_simp
               with_reducible rfl
              rotate_left
              ·simp only [Act.put,List.setIfInBounds_toArray,List.set_cons_zero,List.set_cons_succ,i64_w,i32_w]
               rfl
              refine pure_ (i:=10) (N:=some 53) (v:=?_) (a':=?_) #[true,true,true,true,true,false,false,false,true,true,true,false,false,false,false,false,false,false] rfl rfl (any_of HT_.out (by kernel_rfl)) (fun _ _ _ h => h) (Or.inl ⟨by rfl,?_⟩) ?_ ?_
              rotate_left
              ·intro w'
               go_simp
               with_reducible rfl
              rotate_left
              ·simp only [Act.put,List.setIfInBounds_toArray,List.set_cons_zero,List.set_cons_succ,i64_w,i32_w]
               rfl
              refine pure_ (i:=11) (N:=some 54) (v:=?_) (a':=?_) #[true,true,true,true,true,false,false,false,true,true,true,true,false,false,false,false,false,false] rfl rfl (any_of HT_.out (by kernel_rfl)) (fun _ _ _ h => h) (Or.inl ⟨by rfl,?_⟩) ?_ ?_
              rotate_left
              ·intro w'
               go_simp
               with_reducible rfl
              rotate_left
              ·simp only [Act.put,List.setIfInBounds_toArray,List.set_cons_zero,List.set_cons_succ,i64_w,i32_w]
               rfl
              refine take_ (i:=5) (N:=some 48) (v:=?_) (a':=?_) #[true,true,true,true,true,true,false,false,true,true,true,true,false,false,false,false,false,false] rfl rfl (take_ofW HT_.out HW_.out (by kernel_rfl)) (fun _ _ _ h => h) (Or.inl ⟨by rfl,?_⟩) hHeld ?_ ?_
              rotate_left
              ·rintro w' ⟨s0,s1,s2,s3⟩
               go_simp
               with_reducible rfl
              rotate_left
              ·simp only [Act.put,List.setIfInBounds_toArray,List.set_cons_zero,List.set_cons_succ,i64_w,i32_w]
               rfl
              refine take_ (i:=12) (N:=some 55) (v:=?_) (a':=?_) #[true,true,true,true,true,true,false,false,true,true,true,true,true,false,false,false,false,false] rfl rfl (take_ofW HT_.out HW_.out (by kernel_rfl)) (fun _ _ _ h => h) (Or.inl ⟨by rfl,?_⟩) hHeld ?_ ?_
              rotate_left
              ·rintro w' ⟨s0,s1,s2,s3⟩
               go_simp
               with_reducible rfl
              rotate_left
              ·simp only [Act.put,List.setIfInBounds_toArray,List.set_cons_zero,List.set_cons_succ,i64_w,i32_w]
               rfl
              refine one_ (i:=6) (N:=some 49) #[true,true,true,true,true,true,true,false,true,true,true,true,true,false,false,false,false,false] rfl rfl (one_of HT_.out (by kernel_rfl)) (by decide) (fun K hK => ?_)
              refine goes_ Tryd.func48 (by kernel_rfl) rfl #[.string ((rd_T55 l0 x5_1).f0)] (by rfl) rfl rfl (by (try simp only [List.map_toArray,List.map_cons,List.map_nil]);first | done | rfl|(simp only [List.length_drop,List.length_take];rfl)) ?_
              with_reducible refine (spec_l11Escape.calls kj6 ((rd_T55 l0 x5_1).f0) t443 _ A14.out).mono ?_
              rintro e w20 ⟨rfl,hb⟩
              refine ⟨_,rfl,?_⟩
              have n0_:=aMk (Kd.R_below (by (with_reducible repeat (first|apply Kd.R_alloc|apply Kd.R_drewN|apply Kd.R_drew));exact HO_4.out) hb)
              have n1_:=aMk (below_step (by repeat first|exact HB.out|apply bwA|apply bwN|apply bw1) hb)
              clear HO_4
              clear HB
              have HO_4:=n0_
              have HB:=n1_
              clear n0_ n1_
              (try clear hb)
              (try clear hb2)
              (try clear hk)
              (try clear hi)
              refine hK.out _ _ ⟨((HB.out.cell (wLt w _ hw442_0)).trans hw442_0),((HB.out.cell (wLt w _ hw442_1)).trans hw442_1),((HB.out.cell (wLt w _ hw444_0)).trans hw444_0),((HB.out.cell (wLt w _ hw444_1)).trans hw444_1)⟩ (fun hHeld => ?_)
              clear hK K
              refine norm_ (a':=?_) ?_ ?_
              rotate_left
              ·show Act.put _ (some 49) _ = _
               simp only [Act.put,List.setIfInBounds_toArray,List.set_cons_zero,List.set_cons_succ,i64_w,i32_w]
               rfl
              refine pure_ (i:=7) (N:=some 50) (v:=?_) (a':=?_) #[true,true,true,true,true,true,true,true,true,true,true,true,true,false,false,false,false,false] rfl rfl (any_of HT_.out (by kernel_rfl)) (fun _ _ _ h => h) (Or.inl ⟨by rfl,?_⟩) ?_ ?_
              rotate_left
              ·intro w'
               go_simp
               with_reducible rfl
              rotate_left
              ·simp only [Act.put,List.setIfInBounds_toArray,List.set_cons_zero,List.set_cons_succ,i64_w,i32_w]
               rfl
              refine one_ (i:=13) (N:=some 56) #[true,true,true,true,true,true,true,true,true,true,true,true,true,true,false,false,false,false] rfl rfl (one_of HT_.out (by kernel_rfl)) (by decide) (fun K hK => ?_)
              refine goes_ Tryd.func48 (by kernel_rfl) rfl #[.string ((rd_T55 l0 x5_1).f1)] (by rfl) rfl rfl (by (try simp only [List.map_toArray,List.map_cons,List.map_nil]);first | done | rfl|(simp only [List.length_drop,List.length_take];rfl)) ?_
              with_reducible refine (spec_l11Escape.calls kj6 ((rd_T55 l0 x5_1).f1) t445 _ A16.out).mono ?_
              rintro e w21 ⟨rfl,hb⟩
              refine ⟨_,rfl,?_⟩
              have n0_:=aMk (Kd.R_below (by (with_reducible repeat (first|apply Kd.R_alloc|apply Kd.R_drewN|apply Kd.R_drew));exact HO_4.out) hb)
              have n1_:=aMk (below_step (by repeat first|exact HB.out|apply bwA|apply bwN|apply bw1) hb)
              clear HO_4
              clear HB
              have HO_4:=n0_
              have HB:=n1_
              clear n0_ n1_
              (try clear hb)
              (try clear hb2)
              (try clear hk)
              (try clear hi)
              refine hK.out _ _ ⟨((HB.out.cell (wLt w _ hw442_0)).trans hw442_0),((HB.out.cell (wLt w _ hw442_1)).trans hw442_1),((HB.out.cell (wLt w _ hw444_0)).trans hw444_0),((HB.out.cell (wLt w _ hw444_1)).trans hw444_1)⟩ (fun hHeld => ?_)
              clear hK K
              refine norm_ (a':=?_) ?_ ?_
              rotate_left
              ·show Act.put _ (some 56) _ = _
               simp only [Act.put,List.setIfInBounds_toArray,List.set_cons_zero,List.set_cons_succ,i64_w,i32_w]
               rfl
              refine pure_ (i:=14) (N:=some 57) (v:=?_) (a':=?_) #[true,true,true,true,true,true,true,true,true,true,true,true,true,true,true,false,false,false] rfl rfl (any_of HT_.out (by kernel_rfl)) (fun _ _ _ h => h) (Or.inl ⟨by rfl,?_⟩) ?_ ?_
              rotate_left
              ·intro w'
               go_simp
               with_reducible rfl
              rotate_left
              ·simp only [Act.put,List.setIfInBounds_toArray,List.set_cons_zero,List.set_cons_succ,i64_w,i32_w]
               rfl
              refine one_ (i:=15) (N:=some 58) #[true,true,true,true,true,true,true,true,true,true,true,true,true,true,true,true,false,false] rfl rfl (one_of HT_.out (by kernel_rfl)) (by decide) (fun K hK => ?_)
              refine value_ (w1:=?_) (v:=?_) (by rfl) rfl ?_ ?_
              rotate_left 2
              ·go_simp
               constructor
               ·rfl
               ·rfl
              refine hK.out _ _ ⟨(World.cell?_alloc_lt _ _ _ (wLt _ _ (((HB.out.cell (wLt w _ hw442_0)).trans hw442_0)))).trans (((HB.out.cell (wLt w _ hw442_0)).trans hw442_0)),(World.cell?_alloc_lt _ _ _ (wLt _ _ (((HB.out.cell (wLt w _ hw442_1)).trans hw442_1)))).trans (((HB.out.cell (wLt w _ hw442_1)).trans hw442_1)),(World.cell?_alloc_lt _ _ _ (wLt _ _ (((HB.out.cell (wLt w _ hw444_0)).trans hw444_0)))).trans (((HB.out.cell (wLt w _ hw444_0)).trans hw444_0)),(World.cell?_alloc_lt _ _ _ (wLt _ _ (((HB.out.cell (wLt w _ hw444_1)).trans hw444_1)))).trans (((HB.out.cell (wLt w _ hw444_1)).trans hw444_1))⟩ (fun hHeld => ?_)
              clear hK K
              refine norm_ (a':=?_) ?_ ?_
              rotate_left
              ·show Act.put _ (some 58) _ = _
               simp only [Act.put,List.setIfInBounds_toArray,List.set_cons_zero,List.set_cons_succ,i64_w,i32_w]
               rfl
              refine one_ (i:=16) (N:=some 59) #[true,true,true,true,true,true,true,true,true,true,true,true,true,true,true,true,true,false] rfl rfl (one_of HT_.out (by kernel_rfl)) (by decide) (fun K hK => ?_)
              refine Kd.R_append_step Kd.string (w0:=w) w.heap.size (by rfl) (.tmp 43) (.tmp 58) 59 9 (.string ⟨#[]⟩) 16 rfl Tryd.underlying59 info9 rfl (by decide) (by omega) u4 x4_1 ((t443 ++ (⟨#[61]⟩ : ByteArray)) ++ t445) [.string ((t443 ++ (⟨#[61]⟩ : ByteArray)) ++ t445)] (fun _ => True) (fun _ => False) rfl rfl ?aP (fun _ hk => hk.elim) ?aF ?aO ?aB ?aS ?aL ?_
              (case aP => exact rfl)
              (case aB => exact (by repeat first|exact HB.out|apply bwA|apply bwN|apply bw1))
              (case aF => exact (fun _ _ => trivial))
              (case aO => exact (by (with_reducible repeat (first|apply Kd.R_alloc|apply Kd.R_drewN|apply Kd.R_drew));exact HO_4.out))
              (case aS => exact (below_size (by repeat first|exact HB.out|apply bwA|apply bwN|apply bw1)))
              (case aL => have:=LMc18.out;omega)
              intro v447 w22 ho hb hg hat
              rw [← Ny446.out] at ho
              have n0_:=aMk (hb)
              have n1_:=aMk (ho)
              clear HB
              clear HO_4
              have HB:=n0_
              have HO448:=n1_
              clear n0_ n1_
              clear ho hb hg hat
              refine hK.out _ _ ⟨((HB.out.cell (wLt w _ hw442_0)).trans hw442_0),((HB.out.cell (wLt w _ hw442_1)).trans hw442_1),((HB.out.cell (wLt w _ hw444_0)).trans hw444_0),((HB.out.cell (wLt w _ hw444_1)).trans hw444_1)⟩ (fun hHeld => ?_)
              clear hK K
              refine norm_ (a':=?_) ?_ ?_
              rotate_left
              ·show Act.put _ (some 59) _ = _
               simp only [Act.put,List.setIfInBounds_toArray,List.set_cons_zero,List.set_cons_succ,i64_w,i32_w]
               rfl
              refine pure_ (i:=17) (N:=some 4) (v:=?_) (a':=?_) #[true,true,true,true,true,true,true,true,true,true,true,true,true,true,true,true,true,true] rfl rfl (any_of HT_.out (by kernel_rfl)) (fun _ _ _ h => h) (Or.inl ⟨by rfl,?_⟩) ?_ ?_
              rotate_left
              ·intro w'
               go_simp
               with_reducible rfl
              rotate_left
              ·simp only [Act.put,List.setIfInBounds_toArray,List.set_cons_zero,List.set_cons_succ,i64_w,i32_w]
               rfl
              refine done_ (done_of HT_.out (by kernel_rfl)) ?_
              try go_wp2
              go_roundg kj6
              case measure => have:=HK1.out;have:=HJ6.out;omega
              case rel => exact ⟨(y446),(wrap64 (x5_1 + 1)),(by first | rfl|(simp;done)|(simp [*];done)|(simp [ne_nil_b];done)|(simp [ne_nil_b, *];done)),H',⟨by have:=HK1.out;have:=HJ6.out;omega⟩,⟨by (with_reducible repeat (first|apply Kd.R_alloc|apply Kd.R_drewN|apply Kd.R_drew));exact HO448.out⟩,⟨by repeat (first|(with_reducible first|exact HB.out|apply bwA|apply bwN|apply bw1)|exact HB.out)⟩⟩
             ·rw [if_neg c18] at H
              exact absurd H (by simp)
            ·rw [if_neg c17] at H
             exact absurd H (by simp)
           ·rw [if_neg c15] at H
            exact absurd H (by simp)
          ·rw [if_neg c13] at H
           exact absurd H (by simp)
         ·rw [if_neg c12] at H
          exact absurd H (by simp)
     ·rw [if_neg c6] at H
      have c6b0 : decide (x5_1 < (l0.length : Int)) = false:=decide_eq_false c6
      clear c6
      replace H:=Option.bind_eq_some_iff.mp H
      obtain ⟨t438,A230,H⟩:=H
      replace H : (some (t438,0)) = some (r1,r2):=H
      have A23:=aMk A230
      clear A230
      simp only [Option.some.injEq,Prod.mk.injEq] at H
      obtain ⟨rfl,rfl⟩:=H
      obtain ⟨Ao24,co24,eo24⟩:=Kd.R_slice HO_4.out
      subst eo24
      go_wp2_with (first|((with_reducible refine gate_callee (f:=49) rfl ?_);refine goesL_ (some 61) rfl rfl Tryd.func49 (by kernel_rfl) rfl #[.slice Ao24 x4_1.length co24,.string (⟨#[38]⟩ : ByteArray)] rfl (by (try simp only [List.map_toArray,List.map_cons,List.map_nil]);first | done | rfl|(simp only [List.length_drop,List.length_take];rfl)) ?_;(with_reducible refine (spec_l00Join.calls k1 _ _ x4_1 (⟨#[38]⟩ : ByteArray) t438 _ ?side1 ?side2 A23.out).mono ?_);(case side1 => repeat (first|exact (Kd.R_reads' HO_4.out).2.2|(with_reducible refine Kd.C_alloc ?_ _)|(with_reducible refine Kd.C_drewN ?_ _)|(with_reducible refine Kd.C_drew ?_)));(case side2 => exact (Kd.R_reads' HO_4.out).2.1);rintro e w' ⟨rfl,⟨nd,rfl⟩⟩;refine ⟨_,rfl,?_⟩))
      go_ret2
      exact ⟨by first | rfl|(simp [errW_none,errW_some] <;> rfl)|(simp [*,errW_none,errW_some] <;> rfl),by repeat (first|(with_reducible first|exact HB.out|apply bwA|apply bwN|apply bw1)|exact HB.out)⟩
end
section
/-! ### spec_l00Src_bytes: function 50 -/
def spec_l00Src_bytes.l0 : Nat → List Int → Int → List Int → Int → Int → Option (List Int × Int × Int)
 | 0,_,_,_,_,_ => none
 | k + 1,x5,x6,x1000,x1001,x1002 => if x6 > 0 then ((spec_l00Src_next.f x1000 x1001 x1002 256).bind fun bt455 => (if x5.length < 140737488355328 then (spec_l00Src_bytes.l0 k (x5 ++ [(bt455.1) % 256]) (wrap64 (x6 - 1)) x1000 bt455.2.1 bt455.2.2) else (none))) else (some (x5,x1001,x1002))
def spec_l00Src_bytes.f (k : Nat) (s0_0 : List Int) (s0_1 : Int) (s0_2 : Int) (a1 : Int) : Option (List Int × Int × Int):=(spec_l00Src_next.f s0_0 s0_1 s0_2 (wrap64 (a1 + 1))).bind fun bt452 => (spec_l00Src_bytes.l0 k (([] : List Int)) bt452.1 s0_0 bt452.2.1 bt452.2.2)
theorem spec_l00Src_bytes.mono_l : ∀ k,(∀ y0 y1 y2 y3 y4,LeO (spec_l00Src_bytes.l0 k y0 y1 y2 y3 y4) (spec_l00Src_bytes.l0 (k + 1) y0 y1 y2 y3 y4))
 | 0 => fun _ _ _ _ _ r h => by simp [spec_l00Src_bytes.l0] at h
 | k + 1 => by
  have ih0:=spec_l00Src_bytes.mono_l k
  ·intro y0 y1 y2 y3 y4
   unfold spec_l00Src_bytes.l0
   repeat' first
   | (with_reducible exact ih0 _ _ _ _ _)
   | (with_reducible exact LeO.refl _)
   | (with_reducible exact LeO.none _)
   | (with_reducible refine LeO.ite ?_ ?_)
   | (with_reducible refine LeO.bind ?_ (fun _ => ?_))
   | exact ih0 _ _ _ _ _
   | exact LeO.none _
   | refine LeO.ite ?_ ?_
   | refine LeO.bind ?_ (fun _ => ?_)
theorem spec_l00Src_bytes.mono : ∀ a0 a1 a2 a3 k,LeO (spec_l00Src_bytes.f k a0 a1 a2 a3) (spec_l00Src_bytes.f (k + 1) a0 a1 a2 a3):=by
 intro a0 a1 a2 a3 k
 have ih0:=spec_l00Src_bytes.mono_l k
 unfold spec_l00Src_bytes.f
 repeat' first
   | (with_reducible exact ih0 _ _ _ _ _)
   | (with_reducible exact LeO.refl _)
   | (with_reducible exact LeO.none _)
   | (with_reducible refine LeO.ite ?_ ?_)
   | (with_reducible refine LeO.bind ?_ (fun _ => ?_))
   | exact ih0 _ _ _ _ _
   | exact LeO.none _
   | refine LeO.ite ?_ ?_
   | refine LeO.bind ?_ (fun _ => ?_)
set_option maxHeartbeats 8000000 in
set_option maxRecDepth 100000 in
theorem spec_l00Src_bytes.calls (k : Nat) (g : Nat) (s0_0 : List Int) (s0_1 : Int) (s0_2 : Int) (a1 : Int) (r1 : List Int) (r2 : Int) (r3 : Int) (w0 w : World) (hI : IsS74 w0 w g s0_0 s0_1 s0_2) (hB : Below w0.heap.size w0 w) (h : spec_l00Src_bytes.f k s0_0 s0_1 s0_2 a1 = some (r1,r2,r3)) :
  Calls Tryd.prog 50 #[.pointer (some ⟨g,0,none⟩),.int .i64 a1] w fun e w' => ∃ v0_ : Value,e = .returned (v0_) ∧ Kd.R (Kd.int .u8) 5 w' w.heap.size (fun _ => True) v0_ r1 ∧ IsS74 w0 w' g s0_0 r2 r3 ∧ Below w0.heap.size w0 w' ∧ KeepBut w w' g none:=by
 have HI0:=aMk hI
 have HK:=aMk (KeepBut.refl w g none)
 have HL:=aMk hB.size
 clear hI
 have HW0:=aMk hB.size
 have HB:=aMk hB
 clear hB
 have H : ((spec_l00Src_next.f s0_0 s0_1 s0_2 (wrap64 (a1 + 1))).bind fun bt452 => (spec_l00Src_bytes.l0 k (([] : List Int)) bt452.1 s0_0 bt452.2.1 bt452.2.2)) = some (r1,r2,r3):=h
 clear h
 obtain ⟨y449,hy449⟩ : ∃ y_ : List Int,y_ = (([] : List Int)):=⟨_,rfl⟩
 replace H : ((spec_l00Src_next.f s0_0 s0_1 s0_2 (wrap64 (a1 + 1))).bind fun bt452 => (spec_l00Src_bytes.l0 k y449 bt452.1 s0_0 bt452.2.1 bt452.2.2)) = some (r1,r2,r3):=by first|(rw [hy449];with_reducible exact H)|(have H2_:=(Option.bind_some _ _).symm.trans H;rw [hy449];with_reducible exact H2_)|(have H2_:=(Option.bind_some _ _).symm.trans H;with_reducible exact H2_) | with_reducible exact H|(rw [hy449];exact H)|exact H
 have Ny449:=aMk hy449
 clear hy449
 replace H:=Option.bind_eq_some_iff.mp H
 obtain ⟨⟨t452,t453,t454⟩,A30,H⟩:=H
 replace H : (spec_l00Src_bytes.l0 k y449 t452 s0_0 t453 t454) = some (r1,r2,r3):=H
 have A3:=aMk A30
 clear A30
 have H':=aMk H
 clear H
 go_enter Tryd.func50,Tryd.ntmps50
 go_wp2_with (first|((with_reducible refine gate_dst (N:=7) rfl ?_);refine Kd.R_lit (Kd.int .u8) _ 5 ?hg (N:=7) ?hd (xs:=([] : List Int)) (inner:=[]) (ok:=fun _ => True) (okp:=fun _ => True) ?hr ?hp (fun _ hk => hk) trivial (Below.refl _ _) (Nat.le_refl _) (by simp) ?_;(case hd => rfl);(case hg => rfl);(case hr => first|(go_simp;done)|(go_simp;rfl));(case hp => exact (Reps.none _ _));intro v450 w4 ho5 hb hg_ hnew_;clear hg_ hnew_;(first|rw [← Ny449.out] at ho5|(simp only [Int.reduceToNat] at ho5;rw [← Ny449.out] at ho5));have n0_:=aMk (Kd.R_lower ho5 (keep_size (w:=w) (g:=g) (row:=none) (by repeat (first|(with_reducible first|exact HK.out|apply KeepBut.set_|apply keep_drewN|apply keep_drew|apply keep_alloc)|exact HK.out))));have n1_:=aMk (IsS74.below (by repeat (first|(with_reducible first|exact HI0.out|apply IsS74.alloc|apply IsS74.drewN|apply IsS74.drew|apply IsS74.set_1|apply IsS74.set_2)|exact HI0.out)) hb);have n2_:=aMk (KeepBut.trans (by repeat (first|(with_reducible first|exact HK.out|apply KeepBut.set_|apply keep_drewN|apply keep_drew|apply keep_alloc)|exact HK.out)) (KeepBut.of_below hb g none) (.inl rfl));have n3_:=aMk (below_step (by repeat (first|(with_reducible first|exact HB.out|apply bwA|apply bwN|apply bw1|refine below_set ?_ (IsS74.ge HI0.out))|exact HB.out)) hb);clear HI0;clear HK;clear HB;have HO451:=n0_;have HI0:=n1_;have HK:=n2_;have HB:=n3_;clear n0_ n1_ n2_ n3_;clear hb ho5)|((with_reducible refine gate_callee (f:=68) rfl ?_);refine goesL_ (some 11) rfl rfl Tryd.func68 (by kernel_rfl) rfl #[.pointer (some ⟨g,0,none⟩),.int .i64 (wrap64 (a1 + 1))] rfl (by (try simp only [List.map_toArray,List.map_cons,List.map_nil]);first | done | rfl|(simp only [List.length_drop,List.length_take];rfl)) ?_;(with_reducible refine (spec_l00Src_next.calls g s0_0 s0_1 s0_2 (wrap64 (a1 + 1)) t452 t453 t454 w0 _ ?side1 ?side2 A3.out).mono ?_);(case side1 => repeat (first|(with_reducible first|exact HI0.out|apply IsS74.alloc|apply IsS74.drewN|apply IsS74.drew|apply IsS74.set_1|apply IsS74.set_2)|exact HI0.out));(case side2 => repeat (first|(with_reducible first|exact HB.out|apply bwA|apply bwN|apply bw1|refine below_set ?_ (IsS74.ge HI0.out))|exact HB.out));rintro e w6 ⟨rfl,hi,hb,hk⟩;refine ⟨_,rfl,?_⟩;have n0_:=aMk (Kd.R_mono (Kd.R_keep (IsS74.apart (show IsS74 w0 _ g s0_0 s0_1 s0_2 from by repeat (first|(with_reducible first|exact HI0.out|apply IsS74.alloc|apply IsS74.drewN|apply IsS74.drew|apply IsS74.set_1|apply IsS74.set_2)|exact HI0.out)) (by (with_reducible repeat (first|apply Kd.R_alloc|apply Kd.R_drewN|apply Kd.R_drew));exact HO451.out) (by decide)) hk (fun _ h => h.2)) (fun _ h => h.1));have n1_:=aMk (KeepBut.trans (by repeat (first|(with_reducible first|exact HK.out|apply KeepBut.set_|apply keep_drewN|apply keep_drew|apply keep_alloc)|exact HK.out)) hk (.inl rfl));have n2_:=aMk (hb);have n3_:=aMk (hi);clear HO451;clear HK;clear HB;clear HI0;have HO451:=n0_;have HK:=n1_;have HB:=n2_;have HI0:=n3_;clear n0_ n1_ n2_ n3_;(try clear hb);(try clear hb2);(try clear hk);(try clear hi)))
 go_loopg [5,6] k (fun kq v5 v6 w' => ∃ (x5_1 : List Int) (x6_1 : Int) (x1001_1 : Int) (x1002_1 : Int),v6 = .int .i64 x6_1 ∧ Aside0 (spec_l00Src_bytes.l0 kq x5_1 x6_1 s0_0 x1001_1 x1002_1 = some (r1,r2,r3)) ∧ Aside0 (kq ≤ k) ∧ Aside0 (Kd.R (Kd.int .u8) 5 w' w.heap.size (fun _ => True) v5 x5_1) ∧ Aside0 (IsS74 w0 w' g s0_0 x1001_1 x1002_1) ∧ Aside0 (KeepBut w w' g none) ∧ Aside0 (Below w0.heap.size w0 w'))
 case atStart => exact ⟨(y449),(t452),(t453),(t454),(by first | rfl|(simp;done)|(simp [*];done)|(simp [ne_nil_b];done)|(simp [ne_nil_b, *];done)),H',⟨Nat.le_refl _⟩,⟨by (with_reducible repeat (first|apply Kd.R_alloc|apply Kd.R_drewN|apply Kd.R_drew));exact HO451.out⟩,⟨by repeat (first|(with_reducible first|exact HI0.out|apply IsS74.alloc|apply IsS74.drewN|apply IsS74.drew|apply IsS74.set_1|apply IsS74.set_2)|exact HI0.out)⟩,⟨by repeat (first|(with_reducible first|exact HK.out|apply KeepBut.set_|apply keep_drewN|apply keep_drew|apply keep_alloc)|exact HK.out)⟩,⟨by repeat (first|(with_reducible first|exact HB.out|apply bwA|apply bwN|apply bw1|refine below_set ?_ (IsS74.ge HI0.out))|exact HB.out)⟩⟩
 case round =>
  clear H'
  try clear p2
  try clear c5
  try clear c6
  try clear p6
  obtain ⟨x5_1,x6_1,x1001_1,x1002_1,rfl,HA,HK1,HO_5,HI0,HK,HB⟩:=hrel
  cases gk with
  | zero => exact absurd HA.out (by simp [spec_l00Src_bytes.l0])
  | succ k1 =>
   have H:=HA.out
   clear HA
   simp only [spec_l00Src_bytes.l0] at H
   by_cases c7 : x6_1 > 0
   ·rw [if_pos c7] at H
    have c7b0 : decide (0 < x6_1) = true:=decide_eq_true c7
    clear c7
    replace H:=Option.bind_eq_some_iff.mp H
    obtain ⟨⟨t455,t456,t457⟩,A80,H⟩:=H
    replace H : (if x5_1.length < 140737488355328 then (spec_l00Src_bytes.l0 k1 (x5_1 ++ [(t455) % 256]) (wrap64 (x6_1 - 1)) s0_0 t456 t457) else (none)) = some (r1,r2,r3):=H
    have A8:=aMk A80
    clear A80
    by_cases c9 : x5_1.length < 140737488355328
    ·rw [if_pos c9] at H
     have LMc9:=aMk c9
     clear c9
     obtain ⟨y458,hy458⟩ : ∃ y_ : List Int,y_ = (x5_1 ++ [(t455) % 256]):=⟨_,rfl⟩
     replace H : (spec_l00Src_bytes.l0 k1 y458 (wrap64 (x6_1 - 1)) s0_0 t456 t457) = some (r1,r2,r3):=by first|(rw [hy458];with_reducible exact H)|(have H2_:=(Option.bind_some _ _).symm.trans H;rw [hy458];with_reducible exact H2_)|(have H2_:=(Option.bind_some _ _).symm.trans H;with_reducible exact H2_) | with_reducible exact H|(rw [hy458];exact H)|exact H
     have Ny458:=aMk hy458
     clear hy458
     have H':=aMk H
     clear H
     go_wp2_with (first|((with_reducible refine gate_callee (f:=68) rfl ?_);refine goesL_ (some 18) rfl rfl Tryd.func68 (by kernel_rfl) rfl #[.pointer (some ⟨g,0,none⟩),.int .i64 256] rfl (by (try simp only [List.map_toArray,List.map_cons,List.map_nil]);first | done | rfl|(simp only [List.length_drop,List.length_take];rfl)) ?_;(with_reducible refine (spec_l00Src_next.calls g s0_0 x1001_1 x1002_1 256 t455 t456 t457 w0 _ ?side1 ?side2 A8.out).mono ?_);(case side1 => repeat (first|(with_reducible first|exact HI0.out|apply IsS74.alloc|apply IsS74.drewN|apply IsS74.drew|apply IsS74.set_1|apply IsS74.set_2)|exact HI0.out));(case side2 => repeat (first|(with_reducible first|exact HB.out|apply bwA|apply bwN|apply bw1|refine below_set ?_ (IsS74.ge HI0.out))|exact HB.out));rintro e w10 ⟨rfl,hi,hb,hk⟩;refine ⟨_,rfl,?_⟩;have n0_:=aMk (Kd.R_mono (Kd.R_keep (IsS74.apart (show IsS74 w0 _ g s0_0 x1001_1 x1002_1 from by repeat (first|(with_reducible first|exact HI0.out|apply IsS74.alloc|apply IsS74.drewN|apply IsS74.drew|apply IsS74.set_1|apply IsS74.set_2)|exact HI0.out)) (by (with_reducible repeat (first|apply Kd.R_alloc|apply Kd.R_drewN|apply Kd.R_drew));exact HO_5.out) (by decide)) hk (fun _ h => h.2)) (fun _ h => h.1));have n1_:=aMk (KeepBut.trans (by repeat (first|(with_reducible first|exact HK.out|apply KeepBut.set_|apply keep_drewN|apply keep_drew|apply keep_alloc)|exact HK.out)) hk (.inl rfl));have n2_:=aMk (hb);have n3_:=aMk (hi);clear HO_5;clear HK;clear HB;clear HI0;have HO_5:=n0_;have HK:=n1_;have HB:=n2_;have HI0:=n3_;clear n0_ n1_ n2_ n3_;(try clear hb);(try clear hb2);(try clear hk);(try clear hi))|((with_reducible refine gate_builtin (b:=.append) (xs:=#[.tmp 16,.tmp 20]) rfl ?_);at_builtin;refine Kd.R_append (Kd.int .u8) w.heap.size rfl (.tmp 16) (.tmp 20) 38 5 (.int .u8 0) 1 rfl Tryd.underlying38 info5 rfl (by decide) (by omega) u5 x5_1 ((t455) % 256) [.int .u8 ((t455) % 256)] (fun _ => True) (fun _ => False) rfl rfl ?aP (fun _ hk => hk.elim) ?aF ?aO (Below.refl _ _) ?aS ?aL ?_;(case aP => exact rfl);(case aF => exact (fun _ _ => trivial));(case aO => exact (by (with_reducible repeat (first|apply Kd.R_alloc|apply Kd.R_drewN|apply Kd.R_drew));exact HO_5.out));(case aS => exact (keep_size (w:=w) (g:=g) (row:=none) (by repeat (first|(with_reducible first|exact HK.out|apply KeepBut.set_|apply keep_drewN|apply keep_drew|apply keep_alloc)|exact HK.out))));(case aL => have:=LMc9.out;omega);intro v459 w11 ho hb hg hat;rw [← Ny458.out] at ho;have n0_:=aMk (IsS74.grown (by repeat (first|(with_reducible first|exact HI0.out|apply IsS74.alloc|apply IsS74.drewN|apply IsS74.drew|apply IsS74.set_1|apply IsS74.set_2)|exact HI0.out)) hg (IsS74.own_ne HI0.out HO_5.out (by decide)));have n1_:=aMk (below_weaken (by repeat (first|(with_reducible first|exact HB.out|apply bwA|apply bwN|apply bw1|refine below_set ?_ (IsS74.ge HI0.out))|exact HB.out)) HL.out hb);have n2_:=aMk (KeepBut.trans (by repeat (first|(with_reducible first|exact HK.out|apply KeepBut.set_|apply keep_drewN|apply keep_drew|apply keep_alloc)|exact HK.out)) (KeepBut.of_grown hg g) (Kd.R_base2 HO_5.out));have n3_:=aMk (ho);clear HI0;clear HB;clear HK;clear HO_5;have HI0:=n0_;have HB:=n1_;have HK:=n2_;have HO460:=n3_;clear n0_ n1_ n2_ n3_;clear ho hb hg hat))
     go_roundg k1
     case measure => have:=HK1.out;omega
     case rel => exact ⟨(y458),(wrap64 (x6_1 - 1)),(t456),(t457),(by first | rfl|(simp;done)|(simp [*];done)|(simp [ne_nil_b];done)|(simp [ne_nil_b, *];done)),H',⟨by have:=HK1.out;omega⟩,⟨by (with_reducible repeat (first|apply Kd.R_alloc|apply Kd.R_drewN|apply Kd.R_drew));exact HO460.out⟩,⟨by repeat (first|(with_reducible first|exact HI0.out|apply IsS74.alloc|apply IsS74.drewN|apply IsS74.drew|apply IsS74.set_1|apply IsS74.set_2)|exact HI0.out)⟩,⟨by repeat (first|(with_reducible first|exact HK.out|apply KeepBut.set_|apply keep_drewN|apply keep_drew|apply keep_alloc)|exact HK.out)⟩,⟨by repeat (first|(with_reducible first|exact HB.out|apply bwA|apply bwN|apply bw1|refine below_set ?_ (IsS74.ge HI0.out))|exact HB.out)⟩⟩
    ·rw [if_neg c9] at H
     exact absurd H (by simp)
   ·rw [if_neg c7] at H
    have c7b0 : decide (0 < x6_1) = false:=decide_eq_false c7
    clear c7
    simp only [Option.some.injEq,Prod.mk.injEq] at H
    obtain ⟨rfl,rfl,rfl⟩:=H
    go_wp2
    go_ret
    exact ⟨_,by first | rfl|(simp [errW_none,errW_some] <;> rfl)|(simp [*,errW_none,errW_some] <;> rfl),by (with_reducible repeat (first|apply Kd.R_alloc|apply Kd.R_drewN|apply Kd.R_drew));exact HO_5.out,by repeat (first|(with_reducible first|exact HI0.out|apply IsS74.alloc|apply IsS74.drewN|apply IsS74.drew|apply IsS74.set_1|apply IsS74.set_2)|exact HI0.out),by repeat (first|(with_reducible first|exact HB.out|apply bwA|apply bwN|apply bw1|refine below_set ?_ (IsS74.ge HI0.out))|exact HB.out),by repeat (first|(with_reducible first|exact HK.out|apply KeepBut.set_|apply keep_drewN|apply keep_drew|apply keep_alloc)|exact HK.out)⟩
end
section
/-! ### spec_BytesOf: function 22 -/
def spec_BytesOf.f (k : Nat) (l0 : List Int) (a1 : Int) : Option (List Int):=(spec_l00Source.f l0).bind fun bt461 => ((spec_l00Src_bytes.f k bt461.1 bt461.2.1 bt461.2.2 a1).bind fun bt465 => (some bt465.1))
theorem spec_BytesOf.mono : ∀ a0 a1 k,LeO (spec_BytesOf.f k a0 a1) (spec_BytesOf.f (k + 1) a0 a1):=by
 intro a0 a1 k
 unfold spec_BytesOf.f
 repeat' first
   | (with_reducible exact spec_l00Src_bytes.mono ..)
   | (with_reducible exact LeO.refl _)
   | (with_reducible exact LeO.none _)
   | (with_reducible refine LeO.ite ?_ ?_)
   | (with_reducible refine LeO.bind ?_ (fun _ => ?_))
   | exact spec_l00Src_bytes.mono ..
   | exact LeO.none _
   | refine LeO.ite ?_ ?_
   | refine LeO.bind ?_ (fun _ => ?_)
set_option maxHeartbeats 8000000 in
set_option maxRecDepth 100000 in
theorem spec_BytesOf.calls (k : Nat) (A0 : Option Addr) (c0 : Nat) (l0 : List Int) (a1 : Int) (r : List Int) (w : World) (hr0 : Kd.C (Kd.int .u8) w A0 l0.length l0) (hc0 : l0.length ≤ c0) (h : spec_BytesOf.f k l0 a1 = some r) :
  Calls Tryd.prog 22 #[.slice A0 l0.length c0,.int .i64 a1] w fun e w' => ∃ v0_ : Value,e = .returned (v0_) ∧ Kd.R (Kd.int .u8) 5 w' w.heap.size (fun _ => True) v0_ r ∧ Below w.heap.size w w':=by
 have HR0:=aMk hr0
 have HC0:=aMk hc0
 clear hr0 hc0
 have HB:=aMk (Below.refl w.heap.size w)
 have H : ((spec_l00Source.f l0).bind fun bt461 => ((spec_l00Src_bytes.f k bt461.1 bt461.2.1 bt461.2.2 a1).bind fun bt465 => (some bt465.1))) = some r:=h
 clear h
 replace H:=Option.bind_eq_some_iff.mp H
 obtain ⟨⟨t461,t462,t463⟩,A30,H⟩:=H
 replace H : ((spec_l00Src_bytes.f k t461 t462 t463 a1).bind fun bt465 => (some bt465.1)) = some r:=H
 have A3:=aMk A30
 clear A30
 replace H:=Option.bind_eq_some_iff.mp H
 obtain ⟨⟨t465,t468,t469⟩,A40,H⟩:=H
 replace H : (some t465) = some r:=H
 have A4:=aMk A40
 clear A40
 obtain rfl:=Option.some.inj H
 go_enter Tryd.func22,Tryd.ntmps22
 go_wp2_with (first|((with_reducible refine gate_callee (f:=44) rfl ?_);refine goesL_ (some 6) rfl rfl Tryd.func44 (by kernel_rfl) rfl #[.slice A0 l0.length c0] rfl (by (try simp only [List.map_toArray,List.map_cons,List.map_nil]);first | done | rfl|(simp only [List.length_drop,List.length_take];rfl)) ?_;(with_reducible refine (spec_l00Source.calls _ _ l0 t461 t462 t463 w _ ?side1 ?side2 ?side3 A3.out).mono ?_);(case side1 => repeat (first|(with_reducible first|exact HB.out|apply bwA|apply bwN|apply bw1)|exact HB.out));(case side2 => exact HR0.out);(case side3 => exact HC0.out);rintro e w5 ⟨g464,rfl,hi,hb,hb2⟩;refine ⟨_,rfl,?_⟩;have n0_:=aMk (hb);have n1_:=aMk (hi);clear HB;have HB:=n0_;have HI464:=n1_;clear n0_ n1_;(try clear hb);(try clear hb2);(try clear hk);(try clear hi))|((with_reducible refine gate_callee (f:=50) rfl ?_);refine goesL_ (some 8) rfl rfl Tryd.func50 (by kernel_rfl) rfl #[.pointer (some ⟨g464,0,none⟩),.int .i64 a1] rfl (by (try simp only [List.map_toArray,List.map_cons,List.map_nil]);first | done | rfl|(simp only [List.length_drop,List.length_take];rfl)) ?_;(with_reducible refine (spec_l00Src_bytes.calls k g464 t461 t462 t463 a1 t465 t468 t469 w _ ?side1 ?side2 A4.out).mono ?_);(case side1 => repeat (first|(with_reducible first|exact HI464.out|apply IsS74.alloc|apply IsS74.drewN|apply IsS74.drew|apply IsS74.set_1|apply IsS74.set_2)|exact HI464.out));(case side2 => repeat (first|(with_reducible first|exact HB.out|apply bwA|apply bwN|apply bw1|refine below_set ?_ (IsS74.ge HI464.out))|exact HB.out));rintro e w6 ⟨v466,rfl,ho0,hi,hb,hk⟩;refine ⟨_,rfl,?_⟩;have n0_:=aMk (Kd.R_lower ho0 (below_size (by repeat (first|(with_reducible first|exact HB.out|apply bwA|apply bwN|apply bw1|refine below_set ?_ (IsS74.ge HI464.out))|exact HB.out))));have n1_:=aMk (hb);have n2_:=aMk (hi);clear HB;clear HI464;have HO467:=n0_;have HB:=n1_;have HI464:=n2_;clear n0_ n1_ n2_;(try clear hb);(try clear hb2);(try clear hk);(try clear hi);(try clear ho0)))
 go_ret
 exact ⟨_,by first | rfl|(simp [errW_none,errW_some] <;> rfl)|(simp [*,errW_none,errW_some] <;> rfl),by (with_reducible repeat (first|apply Kd.R_alloc|apply Kd.R_drewN|apply Kd.R_drew));exact HO467.out,by repeat (first|(with_reducible first|exact HB.out|apply bwA|apply bwN|apply bw1|refine below_set ?_ (IsS74.ge HI464.out))|exact HB.out)⟩
end
section
/-! ### impl_EscapeText: function 23 -/
def impl_EscapeText.f (k : Nat) (a0 : ByteArray) : Option (ByteArray × Int):=if (a0.size : Int) > 65536 then (some ((⟨#[]⟩ : ByteArray),2)) else (if (a0.size : Int) > 1000 then (some ((⟨#[]⟩ : ByteArray),4)) else ((impl_escape.f k a0).bind fun t470 => (some (t470,0))))
theorem impl_EscapeText.mono : ∀ a0 k,LeO (impl_EscapeText.f k a0) (impl_EscapeText.f (k + 1) a0):=by
 intro a0 k
 unfold impl_EscapeText.f
 repeat' first
   | (with_reducible exact impl_escape.mono ..)
   | (with_reducible exact LeO.refl _)
   | (with_reducible exact LeO.none _)
   | (with_reducible refine LeO.ite ?_ ?_)
   | (with_reducible refine LeO.bind ?_ (fun _ => ?_))
   | exact impl_escape.mono ..
   | exact LeO.none _
   | refine LeO.ite ?_ ?_
   | refine LeO.bind ?_ (fun _ => ?_)
set_option maxHeartbeats 8000000 in
set_option maxRecDepth 100000 in
theorem impl_EscapeText.calls (k : Nat) (a0 : ByteArray) (r1 : ByteArray) (r2 : Int) (w : World) (h : impl_EscapeText.f k a0 = some (r1,r2)) :
  Calls Tryd.prog 23 #[.string a0] w fun e w' => e = .returned (.tuple #[.string r1,.int .i64 r2]) ∧ Below w.heap.size w w':=by
 have HB:=aMk (Below.refl w.heap.size w)
 have H : (if (a0.size : Int) > 65536 then (some ((⟨#[]⟩ : ByteArray),2)) else (if (a0.size : Int) > 1000 then (some ((⟨#[]⟩ : ByteArray),4)) else ((impl_escape.f k a0).bind fun t470 => (some (t470,0))))) = some (r1,r2):=h
 clear h
 by_cases c2 : (a0.size : Int) > 65536
 ·rw [if_pos c2] at H
  have c2b0 : decide (65536 < (a0.size : Int)) = true:=decide_eq_true c2
  have c2b1 : decide (65536 < a0.size) = true:=decide_eq_true (by omega)
  clear c2
  simp only [Option.some.injEq,Prod.mk.injEq] at H
  obtain ⟨rfl,rfl⟩:=H
  go_enter Tryd.func23,Tryd.ntmps23
  go_wp2
  go_ret2
  exact ⟨by first | rfl|(simp [errW_none,errW_some] <;> rfl)|(simp [*,errW_none,errW_some] <;> rfl),by repeat (first|(with_reducible first|exact HB.out|apply bwA|apply bwN|apply bw1)|exact HB.out)⟩
 ·rw [if_neg c2] at H
  have c2b0 : decide (65536 < (a0.size : Int)) = false:=decide_eq_false c2
  have c2b1 : decide (65536 < a0.size) = false:=decide_eq_false (by omega)
  clear c2
  by_cases c3 : (a0.size : Int) > 1000
  ·rw [if_pos c3] at H
   have c3b0 : decide (1000 < (a0.size : Int)) = true:=decide_eq_true c3
   have c3b1 : decide (1000 < a0.size) = true:=decide_eq_true (by omega)
   clear c3
   simp only [Option.some.injEq,Prod.mk.injEq] at H
   obtain ⟨rfl,rfl⟩:=H
   go_enter Tryd.func23,Tryd.ntmps23
   go_wp2
   go_ret2
   exact ⟨by first | rfl|(simp [errW_none,errW_some] <;> rfl)|(simp [*,errW_none,errW_some] <;> rfl),by repeat (first|(with_reducible first|exact HB.out|apply bwA|apply bwN|apply bw1)|exact HB.out)⟩
  ·rw [if_neg c3] at H
   have c3b0 : decide (1000 < (a0.size : Int)) = false:=decide_eq_false c3
   have c3b1 : decide (1000 < a0.size) = false:=decide_eq_false (by omega)
   clear c3
   replace H:=Option.bind_eq_some_iff.mp H
   obtain ⟨t470,A40,H⟩:=H
   replace H : (some (t470,0)) = some (r1,r2):=H
   have A4:=aMk A40
   clear A40
   simp only [Option.some.injEq,Prod.mk.injEq] at H
   obtain ⟨rfl,rfl⟩:=H
   go_enter Tryd.func23,Tryd.ntmps23
   go_wp2_with (first|((with_reducible refine gate_callee (f:=46) rfl ?_);refine goesL_ (some 13) rfl rfl Tryd.func46 (by kernel_rfl) rfl #[.string a0] rfl (by (try simp only [List.map_toArray,List.map_cons,List.map_nil]);first | done | rfl|(simp only [List.length_drop,List.length_take];rfl)) ?_;(with_reducible refine (impl_escape.calls k a0 t470 _ A4.out).mono ?_);rintro e w5 ⟨rfl,hb⟩;refine ⟨_,rfl,?_⟩;have n0_:=aMk (below_step (by repeat first|exact HB.out|apply bwA|apply bwN|apply bw1) hb);clear HB;have HB:=n0_;clear n0_;(try clear hb);(try clear hb2);(try clear hk);(try clear hi)))
   go_ret2
   exact ⟨by first | rfl|(simp [errW_none,errW_some] <;> rfl)|(simp [*,errW_none,errW_some] <;> rfl),by repeat (first|(with_reducible first|exact HB.out|apply bwA|apply bwN|apply bw1)|exact HB.out)⟩
end
section
/-! ### spec_EscapeText: function 24 -/
def spec_EscapeText.f (k : Nat) (a0 : ByteArray) : Option (ByteArray × Int):=if (a0.size : Int) > 65536 then (some ((⟨#[]⟩ : ByteArray),2)) else (if (a0.size : Int) > 1000 then (some ((⟨#[]⟩ : ByteArray),4)) else ((spec_l11Escape.f k a0).bind fun t471 => (some (t471,0))))
theorem spec_EscapeText.mono : ∀ a0 k,LeO (spec_EscapeText.f k a0) (spec_EscapeText.f (k + 1) a0):=by
 intro a0 k
 unfold spec_EscapeText.f
 repeat' first
   | (with_reducible exact spec_l11Escape.mono ..)
   | (with_reducible exact LeO.refl _)
   | (with_reducible exact LeO.none _)
   | (with_reducible refine LeO.ite ?_ ?_)
   | (with_reducible refine LeO.bind ?_ (fun _ => ?_))
   | exact spec_l11Escape.mono ..
   | exact LeO.none _
   | refine LeO.ite ?_ ?_
   | refine LeO.bind ?_ (fun _ => ?_)
set_option maxHeartbeats 8000000 in
set_option maxRecDepth 100000 in
theorem spec_EscapeText.calls (k : Nat) (a0 : ByteArray) (r1 : ByteArray) (r2 : Int) (w : World) (h : spec_EscapeText.f k a0 = some (r1,r2)) :
  Calls Tryd.prog 24 #[.string a0] w fun e w' => e = .returned (.tuple #[.string r1,.int .i64 r2]) ∧ Below w.heap.size w w':=by
 have HB:=aMk (Below.refl w.heap.size w)
 have H : (if (a0.size : Int) > 65536 then (some ((⟨#[]⟩ : ByteArray),2)) else (if (a0.size : Int) > 1000 then (some ((⟨#[]⟩ : ByteArray),4)) else ((spec_l11Escape.f k a0).bind fun t471 => (some (t471,0))))) = some (r1,r2):=h
 clear h
 by_cases c2 : (a0.size : Int) > 65536
 ·rw [if_pos c2] at H
  have c2b0 : decide (65536 < (a0.size : Int)) = true:=decide_eq_true c2
  have c2b1 : decide (65536 < a0.size) = true:=decide_eq_true (by omega)
  clear c2
  simp only [Option.some.injEq,Prod.mk.injEq] at H
  obtain ⟨rfl,rfl⟩:=H
  go_enter Tryd.func24,Tryd.ntmps24
  go_wp2
  go_ret2
  exact ⟨by first | rfl|(simp [errW_none,errW_some] <;> rfl)|(simp [*,errW_none,errW_some] <;> rfl),by repeat (first|(with_reducible first|exact HB.out|apply bwA|apply bwN|apply bw1)|exact HB.out)⟩
 ·rw [if_neg c2] at H
  have c2b0 : decide (65536 < (a0.size : Int)) = false:=decide_eq_false c2
  have c2b1 : decide (65536 < a0.size) = false:=decide_eq_false (by omega)
  clear c2
  by_cases c3 : (a0.size : Int) > 1000
  ·rw [if_pos c3] at H
   have c3b0 : decide (1000 < (a0.size : Int)) = true:=decide_eq_true c3
   have c3b1 : decide (1000 < a0.size) = true:=decide_eq_true (by omega)
   clear c3
   simp only [Option.some.injEq,Prod.mk.injEq] at H
   obtain ⟨rfl,rfl⟩:=H
   go_enter Tryd.func24,Tryd.ntmps24
   go_wp2
   go_ret2
   exact ⟨by first | rfl|(simp [errW_none,errW_some] <;> rfl)|(simp [*,errW_none,errW_some] <;> rfl),by repeat (first|(with_reducible first|exact HB.out|apply bwA|apply bwN|apply bw1)|exact HB.out)⟩
  ·rw [if_neg c3] at H
   have c3b0 : decide (1000 < (a0.size : Int)) = false:=decide_eq_false c3
   have c3b1 : decide (1000 < a0.size) = false:=decide_eq_false (by omega)
   clear c3
   replace H:=Option.bind_eq_some_iff.mp H
   obtain ⟨t471,A40,H⟩:=H
   replace H : (some (t471,0)) = some (r1,r2):=H
   have A4:=aMk A40
   clear A40
   simp only [Option.some.injEq,Prod.mk.injEq] at H
   obtain ⟨rfl,rfl⟩:=H
   go_enter Tryd.func24,Tryd.ntmps24
   go_wp2_with (first|((with_reducible refine gate_callee (f:=48) rfl ?_);refine goesL_ (some 11) rfl rfl Tryd.func48 (by kernel_rfl) rfl #[.string a0] rfl (by (try simp only [List.map_toArray,List.map_cons,List.map_nil]);first | done | rfl|(simp only [List.length_drop,List.length_take];rfl)) ?_;(with_reducible refine (spec_l11Escape.calls k a0 t471 _ A4.out).mono ?_);rintro e w5 ⟨rfl,hb⟩;refine ⟨_,rfl,?_⟩;have n0_:=aMk (below_step (by repeat first|exact HB.out|apply bwA|apply bwN|apply bw1) hb);clear HB;have HB:=n0_;clear n0_;(try clear hb);(try clear hb2);(try clear hk);(try clear hi)))
   go_ret2
   exact ⟨by first | rfl|(simp [errW_none,errW_some] <;> rfl)|(simp [*,errW_none,errW_some] <;> rfl),by repeat (first|(with_reducible first|exact HB.out|apply bwA|apply bwN|apply bw1)|exact HB.out)⟩
end
section
/-! ### impl_UnescapeText: function 25 -/
def impl_UnescapeText.f (k : Nat) (a0 : ByteArray) : Option (ByteArray × Int):=if (a0.size : Int) > 65536 then (some ((⟨#[]⟩ : ByteArray),2)) else ((impl_unescape.f k a0).bind fun bt472 => (if bt472.2 = true then (some (bt472.1,0)) else (some ((⟨#[]⟩ : ByteArray),3))))
theorem impl_UnescapeText.mono : ∀ a0 k,LeO (impl_UnescapeText.f k a0) (impl_UnescapeText.f (k + 1) a0):=by
 intro a0 k
 unfold impl_UnescapeText.f
 repeat' first
   | (with_reducible exact impl_unescape.mono ..)
   | (with_reducible exact LeO.refl _)
   | (with_reducible exact LeO.none _)
   | (with_reducible refine LeO.ite ?_ ?_)
   | (with_reducible refine LeO.bind ?_ (fun _ => ?_))
   | exact impl_unescape.mono ..
   | exact LeO.none _
   | refine LeO.ite ?_ ?_
   | refine LeO.bind ?_ (fun _ => ?_)
set_option maxHeartbeats 8000000 in
set_option maxRecDepth 100000 in
theorem impl_UnescapeText.calls (k : Nat) (a0 : ByteArray) (r1 : ByteArray) (r2 : Int) (w : World) (h : impl_UnescapeText.f k a0 = some (r1,r2)) :
  Calls Tryd.prog 25 #[.string a0] w fun e w' => e = .returned (.tuple #[.string r1,.int .i64 r2]) ∧ Below w.heap.size w w':=by
 have HB:=aMk (Below.refl w.heap.size w)
 have H : (if (a0.size : Int) > 65536 then (some ((⟨#[]⟩ : ByteArray),2)) else ((impl_unescape.f k a0).bind fun bt472 => (if bt472.2 = true then (some (bt472.1,0)) else (some ((⟨#[]⟩ : ByteArray),3))))) = some (r1,r2):=h
 clear h
 by_cases c2 : (a0.size : Int) > 65536
 ·rw [if_pos c2] at H
  have c2b0 : decide (65536 < (a0.size : Int)) = true:=decide_eq_true c2
  have c2b1 : decide (65536 < a0.size) = true:=decide_eq_true (by omega)
  clear c2
  simp only [Option.some.injEq,Prod.mk.injEq] at H
  obtain ⟨rfl,rfl⟩:=H
  go_enter Tryd.func25,Tryd.ntmps25
  go_wp2
  go_ret2
  exact ⟨by first | rfl|(simp [errW_none,errW_some] <;> rfl)|(simp [*,errW_none,errW_some] <;> rfl),by repeat (first|(with_reducible first|exact HB.out|apply bwA|apply bwN|apply bw1)|exact HB.out)⟩
 ·rw [if_neg c2] at H
  have c2b0 : decide (65536 < (a0.size : Int)) = false:=decide_eq_false c2
  have c2b1 : decide (65536 < a0.size) = false:=decide_eq_false (by omega)
  clear c2
  replace H:=Option.bind_eq_some_iff.mp H
  obtain ⟨⟨t472,t473⟩,A30,H⟩:=H
  replace H : (if t473 = true then (some (t472,0)) else (some ((⟨#[]⟩ : ByteArray),3))) = some (r1,r2):=H
  have A3:=aMk A30
  clear A30
  by_cases c4 : t473 = true
  ·subst c4
   have H1 : (some (t472,0)) = some (r1,r2):=by rw [if_pos rfl] at H;exact H
   clear H
   have H:=H1
   clear H1
   simp only [Option.some.injEq,Prod.mk.injEq] at H
   obtain ⟨rfl,rfl⟩:=H
   go_enter Tryd.func25,Tryd.ntmps25
   go_wp2_with (first|((with_reducible refine gate_callee (f:=51) rfl ?_);refine goesL_ (some 11) rfl rfl Tryd.func51 (by kernel_rfl) rfl #[.string a0] rfl (by (try simp only [List.map_toArray,List.map_cons,List.map_nil]);first | done | rfl|(simp only [List.length_drop,List.length_take];rfl)) ?_;(with_reducible refine (impl_unescape.calls k a0 t472 true _ A3.out).mono ?_);rintro e w5 ⟨rfl,hb⟩;refine ⟨_,rfl,?_⟩;have n0_:=aMk (below_step (by repeat first|exact HB.out|apply bwA|apply bwN|apply bw1) hb);clear HB;have HB:=n0_;clear n0_;(try clear hb);(try clear hb2);(try clear hk);(try clear hi)))
   go_ret2
   exact ⟨by first | rfl|(simp [errW_none,errW_some] <;> rfl)|(simp [*,errW_none,errW_some] <;> rfl),by repeat (first|(with_reducible first|exact HB.out|apply bwA|apply bwN|apply bw1)|exact HB.out)⟩
  ·replace c4:=Bool.eq_false_iff.mpr c4
   subst c4
   have H1 : (some ((⟨#[]⟩ : ByteArray),3)) = some (r1,r2):=by rw [if_neg (show ¬ (false = true) by decide)] at H;exact H
   clear H
   have H:=H1
   clear H1
   simp only [Option.some.injEq,Prod.mk.injEq] at H
   obtain ⟨rfl,rfl⟩:=H
   go_enter Tryd.func25,Tryd.ntmps25
   go_wp2_with (first|((with_reducible refine gate_callee (f:=51) rfl ?_);refine goesL_ (some 11) rfl rfl Tryd.func51 (by kernel_rfl) rfl #[.string a0] rfl (by (try simp only [List.map_toArray,List.map_cons,List.map_nil]);first | done | rfl|(simp only [List.length_drop,List.length_take];rfl)) ?_;(with_reducible refine (impl_unescape.calls k a0 t472 false _ A3.out).mono ?_);rintro e w6 ⟨rfl,hb⟩;refine ⟨_,rfl,?_⟩;have n0_:=aMk (below_step (by repeat first|exact HB.out|apply bwA|apply bwN|apply bw1) hb);clear HB;have HB:=n0_;clear n0_;(try clear hb);(try clear hb2);(try clear hk);(try clear hi)))
   go_ret2
   exact ⟨by first | rfl|(simp [errW_none,errW_some] <;> rfl)|(simp [*,errW_none,errW_some] <;> rfl),by repeat (first|(with_reducible first|exact HB.out|apply bwA|apply bwN|apply bw1)|exact HB.out)⟩
end
section
theorem eqA55 (d : Nat) (w : World) (x0 y0 : ByteArray) (x1 y1 : ByteArray) :
  (Op.equalIn (d + 2) 55 (.agg #[.string x0,.string x1]) (.agg #[.string y0,.string y1])).run Tryd.prog w = .ok (x0.toList == y0.toList && (x1.toList == y1.toList)) w:=by
 refine eqA_of Tryd.underlying55 (by kernel_rfl) ?_
 refine eqf_cons (by rfl) (by go_simp;rfl) (by go_simp;rfl) (by go_simp) ?_
 exact eqf_last (by rfl) (by go_simp;rfl) (by go_simp;rfl) (by go_simp)
end
section
attribute [local go_sem high] eqA55
/-! ### laws_samePairs: function 26 -/
def laws_samePairs.l0 : Nat → List (S55) → List (S55) → Int → Option (Bool)
 | 0,_,_,_ => none
 | k + 1,x0,x1,x5 => if x5 < (x0.length : Int) then (if 0 ≤ x5 then (if x5 < (x1.length : Int) then (if (!((((rd_T55 x0 x5).f0).toList) == (((rd_T55 x1 x5).f0).toList)) || (!((((rd_T55 x0 x5).f1).toList) == (((rd_T55 x1 x5).f1).toList)))) = true then (some false) else (laws_samePairs.l0 k x0 x1 (wrap64 (x5 + 1)))) else (none)) else (none)) else (some true)
def laws_samePairs.f (k : Nat) (l0 : List (S55)) (l1 : List (S55)) : Option (Bool):=if (l0.length : Int) = (l1.length : Int) then (laws_samePairs.l0 k l0 l1 0) else (some false)
theorem laws_samePairs.mono_l : ∀ k,(∀ y0 y1 y2,LeO (laws_samePairs.l0 k y0 y1 y2) (laws_samePairs.l0 (k + 1) y0 y1 y2))
 | 0 => fun _ _ _ r h => by simp [laws_samePairs.l0] at h
 | k + 1 => by
  have ih0:=laws_samePairs.mono_l k
  ·intro y0 y1 y2
   unfold laws_samePairs.l0
   repeat' first
   | (with_reducible exact ih0 _ _ _)
   | (with_reducible exact LeO.refl _)
   | (with_reducible exact LeO.none _)
   | (with_reducible refine LeO.ite ?_ ?_)
   | (with_reducible refine LeO.bind ?_ (fun _ => ?_))
   | exact ih0 _ _ _
   | exact LeO.none _
   | refine LeO.ite ?_ ?_
   | refine LeO.bind ?_ (fun _ => ?_)
theorem laws_samePairs.mono : ∀ a0 a1 k,LeO (laws_samePairs.f k a0 a1) (laws_samePairs.f (k + 1) a0 a1):=by
 intro a0 a1 k
 have ih0:=laws_samePairs.mono_l k
 unfold laws_samePairs.f
 repeat' first
   | (with_reducible exact ih0 _ _ _)
   | (with_reducible exact LeO.refl _)
   | (with_reducible exact LeO.none _)
   | (with_reducible refine LeO.ite ?_ ?_)
   | (with_reducible refine LeO.bind ?_ (fun _ => ?_))
   | exact ih0 _ _ _
   | exact LeO.none _
   | refine LeO.ite ?_ ?_
   | refine LeO.bind ?_ (fun _ => ?_)
set_option maxHeartbeats 8000000 in
set_option maxRecDepth 100000 in
theorem laws_samePairs.calls (k : Nat) (A0 : Option Addr) (c0 : Nat) (l0 : List (S55)) (A1 : Option Addr) (c1 : Nat) (l1 : List (S55)) (r : Bool) (w : World) (hr0 : Kd.C k55 w A0 l0.length l0) (hc0 : l0.length ≤ c0) (hr1 : Kd.C k55 w A1 l1.length l1) (hc1 : l1.length ≤ c1) (h : laws_samePairs.f k l0 l1 = some r) :
  Calls Tryd.prog 26 #[.slice A0 l0.length c0,.slice A1 l1.length c1] w fun e w' => e = .returned (.bool r) ∧ Drawn0 w w':=by
 have hu55:=Tryd.underlying55
 have HR0:=aMk hr0
 have HC0:=aMk hc0
 clear hr0 hc0
 have HR1:=aMk hr1
 have HC1:=aMk hc1
 clear hr1 hc1
 have H : (if (l0.length : Int) = (l1.length : Int) then (laws_samePairs.l0 k l0 l1 0) else (some false)) = some r:=h
 clear h
 by_cases c3 : (l0.length : Int) = (l1.length : Int)
 ·rw [if_pos c3] at H
  have c3b0 : ((l0.length : Int) == (l1.length : Int)) = true:=beq_iff_eq.mpr c3
  have c3b1 : ((l0.length : Int) != (l1.length : Int)) = false:=bne_eq_false_iff_eq.mpr c3
  have c3b2 : (l0.length == l1.length) = true:=by first | simpa using c3|(simp at c3 ⊢;omega)
  clear c3
  have H':=aMk H
  clear H
  go_enter Tryd.func26,Tryd.ntmps26
  go_wp2
  repeat (go_quiet (fail);try go_wp2)
  go_loopg [5] k (fun kq v5 w' => ∃ (x5_1 : Int),v5 = .int .i64 x5_1 ∧ Aside0 (laws_samePairs.l0 kq l0 l1 x5_1 = some r) ∧ Aside0 (kq ≤ k) ∧ Drawn0 w w')
  case atStart => exact ⟨(0),(by first | rfl|(simp;done)|(simp [*];done)|(simp [ne_nil_b];done)|(simp [ne_nil_b, *];done)),H',⟨Nat.le_refl _⟩,by repeat (first|exact Drawn0.refl _|apply Drawn0.step)⟩
  case round =>
   clear H'
   try clear c1
   try clear c2
   try clear p2
   try clear c3
   try clear c3b0
   try clear c3b1
   try clear c3b2
   obtain ⟨x5_1,rfl,HA,HK1,⟨m1,rfl⟩⟩:=hrel
   cases gk with
   | zero => exact absurd HA.out (by simp [laws_samePairs.l0])
   | succ k1 =>
    have H:=HA.out
    clear HA
    simp only [laws_samePairs.l0] at H
    by_cases c4 : x5_1 < (l0.length : Int)
    ·rw [if_pos c4] at H
     have c4b0 : decide (x5_1 < (l0.length : Int)) = true:=decide_eq_true c4
     clear c4
     by_cases c5 : 0 ≤ x5_1
     ·rw [if_pos c5] at H
      have c5b0 : decide (0 ≤ x5_1) = true:=decide_eq_true c5
      clear c5
      by_cases c6 : x5_1 < (l1.length : Int)
      ·rw [if_pos c6] at H
       have c6b0 : decide (x5_1 < (l1.length : Int)) = true:=decide_eq_true c6
       clear c6
       by_cases c7 : (!((((rd_T55 l0 x5_1).f0).toList) == (((rd_T55 l1 x5_1).f0).toList)) || (!((((rd_T55 l0 x5_1).f1).toList) == (((rd_T55 l1 x5_1).f1).toList)))) = true
       ·rw [if_pos c7] at H
        have c7b0 : (!((((rd_T55 l0 x5_1).f0).toList) == (((rd_T55 l1 x5_1).f0).toList)) || (!((((rd_T55 l0 x5_1).f1).toList) == (((rd_T55 l1 x5_1).f1).toList)))) = true:=c7
        clear c7
        obtain rfl:=Option.some.inj H
        have p474 : 0 ≤ (x5_1 : Int):=of_decide_eq_true (by first|(with_reducible assumption) | assumption)
        have q474 : x5_1 < (l0.length : Int):=of_decide_eq_true (by first|(with_reducible assumption) | assumption)
        obtain ⟨ad474,e474,hx474_0,hx474_1⟩:=at_T55 HR0.out x5_1 p474 q474
        cases e474
        replace p474:=eq_true p474
        replace q474:=eq_true q474
        have p475 : 0 ≤ (x5_1 : Int):=of_decide_eq_true (by first|(with_reducible assumption) | assumption)
        have q475 : x5_1 < (l1.length : Int):=of_decide_eq_true (by first|(with_reducible assumption) | assumption)
        obtain ⟨ad475,e475,hx475_0,hx475_1⟩:=at_T55 HR1.out x5_1 p475 q475
        cases e475
        replace p475:=eq_true p475
        replace q475:=eq_true q475
        go_wp2
        repeat (go_quiet (fail);try go_wp2)
        go_ret
        exact ⟨by first | rfl|(simp;done)|(simp [*];done)|(simp [ne_nil_b];done)|(simp [ne_nil_b, *];done),by repeat (first|exact Drawn0.refl _|apply Drawn0.step)⟩
       ·rw [if_neg c7] at H
        have c7b0 : (!((((rd_T55 l0 x5_1).f0).toList) == (((rd_T55 l1 x5_1).f0).toList)) || (!((((rd_T55 l0 x5_1).f1).toList) == (((rd_T55 l1 x5_1).f1).toList)))) = false:=by simpa using c7
        clear c7
        have H':=aMk H
        clear H
        have p474 : 0 ≤ (x5_1 : Int):=of_decide_eq_true (by first|(with_reducible assumption) | assumption)
        have q474 : x5_1 < (l0.length : Int):=of_decide_eq_true (by first|(with_reducible assumption) | assumption)
        obtain ⟨ad474,e474,hx474_0,hx474_1⟩:=at_T55 HR0.out x5_1 p474 q474
        cases e474
        replace p474:=eq_true p474
        replace q474:=eq_true q474
        have p475 : 0 ≤ (x5_1 : Int):=of_decide_eq_true (by first|(with_reducible assumption) | assumption)
        have q475 : x5_1 < (l1.length : Int):=of_decide_eq_true (by first|(with_reducible assumption) | assumption)
        obtain ⟨ad475,e475,hx475_0,hx475_1⟩:=at_T55 HR1.out x5_1 p475 q475
        cases e475
        replace p475:=eq_true p475
        replace q475:=eq_true q475
        go_wp2
        repeat (go_quiet (fail);try go_wp2)
        go_roundg k1
        case measure => have:=HK1.out;omega
        case rel => exact ⟨(wrap64 (x5_1 + 1)),(by first | rfl|(simp;done)|(simp [*];done)|(simp [ne_nil_b];done)|(simp [ne_nil_b, *];done)),H',⟨by have:=HK1.out;omega⟩,by repeat (first|exact Drawn0.refl _|apply Drawn0.step)⟩
      ·rw [if_neg c6] at H
       exact absurd H (by simp)
     ·rw [if_neg c5] at H
      exact absurd H (by simp)
    ·rw [if_neg c4] at H
     have c4b0 : decide (x5_1 < (l0.length : Int)) = false:=decide_eq_false c4
     clear c4
     obtain rfl:=Option.some.inj H
     go_wp2
     repeat (go_quiet (fail);try go_wp2)
     go_ret
     exact ⟨by first | rfl|(simp;done)|(simp [*];done)|(simp [ne_nil_b];done)|(simp [ne_nil_b, *];done),by repeat (first|exact Drawn0.refl _|apply Drawn0.step)⟩
 ·rw [if_neg c3] at H
  have c3b0 : ((l0.length : Int) == (l1.length : Int)) = false:=beq_eq_false_iff_ne.mpr c3
  have c3b1 : ((l0.length : Int) != (l1.length : Int)) = true:=bne_iff_ne.mpr c3
  have c3b2 : (l0.length == l1.length) = false:=by first | simpa using c3|(simp at c3 ⊢;omega)
  obtain rfl:=Option.some.inj H
  go_enter Tryd.func26,Tryd.ntmps26
  go_wp2
  repeat (go_quiet (fail);try go_wp2)
  go_ret
  exact ⟨by first | rfl|(simp;done)|(simp [*];done)|(simp [ne_nil_b];done)|(simp [ne_nil_b, *];done),by repeat (first|exact Drawn0.refl _|apply Drawn0.step)⟩
end
section
/-! ### spec_l01In: function 92 -/
def spec_l01In.f (a0 : Int) (a1 : Int) (a2 : Int) : Option (Bool):=if a1 ≤ a0 then (some (decide (a0 ≤ a2))) else (some false)
set_option maxHeartbeats 8000000 in
set_option maxRecDepth 100000 in
theorem spec_l01In.calls (a0 : Int) (a1 : Int) (a2 : Int) (r : Bool) (w : World) (h : spec_l01In.f a0 a1 a2 = some r) :
  Calls Tryd.prog 92 #[.int .i64 a0,.int .i64 a1,.int .i64 a2] w fun e w' => e = .returned (.bool r) ∧ Drawn0 w w':=by
 have H : (if a1 ≤ a0 then (some (decide (a0 ≤ a2))) else (some false)) = some r:=h
 clear h
 by_cases c4 : a1 ≤ a0
 ·rw [if_pos c4] at H
  have c4b0 : decide (a1 ≤ a0) = true:=decide_eq_true c4
  clear c4
  obtain rfl:=Option.some.inj H
  go_enter Tryd.func92,Tryd.ntmps92
  go_wp2
  go_ret
  exact ⟨by first | rfl|(simp;done)|(simp [*];done)|(simp [ne_nil_b];done)|(simp [ne_nil_b, *];done),by repeat (first|exact Drawn0.refl _|apply Drawn0.step)⟩
 ·rw [if_neg c4] at H
  have c4b0 : decide (a1 ≤ a0) = false:=decide_eq_false c4
  clear c4
  obtain rfl:=Option.some.inj H
  go_enter Tryd.func92,Tryd.ntmps92
  go_wp2
  go_ret
  exact ⟨by first | rfl|(simp;done)|(simp [*];done)|(simp [ne_nil_b];done)|(simp [ne_nil_b, *];done),by repeat (first|exact Drawn0.refl _|apply Drawn0.step)⟩
end
section
/-! ### spec_l11Small: function 77 -/
def spec_l11Small.l0 : Nat → ByteArray → List Int → Int → Option (ByteArray)
 | 0,_,_,_ => none
 | k + 1,x0,x3,x4 => if x4 < (x0.size : Int) then (if 0 ≤ x4 then ((spec_l01In.f (wrap64 (bt x0 x4)) 65 90).bind fun t196 => (if t196 = true then (if x3.length < 140737488355328 then (spec_l11Small.l0 k x0 (x3 ++ [((bt x0 x4) + 32) % 256]) (wrap64 (x4 + 1))) else (none)) else (if x3.length < 140737488355328 then (spec_l11Small.l0 k x0 (x3 ++ [bt x0 x4]) (wrap64 (x4 + 1))) else (none)))) else (none)) else (some (strOfNums x3))
def spec_l11Small.f (k : Nat) (a0 : ByteArray) : Option (ByteArray):=spec_l11Small.l0 k a0 (([] : List Int)) 0
theorem spec_l11Small.mono_l : ∀ k,(∀ y0 y1 y2,LeO (spec_l11Small.l0 k y0 y1 y2) (spec_l11Small.l0 (k + 1) y0 y1 y2))
 | 0 => fun _ _ _ r h => by simp [spec_l11Small.l0] at h
 | k + 1 => by
  have ih0:=spec_l11Small.mono_l k
  ·intro y0 y1 y2
   unfold spec_l11Small.l0
   repeat' first
   | (with_reducible exact ih0 _ _ _)
   | (with_reducible exact LeO.refl _)
   | (with_reducible exact LeO.none _)
   | (with_reducible refine LeO.ite ?_ ?_)
   | (with_reducible refine LeO.bind ?_ (fun _ => ?_))
   | exact ih0 _ _ _
   | exact LeO.none _
   | refine LeO.ite ?_ ?_
   | refine LeO.bind ?_ (fun _ => ?_)
theorem spec_l11Small.mono : ∀ a0 k,LeO (spec_l11Small.f k a0) (spec_l11Small.f (k + 1) a0):=by
 intro a0 k
 have ih0:=spec_l11Small.mono_l k
 unfold spec_l11Small.f
 repeat' first
   | (with_reducible exact ih0 _ _ _)
   | (with_reducible exact LeO.refl _)
   | (with_reducible exact LeO.none _)
   | (with_reducible refine LeO.ite ?_ ?_)
   | (with_reducible refine LeO.bind ?_ (fun _ => ?_))
   | exact ih0 _ _ _
   | exact LeO.none _
   | refine LeO.ite ?_ ?_
   | refine LeO.bind ?_ (fun _ => ?_)
set_option maxHeartbeats 8000000 in
set_option maxRecDepth 100000 in
theorem spec_l11Small.calls (k : Nat) (a0 : ByteArray) (r : ByteArray) (w : World) (h : spec_l11Small.f k a0 = some r) :
  Calls Tryd.prog 77 #[.string a0] w fun e w' => e = .returned (.string r) ∧ Below w.heap.size w w':=by
 have HB:=aMk (Below.refl w.heap.size w)
 have H : (spec_l11Small.l0 k a0 (([] : List Int)) 0) = some r:=h
 clear h
 obtain ⟨y193,hy193⟩ : ∃ y_ : List Int,y_ = (([] : List Int)):=⟨_,rfl⟩
 replace H : (spec_l11Small.l0 k a0 y193 0) = some r:=by first|(rw [hy193];with_reducible exact H)|(have H2_:=(Option.bind_some _ _).symm.trans H;rw [hy193];with_reducible exact H2_)|(have H2_:=(Option.bind_some _ _).symm.trans H;with_reducible exact H2_) | with_reducible exact H|(rw [hy193];exact H)|exact H
 have Ny193:=aMk hy193
 clear hy193
 have H':=aMk H
 clear H
 go_enter Tryd.func77,Tryd.ntmps77
 go_wp2_with (first|((with_reducible refine gate_dst (N:=6) rfl ?_);refine Kd.R_lit (Kd.int .u8) _ 5 ?hg (N:=6) ?hd (xs:=([] : List Int)) (inner:=[]) (ok:=fun _ => True) (okp:=fun _ => True) ?hr ?hp (fun _ hk => hk) trivial (Below.refl _ _) (Nat.le_refl _) (by simp) ?_;(case hd => rfl);(case hg => rfl);(case hr => first|(go_simp;done)|(go_simp;rfl));(case hp => exact (Reps.none _ _));intro v194 w2 ho3 hb hg_ hnew_;clear hg_ hnew_;(first|rw [← Ny193.out] at ho3|(simp only [Int.reduceToNat] at ho3;rw [← Ny193.out] at ho3));have n0_:=aMk (Kd.R_lower ho3 (below_size (by repeat first|exact HB.out|apply bwA|apply bwN|apply bw1)));have n1_:=aMk (below_step (by repeat first|exact HB.out|apply bwA|apply bwN|apply bw1) hb);clear HB;have HO195:=n0_;have HB:=n1_;clear n0_ n1_;clear hb ho3))
 go_loopg [3,4] k (fun kq v3 v4 w' => ∃ (x3_1 : List Int) (x4_1 : Int),v4 = .int .i64 x4_1 ∧ Aside0 (spec_l11Small.l0 kq a0 x3_1 x4_1 = some r) ∧ Aside0 (kq ≤ k) ∧ Aside0 (Kd.R (Kd.int .u8) 5 w' w.heap.size (fun _ => True) v3 x3_1) ∧ Aside0 (Below w.heap.size w w'))
 case atStart => exact ⟨(y193),(0),(by first | rfl|(simp;done)|(simp [*];done)|(simp [ne_nil_b];done)|(simp [ne_nil_b, *];done)),H',⟨Nat.le_refl _⟩,⟨by (with_reducible repeat (first|apply Kd.R_alloc|apply Kd.R_drewN|apply Kd.R_drew));exact HO195.out⟩,⟨by repeat (first|(with_reducible first|exact HB.out|apply bwA|apply bwN|apply bw1)|exact HB.out)⟩⟩
 case round =>
  clear H'
  try clear p2
  obtain ⟨x3_1,x4_1,rfl,HA,HK1,HO_3,HB⟩:=hrel
  cases gk with
  | zero => exact absurd HA.out (by simp [spec_l11Small.l0])
  | succ k1 =>
   have H:=HA.out
   clear HA
   simp only [spec_l11Small.l0] at H
   by_cases c4 : x4_1 < (a0.size : Int)
   ·rw [if_pos c4] at H
    have c4b0 : decide (x4_1 < (a0.size : Int)) = true:=decide_eq_true c4
    clear c4
    by_cases c5 : 0 ≤ x4_1
    ·rw [if_pos c5] at H
     have c5b0 : decide (0 ≤ x4_1) = true:=decide_eq_true c5
     clear c5
     replace H:=Option.bind_eq_some_iff.mp H
     obtain ⟨t196,A70,H⟩:=H
     replace H : (if t196 = true then (if x3_1.length < 140737488355328 then (spec_l11Small.l0 k1 a0 (x3_1 ++ [((bt a0 x4_1) + 32) % 256]) (wrap64 (x4_1 + 1))) else (none)) else (if x3_1.length < 140737488355328 then (spec_l11Small.l0 k1 a0 (x3_1 ++ [bt a0 x4_1]) (wrap64 (x4_1 + 1))) else (none))) = some r:=H
     have A7:=aMk A70
     clear A70
     by_cases c8 : t196 = true
     ·subst c8
      have H1 : (if x3_1.length < 140737488355328 then (spec_l11Small.l0 k1 a0 (x3_1 ++ [((bt a0 x4_1) + 32) % 256]) (wrap64 (x4_1 + 1))) else (none)) = some r:=by rw [if_pos rfl] at H;exact H
      clear H
      have H:=H1
      clear H1
      by_cases c9 : x3_1.length < 140737488355328
      ·rw [if_pos c9] at H
       have LMc9:=aMk c9
       clear c9
       obtain ⟨y197,hy197⟩ : ∃ y_ : List Int,y_ = (x3_1 ++ [((bt a0 x4_1) + 32) % 256]):=⟨_,rfl⟩
       replace H : (spec_l11Small.l0 k1 a0 y197 (wrap64 (x4_1 + 1))) = some r:=by first|(rw [hy197];with_reducible exact H)|(have H2_:=(Option.bind_some _ _).symm.trans H;rw [hy197];with_reducible exact H2_)|(have H2_:=(Option.bind_some _ _).symm.trans H;with_reducible exact H2_) | with_reducible exact H|(rw [hy197];exact H)|exact H
       have Ny197:=aMk hy197
       clear hy197
       have H':=aMk H
       clear H
       have p6 : 0 ≤ (x4_1 : Int):=of_decide_eq_true (by first|(with_reducible assumption) | assumption)
       have q6 : x4_1 < (a0.size : Int):=of_decide_eq_true (by first|(with_reducible assumption) | assumption)
       have hx6:=bt_at a0 x4_1
       replace p6:=eq_true p6
       replace q6:=eq_true q6
       go_wp2_with (first|((with_reducible refine gate_callee (f:=92) rfl ?_);refine goesL_ (some 18) rfl rfl Tryd.func92 (by kernel_rfl) rfl #[.int .i64 (wrap64 (bt a0 x4_1)),.int .i64 65,.int .i64 90] rfl (by (try simp only [List.map_toArray,List.map_cons,List.map_nil]);first | done | rfl|(simp only [List.length_drop,List.length_take];rfl)) ?_;(with_reducible refine (spec_l01In.calls (wrap64 (bt a0 x4_1)) 65 90 true _ A7.out).mono ?_);rintro e w' ⟨rfl,⟨nd,rfl⟩⟩;refine ⟨_,rfl,?_⟩)|((with_reducible refine gate_builtin (b:=.append) (xs:=#[.tmp 21,.tmp 23]) rfl ?_);at_builtin;refine Kd.R_append (Kd.int .u8) (w0:=w) w.heap.size rfl (.tmp 21) (.tmp 23) 38 5 (.int .u8 0) 1 rfl Tryd.underlying38 info5 rfl (by decide) (by omega) u3 x3_1 (((bt a0 x4_1) + 32) % 256) [.int .u8 (((bt a0 x4_1) + 32) % 256)] (fun _ => True) (fun _ => False) rfl rfl ?aP (fun _ hk => hk.elim) ?aF ?aO ?aB ?aS ?aL ?_;(case aP => exact rfl);(case aB => exact (by repeat first|exact HB.out|apply bwA|apply bwN|apply bw1));(case aF => exact (fun _ _ => trivial));(case aO => exact (by (with_reducible repeat (first|apply Kd.R_alloc|apply Kd.R_drewN|apply Kd.R_drew));exact HO_3.out));(case aS => exact (below_size (by repeat first|exact HB.out|apply bwA|apply bwN|apply bw1)));(case aL => have:=LMc9.out;omega);intro v198 w10 ho hb hg hat;rw [← Ny197.out] at ho;have n0_:=aMk (hb);have n1_:=aMk (ho);clear HB;clear HO_3;have HB:=n0_;have HO199:=n1_;clear n0_ n1_;clear ho hb hg hat))
       go_roundg k1
       case measure => have:=HK1.out;omega
       case rel => exact ⟨(y197),(wrap64 (x4_1 + 1)),(by first | rfl|(simp;done)|(simp [*];done)|(simp [ne_nil_b];done)|(simp [ne_nil_b, *];done)),H',⟨by have:=HK1.out;omega⟩,⟨by (with_reducible repeat (first|apply Kd.R_alloc|apply Kd.R_drewN|apply Kd.R_drew));exact HO199.out⟩,⟨by repeat (first|(with_reducible first|exact HB.out|apply bwA|apply bwN|apply bw1)|exact HB.out)⟩⟩
      ·rw [if_neg c9] at H
       exact absurd H (by simp)
     ·replace c8:=Bool.eq_false_iff.mpr c8
      subst c8
      have H1 : (if x3_1.length < 140737488355328 then (spec_l11Small.l0 k1 a0 (x3_1 ++ [bt a0 x4_1]) (wrap64 (x4_1 + 1))) else (none)) = some r:=by rw [if_neg (show ¬ (false = true) by decide)] at H;exact H
      clear H
      have H:=H1
      clear H1
      by_cases c11 : x3_1.length < 140737488355328
      ·rw [if_pos c11] at H
       have LMc11:=aMk c11
       clear c11
       obtain ⟨y200,hy200⟩ : ∃ y_ : List Int,y_ = (x3_1 ++ [bt a0 x4_1]):=⟨_,rfl⟩
       replace H : (spec_l11Small.l0 k1 a0 y200 (wrap64 (x4_1 + 1))) = some r:=by first|(rw [hy200];with_reducible exact H)|(have H2_:=(Option.bind_some _ _).symm.trans H;rw [hy200];with_reducible exact H2_)|(have H2_:=(Option.bind_some _ _).symm.trans H;with_reducible exact H2_) | with_reducible exact H|(rw [hy200];exact H)|exact H
       have Ny200:=aMk hy200
       clear hy200
       have H':=aMk H
       clear H
       have p6 : 0 ≤ (x4_1 : Int):=of_decide_eq_true (by first|(with_reducible assumption) | assumption)
       have q6 : x4_1 < (a0.size : Int):=of_decide_eq_true (by first|(with_reducible assumption) | assumption)
       have hx6:=bt_at a0 x4_1
       replace p6:=eq_true p6
       replace q6:=eq_true q6
       go_wp2_with (first|((with_reducible refine gate_callee (f:=92) rfl ?_);refine goesL_ (some 18) rfl rfl Tryd.func92 (by kernel_rfl) rfl #[.int .i64 (wrap64 (bt a0 x4_1)),.int .i64 65,.int .i64 90] rfl (by (try simp only [List.map_toArray,List.map_cons,List.map_nil]);first | done | rfl|(simp only [List.length_drop,List.length_take];rfl)) ?_;(with_reducible refine (spec_l01In.calls (wrap64 (bt a0 x4_1)) 65 90 false _ A7.out).mono ?_);rintro e w' ⟨rfl,⟨nd,rfl⟩⟩;refine ⟨_,rfl,?_⟩)|((with_reducible refine gate_builtin (b:=.append) (xs:=#[.tmp 21,.tmp 23]) rfl ?_);at_builtin;refine Kd.R_append (Kd.int .u8) (w0:=w) w.heap.size rfl (.tmp 21) (.tmp 23) 38 5 (.int .u8 0) 1 rfl Tryd.underlying38 info5 rfl (by decide) (by omega) u3 x3_1 (bt a0 x4_1) [.int .u8 (bt a0 x4_1)] (fun _ => True) (fun _ => False) rfl rfl ?aP (fun _ hk => hk.elim) ?aF ?aO ?aB ?aS ?aL ?_;(case aP => exact rfl);(case aB => exact (by repeat first|exact HB.out|apply bwA|apply bwN|apply bw1));(case aF => exact (fun _ _ => trivial));(case aO => exact (by (with_reducible repeat (first|apply Kd.R_alloc|apply Kd.R_drewN|apply Kd.R_drew));exact HO_3.out));(case aS => exact (below_size (by repeat first|exact HB.out|apply bwA|apply bwN|apply bw1)));(case aL => have:=LMc11.out;omega);intro v201 w12 ho hb hg hat;rw [← Ny200.out] at ho;have n0_:=aMk (hb);have n1_:=aMk (ho);clear HB;clear HO_3;have HB:=n0_;have HO202:=n1_;clear n0_ n1_;clear ho hb hg hat))
       go_roundg k1
       case measure => have:=HK1.out;omega
       case rel => exact ⟨(y200),(wrap64 (x4_1 + 1)),(by first | rfl|(simp;done)|(simp [*];done)|(simp [ne_nil_b];done)|(simp [ne_nil_b, *];done)),H',⟨by have:=HK1.out;omega⟩,⟨by (with_reducible repeat (first|apply Kd.R_alloc|apply Kd.R_drewN|apply Kd.R_drew));exact HO202.out⟩,⟨by repeat (first|(with_reducible first|exact HB.out|apply bwA|apply bwN|apply bw1)|exact HB.out)⟩⟩
      ·rw [if_neg c11] at H
       exact absurd H (by simp)
    ·rw [if_neg c5] at H
     exact absurd H (by simp)
   ·rw [if_neg c4] at H
    have c4b0 : decide (x4_1 < (a0.size : Int)) = false:=decide_eq_false c4
    clear c4
    obtain rfl:=Option.some.inj H
    have hcv13:=own_string (P:=Tryd.prog) Tryd.underlying38 Tryd.underlying5 Tryd.underlying9 (Kd.own_of_R HO_3.out)
    go_wp2
    go_ret
    exact ⟨by first | rfl|(simp [errW_none,errW_some] <;> rfl)|(simp [*,errW_none,errW_some] <;> rfl),by repeat (first|(with_reducible first|exact HB.out|apply bwA|apply bwN|apply bw1)|exact HB.out)⟩
end
section
/-! ### spec_l01Half: function 84 -/
def spec_l01Half.f (a0 : Int) : Option (Int):=(spec_l00Digit.f a0).bind fun t203 => (if t203 = true then (some ((a0 - 48) % 256)) else (if a0 ≥ 97 then (if a0 ≤ 102 then (some (((a0 - 97) % 256) + 10)) else (some (-1))) else (some (-1))))
set_option maxHeartbeats 8000000 in
set_option maxRecDepth 100000 in
theorem spec_l01Half.calls (a0 : Int) (r : Int) (w : World) (h : spec_l01Half.f a0 = some r) :
  Calls Tryd.prog 84 #[.int .u8 a0] w fun e w' => e = .returned (.int .i64 r) ∧ Drawn0 w w':=by
 have H : ((spec_l00Digit.f a0).bind fun t203 => (if t203 = true then (some ((a0 - 48) % 256)) else (if a0 ≥ 97 then (if a0 ≤ 102 then (some (((a0 - 97) % 256) + 10)) else (some (-1))) else (some (-1))))) = some r:=h
 clear h
 replace H:=Option.bind_eq_some_iff.mp H
 obtain ⟨t203,A20,H⟩:=H
 replace H : (if t203 = true then (some ((a0 - 48) % 256)) else (if a0 ≥ 97 then (if a0 ≤ 102 then (some (((a0 - 97) % 256) + 10)) else (some (-1))) else (some (-1)))) = some r:=H
 have A2:=aMk A20
 clear A20
 by_cases c3 : t203 = true
 ·subst c3
  have H1 : (some ((a0 - 48) % 256)) = some r:=by rw [if_pos rfl] at H;exact H
  clear H
  have H:=H1
  clear H1
  obtain rfl:=Option.some.inj H
  go_enter Tryd.func84,Tryd.ntmps84
  go_wp2_with (first|((with_reducible refine gate_callee (f:=55) rfl ?_);refine goesL_ (some 5) rfl rfl Tryd.func55 (by kernel_rfl) rfl #[.int .u8 a0] rfl (by (try simp only [List.map_toArray,List.map_cons,List.map_nil]);first | done | rfl|(simp only [List.length_drop,List.length_take];rfl)) ?_;(with_reducible refine (spec_l00Digit.calls a0 true _ A2.out).mono ?_);rintro e w' ⟨rfl,⟨nd,rfl⟩⟩;refine ⟨_,rfl,?_⟩))
  go_ret
  exact ⟨by first | rfl|(simp;done)|(simp [*];done)|(simp [ne_nil_b];done)|(simp [ne_nil_b, *];done),by repeat (first|exact Drawn0.refl _|apply Drawn0.step)⟩
 ·replace c3:=Bool.eq_false_iff.mpr c3
  subst c3
  have H1 : (if a0 ≥ 97 then (if a0 ≤ 102 then (some (((a0 - 97) % 256) + 10)) else (some (-1))) else (some (-1))) = some r:=by rw [if_neg (show ¬ (false = true) by decide)] at H;exact H
  clear H
  have H:=H1
  clear H1
  by_cases c4 : a0 ≥ 97
  ·rw [if_pos c4] at H
   have c4b0 : decide (97 ≤ a0) = true:=decide_eq_true c4
   clear c4
   by_cases c5 : a0 ≤ 102
   ·rw [if_pos c5] at H
    have c5b0 : decide (a0 ≤ 102) = true:=decide_eq_true c5
    clear c5
    obtain rfl:=Option.some.inj H
    go_enter Tryd.func84,Tryd.ntmps84
    go_wp2_with (first|((with_reducible refine gate_callee (f:=55) rfl ?_);refine goesL_ (some 5) rfl rfl Tryd.func55 (by kernel_rfl) rfl #[.int .u8 a0] rfl (by (try simp only [List.map_toArray,List.map_cons,List.map_nil]);first | done | rfl|(simp only [List.length_drop,List.length_take];rfl)) ?_;(with_reducible refine (spec_l00Digit.calls a0 false _ A2.out).mono ?_);rintro e w' ⟨rfl,⟨nd,rfl⟩⟩;refine ⟨_,rfl,?_⟩))
    go_ret
    exact ⟨by first | rfl|(simp;done)|(simp [*];done)|(simp [ne_nil_b];done)|(simp [ne_nil_b, *];done),by repeat (first|exact Drawn0.refl _|apply Drawn0.step)⟩
   ·rw [if_neg c5] at H
    have c5b0 : decide (a0 ≤ 102) = false:=decide_eq_false c5
    clear c5
    obtain rfl:=Option.some.inj H
    go_enter Tryd.func84,Tryd.ntmps84
    go_wp2_with (first|((with_reducible refine gate_callee (f:=55) rfl ?_);refine goesL_ (some 5) rfl rfl Tryd.func55 (by kernel_rfl) rfl #[.int .u8 a0] rfl (by (try simp only [List.map_toArray,List.map_cons,List.map_nil]);first | done | rfl|(simp only [List.length_drop,List.length_take];rfl)) ?_;(with_reducible refine (spec_l00Digit.calls a0 false _ A2.out).mono ?_);rintro e w' ⟨rfl,⟨nd,rfl⟩⟩;refine ⟨_,rfl,?_⟩))
    go_ret
    exact ⟨by first | rfl|(simp;done)|(simp [*];done)|(simp [ne_nil_b];done)|(simp [ne_nil_b, *];done),by repeat (first|exact Drawn0.refl _|apply Drawn0.step)⟩
  ·rw [if_neg c4] at H
   have c4b0 : decide (97 ≤ a0) = false:=decide_eq_false c4
   clear c4
   obtain rfl:=Option.some.inj H
   go_enter Tryd.func84,Tryd.ntmps84
   go_wp2_with (first|((with_reducible refine gate_callee (f:=55) rfl ?_);refine goesL_ (some 5) rfl rfl Tryd.func55 (by kernel_rfl) rfl #[.int .u8 a0] rfl (by (try simp only [List.map_toArray,List.map_cons,List.map_nil]);first | done | rfl|(simp only [List.length_drop,List.length_take];rfl)) ?_;(with_reducible refine (spec_l00Digit.calls a0 false _ A2.out).mono ?_);rintro e w' ⟨rfl,⟨nd,rfl⟩⟩;refine ⟨_,rfl,?_⟩))
   go_ret
   exact ⟨by first | rfl|(simp;done)|(simp [*];done)|(simp [ne_nil_b];done)|(simp [ne_nil_b, *];done),by repeat (first|exact Drawn0.refl _|apply Drawn0.step)⟩
end
section
/-! ### spec_l11Un: function 64 -/
def spec_l11Un.l0 : Nat → ByteArray → List Int → Int → Option (ByteArray × Bool)
 | 0,_,_,_ => none
 | k + 1,x0,x4,x5 => if x5 < (x0.size : Int) then (if 0 ≤ x5 then (if (bt x0 x5) = 43 then (if x4.length < 140737488355328 then (spec_l11Un.l0 k x0 (x4 ++ [32]) (wrap64 (x5 + 1))) else (none)) else (if (bt x0 x5) = 37 then (if (wrap64 (x5 + 2)) ≥ (x0.size : Int) then (some ((⟨#[]⟩ : ByteArray),false)) else (if 0 ≤ (wrap64 (x5 + 1)) then (if (wrap64 (x5 + 1)) ≤ (wrap64 (x5 + 3)) then (if (wrap64 (x5 + 3)) ≤ (x0.size : Int) then ((spec_l11Small.f k (x0.extract ((wrap64 (x5 + 1)) : Int).toNat ((wrap64 (x5 + 3)) : Int).toNat)).bind fun t210 => (if 0 < (t210.size : Int) then ((spec_l01Half.f (bt t210 0)).bind fun t211 => (if 1 < (t210.size : Int) then ((spec_l01Half.f (bt t210 1)).bind fun t212 => (if t211 < 0 then (some ((⟨#[]⟩ : ByteArray),false)) else (if t212 < 0 then (some ((⟨#[]⟩ : ByteArray),false)) else (if x4.length < 140737488355328 then (spec_l11Un.l0 k x0 (x4 ++ [(wrap64 ((wrap64 (16 * t211)) + t212)) % 256]) (wrap64 ((wrap64 (x5 + 2)) + 1))) else (none))))) else (none))) else (none))) else (none)) else (none)) else (none))) else (if x4.length < 140737488355328 then (spec_l11Un.l0 k x0 (x4 ++ [bt x0 x5]) (wrap64 (x5 + 1))) else (none)))) else (none)) else (some (strOfNums x4,true))
def spec_l11Un.f (k : Nat) (a0 : ByteArray) : Option (ByteArray × Bool):=spec_l11Un.l0 k a0 (([] : List Int)) 0
theorem spec_l11Un.mono_l : ∀ k,(∀ y0 y1 y2,LeO (spec_l11Un.l0 k y0 y1 y2) (spec_l11Un.l0 (k + 1) y0 y1 y2))
 | 0 => fun _ _ _ r h => by simp [spec_l11Un.l0] at h
 | k + 1 => by
  have ih0:=spec_l11Un.mono_l k
  ·intro y0 y1 y2
   unfold spec_l11Un.l0
   repeat' first
   | (with_reducible exact ih0 _ _ _)
   | (with_reducible exact spec_l11Small.mono ..)
   | (with_reducible exact LeO.refl _)
   | (with_reducible exact LeO.none _)
   | (with_reducible refine LeO.ite ?_ ?_)
   | (with_reducible refine LeO.bind ?_ (fun _ => ?_))
   | exact ih0 _ _ _
   | exact spec_l11Small.mono ..
   | exact LeO.none _
   | refine LeO.ite ?_ ?_
   | refine LeO.bind ?_ (fun _ => ?_)
theorem spec_l11Un.mono : ∀ a0 k,LeO (spec_l11Un.f k a0) (spec_l11Un.f (k + 1) a0):=by
 intro a0 k
 have ih0:=spec_l11Un.mono_l k
 unfold spec_l11Un.f
 repeat' first
   | (with_reducible exact ih0 _ _ _)
   | (with_reducible exact spec_l11Small.mono ..)
   | (with_reducible exact LeO.refl _)
   | (with_reducible exact LeO.none _)
   | (with_reducible refine LeO.ite ?_ ?_)
   | (with_reducible refine LeO.bind ?_ (fun _ => ?_))
   | exact ih0 _ _ _
   | exact spec_l11Small.mono ..
   | exact LeO.none _
   | refine LeO.ite ?_ ?_
   | refine LeO.bind ?_ (fun _ => ?_)
set_option maxHeartbeats 8000000 in
set_option maxRecDepth 100000 in
theorem spec_l11Un.calls (k : Nat) (a0 : ByteArray) (r1 : ByteArray) (r2 : Bool) (w : World) (h : spec_l11Un.f k a0 = some (r1,r2)) :
  Calls Tryd.prog 64 #[.string a0] w fun e w' => e = .returned (.tuple #[.string r1,.bool r2]) ∧ Below w.heap.size w w':=by
 have HB:=aMk (Below.refl w.heap.size w)
 have H : (spec_l11Un.l0 k a0 (([] : List Int)) 0) = some (r1,r2):=h
 clear h
 obtain ⟨y204,hy204⟩ : ∃ y_ : List Int,y_ = (([] : List Int)):=⟨_,rfl⟩
 replace H : (spec_l11Un.l0 k a0 y204 0) = some (r1,r2):=by first|(rw [hy204];with_reducible exact H)|(have H2_:=(Option.bind_some _ _).symm.trans H;rw [hy204];with_reducible exact H2_)|(have H2_:=(Option.bind_some _ _).symm.trans H;with_reducible exact H2_) | with_reducible exact H|(rw [hy204];exact H)|exact H
 have Ny204:=aMk hy204
 clear hy204
 have H':=aMk H
 clear H
 go_enter Tryd.func64,Tryd.ntmps64
 go_wp2_with (first|((with_reducible refine gate_dst (N:=9) rfl ?_);refine Kd.R_lit (Kd.int .u8) _ 5 ?hg (N:=9) ?hd (xs:=([] : List Int)) (inner:=[]) (ok:=fun _ => True) (okp:=fun _ => True) ?hr ?hp (fun _ hk => hk) trivial (Below.refl _ _) (Nat.le_refl _) (by simp) ?_;(case hd => rfl);(case hg => rfl);(case hr => first|(go_simp;done)|(go_simp;rfl));(case hp => exact (Reps.none _ _));intro v205 w2 ho3 hb hg_ hnew_;clear hg_ hnew_;(first|rw [← Ny204.out] at ho3|(simp only [Int.reduceToNat] at ho3;rw [← Ny204.out] at ho3));have n0_:=aMk (Kd.R_lower ho3 (below_size (by repeat first|exact HB.out|apply bwA|apply bwN|apply bw1)));have n1_:=aMk (below_step (by repeat first|exact HB.out|apply bwA|apply bwN|apply bw1) hb);clear HB;have HO206:=n0_;have HB:=n1_;clear n0_ n1_;clear hb ho3))
 go_loopg [4,5] k (fun kq v4 v5 w' => ∃ (x4_1 : List Int) (x5_1 : Int),v5 = .int .i64 x5_1 ∧ Aside0 (spec_l11Un.l0 kq a0 x4_1 x5_1 = some (r1,r2)) ∧ Aside0 (kq ≤ k) ∧ Aside0 (Kd.R (Kd.int .u8) 5 w' w.heap.size (fun _ => True) v4 x4_1) ∧ Aside0 (Below w.heap.size w w'))
 case atStart => exact ⟨(y204),(0),(by first | rfl|(simp;done)|(simp [*];done)|(simp [ne_nil_b];done)|(simp [ne_nil_b, *];done)),H',⟨Nat.le_refl _⟩,⟨by (with_reducible repeat (first|apply Kd.R_alloc|apply Kd.R_drewN|apply Kd.R_drew));exact HO206.out⟩,⟨by repeat (first|(with_reducible first|exact HB.out|apply bwA|apply bwN|apply bw1)|exact HB.out)⟩⟩
 case round =>
  clear H'
  try clear p2
  obtain ⟨x4_1,x5_1,rfl,HA,HK1,HO_4,HB⟩:=hrel
  cases gk with
  | zero => exact absurd HA.out (by simp [spec_l11Un.l0])
  | succ k1 =>
   have H:=HA.out
   clear HA
   simp only [spec_l11Un.l0] at H
   by_cases c4 : x5_1 < (a0.size : Int)
   ·rw [if_pos c4] at H
    have c4b0 : decide (x5_1 < (a0.size : Int)) = true:=decide_eq_true c4
    clear c4
    by_cases c5 : 0 ≤ x5_1
    ·rw [if_pos c5] at H
     have c5b0 : decide (0 ≤ x5_1) = true:=decide_eq_true c5
     clear c5
     by_cases c7 : (bt a0 x5_1) = 43
     ·rw [if_pos c7] at H
      have c7b0 : ((bt a0 x5_1) == 43) = true:=beq_iff_eq.mpr c7
      have c7b1 : ((bt a0 x5_1) != 43) = false:=bne_eq_false_iff_eq.mpr c7
      clear c7
      by_cases c8 : x4_1.length < 140737488355328
      ·rw [if_pos c8] at H
       have LMc8:=aMk c8
       clear c8
       obtain ⟨y207,hy207⟩ : ∃ y_ : List Int,y_ = (x4_1 ++ [32]):=⟨_,rfl⟩
       replace H : (spec_l11Un.l0 k1 a0 y207 (wrap64 (x5_1 + 1))) = some (r1,r2):=by first|(rw [hy207];with_reducible exact H)|(have H2_:=(Option.bind_some _ _).symm.trans H;rw [hy207];with_reducible exact H2_)|(have H2_:=(Option.bind_some _ _).symm.trans H;with_reducible exact H2_) | with_reducible exact H|(rw [hy207];exact H)|exact H
       have Ny207:=aMk hy207
       clear hy207
       have H':=aMk H
       clear H
       have p6 : 0 ≤ (x5_1 : Int):=of_decide_eq_true (by first|(with_reducible assumption) | assumption)
       have q6 : x5_1 < (a0.size : Int):=of_decide_eq_true (by first|(with_reducible assumption) | assumption)
       have hx6:=bt_at a0 x5_1
       replace p6:=eq_true p6
       replace q6:=eq_true q6
       go_wp2_with (first|((with_reducible refine gate_builtin (b:=.append) (xs:=#[.tmp 27,.tmp 28]) rfl ?_);at_builtin;refine Kd.R_append (Kd.int .u8) (w0:=w) w.heap.size rfl (.tmp 27) (.tmp 28) 38 5 (.int .u8 0) 1 rfl Tryd.underlying38 info5 rfl (by decide) (by omega) u4 x4_1 32 [.int .u8 32] (fun _ => True) (fun _ => False) rfl rfl ?aP (fun _ hk => hk.elim) ?aF ?aO ?aB ?aS ?aL ?_;(case aP => exact rfl);(case aB => exact (by repeat first|exact HB.out|apply bwA|apply bwN|apply bw1));(case aF => exact (fun _ _ => trivial));(case aO => exact (by (with_reducible repeat (first|apply Kd.R_alloc|apply Kd.R_drewN|apply Kd.R_drew));exact HO_4.out));(case aS => exact (below_size (by repeat first|exact HB.out|apply bwA|apply bwN|apply bw1)));(case aL => have:=LMc8.out;omega);intro v208 w9 ho hb hg hat;rw [← Ny207.out] at ho;have n0_:=aMk (hb);have n1_:=aMk (ho);clear HB;clear HO_4;have HB:=n0_;have HO209:=n1_;clear n0_ n1_;clear ho hb hg hat))
       go_roundg k1
       case measure => have:=HK1.out;omega
       case rel => exact ⟨(y207),(wrap64 (x5_1 + 1)),(by first | rfl|(simp;done)|(simp [*];done)|(simp [ne_nil_b];done)|(simp [ne_nil_b, *];done)),H',⟨by have:=HK1.out;omega⟩,⟨by (with_reducible repeat (first|apply Kd.R_alloc|apply Kd.R_drewN|apply Kd.R_drew));exact HO209.out⟩,⟨by repeat (first|(with_reducible first|exact HB.out|apply bwA|apply bwN|apply bw1)|exact HB.out)⟩⟩
      ·rw [if_neg c8] at H
       exact absurd H (by simp)
     ·rw [if_neg c7] at H
      have c7b0 : ((bt a0 x5_1) == 43) = false:=beq_eq_false_iff_ne.mpr c7
      have c7b1 : ((bt a0 x5_1) != 43) = true:=bne_iff_ne.mpr c7
      by_cases c10 : (bt a0 x5_1) = 37
      ·rw [if_pos c10] at H
       have c10b0 : ((bt a0 x5_1) == 37) = true:=beq_iff_eq.mpr c10
       have c10b1 : ((bt a0 x5_1) != 37) = false:=bne_eq_false_iff_eq.mpr c10
       clear c10
       by_cases c11 : (wrap64 (x5_1 + 2)) ≥ (a0.size : Int)
       ·rw [if_pos c11] at H
        have c11b0 : decide ((a0.size : Int) ≤ (wrap64 (x5_1 + 2))) = true:=decide_eq_true c11
        clear c11
        simp only [Option.some.injEq,Prod.mk.injEq] at H
        obtain ⟨rfl,rfl⟩:=H
        have p6 : 0 ≤ (x5_1 : Int):=of_decide_eq_true (by first|(with_reducible assumption) | assumption)
        have q6 : x5_1 < (a0.size : Int):=of_decide_eq_true (by first|(with_reducible assumption) | assumption)
        have hx6:=bt_at a0 x5_1
        replace p6:=eq_true p6
        replace q6:=eq_true q6
        go_wp2
        go_ret2
        exact ⟨by first | rfl|(simp [errW_none,errW_some] <;> rfl)|(simp [*,errW_none,errW_some] <;> rfl),by repeat (first|(with_reducible first|exact HB.out|apply bwA|apply bwN|apply bw1)|exact HB.out)⟩
       ·rw [if_neg c11] at H
        have c11b0 : decide ((a0.size : Int) ≤ (wrap64 (x5_1 + 2))) = false:=decide_eq_false c11
        clear c11
        obtain ⟨ji12,hji12⟩ : ∃ j_ : Int,(wrap64 (x5_1 + 1)) = j_:=⟨_,rfl⟩
        replace H : (if 0 ≤ (ji12) then (if (ji12) ≤ (wrap64 (x5_1 + 3)) then (if (wrap64 (x5_1 + 3)) ≤ (a0.size : Int) then ((spec_l11Small.f k1 (a0.extract ((ji12) : Int).toNat ((wrap64 (x5_1 + 3)) : Int).toNat)).bind fun t210 => (if 0 < (t210.size : Int) then ((spec_l01Half.f (bt t210 0)).bind fun t211 => (if 1 < (t210.size : Int) then ((spec_l01Half.f (bt t210 1)).bind fun t212 => (if t211 < 0 then (some ((⟨#[]⟩ : ByteArray),false)) else (if t212 < 0 then (some ((⟨#[]⟩ : ByteArray),false)) else (if x4_1.length < 140737488355328 then (spec_l11Un.l0 k1 a0 (x4_1 ++ [(wrap64 ((wrap64 (16 * t211)) + t212)) % 256]) (wrap64 ((wrap64 (x5_1 + 2)) + 1))) else (none))))) else (none))) else (none))) else (none)) else (none)) else (none)) = some (r1,r2):=by first|(rw [hji12] at H;exact H)|(simp only [hji12] at H ⊢;exact H)
        have hji12w : (IntKind.i64.wrap (x5_1 + 1)) = ji12:=(i64_w _).trans hji12
        by_cases c13 : 0 ≤ (ji12)
        ·rw [if_pos c13] at H
         have c13b0:=eq_true c13
         have c13b1 : decide (0 ≤ (ji12)) = true:=decide_eq_true c13
         clear c13
         by_cases c14 : (ji12) ≤ (wrap64 (x5_1 + 3))
         ·rw [if_pos c14] at H
          have c14b0:=eq_true c14
          have c14b1 : decide ((ji12) ≤ (wrap64 (x5_1 + 3))) = true:=decide_eq_true c14
          by_cases c15 : (wrap64 (x5_1 + 3)) ≤ (a0.size : Int)
          ·rw [if_pos c15] at H
           have c15b0:=eq_true c15
           have c15b1 : decide ((wrap64 (x5_1 + 3)) ≤ (a0.size : Int)) = true:=decide_eq_true c15
           replace H:=Option.bind_eq_some_iff.mp H
           obtain ⟨t210,A160,H⟩:=H
           replace H : (if 0 < (t210.size : Int) then ((spec_l01Half.f (bt t210 0)).bind fun t211 => (if 1 < (t210.size : Int) then ((spec_l01Half.f (bt t210 1)).bind fun t212 => (if t211 < 0 then (some ((⟨#[]⟩ : ByteArray),false)) else (if t212 < 0 then (some ((⟨#[]⟩ : ByteArray),false)) else (if x4_1.length < 140737488355328 then (spec_l11Un.l0 k1 a0 (x4_1 ++ [(wrap64 ((wrap64 (16 * t211)) + t212)) % 256]) (wrap64 ((wrap64 (x5_1 + 2)) + 1))) else (none))))) else (none))) else (none)) = some (r1,r2):=H
           have A16:=aMk A160
           clear A160
           by_cases c17 : 0 < (t210.size : Int)
           ·rw [if_pos c17] at H
            have c17b0 : decide (0 < (t210.size : Int)) = true:=decide_eq_true c17
            have c17b1 : decide (0 < t210.size) = true:=decide_eq_true (by omega)
            clear c17
            replace H:=Option.bind_eq_some_iff.mp H
            obtain ⟨t211,A190,H⟩:=H
            replace H : (if 1 < (t210.size : Int) then ((spec_l01Half.f (bt t210 1)).bind fun t212 => (if t211 < 0 then (some ((⟨#[]⟩ : ByteArray),false)) else (if t212 < 0 then (some ((⟨#[]⟩ : ByteArray),false)) else (if x4_1.length < 140737488355328 then (spec_l11Un.l0 k1 a0 (x4_1 ++ [(wrap64 ((wrap64 (16 * t211)) + t212)) % 256]) (wrap64 ((wrap64 (x5_1 + 2)) + 1))) else (none))))) else (none)) = some (r1,r2):=H
            have A19:=aMk A190
            clear A190
            by_cases c20 : 1 < (t210.size : Int)
            ·rw [if_pos c20] at H
             have c20b0 : decide (1 < (t210.size : Int)) = true:=decide_eq_true c20
             have c20b1 : decide (1 < t210.size) = true:=decide_eq_true (by omega)
             clear c20
             replace H:=Option.bind_eq_some_iff.mp H
             obtain ⟨t212,A220,H⟩:=H
             replace H : (if t211 < 0 then (some ((⟨#[]⟩ : ByteArray),false)) else (if t212 < 0 then (some ((⟨#[]⟩ : ByteArray),false)) else (if x4_1.length < 140737488355328 then (spec_l11Un.l0 k1 a0 (x4_1 ++ [(wrap64 ((wrap64 (16 * t211)) + t212)) % 256]) (wrap64 ((wrap64 (x5_1 + 2)) + 1))) else (none)))) = some (r1,r2):=H
             have A22:=aMk A220
             clear A220
             by_cases c23 : t211 < 0
             ·rw [if_pos c23] at H
              have c23b0 : decide (t211 < 0) = true:=decide_eq_true c23
              clear c23
              simp only [Option.some.injEq,Prod.mk.injEq] at H
              obtain ⟨rfl,rfl⟩:=H
              have p6 : 0 ≤ (x5_1 : Int):=of_decide_eq_true (by first|(with_reducible assumption) | assumption)
              have q6 : x5_1 < (a0.size : Int):=of_decide_eq_true (by first|(with_reducible assumption) | assumption)
              have hx6:=bt_at a0 x5_1
              replace p6:=eq_true p6
              replace q6:=eq_true q6
              go_wp2_with (first|((with_reducible refine gate_callee (f:=77) rfl ?_);refine goesL_ (some 43) rfl rfl Tryd.func77 (by kernel_rfl) rfl #[.string (a0.extract ((ji12) : Int).toNat ((wrap64 (x5_1 + 3)) : Int).toNat)] rfl (by (try simp only [List.map_toArray,List.map_cons,List.map_nil]);first | done|(simp only [hji12];rfl) | rfl|(simp only [List.length_drop,List.length_take];rfl)) ?_;(with_reducible refine (spec_l11Small.calls k1 (a0.extract ((ji12) : Int).toNat ((wrap64 (x5_1 + 3)) : Int).toNat) t210 _ A16.out).mono ?_);rintro e w24 ⟨rfl,hb⟩;refine ⟨_,rfl,?_⟩;have n0_:=aMk (Kd.R_below (by (with_reducible repeat (first|apply Kd.R_alloc|apply Kd.R_drewN|apply Kd.R_drew));exact HO_4.out) hb);have n1_:=aMk (below_step (by repeat first|exact HB.out|apply bwA|apply bwN|apply bw1) hb);clear HO_4;clear HB;have HO_4:=n0_;have HB:=n1_;clear n0_ n1_;(try clear hb);(try clear hb2);(try clear hk);(try clear hi);have p18 : 0 ≤ (0 : Int):=(by omega);have q18 : 0 < t210.size:=(by have : (0 : Int) < (t210.size : Int):=of_decide_eq_true (by first|(with_reducible assumption) | assumption);omega);have hx18 : ∀ h : 0 < t210.size,((t210[0]'h).toNat : Int) = bt t210 0:=bt_at t210 0;clear p18;have qi18 : (0 < (t210.size : Int)) = True:=eq_true (of_decide_eq_true (by first|(with_reducible assumption) | assumption));replace q18:=eq_true q18)|((with_reducible refine gate_callee (f:=84) rfl ?_);refine goesL_ (some 46) rfl rfl Tryd.func84 (by kernel_rfl) rfl #[.int .u8 (bt t210 0)] rfl (by (try simp only [List.map_toArray,List.map_cons,List.map_nil]);first | done | rfl|(simp only [List.length_drop,List.length_take];rfl)) ?_;(with_reducible refine (spec_l01Half.calls (bt t210 0) t211 _ A19.out).mono ?_);rintro e w' ⟨rfl,⟨nd,rfl⟩⟩;refine ⟨_,rfl,?_⟩;have p21 : 0 ≤ (1 : Int):=(by omega);have q21 : 1 < t210.size:=(by have : (1 : Int) < (t210.size : Int):=of_decide_eq_true (by first|(with_reducible assumption) | assumption);omega);have hx21 : ∀ h : 1 < t210.size,((t210[1]'h).toNat : Int) = bt t210 1:=bt_at t210 1;clear p21;have qi21 : (1 < (t210.size : Int)) = True:=eq_true (of_decide_eq_true (by first|(with_reducible assumption) | assumption));replace q21:=eq_true q21)|((with_reducible refine gate_callee (f:=84) rfl ?_);refine goesL_ (some 49) rfl rfl Tryd.func84 (by kernel_rfl) rfl #[.int .u8 (bt t210 1)] rfl (by (try simp only [List.map_toArray,List.map_cons,List.map_nil]);first | done | rfl|(simp only [List.length_drop,List.length_take];rfl)) ?_;(with_reducible refine (spec_l01Half.calls (bt t210 1) t212 _ A22.out).mono ?_);rintro e w' ⟨rfl,⟨nd,rfl⟩⟩;refine ⟨_,rfl,?_⟩))
              go_ret2
              exact ⟨by first | rfl|(simp [errW_none,errW_some] <;> rfl)|(simp only [← hji12];first | rfl|(simp [errW_none,errW_some] <;> rfl))|(simp [*,errW_none,errW_some] <;> rfl),by repeat (first|(with_reducible first|exact HB.out|apply bwA|apply bwN|apply bw1)|exact HB.out)⟩
             ·rw [if_neg c23] at H
              have c23b0 : decide (t211 < 0) = false:=decide_eq_false c23
              clear c23
              by_cases c25 : t212 < 0
              ·rw [if_pos c25] at H
               have c25b0 : decide (t212 < 0) = true:=decide_eq_true c25
               clear c25
               simp only [Option.some.injEq,Prod.mk.injEq] at H
               obtain ⟨rfl,rfl⟩:=H
               have p6 : 0 ≤ (x5_1 : Int):=of_decide_eq_true (by first|(with_reducible assumption) | assumption)
               have q6 : x5_1 < (a0.size : Int):=of_decide_eq_true (by first|(with_reducible assumption) | assumption)
               have hx6:=bt_at a0 x5_1
               replace p6:=eq_true p6
               replace q6:=eq_true q6
               go_wp2_with (first|((with_reducible refine gate_callee (f:=77) rfl ?_);refine goesL_ (some 43) rfl rfl Tryd.func77 (by kernel_rfl) rfl #[.string (a0.extract ((ji12) : Int).toNat ((wrap64 (x5_1 + 3)) : Int).toNat)] rfl (by (try simp only [List.map_toArray,List.map_cons,List.map_nil]);first | done|(simp only [hji12];rfl) | rfl|(simp only [List.length_drop,List.length_take];rfl)) ?_;(with_reducible refine (spec_l11Small.calls k1 (a0.extract ((ji12) : Int).toNat ((wrap64 (x5_1 + 3)) : Int).toNat) t210 _ A16.out).mono ?_);rintro e w26 ⟨rfl,hb⟩;refine ⟨_,rfl,?_⟩;have n0_:=aMk (Kd.R_below (by (with_reducible repeat (first|apply Kd.R_alloc|apply Kd.R_drewN|apply Kd.R_drew));exact HO_4.out) hb);have n1_:=aMk (below_step (by repeat first|exact HB.out|apply bwA|apply bwN|apply bw1) hb);clear HO_4;clear HB;have HO_4:=n0_;have HB:=n1_;clear n0_ n1_;(try clear hb);(try clear hb2);(try clear hk);(try clear hi);have p18 : 0 ≤ (0 : Int):=(by omega);have q18 : 0 < t210.size:=(by have : (0 : Int) < (t210.size : Int):=of_decide_eq_true (by first|(with_reducible assumption) | assumption);omega);have hx18 : ∀ h : 0 < t210.size,((t210[0]'h).toNat : Int) = bt t210 0:=bt_at t210 0;clear p18;have qi18 : (0 < (t210.size : Int)) = True:=eq_true (of_decide_eq_true (by first|(with_reducible assumption) | assumption));replace q18:=eq_true q18)|((with_reducible refine gate_callee (f:=84) rfl ?_);refine goesL_ (some 46) rfl rfl Tryd.func84 (by kernel_rfl) rfl #[.int .u8 (bt t210 0)] rfl (by (try simp only [List.map_toArray,List.map_cons,List.map_nil]);first | done | rfl|(simp only [List.length_drop,List.length_take];rfl)) ?_;(with_reducible refine (spec_l01Half.calls (bt t210 0) t211 _ A19.out).mono ?_);rintro e w' ⟨rfl,⟨nd,rfl⟩⟩;refine ⟨_,rfl,?_⟩;have p21 : 0 ≤ (1 : Int):=(by omega);have q21 : 1 < t210.size:=(by have : (1 : Int) < (t210.size : Int):=of_decide_eq_true (by first|(with_reducible assumption) | assumption);omega);have hx21 : ∀ h : 1 < t210.size,((t210[1]'h).toNat : Int) = bt t210 1:=bt_at t210 1;clear p21;have qi21 : (1 < (t210.size : Int)) = True:=eq_true (of_decide_eq_true (by first|(with_reducible assumption) | assumption));replace q21:=eq_true q21)|((with_reducible refine gate_callee (f:=84) rfl ?_);refine goesL_ (some 49) rfl rfl Tryd.func84 (by kernel_rfl) rfl #[.int .u8 (bt t210 1)] rfl (by (try simp only [List.map_toArray,List.map_cons,List.map_nil]);first | done | rfl|(simp only [List.length_drop,List.length_take];rfl)) ?_;(with_reducible refine (spec_l01Half.calls (bt t210 1) t212 _ A22.out).mono ?_);rintro e w' ⟨rfl,⟨nd,rfl⟩⟩;refine ⟨_,rfl,?_⟩))
               go_ret2
               exact ⟨by first | rfl|(simp [errW_none,errW_some] <;> rfl)|(simp only [← hji12];first | rfl|(simp [errW_none,errW_some] <;> rfl))|(simp [*,errW_none,errW_some] <;> rfl),by repeat (first|(with_reducible first|exact HB.out|apply bwA|apply bwN|apply bw1)|exact HB.out)⟩
              ·rw [if_neg c25] at H
               have c25b0 : decide (t212 < 0) = false:=decide_eq_false c25
               clear c25
               by_cases c27 : x4_1.length < 140737488355328
               ·rw [if_pos c27] at H
                have LMc27:=aMk c27
                clear c27
                obtain ⟨y213,hy213⟩ : ∃ y_ : List Int,y_ = (x4_1 ++ [(wrap64 ((wrap64 (16 * t211)) + t212)) % 256]):=⟨_,rfl⟩
                replace H : (spec_l11Un.l0 k1 a0 y213 (wrap64 ((wrap64 (x5_1 + 2)) + 1))) = some (r1,r2):=by first|(rw [hy213];with_reducible exact H)|(have H2_:=(Option.bind_some _ _).symm.trans H;rw [hy213];with_reducible exact H2_)|(have H2_:=(Option.bind_some _ _).symm.trans H;with_reducible exact H2_) | with_reducible exact H|(rw [hy213];exact H)|exact H
                have Ny213:=aMk hy213
                clear hy213
                have H':=aMk H
                clear H
                have p6 : 0 ≤ (x5_1 : Int):=of_decide_eq_true (by first|(with_reducible assumption) | assumption)
                have q6 : x5_1 < (a0.size : Int):=of_decide_eq_true (by first|(with_reducible assumption) | assumption)
                have hx6:=bt_at a0 x5_1
                replace p6:=eq_true p6
                replace q6:=eq_true q6
                go_wp2_with (first|((with_reducible refine gate_callee (f:=77) rfl ?_);refine goesL_ (some 43) rfl rfl Tryd.func77 (by kernel_rfl) rfl #[.string (a0.extract ((ji12) : Int).toNat ((wrap64 (x5_1 + 3)) : Int).toNat)] rfl (by (try simp only [List.map_toArray,List.map_cons,List.map_nil]);first | done|(simp only [hji12];rfl) | rfl|(simp only [List.length_drop,List.length_take];rfl)) ?_;(with_reducible refine (spec_l11Small.calls k1 (a0.extract ((ji12) : Int).toNat ((wrap64 (x5_1 + 3)) : Int).toNat) t210 _ A16.out).mono ?_);rintro e w28 ⟨rfl,hb⟩;refine ⟨_,rfl,?_⟩;have n0_:=aMk (Kd.R_below (by (with_reducible repeat (first|apply Kd.R_alloc|apply Kd.R_drewN|apply Kd.R_drew));exact HO_4.out) hb);have n1_:=aMk (below_step (by repeat first|exact HB.out|apply bwA|apply bwN|apply bw1) hb);clear HO_4;clear HB;have HO_4:=n0_;have HB:=n1_;clear n0_ n1_;(try clear hb);(try clear hb2);(try clear hk);(try clear hi);have p18 : 0 ≤ (0 : Int):=(by omega);have q18 : 0 < t210.size:=(by have : (0 : Int) < (t210.size : Int):=of_decide_eq_true (by first|(with_reducible assumption) | assumption);omega);have hx18 : ∀ h : 0 < t210.size,((t210[0]'h).toNat : Int) = bt t210 0:=bt_at t210 0;clear p18;have qi18 : (0 < (t210.size : Int)) = True:=eq_true (of_decide_eq_true (by first|(with_reducible assumption) | assumption));replace q18:=eq_true q18)|((with_reducible refine gate_callee (f:=84) rfl ?_);refine goesL_ (some 46) rfl rfl Tryd.func84 (by kernel_rfl) rfl #[.int .u8 (bt t210 0)] rfl (by (try simp only [List.map_toArray,List.map_cons,List.map_nil]);first | done | rfl|(simp only [List.length_drop,List.length_take];rfl)) ?_;(with_reducible refine (spec_l01Half.calls (bt t210 0) t211 _ A19.out).mono ?_);rintro e w' ⟨rfl,⟨nd,rfl⟩⟩;refine ⟨_,rfl,?_⟩;have p21 : 0 ≤ (1 : Int):=(by omega);have q21 : 1 < t210.size:=(by have : (1 : Int) < (t210.size : Int):=of_decide_eq_true (by first|(with_reducible assumption) | assumption);omega);have hx21 : ∀ h : 1 < t210.size,((t210[1]'h).toNat : Int) = bt t210 1:=bt_at t210 1;clear p21;have qi21 : (1 < (t210.size : Int)) = True:=eq_true (of_decide_eq_true (by first|(with_reducible assumption) | assumption));replace q21:=eq_true q21)|((with_reducible refine gate_callee (f:=84) rfl ?_);refine goesL_ (some 49) rfl rfl Tryd.func84 (by kernel_rfl) rfl #[.int .u8 (bt t210 1)] rfl (by (try simp only [List.map_toArray,List.map_cons,List.map_nil]);first | done | rfl|(simp only [List.length_drop,List.length_take];rfl)) ?_;(with_reducible refine (spec_l01Half.calls (bt t210 1) t212 _ A22.out).mono ?_);rintro e w' ⟨rfl,⟨nd,rfl⟩⟩;refine ⟨_,rfl,?_⟩)|((with_reducible refine gate_builtin (b:=.append) (xs:=#[.tmp 56,.tmp 62]) rfl ?_);at_builtin;refine Kd.R_append (Kd.int .u8) (w0:=w) w.heap.size rfl (.tmp 56) (.tmp 62) 38 5 (.int .u8 0) 1 rfl Tryd.underlying38 info5 rfl (by decide) (by omega) u4 x4_1 ((wrap64 ((wrap64 (16 * t211)) + t212)) % 256) [.int .u8 ((wrap64 ((wrap64 (16 * t211)) + t212)) % 256)] (fun _ => True) (fun _ => False) rfl rfl ?aP (fun _ hk => hk.elim) ?aF ?aO ?aB ?aS ?aL ?_;(case aP => exact rfl);(case aB => exact (by repeat first|exact HB.out|apply bwA|apply bwN|apply bw1));(case aF => exact (fun _ _ => trivial));(case aO => exact (by (with_reducible repeat (first|apply Kd.R_alloc|apply Kd.R_drewN|apply Kd.R_drew));exact HO_4.out));(case aS => exact (below_size (by repeat first|exact HB.out|apply bwA|apply bwN|apply bw1)));(case aL => have:=LMc27.out;omega);intro v214 w29 ho hb hg hat;rw [← Ny213.out] at ho;have n0_:=aMk (hb);have n1_:=aMk (ho);clear HB;clear HO_4;have HB:=n0_;have HO215:=n1_;clear n0_ n1_;clear ho hb hg hat))
                go_roundg k1
                case measure => have:=HK1.out;omega
                case rel => exact ⟨(y213),(wrap64 ((wrap64 (x5_1 + 2)) + 1)),(by first | rfl|(simp;done)|(simp [*];done)|(simp [ne_nil_b];done)|(simp [ne_nil_b, *];done)),H',⟨by have:=HK1.out;omega⟩,⟨by (with_reducible repeat (first|apply Kd.R_alloc|apply Kd.R_drewN|apply Kd.R_drew));exact HO215.out⟩,⟨by repeat (first|(with_reducible first|exact HB.out|apply bwA|apply bwN|apply bw1)|exact HB.out)⟩⟩
               ·rw [if_neg c27] at H
                exact absurd H (by simp)
            ·rw [if_neg c20] at H
             exact absurd H (by simp)
           ·rw [if_neg c17] at H
            exact absurd H (by simp)
          ·rw [if_neg c15] at H
           exact absurd H (by simp)
         ·rw [if_neg c14] at H
          exact absurd H (by simp)
        ·rw [if_neg c13] at H
         exact absurd H (by simp)
      ·rw [if_neg c10] at H
       have c10b0 : ((bt a0 x5_1) == 37) = false:=beq_eq_false_iff_ne.mpr c10
       have c10b1 : ((bt a0 x5_1) != 37) = true:=bne_iff_ne.mpr c10
       by_cases c31 : x4_1.length < 140737488355328
       ·rw [if_pos c31] at H
        have LMc31:=aMk c31
        clear c31
        obtain ⟨y216,hy216⟩ : ∃ y_ : List Int,y_ = (x4_1 ++ [bt a0 x5_1]):=⟨_,rfl⟩
        replace H : (spec_l11Un.l0 k1 a0 y216 (wrap64 (x5_1 + 1))) = some (r1,r2):=by first|(rw [hy216];with_reducible exact H)|(have H2_:=(Option.bind_some _ _).symm.trans H;rw [hy216];with_reducible exact H2_)|(have H2_:=(Option.bind_some _ _).symm.trans H;with_reducible exact H2_) | with_reducible exact H|(rw [hy216];exact H)|exact H
        have Ny216:=aMk hy216
        clear hy216
        have H':=aMk H
        clear H
        have p6 : 0 ≤ (x5_1 : Int):=of_decide_eq_true (by first|(with_reducible assumption) | assumption)
        have q6 : x5_1 < (a0.size : Int):=of_decide_eq_true (by first|(with_reducible assumption) | assumption)
        have hx6:=bt_at a0 x5_1
        replace p6:=eq_true p6
        replace q6:=eq_true q6
        have p30 : 0 ≤ (x5_1 : Int):=of_decide_eq_true (by first|(with_reducible assumption) | assumption)
        have q30 : x5_1 < (a0.size : Int):=of_decide_eq_true (by first|(with_reducible assumption) | assumption)
        have hx30:=bt_at a0 x5_1
        replace p30:=eq_true p30
        replace q30:=eq_true q30
        go_wp2_with (first|((with_reducible refine gate_builtin (b:=.append) (xs:=#[.tmp 19,.tmp 23]) rfl ?_);at_builtin;refine Kd.R_append (Kd.int .u8) (w0:=w) w.heap.size rfl (.tmp 19) (.tmp 23) 38 5 (.int .u8 0) 1 rfl Tryd.underlying38 info5 rfl (by decide) (by omega) u4 x4_1 (bt a0 x5_1) [.int .u8 (bt a0 x5_1)] (fun _ => True) (fun _ => False) rfl rfl ?aP (fun _ hk => hk.elim) ?aF ?aO ?aB ?aS ?aL ?_;(case aP => exact rfl);(case aB => exact (by repeat first|exact HB.out|apply bwA|apply bwN|apply bw1));(case aF => exact (fun _ _ => trivial));(case aO => exact (by (with_reducible repeat (first|apply Kd.R_alloc|apply Kd.R_drewN|apply Kd.R_drew));exact HO_4.out));(case aS => exact (below_size (by repeat first|exact HB.out|apply bwA|apply bwN|apply bw1)));(case aL => have:=LMc31.out;omega);intro v217 w32 ho hb hg hat;rw [← Ny216.out] at ho;have n0_:=aMk (hb);have n1_:=aMk (ho);clear HB;clear HO_4;have HB:=n0_;have HO218:=n1_;clear n0_ n1_;clear ho hb hg hat))
        go_roundg k1
        case measure => have:=HK1.out;omega
        case rel => exact ⟨(y216),(wrap64 (x5_1 + 1)),(by first | rfl|(simp;done)|(simp [*];done)|(simp [ne_nil_b];done)|(simp [ne_nil_b, *];done)),H',⟨by have:=HK1.out;omega⟩,⟨by (with_reducible repeat (first|apply Kd.R_alloc|apply Kd.R_drewN|apply Kd.R_drew));exact HO218.out⟩,⟨by repeat (first|(with_reducible first|exact HB.out|apply bwA|apply bwN|apply bw1)|exact HB.out)⟩⟩
       ·rw [if_neg c31] at H
        exact absurd H (by simp)
    ·rw [if_neg c5] at H
     exact absurd H (by simp)
   ·rw [if_neg c4] at H
    have c4b0 : decide (x5_1 < (a0.size : Int)) = false:=decide_eq_false c4
    clear c4
    simp only [Option.some.injEq,Prod.mk.injEq] at H
    obtain ⟨rfl,rfl⟩:=H
    have hcv33:=own_string (P:=Tryd.prog) Tryd.underlying38 Tryd.underlying5 Tryd.underlying9 (Kd.own_of_R HO_4.out)
    go_wp2
    go_ret2
    exact ⟨by first | rfl|(simp [errW_none,errW_some] <;> rfl)|(simp [*,errW_none,errW_some] <;> rfl),by repeat (first|(with_reducible first|exact HB.out|apply bwA|apply bwN|apply bw1)|exact HB.out)⟩
end
section
-- IMPORT Derived.Lib.Strings
theorem toList_nil_iff (s : ByteArray) : s.toList = [] ↔ s.size = 0:=by
 rw [Lib.toList_data,Lib.size_eq,List.length_eq_zero_iff]
theorem size_extract_le (s : ByteArray) (a b : Nat) (h : b ≤ s.size) : (s.extract a b).size = b - a:=by
 rw [Lib.size_eq,Lib.extract_data,List.length_take,List.length_drop,← Lib.size_eq]
 omega
end
section
-- NEEDS spec.l11Un impl.unescape spec.l11Small impl.readHex impl.lower strings.IndexByte
theorem w64 (x : Int) (h0 : -9223372036854775808 ≤ x) (h1 : x ≤ 9223372036854775807) : wrap64 x = x:=by unfold wrap64;omega
theorem un_size (l : List Int) : (strOfNums l).size = l.length:=by simp [strOfNums,ByteArray.size]
theorem un_bt (l : List Int) (i : Int) (h : ∀ x ∈ l,0 ≤ x ∧ x ≤ 255) : bt (strOfNums l) i = l.getD i.toNat 0:=by
 unfold bt
 split
 ·rename_i hi
  have hi' : i.toNat < l.length:=by rw [un_size] at hi;exact hi
  have hm:=h _ (List.getElem_mem hi')
  rw [List.getD_eq_getElem?_getD,List.getElem?_eq_getElem hi',Option.getD_some]
  have e : (strOfNums l)[i.toNat] = UInt8.ofNat l[i.toNat].toNat:=by
   show (strOfNums l).data[i.toNat] = _
   simp [strOfNums]
  rw [e]
  have : l[i.toNat].toNat < 256:=by omega
  simp [UInt8.toNat_ofNat',Nat.mod_eq_of_lt this]
  omega
 ·rename_i hi
  rw [un_size] at hi
  rw [List.getD_eq_getElem?_getD,List.getElem?_eq_none (by omega)]
  rfl
theorem un_bytes (l : List Int) (h : ∀ x ∈ l,0 ≤ x ∧ x ≤ 255) : bytesOf (strOfNums l) = l:=by
 apply List.ext_getElem (by rw [bytesOf_length,un_size])
 intro i h1 h2
 have:=un_bt l (i : Int) h
 rw [← rd_bytesOf,rd,Int.toNat_natCast,List.getD_eq_getElem?_getD,List.getElem?_eq_getElem h1,List.getD_eq_getElem?_getD,List.getElem?_eq_getElem h2] at this
 exact this
theorem un_rd (s : ByteArray) (i : Nat) : (bytesOf s).getD i 0 = bt s i:=by
 have:=rd_bytesOf s (i : Int)
 rwa [rd,Int.toNat_natCast] at this
def hxd (c : Int) : Int:=if 48 ≤ c ∧ c ≤ 57 then c - 48 else if 97 ≤ c ∧ c ≤ 102 then c - 87 else -1
theorem hxd_range (c : Int) : -1 ≤ hxd c ∧ hxd c ≤ 15:=by
 unfold hxd
 split
 ·omega
 ·split <;> omega
theorem impl_half (c : Int) (h0 : 0 ≤ c) (h1 : c ≤ 255) : strings_IndexByte.f (⟨#[48,49,50,51,52,53,54,55,56,57,97,98,99,100,101,102]⟩ : ByteArray) c = some (hxd c):=by
 obtain ⟨n,rfl⟩:=Int.eq_ofNat_of_zero_le h0
 have hn : n ≤ 255:=by omega
 have : ∀ n : Fin 256,strings_IndexByte.f (⟨#[48,49,50,51,52,53,54,55,56,57,97,98,99,100,101,102]⟩ : ByteArray) (n.1 : Int) = some (hxd (n.1 : Int)):=by decide +kernel
 exact this ⟨n,by omega⟩
/-- Two digits' worth,or none. -/
def two (t : ByteArray) : ByteArray × Bool:=if hxd (bt t 0) < 0 then (⟨#[]⟩,false) else if hxd (bt t 1) < 0 then (⟨#[]⟩,false) else (strOfNums [16 * hxd (bt t 0) + hxd (bt t 1)],true)
theorem readHex_two (t : ByteArray) (ht : t.size = 2) (k : Nat) (hk : 2 ≤ k) : impl_readHex.f k t = some (two t):=by
 obtain ⟨k,rfl⟩ : ∃ q,k = q + 2:=⟨k - 2,by omega⟩
 have h0:=bt_range t 0
 have h1:=bt_range t 1
 have w1 : wrap64 (0 + 1) = 1:=by unfold wrap64;rfl
 have w2 : wrap64 (0 + 2) = 2:=by unfold wrap64;rfl
 have w3 : wrap64 (2 + 1) = 3:=by unfold wrap64;rfl
 have e2 : (t.size : Int) = 2:=by omega
 unfold impl_readHex.f two
 rw [impl_readHex.l0]
 simp only [w1,w2,e2]
 rw [if_pos (by omega),if_pos (by omega),if_pos (by omega),impl_half _ h0.1 h0.2,Option.bind_some,if_pos (by omega),impl_half _ h1.1 h1.2,Option.bind_some]
 have r0:=hxd_range (bt t 0)
 have r1:=hxd_range (bt t 1)
 generalize hxd (bt t 0) = a at r0 ⊢
 generalize hxd (bt t 1) = b at r1 ⊢
 by_cases ha : a < 0
 ·rw [if_pos ha,if_pos ha]
 ·rw [if_neg ha,if_neg ha]
  by_cases hb : b < 0
  ·rw [if_pos hb,if_pos hb]
  ·rw [if_neg hb,if_neg hb,if_pos (by simp),impl_readHex.l0,w3,if_neg (by omega)]
   have : wrap64 (wrap64 (16 * a) + b) % 256 = 16 * a + b:=by rw [w64 (16 * a) (by omega) (by omega),w64 _ (by omega) (by omega)];omega
   rw [this,e2]
   rfl
end
end Go.Proofs.YticjbpkgdbacpaaDoor.X
