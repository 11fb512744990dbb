/- Texts that the row of FnOrder stands on: functions of the program and of the reference, each as a Lean function with the same answers, and the plain lemmas. Conditions: none beside those that each theorem names. -/
import Derived.Test.YtcakbenoaclbkaaCFnOrder1
namespace Go.Proofs.Ytcakbenoaclbkaa.X
open Go.RowKit Go.Proofs.YtcakbenoaclbkaaW.PrintWords Go.Proofs.YtcakbenoaclbkaaW.PrintLast Go.Proofs.YtcakbenoaclbkaaW.PrintMore
attribute [local go_sem] max2_int min2_int max_two min_two max_three min_three max_four min_four   -- for this text's walks alone
set_option linter.unusedVariables false
set_option linter.unusedSimpArgs false
open Go.Proofs.YtcakbenoaclbkaaW.PrintWords renaming blk_drewN -> bDn
open Go.Proofs.YtcakbenoaclbkaaW.PrintWords renaming blk_drew -> bDr
open Go.Proofs.YtcakbenoaclbkaaW.PrintWords renaming blk_alloc -> bAl
open Go.Proofs.YtcakbenoaclbkaaW.PrintWords renaming blk_frozen -> bFr
open Go.Proofs.YtcakbenoaclbkaaW.PrintWords renaming blk_cell -> bCe
open Go.Proofs.YtcakbenoaclbkaaW.PrintWords.Aside0 renaming mk -> aMk
open Go.World renaming block_lt_of_cell? -> wLt
open Go.Proofs.YtcakbenoaclbkaaW.PrintWords renaming pw_below_drewN -> bwN
open Go.Proofs.YtcakbenoaclbkaaW.PrintWords renaming below_drew1 -> bw1
open Go.Proofs.YtcakbenoaclbkaaW.PrintWords renaming below_alloc -> bwA
section
/-! ### spec_SortWords: function 25 -/
mutual
def spec_SortWords.l0 : Nat → List (S31) → Int → Option ((List (S31)) × Int)
 | 0,_,_ => none
 | k + 1,x0,x4 => if x4 < (x0.length : Int) then (if 0 ≤ x4 then ((spec_l06Word.f ((rd_T31 x0 x4).f0) ((rd_T31 x0 x4).f1)).bind fun t354 => (if t354 = true then (spec_SortWords.l0 k x0 (wrap64 (x4 + 1))) else (some ((([] : List (S31))),1)))) else (none)) else (if (x0.length : Int) > 100 then (some ((([] : List (S31))),6)) else (spec_SortWords.l1 k x0 (([] : List (S31))) 0))
def spec_SortWords.l1 : Nat → List (S31) → List (S31) → Int → Option ((List (S31)) × Int)
 | 0,_,_,_ => none
 | k + 1,x0,x5,x6 => if x6 < (x0.length : Int) then (spec_SortWords.l2 k x0 x5 x6 (x5.length : Int)) else (some (x5,0))
def spec_SortWords.l2 : Nat → List (S31) → List (S31) → Int → Int → Option ((List (S31)) × Int)
 | 0,_,_,_,_ => none
 | k + 1,x0,x5,x6,x7 => if x7 > 0 then (if 0 ≤ (wrap64 (x7 - 1)) then (if (wrap64 (x7 - 1)) < (x5.length : Int) then (if 0 ≤ x6 then (if x6 < (x0.length : Int) then ((spec_l06Order.f k ((rd_T31 x5 (wrap64 (x7 - 1))).f0) ((rd_T31 x5 (wrap64 (x7 - 1))).f1) ((rd_T31 x0 x6).f0) ((rd_T31 x0 x6).f1)).bind fun t366 => (if t366 > 0 then (spec_SortWords.l2 k x0 x5 x6 (wrap64 (x7 - 1))) else ((some (([] : List (S31)) : List (S31))).bind fun y367 => (if 0 ≤ x7 then (if x7 ≤ (x5.length : Int) then ((some (x5.take (x7 : Int).toNat : List (S31))).bind fun y370 => (if y367.length + y370.length < 8796093022208 then ((some (y367 ++ y370 : List (S31))).bind fun y374 => ((some (([(⟨(rd_T31 x0 x6).f0,(rd_T31 x0 x6).f1⟩ : S31)] : List (S31)) : List (S31))).bind fun y378 => (if y374.length + y378.length < 8796093022208 then ((some (y374 ++ y378 : List (S31))).bind fun y381 => ((some (x5.drop (x7 : Int).toNat : List (S31))).bind fun y384 => (if y381.length + y384.length < 8796093022208 then (spec_SortWords.l1 k x0 (y381 ++ y384) (wrap64 (x6 + 1))) else (none)))) else (none)))) else (none))) else (none)) else (none))))) else (none)) else (none)) else (none)) else (none)) else ((some (([] : List (S31)) : List (S31))).bind fun y391 => (if 0 ≤ x7 then (if x7 ≤ (x5.length : Int) then ((some (x5.take (x7 : Int).toNat : List (S31))).bind fun y394 => (if y391.length + y394.length < 8796093022208 then ((some (y391 ++ y394 : List (S31))).bind fun y398 => (if 0 ≤ x6 then (if x6 < (x0.length : Int) then ((some (([(⟨(rd_T31 x0 x6).f0,(rd_T31 x0 x6).f1⟩ : S31)] : List (S31)) : List (S31))).bind fun y402 => (if y398.length + y402.length < 8796093022208 then ((some (y398 ++ y402 : List (S31))).bind fun y405 => ((some (x5.drop (x7 : Int).toNat : List (S31))).bind fun y408 => (if y405.length + y408.length < 8796093022208 then (spec_SortWords.l1 k x0 (y405 ++ y408) (wrap64 (x6 + 1))) else (none)))) else (none))) else (none)) else (none))) else (none))) else (none)) else (none)))
end
def spec_SortWords.f (k : Nat) (l0 : List (S31)) : Option ((List (S31)) × Int):=if (l0.length : Int) > 4096 then (some ((([] : List (S31))),2)) else (spec_SortWords.l0 k l0 0)
theorem spec_SortWords.mono_l : ∀ k,(∀ y0 y1,LeO (spec_SortWords.l0 k y0 y1) (spec_SortWords.l0 (k + 1) y0 y1)) ∧ (∀ y0 y1 y2,LeO (spec_SortWords.l1 k y0 y1 y2) (spec_SortWords.l1 (k + 1) y0 y1 y2)) ∧ (∀ y0 y1 y2 y3,LeO (spec_SortWords.l2 k y0 y1 y2 y3) (spec_SortWords.l2 (k + 1) y0 y1 y2 y3))
 | 0 => ⟨fun _ _ r h => by simp [spec_SortWords.l0] at h,fun _ _ _ r h => by simp [spec_SortWords.l1] at h,fun _ _ _ _ r h => by simp [spec_SortWords.l2] at h⟩
 | k + 1 => by
  obtain ⟨ih0,ih1,ih2⟩:=spec_SortWords.mono_l k
  refine ⟨?_,?_,?_⟩
  ·intro y0 y1
   unfold spec_SortWords.l0
   repeat' first
   | (with_reducible exact ih0 _ _)
   | (with_reducible exact ih1 _ _ _)
   | (with_reducible exact ih2 _ _ _ _)
   | (with_reducible exact spec_l06Order.mono ..)
   | (with_reducible exact LeO.refl _)
   | (with_reducible exact LeO.none _)
   | (with_reducible refine LeO.ite ?_ ?_)
   | (with_reducible refine LeO.bind ?_ (fun _ => ?_))
   | exact ih0 _ _
   | exact ih1 _ _ _
   | exact ih2 _ _ _ _
   | exact spec_l06Order.mono ..
   | exact LeO.none _
   | refine LeO.ite ?_ ?_
   | refine LeO.bind ?_ (fun _ => ?_)
  ·intro y0 y1 y2
   unfold spec_SortWords.l1
   repeat' first
   | (with_reducible exact ih0 _ _)
   | (with_reducible exact ih1 _ _ _)
   | (with_reducible exact ih2 _ _ _ _)
   | (with_reducible exact spec_l06Order.mono ..)
   | (with_reducible exact LeO.refl _)
   | (with_reducible exact LeO.none _)
   | (with_reducible refine LeO.ite ?_ ?_)
   | (with_reducible refine LeO.bind ?_ (fun _ => ?_))
   | exact ih0 _ _
   | exact ih1 _ _ _
   | exact ih2 _ _ _ _
   | exact spec_l06Order.mono ..
   | exact LeO.none _
   | refine LeO.ite ?_ ?_
   | refine LeO.bind ?_ (fun _ => ?_)
  ·intro y0 y1 y2 y3
   unfold spec_SortWords.l2
   repeat' first
   | (with_reducible exact ih0 _ _)
   | (with_reducible exact ih1 _ _ _)
   | (with_reducible exact ih2 _ _ _ _)
   | (with_reducible exact spec_l06Order.mono ..)
   | (with_reducible exact LeO.refl _)
   | (with_reducible exact LeO.none _)
   | (with_reducible refine LeO.ite ?_ ?_)
   | (with_reducible refine LeO.bind ?_ (fun _ => ?_))
   | exact ih0 _ _
   | exact ih1 _ _ _
   | exact ih2 _ _ _ _
   | exact spec_l06Order.mono ..
   | exact LeO.none _
   | refine LeO.ite ?_ ?_
   | refine LeO.bind ?_ (fun _ => ?_)
theorem spec_SortWords.mono : ∀ a0 k,LeO (spec_SortWords.f k a0) (spec_SortWords.f (k + 1) a0):=by
 intro a0 k
 obtain ⟨ih0,ih1,ih2⟩:=spec_SortWords.mono_l k
 unfold spec_SortWords.f
 repeat' first
   | (with_reducible exact ih0 _ _)
   | (with_reducible exact ih1 _ _ _)
   | (with_reducible exact ih2 _ _ _ _)
   | (with_reducible exact spec_l06Order.mono ..)
   | (with_reducible exact LeO.refl _)
   | (with_reducible exact LeO.none _)
   | (with_reducible refine LeO.ite ?_ ?_)
   | (with_reducible refine LeO.bind ?_ (fun _ => ?_))
   | exact ih0 _ _
   | exact ih1 _ _ _
   | exact ih2 _ _ _ _
   | exact spec_l06Order.mono ..
   | exact LeO.none _
   | refine LeO.ite ?_ ?_
   | refine LeO.bind ?_ (fun _ => ?_)
def spec_SortWords.T15 : Bool × List (List Nat × List Nat):=(true,[([],[]),([0],[0]),([1],[1]),([2],[2]),([2],[2]),([4,2],[2,4]),([3,5,2],[2,3,5]),([6,2],[2,6]),([2],[2]),([2],[2]),([8,9,2],[2,8,9]),([10,2],[2,10]),([7,11,2,2],[2,7,11]),([12,2],[2,12]),([2,13],[2,13])])
def spec_SortWords.B15 : List Nat:=[0,1,3,7,7,23,63,127,7,7,775,1799,4095,8191,16383]
theorem spec_SortWords.tab15 : rtab .any (opsOf Try.f25 15) = spec_SortWords.T15:=by kernel_rfl
theorem spec_SortWords.bits15 : waitsOk spec_SortWords.T15.2 spec_SortWords.B15 = true:=by kernel_rfl
def spec_SortWords.T17 : Bool × List (List Nat × List Nat):=(true,[([],[]),([],[]),([],[]),([1,2],[1,2]),([0,3],[0,3]),([],[]),([],[]),([5,6],[5,6]),([7],[7]),([8],[8]),([4,9,4],[4,9]),([],[]),([],[]),([11,12],[11,12]),([10,13,10],[10,13]),([14,14,0,1,2,3,4,5,6,7,8,9,10,11,12,13,14],[1,11,14])])
def spec_SortWords.B17 : List Nat:=[0,0,0,6,15,0,0,96,224,480,1023,0,0,6144,16383,32767]
theorem spec_SortWords.tab17 : rtab .any (opsOf Try.f25 17) = spec_SortWords.T17:=by kernel_rfl
theorem spec_SortWords.bits17 : waitsOk spec_SortWords.T17.2 spec_SortWords.B17 = true:=by kernel_rfl
set_option maxHeartbeats 8000000 in
set_option maxRecDepth 100000 in
theorem spec_SortWords.calls (k : Nat) (A0 : Option Addr) (c0 : Nat) (l0 : List (S31)) (r1 : List (S31)) (r2 : Int) (w : World) (hr0 : Kd.C k31 w A0 l0.length l0) (hc0 : l0.length ≤ c0) (h : spec_SortWords.f k l0 = some (r1,r2)) :
  Calls Try.prog 25 #[.slice A0 l0.length c0] w fun e w' => ∃ v0_ : Value,e = .returned (.tuple #[v0_,.int .i64 r2]) ∧ Kd.R k31 31 w' w.heap.size (fun _ => True) v0_ r1 ∧ Below w.heap.size w w':=by
 have hu31:=Try.underlying31
 have HR0:=aMk hr0
 have HC0:=aMk hc0
 clear hr0 hc0
 have HB:=aMk (Below.refl w.heap.size w)
 have H : (if (l0.length : Int) > 4096 then (some ((([] : List (S31))),2)) else (spec_SortWords.l0 k l0 0)) = some (r1,r2):=h
 clear h
 by_cases c2 : (l0.length : Int) > 4096
 ·rw [if_pos c2] at H
  have c2b0 : decide (4096 < (l0.length : Int)) = true:=decide_eq_true c2
  have c2b1 : decide (4096 < l0.length) = true:=decide_eq_true (by omega)
  clear c2
  obtain ⟨y350,hy350⟩ : ∃ y_ : List (S31),y_ = (([] : List (S31))):=⟨_,rfl⟩
  replace H : (some (y350,2)) = some (r1,r2):=by first|(rw [hy350];with_reducible exact H)|(have H2_:=(Option.bind_some _ _).symm.trans H;rw [hy350];with_reducible exact H2_)|(have H2_:=(Option.bind_some _ _).symm.trans H;with_reducible exact H2_) | with_reducible exact H|(rw [hy350];exact H)|exact H
  have Ny350:=aMk hy350
  clear hy350
  simp only [Option.some.injEq,Prod.mk.injEq] at H
  obtain ⟨rfl,rfl⟩:=H
  go_enter Try.func25,Try.ntmps25
  go_wp2_with (first|((with_reducible refine gate_dst (N:=11) rfl ?_);refine Kd.R_lit k31 _ 31 ?hg (N:=11) ?hd (xs:=([] : List (S31))) (inner:=[]) (ok:=fun _ => True) (okp:=fun _ => True) ?hr ?hp (fun _ hk => hk) trivial (Below.refl _ _) (Nat.le_refl _) (by simp) ?_;(case hd => rfl);(case hg => rfl);(case hr => first|(go_simp;done)|(go_simp;rfl));(case hp => exact (Reps.none _ _));intro v351 w3 ho4 hb hg_ hnew_;clear hg_ hnew_;(first|rw [← Ny350.out] at ho4|(simp only [Int.reduceToNat] at ho4;rw [← Ny350.out] at ho4));have n0_:=aMk (Kd.R_lower ho4 bSz);have n1_:=aMk (bSt hb);clear HB;have HO352:=n0_;have HB:=n1_;clear n0_ n1_;clear hb ho4))
  go_ret2
  exact ⟨_,by first | rfl|(simp [errW_none,errW_some] <;> rfl)|(simp [*,errW_none,errW_some] <;> rfl),by (with_reducible repeat (first|apply Kd.R_alloc|apply Kd.R_drewN|apply Kd.R_drew));exact HO352.out,by repeat (first|(with_reducible first|exact HB.out|apply bwA|apply bwN|apply bw1)|exact HB.out)⟩
 ·rw [if_neg c2] at H
  have c2b0 : decide (4096 < (l0.length : Int)) = false:=decide_eq_false c2
  have c2b1 : decide (4096 < l0.length) = false:=decide_eq_false (by omega)
  clear c2
  have H':=aMk H
  clear H
  go_enter Try.func25,Try.ntmps25
  go_wp2
  go_loopg [4] k (fun kq v4 w' => ∃ (x4_1 : Int),v4 = .int .i64 x4_1 ∧ Aside0 (spec_SortWords.l0 kq l0 x4_1 = some (r1,r2)) ∧ Aside0 (kq ≤ k) ∧ Aside0 (Below w.heap.size w w'))
  case atStart => exact ⟨(0),(by first | rfl|(simp;done)|(simp [*];done)|(simp [ne_nil_b];done)|(simp [ne_nil_b, *];done)),H',⟨Nat.le_refl _⟩,⟨by repeat (first|(with_reducible first|exact HB.out|apply bwA|apply bwN|apply bw1)|exact HB.out)⟩⟩
  case round =>
   clear H'
   try clear c2
   try clear c2b0
   try clear c2b1
   try clear p2
   obtain ⟨x4_1,rfl,HA,HK1,HB⟩:=hrel
   cases gk with
   | zero => exact absurd HA.out (by simp [spec_SortWords.l0])
   | succ k1 =>
    have H:=HA.out
    clear HA
    simp only [spec_SortWords.l0] at H
    by_cases c5 : x4_1 < (l0.length : Int)
    ·rw [if_pos c5] at H
     have c5b0 : decide (x4_1 < (l0.length : Int)) = true:=decide_eq_true c5
     clear c5
     by_cases c6 : 0 ≤ x4_1
     ·rw [if_pos c6] at H
      have c6b0 : decide (0 ≤ x4_1) = true:=decide_eq_true c6
      clear c6
      replace H:=Option.bind_eq_some_iff.mp H
      obtain ⟨t354,A70,H⟩:=H
      replace H : (if t354 = true then (spec_SortWords.l0 k1 l0 (wrap64 (x4_1 + 1))) else (some ((([] : List (S31))),1))) = some (r1,r2):=H
      have A7:=aMk A70
      clear A70
      by_cases c8 : t354 = true
      ·subst c8
       have H1 : (spec_SortWords.l0 k1 l0 (wrap64 (x4_1 + 1))) = some (r1,r2):=by rw [if_pos rfl] at H;exact H
       clear H
       have H:=H1
       clear H1
       have H':=aMk H
       clear H
       have p353 : 0 ≤ (x4_1 : Int):=of_decide_eq_true (by first|(with_reducible assumption) | assumption)
       have q353 : x4_1 < (l0.length : Int):=of_decide_eq_true (by first|(with_reducible assumption) | assumption)
       obtain ⟨ad353,e353,hx353_0,hx353_1⟩:=at_T31 HR0.out x4_1 p353 q353
       cases e353
       replace hx353_0:=bXc HB.out hx353_0
       replace hx353_1:=bXc HB.out hx353_1
       replace p353:=eq_true p353
       replace q353:=eq_true q353
       go_wp2_with (first|((with_reducible refine gate_callee (f:=41) rfl ?_);refine gLs 22 Try.func41 #[.agg #[.int .i64 ((rd_T31 l0 x4_1).f0),.int .i64 ((rd_T31 l0 x4_1).f1)]] ?_;(with_reducible refine (spec_l06Word.calls ((rd_T31 l0 x4_1).f0) ((rd_T31 l0 x4_1).f1) true _ A7.out).mono ?_);rintro e w9 ⟨rfl,hb⟩;refine ⟨_,rfl,?_⟩;have n0_:=aMk (bSt hb);clear HB;have HB:=n0_;clear n0_;(try clear hb);(try clear hb2);(try clear hk);(try clear hi)))
       go_roundg k1
       case measure => have:=HK1.out;omega
       case rel => exact ⟨(wrap64 (x4_1 + 1)),(by first | rfl|(simp;done)|(simp [*];done)|(simp [ne_nil_b];done)|(simp [ne_nil_b, *];done)),H',⟨by have:=HK1.out;omega⟩,⟨by repeat (first|(with_reducible first|exact HB.out|apply bwA|apply bwN|apply bw1)|exact HB.out)⟩⟩
      ·replace c8:=Bool.eq_false_iff.mpr c8
       subst c8
       have H1 : (some ((([] : List (S31))),1)) = some (r1,r2):=by rw [if_neg (show ¬ (false = true) by decide)] at H;exact H
       clear H
       have H:=H1
       clear H1
       obtain ⟨y355,hy355⟩ : ∃ y_ : List (S31),y_ = (([] : List (S31))):=⟨_,rfl⟩
       replace H : (some (y355,1)) = some (r1,r2):=by first|(rw [hy355];with_reducible exact H)|(have H2_:=(Option.bind_some _ _).symm.trans H;rw [hy355];with_reducible exact H2_)|(have H2_:=(Option.bind_some _ _).symm.trans H;with_reducible exact H2_) | with_reducible exact H|(rw [hy355];exact H)|exact H
       have Ny355:=aMk hy355
       clear hy355
       simp only [Option.some.injEq,Prod.mk.injEq] at H
       obtain ⟨rfl,rfl⟩:=H
       have p353 : 0 ≤ (x4_1 : Int):=of_decide_eq_true (by first|(with_reducible assumption) | assumption)
       have q353 : x4_1 < (l0.length : Int):=of_decide_eq_true (by first|(with_reducible assumption) | assumption)
       obtain ⟨ad353,e353,hx353_0,hx353_1⟩:=at_T31 HR0.out x4_1 p353 q353
       cases e353
       replace hx353_0:=bXc HB.out hx353_0
       replace hx353_1:=bXc HB.out hx353_1
       replace p353:=eq_true p353
       replace q353:=eq_true q353
       go_wp2_with (first|((with_reducible refine gate_callee (f:=41) rfl ?_);refine gLs 22 Try.func41 #[.agg #[.int .i64 ((rd_T31 l0 x4_1).f0),.int .i64 ((rd_T31 l0 x4_1).f1)]] ?_;(with_reducible refine (spec_l06Word.calls ((rd_T31 l0 x4_1).f0) ((rd_T31 l0 x4_1).f1) false _ A7.out).mono ?_);rintro e w10 ⟨rfl,hb⟩;refine ⟨_,rfl,?_⟩;have n0_:=aMk (bSt hb);clear HB;have HB:=n0_;clear n0_;(try clear hb);(try clear hb2);(try clear hk);(try clear hi))|((with_reducible refine gate_dst (N:=24) rfl ?_);refine Kd.R_lit k31 _ 31 ?hg (N:=24) ?hd (xs:=([] : List (S31))) (inner:=[]) (ok:=fun _ => True) (okp:=fun _ => True) ?hr ?hp (fun _ hk => hk) trivial (Below.refl _ _) (Nat.le_refl _) (by simp) ?_;(case hd => rfl);(case hg => rfl);(case hr => first|(go_simp;done)|(go_simp;rfl));(case hp => exact (Reps.none _ _));intro v356 w11 ho12 hb hg_ hnew_;clear hg_ hnew_;(first|rw [← Ny355.out] at ho12|(simp only [Int.reduceToNat] at ho12;rw [← Ny355.out] at ho12));have n0_:=aMk (Kd.R_lower ho12 bSz);have n1_:=aMk (bSt hb);clear HB;have HO357:=n0_;have HB:=n1_;clear n0_ n1_;clear hb ho12))
       go_ret2
       exact ⟨_,by first | rfl|(simp [errW_none,errW_some] <;> rfl)|(simp [*,errW_none,errW_some] <;> rfl),by (with_reducible repeat (first|apply Kd.R_alloc|apply Kd.R_drewN|apply Kd.R_drew));exact HO357.out,by repeat (first|(with_reducible first|exact HB.out|apply bwA|apply bwN|apply bw1)|exact HB.out)⟩
     ·rw [if_neg c6] at H
      exact absurd H (by simp)
    ·rw [if_neg c5] at H
     have c5b0 : decide (x4_1 < (l0.length : Int)) = false:=decide_eq_false c5
     clear c5
     by_cases c13 : (l0.length : Int) > 100
     ·rw [if_pos c13] at H
      have c13b0 : decide (100 < (l0.length : Int)) = true:=decide_eq_true c13
      have c13b1 : decide (100 < l0.length) = true:=decide_eq_true (by omega)
      clear c13
      obtain ⟨y358,hy358⟩ : ∃ y_ : List (S31),y_ = (([] : List (S31))):=⟨_,rfl⟩
      replace H : (some (y358,6)) = some (r1,r2):=by first|(rw [hy358];with_reducible exact H)|(have H2_:=(Option.bind_some _ _).symm.trans H;rw [hy358];with_reducible exact H2_)|(have H2_:=(Option.bind_some _ _).symm.trans H;with_reducible exact H2_) | with_reducible exact H|(rw [hy358];exact H)|exact H
      have Ny358:=aMk hy358
      clear hy358
      simp only [Option.some.injEq,Prod.mk.injEq] at H
      obtain ⟨rfl,rfl⟩:=H
      go_wp2_with (first|((with_reducible refine gate_dst (N:=28) rfl ?_);refine Kd.R_lit k31 _ 31 ?hg (N:=28) ?hd (xs:=([] : List (S31))) (inner:=[]) (ok:=fun _ => True) (okp:=fun _ => True) ?hr ?hp (fun _ hk => hk) trivial (Below.refl _ _) (Nat.le_refl _) (by simp) ?_;(case hd => rfl);(case hg => rfl);(case hr => first|(go_simp;done)|(go_simp;rfl));(case hp => exact (Reps.none _ _));intro v359 w14 ho15 hb hg_ hnew_;clear hg_ hnew_;(first|rw [← Ny358.out] at ho15|(simp only [Int.reduceToNat] at ho15;rw [← Ny358.out] at ho15));have n0_:=aMk (Kd.R_lower ho15 bSz);have n1_:=aMk (bSt hb);clear HB;have HO360:=n0_;have HB:=n1_;clear n0_ n1_;clear hb ho15))
      go_ret2
      exact ⟨_,by first | rfl|(simp [errW_none,errW_some] <;> rfl)|(simp [*,errW_none,errW_some] <;> rfl),by (with_reducible repeat (first|apply Kd.R_alloc|apply Kd.R_drewN|apply Kd.R_drew));exact HO360.out,by repeat (first|(with_reducible first|exact HB.out|apply bwA|apply bwN|apply bw1)|exact HB.out)⟩
     ·rw [if_neg c13] at H
      have c13b0 : decide (100 < (l0.length : Int)) = false:=decide_eq_false c13
      have c13b1 : decide (100 < l0.length) = false:=decide_eq_false (by omega)
      clear c13
      obtain ⟨y361,hy361⟩ : ∃ y_ : List (S31),y_ = (([] : List (S31))):=⟨_,rfl⟩
      replace H : (spec_SortWords.l1 k1 l0 y361 0) = some (r1,r2):=by first|(rw [hy361];with_reducible exact H)|(have H2_:=(Option.bind_some _ _).symm.trans H;rw [hy361];with_reducible exact H2_)|(have H2_:=(Option.bind_some _ _).symm.trans H;with_reducible exact H2_) | with_reducible exact H|(rw [hy361];exact H)|exact H
      have Ny361:=aMk hy361
      clear hy361
      have H':=aMk H
      clear H
      go_wp2_with (first|((with_reducible refine gate_dst (N:=29) rfl ?_);refine Kd.R_lit k31 _ 31 ?hg (N:=29) ?hd (xs:=([] : List (S31))) (inner:=[]) (ok:=fun _ => True) (okp:=fun _ => True) ?hr ?hp (fun _ hk => hk) trivial (Below.refl _ _) (Nat.le_refl _) (by simp) ?_;(case hd => rfl);(case hg => rfl);(case hr => first|(go_simp;done)|(go_simp;rfl));(case hp => exact (Reps.none _ _));intro v362 w16 ho17 hb hg_ hnew_;clear hg_ hnew_;(first|rw [← Ny361.out] at ho17|(simp only [Int.reduceToNat] at ho17;rw [← Ny361.out] at ho17));have n0_:=aMk (Kd.R_lower ho17 bSz);have n1_:=aMk (bSt hb);clear HB;have HO363:=n0_;have HB:=n1_;clear n0_ n1_;clear hb ho17))
      go_loopg [5,6] k1 (fun kq v5 v6 w' => ∃ (x5_2 : List (S31)) (x6_2 : Int),v6 = .int .i64 x6_2 ∧ Aside0 (spec_SortWords.l1 kq l0 x5_2 x6_2 = some (r1,r2)) ∧ Aside0 (kq ≤ k1) ∧ Aside0 (Kd.R k31 31 w' w.heap.size (fun _ => True) v5 x5_2) ∧ Aside0 (Below w.heap.size w w'))
      case atStart => exact ⟨(y361),(0),(by first | rfl|(simp;done)|(simp [*];done)|(simp [ne_nil_b];done)|(simp [ne_nil_b, *];done)),H',⟨Nat.le_refl _⟩,⟨by (with_reducible repeat (first|apply Kd.R_alloc|apply Kd.R_drewN|apply Kd.R_drew));exact HO363.out⟩,⟨by repeat (first|(with_reducible first|exact HB.out|apply bwA|apply bwN|apply bw1)|exact HB.out)⟩⟩
      case round =>
       clear H'
       try clear c1
       try clear c2
       try clear c2b0
       try clear c2b1
       try clear p2
       try clear p3
       try clear q3
       try clear hx3
       try clear c4
       try clear c5
       try clear c5b0
       try clear c6
       try clear c6b0
       try clear p6
       try clear c8
       try clear c13
       try clear c13b0
       try clear c13b1
       try clear hx353_0
       try clear hx353_1
       try clear p2
       try clear p353
       try clear q353
       obtain ⟨x5_2,x6_2,rfl,HA,HK2,HO_5,HB⟩:=hrel
       cases gk with
       | zero => exact absurd HA.out (by simp [spec_SortWords.l1])
       | succ k2 =>
        have H:=HA.out
        clear HA
        simp only [spec_SortWords.l1] at H
        by_cases c18 : x6_2 < (l0.length : Int)
        ·rw [if_pos c18] at H
         have c18b0 : decide (x6_2 < (l0.length : Int)) = true:=decide_eq_true c18
         clear c18
         have H':=aMk H
         clear H
         obtain ⟨Ao19,co19,eo19⟩:=Kd.R_slice HO_5.out
         subst eo19
         go_wp2
         go_loopg [7] k2 (fun kq v7 w' => ∃ (x7_3 : Int),v7 = .int .i64 x7_3 ∧ Aside0 (spec_SortWords.l2 kq l0 x5_2 x6_2 x7_3 = some (r1,r2)) ∧ Aside0 (kq ≤ k2) ∧ Aside0 (Kd.R k31 31 w' w.heap.size (fun _ => True) (.slice Ao19 x5_2.length co19) x5_2) ∧ Aside0 (Below w.heap.size w w'))
         case atStart => exact ⟨((x5_2.length : Int)),(by first | rfl|(simp;done)|(simp [*];done)|(simp [ne_nil_b];done)|(simp [ne_nil_b, *];done)),H',⟨Nat.le_refl _⟩,⟨by (with_reducible repeat (first|apply Kd.R_alloc|apply Kd.R_drewN|apply Kd.R_drew));exact HO_5.out⟩,⟨by repeat (first|(with_reducible first|exact HB.out|apply bwA|apply bwN|apply bw1)|exact HB.out)⟩⟩
         case round =>
          clear H'
          try clear c1
          try clear c2
          try clear c2b0
          try clear c2b1
          try clear p2
          try clear p3
          try clear q3
          try clear hx3
          try clear c4
          try clear c5
          try clear c5b0
          try clear c6
          try clear c6b0
          try clear p6
          try clear c8
          try clear c13
          try clear c13b0
          try clear c13b1
          try clear c18
          try clear c18b0
          try clear hx353_0
          try clear hx353_1
          try clear p2
          try clear p3
          try clear p353
          try clear p6
          try clear q3
          try clear q353
          obtain ⟨x7_3,rfl,HA,HK3,HO_5,HB⟩:=hrel
          cases gk with
          | zero => exact absurd HA.out (by simp [spec_SortWords.l2])
          | succ k3 =>
           have H:=HA.out
           clear HA
           simp only [spec_SortWords.l2] at H
           by_cases c20 : x7_3 > 0
           ·rw [if_pos c20] at H
            have c20b0 : decide (0 < x7_3) = true:=decide_eq_true c20
            clear c20
            obtain ⟨ji21,hji21⟩ : ∃ j_ : Int,(wrap64 (x7_3 - 1)) = j_:=⟨_,rfl⟩
            replace H : (if 0 ≤ (ji21) then (if (ji21) < (x5_2.length : Int) then (if 0 ≤ x6_2 then (if x6_2 < (l0.length : Int) then ((spec_l06Order.f k3 ((rd_T31 x5_2 (ji21)).f0) ((rd_T31 x5_2 (ji21)).f1) ((rd_T31 l0 x6_2).f0) ((rd_T31 l0 x6_2).f1)).bind fun t366 => (if t366 > 0 then (spec_SortWords.l2 k3 l0 x5_2 x6_2 ji21) else ((some (([] : List (S31)) : List (S31))).bind fun y367 => (if 0 ≤ x7_3 then (if x7_3 ≤ (x5_2.length : Int) then ((some (x5_2.take (x7_3 : Int).toNat : List (S31))).bind fun y370 => (if y367.length + y370.length < 8796093022208 then ((some (y367 ++ y370 : List (S31))).bind fun y374 => ((some (([(⟨(rd_T31 l0 x6_2).f0,(rd_T31 l0 x6_2).f1⟩ : S31)] : List (S31)) : List (S31))).bind fun y378 => (if y374.length + y378.length < 8796093022208 then ((some (y374 ++ y378 : List (S31))).bind fun y381 => ((some (x5_2.drop (x7_3 : Int).toNat : List (S31))).bind fun y384 => (if y381.length + y384.length < 8796093022208 then (spec_SortWords.l1 k3 l0 (y381 ++ y384) (wrap64 (x6_2 + 1))) else (none)))) else (none)))) else (none))) else (none)) else (none))))) else (none)) else (none)) else (none)) else (none)) = some (r1,r2):=by first|(rw [hji21] at H;exact H)|(simp only [hji21] at H ⊢;exact H)
            have hji21w : (IntKind.i64.wrap (x7_3 - 1)) = ji21:=(i64_w _).trans hji21
            by_cases c22 : 0 ≤ (ji21)
            ·rw [if_pos c22] at H
             have c22b0 : decide (0 ≤ (ji21)) = true:=decide_eq_true c22
             clear c22
             by_cases c23 : (ji21) < (x5_2.length : Int)
             ·rw [if_pos c23] at H
              have c23b0 : decide ((ji21) < (x5_2.length : Int)) = true:=decide_eq_true c23
              clear c23
              by_cases c24 : 0 ≤ x6_2
              ·rw [if_pos c24] at H
               have c24b0 : decide (0 ≤ x6_2) = true:=decide_eq_true c24
               clear c24
               by_cases c25 : x6_2 < (l0.length : Int)
               ·rw [if_pos c25] at H
                have c25b0 : decide (x6_2 < (l0.length : Int)) = true:=decide_eq_true c25
                clear c25
                replace H:=Option.bind_eq_some_iff.mp H
                obtain ⟨t366,A260,H⟩:=H
                replace H : (if t366 > 0 then (spec_SortWords.l2 k3 l0 x5_2 x6_2 ji21) else ((some (([] : List (S31)) : List (S31))).bind fun y367 => (if 0 ≤ x7_3 then (if x7_3 ≤ (x5_2.length : Int) then ((some (x5_2.take (x7_3 : Int).toNat : List (S31))).bind fun y370 => (if y367.length + y370.length < 8796093022208 then ((some (y367 ++ y370 : List (S31))).bind fun y374 => ((some (([(⟨(rd_T31 l0 x6_2).f0,(rd_T31 l0 x6_2).f1⟩ : S31)] : List (S31)) : List (S31))).bind fun y378 => (if y374.length + y378.length < 8796093022208 then ((some (y374 ++ y378 : List (S31))).bind fun y381 => ((some (x5_2.drop (x7_3 : Int).toNat : List (S31))).bind fun y384 => (if y381.length + y384.length < 8796093022208 then (spec_SortWords.l1 k3 l0 (y381 ++ y384) (wrap64 (x6_2 + 1))) else (none)))) else (none)))) else (none))) else (none)) else (none)))) = some (r1,r2):=H
                have A26:=aMk A260
                clear A260
                by_cases c27 : t366 > 0
                ·rw [if_pos c27] at H
                 have c27b0 : decide (0 < t366) = true:=decide_eq_true c27
                 clear c27
                 have H':=aMk H
                 clear H
                 try go_wp2
                 have n0_:=aMk (Kd.R_drew HO_5.out)
                 have n1_:=aMk (bw1 HB.out)
                 clear HO_5
                 clear HB
                 have HO_5:=n0_
                 have HB:=n1_
                 clear n0_ n1_
                 have p364 : 0 ≤ ((ji21) : Int):=of_decide_eq_true (by first|(with_reducible assumption) | assumption)
                 have q364 : (ji21) < (x5_2.length : Int):=of_decide_eq_true (by first|(with_reducible assumption) | assumption)
                 obtain ⟨ad364,e364,hx364_0,hx364_1⟩:=at_T31 (Kd.R_reads' HO_5.out).2.2 (ji21) p364 q364
                 cases e364
                 replace p364:=eq_true p364
                 replace q364:=eq_true q364
                 have p365 : 0 ≤ (x6_2 : Int):=of_decide_eq_true (by first|(with_reducible assumption) | assumption)
                 have q365 : x6_2 < (l0.length : Int):=of_decide_eq_true (by first|(with_reducible assumption) | assumption)
                 obtain ⟨ad365,e365,hx365_0,hx365_1⟩:=at_T31 HR0.out x6_2 p365 q365
                 have hw365_1:=hx365_1
                 have hw365_0:=hx365_0
                 cases e365
                 replace hx365_0:=bXc HB.out hx365_0
                 replace hx365_1:=bXc HB.out hx365_1
                 replace p365:=eq_true p365
                 replace q365:=eq_true q365
                 refine start_ (n:=15) (S:=fun w' => w'.cell? (ad364.add (((ji21)).toNat * 2)) = some (.int .i64 ((rd_T31 x5_2 (ji21)).f0)) ∧ w'.cell? ⟨(ad364.add (((ji21)).toNat * 2)).block,(ad364.add (((ji21)).toNat * 2)).off + 1,none⟩ = some (.int .i64 ((rd_T31 x5_2 (ji21)).f1)) ∧ w'.cell? (ad365.add ((x6_2).toNat * 2)) = some (.int .i64 ((rd_T31 l0 x6_2).f0)) ∧ w'.cell? ⟨(ad365.add ((x6_2).toNat * 2)).block,(ad365.add ((x6_2).toNat * 2)).off + 1,none⟩ = some (.int .i64 ((rd_T31 l0 x6_2).f1))) (ds:=[]) #[false,false,false,false,false,false,false,false,false,false,false,false,false,false,false] (by kernel_rfl) rfl rfl ⟨hx364_0,hx364_1,((HB.out.cell (wLt w _ hw365_0)).trans hw365_0),((HB.out.cell (wLt w _ hw365_1)).trans hw365_1)⟩ (fun hHeld => ?_);refine with_tabW spec_SortWords.tab15 spec_SortWords.bits15 (fun HT_ HW_ => ?_)
                 generalize wr.drew = w28 at HO_5 HB hx364_0 hx364_1 hx365_0 hx365_1 hHeld ⊢
                 refine pU (i:=0) (N:=some 38) #[true,false,false,false,false,false,false,false,false,false,false,false,false,false,false] (any_of HT_.out (by kernel_rfl)) ?_
                 refine pU (i:=1) (N:=some 39) #[true,true,false,false,false,false,false,false,false,false,false,false,false,false,false] (any_of HT_.out (by kernel_rfl)) ?_
                 refine pU (i:=2) (N:=some 40) #[true,true,true,false,false,false,false,false,false,false,false,false,false,false,false] (any_of HT_.out (by kernel_rfl)) ?_
                 refine pU (i:=3) (N:=some 41) #[true,true,true,true,false,false,false,false,false,false,false,false,false,false,false] (any_of HT_.out (by kernel_rfl)) ?_
                 refine pU (i:=4) (N:=some 42) #[true,true,true,true,true,false,false,false,false,false,false,false,false,false,false] (any_of HT_.out (by kernel_rfl)) ?_
                 refine pU (i:=5) (N:=some 43) #[true,true,true,true,true,true,false,false,false,false,false,false,false,false,false] (any_of HT_.out (by kernel_rfl)) ?_
                 refine pU (i:=6) (N:=some 44) #[true,true,true,true,true,true,true,false,false,false,false,false,false,false,false] (any_of HT_.out (by kernel_rfl)) ?_
                 refine pU (i:=8) (N:=some 46) #[true,true,true,true,true,true,true,false,true,false,false,false,false,false,false] (any_of HT_.out (by kernel_rfl)) ?_
                 refine pU (i:=9) (N:=some 47) #[true,true,true,true,true,true,true,false,true,true,false,false,false,false,false] (any_of HT_.out (by kernel_rfl)) ?_
                 refine pU (i:=10) (N:=some 48) #[true,true,true,true,true,true,true,false,true,true,true,false,false,false,false] (any_of HT_.out (by kernel_rfl)) ?_
                 refine tU4 (i:=7) (N:=some 45) #[true,true,true,true,true,true,true,true,true,true,true,false,false,false,false] (take_ofW HT_.out HW_.out (by kernel_rfl)) hHeld ?_
                 refine tU4 (i:=11) (N:=some 49) #[true,true,true,true,true,true,true,true,true,true,true,true,false,false,false] (take_ofW HT_.out HW_.out (by kernel_rfl)) hHeld ?_
                 refine one_ (i:=12) (N:=some 50) #[true,true,true,true,true,true,true,true,true,true,true,true,true,false,false] rfl rfl (one_of HT_.out (by kernel_rfl)) (by decide) (fun K hK => ?_)
                 refine goes_ Try.func42 (by kernel_rfl) rfl #[.agg #[.int .i64 ((rd_T31 x5_2 (ji21)).f0),.int .i64 ((rd_T31 x5_2 (ji21)).f1)],.agg #[.int .i64 ((rd_T31 l0 x6_2).f0),.int .i64 ((rd_T31 l0 x6_2).f1)]] (by rfl) rfl rfl (by (try simp only [List.map_toArray,List.map_cons,List.map_nil]);first | done|(simp only [hji21];rfl) | rfl|(simp only [List.length_drop,List.length_take];rfl)) ?_
                 with_reducible refine (spec_l06Order.calls k3 ((rd_T31 x5_2 (ji21)).f0) ((rd_T31 x5_2 (ji21)).f1) ((rd_T31 l0 x6_2).f0) ((rd_T31 l0 x6_2).f1) t366 _ A26.out).mono ?_
                 rintro e w29 ⟨rfl,hb⟩
                 have HS0_:=(hb.cell (wLt _ _ (hHeld.1))).trans (hHeld.1)
                 have HS1_:=(hb.cell (wLt _ _ (hHeld.2.1))).trans (hHeld.2.1)
                 refine ⟨_,rfl,?_⟩
                 have n0_:=aMk (Kd.R_below (by (with_reducible repeat (first|apply Kd.R_alloc|apply Kd.R_drewN|apply Kd.R_drew));exact HO_5.out) hb)
                 have n1_:=aMk (bSt hb)
                 clear HO_5
                 clear HB
                 have HO_5:=n0_
                 have HB:=n1_
                 clear n0_ n1_
                 (try clear hb)
                 (try clear hb2)
                 (try clear hk)
                 (try clear hi)
                 refine hK.out _ _ ⟨HS0_,HS1_,((HB.out.cell (wLt w _ hw365_0)).trans hw365_0),((HB.out.cell (wLt w _ hw365_1)).trans hw365_1)⟩ (fun hHeld => ?_)
                 clear hK K
                 refine norm_ (a':=?_) ?_ ?_
                 rotate_left
                 ·show Act.put _ (some 50) _ = _
                  simp only [Act.put,List.setIfInBounds_toArray,List.set_cons_zero,List.set_cons_succ,i64_w,i32_w]
                  rfl
                 refine pU (i:=13) (N:=some 51) #[true,true,true,true,true,true,true,true,true,true,true,true,true,true,false] (any_of HT_.out (by kernel_rfl)) ?_
                 refine pU (i:=14) (N:=some 52) #[true,true,true,true,true,true,true,true,true,true,true,true,true,true,true] (any_of HT_.out (by kernel_rfl)) ?_
                 refine done_ (done_of HT_.out (by kernel_rfl)) ?_
                 try go_wp2
                 go_roundg k3
                 case measure => have:=HK1.out;have:=HK2.out;have:=HK3.out;omega
                 case rel => exact ⟨(ji21),(by first | rfl|(simp;done)|(simp only [← hji21] <;> (first|rfl | simp))|(simp [*];done)|(simp [ne_nil_b];done)|(simp [ne_nil_b, *];done)),H',⟨by have:=HK1.out;have:=HK2.out;have:=HK3.out;omega⟩,⟨by (with_reducible repeat (first|apply Kd.R_alloc|apply Kd.R_drewN|apply Kd.R_drew));exact HO_5.out⟩,⟨by repeat (first|(with_reducible first|exact HB.out|apply bwA|apply bwN|apply bw1)|exact HB.out)⟩⟩
                ·rw [if_neg c27] at H
                 have c27b0 : decide (0 < t366) = false:=decide_eq_false c27
                 clear c27
                 obtain ⟨y367,hy367⟩ : ∃ y_ : List (S31),y_ = (([] : List (S31))):=⟨_,rfl⟩
                 replace H : (if 0 ≤ x7_3 then (if x7_3 ≤ (x5_2.length : Int) then ((some (x5_2.take (x7_3 : Int).toNat : List (S31))).bind fun y370 => (if y367.length + y370.length < 8796093022208 then ((some (y367 ++ y370 : List (S31))).bind fun y374 => ((some (([(⟨(rd_T31 l0 x6_2).f0,(rd_T31 l0 x6_2).f1⟩ : S31)] : List (S31)) : List (S31))).bind fun y378 => (if y374.length + y378.length < 8796093022208 then ((some (y374 ++ y378 : List (S31))).bind fun y381 => ((some (x5_2.drop (x7_3 : Int).toNat : List (S31))).bind fun y384 => (if y381.length + y384.length < 8796093022208 then (spec_SortWords.l1 k3 l0 (y381 ++ y384) (wrap64 (x6_2 + 1))) else (none)))) else (none)))) else (none))) else (none)) else (none)) = some (r1,r2):=by first|(rw [hy367];with_reducible exact H)|(have H2_:=(Option.bind_some _ _).symm.trans H;rw [hy367];with_reducible exact H2_)|(have H2_:=(Option.bind_some _ _).symm.trans H;with_reducible exact H2_) | with_reducible exact H|(rw [hy367];exact H)|exact H
                 have Ny367:=aMk hy367
                 clear hy367
                 by_cases c30 : 0 ≤ x7_3
                 ·rw [if_pos c30] at H
                  have c30b0:=eq_true c30
                  have c30b1 : decide (0 ≤ x7_3) = true:=decide_eq_true c30
                  clear c30
                  by_cases c31 : x7_3 ≤ (x5_2.length : Int)
                  ·rw [if_pos c31] at H
                   have c31b0:=eq_true c31
                   have c31b1 : decide (x7_3 ≤ (x5_2.length : Int)) = true:=decide_eq_true c31
                   clear c31
                   obtain ⟨y370,hy370⟩ : ∃ y_ : List (S31),y_ = (x5_2.take (x7_3 : Int).toNat):=⟨_,rfl⟩
                   replace H : (if y367.length + y370.length < 8796093022208 then ((some (y367 ++ y370 : List (S31))).bind fun y374 => ((some (([(⟨(rd_T31 l0 x6_2).f0,(rd_T31 l0 x6_2).f1⟩ : S31)] : List (S31)) : List (S31))).bind fun y378 => (if y374.length + y378.length < 8796093022208 then ((some (y374 ++ y378 : List (S31))).bind fun y381 => ((some (x5_2.drop (x7_3 : Int).toNat : List (S31))).bind fun y384 => (if y381.length + y384.length < 8796093022208 then (spec_SortWords.l1 k3 l0 (y381 ++ y384) (wrap64 (x6_2 + 1))) else (none)))) else (none)))) else (none)) = some (r1,r2):=by first|(rw [hy370];with_reducible exact H)|(have H2_:=(Option.bind_some _ _).symm.trans H;rw [hy370];with_reducible exact H2_)|(have H2_:=(Option.bind_some _ _).symm.trans H;with_reducible exact H2_) | with_reducible exact H|(rw [hy370];exact H)|exact H
                   have Ny370:=aMk hy370
                   clear hy370
                   by_cases c32 : y367.length + y370.length < 8796093022208
                   ·rw [if_pos c32] at H
                    have LMc32:=aMk c32
                    clear c32
                    obtain ⟨y374,hy374⟩ : ∃ y_ : List (S31),y_ = (y367 ++ y370):=⟨_,rfl⟩
                    replace H : ((some (([(⟨(rd_T31 l0 x6_2).f0,(rd_T31 l0 x6_2).f1⟩ : S31)] : List (S31)) : List (S31))).bind fun y378 => (if y374.length + y378.length < 8796093022208 then ((some (y374 ++ y378 : List (S31))).bind fun y381 => ((some (x5_2.drop (x7_3 : Int).toNat : List (S31))).bind fun y384 => (if y381.length + y384.length < 8796093022208 then (spec_SortWords.l1 k3 l0 (y381 ++ y384) (wrap64 (x6_2 + 1))) else (none)))) else (none))) = some (r1,r2):=by first|(rw [hy374];with_reducible exact H)|(have H2_:=(Option.bind_some _ _).symm.trans H;rw [hy374];with_reducible exact H2_)|(have H2_:=(Option.bind_some _ _).symm.trans H;with_reducible exact H2_) | with_reducible exact H|(rw [hy374];exact H)|exact H
                    have Ny374:=aMk hy374
                    clear hy374
                    obtain ⟨y378,hy378⟩ : ∃ y_ : List (S31),y_ = (([(⟨(rd_T31 l0 x6_2).f0,(rd_T31 l0 x6_2).f1⟩ : S31)] : List (S31))):=⟨_,rfl⟩
                    replace H : (if y374.length + y378.length < 8796093022208 then ((some (y374 ++ y378 : List (S31))).bind fun y381 => ((some (x5_2.drop (x7_3 : Int).toNat : List (S31))).bind fun y384 => (if y381.length + y384.length < 8796093022208 then (spec_SortWords.l1 k3 l0 (y381 ++ y384) (wrap64 (x6_2 + 1))) else (none)))) else (none)) = some (r1,r2):=by first|(rw [hy378];with_reducible exact H)|(have H2_:=(Option.bind_some _ _).symm.trans H;rw [hy378];with_reducible exact H2_)|(have H2_:=(Option.bind_some _ _).symm.trans H;with_reducible exact H2_) | with_reducible exact H|(rw [hy378];exact H)|exact H
                    have Ny378:=aMk hy378
                    clear hy378
                    by_cases c33 : y374.length + y378.length < 8796093022208
                    ·rw [if_pos c33] at H
                     have LMc33:=aMk c33
                     clear c33
                     obtain ⟨y381,hy381⟩ : ∃ y_ : List (S31),y_ = (y374 ++ y378):=⟨_,rfl⟩
                     replace H : ((some (x5_2.drop (x7_3 : Int).toNat : List (S31))).bind fun y384 => (if y381.length + y384.length < 8796093022208 then (spec_SortWords.l1 k3 l0 (y381 ++ y384) (wrap64 (x6_2 + 1))) else (none))) = some (r1,r2):=by first|(rw [hy381];with_reducible exact H)|(have H2_:=(Option.bind_some _ _).symm.trans H;rw [hy381];with_reducible exact H2_)|(have H2_:=(Option.bind_some _ _).symm.trans H;with_reducible exact H2_) | with_reducible exact H|(rw [hy381];exact H)|exact H
                     have Ny381:=aMk hy381
                     clear hy381
                     have c34b0:=eq_true (of_decide_eq_true (by first|(with_reducible assumption) | assumption) : 0 ≤ x7_3)
                     have c35b0:=eq_true (of_decide_eq_true (by first|(with_reducible assumption) | assumption) : x7_3 ≤ (x5_2.length : Int))
                     obtain ⟨y384,hy384⟩ : ∃ y_ : List (S31),y_ = (x5_2.drop (x7_3 : Int).toNat):=⟨_,rfl⟩
                     replace H : (if y381.length + y384.length < 8796093022208 then (spec_SortWords.l1 k3 l0 (y381 ++ y384) (wrap64 (x6_2 + 1))) else (none)) = some (r1,r2):=by first|(rw [hy384];with_reducible exact H)|(have H2_:=(Option.bind_some _ _).symm.trans H;rw [hy384];with_reducible exact H2_)|(have H2_:=(Option.bind_some _ _).symm.trans H;with_reducible exact H2_) | with_reducible exact H|(rw [hy384];exact H)|exact H
                     have Ny384:=aMk hy384
                     clear hy384
                     by_cases c36 : y381.length + y384.length < 8796093022208
                     ·rw [if_pos c36] at H
                      have LMc36:=aMk c36
                      clear c36
                      obtain ⟨y388,hy388⟩ : ∃ y_ : List (S31),y_ = (y381 ++ y384):=⟨_,rfl⟩
                      replace H : (spec_SortWords.l1 k3 l0 y388 (wrap64 (x6_2 + 1))) = some (r1,r2):=by first|(rw [hy388];with_reducible exact H)|(have H2_:=(Option.bind_some _ _).symm.trans H;rw [hy388];with_reducible exact H2_)|(have H2_:=(Option.bind_some _ _).symm.trans H;with_reducible exact H2_) | with_reducible exact H|(rw [hy388];exact H)|exact H
                      have Ny388:=aMk hy388
                      clear hy388
                      have H':=aMk H
                      clear H
                      try go_wp2
                      have n0_:=aMk (Kd.R_drew HO_5.out)
                      have n1_:=aMk (bw1 HB.out)
                      clear HO_5
                      clear HB
                      have HO_5:=n0_
                      have HB:=n1_
                      clear n0_ n1_
                      have p364 : 0 ≤ ((ji21) : Int):=of_decide_eq_true (by first|(with_reducible assumption) | assumption)
                      have q364 : (ji21) < (x5_2.length : Int):=of_decide_eq_true (by first|(with_reducible assumption) | assumption)
                      obtain ⟨ad364,e364,hx364_0,hx364_1⟩:=at_T31 (Kd.R_reads' HO_5.out).2.2 (ji21) p364 q364
                      cases e364
                      replace p364:=eq_true p364
                      replace q364:=eq_true q364
                      have p365 : 0 ≤ (x6_2 : Int):=of_decide_eq_true (by first|(with_reducible assumption) | assumption)
                      have q365 : x6_2 < (l0.length : Int):=of_decide_eq_true (by first|(with_reducible assumption) | assumption)
                      obtain ⟨ad365,e365,hx365_0,hx365_1⟩:=at_T31 HR0.out x6_2 p365 q365
                      have hw365_1:=hx365_1
                      have hw365_0:=hx365_0
                      cases e365
                      replace hx365_0:=bXc HB.out hx365_0
                      replace hx365_1:=bXc HB.out hx365_1
                      replace p365:=eq_true p365
                      replace q365:=eq_true q365
                      refine start_ (n:=15) (S:=fun w' => w'.cell? (ad364.add (((ji21)).toNat * 2)) = some (.int .i64 ((rd_T31 x5_2 (ji21)).f0)) ∧ w'.cell? ⟨(ad364.add (((ji21)).toNat * 2)).block,(ad364.add (((ji21)).toNat * 2)).off + 1,none⟩ = some (.int .i64 ((rd_T31 x5_2 (ji21)).f1)) ∧ w'.cell? (ad365.add ((x6_2).toNat * 2)) = some (.int .i64 ((rd_T31 l0 x6_2).f0)) ∧ w'.cell? ⟨(ad365.add ((x6_2).toNat * 2)).block,(ad365.add ((x6_2).toNat * 2)).off + 1,none⟩ = some (.int .i64 ((rd_T31 l0 x6_2).f1))) (ds:=[]) #[false,false,false,false,false,false,false,false,false,false,false,false,false,false,false] (by kernel_rfl) rfl rfl ⟨hx364_0,hx364_1,((HB.out.cell (wLt w _ hw365_0)).trans hw365_0),((HB.out.cell (wLt w _ hw365_1)).trans hw365_1)⟩ (fun hHeld => ?_);refine with_tabW spec_SortWords.tab15 spec_SortWords.bits15 (fun HT_ HW_ => ?_)
                      generalize wr.drew = w37 at HO_5 HB hx364_0 hx364_1 hx365_0 hx365_1 hHeld ⊢
                      refine pU (i:=0) (N:=some 38) #[true,false,false,false,false,false,false,false,false,false,false,false,false,false,false] (any_of HT_.out (by kernel_rfl)) ?_
                      refine pU (i:=1) (N:=some 39) #[true,true,false,false,false,false,false,false,false,false,false,false,false,false,false] (any_of HT_.out (by kernel_rfl)) ?_
                      refine pU (i:=2) (N:=some 40) #[true,true,true,false,false,false,false,false,false,false,false,false,false,false,false] (any_of HT_.out (by kernel_rfl)) ?_
                      refine pU (i:=3) (N:=some 41) #[true,true,true,true,false,false,false,false,false,false,false,false,false,false,false] (any_of HT_.out (by kernel_rfl)) ?_
                      refine pU (i:=4) (N:=some 42) #[true,true,true,true,true,false,false,false,false,false,false,false,false,false,false] (any_of HT_.out (by kernel_rfl)) ?_
                      refine pU (i:=5) (N:=some 43) #[true,true,true,true,true,true,false,false,false,false,false,false,false,false,false] (any_of HT_.out (by kernel_rfl)) ?_
                      refine pU (i:=6) (N:=some 44) #[true,true,true,true,true,true,true,false,false,false,false,false,false,false,false] (any_of HT_.out (by kernel_rfl)) ?_
                      refine pU (i:=8) (N:=some 46) #[true,true,true,true,true,true,true,false,true,false,false,false,false,false,false] (any_of HT_.out (by kernel_rfl)) ?_
                      refine pU (i:=9) (N:=some 47) #[true,true,true,true,true,true,true,false,true,true,false,false,false,false,false] (any_of HT_.out (by kernel_rfl)) ?_
                      refine pU (i:=10) (N:=some 48) #[true,true,true,true,true,true,true,false,true,true,true,false,false,false,false] (any_of HT_.out (by kernel_rfl)) ?_
                      refine tU4 (i:=7) (N:=some 45) #[true,true,true,true,true,true,true,true,true,true,true,false,false,false,false] (take_ofW HT_.out HW_.out (by kernel_rfl)) hHeld ?_
                      refine tU4 (i:=11) (N:=some 49) #[true,true,true,true,true,true,true,true,true,true,true,true,false,false,false] (take_ofW HT_.out HW_.out (by kernel_rfl)) hHeld ?_
                      refine one_ (i:=12) (N:=some 50) #[true,true,true,true,true,true,true,true,true,true,true,true,true,false,false] rfl rfl (one_of HT_.out (by kernel_rfl)) (by decide) (fun K hK => ?_)
                      refine goes_ Try.func42 (by kernel_rfl) rfl #[.agg #[.int .i64 ((rd_T31 x5_2 (ji21)).f0),.int .i64 ((rd_T31 x5_2 (ji21)).f1)],.agg #[.int .i64 ((rd_T31 l0 x6_2).f0),.int .i64 ((rd_T31 l0 x6_2).f1)]] (by rfl) rfl rfl (by (try simp only [List.map_toArray,List.map_cons,List.map_nil]);first | done|(simp only [hji21];rfl) | rfl|(simp only [List.length_drop,List.length_take];rfl)) ?_
                      with_reducible refine (spec_l06Order.calls k3 ((rd_T31 x5_2 (ji21)).f0) ((rd_T31 x5_2 (ji21)).f1) ((rd_T31 l0 x6_2).f0) ((rd_T31 l0 x6_2).f1) t366 _ A26.out).mono ?_
                      rintro e w38 ⟨rfl,hb⟩
                      have HS0_:=(hb.cell (wLt _ _ (hHeld.1))).trans (hHeld.1)
                      have HS1_:=(hb.cell (wLt _ _ (hHeld.2.1))).trans (hHeld.2.1)
                      refine ⟨_,rfl,?_⟩
                      have n0_:=aMk (Kd.R_below (by (with_reducible repeat (first|apply Kd.R_alloc|apply Kd.R_drewN|apply Kd.R_drew));exact HO_5.out) hb)
                      have n1_:=aMk (bSt hb)
                      clear HO_5
                      clear HB
                      have HO_5:=n0_
                      have HB:=n1_
                      clear n0_ n1_
                      (try clear hb)
                      (try clear hb2)
                      (try clear hk)
                      (try clear hi)
                      refine hK.out _ _ ⟨HS0_,HS1_,((HB.out.cell (wLt w _ hw365_0)).trans hw365_0),((HB.out.cell (wLt w _ hw365_1)).trans hw365_1)⟩ (fun hHeld => ?_)
                      clear hK K
                      refine norm_ (a':=?_) ?_ ?_
                      rotate_left
                      ·show Act.put _ (some 50) _ = _
                       simp only [Act.put,List.setIfInBounds_toArray,List.set_cons_zero,List.set_cons_succ,i64_w,i32_w]
                       rfl
                      refine pU (i:=13) (N:=some 51) #[true,true,true,true,true,true,true,true,true,true,true,true,true,true,false] (any_of HT_.out (by kernel_rfl)) ?_
                      refine pU (i:=14) (N:=some 52) #[true,true,true,true,true,true,true,true,true,true,true,true,true,true,true] (any_of HT_.out (by kernel_rfl)) ?_
                      refine done_ (done_of HT_.out (by kernel_rfl)) ?_
                      try go_wp2
                      have n0_:=aMk (Kd.R_drew HO_5.out)
                      have n1_:=aMk (bw1 HB.out)
                      clear HO_5
                      clear HB
                      have HO_5:=n0_
                      have HB:=n1_
                      clear n0_ n1_
                      have q40 : (x7_3 : Int) ≤ ((x5_2.length : Int) : Int):=of_decide_eq_true (by first|(with_reducible assumption) | assumption)
                      obtain ⟨i040,hi040,_,hsz40,_⟩:=info_parts info31
                      have hroom40 : x5_2.length ≤ co19:=(Kd.R_reads' HO_5.out).2.1
                      have hC40 : Kd.C k31 _ (some ad364) x5_2.length x5_2:=(Kd.R_reads' HO_5.out).2.2
                      have hcut40:=cut_to (P:=Try.prog) 47 31 .i64 Try.underlying47 hi040 (some ad364) x5_2.length co19 x7_3 (of_decide_eq_true (by first|(with_reducible assumption) | assumption)) q40 hroom40
                      have hr40:=Kd.C_take (m:=(x7_3 : Int).toNat) hC40 (by omega)
                      have hy40 : y370.length = (x7_3 : Int).toNat:=(by rw [Ny370.out,List.length_take];omega)
                      rw [← Ny370.out] at hr40
                      rw [← hy40] at hcut40
                      have HR373:=aMk hr40
                      have HC373:=aMk (show y370.length ≤ co19 from by omega)
                      clear hr40 hC40 hroom40 hi040 hsz40
                      have KY40:=aMk hy40
                      clear hy40
                      have KL40:=aMk (show (x7_3 : Int).toNat ≤ x5_2.length from by omega)
                      replace q40:=eq_true q40
                      have p377 : 0 ≤ (x6_2 : Int):=of_decide_eq_true (by first|(with_reducible assumption) | assumption)
                      have q377 : x6_2 < (l0.length : Int):=of_decide_eq_true (by first|(with_reducible assumption) | assumption)
                      obtain ⟨ad377,e377,hx377_0,hx377_1⟩:=at_T31 HR0.out x6_2 p377 q377
                      have hw377_1:=hx377_1
                      have hw377_0:=hx377_0
                      obtain rfl : ad365 = ad377:=(by injection e377)
                      replace hx377_0:=bXc HB.out hx377_0
                      replace hx377_1:=bXc HB.out hx377_1
                      replace p377:=eq_true p377
                      replace q377:=eq_true q377
                      have q41 : (x7_3 : Int) ≤ ((x5_2.length : Int) : Int):=of_decide_eq_true (by first|(with_reducible assumption) | assumption)
                      obtain ⟨i041,hi041,_,hsz41,_⟩:=info_parts info31
                      have hroom41 : x5_2.length ≤ co19:=(Kd.R_reads' HO_5.out).2.1
                      have hC41 : Kd.C k31 _ (some ad364) x5_2.length x5_2:=(Kd.R_reads' HO_5.out).2.2
                      have q041 : (0 : Int) ≤ (x7_3 : Int):=of_decide_eq_true (by first|(with_reducible assumption) | assumption)
                      have hcut41:=cut_from (P:=Try.prog) 47 31 .i64 Try.underlying47 hi041 2 hsz41 (some ad364) x5_2.length co19 x7_3 q041 q41
                      have hr41:=Kd.C_drop (m:=(x7_3 : Int).toNat) (c:=co19) hC41 (by omega) hroom41
                      obtain ⟨A41,hA41⟩ : ∃ A1,A1 = (if co19 = (x7_3 : Int).toNat then (some ad364) else ((some ad364) : Option Addr).map (·.add ((x7_3 : Int).toNat * 2))):=⟨_,rfl⟩
                      obtain ⟨c41,hc41⟩ : ∃ c1,c1 = co19 - (x7_3 : Int).toNat:=⟨_,rfl⟩
                      have hy41 : y384.length = x5_2.length - (x7_3 : Int).toNat:=(by rw [Ny384.out,List.length_drop] <;> omega)
                      rw [show (x5_2).drop (x7_3 : Int).toNat = y384 from Ny384.out.symm] at hr41
                      replace hr41 : Kd.C k31 _ A41 y384.length y384:=(by rw [hA41];exact hr41)
                      rw [← hy41,← hA41,← hc41] at hcut41
                      have HR387:=aMk hr41
                      have HC387:=aMk (show y384.length ≤ c41 from by rw [hy41,hc41];exact Nat.sub_le_sub_right hroom41 _)
                      clear hr41 hC41 hroom41 hi041 hsz41 hc41
                      have KY41:=aMk hy41
                      have KA41:=aMk hA41
                      clear hy41 hA41
                      have KL41:=aMk (show (x7_3 : Int).toNat ≤ x5_2.length from by omega)
                      replace q41:=eq_true q41
                      refine start_ (n:=16) (S:=fun w' => w'.cell? (ad365.add ((x6_2).toNat * 2)) = some (.int .i64 ((rd_T31 l0 x6_2).f0)) ∧ w'.cell? ⟨(ad365.add ((x6_2).toNat * 2)).block,(ad365.add ((x6_2).toNat * 2)).off + 1,none⟩ = some (.int .i64 ((rd_T31 l0 x6_2).f1))) (ds:=[]) #[false,false,false,false,false,false,false,false,false,false,false,false,false,false,false,false] (by kernel_rfl) rfl rfl ⟨((HB.out.cell (wLt w _ hw377_0)).trans hw377_0),((HB.out.cell (wLt w _ hw377_1)).trans hw377_1)⟩ (fun hHeld => ?_);refine with_tabW spec_SortWords.tab17 spec_SortWords.bits17 (fun HT_ HW_ => ?_)
                      generalize w38.drew = w39 at HO_5 HB HR373 HR387 hx377_0 hx377_1 hHeld ⊢
                      refine pU (i:=1) (N:=some 56) #[false,true,false,false,false,false,false,false,false,false,false,false,false,false,false,false] (any_of HT_.out (by kernel_rfl)) ?_
                      refine pU (i:=2) (N:=some 57) #[false,true,true,false,false,false,false,false,false,false,false,false,false,false,false,false] (any_of HT_.out (by kernel_rfl)) ?_
                      refine pU (i:=3) (N:=some 58) #[false,true,true,true,false,false,false,false,false,false,false,false,false,false,false,false] (any_of HT_.out (by kernel_rfl)) ?_
                      refine pU (i:=5) (N:=some 60) #[false,true,true,true,false,true,false,false,false,false,false,false,false,false,false,false] (any_of HT_.out (by kernel_rfl)) ?_
                      refine pU (i:=6) (N:=some 61) #[false,true,true,true,false,true,true,false,false,false,false,false,false,false,false,false] (any_of HT_.out (by kernel_rfl)) ?_
                      refine pU (i:=7) (N:=some 62) #[false,true,true,true,false,true,true,true,false,false,false,false,false,false,false,false] (any_of HT_.out (by kernel_rfl)) ?_
                      refine pU (i:=11) (N:=some 66) #[false,true,true,true,false,true,true,true,false,false,false,true,false,false,false,false] (any_of HT_.out (by kernel_rfl)) ?_
                      refine pU (i:=12) (N:=some 67) #[false,true,true,true,false,true,true,true,false,false,false,true,true,false,false,false] (any_of HT_.out (by kernel_rfl)) ?_
                      refine pU (i:=13) (N:=some 68) #[false,true,true,true,false,true,true,true,false,false,false,true,true,true,false,false] (any_of HT_.out (by kernel_rfl)) ?_
                      refine tU2 (i:=8) (N:=some 63) #[false,true,true,true,false,true,true,true,true,false,false,true,true,true,false,false] (take_ofW HT_.out HW_.out (by kernel_rfl)) hHeld ?_
                      refine join_ (σ:=Value × Value × Value) 3 #[true,true,true,true,true,true,true,true,true,true,false,true,true,true,false,false] (fun s_ => [(55,s_.1),(59,s_.2.1),(64,s_.2.2)]) (fun s_ w' => (w'.cell? (ad365.add ((x6_2).toNat * 2)) = some (.int .i64 ((rd_T31 l0 x6_2).f0)) ∧ w'.cell? ⟨(ad365.add ((x6_2).toNat * 2)).block,(ad365.add ((x6_2).toNat * 2)).off + 1,none⟩ = some (.int .i64 ((rd_T31 l0 x6_2).f1))) ∧ (Kd.R k31 31 w' w.heap.size (fun k_ => some k_ ≠ (s_.2.2 : Value).ownBlock ∧ some k_ ≠ (.slice (some ad364) x5_2.length co19 : Value).ownBlock) s_.2.1 y374) ∧ (Kd.R k31 31 w' w.heap.size (fun k_ => some k_ ≠ (s_.2.1 : Value).ownBlock ∧ some k_ ≠ (.slice (some ad364) x5_2.length co19 : Value).ownBlock) s_.2.2 y378) ∧ (Kd.R k31 31 w' w.heap.size (fun k_ => some k_ ≠ (s_.2.1 : Value).ownBlock ∧ some k_ ≠ (s_.2.2 : Value).ownBlock) (.slice (some ad364) x5_2.length co19) x5_2) ∧ (Below w.heap.size w w')) ?_ ?_
                      rotate_left
                      ·intro hCont
                       refine two_ (i:=0) (j:=9) (Ni:=some 55) (Nj:=some 64) #[true,true,true,true,false,true,true,true,true,false,false,true,true,true,false,false] #[false,true,true,true,false,true,true,true,true,true,false,true,true,true,false,false] rfl rfl rfl rfl (two_of HT_.out (by kernel_rfl)) (by decide) (by decide) (fun K hK => ?_) (fun K hK => ?_)
                       ·skip
                        refine Kd.R_lit_step k31 _ 31 ?hg (N:=55) ?hd (xs:=([] : List (S31))) (inner:=[]) (ok:=fun _ => True) (okp:=fun _ => True) ?hr ?hp (fun _ hk => hk) trivial (Below.refl _ _) (Nat.le_refl _) (by simp) ?_;(case hd => rfl);(case hg => rfl);(case hr => first|(go_simp;done)|(go_simp;rfl));(case hp => exact (Reps.none _ _))
                        intro v368 w42 ho43 hb hg_ hnew_
                        clear hg_ hnew_
                        (first|rw [← Ny367.out] at ho43|(simp only [Int.reduceToNat] at ho43;rw [← Ny367.out] at ho43))
                        have n0_:=aMk (Kd.R_elder' (by (with_reducible repeat (first|apply Kd.R_alloc|apply Kd.R_drewN|apply Kd.R_drew));exact HO_5.out) (Kd.R_base ho43) hb)
                        have n1_:=aMk (Kd.R_lower (Kd.R_new' ho43 (Kd.R_lt (by (with_reducible repeat (first|apply Kd.R_alloc|apply Kd.R_drewN|apply Kd.R_drew));exact HO_5.out))) bSz)
                        have n2_:=aMk (Kd.C_below (by repeat (first|(with_reducible exact HR373.out)|(with_reducible refine Kd.C_alloc ?_ _)|(with_reducible refine Kd.C_drewN ?_ _)|(with_reducible refine Kd.C_drew ?_)|exact HR373.out)) hb)
                        have n3_:=aMk (Kd.C_below (by repeat (first|(with_reducible exact HR387.out)|(with_reducible refine Kd.C_alloc ?_ _)|(with_reducible refine Kd.C_drewN ?_ _)|(with_reducible refine Kd.C_drew ?_)|exact HR387.out)) hb)
                        have n4_:=aMk (bSt hb)
                        clear HO_5
                        clear HR373
                        clear HR387
                        clear HB
                        have HO_5:=n0_
                        have HO369:=n1_
                        have HR373:=n2_
                        have HR387:=n3_
                        have HB:=n4_
                        clear n0_ n1_ n2_ n3_ n4_
                        clear hb ho43
                        refine hK.out _ _ ⟨((HB.out.cell (wLt w _ hw377_0)).trans hw377_0),((HB.out.cell (wLt w _ hw377_1)).trans hw377_1)⟩ (fun hHeld => ?_)
                        clear hK K
                        refine norm_ (a':=?_) ?_ ?_
                        rotate_left
                        ·show Act.put _ (some 55) _ = _
                         simp only [Act.put,List.setIfInBounds_toArray,List.set_cons_zero,List.set_cons_succ,i64_w,i32_w]
                         rfl
                        refine two_ (i:=4) (j:=9) (Ni:=some 59) (Nj:=some 64) #[true,true,true,true,true,true,true,true,true,false,false,true,true,true,false,false] #[true,true,true,true,false,true,true,true,true,true,false,true,true,true,false,false] rfl rfl rfl rfl (two_of HT_.out (by kernel_rfl)) (by decide) (by decide) (fun K hK => ?_) (fun K hK => ?_)
                        ·skip
                         refine Kd.R_append_rows_step k31 (w0:=w) w.heap.size (by rfl) (.tmp 55) (.tmp 58) 47 31 (.agg #[(.int .i64 0),(.int .i64 0)]) 16 rfl Try.underlying47 info31 rfl (by decide) (by omega) v368 y367 y370 _ _ _ (fun k_ => some k_ ≠ (.slice (some ad364) x5_2.length co19 : Value).ownBlock) (fun _ => False) rfl rfl ?aO ?aR (fun _ _ h => h) (fun _ h => h.elim) ?aF ?aB ?aS ?aL ?_
                         (case aR => repeat (first|exact (by repeat (first|(with_reducible exact HR373.out)|(with_reducible refine Kd.C_alloc ?_ _)|(with_reducible refine Kd.C_drewN ?_ _)|(with_reducible refine Kd.C_drew ?_)|exact HR373.out))|(with_reducible refine Kd.C_alloc ?_ _)|(with_reducible refine Kd.C_drewN ?_ _)|(with_reducible refine Kd.C_drew ?_)))
                         (case aB => exact (by repeat first|exact HB.out|apply bwA|apply bwN|apply bw1))
                         (case aF => exact (fun k_ hk => Kd.fresh' (Kd.R_lt (by (with_reducible repeat (first|apply Kd.R_alloc|apply Kd.R_drewN|apply Kd.R_drew));exact HO_5.out)) k_ hk))
                         (case aO => exact (by (with_reducible repeat (first|apply Kd.R_alloc|apply Kd.R_drewN|apply Kd.R_drew));exact Kd.R_mono HO369.out (fun _ hk => hk.2)))
                         (case aS => exact bSz)
                         (case aL => have:=LMc32.out;omega)
                         intro v375 w44 ho hb hg hat
                         rw [← Ny374.out] at ho
                         have n0_:=aMk (Kd.R_after (ok:=(fun _ => True)) (by (with_reducible repeat (first|apply Kd.R_alloc|apply Kd.R_drewN|apply Kd.R_drew));exact HO_5.out) hg hat)
                         have n1_:=aMk (hb)
                         have n2_:=aMk ((show Kd.C k31 w44 (some ad364) y370.length y370 from by rw [Ny370.out];exact Kd.C_take (m:=(x7_3 : Int).toNat) ((Kd.R_reads' (Kd.R_after (ok:=(fun _ => True)) (by (with_reducible repeat (first|apply Kd.R_alloc|apply Kd.R_drewN|apply Kd.R_drew));exact HO_5.out) hg hat)).2.2) KL40.out))
                         have n3_:=aMk ((show Kd.C k31 w44 A41 y384.length y384 from by rw [Ny384.out,KA41.out];exact Kd.C_drop (m:=(x7_3 : Int).toNat) (c:=co19) ((Kd.R_reads' (Kd.R_after (ok:=(fun _ => True)) (by (with_reducible repeat (first|apply Kd.R_alloc|apply Kd.R_drewN|apply Kd.R_drew));exact HO_5.out) hg hat)).2.2) KL41.out ((Kd.R_reads' (Kd.R_after (ok:=(fun _ => True)) (by (with_reducible repeat (first|apply Kd.R_alloc|apply Kd.R_drewN|apply Kd.R_drew));exact HO_5.out) hg hat)).2.1)))
                         have n4_:=aMk (ho)
                         clear HO_5
                         clear HB
                         clear HR373
                         clear HR387
                         clear HO369
                         have HO_5:=n0_
                         have HB:=n1_
                         have HR373:=n2_
                         have HR387:=n3_
                         have HO376:=n4_
                         clear n0_ n1_ n2_ n3_ n4_
                         clear ho hb hg hat
                         refine hK.out _ _ ⟨((HB.out.cell (wLt w _ hw377_0)).trans hw377_0),((HB.out.cell (wLt w _ hw377_1)).trans hw377_1)⟩ (fun hHeld => ?_)
                         clear hK K
                         refine norm_ (a':=?_) ?_ ?_
                         rotate_left
                         ·show Act.put _ (some 59) _ = _
                          simp only [Act.put,List.setIfInBounds_toArray,List.set_cons_zero,List.set_cons_succ,i64_w,i32_w]
                          rfl
                         refine one_ (i:=9) (N:=some 64) #[true,true,true,true,true,true,true,true,true,true,false,true,true,true,false,false] rfl rfl (one_of HT_.out (by kernel_rfl)) (by decide) (fun K hK => ?_)
                         refine Kd.R_lit_step k31 _ 31 ?hg (N:=64) ?hd (xs:=([(⟨(rd_T31 l0 x6_2).f0,(rd_T31 l0 x6_2).f1⟩ : S31)] : List (S31))) (inner:=[.int .i64 ((rd_T31 l0 x6_2).f0),.int .i64 ((rd_T31 l0 x6_2).f1)]) (ok:=fun _ => True) (okp:=fun _ => True) ?hr ?hp (fun _ hk => hk) trivial (Below.refl _ _) (Nat.le_refl _) (by simp) ?_;(case hd => rfl);(case hg => rfl);(case hr => first|(go_simp;done)|(go_simp;rfl));(case hp => exact (Reps.c2 (show Kd.M k31 _ _ _ (⟨(rd_T31 l0 x6_2).f0,(rd_T31 l0 x6_2).f1⟩ : S31) [.int .i64 ((rd_T31 l0 x6_2).f0),.int .i64 ((rd_T31 l0 x6_2).f1)] from (k31_mkM _ _ _ (⟨(rd_T31 l0 x6_2).f0,(rd_T31 l0 x6_2).f1⟩ : S31) )) (Reps.none _ _)))
                         intro v379 w45 ho46 hb hg_ hnew_
                         clear hg_ hnew_
                         (first|rw [← Ny378.out] at ho46|(simp only [Int.reduceToNat] at ho46;rw [← Ny378.out] at ho46))
                         have n0_:=aMk (Kd.R_elder' (by (with_reducible repeat (first|apply Kd.R_alloc|apply Kd.R_drewN|apply Kd.R_drew));exact HO_5.out) (Kd.R_base ho46) hb)
                         have n1_:=aMk (Kd.R_elder' (by (with_reducible repeat (first|apply Kd.R_alloc|apply Kd.R_drewN|apply Kd.R_drew));exact HO376.out) (Kd.R_base ho46) hb)
                         have n2_:=aMk (Kd.R_lower (Kd.R_new' (Kd.R_new' ho46 (Kd.R_lt (by (with_reducible repeat (first|apply Kd.R_alloc|apply Kd.R_drewN|apply Kd.R_drew));exact HO_5.out))) (Kd.R_lt (by (with_reducible repeat (first|apply Kd.R_alloc|apply Kd.R_drewN|apply Kd.R_drew));exact HO376.out))) bSz)
                         have n3_:=aMk (Kd.C_below (by repeat (first|(with_reducible exact HR373.out)|(with_reducible refine Kd.C_alloc ?_ _)|(with_reducible refine Kd.C_drewN ?_ _)|(with_reducible refine Kd.C_drew ?_)|exact HR373.out)) hb)
                         have n4_:=aMk (Kd.C_below (by repeat (first|(with_reducible exact HR387.out)|(with_reducible refine Kd.C_alloc ?_ _)|(with_reducible refine Kd.C_drewN ?_ _)|(with_reducible refine Kd.C_drew ?_)|exact HR387.out)) hb)
                         have n5_:=aMk (bSt hb)
                         clear HO_5
                         clear HO376
                         clear HR373
                         clear HR387
                         clear HB
                         have HO_5:=n0_
                         have HO376:=n1_
                         have HO380:=n2_
                         have HR373:=n3_
                         have HR387:=n4_
                         have HB:=n5_
                         clear n0_ n1_ n2_ n3_ n4_ n5_
                         clear hb ho46
                         refine hK.out _ _ ⟨((HB.out.cell (wLt w _ hw377_0)).trans hw377_0),((HB.out.cell (wLt w _ hw377_1)).trans hw377_1)⟩ (fun hHeld => ?_)
                         clear hK K
                         refine norm_ (a':=?_) ?_ ?_
                         rotate_left
                         ·show Act.put _ (some 64) _ = _
                          simp only [Act.put,List.setIfInBounds_toArray,List.set_cons_zero,List.set_cons_succ,i64_w,i32_w]
                          rfl
                         exact norm_ (by simp only [putAll,Act.put,List.setIfInBounds_toArray,List.set_cons_zero,List.set_cons_succ]) (hCont (v368,v375,v379) _ ⟨hHeld,(by (with_reducible repeat (first|apply Kd.R_alloc|apply Kd.R_drewN|apply Kd.R_drew));exact Kd.R_mono HO376.out (fun _ hk => ⟨hk.2,hk.1⟩)),(by (with_reducible repeat (first|apply Kd.R_alloc|apply Kd.R_drewN|apply Kd.R_drew));exact Kd.R_mono HO380.out (fun _ hk => ⟨hk.2,hk.1.2⟩)),(by (with_reducible repeat (first|apply Kd.R_alloc|apply Kd.R_drewN|apply Kd.R_drew));exact Kd.R_mono HO_5.out (fun _ hk => ⟨hk.1.2,hk.2⟩)),(by repeat first|exact HB.out|apply bwA|apply bwN|apply bw1)⟩)
                        ·skip
                         refine Kd.R_lit_step k31 _ 31 ?hg (N:=64) ?hd (xs:=([(⟨(rd_T31 l0 x6_2).f0,(rd_T31 l0 x6_2).f1⟩ : S31)] : List (S31))) (inner:=[.int .i64 ((rd_T31 l0 x6_2).f0),.int .i64 ((rd_T31 l0 x6_2).f1)]) (ok:=fun _ => True) (okp:=fun _ => True) ?hr ?hp (fun _ hk => hk) trivial (Below.refl _ _) (Nat.le_refl _) (by simp) ?_;(case hd => rfl);(case hg => rfl);(case hr => first|(go_simp;done)|(go_simp;rfl));(case hp => exact (Reps.c2 (show Kd.M k31 _ _ _ (⟨(rd_T31 l0 x6_2).f0,(rd_T31 l0 x6_2).f1⟩ : S31) [.int .i64 ((rd_T31 l0 x6_2).f0),.int .i64 ((rd_T31 l0 x6_2).f1)] from (k31_mkM _ _ _ (⟨(rd_T31 l0 x6_2).f0,(rd_T31 l0 x6_2).f1⟩ : S31) )) (Reps.none _ _)))
                         intro v379 w44 ho45 hb hg_ hnew_
                         clear hg_ hnew_
                         (first|rw [← Ny378.out] at ho45|(simp only [Int.reduceToNat] at ho45;rw [← Ny378.out] at ho45))
                         have n0_:=aMk (Kd.R_elder' (by (with_reducible repeat (first|apply Kd.R_alloc|apply Kd.R_drewN|apply Kd.R_drew));exact HO_5.out) (Kd.R_base ho45) hb)
                         have n1_:=aMk (Kd.R_elder' (by (with_reducible repeat (first|apply Kd.R_alloc|apply Kd.R_drewN|apply Kd.R_drew));exact HO369.out) (Kd.R_base ho45) hb)
                         have n2_:=aMk (Kd.R_lower (Kd.R_new' (Kd.R_new' ho45 (Kd.R_lt (by (with_reducible repeat (first|apply Kd.R_alloc|apply Kd.R_drewN|apply Kd.R_drew));exact HO_5.out))) (Kd.R_lt (by (with_reducible repeat (first|apply Kd.R_alloc|apply Kd.R_drewN|apply Kd.R_drew));exact HO369.out))) bSz)
                         have n3_:=aMk (Kd.C_below (by repeat (first|(with_reducible exact HR373.out)|(with_reducible refine Kd.C_alloc ?_ _)|(with_reducible refine Kd.C_drewN ?_ _)|(with_reducible refine Kd.C_drew ?_)|exact HR373.out)) hb)
                         have n4_:=aMk (Kd.C_below (by repeat (first|(with_reducible exact HR387.out)|(with_reducible refine Kd.C_alloc ?_ _)|(with_reducible refine Kd.C_drewN ?_ _)|(with_reducible refine Kd.C_drew ?_)|exact HR387.out)) hb)
                         have n5_:=aMk (bSt hb)
                         clear HO_5
                         clear HO369
                         clear HR373
                         clear HR387
                         clear HB
                         have HO_5:=n0_
                         have HO369:=n1_
                         have HO380:=n2_
                         have HR373:=n3_
                         have HR387:=n4_
                         have HB:=n5_
                         clear n0_ n1_ n2_ n3_ n4_ n5_
                         clear hb ho45
                         refine hK.out _ _ ⟨((HB.out.cell (wLt w _ hw377_0)).trans hw377_0),((HB.out.cell (wLt w _ hw377_1)).trans hw377_1)⟩ (fun hHeld => ?_)
                         clear hK K
                         refine norm_ (a':=?_) ?_ ?_
                         rotate_left
                         ·show Act.put _ (some 64) _ = _
                          simp only [Act.put,List.setIfInBounds_toArray,List.set_cons_zero,List.set_cons_succ,i64_w,i32_w]
                          rfl
                         refine one_ (i:=4) (N:=some 59) #[true,true,true,true,true,true,true,true,true,true,false,true,true,true,false,false] rfl rfl (one_of HT_.out (by kernel_rfl)) (by decide) (fun K hK => ?_)
                         refine Kd.R_append_rows_step k31 (w0:=w) w.heap.size (by rfl) (.tmp 55) (.tmp 58) 47 31 (.agg #[(.int .i64 0),(.int .i64 0)]) 16 rfl Try.underlying47 info31 rfl (by decide) (by omega) v368 y367 y370 _ _ _ (fun k_ => some k_ ≠ (.slice (some ad364) x5_2.length co19 : Value).ownBlock ∧ some k_ ≠ (v379 : Value).ownBlock) (fun _ => False) rfl rfl ?aO ?aR (fun _ _ h => h) (fun _ h => h.elim) ?aF ?aB ?aS ?aL ?_
                         (case aR => repeat (first|exact (by repeat (first|(with_reducible exact HR373.out)|(with_reducible refine Kd.C_alloc ?_ _)|(with_reducible refine Kd.C_drewN ?_ _)|(with_reducible refine Kd.C_drew ?_)|exact HR373.out))|(with_reducible refine Kd.C_alloc ?_ _)|(with_reducible refine Kd.C_drewN ?_ _)|(with_reducible refine Kd.C_drew ?_)))
                         (case aB => exact (by repeat first|exact HB.out|apply bwA|apply bwN|apply bw1))
                         (case aF => exact (fun k_ hk => ⟨Kd.fresh' (Kd.R_lt (by (with_reducible repeat (first|apply Kd.R_alloc|apply Kd.R_drewN|apply Kd.R_drew));exact HO_5.out)) k_ hk,Kd.fresh' (Kd.R_lt (by (with_reducible repeat (first|apply Kd.R_alloc|apply Kd.R_drewN|apply Kd.R_drew));exact HO380.out)) k_ hk⟩))
                         (case aO => exact (by (with_reducible repeat (first|apply Kd.R_alloc|apply Kd.R_drewN|apply Kd.R_drew));exact Kd.R_mono HO369.out (fun _ hk => ⟨hk.1.2,hk.2⟩)))
                         (case aS => exact bSz)
                         (case aL => have:=LMc32.out;omega)
                         intro v375 w46 ho hb hg hat
                         rw [← Ny374.out] at ho
                         have n0_:=aMk (Kd.R_after (ok:=(fun k_ => some k_ ≠ (v379 : Value).ownBlock)) (by (with_reducible repeat (first|apply Kd.R_alloc|apply Kd.R_drewN|apply Kd.R_drew));exact Kd.R_mono HO_5.out (fun _ hk => ⟨hk.2,hk.1.2⟩)) hg hat)
                         have n1_:=aMk (Kd.R_after (ok:=(fun k_ => some k_ ≠ (.slice (some ad364) x5_2.length co19 : Value).ownBlock)) (by (with_reducible repeat (first|apply Kd.R_alloc|apply Kd.R_drewN|apply Kd.R_drew));exact Kd.R_mono HO380.out (fun _ hk => ⟨hk.1.2,hk.2⟩)) hg hat)
                         have n2_:=aMk (hb)
                         have n3_:=aMk ((show Kd.C k31 w46 (some ad364) y370.length y370 from by rw [Ny370.out];exact Kd.C_take (m:=(x7_3 : Int).toNat) ((Kd.R_reads' (Kd.R_after (ok:=(fun k_ => some k_ ≠ (v379 : Value).ownBlock)) (by (with_reducible repeat (first|apply Kd.R_alloc|apply Kd.R_drewN|apply Kd.R_drew));exact Kd.R_mono HO_5.out (fun _ hk => ⟨hk.2,hk.1.2⟩)) hg hat)).2.2) KL40.out))
                         have n4_:=aMk ((show Kd.C k31 w46 A41 y384.length y384 from by rw [Ny384.out,KA41.out];exact Kd.C_drop (m:=(x7_3 : Int).toNat) (c:=co19) ((Kd.R_reads' (Kd.R_after (ok:=(fun k_ => some k_ ≠ (v379 : Value).ownBlock)) (by (with_reducible repeat (first|apply Kd.R_alloc|apply Kd.R_drewN|apply Kd.R_drew));exact Kd.R_mono HO_5.out (fun _ hk => ⟨hk.2,hk.1.2⟩)) hg hat)).2.2) KL41.out ((Kd.R_reads' (Kd.R_after (ok:=(fun k_ => some k_ ≠ (v379 : Value).ownBlock)) (by (with_reducible repeat (first|apply Kd.R_alloc|apply Kd.R_drewN|apply Kd.R_drew));exact Kd.R_mono HO_5.out (fun _ hk => ⟨hk.2,hk.1.2⟩)) hg hat)).2.1)))
                         have n5_:=aMk (ho)
                         clear HO_5
                         clear HO380
                         clear HB
                         clear HR373
                         clear HR387
                         clear HO369
                         have HO_5:=n0_
                         have HO380:=n1_
                         have HB:=n2_
                         have HR373:=n3_
                         have HR387:=n4_
                         have HO376:=n5_
                         clear n0_ n1_ n2_ n3_ n4_ n5_
                         clear ho hb hg hat
                         refine hK.out _ _ ⟨((HB.out.cell (wLt w _ hw377_0)).trans hw377_0),((HB.out.cell (wLt w _ hw377_1)).trans hw377_1)⟩ (fun hHeld => ?_)
                         clear hK K
                         refine norm_ (a':=?_) ?_ ?_
                         rotate_left
                         ·show Act.put _ (some 59) _ = _
                          simp only [Act.put,List.setIfInBounds_toArray,List.set_cons_zero,List.set_cons_succ,i64_w,i32_w]
                          rfl
                         exact norm_ (by simp only [putAll,Act.put,List.setIfInBounds_toArray,List.set_cons_zero,List.set_cons_succ]) (hCont (v368,v375,v379) _ ⟨hHeld,(by (with_reducible repeat (first|apply Kd.R_alloc|apply Kd.R_drewN|apply Kd.R_drew));exact Kd.R_mono HO376.out (fun _ hk => ⟨hk.2,hk.1⟩)),(by (with_reducible repeat (first|apply Kd.R_alloc|apply Kd.R_drewN|apply Kd.R_drew));exact Kd.R_mono HO380.out (fun _ hk => ⟨hk.2,hk.1⟩)),(by (with_reducible repeat (first|apply Kd.R_alloc|apply Kd.R_drewN|apply Kd.R_drew));exact Kd.R_mono HO_5.out (fun _ hk => ⟨hk.2,hk.1⟩)),(by repeat first|exact HB.out|apply bwA|apply bwN|apply bw1)⟩)
                       ·skip
                        refine Kd.R_lit_step k31 _ 31 ?hg (N:=64) ?hd (xs:=([(⟨(rd_T31 l0 x6_2).f0,(rd_T31 l0 x6_2).f1⟩ : S31)] : List (S31))) (inner:=[.int .i64 ((rd_T31 l0 x6_2).f0),.int .i64 ((rd_T31 l0 x6_2).f1)]) (ok:=fun _ => True) (okp:=fun _ => True) ?hr ?hp (fun _ hk => hk) trivial (Below.refl _ _) (Nat.le_refl _) (by simp) ?_;(case hd => rfl);(case hg => rfl);(case hr => first|(go_simp;done)|(go_simp;rfl));(case hp => exact (Reps.c2 (show Kd.M k31 _ _ _ (⟨(rd_T31 l0 x6_2).f0,(rd_T31 l0 x6_2).f1⟩ : S31) [.int .i64 ((rd_T31 l0 x6_2).f0),.int .i64 ((rd_T31 l0 x6_2).f1)] from (k31_mkM _ _ _ (⟨(rd_T31 l0 x6_2).f0,(rd_T31 l0 x6_2).f1⟩ : S31) )) (Reps.none _ _)))
                        intro v379 w42 ho43 hb hg_ hnew_
                        clear hg_ hnew_
                        (first|rw [← Ny378.out] at ho43|(simp only [Int.reduceToNat] at ho43;rw [← Ny378.out] at ho43))
                        have n0_:=aMk (Kd.R_elder' (by (with_reducible repeat (first|apply Kd.R_alloc|apply Kd.R_drewN|apply Kd.R_drew));exact HO_5.out) (Kd.R_base ho43) hb)
                        have n1_:=aMk (Kd.R_lower (Kd.R_new' ho43 (Kd.R_lt (by (with_reducible repeat (first|apply Kd.R_alloc|apply Kd.R_drewN|apply Kd.R_drew));exact HO_5.out))) bSz)
                        have n2_:=aMk (Kd.C_below (by repeat (first|(with_reducible exact HR373.out)|(with_reducible refine Kd.C_alloc ?_ _)|(with_reducible refine Kd.C_drewN ?_ _)|(with_reducible refine Kd.C_drew ?_)|exact HR373.out)) hb)
                        have n3_:=aMk (Kd.C_below (by repeat (first|(with_reducible exact HR387.out)|(with_reducible refine Kd.C_alloc ?_ _)|(with_reducible refine Kd.C_drewN ?_ _)|(with_reducible refine Kd.C_drew ?_)|exact HR387.out)) hb)
                        have n4_:=aMk (bSt hb)
                        clear HO_5
                        clear HR373
                        clear HR387
                        clear HB
                        have HO_5:=n0_
                        have HO380:=n1_
                        have HR373:=n2_
                        have HR387:=n3_
                        have HB:=n4_
                        clear n0_ n1_ n2_ n3_ n4_
                        clear hb ho43
                        refine hK.out _ _ ⟨((HB.out.cell (wLt w _ hw377_0)).trans hw377_0),((HB.out.cell (wLt w _ hw377_1)).trans hw377_1)⟩ (fun hHeld => ?_)
                        clear hK K
                        refine norm_ (a':=?_) ?_ ?_
                        rotate_left
                        ·show Act.put _ (some 64) _ = _
                         simp only [Act.put,List.setIfInBounds_toArray,List.set_cons_zero,List.set_cons_succ,i64_w,i32_w]
                         rfl
                        refine one_ (i:=0) (N:=some 55) #[true,true,true,true,false,true,true,true,true,true,false,true,true,true,false,false] rfl rfl (one_of HT_.out (by kernel_rfl)) (by decide) (fun K hK => ?_)
                        refine Kd.R_lit_step k31 _ 31 ?hg (N:=55) ?hd (xs:=([] : List (S31))) (inner:=[]) (ok:=fun _ => True) (okp:=fun _ => True) ?hr ?hp (fun _ hk => hk) trivial (Below.refl _ _) (Nat.le_refl _) (by simp) ?_;(case hd => rfl);(case hg => rfl);(case hr => first|(go_simp;done)|(go_simp;rfl));(case hp => exact (Reps.none _ _))
                        intro v368 w44 ho45 hb hg_ hnew_
                        clear hg_ hnew_
                        (first|rw [← Ny367.out] at ho45|(simp only [Int.reduceToNat] at ho45;rw [← Ny367.out] at ho45))
                        have n0_:=aMk (Kd.R_elder' (by (with_reducible repeat (first|apply Kd.R_alloc|apply Kd.R_drewN|apply Kd.R_drew));exact HO_5.out) (Kd.R_base ho45) hb)
                        have n1_:=aMk (Kd.R_elder' (by (with_reducible repeat (first|apply Kd.R_alloc|apply Kd.R_drewN|apply Kd.R_drew));exact HO380.out) (Kd.R_base ho45) hb)
                        have n2_:=aMk (Kd.R_lower (Kd.R_new' (Kd.R_new' ho45 (Kd.R_lt (by (with_reducible repeat (first|apply Kd.R_alloc|apply Kd.R_drewN|apply Kd.R_drew));exact HO_5.out))) (Kd.R_lt (by (with_reducible repeat (first|apply Kd.R_alloc|apply Kd.R_drewN|apply Kd.R_drew));exact HO380.out))) bSz)
                        have n3_:=aMk (Kd.C_below (by repeat (first|(with_reducible exact HR373.out)|(with_reducible refine Kd.C_alloc ?_ _)|(with_reducible refine Kd.C_drewN ?_ _)|(with_reducible refine Kd.C_drew ?_)|exact HR373.out)) hb)
                        have n4_:=aMk (Kd.C_below (by repeat (first|(with_reducible exact HR387.out)|(with_reducible refine Kd.C_alloc ?_ _)|(with_reducible refine Kd.C_drewN ?_ _)|(with_reducible refine Kd.C_drew ?_)|exact HR387.out)) hb)
                        have n5_:=aMk (bSt hb)
                        clear HO_5
                        clear HO380
                        clear HR373
                        clear HR387
                        clear HB
                        have HO_5:=n0_
                        have HO380:=n1_
                        have HO369:=n2_
                        have HR373:=n3_
                        have HR387:=n4_
                        have HB:=n5_
                        clear n0_ n1_ n2_ n3_ n4_ n5_
                        clear hb ho45
                        refine hK.out _ _ ⟨((HB.out.cell (wLt w _ hw377_0)).trans hw377_0),((HB.out.cell (wLt w _ hw377_1)).trans hw377_1)⟩ (fun hHeld => ?_)
                        clear hK K
                        refine norm_ (a':=?_) ?_ ?_
                        rotate_left
                        ·show Act.put _ (some 55) _ = _
                         simp only [Act.put,List.setIfInBounds_toArray,List.set_cons_zero,List.set_cons_succ,i64_w,i32_w]
                         rfl
                        refine one_ (i:=4) (N:=some 59) #[true,true,true,true,true,true,true,true,true,true,false,true,true,true,false,false] rfl rfl (one_of HT_.out (by kernel_rfl)) (by decide) (fun K hK => ?_)
                        refine Kd.R_append_rows_step k31 (w0:=w) w.heap.size (by rfl) (.tmp 55) (.tmp 58) 47 31 (.agg #[(.int .i64 0),(.int .i64 0)]) 16 rfl Try.underlying47 info31 rfl (by decide) (by omega) v368 y367 y370 _ _ _ (fun k_ => some k_ ≠ (.slice (some ad364) x5_2.length co19 : Value).ownBlock ∧ some k_ ≠ (v379 : Value).ownBlock) (fun _ => False) rfl rfl ?aO ?aR (fun _ _ h => h) (fun _ h => h.elim) ?aF ?aB ?aS ?aL ?_
                        (case aR => repeat (first|exact (by repeat (first|(with_reducible exact HR373.out)|(with_reducible refine Kd.C_alloc ?_ _)|(with_reducible refine Kd.C_drewN ?_ _)|(with_reducible refine Kd.C_drew ?_)|exact HR373.out))|(with_reducible refine Kd.C_alloc ?_ _)|(with_reducible refine Kd.C_drewN ?_ _)|(with_reducible refine Kd.C_drew ?_)))
                        (case aB => exact (by repeat first|exact HB.out|apply bwA|apply bwN|apply bw1))
                        (case aF => exact (fun k_ hk => ⟨Kd.fresh' (Kd.R_lt (by (with_reducible repeat (first|apply Kd.R_alloc|apply Kd.R_drewN|apply Kd.R_drew));exact HO_5.out)) k_ hk,Kd.fresh' (Kd.R_lt (by (with_reducible repeat (first|apply Kd.R_alloc|apply Kd.R_drewN|apply Kd.R_drew));exact HO380.out)) k_ hk⟩))
                        (case aO => exact (by (with_reducible repeat (first|apply Kd.R_alloc|apply Kd.R_drewN|apply Kd.R_drew));exact Kd.R_mono HO369.out (fun _ hk => ⟨hk.1.2,hk.2⟩)))
                        (case aS => exact bSz)
                        (case aL => have:=LMc32.out;omega)
                        intro v375 w46 ho hb hg hat
                        rw [← Ny374.out] at ho
                        have n0_:=aMk (Kd.R_after (ok:=(fun k_ => some k_ ≠ (v379 : Value).ownBlock)) (by (with_reducible repeat (first|apply Kd.R_alloc|apply Kd.R_drewN|apply Kd.R_drew));exact Kd.R_mono HO_5.out (fun _ hk => ⟨hk.1.2,hk.2⟩)) hg hat)
                        have n1_:=aMk (Kd.R_after (ok:=(fun k_ => some k_ ≠ (.slice (some ad364) x5_2.length co19 : Value).ownBlock)) (by (with_reducible repeat (first|apply Kd.R_alloc|apply Kd.R_drewN|apply Kd.R_drew));exact Kd.R_mono HO380.out (fun _ hk => ⟨hk.1.2,hk.2⟩)) hg hat)
                        have n2_:=aMk (hb)
                        have n3_:=aMk ((show Kd.C k31 w46 (some ad364) y370.length y370 from by rw [Ny370.out];exact Kd.C_take (m:=(x7_3 : Int).toNat) ((Kd.R_reads' (Kd.R_after (ok:=(fun k_ => some k_ ≠ (v379 : Value).ownBlock)) (by (with_reducible repeat (first|apply Kd.R_alloc|apply Kd.R_drewN|apply Kd.R_drew));exact Kd.R_mono HO_5.out (fun _ hk => ⟨hk.1.2,hk.2⟩)) hg hat)).2.2) KL40.out))
                        have n4_:=aMk ((show Kd.C k31 w46 A41 y384.length y384 from by rw [Ny384.out,KA41.out];exact Kd.C_drop (m:=(x7_3 : Int).toNat) (c:=co19) ((Kd.R_reads' (Kd.R_after (ok:=(fun k_ => some k_ ≠ (v379 : Value).ownBlock)) (by (with_reducible repeat (first|apply Kd.R_alloc|apply Kd.R_drewN|apply Kd.R_drew));exact Kd.R_mono HO_5.out (fun _ hk => ⟨hk.1.2,hk.2⟩)) hg hat)).2.2) KL41.out ((Kd.R_reads' (Kd.R_after (ok:=(fun k_ => some k_ ≠ (v379 : Value).ownBlock)) (by (with_reducible repeat (first|apply Kd.R_alloc|apply Kd.R_drewN|apply Kd.R_drew));exact Kd.R_mono HO_5.out (fun _ hk => ⟨hk.1.2,hk.2⟩)) hg hat)).2.1)))
                        have n5_:=aMk (ho)
                        clear HO_5
                        clear HO380
                        clear HB
                        clear HR373
                        clear HR387
                        clear HO369
                        have HO_5:=n0_
                        have HO380:=n1_
                        have HB:=n2_
                        have HR373:=n3_
                        have HR387:=n4_
                        have HO376:=n5_
                        clear n0_ n1_ n2_ n3_ n4_ n5_
                        clear ho hb hg hat
                        refine hK.out _ _ ⟨((HB.out.cell (wLt w _ hw377_0)).trans hw377_0),((HB.out.cell (wLt w _ hw377_1)).trans hw377_1)⟩ (fun hHeld => ?_)
                        clear hK K
                        refine norm_ (a':=?_) ?_ ?_
                        rotate_left
                        ·show Act.put _ (some 59) _ = _
                         simp only [Act.put,List.setIfInBounds_toArray,List.set_cons_zero,List.set_cons_succ,i64_w,i32_w]
                         rfl
                        exact norm_ (by simp only [putAll,Act.put,List.setIfInBounds_toArray,List.set_cons_zero,List.set_cons_succ]) (hCont (v368,v375,v379) _ ⟨hHeld,(by (with_reducible repeat (first|apply Kd.R_alloc|apply Kd.R_drewN|apply Kd.R_drew));exact Kd.R_mono HO376.out (fun _ hk => ⟨hk.2,hk.1⟩)),(by (with_reducible repeat (first|apply Kd.R_alloc|apply Kd.R_drewN|apply Kd.R_drew));exact Kd.R_mono HO380.out (fun _ hk => ⟨hk.2,hk.1⟩)),(by (with_reducible repeat (first|apply Kd.R_alloc|apply Kd.R_drewN|apply Kd.R_drew));exact Kd.R_mono HO_5.out (fun _ hk => ⟨hk.2,hk.1⟩)),(by repeat first|exact HB.out|apply bwA|apply bwN|apply bw1)⟩)
                      rintro ⟨v368,v375,v379⟩ w47 ⟨hS_,h0_,h1_,h2_,h3_⟩
                      have n0_ : Aside0 (Kd.R k31 31 w47 w.heap.size (fun k_ => some k_ ≠ (v379 : Value).ownBlock ∧ some k_ ≠ (.slice (some ad364) x5_2.length co19 : Value).ownBlock) v375 y374):=⟨h0_⟩
                      have n1_ : Aside0 (Kd.R k31 31 w47 w.heap.size (fun k_ => some k_ ≠ (v375 : Value).ownBlock ∧ some k_ ≠ (.slice (some ad364) x5_2.length co19 : Value).ownBlock) v379 y378):=⟨h1_⟩
                      have n2_ : Aside0 (Kd.R k31 31 w47 w.heap.size (fun k_ => some k_ ≠ (v375 : Value).ownBlock ∧ some k_ ≠ (v379 : Value).ownBlock) (.slice (some ad364) x5_2.length co19) x5_2):=⟨h2_⟩
                      have n3_ : Aside0 (Below w.heap.size w w47):=⟨h3_⟩
                      clear HO_5
                      clear HB
                      clear h0_ h1_ h2_ h3_
                      have HO376:=n0_
                      have HO380:=n1_
                      have HO_5:=n2_
                      have HB:=n3_
                      clear n0_ n1_ n2_ n3_
                      have hHeld : w47.cell? (ad365.add ((x6_2).toNat * 2)) = some (.int .i64 ((rd_T31 l0 x6_2).f0)) ∧ w47.cell? ⟨(ad365.add ((x6_2).toNat * 2)).block,(ad365.add ((x6_2).toNat * 2)).off + 1,none⟩ = some (.int .i64 ((rd_T31 l0 x6_2).f1)):=hS_
                      obtain ⟨Ao49,co49,eo49⟩:=Kd.R_slice HO380.out
                      (first|subst eo49|(injection eo49 with f1_ f2_ f3_;have f4_:=f1_.symm;have f5_:=f3_.symm;clear f1_ f2_ f3_;subst f4_;subst f5_))
                      refine norm_ (a':=?_) ?_ ?_
                      rotate_left
                      ·simp only [putAll,Act.put,List.setIfInBounds_toArray,List.set_cons_zero,List.set_cons_succ]
                       rfl
                      refine one_ (i:=10) (N:=some 65) #[true,true,true,true,true,true,true,true,true,true,true,true,true,true,false,false] rfl rfl (one_of HT_.out (by kernel_rfl)) (by decide) (fun K hK => ?_)
                      refine Kd.R_append_rows_step k31 (w0:=w) w.heap.size (by rfl) (.tmp 59) (.tmp 64) 47 31 (.agg #[(.int .i64 0),(.int .i64 0)]) 16 rfl Try.underlying47 info31 rfl (by decide) (by omega) v375 y374 y378 _ _ _ (fun k_ => some k_ ≠ (.slice (some ad364) x5_2.length co19 : Value).ownBlock ∧ some k_ ≠ (.slice Ao49 y378.length co49 : Value).ownBlock) (fun _ => False) rfl rfl ?aO ?aR (fun _ _ h => h) (fun _ h => h.elim) ?aF ?aB ?aS ?aL ?_
                      (case aR => repeat (first|exact (Kd.R_reads' HO380.out).2.2|(with_reducible refine Kd.C_alloc ?_ _)|(with_reducible refine Kd.C_drewN ?_ _)|(with_reducible refine Kd.C_drew ?_)))
                      (case aB => exact (by repeat first|exact HB.out|apply bwA|apply bwN|apply bw1))
                      (case aF => exact (fun k_ hk => ⟨Kd.fresh' (Kd.R_lt (by (with_reducible repeat (first|apply Kd.R_alloc|apply Kd.R_drewN|apply Kd.R_drew));exact HO_5.out)) k_ hk,Kd.fresh' (Kd.R_lt (by (with_reducible repeat (first|apply Kd.R_alloc|apply Kd.R_drewN|apply Kd.R_drew));exact HO380.out)) k_ hk⟩))
                      (case aO => exact (by (with_reducible repeat (first|apply Kd.R_alloc|apply Kd.R_drewN|apply Kd.R_drew));exact Kd.R_mono HO376.out (fun _ hk => ⟨hk.2,hk.1⟩)))
                      (case aS => exact bSz)
                      (case aL => have:=LMc33.out;omega)
                      intro v382 w48 ho hb hg hat
                      rw [← Ny381.out] at ho
                      have n0_:=aMk (Kd.R_after (ok:=(fun k_ => some k_ ≠ (.slice Ao49 y378.length co49 : Value).ownBlock)) (by (with_reducible repeat (first|apply Kd.R_alloc|apply Kd.R_drewN|apply Kd.R_drew));exact Kd.R_mono HO_5.out (fun _ hk => ⟨hk.2,hk.1⟩)) hg hat)
                      have n1_:=aMk (Kd.R_after (ok:=(fun k_ => some k_ ≠ (.slice (some ad364) x5_2.length co19 : Value).ownBlock)) (by (with_reducible repeat (first|apply Kd.R_alloc|apply Kd.R_drewN|apply Kd.R_drew));exact Kd.R_mono HO380.out (fun _ hk => ⟨hk.2,hk.1⟩)) hg hat)
                      have n2_:=aMk (hb)
                      have n3_:=aMk (ho)
                      clear HO_5
                      clear HO380
                      clear HB
                      clear HO376
                      have HO_5:=n0_
                      have HO380:=n1_
                      have HB:=n2_
                      have HO383:=n3_
                      clear n0_ n1_ n2_ n3_
                      clear ho hb hg hat
                      refine hK.out _ _ ⟨((HB.out.cell (wLt w _ hw377_0)).trans hw377_0),((HB.out.cell (wLt w _ hw377_1)).trans hw377_1)⟩ (fun hHeld => ?_)
                      clear hK K
                      refine norm_ (a':=?_) ?_ ?_
                      rotate_left
                      ·show Act.put _ (some 65) _ = _
                       simp only [Act.put,List.setIfInBounds_toArray,List.set_cons_zero,List.set_cons_succ,i64_w,i32_w]
                       rfl
                      refine one_ (i:=14) (N:=some 69) #[true,true,true,true,true,true,true,true,true,true,true,true,true,true,true,false] rfl rfl (one_of HT_.out (by kernel_rfl)) (by decide) (fun K hK => ?_)
                      refine Kd.R_append_rows_step k31 (w0:=w) w.heap.size (by rfl) (.tmp 65) (.tmp 68) 47 31 (.agg #[(.int .i64 0),(.int .i64 0)]) 16 rfl Try.underlying47 info31 rfl (by decide) (by omega) v382 y381 y384 _ _ _ (fun k_ => some k_ ≠ (.slice (some ad364) x5_2.length co19 : Value).ownBlock ∧ some k_ ≠ (.slice Ao49 y378.length co49 : Value).ownBlock) (fun _ => False) rfl rfl ?aO ?aR (fun _ _ h => h) (fun _ h => h.elim) ?aF ?aB ?aS ?aL ?_
                      (case aR => exact (show Kd.C k31 _ A41 y384.length y384 from by rw [Ny384.out,KA41.out];exact Kd.C_drop (m:=(x7_3 : Int).toNat) (c:=co19) ((Kd.R_reads' HO_5.out).2.2) KL41.out ((Kd.R_reads' HO_5.out).2.1)))
                      (case aB => exact (by repeat first|exact HB.out|apply bwA|apply bwN|apply bw1))
                      (case aF => exact (fun k_ hk => ⟨Kd.fresh' (Kd.R_lt (by (with_reducible repeat (first|apply Kd.R_alloc|apply Kd.R_drewN|apply Kd.R_drew));exact HO_5.out)) k_ hk,Kd.fresh' (Kd.R_lt (by (with_reducible repeat (first|apply Kd.R_alloc|apply Kd.R_drewN|apply Kd.R_drew));exact HO380.out)) k_ hk⟩))
                      (case aO => exact (by (with_reducible repeat (first|apply Kd.R_alloc|apply Kd.R_drewN|apply Kd.R_drew));exact HO383.out))
                      (case aS => exact bSz)
                      (case aL => have:=LMc36.out;omega)
                      intro v389 w50 ho hb hg hat
                      rw [← Ny388.out] at ho
                      have n0_:=aMk (Kd.R_after (ok:=(fun k_ => some k_ ≠ (.slice Ao49 y378.length co49 : Value).ownBlock)) (by (with_reducible repeat (first|apply Kd.R_alloc|apply Kd.R_drewN|apply Kd.R_drew));exact HO_5.out) hg hat)
                      have n1_:=aMk (Kd.R_after (ok:=(fun k_ => some k_ ≠ (.slice (some ad364) x5_2.length co19 : Value).ownBlock)) (by (with_reducible repeat (first|apply Kd.R_alloc|apply Kd.R_drewN|apply Kd.R_drew));exact HO380.out) hg hat)
                      have n2_:=aMk (hb)
                      have n3_:=aMk (ho)
                      clear HO_5
                      clear HO380
                      clear HB
                      clear HO383
                      have HO_5:=n0_
                      have HO380:=n1_
                      have HB:=n2_
                      have HO390:=n3_
                      clear n0_ n1_ n2_ n3_
                      clear ho hb hg hat
                      refine hK.out _ _ ⟨((HB.out.cell (wLt w _ hw377_0)).trans hw377_0),((HB.out.cell (wLt w _ hw377_1)).trans hw377_1)⟩ (fun hHeld => ?_)
                      clear hK K
                      refine norm_ (a':=?_) ?_ ?_
                      rotate_left
                      ·show Act.put _ (some 69) _ = _
                       simp only [Act.put,List.setIfInBounds_toArray,List.set_cons_zero,List.set_cons_succ,i64_w,i32_w]
                       rfl
                      refine pU (i:=15) (N:=some 5) #[true,true,true,true,true,true,true,true,true,true,true,true,true,true,true,true] (any_of HT_.out (by kernel_rfl)) ?_
                      refine done_ (done_of HT_.out (by kernel_rfl)) ?_
                      try go_wp2
                      go_roundg k3
                      case measure => have:=HK1.out;have:=HK2.out;have:=HK3.out;omega
                      case rel => exact ⟨(y388),(wrap64 (x6_2 + 1)),(by first | rfl|(simp;done)|(simp [*];done)|(simp [ne_nil_b];done)|(simp [ne_nil_b, *];done)),H',⟨by have:=HK1.out;have:=HK2.out;have:=HK3.out;omega⟩,⟨by (with_reducible repeat (first|apply Kd.R_alloc|apply Kd.R_drewN|apply Kd.R_drew));exact Kd.R_mono HO390.out (fun _ hk => trivial)⟩,⟨by repeat (first|(with_reducible first|exact HB.out|apply bwA|apply bwN|apply bw1)|exact HB.out)⟩⟩
                     ·rw [if_neg c36] at H
                      exact absurd H (by simp)
                    ·rw [if_neg c33] at H
                     exact absurd H (by simp)
                   ·rw [if_neg c32] at H
                    exact absurd H (by simp)
                  ·rw [if_neg c31] at H
                   exact absurd H (by simp)
                 ·rw [if_neg c30] at H
                  exact absurd H (by simp)
               ·rw [if_neg c25] at H
                exact absurd H (by simp)
              ·rw [if_neg c24] at H
               exact absurd H (by simp)
             ·rw [if_neg c23] at H
              exact absurd H (by simp)
            ·rw [if_neg c22] at H
             exact absurd H (by simp)
           ·rw [if_neg c20] at H
            have c20b0 : decide (0 < x7_3) = false:=decide_eq_false c20
            clear c20
            obtain ⟨y391,hy391⟩ : ∃ y_ : List (S31),y_ = (([] : List (S31))):=⟨_,rfl⟩
            replace H : (if 0 ≤ x7_3 then (if x7_3 ≤ (x5_2.length : Int) then ((some (x5_2.take (x7_3 : Int).toNat : List (S31))).bind fun y394 => (if y391.length + y394.length < 8796093022208 then ((some (y391 ++ y394 : List (S31))).bind fun y398 => (if 0 ≤ x6_2 then (if x6_2 < (l0.length : Int) then ((some (([(⟨(rd_T31 l0 x6_2).f0,(rd_T31 l0 x6_2).f1⟩ : S31)] : List (S31)) : List (S31))).bind fun y402 => (if y398.length + y402.length < 8796093022208 then ((some (y398 ++ y402 : List (S31))).bind fun y405 => ((some (x5_2.drop (x7_3 : Int).toNat : List (S31))).bind fun y408 => (if y405.length + y408.length < 8796093022208 then (spec_SortWords.l1 k3 l0 (y405 ++ y408) (wrap64 (x6_2 + 1))) else (none)))) else (none))) else (none)) else (none))) else (none))) else (none)) else (none)) = some (r1,r2):=by first|(rw [hy391];with_reducible exact H)|(have H2_:=(Option.bind_some _ _).symm.trans H;rw [hy391];with_reducible exact H2_)|(have H2_:=(Option.bind_some _ _).symm.trans H;with_reducible exact H2_) | with_reducible exact H|(rw [hy391];exact H)|exact H
            have Ny391:=aMk hy391
            clear hy391
            by_cases c51 : 0 ≤ x7_3
            ·rw [if_pos c51] at H
             have c51b0:=eq_true c51
             have c51b1 : decide (0 ≤ x7_3) = true:=decide_eq_true c51
             clear c51
             by_cases c52 : x7_3 ≤ (x5_2.length : Int)
             ·rw [if_pos c52] at H
              have c52b0:=eq_true c52
              have c52b1 : decide (x7_3 ≤ (x5_2.length : Int)) = true:=decide_eq_true c52
              clear c52
              obtain ⟨y394,hy394⟩ : ∃ y_ : List (S31),y_ = (x5_2.take (x7_3 : Int).toNat):=⟨_,rfl⟩
              replace H : (if y391.length + y394.length < 8796093022208 then ((some (y391 ++ y394 : List (S31))).bind fun y398 => (if 0 ≤ x6_2 then (if x6_2 < (l0.length : Int) then ((some (([(⟨(rd_T31 l0 x6_2).f0,(rd_T31 l0 x6_2).f1⟩ : S31)] : List (S31)) : List (S31))).bind fun y402 => (if y398.length + y402.length < 8796093022208 then ((some (y398 ++ y402 : List (S31))).bind fun y405 => ((some (x5_2.drop (x7_3 : Int).toNat : List (S31))).bind fun y408 => (if y405.length + y408.length < 8796093022208 then (spec_SortWords.l1 k3 l0 (y405 ++ y408) (wrap64 (x6_2 + 1))) else (none)))) else (none))) else (none)) else (none))) else (none)) = some (r1,r2):=by first|(rw [hy394];with_reducible exact H)|(have H2_:=(Option.bind_some _ _).symm.trans H;rw [hy394];with_reducible exact H2_)|(have H2_:=(Option.bind_some _ _).symm.trans H;with_reducible exact H2_) | with_reducible exact H|(rw [hy394];exact H)|exact H
              have Ny394:=aMk hy394
              clear hy394
              by_cases c53 : y391.length + y394.length < 8796093022208
              ·rw [if_pos c53] at H
               have LMc53:=aMk c53
               clear c53
               obtain ⟨y398,hy398⟩ : ∃ y_ : List (S31),y_ = (y391 ++ y394):=⟨_,rfl⟩
               replace H : (if 0 ≤ x6_2 then (if x6_2 < (l0.length : Int) then ((some (([(⟨(rd_T31 l0 x6_2).f0,(rd_T31 l0 x6_2).f1⟩ : S31)] : List (S31)) : List (S31))).bind fun y402 => (if y398.length + y402.length < 8796093022208 then ((some (y398 ++ y402 : List (S31))).bind fun y405 => ((some (x5_2.drop (x7_3 : Int).toNat : List (S31))).bind fun y408 => (if y405.length + y408.length < 8796093022208 then (spec_SortWords.l1 k3 l0 (y405 ++ y408) (wrap64 (x6_2 + 1))) else (none)))) else (none))) else (none)) else (none)) = some (r1,r2):=by first|(rw [hy398];with_reducible exact H)|(have H2_:=(Option.bind_some _ _).symm.trans H;rw [hy398];with_reducible exact H2_)|(have H2_:=(Option.bind_some _ _).symm.trans H;with_reducible exact H2_) | with_reducible exact H|(rw [hy398];exact H)|exact H
               have Ny398:=aMk hy398
               clear hy398
               by_cases c54 : 0 ≤ x6_2
               ·rw [if_pos c54] at H
                have c54b0 : decide (0 ≤ x6_2) = true:=decide_eq_true c54
                clear c54
                by_cases c55 : x6_2 < (l0.length : Int)
                ·rw [if_pos c55] at H
                 have c55b0 : decide (x6_2 < (l0.length : Int)) = true:=decide_eq_true c55
                 clear c55
                 obtain ⟨y402,hy402⟩ : ∃ y_ : List (S31),y_ = (([(⟨(rd_T31 l0 x6_2).f0,(rd_T31 l0 x6_2).f1⟩ : S31)] : List (S31))):=⟨_,rfl⟩
                 replace H : (if y398.length + y402.length < 8796093022208 then ((some (y398 ++ y402 : List (S31))).bind fun y405 => ((some (x5_2.drop (x7_3 : Int).toNat : List (S31))).bind fun y408 => (if y405.length + y408.length < 8796093022208 then (spec_SortWords.l1 k3 l0 (y405 ++ y408) (wrap64 (x6_2 + 1))) else (none)))) else (none)) = some (r1,r2):=by first|(rw [hy402];with_reducible exact H)|(have H2_:=(Option.bind_some _ _).symm.trans H;rw [hy402];with_reducible exact H2_)|(have H2_:=(Option.bind_some _ _).symm.trans H;with_reducible exact H2_) | with_reducible exact H|(rw [hy402];exact H)|exact H
                 have Ny402:=aMk hy402
                 clear hy402
                 by_cases c56 : y398.length + y402.length < 8796093022208
                 ·rw [if_pos c56] at H
                  have LMc56:=aMk c56
                  clear c56
                  obtain ⟨y405,hy405⟩ : ∃ y_ : List (S31),y_ = (y398 ++ y402):=⟨_,rfl⟩
                  replace H : ((some (x5_2.drop (x7_3 : Int).toNat : List (S31))).bind fun y408 => (if y405.length + y408.length < 8796093022208 then (spec_SortWords.l1 k3 l0 (y405 ++ y408) (wrap64 (x6_2 + 1))) else (none))) = some (r1,r2):=by first|(rw [hy405];with_reducible exact H)|(have H2_:=(Option.bind_some _ _).symm.trans H;rw [hy405];with_reducible exact H2_)|(have H2_:=(Option.bind_some _ _).symm.trans H;with_reducible exact H2_) | with_reducible exact H|(rw [hy405];exact H)|exact H
                  have Ny405:=aMk hy405
                  clear hy405
                  have c57b0:=eq_true (of_decide_eq_true (by first|(with_reducible assumption) | assumption) : 0 ≤ x7_3)
                  have c58b0:=eq_true (of_decide_eq_true (by first|(with_reducible assumption) | assumption) : x7_3 ≤ (x5_2.length : Int))
                  obtain ⟨y408,hy408⟩ : ∃ y_ : List (S31),y_ = (x5_2.drop (x7_3 : Int).toNat):=⟨_,rfl⟩
                  replace H : (if y405.length + y408.length < 8796093022208 then (spec_SortWords.l1 k3 l0 (y405 ++ y408) (wrap64 (x6_2 + 1))) else (none)) = some (r1,r2):=by first|(rw [hy408];with_reducible exact H)|(have H2_:=(Option.bind_some _ _).symm.trans H;rw [hy408];with_reducible exact H2_)|(have H2_:=(Option.bind_some _ _).symm.trans H;with_reducible exact H2_) | with_reducible exact H|(rw [hy408];exact H)|exact H
                  have Ny408:=aMk hy408
                  clear hy408
                  by_cases c59 : y405.length + y408.length < 8796093022208
                  ·rw [if_pos c59] at H
                   have LMc59:=aMk c59
                   clear c59
                   obtain ⟨y412,hy412⟩ : ∃ y_ : List (S31),y_ = (y405 ++ y408):=⟨_,rfl⟩
                   replace H : (spec_SortWords.l1 k3 l0 y412 (wrap64 (x6_2 + 1))) = some (r1,r2):=by first|(rw [hy412];with_reducible exact H)|(have H2_:=(Option.bind_some _ _).symm.trans H;rw [hy412];with_reducible exact H2_)|(have H2_:=(Option.bind_some _ _).symm.trans H;with_reducible exact H2_) | with_reducible exact H|(rw [hy412];exact H)|exact H
                   have Ny412:=aMk hy412
                   clear hy412
                   have H':=aMk H
                   clear H
                   try go_wp2
                   have n0_:=aMk (Kd.R_drew HO_5.out)
                   have n1_:=aMk (bw1 HB.out)
                   clear HO_5
                   clear HB
                   have HO_5:=n0_
                   have HB:=n1_
                   clear n0_ n1_
                   refine start_ (n:=15) (S:=fun w' => True) (ds:=[]) #[false,false,false,false,false,false,false,false,false,false,false,false,false,false,false] (by kernel_rfl) rfl rfl trivial (fun hHeld => ?_);refine with_tabW spec_SortWords.tab15 spec_SortWords.bits15 (fun HT_ HW_ => ?_)
                   generalize wr.drew = w60 at HO_5 HB hHeld ⊢
                   refine pU (i:=0) (N:=some 38) #[true,false,false,false,false,false,false,false,false,false,false,false,false,false,false] (any_of HT_.out (by kernel_rfl)) ?_
                   refine pU (i:=1) (N:=some 39) #[true,true,false,false,false,false,false,false,false,false,false,false,false,false,false] (any_of HT_.out (by kernel_rfl)) ?_
                   refine pU (i:=2) (N:=some 40) #[true,true,true,false,false,false,false,false,false,false,false,false,false,false,false] (any_of HT_.out (by kernel_rfl)) ?_
                   refine pure_ (i:=3) (N:=some 41) (v:=undef) (a':=?_) #[true,true,true,true,false,false,false,false,false,false,false,false,false,false,false] rfl rfl (any_of HT_.out (by kernel_rfl)) (fun _ _ _ h => h) (Or.inr ⟨by rfl,rfl⟩) ?_ ?_
                   rotate_left
                   ·simp only [Act.put,List.setIfInBounds_toArray,List.set_cons_zero,List.set_cons_succ,i64_w,i32_w]
                    rfl
                   refine pure_ (i:=4) (N:=some 42) (v:=undef) (a':=?_) #[true,true,true,true,true,false,false,false,false,false,false,false,false,false,false] rfl rfl (any_of HT_.out (by kernel_rfl)) (fun _ _ _ h => h) (Or.inr ⟨by rfl,rfl⟩) ?_ ?_
                   rotate_left
                   ·simp only [Act.put,List.setIfInBounds_toArray,List.set_cons_zero,List.set_cons_succ,i64_w,i32_w]
                    rfl
                   refine pure_ (i:=5) (N:=some 43) (v:=undef) (a':=?_) #[true,true,true,true,true,true,false,false,false,false,false,false,false,false,false] rfl rfl (any_of HT_.out (by kernel_rfl)) (fun _ _ _ h => h) (Or.inr ⟨by rfl,rfl⟩) ?_ ?_
                   rotate_left
                   ·simp only [Act.put,List.setIfInBounds_toArray,List.set_cons_zero,List.set_cons_succ,i64_w,i32_w]
                    rfl
                   refine pure_ (i:=6) (N:=some 44) (v:=undef) (a':=?_) #[true,true,true,true,true,true,true,false,false,false,false,false,false,false,false] rfl rfl (any_of HT_.out (by kernel_rfl)) (fun _ _ _ h => h) (Or.inr ⟨by rfl,rfl⟩) ?_ ?_
                   rotate_left
                   ·simp only [Act.put,List.setIfInBounds_toArray,List.set_cons_zero,List.set_cons_succ,i64_w,i32_w]
                    rfl
                   refine pure_ (i:=7) (N:=some 45) (v:=undef) (a':=?_) #[true,true,true,true,true,true,true,true,false,false,false,false,false,false,false] rfl rfl (any_of HT_.out (by kernel_rfl)) (fun _ _ _ h => h) (Or.inr ⟨by rfl,rfl⟩) ?_ ?_
                   rotate_left
                   ·simp only [Act.put,List.setIfInBounds_toArray,List.set_cons_zero,List.set_cons_succ,i64_w,i32_w]
                    rfl
                   refine pure_ (i:=8) (N:=some 46) (v:=undef) (a':=?_) #[true,true,true,true,true,true,true,true,true,false,false,false,false,false,false] rfl rfl (any_of HT_.out (by kernel_rfl)) (fun _ _ _ h => h) (Or.inr ⟨by rfl,rfl⟩) ?_ ?_
                   rotate_left
                   ·simp only [Act.put,List.setIfInBounds_toArray,List.set_cons_zero,List.set_cons_succ,i64_w,i32_w]
                    rfl
                   refine pure_ (i:=9) (N:=some 47) (v:=undef) (a':=?_) #[true,true,true,true,true,true,true,true,true,true,false,false,false,false,false] rfl rfl (any_of HT_.out (by kernel_rfl)) (fun _ _ _ h => h) (Or.inr ⟨by rfl,rfl⟩) ?_ ?_
                   rotate_left
                   ·simp only [Act.put,List.setIfInBounds_toArray,List.set_cons_zero,List.set_cons_succ,i64_w,i32_w]
                    rfl
                   refine pure_ (i:=10) (N:=some 48) (v:=undef) (a':=?_) #[true,true,true,true,true,true,true,true,true,true,true,false,false,false,false] rfl rfl (any_of HT_.out (by kernel_rfl)) (fun _ _ _ h => h) (Or.inr ⟨by rfl,rfl⟩) ?_ ?_
                   rotate_left
                   ·simp only [Act.put,List.setIfInBounds_toArray,List.set_cons_zero,List.set_cons_succ,i64_w,i32_w]
                    rfl
                   refine pure_ (i:=11) (N:=some 49) (v:=undef) (a':=?_) #[true,true,true,true,true,true,true,true,true,true,true,true,false,false,false] rfl rfl (any_of HT_.out (by kernel_rfl)) (fun _ _ _ h => h) (Or.inr ⟨by rfl,rfl⟩) ?_ ?_
                   rotate_left
                   ·simp only [Act.put,List.setIfInBounds_toArray,List.set_cons_zero,List.set_cons_succ,i64_w,i32_w]
                    rfl
                   refine pure_ (i:=12) (N:=some 50) (v:=undef) (a':=?_) #[true,true,true,true,true,true,true,true,true,true,true,true,true,false,false] rfl rfl (any_of HT_.out (by kernel_rfl)) (fun _ _ _ h => h) (Or.inr ⟨by rfl,rfl⟩) ?_ ?_
                   rotate_left
                   ·simp only [Act.put,List.setIfInBounds_toArray,List.set_cons_zero,List.set_cons_succ,i64_w,i32_w]
                    rfl
                   refine pure_ (i:=13) (N:=some 51) (v:=undef) (a':=?_) #[true,true,true,true,true,true,true,true,true,true,true,true,true,true,false] rfl rfl (any_of HT_.out (by kernel_rfl)) (fun _ _ _ h => h) (Or.inr ⟨by rfl,rfl⟩) ?_ ?_
                   rotate_left
                   ·simp only [Act.put,List.setIfInBounds_toArray,List.set_cons_zero,List.set_cons_succ,i64_w,i32_w]
                    rfl
                   refine pU (i:=14) (N:=some 52) #[true,true,true,true,true,true,true,true,true,true,true,true,true,true,true] (any_of HT_.out (by kernel_rfl)) ?_
                   refine done_ (done_of HT_.out (by kernel_rfl)) ?_
                   try go_wp2
                   have n0_:=aMk (Kd.R_drew HO_5.out)
                   have n1_:=aMk (bw1 HB.out)
                   clear HO_5
                   clear HB
                   have HO_5:=n0_
                   have HB:=n1_
                   clear n0_ n1_
                   have q62 : (x7_3 : Int) ≤ ((x5_2.length : Int) : Int):=of_decide_eq_true (by first|(with_reducible assumption) | assumption)
                   obtain ⟨i062,hi062,_,hsz62,_⟩:=info_parts info31
                   have hroom62 : x5_2.length ≤ co19:=(Kd.R_reads' HO_5.out).2.1
                   have hC62 : Kd.C k31 _ Ao19 x5_2.length x5_2:=(Kd.R_reads' HO_5.out).2.2
                   have hcut62:=cut_to (P:=Try.prog) 47 31 .i64 Try.underlying47 hi062 Ao19 x5_2.length co19 x7_3 (of_decide_eq_true (by first|(with_reducible assumption) | assumption)) q62 hroom62
                   have hr62:=Kd.C_take (m:=(x7_3 : Int).toNat) hC62 (by omega)
                   have hy62 : y394.length = (x7_3 : Int).toNat:=(by rw [Ny394.out,List.length_take];omega)
                   rw [← Ny394.out] at hr62
                   rw [← hy62] at hcut62
                   have HR397:=aMk hr62
                   have HC397:=aMk (show y394.length ≤ co19 from by omega)
                   clear hr62 hC62 hroom62 hi062 hsz62
                   have KY62:=aMk hy62
                   clear hy62
                   have KL62:=aMk (show (x7_3 : Int).toNat ≤ x5_2.length from by omega)
                   replace q62:=eq_true q62
                   have p401 : 0 ≤ (x6_2 : Int):=of_decide_eq_true (by first|(with_reducible assumption) | assumption)
                   have q401 : x6_2 < (l0.length : Int):=of_decide_eq_true (by first|(with_reducible assumption) | assumption)
                   obtain ⟨ad401,e401,hx401_0,hx401_1⟩:=at_T31 HR0.out x6_2 p401 q401
                   have hw401_1:=hx401_1
                   have hw401_0:=hx401_0
                   cases e401
                   replace hx401_0:=bXc HB.out hx401_0
                   replace hx401_1:=bXc HB.out hx401_1
                   replace p401:=eq_true p401
                   replace q401:=eq_true q401
                   have q63 : (x7_3 : Int) ≤ ((x5_2.length : Int) : Int):=of_decide_eq_true (by first|(with_reducible assumption) | assumption)
                   obtain ⟨i063,hi063,_,hsz63,_⟩:=info_parts info31
                   have hroom63 : x5_2.length ≤ co19:=(Kd.R_reads' HO_5.out).2.1
                   have hC63 : Kd.C k31 _ Ao19 x5_2.length x5_2:=(Kd.R_reads' HO_5.out).2.2
                   have q063 : (0 : Int) ≤ (x7_3 : Int):=of_decide_eq_true (by first|(with_reducible assumption) | assumption)
                   have hcut63:=cut_from (P:=Try.prog) 47 31 .i64 Try.underlying47 hi063 2 hsz63 Ao19 x5_2.length co19 x7_3 q063 q63
                   have hr63:=Kd.C_drop (m:=(x7_3 : Int).toNat) (c:=co19) hC63 (by omega) hroom63
                   obtain ⟨A63,hA63⟩ : ∃ A1,A1 = (if co19 = (x7_3 : Int).toNat then Ao19 else (Ao19 : Option Addr).map (·.add ((x7_3 : Int).toNat * 2))):=⟨_,rfl⟩
                   obtain ⟨c63,hc63⟩ : ∃ c1,c1 = co19 - (x7_3 : Int).toNat:=⟨_,rfl⟩
                   have hy63 : y408.length = x5_2.length - (x7_3 : Int).toNat:=(by rw [Ny408.out,List.length_drop] <;> omega)
                   rw [show (x5_2).drop (x7_3 : Int).toNat = y408 from Ny408.out.symm] at hr63
                   replace hr63 : Kd.C k31 _ A63 y408.length y408:=(by rw [hA63];exact hr63)
                   rw [← hy63,← hA63,← hc63] at hcut63
                   have HR411:=aMk hr63
                   have HC411:=aMk (show y408.length ≤ c63 from by rw [hy63,hc63];exact Nat.sub_le_sub_right hroom63 _)
                   clear hr63 hC63 hroom63 hi063 hsz63 hc63
                   have KY63:=aMk hy63
                   have KA63:=aMk hA63
                   clear hy63 hA63
                   have KL63:=aMk (show (x7_3 : Int).toNat ≤ x5_2.length from by omega)
                   replace q63:=eq_true q63
                   refine start_ (n:=16) (S:=fun w' => w'.cell? (ad401.add ((x6_2).toNat * 2)) = some (.int .i64 ((rd_T31 l0 x6_2).f0)) ∧ w'.cell? ⟨(ad401.add ((x6_2).toNat * 2)).block,(ad401.add ((x6_2).toNat * 2)).off + 1,none⟩ = some (.int .i64 ((rd_T31 l0 x6_2).f1))) (ds:=[]) #[false,false,false,false,false,false,false,false,false,false,false,false,false,false,false,false] (by kernel_rfl) rfl rfl ⟨((HB.out.cell (wLt w _ hw401_0)).trans hw401_0),((HB.out.cell (wLt w _ hw401_1)).trans hw401_1)⟩ (fun hHeld => ?_);refine with_tabW spec_SortWords.tab17 spec_SortWords.bits17 (fun HT_ HW_ => ?_)
                   generalize w60.drew = w61 at HO_5 HB HR397 HR411 hx401_0 hx401_1 hHeld ⊢
                   refine pU (i:=1) (N:=some 56) #[false,true,false,false,false,false,false,false,false,false,false,false,false,false,false,false] (any_of HT_.out (by kernel_rfl)) ?_
                   refine pU (i:=2) (N:=some 57) #[false,true,true,false,false,false,false,false,false,false,false,false,false,false,false,false] (any_of HT_.out (by kernel_rfl)) ?_
                   refine pU (i:=3) (N:=some 58) #[false,true,true,true,false,false,false,false,false,false,false,false,false,false,false,false] (any_of HT_.out (by kernel_rfl)) ?_
                   refine pU (i:=5) (N:=some 60) #[false,true,true,true,false,true,false,false,false,false,false,false,false,false,false,false] (any_of HT_.out (by kernel_rfl)) ?_
                   refine pU (i:=6) (N:=some 61) #[false,true,true,true,false,true,true,false,false,false,false,false,false,false,false,false] (any_of HT_.out (by kernel_rfl)) ?_
                   refine pU (i:=7) (N:=some 62) #[false,true,true,true,false,true,true,true,false,false,false,false,false,false,false,false] (any_of HT_.out (by kernel_rfl)) ?_
                   refine pU (i:=11) (N:=some 66) #[false,true,true,true,false,true,true,true,false,false,false,true,false,false,false,false] (any_of HT_.out (by kernel_rfl)) ?_
                   refine pU (i:=12) (N:=some 67) #[false,true,true,true,false,true,true,true,false,false,false,true,true,false,false,false] (any_of HT_.out (by kernel_rfl)) ?_
                   refine pU (i:=13) (N:=some 68) #[false,true,true,true,false,true,true,true,false,false,false,true,true,true,false,false] (any_of HT_.out (by kernel_rfl)) ?_
                   refine tU2 (i:=8) (N:=some 63) #[false,true,true,true,false,true,true,true,true,false,false,true,true,true,false,false] (take_ofW HT_.out HW_.out (by kernel_rfl)) hHeld ?_
                   refine join_ (σ:=Value × Value × Value) 3 #[true,true,true,true,true,true,true,true,true,true,false,true,true,true,false,false] (fun s_ => [(55,s_.1),(59,s_.2.1),(64,s_.2.2)]) (fun s_ w' => (w'.cell? (ad401.add ((x6_2).toNat * 2)) = some (.int .i64 ((rd_T31 l0 x6_2).f0)) ∧ w'.cell? ⟨(ad401.add ((x6_2).toNat * 2)).block,(ad401.add ((x6_2).toNat * 2)).off + 1,none⟩ = some (.int .i64 ((rd_T31 l0 x6_2).f1))) ∧ (Kd.R k31 31 w' w.heap.size (fun k_ => some k_ ≠ (s_.2.2 : Value).ownBlock ∧ some k_ ≠ (.slice Ao19 x5_2.length co19 : Value).ownBlock) s_.2.1 y398) ∧ (Kd.R k31 31 w' w.heap.size (fun k_ => some k_ ≠ (s_.2.1 : Value).ownBlock ∧ some k_ ≠ (.slice Ao19 x5_2.length co19 : Value).ownBlock) s_.2.2 y402) ∧ (Kd.R k31 31 w' w.heap.size (fun k_ => some k_ ≠ (s_.2.1 : Value).ownBlock ∧ some k_ ≠ (s_.2.2 : Value).ownBlock) (.slice Ao19 x5_2.length co19) x5_2) ∧ (Below w.heap.size w w')) ?_ ?_
                   rotate_left
                   ·intro hCont
                    refine two_ (i:=0) (j:=9) (Ni:=some 55) (Nj:=some 64) #[true,true,true,true,false,true,true,true,true,false,false,true,true,true,false,false] #[false,true,true,true,false,true,true,true,true,true,false,true,true,true,false,false] rfl rfl rfl rfl (two_of HT_.out (by kernel_rfl)) (by decide) (by decide) (fun K hK => ?_) (fun K hK => ?_)
                    ·skip
                     refine Kd.R_lit_step k31 _ 31 ?hg (N:=55) ?hd (xs:=([] : List (S31))) (inner:=[]) (ok:=fun _ => True) (okp:=fun _ => True) ?hr ?hp (fun _ hk => hk) trivial (Below.refl _ _) (Nat.le_refl _) (by simp) ?_;(case hd => rfl);(case hg => rfl);(case hr => first|(go_simp;done)|(go_simp;rfl));(case hp => exact (Reps.none _ _))
                     intro v392 w64 ho65 hb hg_ hnew_
                     clear hg_ hnew_
                     (first|rw [← Ny391.out] at ho65|(simp only [Int.reduceToNat] at ho65;rw [← Ny391.out] at ho65))
                     have n0_:=aMk (Kd.R_elder' (by (with_reducible repeat (first|apply Kd.R_alloc|apply Kd.R_drewN|apply Kd.R_drew));exact HO_5.out) (Kd.R_base ho65) hb)
                     have n1_:=aMk (Kd.R_lower (Kd.R_new' ho65 (Kd.R_lt (by (with_reducible repeat (first|apply Kd.R_alloc|apply Kd.R_drewN|apply Kd.R_drew));exact HO_5.out))) bSz)
                     have n2_:=aMk (Kd.C_below (by repeat (first|(with_reducible exact HR397.out)|(with_reducible refine Kd.C_alloc ?_ _)|(with_reducible refine Kd.C_drewN ?_ _)|(with_reducible refine Kd.C_drew ?_)|exact HR397.out)) hb)
                     have n3_:=aMk (Kd.C_below (by repeat (first|(with_reducible exact HR411.out)|(with_reducible refine Kd.C_alloc ?_ _)|(with_reducible refine Kd.C_drewN ?_ _)|(with_reducible refine Kd.C_drew ?_)|exact HR411.out)) hb)
                     have n4_:=aMk (bSt hb)
                     clear HO_5
                     clear HR397
                     clear HR411
                     clear HB
                     have HO_5:=n0_
                     have HO393:=n1_
                     have HR397:=n2_
                     have HR411:=n3_
                     have HB:=n4_
                     clear n0_ n1_ n2_ n3_ n4_
                     clear hb ho65
                     refine hK.out _ _ ⟨((HB.out.cell (wLt w _ hw401_0)).trans hw401_0),((HB.out.cell (wLt w _ hw401_1)).trans hw401_1)⟩ (fun hHeld => ?_)
                     clear hK K
                     refine norm_ (a':=?_) ?_ ?_
                     rotate_left
                     ·show Act.put _ (some 55) _ = _
                      simp only [Act.put,List.setIfInBounds_toArray,List.set_cons_zero,List.set_cons_succ,i64_w,i32_w]
                      rfl
                     refine two_ (i:=4) (j:=9) (Ni:=some 59) (Nj:=some 64) #[true,true,true,true,true,true,true,true,true,false,false,true,true,true,false,false] #[true,true,true,true,false,true,true,true,true,true,false,true,true,true,false,false] rfl rfl rfl rfl (two_of HT_.out (by kernel_rfl)) (by decide) (by decide) (fun K hK => ?_) (fun K hK => ?_)
                     ·skip
                      refine Kd.R_append_rows_step k31 (w0:=w) w.heap.size (by rfl) (.tmp 55) (.tmp 58) 47 31 (.agg #[(.int .i64 0),(.int .i64 0)]) 16 rfl Try.underlying47 info31 rfl (by decide) (by omega) v392 y391 y394 _ _ _ (fun k_ => some k_ ≠ (.slice Ao19 x5_2.length co19 : Value).ownBlock) (fun _ => False) rfl rfl ?aO ?aR (fun _ _ h => h) (fun _ h => h.elim) ?aF ?aB ?aS ?aL ?_
                      (case aR => repeat (first|exact (by repeat (first|(with_reducible exact HR397.out)|(with_reducible refine Kd.C_alloc ?_ _)|(with_reducible refine Kd.C_drewN ?_ _)|(with_reducible refine Kd.C_drew ?_)|exact HR397.out))|(with_reducible refine Kd.C_alloc ?_ _)|(with_reducible refine Kd.C_drewN ?_ _)|(with_reducible refine Kd.C_drew ?_)))
                      (case aB => exact (by repeat first|exact HB.out|apply bwA|apply bwN|apply bw1))
                      (case aF => exact (fun k_ hk => Kd.fresh' (Kd.R_lt (by (with_reducible repeat (first|apply Kd.R_alloc|apply Kd.R_drewN|apply Kd.R_drew));exact HO_5.out)) k_ hk))
                      (case aO => exact (by (with_reducible repeat (first|apply Kd.R_alloc|apply Kd.R_drewN|apply Kd.R_drew));exact Kd.R_mono HO393.out (fun _ hk => hk.2)))
                      (case aS => exact bSz)
                      (case aL => have:=LMc53.out;omega)
                      intro v399 w66 ho hb hg hat
                      rw [← Ny398.out] at ho
                      have n0_:=aMk (Kd.R_after (ok:=(fun _ => True)) (by (with_reducible repeat (first|apply Kd.R_alloc|apply Kd.R_drewN|apply Kd.R_drew));exact HO_5.out) hg hat)
                      have n1_:=aMk (hb)
                      have n2_:=aMk ((show Kd.C k31 w66 Ao19 y394.length y394 from by rw [Ny394.out];exact Kd.C_take (m:=(x7_3 : Int).toNat) ((Kd.R_reads' (Kd.R_after (ok:=(fun _ => True)) (by (with_reducible repeat (first|apply Kd.R_alloc|apply Kd.R_drewN|apply Kd.R_drew));exact HO_5.out) hg hat)).2.2) KL62.out))
                      have n3_:=aMk ((show Kd.C k31 w66 A63 y408.length y408 from by rw [Ny408.out,KA63.out];exact Kd.C_drop (m:=(x7_3 : Int).toNat) (c:=co19) ((Kd.R_reads' (Kd.R_after (ok:=(fun _ => True)) (by (with_reducible repeat (first|apply Kd.R_alloc|apply Kd.R_drewN|apply Kd.R_drew));exact HO_5.out) hg hat)).2.2) KL63.out ((Kd.R_reads' (Kd.R_after (ok:=(fun _ => True)) (by (with_reducible repeat (first|apply Kd.R_alloc|apply Kd.R_drewN|apply Kd.R_drew));exact HO_5.out) hg hat)).2.1)))
                      have n4_:=aMk (ho)
                      clear HO_5
                      clear HB
                      clear HR397
                      clear HR411
                      clear HO393
                      have HO_5:=n0_
                      have HB:=n1_
                      have HR397:=n2_
                      have HR411:=n3_
                      have HO400:=n4_
                      clear n0_ n1_ n2_ n3_ n4_
                      clear ho hb hg hat
                      refine hK.out _ _ ⟨((HB.out.cell (wLt w _ hw401_0)).trans hw401_0),((HB.out.cell (wLt w _ hw401_1)).trans hw401_1)⟩ (fun hHeld => ?_)
                      clear hK K
                      refine norm_ (a':=?_) ?_ ?_
                      rotate_left
                      ·show Act.put _ (some 59) _ = _
                       simp only [Act.put,List.setIfInBounds_toArray,List.set_cons_zero,List.set_cons_succ,i64_w,i32_w]
                       rfl
                      refine one_ (i:=9) (N:=some 64) #[true,true,true,true,true,true,true,true,true,true,false,true,true,true,false,false] rfl rfl (one_of HT_.out (by kernel_rfl)) (by decide) (fun K hK => ?_)
                      refine Kd.R_lit_step k31 _ 31 ?hg (N:=64) ?hd (xs:=([(⟨(rd_T31 l0 x6_2).f0,(rd_T31 l0 x6_2).f1⟩ : S31)] : List (S31))) (inner:=[.int .i64 ((rd_T31 l0 x6_2).f0),.int .i64 ((rd_T31 l0 x6_2).f1)]) (ok:=fun _ => True) (okp:=fun _ => True) ?hr ?hp (fun _ hk => hk) trivial (Below.refl _ _) (Nat.le_refl _) (by simp) ?_;(case hd => rfl);(case hg => rfl);(case hr => first|(go_simp;done)|(go_simp;rfl));(case hp => exact (Reps.c2 (show Kd.M k31 _ _ _ (⟨(rd_T31 l0 x6_2).f0,(rd_T31 l0 x6_2).f1⟩ : S31) [.int .i64 ((rd_T31 l0 x6_2).f0),.int .i64 ((rd_T31 l0 x6_2).f1)] from (k31_mkM _ _ _ (⟨(rd_T31 l0 x6_2).f0,(rd_T31 l0 x6_2).f1⟩ : S31) )) (Reps.none _ _)))
                      intro v403 w67 ho68 hb hg_ hnew_
                      clear hg_ hnew_
                      (first|rw [← Ny402.out] at ho68|(simp only [Int.reduceToNat] at ho68;rw [← Ny402.out] at ho68))
                      have n0_:=aMk (Kd.R_elder' (by (with_reducible repeat (first|apply Kd.R_alloc|apply Kd.R_drewN|apply Kd.R_drew));exact HO_5.out) (Kd.R_base ho68) hb)
                      have n1_:=aMk (Kd.R_elder' (by (with_reducible repeat (first|apply Kd.R_alloc|apply Kd.R_drewN|apply Kd.R_drew));exact HO400.out) (Kd.R_base ho68) hb)
                      have n2_:=aMk (Kd.R_lower (Kd.R_new' (Kd.R_new' ho68 (Kd.R_lt (by (with_reducible repeat (first|apply Kd.R_alloc|apply Kd.R_drewN|apply Kd.R_drew));exact HO_5.out))) (Kd.R_lt (by (with_reducible repeat (first|apply Kd.R_alloc|apply Kd.R_drewN|apply Kd.R_drew));exact HO400.out))) bSz)
                      have n3_:=aMk (Kd.C_below (by repeat (first|(with_reducible exact HR397.out)|(with_reducible refine Kd.C_alloc ?_ _)|(with_reducible refine Kd.C_drewN ?_ _)|(with_reducible refine Kd.C_drew ?_)|exact HR397.out)) hb)
                      have n4_:=aMk (Kd.C_below (by repeat (first|(with_reducible exact HR411.out)|(with_reducible refine Kd.C_alloc ?_ _)|(with_reducible refine Kd.C_drewN ?_ _)|(with_reducible refine Kd.C_drew ?_)|exact HR411.out)) hb)
                      have n5_:=aMk (bSt hb)
                      clear HO_5
                      clear HO400
                      clear HR397
                      clear HR411
                      clear HB
                      have HO_5:=n0_
                      have HO400:=n1_
                      have HO404:=n2_
                      have HR397:=n3_
                      have HR411:=n4_
                      have HB:=n5_
                      clear n0_ n1_ n2_ n3_ n4_ n5_
                      clear hb ho68
                      refine hK.out _ _ ⟨((HB.out.cell (wLt w _ hw401_0)).trans hw401_0),((HB.out.cell (wLt w _ hw401_1)).trans hw401_1)⟩ (fun hHeld => ?_)
                      clear hK K
                      refine norm_ (a':=?_) ?_ ?_
                      rotate_left
                      ·show Act.put _ (some 64) _ = _
                       simp only [Act.put,List.setIfInBounds_toArray,List.set_cons_zero,List.set_cons_succ,i64_w,i32_w]
                       rfl
                      exact norm_ (by simp only [putAll,Act.put,List.setIfInBounds_toArray,List.set_cons_zero,List.set_cons_succ]) (hCont (v392,v399,v403) _ ⟨hHeld,(by (with_reducible repeat (first|apply Kd.R_alloc|apply Kd.R_drewN|apply Kd.R_drew));exact Kd.R_mono HO400.out (fun _ hk => ⟨hk.2,hk.1⟩)),(by (with_reducible repeat (first|apply Kd.R_alloc|apply Kd.R_drewN|apply Kd.R_drew));exact Kd.R_mono HO404.out (fun _ hk => ⟨hk.2,hk.1.2⟩)),(by (with_reducible repeat (first|apply Kd.R_alloc|apply Kd.R_drewN|apply Kd.R_drew));exact Kd.R_mono HO_5.out (fun _ hk => ⟨hk.1.2,hk.2⟩)),(by repeat first|exact HB.out|apply bwA|apply bwN|apply bw1)⟩)
                     ·skip
                      refine Kd.R_lit_step k31 _ 31 ?hg (N:=64) ?hd (xs:=([(⟨(rd_T31 l0 x6_2).f0,(rd_T31 l0 x6_2).f1⟩ : S31)] : List (S31))) (inner:=[.int .i64 ((rd_T31 l0 x6_2).f0),.int .i64 ((rd_T31 l0 x6_2).f1)]) (ok:=fun _ => True) (okp:=fun _ => True) ?hr ?hp (fun _ hk => hk) trivial (Below.refl _ _) (Nat.le_refl _) (by simp) ?_;(case hd => rfl);(case hg => rfl);(case hr => first|(go_simp;done)|(go_simp;rfl));(case hp => exact (Reps.c2 (show Kd.M k31 _ _ _ (⟨(rd_T31 l0 x6_2).f0,(rd_T31 l0 x6_2).f1⟩ : S31) [.int .i64 ((rd_T31 l0 x6_2).f0),.int .i64 ((rd_T31 l0 x6_2).f1)] from (k31_mkM _ _ _ (⟨(rd_T31 l0 x6_2).f0,(rd_T31 l0 x6_2).f1⟩ : S31) )) (Reps.none _ _)))
                      intro v403 w66 ho67 hb hg_ hnew_
                      clear hg_ hnew_
                      (first|rw [← Ny402.out] at ho67|(simp only [Int.reduceToNat] at ho67;rw [← Ny402.out] at ho67))
                      have n0_:=aMk (Kd.R_elder' (by (with_reducible repeat (first|apply Kd.R_alloc|apply Kd.R_drewN|apply Kd.R_drew));exact HO_5.out) (Kd.R_base ho67) hb)
                      have n1_:=aMk (Kd.R_elder' (by (with_reducible repeat (first|apply Kd.R_alloc|apply Kd.R_drewN|apply Kd.R_drew));exact HO393.out) (Kd.R_base ho67) hb)
                      have n2_:=aMk (Kd.R_lower (Kd.R_new' (Kd.R_new' ho67 (Kd.R_lt (by (with_reducible repeat (first|apply Kd.R_alloc|apply Kd.R_drewN|apply Kd.R_drew));exact HO_5.out))) (Kd.R_lt (by (with_reducible repeat (first|apply Kd.R_alloc|apply Kd.R_drewN|apply Kd.R_drew));exact HO393.out))) bSz)
                      have n3_:=aMk (Kd.C_below (by repeat (first|(with_reducible exact HR397.out)|(with_reducible refine Kd.C_alloc ?_ _)|(with_reducible refine Kd.C_drewN ?_ _)|(with_reducible refine Kd.C_drew ?_)|exact HR397.out)) hb)
                      have n4_:=aMk (Kd.C_below (by repeat (first|(with_reducible exact HR411.out)|(with_reducible refine Kd.C_alloc ?_ _)|(with_reducible refine Kd.C_drewN ?_ _)|(with_reducible refine Kd.C_drew ?_)|exact HR411.out)) hb)
                      have n5_:=aMk (bSt hb)
                      clear HO_5
                      clear HO393
                      clear HR397
                      clear HR411
                      clear HB
                      have HO_5:=n0_
                      have HO393:=n1_
                      have HO404:=n2_
                      have HR397:=n3_
                      have HR411:=n4_
                      have HB:=n5_
                      clear n0_ n1_ n2_ n3_ n4_ n5_
                      clear hb ho67
                      refine hK.out _ _ ⟨((HB.out.cell (wLt w _ hw401_0)).trans hw401_0),((HB.out.cell (wLt w _ hw401_1)).trans hw401_1)⟩ (fun hHeld => ?_)
                      clear hK K
                      refine norm_ (a':=?_) ?_ ?_
                      rotate_left
                      ·show Act.put _ (some 64) _ = _
                       simp only [Act.put,List.setIfInBounds_toArray,List.set_cons_zero,List.set_cons_succ,i64_w,i32_w]
                       rfl
                      refine one_ (i:=4) (N:=some 59) #[true,true,true,true,true,true,true,true,true,true,false,true,true,true,false,false] rfl rfl (one_of HT_.out (by kernel_rfl)) (by decide) (fun K hK => ?_)
                      refine Kd.R_append_rows_step k31 (w0:=w) w.heap.size (by rfl) (.tmp 55) (.tmp 58) 47 31 (.agg #[(.int .i64 0),(.int .i64 0)]) 16 rfl Try.underlying47 info31 rfl (by decide) (by omega) v392 y391 y394 _ _ _ (fun k_ => some k_ ≠ (.slice Ao19 x5_2.length co19 : Value).ownBlock ∧ some k_ ≠ (v403 : Value).ownBlock) (fun _ => False) rfl rfl ?aO ?aR (fun _ _ h => h) (fun _ h => h.elim) ?aF ?aB ?aS ?aL ?_
                      (case aR => repeat (first|exact (by repeat (first|(with_reducible exact HR397.out)|(with_reducible refine Kd.C_alloc ?_ _)|(with_reducible refine Kd.C_drewN ?_ _)|(with_reducible refine Kd.C_drew ?_)|exact HR397.out))|(with_reducible refine Kd.C_alloc ?_ _)|(with_reducible refine Kd.C_drewN ?_ _)|(with_reducible refine Kd.C_drew ?_)))
                      (case aB => exact (by repeat first|exact HB.out|apply bwA|apply bwN|apply bw1))
                      (case aF => exact (fun k_ hk => ⟨Kd.fresh' (Kd.R_lt (by (with_reducible repeat (first|apply Kd.R_alloc|apply Kd.R_drewN|apply Kd.R_drew));exact HO_5.out)) k_ hk,Kd.fresh' (Kd.R_lt (by (with_reducible repeat (first|apply Kd.R_alloc|apply Kd.R_drewN|apply Kd.R_drew));exact HO404.out)) k_ hk⟩))
                      (case aO => exact (by (with_reducible repeat (first|apply Kd.R_alloc|apply Kd.R_drewN|apply Kd.R_drew));exact Kd.R_mono HO393.out (fun _ hk => ⟨hk.1.2,hk.2⟩)))
                      (case aS => exact bSz)
                      (case aL => have:=LMc53.out;omega)
                      intro v399 w68 ho hb hg hat
                      rw [← Ny398.out] at ho
                      have n0_:=aMk (Kd.R_after (ok:=(fun k_ => some k_ ≠ (v403 : Value).ownBlock)) (by (with_reducible repeat (first|apply Kd.R_alloc|apply Kd.R_drewN|apply Kd.R_drew));exact Kd.R_mono HO_5.out (fun _ hk => ⟨hk.2,hk.1.2⟩)) hg hat)
                      have n1_:=aMk (Kd.R_after (ok:=(fun k_ => some k_ ≠ (.slice Ao19 x5_2.length co19 : Value).ownBlock)) (by (with_reducible repeat (first|apply Kd.R_alloc|apply Kd.R_drewN|apply Kd.R_drew));exact Kd.R_mono HO404.out (fun _ hk => ⟨hk.1.2,hk.2⟩)) hg hat)
                      have n2_:=aMk (hb)
                      have n3_:=aMk ((show Kd.C k31 w68 Ao19 y394.length y394 from by rw [Ny394.out];exact Kd.C_take (m:=(x7_3 : Int).toNat) ((Kd.R_reads' (Kd.R_after (ok:=(fun k_ => some k_ ≠ (v403 : Value).ownBlock)) (by (with_reducible repeat (first|apply Kd.R_alloc|apply Kd.R_drewN|apply Kd.R_drew));exact Kd.R_mono HO_5.out (fun _ hk => ⟨hk.2,hk.1.2⟩)) hg hat)).2.2) KL62.out))
                      have n4_:=aMk ((show Kd.C k31 w68 A63 y408.length y408 from by rw [Ny408.out,KA63.out];exact Kd.C_drop (m:=(x7_3 : Int).toNat) (c:=co19) ((Kd.R_reads' (Kd.R_after (ok:=(fun k_ => some k_ ≠ (v403 : Value).ownBlock)) (by (with_reducible repeat (first|apply Kd.R_alloc|apply Kd.R_drewN|apply Kd.R_drew));exact Kd.R_mono HO_5.out (fun _ hk => ⟨hk.2,hk.1.2⟩)) hg hat)).2.2) KL63.out ((Kd.R_reads' (Kd.R_after (ok:=(fun k_ => some k_ ≠ (v403 : Value).ownBlock)) (by (with_reducible repeat (first|apply Kd.R_alloc|apply Kd.R_drewN|apply Kd.R_drew));exact Kd.R_mono HO_5.out (fun _ hk => ⟨hk.2,hk.1.2⟩)) hg hat)).2.1)))
                      have n5_:=aMk (ho)
                      clear HO_5
                      clear HO404
                      clear HB
                      clear HR397
                      clear HR411
                      clear HO393
                      have HO_5:=n0_
                      have HO404:=n1_
                      have HB:=n2_
                      have HR397:=n3_
                      have HR411:=n4_
                      have HO400:=n5_
                      clear n0_ n1_ n2_ n3_ n4_ n5_
                      clear ho hb hg hat
                      refine hK.out _ _ ⟨((HB.out.cell (wLt w _ hw401_0)).trans hw401_0),((HB.out.cell (wLt w _ hw401_1)).trans hw401_1)⟩ (fun hHeld => ?_)
                      clear hK K
                      refine norm_ (a':=?_) ?_ ?_
                      rotate_left
                      ·show Act.put _ (some 59) _ = _
                       simp only [Act.put,List.setIfInBounds_toArray,List.set_cons_zero,List.set_cons_succ,i64_w,i32_w]
                       rfl
                      exact norm_ (by simp only [putAll,Act.put,List.setIfInBounds_toArray,List.set_cons_zero,List.set_cons_succ]) (hCont (v392,v399,v403) _ ⟨hHeld,(by (with_reducible repeat (first|apply Kd.R_alloc|apply Kd.R_drewN|apply Kd.R_drew));exact Kd.R_mono HO400.out (fun _ hk => ⟨hk.2,hk.1⟩)),(by (with_reducible repeat (first|apply Kd.R_alloc|apply Kd.R_drewN|apply Kd.R_drew));exact Kd.R_mono HO404.out (fun _ hk => ⟨hk.2,hk.1⟩)),(by (with_reducible repeat (first|apply Kd.R_alloc|apply Kd.R_drewN|apply Kd.R_drew));exact Kd.R_mono HO_5.out (fun _ hk => ⟨hk.2,hk.1⟩)),(by repeat first|exact HB.out|apply bwA|apply bwN|apply bw1)⟩)
                    ·skip
                     refine Kd.R_lit_step k31 _ 31 ?hg (N:=64) ?hd (xs:=([(⟨(rd_T31 l0 x6_2).f0,(rd_T31 l0 x6_2).f1⟩ : S31)] : List (S31))) (inner:=[.int .i64 ((rd_T31 l0 x6_2).f0),.int .i64 ((rd_T31 l0 x6_2).f1)]) (ok:=fun _ => True) (okp:=fun _ => True) ?hr ?hp (fun _ hk => hk) trivial (Below.refl _ _) (Nat.le_refl _) (by simp) ?_;(case hd => rfl);(case hg => rfl);(case hr => first|(go_simp;done)|(go_simp;rfl));(case hp => exact (Reps.c2 (show Kd.M k31 _ _ _ (⟨(rd_T31 l0 x6_2).f0,(rd_T31 l0 x6_2).f1⟩ : S31) [.int .i64 ((rd_T31 l0 x6_2).f0),.int .i64 ((rd_T31 l0 x6_2).f1)] from (k31_mkM _ _ _ (⟨(rd_T31 l0 x6_2).f0,(rd_T31 l0 x6_2).f1⟩ : S31) )) (Reps.none _ _)))
                     intro v403 w64 ho65 hb hg_ hnew_
                     clear hg_ hnew_
                     (first|rw [← Ny402.out] at ho65|(simp only [Int.reduceToNat] at ho65;rw [← Ny402.out] at ho65))
                     have n0_:=aMk (Kd.R_elder' (by (with_reducible repeat (first|apply Kd.R_alloc|apply Kd.R_drewN|apply Kd.R_drew));exact HO_5.out) (Kd.R_base ho65) hb)
                     have n1_:=aMk (Kd.R_lower (Kd.R_new' ho65 (Kd.R_lt (by (with_reducible repeat (first|apply Kd.R_alloc|apply Kd.R_drewN|apply Kd.R_drew));exact HO_5.out))) bSz)
                     have n2_:=aMk (Kd.C_below (by repeat (first|(with_reducible exact HR397.out)|(with_reducible refine Kd.C_alloc ?_ _)|(with_reducible refine Kd.C_drewN ?_ _)|(with_reducible refine Kd.C_drew ?_)|exact HR397.out)) hb)
                     have n3_:=aMk (Kd.C_below (by repeat (first|(with_reducible exact HR411.out)|(with_reducible refine Kd.C_alloc ?_ _)|(with_reducible refine Kd.C_drewN ?_ _)|(with_reducible refine Kd.C_drew ?_)|exact HR411.out)) hb)
                     have n4_:=aMk (bSt hb)
                     clear HO_5
                     clear HR397
                     clear HR411
                     clear HB
                     have HO_5:=n0_
                     have HO404:=n1_
                     have HR397:=n2_
                     have HR411:=n3_
                     have HB:=n4_
                     clear n0_ n1_ n2_ n3_ n4_
                     clear hb ho65
                     refine hK.out _ _ ⟨((HB.out.cell (wLt w _ hw401_0)).trans hw401_0),((HB.out.cell (wLt w _ hw401_1)).trans hw401_1)⟩ (fun hHeld => ?_)
                     clear hK K
                     refine norm_ (a':=?_) ?_ ?_
                     rotate_left
                     ·show Act.put _ (some 64) _ = _
                      simp only [Act.put,List.setIfInBounds_toArray,List.set_cons_zero,List.set_cons_succ,i64_w,i32_w]
                      rfl
                     refine one_ (i:=0) (N:=some 55) #[true,true,true,true,false,true,true,true,true,true,false,true,true,true,false,false] rfl rfl (one_of HT_.out (by kernel_rfl)) (by decide) (fun K hK => ?_)
                     refine Kd.R_lit_step k31 _ 31 ?hg (N:=55) ?hd (xs:=([] : List (S31))) (inner:=[]) (ok:=fun _ => True) (okp:=fun _ => True) ?hr ?hp (fun _ hk => hk) trivial (Below.refl _ _) (Nat.le_refl _) (by simp) ?_;(case hd => rfl);(case hg => rfl);(case hr => first|(go_simp;done)|(go_simp;rfl));(case hp => exact (Reps.none _ _))
                     intro v392 w66 ho67 hb hg_ hnew_
                     clear hg_ hnew_
                     (first|rw [← Ny391.out] at ho67|(simp only [Int.reduceToNat] at ho67;rw [← Ny391.out] at ho67))
                     have n0_:=aMk (Kd.R_elder' (by (with_reducible repeat (first|apply Kd.R_alloc|apply Kd.R_drewN|apply Kd.R_drew));exact HO_5.out) (Kd.R_base ho67) hb)
                     have n1_:=aMk (Kd.R_elder' (by (with_reducible repeat (first|apply Kd.R_alloc|apply Kd.R_drewN|apply Kd.R_drew));exact HO404.out) (Kd.R_base ho67) hb)
                     have n2_:=aMk (Kd.R_lower (Kd.R_new' (Kd.R_new' ho67 (Kd.R_lt (by (with_reducible repeat (first|apply Kd.R_alloc|apply Kd.R_drewN|apply Kd.R_drew));exact HO_5.out))) (Kd.R_lt (by (with_reducible repeat (first|apply Kd.R_alloc|apply Kd.R_drewN|apply Kd.R_drew));exact HO404.out))) bSz)
                     have n3_:=aMk (Kd.C_below (by repeat (first|(with_reducible exact HR397.out)|(with_reducible refine Kd.C_alloc ?_ _)|(with_reducible refine Kd.C_drewN ?_ _)|(with_reducible refine Kd.C_drew ?_)|exact HR397.out)) hb)
                     have n4_:=aMk (Kd.C_below (by repeat (first|(with_reducible exact HR411.out)|(with_reducible refine Kd.C_alloc ?_ _)|(with_reducible refine Kd.C_drewN ?_ _)|(with_reducible refine Kd.C_drew ?_)|exact HR411.out)) hb)
                     have n5_:=aMk (bSt hb)
                     clear HO_5
                     clear HO404
                     clear HR397
                     clear HR411
                     clear HB
                     have HO_5:=n0_
                     have HO404:=n1_
                     have HO393:=n2_
                     have HR397:=n3_
                     have HR411:=n4_
                     have HB:=n5_
                     clear n0_ n1_ n2_ n3_ n4_ n5_
                     clear hb ho67
                     refine hK.out _ _ ⟨((HB.out.cell (wLt w _ hw401_0)).trans hw401_0),((HB.out.cell (wLt w _ hw401_1)).trans hw401_1)⟩ (fun hHeld => ?_)
                     clear hK K
                     refine norm_ (a':=?_) ?_ ?_
                     rotate_left
                     ·show Act.put _ (some 55) _ = _
                      simp only [Act.put,List.setIfInBounds_toArray,List.set_cons_zero,List.set_cons_succ,i64_w,i32_w]
                      rfl
                     refine one_ (i:=4) (N:=some 59) #[true,true,true,true,true,true,true,true,true,true,false,true,true,true,false,false] rfl rfl (one_of HT_.out (by kernel_rfl)) (by decide) (fun K hK => ?_)
                     refine Kd.R_append_rows_step k31 (w0:=w) w.heap.size (by rfl) (.tmp 55) (.tmp 58) 47 31 (.agg #[(.int .i64 0),(.int .i64 0)]) 16 rfl Try.underlying47 info31 rfl (by decide) (by omega) v392 y391 y394 _ _ _ (fun k_ => some k_ ≠ (.slice Ao19 x5_2.length co19 : Value).ownBlock ∧ some k_ ≠ (v403 : Value).ownBlock) (fun _ => False) rfl rfl ?aO ?aR (fun _ _ h => h) (fun _ h => h.elim) ?aF ?aB ?aS ?aL ?_
                     (case aR => repeat (first|exact (by repeat (first|(with_reducible exact HR397.out)|(with_reducible refine Kd.C_alloc ?_ _)|(with_reducible refine Kd.C_drewN ?_ _)|(with_reducible refine Kd.C_drew ?_)|exact HR397.out))|(with_reducible refine Kd.C_alloc ?_ _)|(with_reducible refine Kd.C_drewN ?_ _)|(with_reducible refine Kd.C_drew ?_)))
                     (case aB => exact (by repeat first|exact HB.out|apply bwA|apply bwN|apply bw1))
                     (case aF => exact (fun k_ hk => ⟨Kd.fresh' (Kd.R_lt (by (with_reducible repeat (first|apply Kd.R_alloc|apply Kd.R_drewN|apply Kd.R_drew));exact HO_5.out)) k_ hk,Kd.fresh' (Kd.R_lt (by (with_reducible repeat (first|apply Kd.R_alloc|apply Kd.R_drewN|apply Kd.R_drew));exact HO404.out)) k_ hk⟩))
                     (case aO => exact (by (with_reducible repeat (first|apply Kd.R_alloc|apply Kd.R_drewN|apply Kd.R_drew));exact Kd.R_mono HO393.out (fun _ hk => ⟨hk.1.2,hk.2⟩)))
                     (case aS => exact bSz)
                     (case aL => have:=LMc53.out;omega)
                     intro v399 w68 ho hb hg hat
                     rw [← Ny398.out] at ho
                     have n0_:=aMk (Kd.R_after (ok:=(fun k_ => some k_ ≠ (v403 : Value).ownBlock)) (by (with_reducible repeat (first|apply Kd.R_alloc|apply Kd.R_drewN|apply Kd.R_drew));exact Kd.R_mono HO_5.out (fun _ hk => ⟨hk.1.2,hk.2⟩)) hg hat)
                     have n1_:=aMk (Kd.R_after (ok:=(fun k_ => some k_ ≠ (.slice Ao19 x5_2.length co19 : Value).ownBlock)) (by (with_reducible repeat (first|apply Kd.R_alloc|apply Kd.R_drewN|apply Kd.R_drew));exact Kd.R_mono HO404.out (fun _ hk => ⟨hk.1.2,hk.2⟩)) hg hat)
                     have n2_:=aMk (hb)
                     have n3_:=aMk ((show Kd.C k31 w68 Ao19 y394.length y394 from by rw [Ny394.out];exact Kd.C_take (m:=(x7_3 : Int).toNat) ((Kd.R_reads' (Kd.R_after (ok:=(fun k_ => some k_ ≠ (v403 : Value).ownBlock)) (by (with_reducible repeat (first|apply Kd.R_alloc|apply Kd.R_drewN|apply Kd.R_drew));exact Kd.R_mono HO_5.out (fun _ hk => ⟨hk.1.2,hk.2⟩)) hg hat)).2.2) KL62.out))
                     have n4_:=aMk ((show Kd.C k31 w68 A63 y408.length y408 from by rw [Ny408.out,KA63.out];exact Kd.C_drop (m:=(x7_3 : Int).toNat) (c:=co19) ((Kd.R_reads' (Kd.R_after (ok:=(fun k_ => some k_ ≠ (v403 : Value).ownBlock)) (by (with_reducible repeat (first|apply Kd.R_alloc|apply Kd.R_drewN|apply Kd.R_drew));exact Kd.R_mono HO_5.out (fun _ hk => ⟨hk.1.2,hk.2⟩)) hg hat)).2.2) KL63.out ((Kd.R_reads' (Kd.R_after (ok:=(fun k_ => some k_ ≠ (v403 : Value).ownBlock)) (by (with_reducible repeat (first|apply Kd.R_alloc|apply Kd.R_drewN|apply Kd.R_drew));exact Kd.R_mono HO_5.out (fun _ hk => ⟨hk.1.2,hk.2⟩)) hg hat)).2.1)))
                     have n5_:=aMk (ho)
                     clear HO_5
                     clear HO404
                     clear HB
                     clear HR397
                     clear HR411
                     clear HO393
                     have HO_5:=n0_
                     have HO404:=n1_
                     have HB:=n2_
                     have HR397:=n3_
                     have HR411:=n4_
                     have HO400:=n5_
                     clear n0_ n1_ n2_ n3_ n4_ n5_
                     clear ho hb hg hat
                     refine hK.out _ _ ⟨((HB.out.cell (wLt w _ hw401_0)).trans hw401_0),((HB.out.cell (wLt w _ hw401_1)).trans hw401_1)⟩ (fun hHeld => ?_)
                     clear hK K
                     refine norm_ (a':=?_) ?_ ?_
                     rotate_left
                     ·show Act.put _ (some 59) _ = _
                      simp only [Act.put,List.setIfInBounds_toArray,List.set_cons_zero,List.set_cons_succ,i64_w,i32_w]
                      rfl
                     exact norm_ (by simp only [putAll,Act.put,List.setIfInBounds_toArray,List.set_cons_zero,List.set_cons_succ]) (hCont (v392,v399,v403) _ ⟨hHeld,(by (with_reducible repeat (first|apply Kd.R_alloc|apply Kd.R_drewN|apply Kd.R_drew));exact Kd.R_mono HO400.out (fun _ hk => ⟨hk.2,hk.1⟩)),(by (with_reducible repeat (first|apply Kd.R_alloc|apply Kd.R_drewN|apply Kd.R_drew));exact Kd.R_mono HO404.out (fun _ hk => ⟨hk.2,hk.1⟩)),(by (with_reducible repeat (first|apply Kd.R_alloc|apply Kd.R_drewN|apply Kd.R_drew));exact Kd.R_mono HO_5.out (fun _ hk => ⟨hk.2,hk.1⟩)),(by repeat first|exact HB.out|apply bwA|apply bwN|apply bw1)⟩)
                   rintro ⟨v392,v399,v403⟩ w69 ⟨hS_,h0_,h1_,h2_,h3_⟩
                   have n0_ : Aside0 (Kd.R k31 31 w69 w.heap.size (fun k_ => some k_ ≠ (v403 : Value).ownBlock ∧ some k_ ≠ (.slice Ao19 x5_2.length co19 : Value).ownBlock) v399 y398):=⟨h0_⟩
                   have n1_ : Aside0 (Kd.R k31 31 w69 w.heap.size (fun k_ => some k_ ≠ (v399 : Value).ownBlock ∧ some k_ ≠ (.slice Ao19 x5_2.length co19 : Value).ownBlock) v403 y402):=⟨h1_⟩
                   have n2_ : Aside0 (Kd.R k31 31 w69 w.heap.size (fun k_ => some k_ ≠ (v399 : Value).ownBlock ∧ some k_ ≠ (v403 : Value).ownBlock) (.slice Ao19 x5_2.length co19) x5_2):=⟨h2_⟩
                   have n3_ : Aside0 (Below w.heap.size w w69):=⟨h3_⟩
                   clear HO_5
                   clear HB
                   clear h0_ h1_ h2_ h3_
                   have HO400:=n0_
                   have HO404:=n1_
                   have HO_5:=n2_
                   have HB:=n3_
                   clear n0_ n1_ n2_ n3_
                   have hHeld : w69.cell? (ad401.add ((x6_2).toNat * 2)) = some (.int .i64 ((rd_T31 l0 x6_2).f0)) ∧ w69.cell? ⟨(ad401.add ((x6_2).toNat * 2)).block,(ad401.add ((x6_2).toNat * 2)).off + 1,none⟩ = some (.int .i64 ((rd_T31 l0 x6_2).f1)):=hS_
                   obtain ⟨Ao71,co71,eo71⟩:=Kd.R_slice HO404.out
                   (first|subst eo71|(injection eo71 with f1_ f2_ f3_;have f4_:=f1_.symm;have f5_:=f3_.symm;clear f1_ f2_ f3_;subst f4_;subst f5_))
                   refine norm_ (a':=?_) ?_ ?_
                   rotate_left
                   ·simp only [putAll,Act.put,List.setIfInBounds_toArray,List.set_cons_zero,List.set_cons_succ]
                    rfl
                   refine one_ (i:=10) (N:=some 65) #[true,true,true,true,true,true,true,true,true,true,true,true,true,true,false,false] rfl rfl (one_of HT_.out (by kernel_rfl)) (by decide) (fun K hK => ?_)
                   refine Kd.R_append_rows_step k31 (w0:=w) w.heap.size (by rfl) (.tmp 59) (.tmp 64) 47 31 (.agg #[(.int .i64 0),(.int .i64 0)]) 16 rfl Try.underlying47 info31 rfl (by decide) (by omega) v399 y398 y402 _ _ _ (fun k_ => some k_ ≠ (.slice Ao19 x5_2.length co19 : Value).ownBlock ∧ some k_ ≠ (.slice Ao71 y402.length co71 : Value).ownBlock) (fun _ => False) rfl rfl ?aO ?aR (fun _ _ h => h) (fun _ h => h.elim) ?aF ?aB ?aS ?aL ?_
                   (case aR => repeat (first|exact (Kd.R_reads' HO404.out).2.2|(with_reducible refine Kd.C_alloc ?_ _)|(with_reducible refine Kd.C_drewN ?_ _)|(with_reducible refine Kd.C_drew ?_)))
                   (case aB => exact (by repeat first|exact HB.out|apply bwA|apply bwN|apply bw1))
                   (case aF => exact (fun k_ hk => ⟨Kd.fresh' (Kd.R_lt (by (with_reducible repeat (first|apply Kd.R_alloc|apply Kd.R_drewN|apply Kd.R_drew));exact HO_5.out)) k_ hk,Kd.fresh' (Kd.R_lt (by (with_reducible repeat (first|apply Kd.R_alloc|apply Kd.R_drewN|apply Kd.R_drew));exact HO404.out)) k_ hk⟩))
                   (case aO => exact (by (with_reducible repeat (first|apply Kd.R_alloc|apply Kd.R_drewN|apply Kd.R_drew));exact Kd.R_mono HO400.out (fun _ hk => ⟨hk.2,hk.1⟩)))
                   (case aS => exact bSz)
                   (case aL => have:=LMc56.out;omega)
                   intro v406 w70 ho hb hg hat
                   rw [← Ny405.out] at ho
                   have n0_:=aMk (Kd.R_after (ok:=(fun k_ => some k_ ≠ (.slice Ao71 y402.length co71 : Value).ownBlock)) (by (with_reducible repeat (first|apply Kd.R_alloc|apply Kd.R_drewN|apply Kd.R_drew));exact Kd.R_mono HO_5.out (fun _ hk => ⟨hk.2,hk.1⟩)) hg hat)
                   have n1_:=aMk (Kd.R_after (ok:=(fun k_ => some k_ ≠ (.slice Ao19 x5_2.length co19 : Value).ownBlock)) (by (with_reducible repeat (first|apply Kd.R_alloc|apply Kd.R_drewN|apply Kd.R_drew));exact Kd.R_mono HO404.out (fun _ hk => ⟨hk.2,hk.1⟩)) hg hat)
                   have n2_:=aMk (hb)
                   have n3_:=aMk (ho)
                   clear HO_5
                   clear HO404
                   clear HB
                   clear HO400
                   have HO_5:=n0_
                   have HO404:=n1_
                   have HB:=n2_
                   have HO407:=n3_
                   clear n0_ n1_ n2_ n3_
                   clear ho hb hg hat
                   refine hK.out _ _ ⟨((HB.out.cell (wLt w _ hw401_0)).trans hw401_0),((HB.out.cell (wLt w _ hw401_1)).trans hw401_1)⟩ (fun hHeld => ?_)
                   clear hK K
                   refine norm_ (a':=?_) ?_ ?_
                   rotate_left
                   ·show Act.put _ (some 65) _ = _
                    simp only [Act.put,List.setIfInBounds_toArray,List.set_cons_zero,List.set_cons_succ,i64_w,i32_w]
                    rfl
                   refine one_ (i:=14) (N:=some 69) #[true,true,true,true,true,true,true,true,true,true,true,true,true,true,true,false] rfl rfl (one_of HT_.out (by kernel_rfl)) (by decide) (fun K hK => ?_)
                   refine Kd.R_append_rows_step k31 (w0:=w) w.heap.size (by rfl) (.tmp 65) (.tmp 68) 47 31 (.agg #[(.int .i64 0),(.int .i64 0)]) 16 rfl Try.underlying47 info31 rfl (by decide) (by omega) v406 y405 y408 _ _ _ (fun k_ => some k_ ≠ (.slice Ao19 x5_2.length co19 : Value).ownBlock ∧ some k_ ≠ (.slice Ao71 y402.length co71 : Value).ownBlock) (fun _ => False) rfl rfl ?aO ?aR (fun _ _ h => h) (fun _ h => h.elim) ?aF ?aB ?aS ?aL ?_
                   (case aR => exact (show Kd.C k31 _ A63 y408.length y408 from by rw [Ny408.out,KA63.out];exact Kd.C_drop (m:=(x7_3 : Int).toNat) (c:=co19) ((Kd.R_reads' HO_5.out).2.2) KL63.out ((Kd.R_reads' HO_5.out).2.1)))
                   (case aB => exact (by repeat first|exact HB.out|apply bwA|apply bwN|apply bw1))
                   (case aF => exact (fun k_ hk => ⟨Kd.fresh' (Kd.R_lt (by (with_reducible repeat (first|apply Kd.R_alloc|apply Kd.R_drewN|apply Kd.R_drew));exact HO_5.out)) k_ hk,Kd.fresh' (Kd.R_lt (by (with_reducible repeat (first|apply Kd.R_alloc|apply Kd.R_drewN|apply Kd.R_drew));exact HO404.out)) k_ hk⟩))
                   (case aO => exact (by (with_reducible repeat (first|apply Kd.R_alloc|apply Kd.R_drewN|apply Kd.R_drew));exact HO407.out))
                   (case aS => exact bSz)
                   (case aL => have:=LMc59.out;omega)
                   intro v413 w72 ho hb hg hat
                   rw [← Ny412.out] at ho
                   have n0_:=aMk (Kd.R_after (ok:=(fun k_ => some k_ ≠ (.slice Ao71 y402.length co71 : Value).ownBlock)) (by (with_reducible repeat (first|apply Kd.R_alloc|apply Kd.R_drewN|apply Kd.R_drew));exact HO_5.out) hg hat)
                   have n1_:=aMk (Kd.R_after (ok:=(fun k_ => some k_ ≠ (.slice Ao19 x5_2.length co19 : Value).ownBlock)) (by (with_reducible repeat (first|apply Kd.R_alloc|apply Kd.R_drewN|apply Kd.R_drew));exact HO404.out) hg hat)
                   have n2_:=aMk (hb)
                   have n3_:=aMk (ho)
                   clear HO_5
                   clear HO404
                   clear HB
                   clear HO407
                   have HO_5:=n0_
                   have HO404:=n1_
                   have HB:=n2_
                   have HO414:=n3_
                   clear n0_ n1_ n2_ n3_
                   clear ho hb hg hat
                   refine hK.out _ _ ⟨((HB.out.cell (wLt w _ hw401_0)).trans hw401_0),((HB.out.cell (wLt w _ hw401_1)).trans hw401_1)⟩ (fun hHeld => ?_)
                   clear hK K
                   refine norm_ (a':=?_) ?_ ?_
                   rotate_left
                   ·show Act.put _ (some 69) _ = _
                    simp only [Act.put,List.setIfInBounds_toArray,List.set_cons_zero,List.set_cons_succ,i64_w,i32_w]
                    rfl
                   refine pU (i:=15) (N:=some 5) #[true,true,true,true,true,true,true,true,true,true,true,true,true,true,true,true] (any_of HT_.out (by kernel_rfl)) ?_
                   refine done_ (done_of HT_.out (by kernel_rfl)) ?_
                   try go_wp2
                   go_roundg k3
                   case measure => have:=HK1.out;have:=HK2.out;have:=HK3.out;omega
                   case rel => exact ⟨(y412),(wrap64 (x6_2 + 1)),(by first | rfl|(simp;done)|(simp [*];done)|(simp [ne_nil_b];done)|(simp [ne_nil_b, *];done)),H',⟨by have:=HK1.out;have:=HK2.out;have:=HK3.out;omega⟩,⟨by (with_reducible repeat (first|apply Kd.R_alloc|apply Kd.R_drewN|apply Kd.R_drew));exact Kd.R_mono HO414.out (fun _ hk => trivial)⟩,⟨by repeat (first|(with_reducible first|exact HB.out|apply bwA|apply bwN|apply bw1)|exact HB.out)⟩⟩
                  ·rw [if_neg c59] at H
                   exact absurd H (by simp)
                 ·rw [if_neg c56] at H
                  exact absurd H (by simp)
                ·rw [if_neg c55] at H
                 exact absurd H (by simp)
               ·rw [if_neg c54] at H
                exact absurd H (by simp)
              ·rw [if_neg c53] at H
               exact absurd H (by simp)
             ·rw [if_neg c52] at H
              exact absurd H (by simp)
            ·rw [if_neg c51] at H
             exact absurd H (by simp)
        ·rw [if_neg c18] at H
         have c18b0 : decide (x6_2 < (l0.length : Int)) = false:=decide_eq_false c18
         clear c18
         simp only [Option.some.injEq,Prod.mk.injEq] at H
         obtain ⟨rfl,rfl⟩:=H
         go_wp2
         go_ret2
         exact ⟨_,by first | rfl|(simp [errW_none,errW_some] <;> rfl)|(simp [*,errW_none,errW_some] <;> rfl),by (with_reducible repeat (first|apply Kd.R_alloc|apply Kd.R_drewN|apply Kd.R_drew));exact HO_5.out,by repeat (first|(with_reducible first|exact HB.out|apply bwA|apply bwN|apply bw1)|exact HB.out)⟩
end
section
/-! ### impl_SortWords_1: function 52 -/
def impl_SortWords_1.f (a0_0 : Int) (a0_1 : Int) : Option (Bool):=(impl_wordOK.f a0_0 a0_1).bind fun t423 => (some (!t423))
set_option maxHeartbeats 8000000 in
set_option maxRecDepth 100000 in
theorem impl_SortWords_1.calls (a0_0 : Int) (a0_1 : Int) (r : Bool) (w : World) (h : impl_SortWords_1.f a0_0 a0_1 = some r) :
  Calls Try.prog 52 #[.agg #[.int .i64 a0_0,.int .i64 a0_1]] w fun e w' => e = .returned (.bool r) ∧ Below w.heap.size w w':=by
 have hu31:=Try.underlying31
 have HB:=aMk (Below.refl w.heap.size w)
 have H : ((impl_wordOK.f a0_0 a0_1).bind fun t423 => (some (!t423))) = some r:=h
 clear h
 replace H:=Option.bind_eq_some_iff.mp H
 obtain ⟨t423,A20,H⟩:=H
 replace H : (some (!t423)) = some r:=H
 have A2:=aMk A20
 clear A20
 obtain rfl:=Option.some.inj H
 go_enter Try.func52,Try.ntmps52
 go_wp2_with (first|((with_reducible refine gate_dst (N:=1) rfl ?_);refine bxE (N:=1) (cs:=#[.int .i64 a0_0,.int .i64 a0_1]) (t:=31) ?_;intro gb422 hg w3 hbox hb;have n0_:=aMk (bSt hb);have n1_:=aMk (hbox);have n2_:=aMk ((by rw [hg];exact bSz : w.heap.size ≤ gb422));have n3_:=aMk ((by rw [hg];exact bSz : w.heap.size ≤ gb422));clear HB;have HB:=n0_;have BK422:=n1_;have GW422:=n2_;have GE422:=n3_;clear n0_ n1_ n2_ n3_;clear hb hbox hg;obtain ⟨hcz4_0,hcz4_1,hfz4_0,hfz4_1⟩:=bC2 BK422.out)|((with_reducible refine gate_callee (f:=43) rfl ?_);refine gLs 4 Try.func43 #[.agg #[.int .i64 a0_0,.int .i64 a0_1]] ?_;(with_reducible refine (impl_wordOK.calls a0_0 a0_1 t423 _ A2.out).mono ?_);rintro e w5 ⟨rfl,hb⟩;refine ⟨_,rfl,?_⟩;have n0_:=aMk (bkB BK422.out hb);have n1_:=aMk (below_step (by repeat (first|(with_reducible first|exact HB.out|apply bwA|apply bwN|apply bw1|refine below_set ?_ GE422.out)|exact HB.out)) hb);clear BK422;clear HB;have BK422:=n0_;have HB:=n1_;clear n0_ n1_;(try clear hb);(try clear hb2);(try clear hk);(try clear hi)))
 go_ret
 exact ⟨eRf,by repeat (first|(with_reducible first|exact HB.out|apply bwA|apply bwN|apply bw1|refine below_set ?_ GE422.out)|exact HB.out)⟩
end
section
/-! ### impl_Word_69: function 69 -/
def idxP31 (p : S31 → Option Bool) (l : List S31) : Nat → Int → Option Int
 | 0,_ => none
 | k + 1,i => if i < (l.length : Int) then (if 0 ≤ i then ((p (rd_T31 l i)).bind fun t => (if t = true then some i else idxP31 p l k (wrap64 (i + 1)))) else none) else some (-1)
theorem idxP31_mono (p q : S31 → Option Bool) (hpq : ∀ x,LeO (p x) (q x)) (l : List S31) : ∀ k i,LeO (idxP31 p l k i) (idxP31 q l (k + 1) i)
 | 0,i => fun r h => by simp [idxP31] at h
 | k + 1,i => by
  have ih:=idxP31_mono p q hpq l k
  rw [idxP31,idxP31]
  refine LeO.ite (LeO.ite (LeO.bind (hpq _) (fun t => LeO.ite (LeO.refl _) (ih _))) (LeO.refl _)) (LeO.refl _)
set_option maxHeartbeats 8000000 in
set_option maxRecDepth 100000 in
theorem indexFunc31 (g : FuncId) (lb : Array Value) (eg : ∀ args w,(callFunc g args).run Try.prog w = .ok (.enter g args) w) (p : S31 → Option Bool) (k : Nat) (A0 : Option Addr) (c0 : Nat) (l0 : List S31) (r : Int) (w : World)
  (hp : ∀ (W : World) (x : S31) (b : Bool),Below w.heap.size w W → p x = some b → Calls Try.prog g (#[.agg #[.int .i64 x.f0,.int .i64 x.f1]] ++ lb) W fun e w' => e = .returned (.bool b) ∧ Below w.heap.size w w')
  (hr0 : Kd.C k31 w A0 l0.length l0) (h : idxP31 p l0 k 0 = some r) :
  Calls Try.prog 69 #[.slice A0 l0.length c0,.func (.func g) #[] lb] w fun e w' => e = .returned (.int .i64 r) ∧ Below w.heap.size w w':=by
 have hu31:=Try.underlying31
 have HR0:=aMk hr0
 have HP:=aMk hp
 clear hr0 hp
 have HB:=aMk (Below.refl w.heap.size w)
 have H':=aMk h
 clear h
 go_enter Try.func69,Try.ntmps69
 go_wp2
 go_loopg [5,8] k (fun kq _ v8 w' => ∃ (x : Int),v8 = .int .i64 x ∧ Aside0 (idxP31 p l0 kq x = some r) ∧ Aside0 (kq ≤ k) ∧ Aside0 (Below w.heap.size w w'))
 case atStart => exact ⟨0,rfl,H',⟨Nat.le_refl _⟩,HB⟩
 case round =>
  clear H'
  obtain ⟨x,rfl,HA,HK1,HB⟩:=hrel
  cases gk with
  | zero => exact absurd HA.out (by simp [idxP31])
  | succ k1 =>
   have H:=HA.out
   clear HA
   simp only [idxP31] at H
   by_cases c2 : x < (l0.length : Int)
   ·rw [if_pos c2] at H
    have c2b0 : decide (x < (l0.length : Int)) = true:=decide_eq_true c2
    clear c2
    by_cases c3 : 0 ≤ x
    ·rw [if_pos c3] at H
     have c3b0 : decide (0 ≤ x) = true:=decide_eq_true c3
     clear c3
     replace H:=Option.bind_eq_some_iff.mp H
     obtain ⟨t,A40,H⟩:=H
     have p179 : 0 ≤ (x : Int):=of_decide_eq_true (by first|(with_reducible assumption) | assumption)
     have q179 : x < (l0.length : Int):=of_decide_eq_true (by first|(with_reducible assumption) | assumption)
     obtain ⟨ad179,e179,hx0,hx1⟩:=at_T31 HR0.out x p179 q179
     cases e179
     replace hx0:=bXc HB.out hx0
     replace hx1:=bXc HB.out hx1
     replace p179:=eq_true p179
     replace q179:=eq_true q179
     have HC:=aMk (HP.out _ _ _ HB.out A40)
     clear A40
     cases t
     ·have H1 : idxP31 p l0 k1 (wrap64 (x + 1)) = some r:=by simpa using H
      clear H
      have H':=aMk H1
      clear H1
      go_wp2_with (refine HC.out.mono ?_;rintro e w6 ⟨rfl,hb⟩;clear HB;have HB:=aMk hb;clear hb)
      go_roundg k1
      case measure => have:=HK1.out;omega
      case rel => exact ⟨_,rfl,H',⟨by have:=HK1.out;omega⟩,HB⟩
     ·obtain rfl : x = r:=by simpa using H
      clear H
      go_wp2_with (refine HC.out.mono ?_;rintro e w6 ⟨rfl,hb⟩;clear HB;have HB:=aMk hb;clear hb)
      go_ret
      exact ⟨rfl,HB.out⟩
    ·rw [if_neg c3] at H
     exact absurd H (by simp)
   ·rw [if_neg c2] at H
    have c2b0 : decide (x < (l0.length : Int)) = false:=decide_eq_false c2
    clear c2
    obtain rfl:=Option.some.inj H
    go_wp2
    go_ret
    exact ⟨eRf,HB.out⟩
end
section
/-! ### impl_Word_51: function 51 -/
set_option maxHeartbeats 8000000 in
set_option maxRecDepth 100000 in
theorem containsFunc31 (g : FuncId) (lb : Array Value) (eg : ∀ args w,(callFunc g args).run Try.prog w = .ok (.enter g args) w) (p : S31 → Option Bool) (k : Nat) (A0 : Option Addr) (c0 : Nat) (l0 : List S31) (r : Int) (w : World)
  (hp : ∀ (W : World) (x : S31) (b : Bool),Below w.heap.size w W → p x = some b → Calls Try.prog g (#[.agg #[.int .i64 x.f0,.int .i64 x.f1]] ++ lb) W fun e w' => e = .returned (.bool b) ∧ Below w.heap.size w w')
  (hr0 : Kd.C k31 w A0 l0.length l0) (h : idxP31 p l0 k 0 = some r) :
  Calls Try.prog 51 #[.slice A0 l0.length c0,.func (.func g) #[] lb] w fun e w' => e = .returned (.bool (decide (0 ≤ r))) ∧ Below w.heap.size w w':=by
 have HC:=indexFunc31 g lb eg p k A0 c0 l0 r w hp hr0 h
 clear hp hr0 h
 have ei:=enters_ Try.func69 (by kernel_rfl) rfl
 go_enter Try.func51,Try.ntmps51
 go_wp2_with (refine HC.mono ?_;rintro e w6 ⟨rfl,hb⟩)
 go_ret
 exact ⟨eRf,hb⟩
def impl_Word_51.f (k : Nat) (l0 : List S31) : Option Bool:=(idxP31 (fun x => impl_SortWords_1.f x.f0 x.f1) l0 k 0).bind fun t => some (decide (0 ≤ t))
theorem impl_Word_51.mono : ∀ l0 k,LeO (impl_Word_51.f k l0) (impl_Word_51.f (k + 1) l0):=fun l0 k => LeO.bind (idxP31_mono _ _ (fun x => by exact LeO.refl _) l0 k 0) (fun _ => LeO.refl _)
theorem impl_Word_51.calls (k : Nat) (A0 : Option Addr) (c0 : Nat) (l0 : List S31) (r : Bool) (w : World) (hr0 : Kd.C k31 w A0 l0.length l0) (hc0 : l0.length ≤ c0) (h : impl_Word_51.f k l0 = some r) :
  Calls Try.prog 51 #[.slice A0 l0.length c0,.func (.func 52) #[] #[]] w fun e w' => e = .returned (.bool r) ∧ Below w.heap.size w w':=by
 obtain ⟨t,h1,h2⟩:=Option.bind_eq_some_iff.mp h
 obtain rfl:=Option.some.inj h2
 exact containsFunc31 52 #[] (enters_ Try.func52 (by kernel_rfl) rfl) _ k A0 c0 l0 t w (fun W x b hb hx => (impl_SortWords_1.calls x.f0 x.f1 b W hx).mono fun e w' h => ⟨h.1,below_step hb h.2⟩) hr0 h1
end
section
theorem impl_Word_53.eql (a : Addr) (n c : Nat) (w : World) : (Sem.run Try.prog (binOp BinOp.eql 47 (Value.slice (some a) n c) (Value.slice none 0 0)) w) = .ok (.bool false) w:=by
 simp only [binOp,Op.equal]
 rw [show Op.maxDepth = 9999 + 1 from rfl,Op.equalIn]
 simp
theorem impl_Word_53.nil (n c : Nat) (w : World) : (Sem.run Try.prog (binOp BinOp.eql 47 (Value.slice none n c) (Value.slice none 0 0)) w) = .ok (.bool true) w:=by
 simp only [binOp,Op.equal]
 rw [show Op.maxDepth = 9999 + 1 from rfl,Op.equalIn]
 simp
attribute [local go_sem] impl_Word_53.eql impl_Word_53.nil
/-! ### impl_Word_53: function 53 -/
def impl_Word_53.f (l0 : List (S31)) : Option ((List (S31))):=(some (([] : List (S31)) : List (S31))).bind fun y424 => (if y424.length + l0.length < 8796093022208 then (some (y424 ++ l0)) else (none))
set_option maxHeartbeats 8000000 in
set_option maxRecDepth 100000 in
theorem impl_Word_53.calls0 (a0_ : Addr) (c0 : Nat) (l0 : List (S31)) (r : List (S31)) (w : World) (hr0 : Kd.C k31 w (some a0_) l0.length l0) (hc0 : l0.length ≤ c0) (h : impl_Word_53.f l0 = some r) :
  Calls Try.prog 53 #[.slice (some a0_) l0.length c0] w fun e w' => ∃ v0_ : Value,e = .returned (v0_) ∧ Kd.R k31 31 w' w.heap.size (fun _ => True) v0_ r ∧ Below w.heap.size w w':=by
 have HR0:=aMk hr0
 have HC0:=aMk hc0
 clear hr0 hc0
 have HB:=aMk (Below.refl w.heap.size w)
 have H : ((some (([] : List (S31)) : List (S31))).bind fun y424 => (if y424.length + l0.length < 8796093022208 then (some (y424 ++ l0)) else (none))) = some r:=h
 clear h
 obtain ⟨y424,hy424⟩ : ∃ y_ : List (S31),y_ = (([] : List (S31))):=⟨_,rfl⟩
 replace H : (if y424.length + l0.length < 8796093022208 then (some (y424 ++ l0)) else (none)) = some r:=by first|(rw [hy424];with_reducible exact H)|(have H2_:=(Option.bind_some _ _).symm.trans H;rw [hy424];with_reducible exact H2_)|(have H2_:=(Option.bind_some _ _).symm.trans H;with_reducible exact H2_) | with_reducible exact H|(rw [hy424];exact H)|exact H
 have Ny424:=aMk hy424
 clear hy424
 by_cases c2 : y424.length + l0.length < 8796093022208
 ·rw [if_pos c2] at H
  have LMc2:=aMk c2
  clear c2
  obtain ⟨y427,hy427⟩ : ∃ y_ : List (S31),y_ = (y424 ++ l0):=⟨_,rfl⟩
  replace H : (some y427) = some r:=by first|(rw [hy427];with_reducible exact H)|(have H2_:=(Option.bind_some _ _).symm.trans H;rw [hy427];with_reducible exact H2_)|(have H2_:=(Option.bind_some _ _).symm.trans H;with_reducible exact H2_) | with_reducible exact H|(rw [hy427];exact H)|exact H
  have Ny427:=aMk hy427
  clear hy427
  obtain rfl:=Option.some.inj H
  go_enter Try.func53,Try.ntmps53
  go_wp2_with (first|((with_reducible refine gate_dst (N:=5) rfl ?_);refine Kd.R_lit k31 _ 31 ?hg (N:=5) ?hd (xs:=([] : List (S31))) (inner:=[]) (ok:=fun _ => True) (okp:=fun _ => True) ?hr ?hp (fun _ hk => hk) trivial (Below.refl _ _) (Nat.le_refl _) (by simp) ?_;(case hd => rfl);(case hg => rfl);(case hr => first|(go_simp;done)|(go_simp;rfl));(case hp => exact (Reps.none _ _));intro v425 w3 ho4 hb hg_ hnew_;clear hg_ hnew_;(first|rw [← Ny424.out] at ho4|(simp only [Int.reduceToNat] at ho4;rw [← Ny424.out] at ho4));have n0_:=aMk (Kd.R_lower ho4 bSz);have n1_:=aMk (bSt hb);clear HB;have HO426:=n0_;have HB:=n1_;clear n0_ n1_;clear hb ho4)|((with_reducible refine gate_builtin (b:=.append) (xs:=#[.tmp 5,.tmp 6]) rfl ?_);at_builtin;refine Kd.R_append_rows k31 (w0:=w) w.heap.size rfl (.tmp 5) (.tmp 6) 47 31 (.agg #[(.int .i64 0),(.int .i64 0)]) 16 rfl Try.underlying47 info31 rfl (by decide) (by omega) v425 y424 l0 _ _ _ (fun _ => True) (fun _ => False) rfl rfl ?aO ?aR (fun _ _ h => h) (fun _ h => h.elim) ?aF ?aB ?aS ?aL ?_;(case aR => repeat (first|exact (Kd.C_below HR0.out HB.out)|(with_reducible refine Kd.C_alloc ?_ _)|(with_reducible refine Kd.C_drewN ?_ _)|(with_reducible refine Kd.C_drew ?_)));(case aB => exact (by repeat first|exact HB.out|apply bwA|apply bwN|apply bw1));(case aF => exact (fun _ _ => trivial));(case aO => exact (by (with_reducible repeat (first|apply Kd.R_alloc|apply Kd.R_drewN|apply Kd.R_drew));exact HO426.out));(case aS => exact bSz);(case aL => have:=LMc2.out;omega);intro v428 w5 ho hb hg hat;rw [← Ny427.out] at ho;have n0_:=aMk (hb);have n1_:=aMk (ho);clear HB;clear HO426;have HB:=n0_;have HO429:=n1_;clear n0_ n1_;clear ho hb hg hat))
  go_ret
  exact ⟨_,by first | rfl|(simp [errW_none,errW_some] <;> rfl)|(simp [*,errW_none,errW_some] <;> rfl),by (with_reducible repeat (first|apply Kd.R_alloc|apply Kd.R_drewN|apply Kd.R_drew));exact HO429.out,by repeat (first|(with_reducible first|exact HB.out|apply bwA|apply bwN|apply bw1)|exact HB.out)⟩
 ·rw [if_neg c2] at H
  exact absurd H (by simp)

set_option maxHeartbeats 8000000 in
set_option maxRecDepth 100000 in
theorem impl_Word_53.calls (A0 : Option Addr) (c0 : Nat) (l0 : List (S31)) (r : List (S31)) (w : World) (hr0 : Kd.C k31 w A0 l0.length l0) (hc0 : l0.length ≤ c0) (h : impl_Word_53.f l0 = some r) :
  Calls Try.prog 53 #[.slice A0 l0.length c0] w fun e w' => ∃ v0_ : Value,e = .returned (v0_) ∧ Kd.R k31 31 w' w.heap.size (fun _ => True) v0_ r ∧ Below w.heap.size w w':=by
 cases A0 with
 | some a => exact impl_Word_53.calls0 a c0 l0 r w hr0 hc0 h
 | none =>
  have hl : l0 = []:=by
   cases l0 with
   | nil => rfl
   | cons y ys =>
    obtain ⟨ad,e_,_⟩:=at_T31 hr0 0 (by omega) (by simp)
    cases e_
  subst hl
  obtain rfl : r = []:=by simpa [impl_Word_53.f] using h.symm
  go_enter Try.func53,Try.ntmps53
  go_wp2
  go_ret
  exact ⟨_,rfl,Kd.R_nil _ _ _ _ _,by repeat (first|exact Below.refl _ _|apply bwA|apply bwN|apply bw1)⟩
end
section
-- IMPORT Derived.Laws.BitsLemmas
-- IMPORT Derived.OpenShut
/-- A mask of low bits is a remainder,of whatever number. -/
theorem and_low (x : Int) (j : Nat) (hj : j ≤ 62) : Go.bits .and .i64 x (2 ^ j - 1) = x % 2 ^ j:=by
 have hm : ((2 : Int) ^ j - 1) = ((2 ^ j - 1 : Nat) : Int):=by
  rw [Int.natCast_sub (Nat.two_pow_pos j),Int.natCast_pow];rfl
 have hlt : 2 ^ j - 1 < 2 ^ 64:=Nat.lt_of_lt_of_le (Nat.sub_lt (Nat.two_pow_pos j) (by decide)) (Nat.pow_le_pow_right (by decide) (by omega))
 have hle : (2 : Nat) ^ j ≤ 2 ^ 62:=Nat.pow_le_pow_right (by decide) hj
 have hd : (2 : Nat) ^ j ∣ 2 ^ 64:=Nat.pow_dvd_pow 2 (by omega)
 rw [hm]
 have hb : Go.bits .and .i64 x ((2 ^ j - 1 : Nat) : Int) = IntKind.i64.wrap (((BitVec.ofInt 64 x &&& BitVec.ofInt 64 ((2 ^ j - 1 : Nat) : Int)).toNat : Nat) : Int):=rfl
 rw [hb,BitVec.toNat_and,BitVec.ofInt_natCast,BitVec.toNat_ofNat,BitVec.toNat_ofInt,Nat.mod_eq_of_lt hlt,Nat.and_two_pow_sub_one_eq_mod,IntKind.wrap_i64]
 have e : (((x % ((2 ^ 64 : Nat) : Int)).toNat % 2 ^ j : Nat) : Int) = x % ((2 ^ j : Nat) : Int):=by
  rw [Int.natCast_emod,Int.toNat_of_nonneg (Int.emod_nonneg _ (by decide)),Int.emod_emod_of_dvd]
  exact Int.natCast_dvd_natCast.2 hd
 rw [e]
 have hp : (0 : Int) < ((2 ^ j : Nat) : Int):=by exact_mod_cast Nat.two_pow_pos j
 have h0:=Int.emod_nonneg x (Int.ne_of_gt hp)
 have h1:=Int.emod_lt_of_pos x hp
 have h2 : ((2 ^ j : Nat) : Int) ≤ ((4611686018427387904 : Nat) : Int):=Int.ofNat_le.2 (Nat.le_trans hle (by decide))
 have h3 : ((2 : Int) ^ j) = ((2 ^ j : Nat) : Int):=by rw [Int.natCast_pow];rfl
 rw [h3,Int.emod_eq_of_lt (by omega) (by omega)]
 omega
theorem bndu8 {n : Int} (h : (Lit.int .u8 n).wf = true) : 0 ≤ n ∧ n ≤ 255:=bounds_u8 h
theorem wrap_id {n : Int} (h0 : -9223372036854775808 ≤ n) (h1 : n ≤ 9223372036854775807) : wrap64 n = n:=by
 unfold wrap64;omega
end
section
-- NEEDS (impl.Word).class
theorem land_hi (n k m : Nat) : n &&& ((2 ^ m - 1) * 2 ^ k) = (n / 2 ^ k % 2 ^ m) * 2 ^ k:=by
 apply Nat.eq_of_testBit_eq
 intro i
 rw [Nat.testBit_and,Nat.testBit_mul_two_pow,Nat.testBit_mul_two_pow,Nat.testBit_two_pow_sub_one,Nat.testBit_mod_two_pow,Nat.testBit_div_two_pow]
 by_cases h : i ≥ k
 ·rw [decide_eq_true h,Nat.sub_add_cancel h]
  simp [Bool.and_comm]
 ·rw [decide_eq_false h];simp
theorem and_nat (n c : Nat) (hn : n < 4294967296) (hc : c < 4294967296) : Go.bits .and .i64 (n : Int) (c : Int) = ((n &&& c : Nat) : Int):=by
 have hb : Go.bits .and .i64 (n : Int) (c : Int) = IntKind.i64.wrap (((BitVec.ofInt 64 (n : Int) &&& BitVec.ofInt 64 (c : Int)).toNat : Nat) : Int):=rfl
 have hl : n &&& c ≤ n:=Nat.and_le_left
 rw [hb,BitVec.toNat_and,BitVec.ofInt_natCast,BitVec.ofInt_natCast,BitVec.toNat_ofNat,BitVec.toNat_ofNat,Nat.mod_eq_of_lt (show n < 2 ^ 64 by omega),Nat.mod_eq_of_lt (show c < 2 ^ 64 by omega),IntKind.wrap_i64]
 omega
theorem and_exp {h : Int} (h0 : 0 ≤ h) (h1 : h ≤ 4294967295) : Go.bits .and .i64 h 2146435072 = (h / 1048576 % 2048) * 1048576:=by
 obtain ⟨n,rfl⟩:=Int.eq_ofNat_of_zero_le h0
 rw [show (2146435072 : Int) = ((2146435072 : Nat) : Int) from rfl,and_nat n _ (by omega) (by omega),show (2146435072 : Nat) = (2 ^ 11 - 1) * 2 ^ 20 by omega,land_hi]
 omega
theorem and_sign {h : Int} (h0 : 0 ≤ h) (h1 : h ≤ 4294967295) : Go.bits .and .i64 h 2147483648 = (h / 2147483648) * 2147483648:=by
 obtain ⟨n,rfl⟩:=Int.eq_ofNat_of_zero_le h0
 rw [show (2147483648 : Int) = ((2147483648 : Nat) : Int) from rfl,and_nat n _ (by omega) (by omega),show (2147483648 : Nat) = (2 ^ 1 - 1) * 2 ^ 31 by omega,land_hi]
 omega
theorem and_frac (h : Int) : Go.bits .and .i64 h 1048575 = h % 1048576:=and_low h 20 (by decide)
theorem and_size (h : Int) : Go.bits .and .i64 h 2147483647 = h % 2147483648:=and_low h 31 (by decide)
end
section
-- NEEDS (impl.Word).class spec.l06Class (impl.Word).order spec.l06Order
def cls (h l : Int) : Int :=
 if h % 2147483648 > 2146435072 ∨ (h % 2147483648 = 2146435072 ∧ l > 0) then 0
 else if h % 2147483648 = 2146435072 then (if h / 2147483648 = 1 then 1 else 6)
 else if h % 2147483648 = 0 ∧ l = 0 then (if h / 2147483648 = 1 then 3 else 4)
 else if h / 2147483648 = 1 then 2 else 5
theorem impl_class_eq {h l : Int} (h0 : 0 ≤ h) (h1 : h ≤ 4294967295) (l0 : 0 ≤ l) : impl_Word_class.f h l = some (cls h l):=by
 unfold impl_Word_class.f impl_Word_class_1.f cls
 rw [and_exp h0 h1,and_sign h0 h1,and_frac]
 simp only [bne_iff_ne,ne_eq]
 repeat' split
 all_goals first | rfl|(exfalso;omega)
theorem spec_class_eq {h l : Int} (h0 : 0 ≤ h) (h1 : h ≤ 4294967295) (l0 : 0 ≤ l) (k : Nat) (hk : 3 ≤ k) : spec_l06Class.f k h l = some (cls h l):=by
 obtain ⟨k,rfl⟩ : ∃ z,k = z + 3:=⟨k - 3,by omega⟩
 simp only [spec_l06Class.f,spec_l06Size.f,spec_l06Minus.f,and_size,Option.bind_some,spec_l06Class.j0,spec_l06Class.j1,spec_l06Class.j2,decide_eq_true_eq,Bool.and_eq_true,beq_iff_eq,if_true,Bool.false_eq_true,if_false]
 unfold cls
 by_cases c1 : h % 2147483648 > 2146435072
 ·rw [if_pos c1,if_pos (Or.inl c1)]
 rw [if_neg c1]
 by_cases c2 : h % 2147483648 = 2146435072
 ·by_cases c3 : l > 0
  ·rw [if_pos c2,if_pos c3,if_pos (Or.inr ⟨c2,c3⟩)]
  ·rw [if_pos c2,if_neg c3,if_neg (show ¬ (h % 2147483648 > 2146435072 ∨ (h % 2147483648 = 2146435072 ∧ l > 0)) by omega)]
   simp only [if_pos c2]
   split <;> rfl
 ·rw [if_neg c2,if_neg (show ¬ (h % 2147483648 > 2146435072 ∨ (h % 2147483648 = 2146435072 ∧ l > 0)) by omega)]
  simp only [if_neg c2]
  by_cases c5 : h % 2147483648 = 0 ∧ l = 0
  ·simp only [if_pos c5];split <;> rfl
  ·simp only [if_neg c5];split <;> rfl
theorem cls_range (h l : Int) : 0 ≤ cls h l ∧ cls h l ≤ 6:=by
 unfold cls
 repeat' split
 all_goals omega
theorem cls1 {h l : Int} (h0 : 0 ≤ h) (h1 : h ≤ 4294967295) (l0 : 0 ≤ l) (e : cls h l = 1) : h = 4293918720 ∧ l = 0:=by
 unfold cls at e
 (repeat' split at e) <;> omega
theorem cls2 {h l : Int} (h0 : 0 ≤ h) (h1 : h ≤ 4294967295) (l0 : 0 ≤ l) (e : cls h l = 2) : h / 2147483648 = 1:=by
 unfold cls at e
 (repeat' split at e) <;> omega
theorem cls3 {h l : Int} (h0 : 0 ≤ h) (h1 : h ≤ 4294967295) (l0 : 0 ≤ l) (e : cls h l = 3) : h = 2147483648 ∧ l = 0:=by
 unfold cls at e
 (repeat' split at e) <;> omega
theorem cls4 {h l : Int} (h0 : 0 ≤ h) (h1 : h ≤ 4294967295) (l0 : 0 ≤ l) (e : cls h l = 4) : h = 0 ∧ l = 0:=by
 unfold cls at e
 (repeat' split at e) <;> omega
theorem cls5 {h l : Int} (h0 : 0 ≤ h) (h1 : h ≤ 4294967295) (l0 : 0 ≤ l) (e : cls h l = 5) : h / 2147483648 = 0:=by
 unfold cls at e
 (repeat' split at e) <;> omega
theorem cls6 {h l : Int} (h0 : 0 ≤ h) (h1 : h ≤ 4294967295) (l0 : 0 ≤ l) (e : cls h l = 6) : h = 2146435072 ∧ l = 0:=by
 unfold cls at e
 (repeat' split at e) <;> omega
def cmpI (a b : Int) : Int:=if a < b then -1 else if a > b then 1 else 0
theorem compare_eq (a b : Int) : cmp_Compare_int.f a b = some (cmpI a b):=by
 simp only [cmp_Compare_int.f,cmp_isNaN_int.f,bne_self_eq_false,Option.bind_some,Bool.false_eq_true,if_false,cmpI]
 split
 ·rfl
 ·split <;> rfl
theorem or_eq (a b : Int) (k : Nat) (hk : 3 ≤ k) : cmp_Or_int.f k [a,b] = some (if a = 0 then b else a):=by
 obtain ⟨k,rfl⟩ : ∃ z,k = z + 3:=⟨k - 3,by omega⟩
 have l2 : ((([a,b] : List Int).length : Nat) : Int) = 2:=rfl
 have r0 : rd [a,b] 0 = a:=rfl
 have r1 : rd [a,b] 1 = b:=rfl
 have w1 : wrap64 (0 + 1) = 1:=wrap_id (n:=0 + 1) (by omega) (by omega)
 have w2 : wrap64 (1 + 1) = 2:=wrap_id (n:=1 + 1) (by omega) (by omega)
 simp only [cmp_Or_int.f,cmp_Or_int.l0,l2,r0,r1,w1,w2]
 by_cases ha : a = 0
 ·by_cases hb : b = 0
  ·simp [ha,hb]
  ·simp [ha,hb]
 ·simp [ha]
def ordI (a b c d : Int) : Int :=
 if cls a b = cls c d then
  (if cls a b = 0 then 0 else
   (if a < c then (if cls a b = 2 then 1 else -1) else if a > c then (if cls a b = 2 then -1 else 1) else
    (if b < d then (if cls a b = 2 then 1 else -1) else if b > d then (if cls a b = 2 then -1 else 1) else 0)))
 else (if cls a b > cls c d then 1 else -1)
theorem impl_order_eq {a b c d : Int} (a0 : 0 ≤ a) (a1 : a ≤ 4294967295) (b0 : 0 ≤ b) (c0 : 0 ≤ c) (c1 : c ≤ 4294967295) (d0 : 0 ≤ d) (k : Nat) (hk : 4 ≤ k) : impl_Word_order.f k a b c d = some (ordI a b c d):=by
 obtain ⟨k,rfl⟩ : ∃ z,k = z + 1:=⟨k - 1,by omega⟩
 simp only [impl_Word_order.f,impl_class_eq a0 a1 b0,impl_class_eq c0 c1 d0,Option.bind_some,compare_eq,impl_Word_order.j0,or_eq _ _ k (by omega)]
 have wn : ∀ x : Int,-1 ≤ x → x ≤ 1 → wrap64 (-x) = -x:=fun x h0 h1 => wrap_id (by omega) (by omega)
 have cr : ∀ x y : Int,-1 ≤ cmpI x y ∧ cmpI x y ≤ 1:=fun x y => by unfold cmpI;split;omega;split <;> omega
 have c1':=cr a c
 have c2':=cr b d
 rw [wn (if cmpI a c = 0 then cmpI b d else cmpI a c) (by split <;> omega) (by split <;> omega)]
 unfold ordI
 by_cases e : cls a b = cls c d
 ·have ec : cmpI (cls a b) (cls c d) = 0:=by unfold cmpI;rw [if_neg (by omega),if_neg (by omega)]
  rw [ec,if_pos rfl,if_pos e]
  by_cases z : cls a b = 0
  ·simp [z]
  ·rw [if_neg z,if_neg (by simpa using z)]
   unfold cmpI
   by_cases x1 : a < c
   ·simp [x1];split <;> simp
   ·by_cases x2 : a > c
    ·simp [x1,x2];split <;> simp
    ·by_cases x3 : b < d
     ·simp [x1,x2,x3];split <;> simp
     ·by_cases x4 : b > d
      ·simp [x1,x2,x3,x4];split <;> simp
      ·simp [x1,x2,x3,x4]
 ·rw [if_neg e]
  unfold cmpI
  by_cases g : cls a b < cls c d
  ·simp [g];omega
  ·have g2 : cls a b > cls c d:=by omega
   simp [g,g2]
theorem spec_order_eq {a b c d : Int} (a0 : 0 ≤ a) (a1 : a ≤ 4294967295) (b0 : 0 ≤ b) (c0 : 0 ≤ c) (c1 : c ≤ 4294967295) (d0 : 0 ≤ d) (k : Nat) (hk : 3 ≤ k) : spec_l06Order.f k a b c d = some (ordI a b c d):=by
 have w3 : wrap64 (wrap64 2 - 1) = 1:=by rw [wrap_id (n:=2) (by omega) (by omega)];exact wrap_id (n:=2 - 1) (by omega) (by omega)
 have w4 : wrap64 (wrap64 0 - 1) = -1:=by rw [wrap_id (n:=0) (by omega) (by omega)];exact wrap_id (n:=0 - 1) (by omega) (by omega)
 have bit : ∀ x : Bool,((spec_l01Bit.f x).bind fun t => some (wrap64 (wrap64 (2 * t) - 1))) = some (if x = true then 1 else -1):=fun x => by cases x <;> simp [spec_l01Bit.f,w3,w4]
 simp only [spec_l06Order.f,spec_class_eq a0 a1 b0 k hk,spec_class_eq c0 c1 d0 k hk,spec_l06Size.f,spec_l06Minus.f,and_size,Option.bind_some,bit]
 have ra:=cls_range a b
 unfold ordI
 by_cases e : cls a b = cls c d
 ·rw [if_pos e,if_pos e]
  by_cases z : cls a b = 0
  ·rw [if_pos z,if_pos z]
  rw [if_neg z,if_neg z]
  have same : a / 2147483648 = c / 2147483648 ∧ (a / 2147483648 = 1 ↔ (cls a b = 1 ∨ cls a b = 2 ∨ cls a b = 3)) ∧ (cls a b = 2 ∨ cls a b = 5 ∨ (a = c ∧ b = d)):=by
   have hc : cls a b = 1 ∨ cls a b = 2 ∨ cls a b = 3 ∨ cls a b = 4 ∨ cls a b = 5 ∨ cls a b = 6:=by omega
   rcases hc with h | h | h | h | h | h
   ·have p:=cls1 a0 a1 b0 h;have q:=cls1 c0 c1 d0 (e ▸ h);omega
   ·have p:=cls2 a0 a1 b0 h;have q:=cls2 c0 c1 d0 (e ▸ h);omega
   ·have p:=cls3 a0 a1 b0 h;have q:=cls3 c0 c1 d0 (e ▸ h);omega
   ·have p:=cls4 a0 a1 b0 h;have q:=cls4 c0 c1 d0 (e ▸ h);omega
   ·have p:=cls5 a0 a1 b0 h;have q:=cls5 c0 c1 d0 (e ▸ h);omega
   ·have p:=cls6 a0 a1 b0 h;have q:=cls6 c0 c1 d0 (e ▸ h);omega
  obtain ⟨s1,s2,s3⟩:=same
  generalize cls a b = x at *
  simp only [Bool.and_eq_true,beq_iff_eq]
  by_cases m : a / 2147483648 = 1
  ·have mb : (a / 2147483648 == 1) = true:=beq_iff_eq.mpr m
   simp only [mb]
   repeat' split
   all_goals first | rfl|(exfalso;omega)|(exfalso;simp_all;done)|(exfalso;simp_all;omega)
  ·have mb : (a / 2147483648 == 1) = false:=beq_eq_false_iff_ne.mpr m
   simp only [mb]
   repeat' split
   all_goals first | rfl|(exfalso;omega)|(exfalso;simp_all;done)|(exfalso;simp_all;omega)
 ·rw [if_neg e,if_neg e]
  by_cases g : cls a b > cls c d
  ·simp [g]
  ·simp [g]
end
section
/-! ### impl_Word_54: function 54 -/
-- IMPORT Derived.Shelf.SlSortCmp.InsertionK
-- IMPORT Derived.Lib.OwnBridge
-- USES 44
open Go.Lib (lay lay_get? putRow_setCells)
/-- The cells of a row of elements. -/
def flatC {α : Type} (enc : α → List Value) (l : List α) : List Value:=l.flatMap enc
theorem flatC_length {α : Type} {enc : α → List Value} {s : Nat} (he : ∀ x,(enc x).length = s) : ∀ l : List α,(flatC enc l).length = l.length * s
 | [] => by simp [flatC]
 | x :: l => by
  have:=flatC_length he l
  rw [flatC] at this ⊢
  rw [List.flatMap_cons,List.length_append,he,this,List.length_cons,Nat.add_mul,Nat.one_mul,Nat.add_comm]
theorem flatC_append {α : Type} (enc : α → List Value) (l m : List α) : flatC enc (l ++ m) = flatC enc l ++ flatC enc m:=List.flatMap_append
theorem flatC_at {α : Type} {enc : α → List Value} {s : Nat} (he : ∀ x,(enc x).length = s) (l : List α) (j c : Nat) (hj : j < l.length) (hc : c < s) : (flatC enc l)[j * s + c]? = (enc l[j])[c]?:=by
 have hsp : l = l.take j ++ l[j] :: l.drop (j + 1):=by rw [← List.drop_eq_getElem_cons hj,List.take_append_drop]
 have hl : (flatC enc (l.take j)).length = j * s:=by rw [flatC_length he,List.length_take,Nat.min_eq_left (by omega)]
 have h2 : flatC enc l = flatC enc (l.take j) ++ (enc l[j] ++ flatC enc (l.drop (j + 1))):=by
  conv => lhs;rw [hsp,flatC_append]
  rfl
 rw [h2,List.getElem?_append_right (by omega),hl,show j * s + c - j * s = c by omega,List.getElem?_append_left (by rw [he];exact hc)]
theorem lay_cells {α : Type} {enc : α → List Value} {s : Nat} (he : ∀ x,(enc x).length = s) (l : List α) (i : Nat) (u : α) (hi : i < l.length) : lay (flatC enc l).toArray (i * s) (enc u) = (flatC enc (l.set i u)).toArray:=by
 have h1 : (i + 1) * s ≤ l.length * s:=Nat.mul_le_mul_right s hi
 rw [Nat.add_mul,Nat.one_mul] at h1
 have hsz:=flatC_length he l
 apply Array.ext_getElem?
 intro j
 rw [lay_get? _ _ _ _ (by rw [he,List.size_toArray,hsz];exact h1),he,List.getElem?_toArray,List.getElem?_toArray]
 rcases Nat.lt_or_ge j (l.length * s) with hj | hj
 ·have hs : 0 < s:=Nat.pos_of_ne_zero (fun e => by rw [e] at hj;omega)
  have hq : j / s < l.length:=(Nat.div_lt_iff_lt_mul hs).2 hj
  have hc : j % s < s:=Nat.mod_lt _ hs
  have hje : j = j / s * s + j % s:=by rw [Nat.mul_comm];exact (Nat.div_add_mod j s).symm
  have hL:=flatC_at he l (j / s) (j % s) hq hc
  have hR:=flatC_at he (l.set i u) (j / s) (j % s) (by rw [List.length_set];exact hq) hc
  rw [← hje] at hL hR
  rw [hR,hL,List.getElem_set]
  by_cases hqi : i = j / s
  ·rw [if_pos hqi,if_pos ⟨by rw [hqi];omega,by rw [hqi];omega⟩]
   congr 1
   rw [hqi];omega
  ·rw [if_neg hqi,if_neg]
   rintro ⟨h2,h3⟩
   apply hqi
   have a1 : i ≤ j / s:=(Nat.le_div_iff_mul_le hs).2 h2
   have a2 : j / s < i + 1:=(Nat.div_lt_iff_lt_mul hs).2 (by rw [Nat.add_mul,Nat.one_mul];exact h3)
   omega
 ·rw [if_neg (by omega),List.getElem?_eq_none (by omega),List.getElem?_eq_none (by rw [flatC_length he,List.length_set];omega)]
def enc31 (x : S31) : List Value:=[.int .i64 x.f0,.int .i64 x.f1]
theorem enc31_len (x : S31) : (enc31 x).length = 2:=rfl
instance : Inhabited S31:=⟨z31⟩
structure RowW (W : World) (blk cap : Nat) (D : List S31) : Prop where
 ex : ∃ cur : Array Value,W.heap[blk]? = some (.cells cur 31 (0,0)) ∧ cur.size = cap * 2 ∧ cur.toList.take (D.length * 2) = flatC enc31 D
theorem RowW.cell {W : World} {blk cap : Nat} {D : List S31} (h : RowW W blk cap D) (j c : Nat) (hj : j < D.length) (hc : c < 2) : W.cell? ⟨blk,j * 2 + c,none⟩ = (enc31 D[j])[c]?:=by
 obtain ⟨cur,h1,h2,h3⟩:=h.ex
 rw [bCe h1,← flatC_at enc31_len D j c hj hc,← h3,List.getElem?_take,if_pos (by omega),Array.getElem?_toList]
theorem RowW.below {W W' : World} {blk cap : Nat} {D : List S31} (h : RowW W blk cap D) (hb : Below W.heap.size W W') : RowW W' blk cap D:=by
 obtain ⟨cur,h1,h2,h3⟩:=h.ex
 exact ⟨cur,blk_below h1 hb,h2,h3⟩
theorem RowW.frozen {W : World} {blk cap : Nat} {D : List S31} (h : RowW W blk cap D) (i : Nat) : W.frozen? ⟨blk,i,none⟩ = false:=by
 obtain ⟨cur,h1,h2,h3⟩:=h.ex
 exact bFr h1 i
theorem RowW.lt {W : World} {blk cap : Nat} {D : List S31} (h : RowW W blk cap D) : blk < W.heap.size:=by
 obtain ⟨cur,h1,h2,h3⟩:=h.ex
 exact blk_lt h1
theorem RowW.put {W : World} {blk cap : Nat} {D : List S31} (h : RowW W blk cap D) (hcap : D.length ≤ cap) (i : Nat) (hi : i < D.length) (u : S31) : RowW ((W.setCell ⟨blk,i * 2,none⟩ (.int .i64 u.f0)).setCell ⟨blk,i * 2 + 1,none⟩ (.int .i64 u.f1)) blk cap (D.set i u):=by
 obtain ⟨cur,h1,h2,h3⟩:=h.ex
 have hD:=flatC_length enc31_len D
 have hDs:=flatC_length enc31_len (D.set i u)
 rw [List.length_set] at hDs
 have hin : i * 2 + 2 ≤ cur.size:=by omega
 refine ⟨lay cur (i * 2) (enc31 u),(blk_put (blk_put h1 (i * 2) (.int .i64 u.f0) rfl) (i * 2 + 1) (.int .i64 u.f1) rfl),?_,?_⟩
 ·simp only [enc31,lay,Array.size_setIfInBounds];exact h2
 ·rw [List.length_set]
  apply List.ext_getElem?
  intro j
  have hL:=congrArg (fun a : Array Value => a[j]?) (lay_cells enc31_len D i u hi)
  simp only [List.getElem?_toArray] at hL
  rw [← hL,lay_get? _ _ _ _ (by rw [enc31_len,List.size_toArray,hD];omega),List.getElem?_take,Array.getElem?_toList,lay_get? _ _ _ _ (by rw [enc31_len];exact hin),enc31_len,List.getElem?_toArray]
  by_cases hj : j < D.length * 2
  ·rw [if_pos hj]
   have h4 : cur.toList[j]? = (flatC enc31 D).toArray[j]?:=by rw [List.getElem?_toArray,← h3,List.getElem?_take,if_pos hj]
   rw [h4]
  ·rw [if_neg hj,if_neg (by omega),List.getElem?_toArray,List.getElem?_eq_none (by omega)]
structure KB (w W : World) (g : Nat) : Prop where
 keep : KeepBut w W g none
 bel : Below g w W
 le : g ≤ W.heap.size
theorem KB.refl {w : World} {g : Nat} (h : g < w.heap.size) : KB w w g:=⟨KeepBut.refl _ _ _,Below.refl _ _,Nat.le_of_lt h⟩
theorem KB.step {w W W2 : World} {g : Nat} (h : KB w W g) (k : Below W.heap.size W W2) : KB w W2 g:=⟨h.keep.trans (KeepBut.of_below k g none) (.inl rfl),below_then h.bel h.le k,Nat.le_trans h.le k.size⟩
theorem KB.set_ {w W : World} {g : Nat} (h : KB w W g) (j : Nat) (u : Value) : KB w (W.setCell ⟨g,j,none⟩ u) g:=⟨h.keep.set_ j u,h.bel.setCell (Nat.le_refl g) _,by simpa [World.setCell] using h.le⟩
theorem enc31_reps {R : S31 → List Value → Prop} (hR : ∀ x cs,R x cs → cs = enc31 x) {l : List S31} {cs : List Value} (h : Reps R 2 l cs) : cs = flatC enc31 l:=by
 apply List.ext_getElem?
 intro i
 have h1:=h.1
 have hf:=flatC_length enc31_len l
 rcases Nat.lt_or_ge i (l.length * 2) with hi | hi
 ·have hq : i / 2 < l.length:=by omega
  have hc:=h.2 (i / 2) l[i / 2] (List.getElem?_eq_getElem hq)
  have he:=congrArg (fun z => z[i % 2]?) (hR _ _ hc)
  simp only [List.getElem?_take,List.getElem?_drop] at he
  rw [if_pos (by omega),← flatC_at enc31_len l (i / 2) (i % 2) hq (by omega),show i / 2 * 2 + i % 2 = i by omega] at he
  exact he
 ·rw [List.getElem?_eq_none (by omega),List.getElem?_eq_none (by omega)]
theorem reps_enc31 {R : S31 → List Value → Prop} (hR : ∀ x,R x (enc31 x)) (l : List S31) : Reps R 2 l (flatC enc31 l):=by
 refine ⟨flatC_length enc31_len l,fun j p hj => ?_⟩
 obtain ⟨hlt,rfl⟩:=List.getElem?_eq_some_iff.1 hj
 have e : ((flatC enc31 l).drop (j * 2)).take 2 = enc31 l[j]:=by
  apply List.ext_getElem?
  intro c
  rw [List.getElem?_take]
  by_cases hc : c < 2
  ·rw [if_pos hc,List.getElem?_drop,flatC_at enc31_len l j c hlt hc]
  ·rw [if_neg hc,List.getElem?_eq_none (by rw [enc31_len];omega)]
 rw [e]
 exact hR _
theorem RowW.of_R {w : World} {base : Nat} {ok : Nat → Prop} {v : Value} {l : List S31} (h : Kd.R k31 31 w base ok v l) (hn : 0 < l.length) :
  ∃ g cap,v = .slice (some ⟨g,0,none⟩) l.length cap ∧ base ≤ g ∧ RowW w g cap l ∧ l.length ≤ cap ∧ cap ≤ 9223372036854775807 ∧ ok g:=by
 obtain ⟨h0,inner,ho,hr⟩:=h
 have hi:=enc31_reps (fun x cs hx => k31_openM hx) hr
 rcases ho.2 with ⟨_,e0⟩ | ⟨g,cap,cur,rfl,hb,hg,hnc,hm,hs,ht⟩
 ·omega
 ·refine ⟨g,cap,rfl,hb,⟨cur,hg,hs,?_⟩,hnc,?_,h0 g rfl⟩
  ·rw [← hi];exact ht
  ·simpa [maxLen] using hm
theorem RowW.toR {w : World} {base g cap : Nat} {ok : Nat → Prop} {l : List S31} (h : RowW w g cap l) (hb : base ≤ g) (hc : l.length ≤ cap) (hm : cap ≤ 9223372036854775807) (hok : ok g) :
  Kd.R k31 31 w base ok (.slice (some ⟨g,0,none⟩) l.length cap) l:=by
 obtain ⟨cur,h1,h2,h3⟩:=h.ex
 refine ⟨fun k hk => ?_,flatC enc31 l,⟨flatC_length enc31_len l,.inr ⟨g,cap,cur,rfl,hb,h1,hc,by simpa [maxLen] using hm,h2,h3⟩⟩,reps_enc31 (fun x => k31_mkM _ _ _ x) l⟩
 obtain rfl : g = k:=by simpa [Value.ownBlock] using hk
 exact hok

structure BelowBy (w : World) where
 W : World
 h : Below w.heap.size w W
instance (w : World) : Inhabited (BelowBy w):=⟨⟨w,Below.refl _ _⟩⟩
theorem wp_region_quiet_below {P : Program} {id : Nat} {Q : Exit → Act → World → Prop} {a : Act} {w : World} {l : List Oper} (hm : P.follows .mixedOrders = true) (hB : Region.lexB .any l.toArray = true)
  (h : wpQuiet P l.toArray (fun w' => ∃ p : BelowBy w,w' = p.W) (fun a' => ∀ w',(∃ p : BelowBy w,w' = p.W) → Q .normal a' w') l a) : (Code.region id l.toArray true).wp P Q a w :=
 wp_region_quiet (C:=fun w' => ∃ p : BelowBy w,w' = p.W) hm hB ⟨⟨_,bwN (Below.refl _ w) 1⟩,rfl⟩ (by simpa using h)
theorem Calls.below_of {P : Program} {f : FuncId} {args : Array Value} {w : World} {p : BelowBy w} {v : Value} (h : Calls P f args p.W fun e w' => e = .returned v ∧ Below p.W.heap.size p.W w') : Calls P f args p.W fun e w'' => e = .returned v ∧ ∃ q : BelowBy w,w'' = q.W :=
 h.mono fun _ w' ⟨he,hb⟩ => ⟨he,⟨w',below_step p.h hb⟩,rfl⟩
def insIn (ord : S31 → S31 → Int) (a : Nat) : Nat → List S31 → List S31
 | 0,l => l
 | j + 1,l => if a < j + 1 ∧ ord (rd_T31 l ((j + 1 : Nat) : Int)) (rd_T31 l (j : Int)) < 0 then insIn ord a j ((l.set (j + 1) (rd_T31 l (j : Int))).set j (rd_T31 l ((j + 1 : Nat) : Int))) else l
def insOut (ord : S31 → S31 → Int) (a : Nat) : Nat → Nat → List S31 → List S31
 | 0,_,l => l
 | d + 1,i,l => insOut ord a d (i + 1) (insIn ord a i l)
theorem insIn_length (ord : S31 → S31 → Int) (a : Nat) : ∀ (j : Nat) (l : List S31),(insIn ord a j l).length = l.length
 | 0,l => rfl
 | j + 1,l => by
  rw [insIn]
  split
  ·rw [insIn_length ord a j,List.length_set,List.length_set]
  ·rfl
theorem rd31_mem {l : List S31} {j : Nat} (h : j < l.length) : rd_T31 l (j : Int) = l[j]:=by
 rw [rd_T31,List.getD_eq_getElem?_getD,Int.toNat_natCast,List.getElem?_eq_getElem h];rfl
theorem RowW.at {W : World} {blk cap : Nat} {D : List S31} (h : RowW W blk cap D) (j : Nat) (hj : j < D.length) : W.cell? ⟨blk,j * 2,none⟩ = some (.int .i64 (rd_T31 D (j : Int)).f0) ∧ W.cell? ⟨blk,j * 2 + 1,none⟩ = some (.int .i64 (rd_T31 D (j : Int)).f1):=by
 rw [rd31_mem hj]
 exact ⟨h.cell j 0 hj (by decide),h.cell j 1 hj (by decide)⟩
theorem ins_out {ord : S31 → S31 → Int} {a b i : Nat} {D E l : List S31} (h : insOut ord a (b - i) i D = insOut ord a (b - (a + 1)) (a + 1) l) (hi : i < b) (he : E = insIn ord a i D) : insOut ord a (b - (i + 1)) (i + 1) E = insOut ord a (b - (a + 1)) (a + 1) l:=by
 rw [← h,show b - i = (b - (i + 1)) + 1 by omega,insOut,← he]
set_option maxHeartbeats 8000000 in
set_option maxRecDepth 100000 in
theorem insW (g : FuncId) (lb : Array Value) (eg : ∀ args w,(callFunc g args).run Try.prog w = .ok (.enter g args) w) (ord : S31 → S31 → Int) (ok : S31 → Prop) (blk cap : Nat) (l : List S31) (a b : Nat) (w : World)
  (hp : ∀ (W : World) (x y : S31),ok x → ok y → KeepBut w W blk none → Calls Try.prog g (#[.agg #[.int .i64 x.f0,.int .i64 x.f1],.agg #[.int .i64 y.f0,.int .i64 y.f1]] ++ lb) W fun e w' => e = .returned (.int .i64 (ord x y)) ∧ Below W.heap.size W w')
  (hr : RowW w blk cap l) (hok : ∀ x ∈ l,ok x) (hab : a ≤ b) (hb : b ≤ l.length) (hln : l.length ≤ cap) (hcm : l.length ≤ 1152921504606846976) :
  Calls Try.prog 74 #[.slice (some ⟨blk,0,none⟩) l.length cap,.int .i64 a,.int .i64 b,.func (.func g) #[] lb] w fun e w' => e = .returned (.tuple #[]) ∧ KB w w' blk ∧ RowW w' blk cap (insOut ord a (b - (a + 1)) (a + 1) l):=by
 have mixed : Try.prog.follows .mixedOrders = true:=by kernel_rfl
 have huW:=Try.underlying31
 have HP:=aMk hp
 have HR:=aMk hr
 have HOK:=aMk hok
 clear hp hr hok
 go_enter Try.func74,Try.ntmps74
 go_wp2
 go_loopg [8] (b - a) (fun g1 vi wr => ∃ (i : Nat) (D : List S31),vi = .int .i64 i ∧ a < i ∧ i ≤ b + 1 ∧ b + 1 - i ≤ g1 + 1 ∧ D.length = l.length ∧ Aside0 (KB w wr blk ∧ RowW wr blk cap D ∧ (∀ x ∈ D,ok x) ∧ insOut ord a (b - i) i D = insOut ord a (b - (a + 1)) (a + 1) l))
 case atStart => exact ⟨a + 1,l,by go_num,by omega,by omega,by omega,rfl,⟨KB.refl HR.out.lt,HR.out,HOK.out,rfl⟩⟩
 case round =>
  obtain ⟨i,D,rfl,hai,hib,hg1,hD,HA⟩:=hrel
  by_cases hlt : i < b
  ·have hltz : (i : Int) < (b : Int):=by omega
   go_wp2
   go_loopg [9] i (fun g2 vj wr2 => ∃ (j : Nat) (E : List S31),vj = .int .i64 j ∧ a ≤ j ∧ j ≤ i ∧ j ≤ g2 ∧ E.length = l.length ∧ Aside0 (KB w wr2 blk ∧ RowW wr2 blk cap E ∧ (∀ x ∈ E,ok x) ∧ insIn ord a j E = insIn ord a i D))
   case atStart => exact ⟨i,D,rfl,by omega,Nat.le_refl _,Nat.le_refl _,hD,⟨HA.out.1,HA.out.2.1,HA.out.2.2.1,rfl⟩⟩
   case round =>
    obtain ⟨j,E,rfl,haj,hji,hg2,hE,HI⟩:=hrel
    by_cases hja : a < j
    ·obtain ⟨jp,rfl⟩ : ∃ jp,j = jp + 1:=⟨j - 1,by omega⟩
     obtain ⟨hK,hRE,hokE,hins⟩:=HI.out
     obtain ⟨x,hx⟩ : ∃ x,x = rd_T31 E ((jp + 1 : Nat) : Int):=⟨_,rfl⟩
     obtain ⟨y,hy⟩ : ∃ y,y = rd_T31 E (jp : Int):=⟨_,rfl⟩
     have hox : ok x:=hokE x (by rw [hx,rd31_mem (by omega)];exact List.getElem_mem ..)
     have hoy : ok y:=hokE y (by rw [hy,rd31_mem (by omega)];exact List.getElem_mem ..)
     rw [insIn,← hx,← hy] at hins
     have hjaz : (a : Int) < (jp : Int) + 1:=by omega
     have hwp : IntKind.i64.wrap (jp : Int) = (jp : Int):=by rw [IntKind.wrap_i64];omega
     have jz : (jp : Int) + 1 < (l.length : Int):=by omega
     have jz1 : (jp : Int) < (l.length : Int):=by omega
     have p0 : (0 : Int) ≤ (jp : Int) + 1:=by omega
     have e0 : ((jp : Int) + 1).toNat = jp + 1:=by omega
     have rc : ∀ p : BelowBy wr,RowW p.W blk cap E:=fun p => hRE.below p.h
     have c0 : ∀ p : BelowBy wr,p.W.cell? ⟨blk,(jp + 1) * 2,none⟩ = some (.int .i64 x.f0):=fun p => by rw [hx];exact ((rc p).at (jp + 1) (by omega)).1
     have c1 : ∀ p : BelowBy wr,p.W.cell? ⟨blk,(jp + 1) * 2 + 1,none⟩ = some (.int .i64 x.f1):=fun p => by rw [hx];exact ((rc p).at (jp + 1) (by omega)).2
     have c2 : ∀ p : BelowBy wr,p.W.cell? ⟨blk,jp * 2,none⟩ = some (.int .i64 y.f0):=fun p => by rw [hy];exact ((rc p).at jp (by omega)).1
     have c3 : ∀ p : BelowBy wr,p.W.cell? ⟨blk,jp * 2 + 1,none⟩ = some (.int .i64 y.f1):=fun p => by rw [hy];exact ((rc p).at jp (by omega)).2
     have hcg : ∀ p : BelowBy wr,Calls Try.prog g (#[.agg #[.int .i64 x.f0,.int .i64 x.f1],.agg #[.int .i64 y.f0,.int .i64 y.f1]] ++ lb) p.W fun e w' => e = .returned (.int .i64 (ord x y)) ∧ Below p.W.heap.size p.W w':=fun p => HP.out p.W x y hox hoy (hK.step p.h).keep
     have HX:=aMk (And.intro hx hy)
     have RC:=aMk (And.intro rc (And.intro hK (And.intro hokE hins)))
     clear hx hy rc hK hokE hins hRE HI hox hoy
     obtain ⟨ov,hov⟩ : ∃ ov,ov = ord x y:=⟨_,rfl⟩
     rw [← hov] at hcg
     have HOV:=aMk hov
     clear hov
     by_cases hlv : ov < 0
     ·go_wp2_with fail
      refine wp_region_quiet_below (by assumption) (by kernel_rfl) ?_
      repeat (quiet_step (first|(go_at_fn g;refine Calls.below_of (hcg _))))
      refine wpQuiet_nil ?_
      intro _ hw'
      obtain ⟨pq,hw''⟩:=hw'
      subst hw''
      go_wp2_with fail
      obtain ⟨W2,hW2⟩ : ∃ W2,W2 = pq.W:=⟨_,rfl⟩
      have hR2 : RowW W2 blk cap E:=by rw [hW2];exact RC.out.1 pq
      have hK2 : KB w W2 blk:=by rw [hW2];exact RC.out.2.1.step pq.h
      have hq : ∀ q,W2.frozen? ⟨blk,q,none⟩ = false:=fun q => hR2.frozen q
      have d0 : W2.cell? ⟨blk,(jp + 1) * 2,none⟩ = some (.int .i64 x.f0):=by rw [hW2];exact c0 pq
      have d1 : W2.cell? ⟨blk,(jp + 1) * 2 + 1,none⟩ = some (.int .i64 x.f1):=by rw [hW2];exact c1 pq
      have d2 : W2.cell? ⟨blk,jp * 2,none⟩ = some (.int .i64 y.f0):=by rw [hW2];exact c2 pq
      have d3 : W2.cell? ⟨blk,jp * 2 + 1,none⟩ = some (.int .i64 y.f1):=by rw [hW2];exact c3 pq
      have q0:=hq ((jp + 1) * 2)
      have q1:=hq ((jp + 1) * 2 + 1)
      have q2:=hq (jp * 2)
      have q3:=hq (jp * 2 + 1)
      have HF:=aMk (And.intro hR2 hK2)
      clear hR2 hK2 hq c0 c1 c2 c3 hcg
      rw [← hW2]
      clear hW2
      go_big_region_o
      all_goals go_wp2
      go_roundg jp
      case measure => omega
      case rel =>
       obtain ⟨hR2,hK2⟩:=HF.out
       obtain ⟨_,_,hokE,hins⟩:=RC.out
       obtain ⟨hx,hy⟩:=HX.out
       refine ⟨jp,(E.set (jp + 1) y).set jp x,by first | rfl | go_num,by omega,by omega,Nat.le_refl _,by rw [List.length_set,List.length_set];exact hE,⟨((((hK2.set_ _ _).set_ _ _).set_ _ _).set_ _ _).step (below_drew (Below.refl _ _)),⟨((hR2.put (by omega) (jp + 1) (by omega) y).put (by rw [List.length_set];omega) jp (by rw [List.length_set];omega) x).ex⟩,fun z hz => ?_,?_⟩⟩
       ·rcases List.mem_or_eq_of_mem_set hz with hz | rfl
        ·rcases List.mem_or_eq_of_mem_set hz with hz | rfl
         ·exact hokE z hz
         ·exact hokE _ (by rw [hy,rd31_mem (by omega)];exact List.getElem_mem ..)
        ·exact hokE _ (by rw [hx,rd31_mem (by omega)];exact List.getElem_mem ..)
       ·rw [if_pos ⟨hja,by rw [← HOV.out];exact hlv⟩] at hins
        exact hins
     ·have hnlv : ¬ ov < 0:=hlv
      go_wp2_with fail
      refine wp_region_quiet_below (by assumption) (by kernel_rfl) ?_
      repeat (quiet_step (first|(go_at_fn g;refine Calls.below_of (hcg _))))
      refine wpQuiet_nil ?_
      intro _ hw'
      obtain ⟨pq,hw''⟩:=hw'
      subst hw''
      go_wp2
      go_roundg (b - (i + 1))
      case measure => omega
      case rel => exact ⟨i + 1,E,by go_num,by omega,by omega,by omega,hE,⟨RC.out.2.1.step pq.h,RC.out.1 pq,RC.out.2.2.1,ins_out HA.out.2.2.2 hlt (by have h_:=RC.out.2.2.2;rwa [if_neg (fun h => by have:=h.2;rw [← HOV.out] at this;omega)] at h_)⟩⟩
    ·obtain rfl : j = a:=by omega
     have hjaz' : ¬ (j : Int) < (j : Int):=by omega
     have HI2:=HI
     clear HI
     go_wp2_with fail
     go_big_region_o
     all_goals go_wp2
     go_roundg (b - (i + 1))
     case measure => omega
     case rel => exact ⟨i + 1,E,by go_num,by omega,by omega,by omega,hE,⟨HI2.out.1.step (below_drew (Below.refl _ _)),⟨HI2.out.2.1.ex⟩,HI2.out.2.2.1,ins_out HA.out.2.2.2 hlt (by
      have h_:=HI2.out.2.2.2
      cases j with
      | zero => rwa [insIn] at h_
      | succ j => rwa [insIn,if_neg (fun h => by omega)] at h_)⟩⟩
  ·have hltz : ¬ (i : Int) < (b : Int):=by omega
   have HF:=aMk HA.out
   rw [show b - i = 0 by omega,insOut] at HF
   clear HA
   go_wp2
   go_end0
   obtain ⟨h1,h2,_,h4⟩:=HF.out
   rw [h4] at h2
   exact ⟨rfl,h1,h2⟩

def insAll (ord : S31 → S31 → Int) (l : List S31) : List S31:=insOut ord 0 (l.length - 1) 1 l
set_option maxHeartbeats 8000000 in
set_option maxRecDepth 100000 in
theorem stW (g : FuncId) (lb : Array Value) (eg : ∀ args w,(callFunc g args).run Try.prog w = .ok (.enter g args) w) (ord : S31 → S31 → Int) (ok : S31 → Prop) (blk cap : Nat) (l : List S31) (w : World)
  (hp : ∀ (W : World) (x y : S31),ok x → ok y → KeepBut w W blk none → Calls Try.prog g (#[.agg #[.int .i64 x.f0,.int .i64 x.f1],.agg #[.int .i64 y.f0,.int .i64 y.f1]] ++ lb) W fun e w' => e = .returned (.int .i64 (ord x y)) ∧ Below W.heap.size W w')
  (hr : RowW w blk cap l) (hok : ∀ x ∈ l,ok x) (hln : l.length ≤ cap) (h20 : l.length < 20) :
  Calls Try.prog 70 #[.slice (some ⟨blk,0,none⟩) l.length cap,.int .i64 l.length,.func (.func g) #[] lb] w fun e w' => e = .returned (.tuple #[]) ∧ KB w w' blk ∧ RowW w' blk cap (insAll ord l):=by
 have hc:=insW g lb eg ord ok blk cap l 0 l.length w hp hr hok (Nat.zero_le _) (Nat.le_refl _) hln (by omega)
 have hz : ¬ (20 : Int) ≤ (l.length : Int):=by omega
 have hz2 : ¬ (20 : Int) < (l.length : Int):=by omega
 clear hp hr hok
 go_enter Try.func70,Try.ntmps70
 go_wp2
 refine wp_loop_rounds 1 ?_
 rw [rounds_succ]
 go_wp2_with (go_at_call 74;refine hc.mono ?_;rintro e w1 ⟨rfl,hk,hr1⟩;have HF:=aMk (And.intro hk hr1);clear hk hr1)
 refine wp_loop_rounds 1 ?_
 rw [rounds_succ]
 go_wp2
 go_end0
 exact ⟨rfl,HF.out⟩
set_option maxHeartbeats 8000000 in
set_option maxRecDepth 100000 in
theorem ssW (g : FuncId) (lb : Array Value) (eg : ∀ args w,(callFunc g args).run Try.prog w = .ok (.enter g args) w) (ord : S31 → S31 → Int) (ok : S31 → Prop) (blk cap : Nat) (l : List S31) (w : World)
  (hp : ∀ (W : World) (x y : S31),ok x → ok y → KeepBut w W blk none → Calls Try.prog g (#[.agg #[.int .i64 x.f0,.int .i64 x.f1],.agg #[.int .i64 y.f0,.int .i64 y.f1]] ++ lb) W fun e w' => e = .returned (.int .i64 (ord x y)) ∧ Below W.heap.size W w')
  (hr : RowW w blk cap l) (hok : ∀ x ∈ l,ok x) (hln : l.length ≤ cap) (h20 : l.length < 20) :
  Calls Try.prog 54 #[.slice (some ⟨blk,0,none⟩) l.length cap,.func (.func g) #[] lb] w fun e w' => e = .returned (.tuple #[]) ∧ KB w w' blk ∧ RowW w' blk cap (insAll ord l):=by
 have hc:=stW g lb eg ord ok blk cap l w hp hr hok hln h20
 clear hp hr hok
 go_enter Try.func54,Try.ntmps54
 go_wp2_with (go_at_call 70;refine hc.mono ?_;rintro e w1 ⟨rfl,hk,hr1⟩;have HF:=aMk (And.intro hk hr1);clear hk hr1)
 go_end0
 exact ⟨rfl,HF.out⟩
set_option maxHeartbeats 8000000 in
theorem insW0 (f : Value) (A : Option Addr) (cap : Nat) (w : World) : Calls Try.prog 74 #[.slice A 0 cap,.int .i64 0,.int .i64 0,f] w fun e w' => e = .returned (.tuple #[]) ∧ Below w.heap.size w w':=by
 go_enter Try.func74,Try.ntmps74
 go_wp2
 refine wp_loop_rounds 1 ?_
 rw [rounds_succ]
 go_wp2
 go_end0
 exact ⟨rfl,Below.refl _ _⟩
set_option maxHeartbeats 8000000 in
theorem stW0 (f : Value) (A : Option Addr) (cap : Nat) (w : World) : Calls Try.prog 70 #[.slice A 0 cap,.int .i64 0,f] w fun e w' => e = .returned (.tuple #[]) ∧ Below w.heap.size w w':=by
 have hc:=insW0 f A cap w
 go_enter Try.func70,Try.ntmps70
 go_wp2
 refine wp_loop_rounds 1 ?_
 rw [rounds_succ]
 go_wp2_with (go_at_call 74;refine hc.mono ?_;rintro e w1 ⟨rfl,hb⟩;have HF:=aMk hb;clear hb)
 refine wp_loop_rounds 1 ?_
 rw [rounds_succ]
 go_wp2
 go_end0
 exact ⟨rfl,HF.out⟩
set_option maxHeartbeats 8000000 in
theorem ssW0 (f : Value) (A : Option Addr) (cap : Nat) (w : World) : Calls Try.prog 54 #[.slice A 0 cap,f] w fun e w' => e = .returned (.tuple #[]) ∧ Below w.heap.size w w':=by
 have hc:=stW0 f A cap w
 go_enter Try.func54,Try.ntmps54
 go_wp2_with (go_at_call 70;refine hc.mono ?_;rintro e w1 ⟨rfl,hb⟩;have HF:=aMk hb;clear hb)
 go_end0
 exact ⟨rfl,HF.out⟩
def okW (x : S31) : Prop:=(0 ≤ x.f0 ∧ x.f0 ≤ 4294967295) ∧ (0 ≤ x.f1 ∧ x.f1 ≤ 4294967295)
def ordW (x y : S31) : Int:=ordI x.f0 x.f1 y.f0 y.f1
instance (x : S31) : Decidable (okW x):=by unfold okW;infer_instance
def impl_Word_54.f (l0 : List S31) : Option (List S31):=if (∀ x ∈ l0,okW x) ∧ l0.length < 20 then some (insAll ordW l0) else none
theorem insOut_len (ord : S31 → S31 → Int) (a : Nat) : ∀ (d i : Nat) (l : List S31),(insOut ord a d i l).length = l.length
 | 0,_,_ => rfl
 | d + 1,i,l => by rw [insOut,insOut_len ord a d,insIn_length]
theorem impl_Word_54.calls (P0_ : Nat → Prop) (u9000_ : Value) (l0 : List S31) (r : List S31) (w0 w : World) (hB : Below w0.heap.size w0 w) (ho0 : Kd.R k31 31 w w0.heap.size P0_ u9000_ l0) (h : impl_Word_54.f l0 = some r) :
  Calls Try.prog 54 #[u9000_,.func (.func 44) #[] #[]] w fun e w' => e = .returned (.tuple #[]) ∧ Kd.R k31 31 w' w0.heap.size (fun k_ => (P0_ k_ ∨ w.heap.size ≤ k_)) u9000_ r ∧ Below w0.heap.size w0 w' ∧ Kept w w' (fun k_ => P0_ k_):=by
 obtain ⟨⟨hok,h20⟩,rfl⟩ : ((∀ x ∈ l0,okW x) ∧ l0.length < 20) ∧ insAll ordW l0 = r:=by
  rw [impl_Word_54.f] at h
  by_cases hc : (∀ x ∈ l0,okW x) ∧ l0.length < 20
  ·rw [if_pos hc] at h
   exact ⟨hc,Option.some.inj h⟩
  ·rw [if_neg hc] at h
   cases h
 by_cases hl : 0 < l0.length
 ·obtain ⟨blk,cap,rfl,hbb,hrow,hlc,hcm,hokb⟩:=RowW.of_R ho0 hl
  refine (ssW 44 #[] (enters_of Try.func44 (by kernel_rfl) rfl) ordW okW blk cap l0 w (fun W x y hx hy _ => (impl_Word_order.calls 4 x.f0 x.f1 y.f0 y.f1 _ W (impl_order_eq hx.1.1 hx.1.2 hx.2.1 hy.1.1 hy.1.2 hy.2.1 4 (by decide)))) hrow hok hlc h20).mono ?_
  rintro e w' ⟨rfl,hk,hr⟩
  have hle : (insAll ordW l0).length = l0.length:=insOut_len ..
  have hR:=hr.toR (ok:=fun k_ => (P0_ k_ ∨ w.heap.size ≤ k_)) hbb (by omega) hcm (.inl hokb)
  rw [hle] at hR
  exact ⟨rfl,hR,⟨hk.bel.os.trans hB.os,hk.bel.tape.trans hB.tape,hk.bel.output.trans hB.output,Nat.le_trans hB.size hk.bel.size,fun k hk1 => (hk.bel.block k (by omega)).trans (hB.block k hk1)⟩,hk.keep.1,fun j hj hn => hk.keep.2 j hj (fun e => hn (e ▸ hokb)) (by simp)⟩
 ·obtain rfl : l0 = []:=List.eq_nil_of_length_eq_zero (by omega)
  obtain ⟨A,c,rfl⟩:=Kd.R_slice ho0
  refine (ssW0 _ A c w).mono ?_
  rintro e w' ⟨rfl,hb⟩
  exact ⟨rfl,Kd.R_mono (Kd.R_below ho0 hb) (fun k hk => .inl hk),⟨hb.os.trans hB.os,hb.tape.trans hB.tape,hb.output.trans hB.output,Nat.le_trans hB.size hb.size,fun k hk => (hb.block k (by have:=hB.size;omega)).trans (hB.block k hk)⟩,Kept.of_below hb _⟩
end
section
/-! ### impl_SortWords: function 27 -/
def impl_SortWords.f (k : Nat) (l0 : List (S31)) : Option ((List (S31)) × Int):=if (l0.length : Int) > 4096 then (some (([] : List (S31)),2)) else ((impl_Word_51.f k l0).bind fun t430 => (if t430 = true then (some (([] : List (S31)),1)) else (if (l0.length : Int) > 100 then (some (([] : List (S31)),6)) else ((impl_Word_53.f l0).bind fun t431 => ((impl_Word_54.f t431).bind fun t434 => (some (t434,0)))))))
theorem impl_SortWords.mono : ∀ a0 k,LeO (impl_SortWords.f k a0) (impl_SortWords.f (k + 1) a0):=by
 intro a0 k
 unfold impl_SortWords.f
 repeat' first
   | (with_reducible exact impl_Word_51.mono ..)
   | (with_reducible exact LeO.refl _)
   | (with_reducible exact LeO.none _)
   | (with_reducible refine LeO.ite ?_ ?_)
   | (with_reducible refine LeO.bind ?_ (fun _ => ?_))
   | exact impl_Word_51.mono ..
   | exact LeO.none _
   | refine LeO.ite ?_ ?_
   | refine LeO.bind ?_ (fun _ => ?_)
set_option maxHeartbeats 8000000 in
set_option maxRecDepth 100000 in
theorem impl_SortWords.calls (k : Nat) (A0 : Option Addr) (c0 : Nat) (l0 : List (S31)) (r1 : List (S31)) (r2 : Int) (w : World) (hr0 : Kd.C k31 w A0 l0.length l0) (hc0 : l0.length ≤ c0) (h : impl_SortWords.f k l0 = some (r1,r2)) :
  Calls Try.prog 27 #[.slice A0 l0.length c0] w fun e w' => ∃ v0_ : Value,e = .returned (.tuple #[v0_,.int .i64 r2]) ∧ Kd.R k31 31 w' w.heap.size (fun _ => True) v0_ r1 ∧ Below w.heap.size w w':=by
 have HR0:=aMk hr0
 have HC0:=aMk hc0
 clear hr0 hc0
 have HB:=aMk (Below.refl w.heap.size w)
 have H : (if (l0.length : Int) > 4096 then (some (([] : List (S31)),2)) else ((impl_Word_51.f k l0).bind fun t430 => (if t430 = true then (some (([] : List (S31)),1)) else (if (l0.length : Int) > 100 then (some (([] : List (S31)),6)) else ((impl_Word_53.f l0).bind fun t431 => ((impl_Word_54.f t431).bind fun t434 => (some (t434,0)))))))) = some (r1,r2):=h
 clear h
 by_cases c2 : (l0.length : Int) > 4096
 ·rw [if_pos c2] at H
  have c2b0 : decide (4096 < (l0.length : Int)) = true:=decide_eq_true c2
  have c2b1 : decide (4096 < l0.length) = true:=decide_eq_true (by omega)
  clear c2
  simp only [Option.some.injEq,Prod.mk.injEq] at H
  obtain ⟨rfl,rfl⟩:=H
  go_enter Try.func27,Try.ntmps27
  go_wp2
  go_ret2
  exact ⟨_,by first | rfl|(simp [errW_none,errW_some] <;> rfl)|(simp [*,errW_none,errW_some] <;> rfl),by first|exact Kd.R_nil _ _ _ _ _|exact Kd.N_nil _ _ _ _ _|exact Kd.V_nil _ _ _ _ _|exact Kd.Q_nil _ _ _ _ _|exact Kd.S_nil _ _ _ _ _,by repeat (first|(with_reducible first|exact HB.out|apply bwA|apply bwN|apply bw1)|exact HB.out)⟩
 ·rw [if_neg c2] at H
  have c2b0 : decide (4096 < (l0.length : Int)) = false:=decide_eq_false c2
  have c2b1 : decide (4096 < l0.length) = false:=decide_eq_false (by omega)
  clear c2
  replace H:=Option.bind_eq_some_iff.mp H
  obtain ⟨t430,A30,H⟩:=H
  replace H : (if t430 = true then (some (([] : List (S31)),1)) else (if (l0.length : Int) > 100 then (some (([] : List (S31)),6)) else ((impl_Word_53.f l0).bind fun t431 => ((impl_Word_54.f t431).bind fun t434 => (some (t434,0)))))) = some (r1,r2):=H
  have A3:=aMk A30
  clear A30
  by_cases c4 : t430 = true
  ·subst c4
   have H1 : (some (([] : List (S31)),1)) = some (r1,r2):=by rw [if_pos rfl] at H;exact H
   clear H
   have H:=H1
   clear H1
   simp only [Option.some.injEq,Prod.mk.injEq] at H
   obtain ⟨rfl,rfl⟩:=H
   go_enter Try.func27,Try.ntmps27
   go_wp2_with (first|((with_reducible refine gate_callee (f:=51) rfl ?_);refine gLs 11 Try.func51 #[.slice A0 l0.length c0,.func (.func 52) #[] #[]] ?_;(with_reducible refine (impl_Word_51.calls k _ _ l0 true _ ?side1 ?side2 A3.out).mono ?_);(case side1 => repeat (first|exact HR0.out|(with_reducible refine Kd.C_alloc ?_ _)|(with_reducible refine Kd.C_drewN ?_ _)|(with_reducible refine Kd.C_drew ?_)));(case side2 => exact HC0.out);rintro e w5 ⟨rfl,hb⟩;refine ⟨_,rfl,?_⟩;have n0_:=aMk (bSt hb);clear HB;have HB:=n0_;clear n0_;(try clear hb);(try clear hb2);(try clear hk);(try clear hi)))
   go_ret2
   exact ⟨_,by first | rfl|(simp [errW_none,errW_some] <;> rfl)|(simp [*,errW_none,errW_some] <;> rfl),by first|exact Kd.R_nil _ _ _ _ _|exact Kd.N_nil _ _ _ _ _|exact Kd.V_nil _ _ _ _ _|exact Kd.Q_nil _ _ _ _ _|exact Kd.S_nil _ _ _ _ _,by repeat (first|(with_reducible first|exact HB.out|apply bwA|apply bwN|apply bw1)|exact HB.out)⟩
  ·replace c4:=Bool.eq_false_iff.mpr c4
   subst c4
   have H1 : (if (l0.length : Int) > 100 then (some (([] : List (S31)),6)) else ((impl_Word_53.f l0).bind fun t431 => ((impl_Word_54.f t431).bind fun t434 => (some (t434,0))))) = some (r1,r2):=by rw [if_neg (show ¬ (false = true) by decide)] at H;exact H
   clear H
   have H:=H1
   clear H1
   by_cases c6 : (l0.length : Int) > 100
   ·rw [if_pos c6] at H
    have c6b0 : decide (100 < (l0.length : Int)) = true:=decide_eq_true c6
    have c6b1 : decide (100 < l0.length) = true:=decide_eq_true (by omega)
    clear c6
    simp only [Option.some.injEq,Prod.mk.injEq] at H
    obtain ⟨rfl,rfl⟩:=H
    go_enter Try.func27,Try.ntmps27
    go_wp2_with (first|((with_reducible refine gate_callee (f:=51) rfl ?_);refine gLs 11 Try.func51 #[.slice A0 l0.length c0,.func (.func 52) #[] #[]] ?_;(with_reducible refine (impl_Word_51.calls k _ _ l0 false _ ?side1 ?side2 A3.out).mono ?_);(case side1 => repeat (first|exact HR0.out|(with_reducible refine Kd.C_alloc ?_ _)|(with_reducible refine Kd.C_drewN ?_ _)|(with_reducible refine Kd.C_drew ?_)));(case side2 => exact HC0.out);rintro e w7 ⟨rfl,hb⟩;refine ⟨_,rfl,?_⟩;have n0_:=aMk (bSt hb);clear HB;have HB:=n0_;clear n0_;(try clear hb);(try clear hb2);(try clear hk);(try clear hi)))
    go_ret2
    exact ⟨_,by first | rfl|(simp [errW_none,errW_some] <;> rfl)|(simp [*,errW_none,errW_some] <;> rfl),by first|exact Kd.R_nil _ _ _ _ _|exact Kd.N_nil _ _ _ _ _|exact Kd.V_nil _ _ _ _ _|exact Kd.Q_nil _ _ _ _ _|exact Kd.S_nil _ _ _ _ _,by repeat (first|(with_reducible first|exact HB.out|apply bwA|apply bwN|apply bw1)|exact HB.out)⟩
   ·rw [if_neg c6] at H
    have c6b0 : decide (100 < (l0.length : Int)) = false:=decide_eq_false c6
    have c6b1 : decide (100 < l0.length) = false:=decide_eq_false (by omega)
    clear c6
    replace H:=Option.bind_eq_some_iff.mp H
    obtain ⟨t431,A80,H⟩:=H
    replace H : ((impl_Word_54.f t431).bind fun t434 => (some (t434,0))) = some (r1,r2):=H
    have A8:=aMk A80
    clear A80
    replace H:=Option.bind_eq_some_iff.mp H
    obtain ⟨t434,A90,H⟩:=H
    replace H : (some (t434,0)) = some (r1,r2):=H
    have A9:=aMk A90
    clear A90
    simp only [Option.some.injEq,Prod.mk.injEq] at H
    obtain ⟨rfl,rfl⟩:=H
    go_enter Try.func27,Try.ntmps27
    go_wp2_with (first|((with_reducible refine gate_callee (f:=51) rfl ?_);refine gLs 11 Try.func51 #[.slice A0 l0.length c0,.func (.func 52) #[] #[]] ?_;(with_reducible refine (impl_Word_51.calls k _ _ l0 false _ ?side1 ?side2 A3.out).mono ?_);(case side1 => repeat (first|exact HR0.out|(with_reducible refine Kd.C_alloc ?_ _)|(with_reducible refine Kd.C_drewN ?_ _)|(with_reducible refine Kd.C_drew ?_)));(case side2 => exact HC0.out);rintro e w10 ⟨rfl,hb⟩;refine ⟨_,rfl,?_⟩;have n0_:=aMk (bSt hb);clear HB;have HB:=n0_;clear n0_;(try clear hb);(try clear hb2);(try clear hk);(try clear hi))|((with_reducible refine gate_callee (f:=53) rfl ?_);refine gLs 17 Try.func53 #[.slice A0 l0.length c0] ?_;(with_reducible refine (impl_Word_53.calls _ _ l0 t431 _ ?side1 ?side2 A8.out).mono ?_);(case side1 => repeat (first|exact (Kd.C_below HR0.out HB.out)|(with_reducible refine Kd.C_alloc ?_ _)|(with_reducible refine Kd.C_drewN ?_ _)|(with_reducible refine Kd.C_drew ?_)));(case side2 => exact HC0.out);rintro e w11 ⟨v432,rfl,ho0,hb⟩;refine ⟨_,rfl,?_⟩;have n0_:=aMk (Kd.R_lower ho0 bSz);have n1_:=aMk (bSt hb);clear HB;have HO433:=n0_;have HB:=n1_;clear n0_ n1_;(try clear hb);(try clear hb2);(try clear hk);(try clear hi);(try clear ho0);obtain ⟨Ao12,co12,eo12⟩:=Kd.R_slice HO433.out;subst eo12)|((with_reducible refine gate_callee (f:=54) rfl ?_);refine gLs 19 Try.func54 #[.slice Ao12 t431.length co12,.func (.func 44) #[] #[]] ?_;(with_reducible refine (impl_Word_54.calls (fun k_ => some k_ = (.slice Ao12 t431.length co12 : Value).ownBlock) (.slice Ao12 t431.length co12) t431 t434 w _ ?side1 ?side2 A9.out).mono ?_);(case side1 => repeat (first|(with_reducible first|exact HB.out|apply bwA|apply bwN|apply bw1)|exact HB.out));(case side2 => exact Kd.R_tight rfl HO433.out);rintro e w13 ⟨rfl,hy0,hb,hkp⟩;refine ⟨_,rfl,?_⟩;have n0_:=aMk (Kd.R_reok rfl hy0 (fun k_ e_ => HO433.out.1 k_ e_));have n1_:=aMk (hb);clear HO433;clear HB;have HO433:=n0_;have HB:=n1_;clear n0_ n1_;(try clear hb);(try clear hkp);(try clear hy0)))
    go_ret2
    exact ⟨_,by first | rfl|(simp [errW_none,errW_some] <;> rfl)|(simp [*,errW_none,errW_some] <;> rfl),by (with_reducible repeat (first|apply Kd.R_alloc|apply Kd.R_drewN|apply Kd.R_drew));exact HO433.out,by repeat (first|(with_reducible first|exact HB.out|apply bwA|apply bwN|apply bw1)|exact HB.out)⟩
end
section
/-- A state of type 80 at block g of W;what its slices lead to came in by w0. -/
def IsS80 (w0 W : World) (g : Nat) (f0 : List Int) (f1 : Int) (f2 : Int) : Prop:=∃ A0 c0,W.heap[g]? = some (.cells #[.slice A0 f0.length c0,.int .i64 f1,.int .i64 f2] 80 (0,0)) ∧ w0.heap.size ≤ g ∧ Kd.C (Kd.int .u8) w0 A0 f0.length f0
theorem IsS80.grown {w0 W : World} {g : Nat} {f0 : List Int} {f1 : Int} {f2 : Int} {W1 : World} {row : Option Nat} (h : IsS80 w0 W g f0 f1 f2) (hw : W.grownBy W1 row) (hne : some g ≠ row) : IsS80 w0 W1 g f0 f1 f2:=by
 obtain ⟨A0,c0,hb,hg,hr0⟩:=h
 exact ⟨A0,c0,blk_grown hb hw hne,hg,hr0⟩
theorem IsS80.kept {w0 W : World} {g : Nat} {f0 : List Int} {f1 : Int} {f2 : Int} {W1 : World} {S : Nat → Prop} (h : IsS80 w0 W g f0 f1 f2) (hk : Kept W W1 S) (hne : ¬ S g) : IsS80 w0 W1 g f0 f1 f2:=by
 obtain ⟨A0,c0,hb,hg,hr0⟩:=h
 exact ⟨A0,c0,blk_kept hb hk hne,hg,hr0⟩
theorem IsS80.below {w0 W : World} {g : Nat} {f0 : List Int} {f1 : Int} {f2 : Int} {W1 : World} (h : IsS80 w0 W g f0 f1 f2) (hw : Below W.heap.size W W1) : IsS80 w0 W1 g f0 f1 f2:=h.grown (grown_of_below hw none) (by simp)
theorem IsS80.alloc {w0 W : World} {g : Nat} {f0 : List Int} {f1 : Int} {f2 : Int} (h : IsS80 w0 W g f0 f1 f2) (o : Obj) : IsS80 w0 (W.alloc o) g f0 f1 f2:=h.below (bwA (Below.refl _ _) o)
theorem IsS80.drewN {w0 W : World} {g : Nat} {f0 : List Int} {f1 : Int} {f2 : Int} (h : IsS80 w0 W g f0 f1 f2) (m : Nat) : IsS80 w0 (W.drewN m) g f0 f1 f2:=h
theorem IsS80.drew {w0 W : World} {g : Nat} {f0 : List Int} {f1 : Int} {f2 : Int} (h : IsS80 w0 W g f0 f1 f2) : IsS80 w0 W.drew g f0 f1 f2:=h
theorem IsS80.at_ {w0 W : World} {g : Nat} {f0 : List Int} {f1 : Int} {f2 : Int} {w' : World} {m : Nat} (hq : W.drewN m = w') (h : IsS80 w0 W g f0 f1 f2) : IsS80 w0 w' g f0 f1 f2:=by subst hq;exact IsS80.drewN h m
theorem IsS80.apart {w0 W : World} {g : Nat} {f0 : List Int} {f1 : Int} {f2 : Int} {α : Type} {d : Kd α} {e : Nat} {base : Nat} {ok : Nat → Prop} {v : Value} {xs : List α} (h : IsS80 w0 W g f0 f1 f2) (ho : d.R e W base ok v xs) (ht : ∀ q,q ∈ e :: d.E → q ≠ 80) : d.R e W base (fun k => ok k ∧ k ≠ g) v xs:=by
 obtain ⟨A0,c0,hb,hg,hr0⟩:=h
 exact Kd.R_types ho hb ht
theorem IsS80.own_ne {w0 W : World} {g : Nat} {f0 : List Int} {f1 : Int} {f2 : Int} {α : Type} {d : Kd α} {e : Nat} {base : Nat} {ok : Nat → Prop} {v : Value} {xs : List α} (h : IsS80 w0 W g f0 f1 f2) (ho : d.R e W base ok v xs) (ht : e ≠ 80) : some g ≠ v.ownBlock:=by
 obtain ⟨A0,c0,hb,hg,hr0⟩:=h
 exact Kd.R_ne ho hb ht
theorem IsS80.lt {w0 W : World} {g : Nat} {f0 : List Int} {f1 : Int} {f2 : Int} (h : IsS80 w0 W g f0 f1 f2) : g < W.heap.size:=by
 obtain ⟨A0,c0,hb,hg,hr0⟩:=h
 exact blk_lt hb
theorem IsS80.ge {w0 W : World} {g : Nat} {f0 : List Int} {f1 : Int} {f2 : Int} (h : IsS80 w0 W g f0 f1 f2) : w0.heap.size ≤ g:=by
 obtain ⟨A0,c0,hb,hg,hr0⟩:=h
 exact hg
theorem IsS80.far {w0 W : World} {g : Nat} {f0 : List Int} {f1 : Int} {f2 : Int} {p : Addr} (h : IsS80 w0 W g f0 f1 f2) (hne : g ≠ p.block) (u : Value) : IsS80 w0 (W.setCell p u) g f0 f1 f2:=by
 obtain ⟨A0,c0,hb,hg,hr0⟩:=h
 exact ⟨A0,c0,blk_far hb hne u,hg,hr0⟩
theorem cellS80_0 {W : World} {g : Nat} {A0 : Option Addr} {c0 : Nat} {f0 : List Int} {f1 : Int} {f2 : Int} (h : W.heap[g]? = some (.cells #[.slice A0 f0.length c0,.int .i64 f1,.int .i64 f2] 80 (0,0))) : W.cell? ⟨g,0,none⟩ = some (.slice A0 f0.length c0):=(bCe h 0).trans rfl
theorem cellS80_1 {W : World} {g : Nat} {A0 : Option Addr} {c0 : Nat} {f0 : List Int} {f1 : Int} {f2 : Int} (h : W.heap[g]? = some (.cells #[.slice A0 f0.length c0,.int .i64 f1,.int .i64 f2] 80 (0,0))) : W.cell? ⟨g,1,none⟩ = some (.int .i64 f1):=(bCe h 1).trans rfl
theorem IsS80.set_1 {w0 W : World} {g : Nat} {f0 : List Int} {f1 : Int} {f2 : Int} (h : IsS80 w0 W g f0 f1 f2) (x : Int) : IsS80 w0 (W.setCell ⟨g,1,none⟩ (.int .i64 x)) g f0 x f2:=by
 obtain ⟨A0,c0,hb,hg,hr0⟩:=h
 exact ⟨A0,c0,by simpa using blk_set hb 1 (.int .i64 x),hg,hr0⟩
theorem cellS80_2 {W : World} {g : Nat} {A0 : Option Addr} {c0 : Nat} {f0 : List Int} {f1 : Int} {f2 : Int} (h : W.heap[g]? = some (.cells #[.slice A0 f0.length c0,.int .i64 f1,.int .i64 f2] 80 (0,0))) : W.cell? ⟨g,2,none⟩ = some (.int .i64 f2):=(bCe h 2).trans rfl
theorem IsS80.set_2 {w0 W : World} {g : Nat} {f0 : List Int} {f1 : Int} {f2 : Int} (h : IsS80 w0 W g f0 f1 f2) (x : Int) : IsS80 w0 (W.setCell ⟨g,2,none⟩ (.int .i64 x)) g f0 f1 x:=by
 obtain ⟨A0,c0,hb,hg,hr0⟩:=h
 exact ⟨A0,c0,by simpa using blk_set hb 2 (.int .i64 x),hg,hr0⟩
theorem IsS80.new (w0 W : World) (A0 : Option Addr) (c0 : Nat) (f0 : List Int) (f1 : Int) (f2 : Int) (hB : Below w0.heap.size w0 W) (hr0 : Kd.C (Kd.int .u8) w0 A0 f0.length f0) : IsS80 w0 (W.alloc (.cells #[.slice A0 f0.length c0,.int .i64 f1,.int .i64 f2] 80)) W.heap.size f0 f1 f2:=⟨A0,c0,by simpa using heap_alloc_new W _,hB.size,hr0⟩
end
section
/-! ### spec_l00Source: function 47 -/
def spec_l00Source.f (l0 : List Int) : Option (List Int × Int × Int):=some (l0,0,(l0.length : Int) % 1000)
set_option maxHeartbeats 8000000 in
set_option maxRecDepth 100000 in
theorem spec_l00Source.calls (A0 : Option Addr) (c0 : Nat) (l0 : List Int) (r1 : List Int) (r2 : Int) (r3 : Int) (w0 w : World) (hB : Below w0.heap.size w0 w) (hr0 : Kd.C (Kd.int .u8) w0 A0 l0.length l0) (hc0 : l0.length ≤ c0) (h : spec_l00Source.f l0 = some (r1,r2,r3)) :
  Calls Try.prog 47 #[.slice A0 l0.length c0] w fun e w' => ∃ g_ : Nat,e = .returned (.pointer (some ⟨g_,0,none⟩)) ∧ IsS80 w0 w' g_ r1 r2 r3 ∧ Below w0.heap.size w0 w' ∧ Below w.heap.size w w':=by
 have hu80:=Try.underlying80
 have HR0:=aMk hr0
 have HC0:=aMk hc0
 clear hr0 hc0
 have HBW:=aMk (Below.refl w.heap.size w)
 have HW0:=aMk hB.size
 have HB:=aMk hB
 clear hB
 have H : (some (l0,0,(l0.length : Int) % 1000)) = some (r1,r2,r3):=h
 clear h
 simp only [Option.some.injEq,Prod.mk.injEq] at H
 obtain ⟨rfl,rfl,rfl⟩:=H
 go_enter Try.func47,Try.ntmps47
 go_wp2_with (first|((with_reducible refine gate_dst (N:=8) rfl ?_);refine bxE (N:=8) (cs:=#[.slice A0 l0.length c0,.int .i64 0,.int .i64 ((l0.length : Int) % 1000)]) (t:=80) ?_;intro gb222 hg w2 hbox hb;have n0_:=aMk (below_step HBW.out hb);have n1_:=aMk (bSt hb);have n2_:=aMk (hbox);have n3_:=aMk ((by rw [hg];exact (below_size (by repeat (first|(with_reducible first|exact HBW.out|apply bwA|apply bwN|apply bw1)|exact HBW.out))) : w.heap.size ≤ gb222));have n4_:=aMk ((Nat.le_trans HW0.out (by rw [hg];exact (below_size (by repeat (first|(with_reducible first|exact HBW.out|apply bwA|apply bwN|apply bw1)|exact HBW.out))) : w.heap.size ≤ gb222) : w0.heap.size ≤ gb222));clear HBW;clear HB;have HBW:=n0_;have HB:=n1_;have BK222:=n2_;have GW222:=n3_;have GE222:=n4_;clear n0_ n1_ n2_ n3_ n4_;clear hb hbox hg))
 go_ret
 exact ⟨_,rfl,(show IsS80 w0 _ gb222 l0 0 ((l0.length : Int) % 1000) from ⟨_,_,by refine pB ?_;exact BK222.out,GE222.out,HR0.out⟩),by repeat (first|(with_reducible first|exact HB.out|apply bwA|apply bwN|apply bw1|refine below_set ?_ GE222.out)|exact HB.out),by repeat (first|(with_reducible first|exact HBW.out|apply bwA|apply bwN|apply bw1|refine below_set ?_ GW222.out)|exact HBW.out)⟩
end
section
/-! ### spec_l00Src_byte: function 73 -/
-- IMPORT Derived.Deep.QuietTactic
-- IMPORT Derived.BigQuiet
-- IMPORT Derived.RegionTactic
-- IMPORT Derived.BigRegion
def spec_l00Src_byte.f (s0_0 : List Int) (s0_1 : Int) (s0_2 : Int) : Option (Int × Int × Int) :=
 if wrap64 (s0_1 + 1) ≤ (s0_0.length : Int) then
  (if 1 ≤ wrap64 (s0_1 + 1) then some (wrap64 (rd s0_0 (wrap64 (wrap64 (s0_1 + 1) - 1))),wrap64 (s0_1 + 1),Int.tmod (wrap64 (wrap64 (wrap64 (s0_2 * 31) + wrap64 (rd s0_0 (wrap64 (wrap64 (s0_1 + 1) - 1)))) + 7)) 2147483648) else none)
 else if wrap64 (s0_1 + 1) > 3000 then some (0,wrap64 (s0_1 + 1),s0_2)
 else some (Int.tmod (wrap64 (Int.tdiv (Int.tmod (wrap64 (wrap64 (s0_2 * 1103515245) + 12345)) 2147483648) 65536)) 256,wrap64 (s0_1 + 1),Int.tmod (wrap64 (wrap64 (s0_2 * 1103515245) + 12345)) 2147483648)
set_option maxHeartbeats 8000000 in
set_option maxRecDepth 100000 in
theorem spec_l00Src_byte.calls (g : Nat) (s0_0 : List Int) (s0_1 : Int) (s0_2 : Int) (r1 : Int) (r2 : Int) (r3 : Int) (w0 w : World) (hI : IsS80 w0 w g s0_0 s0_1 s0_2) (hB : Below w0.heap.size w0 w) (h : spec_l00Src_byte.f s0_0 s0_1 s0_2 = some (r1,r2,r3)) :
  Calls Try.prog 73 #[.pointer (some ⟨g,0,none⟩)] w fun e w' => e = .returned (.int .i64 r1) ∧ IsS80 w0 w' g s0_0 r2 r3 ∧ Below w0.heap.size w0 w' ∧ KeepBut w w' g none:=by
 have hu80:=Try.underlying80
 have HI0:=aMk hI
 have HB0:=aMk hB
 have HH:=aMk h
 clear h hB
 obtain ⟨A1,c1,hb,hg,hr1⟩:=hI
 have HC:=aMk hr1
 have HG:=aMk hg
 clear hr1 hg
 have hc1:=cellS80_1 hb
 have hf1:=bFr hb 1
 clear hb
 go_enter Try.func73,Try.ntmps73
 go_wp2
 have n1:=aMk (IsS80.set_1 HI0.out (wrap64 (s0_1 + 1)))
 have n2:=aMk (below_set HB0.out HG.out (j:=1) (v:=.int .i64 (wrap64 (s0_1 + 1))))
 have n3:=aMk ((KeepBut.refl w g none).set_ 1 (.int .i64 (wrap64 (s0_1 + 1))))
 clear hc1 hf1 HI0 HB0
 generalize w.setCell ⟨g,1,none⟩ (.int .i64 (wrap64 (s0_1 + 1))) = w1 at n1 n2 n3 ⊢
 rw [spec_l00Src_byte.f] at HH
 generalize wrap64 (s0_1 + 1) = t at HH n1
 obtain ⟨A2,c2,hb,hg,hr2⟩:=n1.out
 have e1:=cellS80_1 hb
 have e0:=cellS80_0 hb
 have e2:=cellS80_2 hb
 have f2:=bFr hb 2
 have HG2:=aMk hg
 have HR:=aMk (Kd.C_below hr2 n2.out)
 have HC2:=aMk hr2
 clear hb hg hr2
 by_cases k1 : t ≤ (s0_0.length : Int)
 ·have d1 : decide (t ≤ (s0_0.length : Int)) = true:=decide_eq_true k1
  have H:=HH.out
  clear HH
  simp only [if_pos k1] at H
  by_cases k2 : 1 ≤ t
  ·rw [if_pos k2] at H
   have hw : wrap64 (t - 1) = t - 1:=by
    have:=HR.out.2.1
    unfold wrap64
    omega
   have hw2 : IntKind.i64.wrap (t - 1) = t - 1:=by rw [i64_w];exact hw
   rw [hw] at H
   simp only [Option.some.injEq,Prod.mk.injEq] at H
   obtain ⟨rfl,rfl,rfl⟩:=H
   obtain ⟨ad,rfl,hx⟩:=Kd.at_int HR.out (t - 1) (by omega) (by omega)
   have p1 : (0 : Int) ≤ t - 1:=by omega
   have q1 : t - 1 < (s0_0.length : Int):=by omega
   go_quiet (fail)
   go_wp2
   have m1:=aMk (IsS80.drewN n1.out nq)
   have g0 : (w1.drewN nq).cell? ⟨g,0,none⟩ = some (.slice (some ad) s0_0.length c2):=e0
   have g1 : (w1.drewN nq).cell? ⟨g,1,none⟩ = some (.int .i64 t):=e1
   have g2 : (w1.drewN nq).cell? ⟨g,2,none⟩ = some (.int .i64 s0_2):=e2
   have g3 : (w1.drewN nq).frozen? ⟨g,2,none⟩ = false:=f2
   have g4 : (w1.drewN nq).cell? (ad.add (t - 1).toNat) = some (Value.int .u8 (rd s0_0 (t - 1))):=hx
   have m2:=aMk (bwN n2.out nq)
   have m3:=aMk (keep_drewN n3.out nq)
   clear e0 e1 e2 f2 hx n1 n2 n3
   generalize w1.drewN nq = w2 at m1 m2 m3 g0 g1 g2 g3 g4 ⊢
   have g5 : w2.cell? (ad.add (t.toNat - 1)) = some (Value.int .u8 (rd s0_0 (t - 1))):=by rw [show t.toNat - 1 = (t - 1).toNat from by omega];exact g4
   go_region
   obtain ⟨z,hz⟩ : ∃ z,z = Int.tmod (wrap64 (wrap64 (wrap64 (s0_2 * 31) + wrap64 (rd s0_0 (t - 1))) + 7)) 2147483648:=⟨_,rfl⟩
   rw [← hz]
   have l1:=aMk (IsS80.drew (IsS80.set_2 m1.out z))
   have l2:=aMk (bw1 (below_set m2.out HG.out (j:=2) (v:=.int .i64 z)))
   have l3:=aMk (keep_drew (m3.out.set_ 2 (.int .i64 z)))
   have hz_:=aMk hz
   clear g0 g1 g2 g3 g4 g5 m1 m2 m3 hz
   generalize (w2.setCell ⟨g,2,none⟩ (.int .i64 z)).drew = w3 at l1 l2 l3 ⊢
   obtain ⟨A3,c3,hb,hg3,hr3⟩:=l1.out
   have r1:=cellS80_1 hb
   have r0:=cellS80_0 hb
   obtain ⟨ad3,rfl,hx3⟩:=Kd.at_int (Kd.C_below hr3 l2.out) (t - 1) (by omega) (by omega)
   have hx4 : w3.cell? (ad3.add (t.toNat - 1)) = some (Value.int .u8 (rd s0_0 (t - 1))):=by rw [show t.toNat - 1 = (t - 1).toNat from by omega];exact hx3
   clear hb hg3 hr3
   go_wp2
   go_quiet (fail)
   go_wp2
   go_ret
   exact ⟨rfl,by rw [← hz_.out];exact IsS80.drewN l1.out nq,bwN l2.out nq,keep_drewN l3.out nq⟩
  ·rw [if_neg k2] at H
   cases H
 ·have d1 : decide (t ≤ (s0_0.length : Int)) = false:=decide_eq_false k1
  have H:=HH.out
  clear HH
  simp only [if_neg k1] at H
  by_cases k3 : t > 3000
  ·have d3 : decide (t > 3000) = true:=decide_eq_true k3
   rw [if_pos k3] at H
   simp only [Option.some.injEq,Prod.mk.injEq] at H
   obtain ⟨rfl,rfl,rfl⟩:=H
   clear k1 k3
   go_quiet (fail)
   go_wp2
   go_ret
   exact ⟨rfl,IsS80.drewN n1.out nq,bwN n2.out nq,keep_drewN n3.out nq⟩
  ·have d3 : decide (t > 3000) = false:=decide_eq_false k3
   rw [if_neg k3] at H
   simp only [Option.some.injEq,Prod.mk.injEq] at H
   obtain ⟨rfl,rfl,rfl⟩:=H
   clear k1 k3
   go_quiet (fail)
   go_wp2
   go_ret
   exact ⟨rfl,IsS80.set_2 (IsS80.drewN n1.out nq) _,below_set (bwN n2.out nq) HG.out,(keep_drewN n3.out nq).set_ 2 _⟩
end
section
/-! ### spec_l00Src_next: function 67 -/
def spec_l00Src_next.f (s0_0 : List Int) (s0_1 : Int) (s0_2 : Int) (a1 : Int) : Option (Int × Int × Int):=if a1 ≤ 1 then (some (0,s0_1,s0_2)) else (if a1 ≤ 256 then ((spec_l00Src_byte.f s0_0 s0_1 s0_2).bind fun bt223 => (if a1 = 0 then (none) else (some (Int.tmod bt223.1 a1,bt223.2.1,bt223.2.2)))) else ((spec_l00Src_byte.f s0_0 s0_1 s0_2).bind fun bt226 => ((spec_l00Src_byte.f s0_0 bt226.2.1 bt226.2.2).bind fun bt229 => ((spec_l00Src_byte.f s0_0 bt229.2.1 bt229.2.2).bind fun bt232 => (if a1 = 0 then (none) else (some (Int.tmod (wrap64 ((wrap64 ((wrap64 (bt226.1 * 65536)) + (wrap64 (bt229.1 * 256)))) + bt232.1)) a1,bt232.2.1,bt232.2.2)))))))
set_option maxHeartbeats 8000000 in
set_option maxRecDepth 100000 in
theorem spec_l00Src_next.calls (g : Nat) (s0_0 : List Int) (s0_1 : Int) (s0_2 : Int) (a1 : Int) (r1 : Int) (r2 : Int) (r3 : Int) (w0 w : World) (hI : IsS80 w0 w g s0_0 s0_1 s0_2) (hB : Below w0.heap.size w0 w) (h : spec_l00Src_next.f s0_0 s0_1 s0_2 a1 = some (r1,r2,r3)) :
  Calls Try.prog 67 #[.pointer (some ⟨g,0,none⟩),.int .i64 a1] w fun e w' => e = .returned (.int .i64 r1) ∧ IsS80 w0 w' g s0_0 r2 r3 ∧ Below w0.heap.size w0 w' ∧ KeepBut w w' g none:=by
 have HI0:=aMk hI
 have HK:=aMk (KeepBut.refl w g none)
 have HL:=aMk hB.size
 clear hI
 have HW0:=aMk hB.size
 have HB:=aMk hB
 clear hB
 have H : (if a1 ≤ 1 then (some (0,s0_1,s0_2)) else (if a1 ≤ 256 then ((spec_l00Src_byte.f s0_0 s0_1 s0_2).bind fun bt223 => (if a1 = 0 then (none) else (some (Int.tmod bt223.1 a1,bt223.2.1,bt223.2.2)))) else ((spec_l00Src_byte.f s0_0 s0_1 s0_2).bind fun bt226 => ((spec_l00Src_byte.f s0_0 bt226.2.1 bt226.2.2).bind fun bt229 => ((spec_l00Src_byte.f s0_0 bt229.2.1 bt229.2.2).bind fun bt232 => (if a1 = 0 then (none) else (some (Int.tmod (wrap64 ((wrap64 ((wrap64 (bt226.1 * 65536)) + (wrap64 (bt229.1 * 256)))) + bt232.1)) a1,bt232.2.1,bt232.2.2)))))))) = some (r1,r2,r3):=h
 clear h
 by_cases c3 : a1 ≤ 1
 ·rw [if_pos c3] at H
  have c3b0 : decide (a1 ≤ 1) = true:=decide_eq_true c3
  clear c3
  simp only [Option.some.injEq,Prod.mk.injEq] at H
  obtain ⟨rfl,rfl,rfl⟩:=H
  go_enter Try.func67,Try.ntmps67
  go_wp2
  go_ret
  exact ⟨eRf,by repeat (first|(with_reducible first|exact HI0.out|apply IsS80.alloc|apply IsS80.drewN|apply IsS80.drew|apply IsS80.set_1|apply IsS80.set_2)|exact HI0.out),by repeat (first|(with_reducible first|exact HB.out|apply bwA|apply bwN|apply bw1|refine below_set ?_ (IsS80.ge HI0.out))|exact HB.out),by repeat (first|(with_reducible first|exact HK.out|apply KeepBut.set_|apply keep_drewN|apply keep_drew|apply keep_alloc)|exact HK.out)⟩
 ·rw [if_neg c3] at H
  have c3b0 : decide (a1 ≤ 1) = false:=decide_eq_false c3
  clear c3
  by_cases c4 : a1 ≤ 256
  ·rw [if_pos c4] at H
   have c4b0 : decide (a1 ≤ 256) = true:=decide_eq_true c4
   clear c4
   replace H:=Option.bind_eq_some_iff.mp H
   obtain ⟨⟨t223,t224,t225⟩,A50,H⟩:=H
   replace H : (if a1 = 0 then (none) else (some (Int.tmod t223 a1,t224,t225))) = some (r1,r2,r3):=H
   have A5:=aMk A50
   clear A50
   by_cases c6 : a1 = 0
   ·rw [if_pos c6] at H
    exact absurd H (by simp)
   ·rw [if_neg c6] at H
    have c6b0 : (a1 == 0) = false:=beq_eq_false_iff_ne.mpr c6
    have c6b1 : (a1 != 0) = true:=bne_iff_ne.mpr c6
    simp only [Option.some.injEq,Prod.mk.injEq] at H
    obtain ⟨rfl,rfl,rfl⟩:=H
    go_enter Try.func67,Try.ntmps67
    go_wp2_with (first|((with_reducible refine gate_callee (f:=73) rfl ?_);refine gLs 13 Try.func73 #[.pointer (some ⟨g,0,none⟩)] ?_;(with_reducible refine (spec_l00Src_byte.calls g s0_0 s0_1 s0_2 t223 t224 t225 w0 _ ?side1 ?side2 A5.out).mono ?_);(case side1 => repeat (first|(with_reducible first|exact HI0.out|apply IsS80.alloc|apply IsS80.drewN|apply IsS80.drew|apply IsS80.set_1|apply IsS80.set_2)|exact HI0.out));(case side2 => repeat (first|(with_reducible first|exact HB.out|apply bwA|apply bwN|apply bw1|refine below_set ?_ (IsS80.ge HI0.out))|exact HB.out));rintro e w7 ⟨rfl,hi,hb,hk⟩;refine ⟨_,rfl,?_⟩;have n0_:=aMk (KeepBut.trans (by repeat (first|(with_reducible first|exact HK.out|apply KeepBut.set_|apply keep_drewN|apply keep_drew|apply keep_alloc)|exact HK.out)) hk (.inl rfl));have n1_:=aMk (hb);have n2_:=aMk (hi);clear HK;clear HB;clear HI0;have HK:=n0_;have HB:=n1_;have HI0:=n2_;clear n0_ n1_ n2_;(try clear hb);(try clear hb2);(try clear hk);(try clear hi)))
    go_ret
    exact ⟨eRf,by repeat (first|(with_reducible first|exact HI0.out|apply IsS80.alloc|apply IsS80.drewN|apply IsS80.drew|apply IsS80.set_1|apply IsS80.set_2)|exact HI0.out),by repeat (first|(with_reducible first|exact HB.out|apply bwA|apply bwN|apply bw1|refine below_set ?_ (IsS80.ge HI0.out))|exact HB.out),by repeat (first|(with_reducible first|exact HK.out|apply KeepBut.set_|apply keep_drewN|apply keep_drew|apply keep_alloc)|exact HK.out)⟩
  ·rw [if_neg c4] at H
   have c4b0 : decide (a1 ≤ 256) = false:=decide_eq_false c4
   clear c4
   replace H:=Option.bind_eq_some_iff.mp H
   obtain ⟨⟨t226,t227,t228⟩,A80,H⟩:=H
   replace H : ((spec_l00Src_byte.f s0_0 t227 t228).bind fun bt229 => ((spec_l00Src_byte.f s0_0 bt229.2.1 bt229.2.2).bind fun bt232 => (if a1 = 0 then (none) else (some (Int.tmod (wrap64 ((wrap64 ((wrap64 (t226 * 65536)) + (wrap64 (bt229.1 * 256)))) + bt232.1)) a1,bt232.2.1,bt232.2.2))))) = some (r1,r2,r3):=H
   have A8:=aMk A80
   clear A80
   replace H:=Option.bind_eq_some_iff.mp H
   obtain ⟨⟨t229,t230,t231⟩,A90,H⟩:=H
   replace H : ((spec_l00Src_byte.f s0_0 t230 t231).bind fun bt232 => (if a1 = 0 then (none) else (some (Int.tmod (wrap64 ((wrap64 ((wrap64 (t226 * 65536)) + (wrap64 (t229 * 256)))) + bt232.1)) a1,bt232.2.1,bt232.2.2)))) = some (r1,r2,r3):=H
   have A9:=aMk A90
   clear A90
   replace H:=Option.bind_eq_some_iff.mp H
   obtain ⟨⟨t232,t233,t234⟩,A100,H⟩:=H
   replace H : (if a1 = 0 then (none) else (some (Int.tmod (wrap64 ((wrap64 ((wrap64 (t226 * 65536)) + (wrap64 (t229 * 256)))) + t232)) a1,t233,t234))) = some (r1,r2,r3):=H
   have A10:=aMk A100
   clear A100
   by_cases c11 : a1 = 0
   ·rw [if_pos c11] at H
    exact absurd H (by simp)
   ·rw [if_neg c11] at H
    have c11b0 : (a1 == 0) = false:=beq_eq_false_iff_ne.mpr c11
    have c11b1 : (a1 != 0) = true:=bne_iff_ne.mpr c11
    simp only [Option.some.injEq,Prod.mk.injEq] at H
    obtain ⟨rfl,rfl,rfl⟩:=H
    go_enter Try.func67,Try.ntmps67
    go_wp2_with (first|((with_reducible refine gate_callee (f:=73) rfl ?_);refine gLs 17 Try.func73 #[.pointer (some ⟨g,0,none⟩)] ?_;(with_reducible refine (spec_l00Src_byte.calls g s0_0 s0_1 s0_2 t226 t227 t228 w0 _ ?side1 ?side2 A8.out).mono ?_);(case side1 => repeat (first|(with_reducible first|exact HI0.out|apply IsS80.alloc|apply IsS80.drewN|apply IsS80.drew|apply IsS80.set_1|apply IsS80.set_2)|exact HI0.out));(case side2 => repeat (first|(with_reducible first|exact HB.out|apply bwA|apply bwN|apply bw1|refine below_set ?_ (IsS80.ge HI0.out))|exact HB.out));rintro e w12 ⟨rfl,hi,hb,hk⟩;refine ⟨_,rfl,?_⟩;have n0_:=aMk (KeepBut.trans (by repeat (first|(with_reducible first|exact HK.out|apply KeepBut.set_|apply keep_drewN|apply keep_drew|apply keep_alloc)|exact HK.out)) hk (.inl rfl));have n1_:=aMk (hb);have n2_:=aMk (hi);clear HK;clear HB;clear HI0;have HK:=n0_;have HB:=n1_;have HI0:=n2_;clear n0_ n1_ n2_;(try clear hb);(try clear hb2);(try clear hk);(try clear hi))|((with_reducible refine gate_callee (f:=73) rfl ?_);refine gLs 19 Try.func73 #[.pointer (some ⟨g,0,none⟩)] ?_;(with_reducible refine (spec_l00Src_byte.calls g s0_0 t227 t228 t229 t230 t231 w0 _ ?side1 ?side2 A9.out).mono ?_);(case side1 => repeat (first|(with_reducible first|exact HI0.out|apply IsS80.alloc|apply IsS80.drewN|apply IsS80.drew|apply IsS80.set_1|apply IsS80.set_2)|exact HI0.out));(case side2 => repeat (first|(with_reducible first|exact HB.out|apply bwA|apply bwN|apply bw1|refine below_set ?_ (IsS80.ge HI0.out))|exact HB.out));rintro e w13 ⟨rfl,hi,hb,hk⟩;refine ⟨_,rfl,?_⟩;have n0_:=aMk (KeepBut.trans (by repeat (first|(with_reducible first|exact HK.out|apply KeepBut.set_|apply keep_drewN|apply keep_drew|apply keep_alloc)|exact HK.out)) hk (.inl rfl));have n1_:=aMk (hb);have n2_:=aMk (hi);clear HK;clear HB;clear HI0;have HK:=n0_;have HB:=n1_;have HI0:=n2_;clear n0_ n1_ n2_;(try clear hb);(try clear hb2);(try clear hk);(try clear hi))|((with_reducible refine gate_callee (f:=73) rfl ?_);refine gLs 21 Try.func73 #[.pointer (some ⟨g,0,none⟩)] ?_;(with_reducible refine (spec_l00Src_byte.calls g s0_0 t230 t231 t232 t233 t234 w0 _ ?side1 ?side2 A10.out).mono ?_);(case side1 => repeat (first|(with_reducible first|exact HI0.out|apply IsS80.alloc|apply IsS80.drewN|apply IsS80.drew|apply IsS80.set_1|apply IsS80.set_2)|exact HI0.out));(case side2 => repeat (first|(with_reducible first|exact HB.out|apply bwA|apply bwN|apply bw1|refine below_set ?_ (IsS80.ge HI0.out))|exact HB.out));rintro e w14 ⟨rfl,hi,hb,hk⟩;refine ⟨_,rfl,?_⟩;have n0_:=aMk (KeepBut.trans (by repeat (first|(with_reducible first|exact HK.out|apply KeepBut.set_|apply keep_drewN|apply keep_drew|apply keep_alloc)|exact HK.out)) hk (.inl rfl));have n1_:=aMk (hb);have n2_:=aMk (hi);clear HK;clear HB;clear HI0;have HK:=n0_;have HB:=n1_;have HI0:=n2_;clear n0_ n1_ n2_;(try clear hb);(try clear hb2);(try clear hk);(try clear hi)))
    go_ret
    exact ⟨eRf,by repeat (first|(with_reducible first|exact HI0.out|apply IsS80.alloc|apply IsS80.drewN|apply IsS80.drew|apply IsS80.set_1|apply IsS80.set_2)|exact HI0.out),by repeat (first|(with_reducible first|exact HB.out|apply bwA|apply bwN|apply bw1|refine below_set ?_ (IsS80.ge HI0.out))|exact HB.out),by repeat (first|(with_reducible first|exact HK.out|apply KeepBut.set_|apply keep_drewN|apply keep_drew|apply keep_alloc)|exact HK.out)⟩
end
section
/-! ### spec_l00Src_bits: function 71 -/
def spec_l00Src_bits.f (s0_0 : List Int) (s0_1 : Int) (s0_2 : Int) : Option (Int × Int × Int × Int):=(spec_l00Src_next.f s0_0 s0_1 s0_2 4096).bind fun bt480 => ((spec_l00Src_next.f s0_0 bt480.2.1 bt480.2.2 3).bind fun bt483 => ((some (([(⟨0,0⟩ : S31),(⟨2147483648,0⟩ : S31),(⟨2146435072,0⟩ : S31),(⟨4293918720,0⟩ : S31),(⟨2146959360,0⟩ : S31),(⟨4293918720,1⟩ : S31),(⟨1072693248,0⟩ : S31),(⟨3220176896,0⟩ : S31),(⟨1083129856,0⟩ : S31),(⟨1083129855,4294967295⟩ : S31),(⟨0,1⟩ : S31),(⟨2146435071,4294967295⟩ : S31),(⟨4293918719,4294967295⟩ : S31),(⟨wrap64 (bt480.1 * 1048576),bt483.1⟩ : S31)] : List (S31)) : List (S31))).bind fun y486 => ((spec_l00Src_next.f s0_0 bt483.2.1 bt483.2.2 14).bind fun bt489 => (if 0 ≤ bt489.1 then (if bt489.1 < (y486.length : Int) then (some ((rd_T31 y486 bt489.1).f0,(rd_T31 y486 bt489.1).f1,bt489.2.1,bt489.2.2)) else (none)) else (none)))))
set_option maxHeartbeats 8000000 in
set_option maxRecDepth 100000 in
theorem spec_l00Src_bits.calls (g : Nat) (s0_0 : List Int) (s0_1 : Int) (s0_2 : Int) (r1 : Int) (r2 : Int) (r3 : Int) (r4 : Int) (w0 w : World) (hI : IsS80 w0 w g s0_0 s0_1 s0_2) (hB : Below w0.heap.size w0 w) (h : spec_l00Src_bits.f s0_0 s0_1 s0_2 = some (r1,r2,r3,r4)) :
  Calls Try.prog 71 #[.pointer (some ⟨g,0,none⟩)] w fun e w' => e = .returned (.agg #[.int .i64 r1,.int .i64 r2]) ∧ IsS80 w0 w' g s0_0 r3 r4 ∧ Below w0.heap.size w0 w' ∧ KeepBut w w' g none:=by
 have hu31:=Try.underlying31
 have HI0:=aMk hI
 have HK:=aMk (KeepBut.refl w g none)
 have HL:=aMk hB.size
 clear hI
 have HW0:=aMk hB.size
 have HB:=aMk hB
 clear hB
 have H : ((spec_l00Src_next.f s0_0 s0_1 s0_2 4096).bind fun bt480 => ((spec_l00Src_next.f s0_0 bt480.2.1 bt480.2.2 3).bind fun bt483 => ((some (([(⟨0,0⟩ : S31),(⟨2147483648,0⟩ : S31),(⟨2146435072,0⟩ : S31),(⟨4293918720,0⟩ : S31),(⟨2146959360,0⟩ : S31),(⟨4293918720,1⟩ : S31),(⟨1072693248,0⟩ : S31),(⟨3220176896,0⟩ : S31),(⟨1083129856,0⟩ : S31),(⟨1083129855,4294967295⟩ : S31),(⟨0,1⟩ : S31),(⟨2146435071,4294967295⟩ : S31),(⟨4293918719,4294967295⟩ : S31),(⟨wrap64 (bt480.1 * 1048576),bt483.1⟩ : S31)] : List (S31)) : List (S31))).bind fun y486 => ((spec_l00Src_next.f s0_0 bt483.2.1 bt483.2.2 14).bind fun bt489 => (if 0 ≤ bt489.1 then (if bt489.1 < (y486.length : Int) then (some ((rd_T31 y486 bt489.1).f0,(rd_T31 y486 bt489.1).f1,bt489.2.1,bt489.2.2)) else (none)) else (none)))))) = some (r1,r2,r3,r4):=h
 clear h
 replace H:=Option.bind_eq_some_iff.mp H
 obtain ⟨⟨t480,t481,t482⟩,A20,H⟩:=H
 replace H : ((spec_l00Src_next.f s0_0 t481 t482 3).bind fun bt483 => ((some (([(⟨0,0⟩ : S31),(⟨2147483648,0⟩ : S31),(⟨2146435072,0⟩ : S31),(⟨4293918720,0⟩ : S31),(⟨2146959360,0⟩ : S31),(⟨4293918720,1⟩ : S31),(⟨1072693248,0⟩ : S31),(⟨3220176896,0⟩ : S31),(⟨1083129856,0⟩ : S31),(⟨1083129855,4294967295⟩ : S31),(⟨0,1⟩ : S31),(⟨2146435071,4294967295⟩ : S31),(⟨4293918719,4294967295⟩ : S31),(⟨wrap64 (t480 * 1048576),bt483.1⟩ : S31)] : List (S31)) : List (S31))).bind fun y486 => ((spec_l00Src_next.f s0_0 bt483.2.1 bt483.2.2 14).bind fun bt489 => (if 0 ≤ bt489.1 then (if bt489.1 < (y486.length : Int) then (some ((rd_T31 y486 bt489.1).f0,(rd_T31 y486 bt489.1).f1,bt489.2.1,bt489.2.2)) else (none)) else (none))))) = some (r1,r2,r3,r4):=H
 have A2:=aMk A20
 clear A20
 replace H:=Option.bind_eq_some_iff.mp H
 obtain ⟨⟨t483,t484,t485⟩,A30,H⟩:=H
 replace H : ((some (([(⟨0,0⟩ : S31),(⟨2147483648,0⟩ : S31),(⟨2146435072,0⟩ : S31),(⟨4293918720,0⟩ : S31),(⟨2146959360,0⟩ : S31),(⟨4293918720,1⟩ : S31),(⟨1072693248,0⟩ : S31),(⟨3220176896,0⟩ : S31),(⟨1083129856,0⟩ : S31),(⟨1083129855,4294967295⟩ : S31),(⟨0,1⟩ : S31),(⟨2146435071,4294967295⟩ : S31),(⟨4293918719,4294967295⟩ : S31),(⟨wrap64 (t480 * 1048576),t483⟩ : S31)] : List (S31)) : List (S31))).bind fun y486 => ((spec_l00Src_next.f s0_0 t484 t485 14).bind fun bt489 => (if 0 ≤ bt489.1 then (if bt489.1 < (y486.length : Int) then (some ((rd_T31 y486 bt489.1).f0,(rd_T31 y486 bt489.1).f1,bt489.2.1,bt489.2.2)) else (none)) else (none)))) = some (r1,r2,r3,r4):=H
 have A3:=aMk A30
 clear A30
 obtain ⟨y486,hy486⟩ : ∃ y_ : List (S31),y_ = (([(⟨0,0⟩ : S31),(⟨2147483648,0⟩ : S31),(⟨2146435072,0⟩ : S31),(⟨4293918720,0⟩ : S31),(⟨2146959360,0⟩ : S31),(⟨4293918720,1⟩ : S31),(⟨1072693248,0⟩ : S31),(⟨3220176896,0⟩ : S31),(⟨1083129856,0⟩ : S31),(⟨1083129855,4294967295⟩ : S31),(⟨0,1⟩ : S31),(⟨2146435071,4294967295⟩ : S31),(⟨4293918719,4294967295⟩ : S31),(⟨wrap64 (t480 * 1048576),t483⟩ : S31)] : List (S31))):=⟨_,rfl⟩
 replace H : ((spec_l00Src_next.f s0_0 t484 t485 14).bind fun bt489 => (if 0 ≤ bt489.1 then (if bt489.1 < (y486.length : Int) then (some ((rd_T31 y486 bt489.1).f0,(rd_T31 y486 bt489.1).f1,bt489.2.1,bt489.2.2)) else (none)) else (none))) = some (r1,r2,r3,r4):=by first|(rw [hy486];with_reducible exact H)|(have H2_:=(Option.bind_some _ _).symm.trans H;rw [hy486];with_reducible exact H2_)|(have H2_:=(Option.bind_some _ _).symm.trans H;with_reducible exact H2_) | with_reducible exact H|(rw [hy486];exact H)|exact H
 have Ny486:=aMk hy486
 clear hy486
 replace H:=Option.bind_eq_some_iff.mp H
 obtain ⟨⟨t489,t490,t491⟩,A40,H⟩:=H
 replace H : (if 0 ≤ t489 then (if t489 < (y486.length : Int) then (some ((rd_T31 y486 t489).f0,(rd_T31 y486 t489).f1,t490,t491)) else (none)) else (none)) = some (r1,r2,r3,r4):=H
 have A4:=aMk A40
 clear A40
 by_cases c5 : 0 ≤ t489
 ·rw [if_pos c5] at H
  have c5b0 : decide (0 ≤ t489) = true:=decide_eq_true c5
  clear c5
  by_cases c6 : t489 < (y486.length : Int)
  ·rw [if_pos c6] at H
   have c6b0 : decide (t489 < (y486.length : Int)) = true:=decide_eq_true c6
   clear c6
   simp only [Option.some.injEq,Prod.mk.injEq] at H
   obtain ⟨rfl,rfl,rfl,rfl⟩:=H
   go_enter Try.func71,Try.ntmps71
   go_wp2_with (first|((with_reducible refine gate_dst (N:=2) rfl ?_);refine bxE (N:=2) (cs:=#[.int .i64 0,.int .i64 0]) (t:=31) ?_;intro gb479 hg w7 hbox hb;have n0_:=aMk (IsS80.below (by repeat (first|(with_reducible first|exact HI0.out|apply IsS80.alloc|apply IsS80.drewN|apply IsS80.drew|apply IsS80.set_1|apply IsS80.set_2)|exact HI0.out)) hb);have n1_:=aMk (KeepBut.trans (by repeat (first|(with_reducible first|exact HK.out|apply KeepBut.set_|apply keep_drewN|apply keep_drew|apply keep_alloc)|exact HK.out)) (KeepBut.of_below hb g none) (.inl rfl));have n2_:=aMk (below_step (by repeat (first|(with_reducible first|exact HB.out|apply bwA|apply bwN|apply bw1|refine below_set ?_ (IsS80.ge HI0.out))|exact HB.out)) hb);have n3_:=aMk (hbox);have n4_:=aMk ((by rw [hg];exact (keep_size (w:=w) (g:=g) (row:=none) (by repeat (first|(with_reducible first|exact HK.out|apply KeepBut.set_|apply keep_drewN|apply keep_drew|apply keep_alloc)|exact HK.out))) : w.heap.size ≤ gb479));have n5_:=aMk ((Nat.le_trans HW0.out (by rw [hg];exact (keep_size (w:=w) (g:=g) (row:=none) (by repeat (first|(with_reducible first|exact HK.out|apply KeepBut.set_|apply keep_drewN|apply keep_drew|apply keep_alloc)|exact HK.out))) : w.heap.size ≤ gb479) : w0.heap.size ≤ gb479));have n6_:=aMk ((by rw [hg];exact Nat.ne_of_lt (IsS80.lt (show IsS80 w0 _ g s0_0 s0_1 s0_2 from by repeat (first|(with_reducible first|exact HI0.out|apply IsS80.alloc|apply IsS80.drewN|apply IsS80.drew|apply IsS80.set_1|apply IsS80.set_2)|exact HI0.out))) : g ≠ gb479));have n7_:=aMk ((by rw [hg];exact Nat.ne_of_gt (IsS80.lt (show IsS80 w0 _ g s0_0 s0_1 s0_2 from by repeat (first|(with_reducible first|exact HI0.out|apply IsS80.alloc|apply IsS80.drewN|apply IsS80.drew|apply IsS80.set_1|apply IsS80.set_2)|exact HI0.out))) : gb479 ≠ g));clear HI0;clear HK;clear HB;have HI0:=n0_;have HK:=n1_;have HB:=n2_;have BK479:=n3_;have GW479:=n4_;have GE479:=n5_;have NB0_479:=n6_;have NB479_0:=n7_;clear n0_ n1_ n2_ n3_ n4_ n5_ n6_ n7_;clear hb hbox hg)|((with_reducible refine gate_callee (f:=67) rfl ?_);refine gLs 17 Try.func67 #[.pointer (some ⟨g,0,none⟩),.int .i64 4096] ?_;(with_reducible refine (spec_l00Src_next.calls g s0_0 s0_1 s0_2 4096 t480 t481 t482 w0 _ ?side1 ?side2 A2.out).mono ?_);(case side1 => repeat (first|(with_reducible first|exact HI0.out|apply IsS80.alloc|apply IsS80.drewN|apply IsS80.drew|apply IsS80.set_1|apply IsS80.set_2|refine IsS80.far ?_ NB0_479.out _)|exact HI0.out));(case side2 => repeat (first|(with_reducible first|exact HB.out|apply bwA|apply bwN|apply bw1|refine below_set ?_ (IsS80.ge HI0.out)|refine below_set ?_ GE479.out)|exact HB.out));rintro e w8 ⟨rfl,hi,hb,hk⟩;refine ⟨_,rfl,?_⟩;have n0_:=aMk (KeepBut.blk hk (g':=gb479) (o:=.cells #[.int .i64 0,.int .i64 0] 31 (0,0)) (by refine pB ?_;exact BK479.out) NB479_0.out (by simp));have n1_:=aMk (KeepBut.trans (by repeat (first|(with_reducible first|exact HK.out|apply KeepBut.set_|apply keep_drewN|apply keep_drew|apply keep_alloc|refine keep_far ?_ GW479.out _)|exact HK.out)) hk (.inl rfl));have n2_:=aMk (hb);have n3_:=aMk (hi);clear BK479;clear HK;clear HB;clear HI0;have BK479:=n0_;have HK:=n1_;have HB:=n2_;have HI0:=n3_;clear n0_ n1_ n2_ n3_;(try clear hb);(try clear hb2);(try clear hk);(try clear hi))|((with_reducible refine gate_callee (f:=67) rfl ?_);refine gLs 20 Try.func67 #[.pointer (some ⟨g,0,none⟩),.int .i64 3] ?_;(with_reducible refine (spec_l00Src_next.calls g s0_0 t481 t482 3 t483 t484 t485 w0 _ ?side1 ?side2 A3.out).mono ?_);(case side1 => repeat (first|(with_reducible first|exact HI0.out|apply IsS80.alloc|apply IsS80.drewN|apply IsS80.drew|apply IsS80.set_1|apply IsS80.set_2|refine IsS80.far ?_ NB0_479.out _)|exact HI0.out));(case side2 => repeat (first|(with_reducible first|exact HB.out|apply bwA|apply bwN|apply bw1|refine below_set ?_ (IsS80.ge HI0.out)|refine below_set ?_ GE479.out)|exact HB.out));rintro e w9 ⟨rfl,hi,hb,hk⟩;refine ⟨_,rfl,?_⟩;have n0_:=aMk (KeepBut.blk hk (g':=gb479) (o:=.cells #[.int .i64 0,.int .i64 0] 31 (0,0)) (by refine pB ?_;exact BK479.out) NB479_0.out (by simp));have n1_:=aMk (KeepBut.trans (by repeat (first|(with_reducible first|exact HK.out|apply KeepBut.set_|apply keep_drewN|apply keep_drew|apply keep_alloc|refine keep_far ?_ GW479.out _)|exact HK.out)) hk (.inl rfl));have n2_:=aMk (hb);have n3_:=aMk (hi);clear BK479;clear HK;clear HB;clear HI0;have BK479:=n0_;have HK:=n1_;have HB:=n2_;have HI0:=n3_;clear n0_ n1_ n2_ n3_;(try clear hb);(try clear hb2);(try clear hk);(try clear hi))|((with_reducible refine gate_dst (N:=22) rfl ?_);refine Kd.R_lit k31 _ 31 ?hg (N:=22) ?hd (xs:=([(⟨0,0⟩ : S31),(⟨2147483648,0⟩ : S31),(⟨2146435072,0⟩ : S31),(⟨4293918720,0⟩ : S31),(⟨2146959360,0⟩ : S31),(⟨4293918720,1⟩ : S31),(⟨1072693248,0⟩ : S31),(⟨3220176896,0⟩ : S31),(⟨1083129856,0⟩ : S31),(⟨1083129855,4294967295⟩ : S31),(⟨0,1⟩ : S31),(⟨2146435071,4294967295⟩ : S31),(⟨4293918719,4294967295⟩ : S31),(⟨wrap64 (t480 * 1048576),t483⟩ : S31)] : List (S31))) (inner:=[.int .i64 0,.int .i64 0,.int .i64 2147483648,.int .i64 0,.int .i64 2146435072,.int .i64 0,.int .i64 4293918720,.int .i64 0,.int .i64 2146959360,.int .i64 0,.int .i64 4293918720,.int .i64 1,.int .i64 1072693248,.int .i64 0,.int .i64 3220176896,.int .i64 0,.int .i64 1083129856,.int .i64 0,.int .i64 1083129855,.int .i64 4294967295,.int .i64 0,.int .i64 1,.int .i64 2146435071,.int .i64 4294967295,.int .i64 4293918719,.int .i64 4294967295,.int .i64 (wrap64 (t480 * 1048576)),.int .i64 t483]) (ok:=fun _ => True) (okp:=fun _ => True) ?hr ?hp (fun _ hk => hk) trivial (Below.refl _ _) (Nat.le_refl _) (by simp) ?_;(case hd => rfl);(case hg => rfl);(case hr => first|(go_simp;done)|(go_simp;rfl));(case hp => exact (Reps.c2 (show Kd.M k31 _ _ _ (⟨0,0⟩ : S31) [.int .i64 0,.int .i64 0] from (k31_mkM _ _ _ (⟨0,0⟩ : S31) )) (Reps.c2 (show Kd.M k31 _ _ _ (⟨2147483648,0⟩ : S31) [.int .i64 2147483648,.int .i64 0] from (k31_mkM _ _ _ (⟨2147483648,0⟩ : S31) )) (Reps.c2 (show Kd.M k31 _ _ _ (⟨2146435072,0⟩ : S31) [.int .i64 2146435072,.int .i64 0] from (k31_mkM _ _ _ (⟨2146435072,0⟩ : S31) )) (Reps.c2 (show Kd.M k31 _ _ _ (⟨4293918720,0⟩ : S31) [.int .i64 4293918720,.int .i64 0] from (k31_mkM _ _ _ (⟨4293918720,0⟩ : S31) )) (Reps.c2 (show Kd.M k31 _ _ _ (⟨2146959360,0⟩ : S31) [.int .i64 2146959360,.int .i64 0] from (k31_mkM _ _ _ (⟨2146959360,0⟩ : S31) )) (Reps.c2 (show Kd.M k31 _ _ _ (⟨4293918720,1⟩ : S31) [.int .i64 4293918720,.int .i64 1] from (k31_mkM _ _ _ (⟨4293918720,1⟩ : S31) )) (Reps.c2 (show Kd.M k31 _ _ _ (⟨1072693248,0⟩ : S31) [.int .i64 1072693248,.int .i64 0] from (k31_mkM _ _ _ (⟨1072693248,0⟩ : S31) )) (Reps.c2 (show Kd.M k31 _ _ _ (⟨3220176896,0⟩ : S31) [.int .i64 3220176896,.int .i64 0] from (k31_mkM _ _ _ (⟨3220176896,0⟩ : S31) )) (Reps.c2 (show Kd.M k31 _ _ _ (⟨1083129856,0⟩ : S31) [.int .i64 1083129856,.int .i64 0] from (k31_mkM _ _ _ (⟨1083129856,0⟩ : S31) )) (Reps.c2 (show Kd.M k31 _ _ _ (⟨1083129855,4294967295⟩ : S31) [.int .i64 1083129855,.int .i64 4294967295] from (k31_mkM _ _ _ (⟨1083129855,4294967295⟩ : S31) )) (Reps.c2 (show Kd.M k31 _ _ _ (⟨0,1⟩ : S31) [.int .i64 0,.int .i64 1] from (k31_mkM _ _ _ (⟨0,1⟩ : S31) )) (Reps.c2 (show Kd.M k31 _ _ _ (⟨2146435071,4294967295⟩ : S31) [.int .i64 2146435071,.int .i64 4294967295] from (k31_mkM _ _ _ (⟨2146435071,4294967295⟩ : S31) )) (Reps.c2 (show Kd.M k31 _ _ _ (⟨4293918719,4294967295⟩ : S31) [.int .i64 4293918719,.int .i64 4294967295] from (k31_mkM _ _ _ (⟨4293918719,4294967295⟩ : S31) )) (Reps.c2 (show Kd.M k31 _ _ _ (⟨wrap64 (t480 * 1048576),t483⟩ : S31) [.int .i64 (wrap64 (t480 * 1048576)),.int .i64 t483] from (k31_mkM _ _ _ (⟨wrap64 (t480 * 1048576),t483⟩ : S31) )) (Reps.none _ _))))))))))))))));intro v487 w10 ho11 hb hg_ hnew_;clear hg_ hnew_;(first|rw [← Ny486.out] at ho11|(simp only [Int.reduceToNat] at ho11;rw [← Ny486.out] at ho11));have n0_:=aMk (Kd.R_lower (Kd.R_newB ho11 (g:=gb479) (o:=.cells #[.int .i64 0,.int .i64 0] 31 (0,0)) (by refine pB ?_;exact BK479.out)) (keep_size (w:=w) (g:=g) (row:=none) (by repeat (first|(with_reducible first|exact HK.out|apply KeepBut.set_|apply keep_drewN|apply keep_drew|apply keep_alloc|refine keep_far ?_ GW479.out _)|exact HK.out))));have n1_:=aMk (IsS80.below (by repeat (first|(with_reducible first|exact HI0.out|apply IsS80.alloc|apply IsS80.drewN|apply IsS80.drew|apply IsS80.set_1|apply IsS80.set_2|refine IsS80.far ?_ NB0_479.out _)|exact HI0.out)) hb);have n2_:=aMk (bkB BK479.out hb);have n3_:=aMk (KeepBut.trans (by repeat (first|(with_reducible first|exact HK.out|apply KeepBut.set_|apply keep_drewN|apply keep_drew|apply keep_alloc|refine keep_far ?_ GW479.out _)|exact HK.out)) (KeepBut.of_below hb g none) (.inl rfl));have n4_:=aMk (below_step (by repeat (first|(with_reducible first|exact HB.out|apply bwA|apply bwN|apply bw1|refine below_set ?_ (IsS80.ge HI0.out)|refine below_set ?_ GE479.out)|exact HB.out)) hb);clear HI0;clear BK479;clear HK;clear HB;have HO488:=n0_;have HI0:=n1_;have BK479:=n2_;have HK:=n3_;have HB:=n4_;clear n0_ n1_ n2_ n3_ n4_;clear hb ho11)|((with_reducible refine gate_callee (f:=67) rfl ?_);refine gLs 24 Try.func67 #[.pointer (some ⟨g,0,none⟩),.int .i64 14] ?_;(with_reducible refine (spec_l00Src_next.calls g s0_0 t484 t485 14 t489 t490 t491 w0 _ ?side1 ?side2 A4.out).mono ?_);(case side1 => repeat (first|(with_reducible first|exact HI0.out|apply IsS80.alloc|apply IsS80.drewN|apply IsS80.drew|apply IsS80.set_1|apply IsS80.set_2|refine IsS80.far ?_ NB0_479.out _)|exact HI0.out));(case side2 => repeat (first|(with_reducible first|exact HB.out|apply bwA|apply bwN|apply bw1|refine below_set ?_ (IsS80.ge HI0.out)|refine below_set ?_ GE479.out)|exact HB.out));rintro e w12 ⟨rfl,hi,hb,hk⟩;refine ⟨_,rfl,?_⟩;have n0_:=aMk (KeepBut.blk hk (g':=gb479) (o:=.cells #[.int .i64 0,.int .i64 0] 31 (0,0)) (by refine pB ?_;exact BK479.out) NB479_0.out (by simp));have n1_:=aMk (Kd.R_mono (Kd.R_keep (IsS80.apart (show IsS80 w0 _ g s0_0 t484 t485 from by repeat (first|(with_reducible first|exact HI0.out|apply IsS80.alloc|apply IsS80.drewN|apply IsS80.drew|apply IsS80.set_1|apply IsS80.set_2|refine IsS80.far ?_ NB0_479.out _)|exact HI0.out)) (by (with_reducible repeat (first|apply Kd.R_alloc|apply Kd.R_drewN|apply Kd.R_drew));exact HO488.out) (by decide)) hk (fun _ h => h.2)) (fun _ h => h.1));have n2_:=aMk (KeepBut.trans (by repeat (first|(with_reducible first|exact HK.out|apply KeepBut.set_|apply keep_drewN|apply keep_drew|apply keep_alloc|refine keep_far ?_ GW479.out _)|exact HK.out)) hk (.inl rfl));have n3_:=aMk (hb);have n4_:=aMk (hi);clear BK479;clear HO488;clear HK;clear HB;clear HI0;have BK479:=n0_;have HO488:=n1_;have HK:=n2_;have HB:=n3_;have HI0:=n4_;clear n0_ n1_ n2_ n3_ n4_;(try clear hb);(try clear hb2);(try clear hk);(try clear hi);obtain ⟨Ao13,co13,eo13⟩:=Kd.R_slice HO488.out;subst eo13;have p492 : 0 ≤ (t489 : Int):=of_decide_eq_true (by first|(with_reducible assumption) | assumption);have q492 : t489 < (y486.length : Int):=of_decide_eq_true (by first|(with_reducible assumption) | assumption);obtain ⟨ad492,e492,hx492_0,hx492_1⟩:=at_T31 (Kd.R_reads' HO488.out).2.2 t489 p492 q492;cases e492;replace p492:=eq_true p492;replace q492:=eq_true q492;have hnb14:=NB479_0.out;have hnc14:=NB0_479.out;obtain ⟨hcz15_0,hcz15_1,hfz15_0,hfz15_1⟩:=bC2 BK479.out))
   refine bodyPost_ret (results_cell_row rfl _ _ gb479 31 #[.int .i64 ((rd_T31 y486 t489).f0),.int .i64 ((rd_T31 y486 t489).f1)] (0,0) _ rfl (by refine pB ?_;refine blk_put (cs:=#[.int .i64 ((rd_T31 y486 t489).f0),.int .i64 0]) ?_ 1 _ rfl;refine pB ?_;refine blk_put (cs:=#[.int .i64 0,.int .i64 0]) ?_ 0 _ rfl;refine pB ?_;exact BK479.out) Try.underlying31 rfl (by kernel_rfl)) rfl ?_
   exact ⟨eRf,by repeat (first|(with_reducible first|exact HI0.out|apply IsS80.alloc|apply IsS80.drewN|apply IsS80.drew|apply IsS80.set_1|apply IsS80.set_2|refine IsS80.far ?_ NB0_479.out _)|exact HI0.out),by repeat (first|(with_reducible first|exact HB.out|apply bwA|apply bwN|apply bw1|refine below_set ?_ (IsS80.ge HI0.out)|refine below_set ?_ GE479.out)|exact HB.out),by repeat (first|(with_reducible first|exact HK.out|apply KeepBut.set_|apply keep_drewN|apply keep_drew|apply keep_alloc|refine keep_far ?_ GW479.out _)|exact HK.out)⟩
  ·rw [if_neg c6] at H
   exact absurd H (by simp)
 ·rw [if_neg c5] at H
  exact absurd H (by simp)
end
section
/-! ### spec_l00Src_words: function 56 -/
def spec_l00Src_words.l0 : Nat → List (S31) → Int → List Int → Int → Int → Option ((List (S31)) × Int × Int)
 | 0,_,_,_,_,_ => none
 | k + 1,x3,x4,x1000,x1001,x1002 => if x4 > 0 then ((spec_l00Src_bits.f x1000 x1001 x1002).bind fun bt499 => (if x3.length < 8796093022208 then (spec_l00Src_words.l0 k (x3 ++ [(⟨bt499.1,bt499.2.1⟩ : S31)]) (wrap64 (x4 - 1)) x1000 bt499.2.2.1 bt499.2.2.2) else (none))) else (some (x3,x1001,x1002))
def spec_l00Src_words.f (k : Nat) (s0_0 : List Int) (s0_1 : Int) (s0_2 : Int) : Option ((List (S31)) × Int × Int):=(spec_l00Src_next.f s0_0 s0_1 s0_2 7).bind fun bt496 => (spec_l00Src_words.l0 k (([] : List (S31))) bt496.1 s0_0 bt496.2.1 bt496.2.2)
theorem spec_l00Src_words.mono_l : ∀ k,(∀ y0 y1 y2 y3 y4,LeO (spec_l00Src_words.l0 k y0 y1 y2 y3 y4) (spec_l00Src_words.l0 (k + 1) y0 y1 y2 y3 y4))
 | 0 => fun _ _ _ _ _ r h => by simp [spec_l00Src_words.l0] at h
 | k + 1 => by
  have ih0:=spec_l00Src_words.mono_l k
  ·intro y0 y1 y2 y3 y4
   unfold spec_l00Src_words.l0
   repeat' first
   | (with_reducible exact ih0 _ _ _ _ _)
   | (with_reducible exact LeO.refl _)
   | (with_reducible exact LeO.none _)
   | (with_reducible refine LeO.ite ?_ ?_)
   | (with_reducible refine LeO.bind ?_ (fun _ => ?_))
   | exact ih0 _ _ _ _ _
   | exact LeO.none _
   | refine LeO.ite ?_ ?_
   | refine LeO.bind ?_ (fun _ => ?_)
theorem spec_l00Src_words.mono : ∀ a0 a1 a2 k,LeO (spec_l00Src_words.f k a0 a1 a2) (spec_l00Src_words.f (k + 1) a0 a1 a2):=by
 intro a0 a1 a2 k
 have ih0:=spec_l00Src_words.mono_l k
 unfold spec_l00Src_words.f
 repeat' first
   | (with_reducible exact ih0 _ _ _ _ _)
   | (with_reducible exact LeO.refl _)
   | (with_reducible exact LeO.none _)
   | (with_reducible refine LeO.ite ?_ ?_)
   | (with_reducible refine LeO.bind ?_ (fun _ => ?_))
   | exact ih0 _ _ _ _ _
   | exact LeO.none _
   | refine LeO.ite ?_ ?_
   | refine LeO.bind ?_ (fun _ => ?_)
set_option maxHeartbeats 8000000 in
set_option maxRecDepth 100000 in
theorem spec_l00Src_words.calls (k : Nat) (g : Nat) (s0_0 : List Int) (s0_1 : Int) (s0_2 : Int) (r1 : List (S31)) (r2 : Int) (r3 : Int) (w0 w : World) (hI : IsS80 w0 w g s0_0 s0_1 s0_2) (hB : Below w0.heap.size w0 w) (h : spec_l00Src_words.f k s0_0 s0_1 s0_2 = some (r1,r2,r3)) :
  Calls Try.prog 56 #[.pointer (some ⟨g,0,none⟩)] w fun e w' => ∃ v0_ : Value,e = .returned (v0_) ∧ Kd.R k31 31 w' w.heap.size (fun _ => True) v0_ r1 ∧ IsS80 w0 w' g s0_0 r2 r3 ∧ Below w0.heap.size w0 w' ∧ KeepBut w w' g none:=by
 have HI0:=aMk hI
 have HK:=aMk (KeepBut.refl w g none)
 have HL:=aMk hB.size
 clear hI
 have HW0:=aMk hB.size
 have HB:=aMk hB
 clear hB
 have H : ((spec_l00Src_next.f s0_0 s0_1 s0_2 7).bind fun bt496 => (spec_l00Src_words.l0 k (([] : List (S31))) bt496.1 s0_0 bt496.2.1 bt496.2.2)) = some (r1,r2,r3):=h
 clear h
 obtain ⟨y493,hy493⟩ : ∃ y_ : List (S31),y_ = (([] : List (S31))):=⟨_,rfl⟩
 replace H : ((spec_l00Src_next.f s0_0 s0_1 s0_2 7).bind fun bt496 => (spec_l00Src_words.l0 k y493 bt496.1 s0_0 bt496.2.1 bt496.2.2)) = some (r1,r2,r3):=by first|(rw [hy493];with_reducible exact H)|(have H2_:=(Option.bind_some _ _).symm.trans H;rw [hy493];with_reducible exact H2_)|(have H2_:=(Option.bind_some _ _).symm.trans H;with_reducible exact H2_) | with_reducible exact H|(rw [hy493];exact H)|exact H
 have Ny493:=aMk hy493
 clear hy493
 replace H:=Option.bind_eq_some_iff.mp H
 obtain ⟨⟨t496,t497,t498⟩,A20,H⟩:=H
 replace H : (spec_l00Src_words.l0 k y493 t496 s0_0 t497 t498) = some (r1,r2,r3):=H
 have A2:=aMk A20
 clear A20
 have H':=aMk H
 clear H
 go_enter Try.func56,Try.ntmps56
 go_wp2_with (first|((with_reducible refine gate_dst (N:=5) rfl ?_);refine Kd.R_lit k31 _ 31 ?hg (N:=5) ?hd (xs:=([] : List (S31))) (inner:=[]) (ok:=fun _ => True) (okp:=fun _ => True) ?hr ?hp (fun _ hk => hk) trivial (Below.refl _ _) (Nat.le_refl _) (by simp) ?_;(case hd => rfl);(case hg => rfl);(case hr => first|(go_simp;done)|(go_simp;rfl));(case hp => exact (Reps.none _ _));intro v494 w3 ho4 hb hg_ hnew_;clear hg_ hnew_;(first|rw [← Ny493.out] at ho4|(simp only [Int.reduceToNat] at ho4;rw [← Ny493.out] at ho4));have n0_:=aMk (Kd.R_lower ho4 (keep_size (w:=w) (g:=g) (row:=none) (by repeat (first|(with_reducible first|exact HK.out|apply KeepBut.set_|apply keep_drewN|apply keep_drew|apply keep_alloc)|exact HK.out))));have n1_:=aMk (IsS80.below (by repeat (first|(with_reducible first|exact HI0.out|apply IsS80.alloc|apply IsS80.drewN|apply IsS80.drew|apply IsS80.set_1|apply IsS80.set_2)|exact HI0.out)) hb);have n2_:=aMk (KeepBut.trans (by repeat (first|(with_reducible first|exact HK.out|apply KeepBut.set_|apply keep_drewN|apply keep_drew|apply keep_alloc)|exact HK.out)) (KeepBut.of_below hb g none) (.inl rfl));have n3_:=aMk (below_step (by repeat (first|(with_reducible first|exact HB.out|apply bwA|apply bwN|apply bw1|refine below_set ?_ (IsS80.ge HI0.out))|exact HB.out)) hb);clear HI0;clear HK;clear HB;have HO495:=n0_;have HI0:=n1_;have HK:=n2_;have HB:=n3_;clear n0_ n1_ n2_ n3_;clear hb ho4)|((with_reducible refine gate_callee (f:=67) rfl ?_);refine gLs 7 Try.func67 #[.pointer (some ⟨g,0,none⟩),.int .i64 7] ?_;(with_reducible refine (spec_l00Src_next.calls g s0_0 s0_1 s0_2 7 t496 t497 t498 w0 _ ?side1 ?side2 A2.out).mono ?_);(case side1 => repeat (first|(with_reducible first|exact HI0.out|apply IsS80.alloc|apply IsS80.drewN|apply IsS80.drew|apply IsS80.set_1|apply IsS80.set_2)|exact HI0.out));(case side2 => repeat (first|(with_reducible first|exact HB.out|apply bwA|apply bwN|apply bw1|refine below_set ?_ (IsS80.ge HI0.out))|exact HB.out));rintro e w5 ⟨rfl,hi,hb,hk⟩;refine ⟨_,rfl,?_⟩;have n0_:=aMk (Kd.R_mono (Kd.R_keep (IsS80.apart (show IsS80 w0 _ g s0_0 s0_1 s0_2 from by repeat (first|(with_reducible first|exact HI0.out|apply IsS80.alloc|apply IsS80.drewN|apply IsS80.drew|apply IsS80.set_1|apply IsS80.set_2)|exact HI0.out)) (by (with_reducible repeat (first|apply Kd.R_alloc|apply Kd.R_drewN|apply Kd.R_drew));exact HO495.out) (by decide)) hk (fun _ h => h.2)) (fun _ h => h.1));have n1_:=aMk (KeepBut.trans (by repeat (first|(with_reducible first|exact HK.out|apply KeepBut.set_|apply keep_drewN|apply keep_drew|apply keep_alloc)|exact HK.out)) hk (.inl rfl));have n2_:=aMk (hb);have n3_:=aMk (hi);clear HO495;clear HK;clear HB;clear HI0;have HO495:=n0_;have HK:=n1_;have HB:=n2_;have HI0:=n3_;clear n0_ n1_ n2_ n3_;(try clear hb);(try clear hb2);(try clear hk);(try clear hi)))
 go_loopg [3,4] k (fun kq v3 v4 w' => ∃ (x3_1 : List (S31)) (x4_1 : Int) (x1001_1 : Int) (x1002_1 : Int),v4 = .int .i64 x4_1 ∧ Aside0 (spec_l00Src_words.l0 kq x3_1 x4_1 s0_0 x1001_1 x1002_1 = some (r1,r2,r3)) ∧ Aside0 (kq ≤ k) ∧ Aside0 (Kd.R k31 31 w' w.heap.size (fun _ => True) v3 x3_1) ∧ Aside0 (IsS80 w0 w' g s0_0 x1001_1 x1002_1) ∧ Aside0 (KeepBut w w' g none) ∧ Aside0 (Below w0.heap.size w0 w'))
 case atStart => exact ⟨(y493),(t496),(t497),(t498),(by first | rfl|(simp;done)|(simp [*];done)|(simp [ne_nil_b];done)|(simp [ne_nil_b, *];done)),H',⟨Nat.le_refl _⟩,⟨by (with_reducible repeat (first|apply Kd.R_alloc|apply Kd.R_drewN|apply Kd.R_drew));exact HO495.out⟩,⟨by repeat (first|(with_reducible first|exact HI0.out|apply IsS80.alloc|apply IsS80.drewN|apply IsS80.drew|apply IsS80.set_1|apply IsS80.set_2)|exact HI0.out)⟩,⟨by repeat (first|(with_reducible first|exact HK.out|apply KeepBut.set_|apply keep_drewN|apply keep_drew|apply keep_alloc)|exact HK.out)⟩,⟨by repeat (first|(with_reducible first|exact HB.out|apply bwA|apply bwN|apply bw1|refine below_set ?_ (IsS80.ge HI0.out))|exact HB.out)⟩⟩
 case round =>
  clear H'
  try clear p2
  try clear c5
  obtain ⟨x3_1,x4_1,x1001_1,x1002_1,rfl,HA,HK1,HO_3,HI0,HK,HB⟩:=hrel
  cases gk with
  | zero => exact absurd HA.out (by simp [spec_l00Src_words.l0])
  | succ k1 =>
   have H:=HA.out
   clear HA
   simp only [spec_l00Src_words.l0] at H
   by_cases c6 : x4_1 > 0
   ·rw [if_pos c6] at H
    have c6b0 : decide (0 < x4_1) = true:=decide_eq_true c6
    clear c6
    replace H:=Option.bind_eq_some_iff.mp H
    obtain ⟨⟨t499,t500,t501,t502⟩,A70,H⟩:=H
    replace H : (if x3_1.length < 8796093022208 then (spec_l00Src_words.l0 k1 (x3_1 ++ [(⟨t499,t500⟩ : S31)]) (wrap64 (x4_1 - 1)) s0_0 t501 t502) else (none)) = some (r1,r2,r3):=H
    have A7:=aMk A70
    clear A70
    by_cases c8 : x3_1.length < 8796093022208
    ·rw [if_pos c8] at H
     have LMc8:=aMk c8
     clear c8
     obtain ⟨y503,hy503⟩ : ∃ y_ : List (S31),y_ = (x3_1 ++ [(⟨t499,t500⟩ : S31)]):=⟨_,rfl⟩
     replace H : (spec_l00Src_words.l0 k1 y503 (wrap64 (x4_1 - 1)) s0_0 t501 t502) = some (r1,r2,r3):=by first|(rw [hy503];with_reducible exact H)|(have H2_:=(Option.bind_some _ _).symm.trans H;rw [hy503];with_reducible exact H2_)|(have H2_:=(Option.bind_some _ _).symm.trans H;with_reducible exact H2_) | with_reducible exact H|(rw [hy503];exact H)|exact H
     have Ny503:=aMk hy503
     clear hy503
     have H':=aMk H
     clear H
     go_wp2_with (first|((with_reducible refine gate_callee (f:=71) rfl ?_);refine gLs 14 Try.func71 #[.pointer (some ⟨g,0,none⟩)] ?_;(with_reducible refine (spec_l00Src_bits.calls g s0_0 x1001_1 x1002_1 t499 t500 t501 t502 w0 _ ?side1 ?side2 A7.out).mono ?_);(case side1 => repeat (first|(with_reducible first|exact HI0.out|apply IsS80.alloc|apply IsS80.drewN|apply IsS80.drew|apply IsS80.set_1|apply IsS80.set_2)|exact HI0.out));(case side2 => repeat (first|(with_reducible first|exact HB.out|apply bwA|apply bwN|apply bw1|refine below_set ?_ (IsS80.ge HI0.out))|exact HB.out));rintro e w9 ⟨rfl,hi,hb,hk⟩;refine ⟨_,rfl,?_⟩;have n0_:=aMk (Kd.R_mono (Kd.R_keep (IsS80.apart (show IsS80 w0 _ g s0_0 x1001_1 x1002_1 from by repeat (first|(with_reducible first|exact HI0.out|apply IsS80.alloc|apply IsS80.drewN|apply IsS80.drew|apply IsS80.set_1|apply IsS80.set_2)|exact HI0.out)) (by (with_reducible repeat (first|apply Kd.R_alloc|apply Kd.R_drewN|apply Kd.R_drew));exact HO_3.out) (by decide)) hk (fun _ h => h.2)) (fun _ h => h.1));have n1_:=aMk (KeepBut.trans (by repeat (first|(with_reducible first|exact HK.out|apply KeepBut.set_|apply keep_drewN|apply keep_drew|apply keep_alloc)|exact HK.out)) hk (.inl rfl));have n2_:=aMk (hb);have n3_:=aMk (hi);clear HO_3;clear HK;clear HB;clear HI0;have HO_3:=n0_;have HK:=n1_;have HB:=n2_;have HI0:=n3_;clear n0_ n1_ n2_ n3_;(try clear hb);(try clear hb2);(try clear hk);(try clear hi))|((with_reducible refine gate_builtin (b:=.append) (xs:=#[.tmp 12,.tmp 15]) rfl ?_);at_builtin;refine Kd.R_append k31 w.heap.size rfl (.tmp 12) (.tmp 15) 47 31 (.agg #[(.int .i64 0),(.int .i64 0)]) 16 rfl Try.underlying47 info31 rfl (by decide) (by omega) u3 x3_1 (⟨t499,t500⟩ : S31) [.int .i64 t499,.int .i64 t500] (fun _ => True) (fun _ => False) rfl rfl ?aP (fun _ hk => hk.elim) ?aF ?aO (Below.refl _ _) ?aS ?aL ?_;(case aP => exact k31_mkM _ _ _ (⟨t499,t500⟩ : S31));(case aF => exact (fun _ _ => trivial));(case aO => exact (by (with_reducible repeat (first|apply Kd.R_alloc|apply Kd.R_drewN|apply Kd.R_drew));exact HO_3.out));(case aS => exact (keep_size (w:=w) (g:=g) (row:=none) (by repeat (first|(with_reducible first|exact HK.out|apply KeepBut.set_|apply keep_drewN|apply keep_drew|apply keep_alloc)|exact HK.out))));(case aL => have:=LMc8.out;omega);intro v504 w10 ho hb hg hat;rw [← Ny503.out] at ho;have n0_:=aMk (IsS80.grown (by repeat (first|(with_reducible first|exact HI0.out|apply IsS80.alloc|apply IsS80.drewN|apply IsS80.drew|apply IsS80.set_1|apply IsS80.set_2)|exact HI0.out)) hg (IsS80.own_ne HI0.out HO_3.out (by decide)));have n1_:=aMk (below_weaken (by repeat (first|(with_reducible first|exact HB.out|apply bwA|apply bwN|apply bw1|refine below_set ?_ (IsS80.ge HI0.out))|exact HB.out)) HL.out hb);have n2_:=aMk (KeepBut.trans (by repeat (first|(with_reducible first|exact HK.out|apply KeepBut.set_|apply keep_drewN|apply keep_drew|apply keep_alloc)|exact HK.out)) (KeepBut.of_grown hg g) (Kd.R_base2 HO_3.out));have n3_:=aMk (ho);clear HI0;clear HB;clear HK;clear HO_3;have HI0:=n0_;have HB:=n1_;have HK:=n2_;have HO505:=n3_;clear n0_ n1_ n2_ n3_;clear ho hb hg hat))
     go_roundg k1
     case measure => have:=HK1.out;omega
     case rel => exact ⟨(y503),(wrap64 (x4_1 - 1)),(t501),(t502),(by first | rfl|(simp;done)|(simp [*];done)|(simp [ne_nil_b];done)|(simp [ne_nil_b, *];done)),H',⟨by have:=HK1.out;omega⟩,⟨by (with_reducible repeat (first|apply Kd.R_alloc|apply Kd.R_drewN|apply Kd.R_drew));exact HO505.out⟩,⟨by repeat (first|(with_reducible first|exact HI0.out|apply IsS80.alloc|apply IsS80.drewN|apply IsS80.drew|apply IsS80.set_1|apply IsS80.set_2)|exact HI0.out)⟩,⟨by repeat (first|(with_reducible first|exact HK.out|apply KeepBut.set_|apply keep_drewN|apply keep_drew|apply keep_alloc)|exact HK.out)⟩,⟨by repeat (first|(with_reducible first|exact HB.out|apply bwA|apply bwN|apply bw1|refine below_set ?_ (IsS80.ge HI0.out))|exact HB.out)⟩⟩
    ·rw [if_neg c8] at H
     exact absurd H (by simp)
   ·rw [if_neg c6] at H
    have c6b0 : decide (0 < x4_1) = false:=decide_eq_false c6
    clear c6
    simp only [Option.some.injEq,Prod.mk.injEq] at H
    obtain ⟨rfl,rfl,rfl⟩:=H
    go_wp2
    go_ret
    exact ⟨_,by first | rfl|(simp [errW_none,errW_some] <;> rfl)|(simp [*,errW_none,errW_some] <;> rfl),by (with_reducible repeat (first|apply Kd.R_alloc|apply Kd.R_drewN|apply Kd.R_drew));exact HO_3.out,by repeat (first|(with_reducible first|exact HI0.out|apply IsS80.alloc|apply IsS80.drewN|apply IsS80.drew|apply IsS80.set_1|apply IsS80.set_2)|exact HI0.out),by repeat (first|(with_reducible first|exact HB.out|apply bwA|apply bwN|apply bw1|refine below_set ?_ (IsS80.ge HI0.out))|exact HB.out),by repeat (first|(with_reducible first|exact HK.out|apply KeepBut.set_|apply keep_drewN|apply keep_drew|apply keep_alloc)|exact HK.out)⟩
end
section
/-! ### spec_WordsOf: function 31 -/
def spec_WordsOf.f (k : Nat) (l0 : List Int) : Option ((List (S31))):=(spec_l00Source.f l0).bind fun bt506 => ((spec_l00Src_words.f k bt506.1 bt506.2.1 bt506.2.2).bind fun bt510 => (some bt510.1))
theorem spec_WordsOf.mono : ∀ a0 k,LeO (spec_WordsOf.f k a0) (spec_WordsOf.f (k + 1) a0):=by
 intro a0 k
 unfold spec_WordsOf.f
 repeat' first
   | (with_reducible exact spec_l00Src_words.mono ..)
   | (with_reducible exact LeO.refl _)
   | (with_reducible exact LeO.none _)
   | (with_reducible refine LeO.ite ?_ ?_)
   | (with_reducible refine LeO.bind ?_ (fun _ => ?_))
   | exact spec_l00Src_words.mono ..
   | exact LeO.none _
   | refine LeO.ite ?_ ?_
   | refine LeO.bind ?_ (fun _ => ?_)
set_option maxHeartbeats 8000000 in
set_option maxRecDepth 100000 in
theorem spec_WordsOf.calls (k : Nat) (A0 : Option Addr) (c0 : Nat) (l0 : List Int) (r : List (S31)) (w : World) (hr0 : Kd.C (Kd.int .u8) w A0 l0.length l0) (hc0 : l0.length ≤ c0) (h : spec_WordsOf.f k l0 = some r) :
  Calls Try.prog 31 #[.slice A0 l0.length c0] w fun e w' => ∃ v0_ : Value,e = .returned (v0_) ∧ Kd.R k31 31 w' w.heap.size (fun _ => True) v0_ r ∧ Below w.heap.size w w':=by
 have HR0:=aMk hr0
 have HC0:=aMk hc0
 clear hr0 hc0
 have HB:=aMk (Below.refl w.heap.size w)
 have H : ((spec_l00Source.f l0).bind fun bt506 => ((spec_l00Src_words.f k bt506.1 bt506.2.1 bt506.2.2).bind fun bt510 => (some bt510.1))) = some r:=h
 clear h
 replace H:=Option.bind_eq_some_iff.mp H
 obtain ⟨⟨t506,t507,t508⟩,A20,H⟩:=H
 replace H : ((spec_l00Src_words.f k t506 t507 t508).bind fun bt510 => (some bt510.1)) = some r:=H
 have A2:=aMk A20
 clear A20
 replace H:=Option.bind_eq_some_iff.mp H
 obtain ⟨⟨t510,t513,t514⟩,A30,H⟩:=H
 replace H : (some t510) = some r:=H
 have A3:=aMk A30
 clear A30
 obtain rfl:=Option.some.inj H
 go_enter Try.func31,Try.ntmps31
 go_wp2_with (first|((with_reducible refine gate_callee (f:=47) rfl ?_);refine gLs 4 Try.func47 #[.slice A0 l0.length c0] ?_;(with_reducible refine (spec_l00Source.calls _ _ l0 t506 t507 t508 w _ ?side1 ?side2 ?side3 A2.out).mono ?_);(case side1 => repeat (first|(with_reducible first|exact HB.out|apply bwA|apply bwN|apply bw1)|exact HB.out));(case side2 => exact HR0.out);(case side3 => exact HC0.out);rintro e w4 ⟨g509,rfl,hi,hb,hb2⟩;refine ⟨_,rfl,?_⟩;have n0_:=aMk (hb);have n1_:=aMk (hi);clear HB;have HB:=n0_;have HI509:=n1_;clear n0_ n1_;(try clear hb);(try clear hb2);(try clear hk);(try clear hi))|((with_reducible refine gate_callee (f:=56) rfl ?_);refine gLs 5 Try.func56 #[.pointer (some ⟨g509,0,none⟩)] ?_;(with_reducible refine (spec_l00Src_words.calls k g509 t506 t507 t508 t510 t513 t514 w _ ?side1 ?side2 A3.out).mono ?_);(case side1 => repeat (first|(with_reducible first|exact HI509.out|apply IsS80.alloc|apply IsS80.drewN|apply IsS80.drew|apply IsS80.set_1|apply IsS80.set_2)|exact HI509.out));(case side2 => repeat (first|(with_reducible first|exact HB.out|apply bwA|apply bwN|apply bw1|refine below_set ?_ (IsS80.ge HI509.out))|exact HB.out));rintro e w5 ⟨v511,rfl,ho0,hi,hb,hk⟩;refine ⟨_,rfl,?_⟩;have n0_:=aMk (Kd.R_lower ho0 (below_size (by repeat (first|(with_reducible first|exact HB.out|apply bwA|apply bwN|apply bw1|refine below_set ?_ (IsS80.ge HI509.out))|exact HB.out))));have n1_:=aMk (hb);have n2_:=aMk (hi);clear HB;clear HI509;have HO512:=n0_;have HB:=n1_;have HI509:=n2_;clear n0_ n1_ n2_;(try clear hb);(try clear hb2);(try clear hk);(try clear hi);(try clear ho0)))
 go_ret
 exact ⟨_,by first | rfl|(simp [errW_none,errW_some] <;> rfl)|(simp [*,errW_none,errW_some] <;> rfl),by (with_reducible repeat (first|apply Kd.R_alloc|apply Kd.R_drewN|apply Kd.R_drew));exact HO512.out,by repeat (first|(with_reducible first|exact HB.out|apply bwA|apply bwN|apply bw1|refine below_set ?_ (IsS80.ge HI509.out))|exact HB.out)⟩
end
section
/-! ### impl_ClassOf: function 32 -/
def impl_ClassOf.f (a0_0 : Int) (a0_1 : Int) : Option (Int × Int):=(impl_wordOK.f a0_0 a0_1).bind fun t516 => (if t516 = true then ((impl_Word_class.f a0_0 a0_1).bind fun t517 => (some (t517,0))) else (some (0,1)))
set_option maxHeartbeats 8000000 in
set_option maxRecDepth 100000 in
theorem impl_ClassOf.calls (a0_0 : Int) (a0_1 : Int) (r1 : Int) (r2 : Int) (w : World) (h : impl_ClassOf.f a0_0 a0_1 = some (r1,r2)) :
  Calls Try.prog 32 #[.agg #[.int .i64 a0_0,.int .i64 a0_1]] w fun e w' => e = .returned (.tuple #[.int .i64 r1,.int .i64 r2]) ∧ Below w.heap.size w w':=by
 have hu31:=Try.underlying31
 have HB:=aMk (Below.refl w.heap.size w)
 have H : ((impl_wordOK.f a0_0 a0_1).bind fun t516 => (if t516 = true then ((impl_Word_class.f a0_0 a0_1).bind fun t517 => (some (t517,0))) else (some (0,1)))) = some (r1,r2):=h
 clear h
 replace H:=Option.bind_eq_some_iff.mp H
 obtain ⟨t516,A20,H⟩:=H
 replace H : (if t516 = true then ((impl_Word_class.f a0_0 a0_1).bind fun t517 => (some (t517,0))) else (some (0,1))) = some (r1,r2):=H
 have A2:=aMk A20
 clear A20
 by_cases c3 : t516 = true
 ·subst c3
  have H1 : ((impl_Word_class.f a0_0 a0_1).bind fun t517 => (some (t517,0))) = some (r1,r2):=by rw [if_pos rfl] at H;exact H
  clear H
  have H:=H1
  clear H1
  replace H:=Option.bind_eq_some_iff.mp H
  obtain ⟨t517,A40,H⟩:=H
  replace H : (some (t517,0)) = some (r1,r2):=H
  have A4:=aMk A40
  clear A40
  simp only [Option.some.injEq,Prod.mk.injEq] at H
  obtain ⟨rfl,rfl⟩:=H
  go_enter Try.func32,Try.ntmps32
  go_wp2_with (first|((with_reducible refine gate_dst (N:=1) rfl ?_);refine bxE (N:=1) (cs:=#[.int .i64 a0_0,.int .i64 a0_1]) (t:=31) ?_;intro gb515 hg w5 hbox hb;have n0_:=aMk (bSt hb);have n1_:=aMk (hbox);have n2_:=aMk ((by rw [hg];exact bSz : w.heap.size ≤ gb515));have n3_:=aMk ((by rw [hg];exact bSz : w.heap.size ≤ gb515));clear HB;have HB:=n0_;have BK515:=n1_;have GW515:=n2_;have GE515:=n3_;clear n0_ n1_ n2_ n3_;clear hb hbox hg;obtain ⟨hcz6_0,hcz6_1,hfz6_0,hfz6_1⟩:=bC2 BK515.out)|((with_reducible refine gate_callee (f:=43) rfl ?_);refine gLs 5 Try.func43 #[.agg #[.int .i64 a0_0,.int .i64 a0_1]] ?_;(with_reducible refine (impl_wordOK.calls a0_0 a0_1 true _ A2.out).mono ?_);rintro e w7 ⟨rfl,hb⟩;refine ⟨_,rfl,?_⟩;have n0_:=aMk (bkB BK515.out hb);have n1_:=aMk (below_step (by repeat (first|(with_reducible first|exact HB.out|apply bwA|apply bwN|apply bw1|refine below_set ?_ GE515.out)|exact HB.out)) hb);clear BK515;clear HB;have BK515:=n0_;have HB:=n1_;clear n0_ n1_;(try clear hb);(try clear hb2);(try clear hk);(try clear hi);obtain ⟨hcz8_0,hcz8_1,hfz8_0,hfz8_1⟩:=bC2 BK515.out)|((with_reducible refine gate_callee (f:=46) rfl ?_);refine gLs 8 Try.func46 #[.agg #[.int .i64 a0_0,.int .i64 a0_1]] ?_;(with_reducible refine (impl_Word_class.calls a0_0 a0_1 t517 _ A4.out).mono ?_);rintro e w9 ⟨rfl,hb⟩;refine ⟨_,rfl,?_⟩;have n0_:=aMk (bkB BK515.out hb);have n1_:=aMk (below_step (by repeat (first|(with_reducible first|exact HB.out|apply bwA|apply bwN|apply bw1|refine below_set ?_ GE515.out)|exact HB.out)) hb);clear BK515;clear HB;have BK515:=n0_;have HB:=n1_;clear n0_ n1_;(try clear hb);(try clear hb2);(try clear hk);(try clear hi)))
  go_ret2
  exact ⟨eRf,by repeat (first|(with_reducible first|exact HB.out|apply bwA|apply bwN|apply bw1|refine below_set ?_ GE515.out)|exact HB.out)⟩
 ·replace c3:=Bool.eq_false_iff.mpr c3
  subst c3
  have H1 : (some (0,1)) = some (r1,r2):=by rw [if_neg (show ¬ (false = true) by decide)] at H;exact H
  clear H
  have H:=H1
  clear H1
  simp only [Option.some.injEq,Prod.mk.injEq] at H
  obtain ⟨rfl,rfl⟩:=H
  go_enter Try.func32,Try.ntmps32
  go_wp2_with (first|((with_reducible refine gate_dst (N:=1) rfl ?_);refine bxE (N:=1) (cs:=#[.int .i64 a0_0,.int .i64 a0_1]) (t:=31) ?_;intro gb515 hg w10 hbox hb;have n0_:=aMk (bSt hb);have n1_:=aMk (hbox);have n2_:=aMk ((by rw [hg];exact bSz : w.heap.size ≤ gb515));have n3_:=aMk ((by rw [hg];exact bSz : w.heap.size ≤ gb515));clear HB;have HB:=n0_;have BK515:=n1_;have GW515:=n2_;have GE515:=n3_;clear n0_ n1_ n2_ n3_;clear hb hbox hg;obtain ⟨hcz11_0,hcz11_1,hfz11_0,hfz11_1⟩:=bC2 BK515.out)|((with_reducible refine gate_callee (f:=43) rfl ?_);refine gLs 5 Try.func43 #[.agg #[.int .i64 a0_0,.int .i64 a0_1]] ?_;(with_reducible refine (impl_wordOK.calls a0_0 a0_1 false _ A2.out).mono ?_);rintro e w12 ⟨rfl,hb⟩;refine ⟨_,rfl,?_⟩;have n0_:=aMk (bkB BK515.out hb);have n1_:=aMk (below_step (by repeat (first|(with_reducible first|exact HB.out|apply bwA|apply bwN|apply bw1|refine below_set ?_ GE515.out)|exact HB.out)) hb);clear BK515;clear HB;have BK515:=n0_;have HB:=n1_;clear n0_ n1_;(try clear hb);(try clear hb2);(try clear hk);(try clear hi)))
  go_ret2
  exact ⟨eRf,by repeat (first|(with_reducible first|exact HB.out|apply bwA|apply bwN|apply bw1|refine below_set ?_ GE515.out)|exact HB.out)⟩
end
end Go.Proofs.Ytcakbenoaclbkaa.X
