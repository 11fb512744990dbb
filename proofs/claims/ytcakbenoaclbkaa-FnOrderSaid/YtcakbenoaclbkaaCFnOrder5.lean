/- The statement FnOrder holds: it answers true for all arguments. Conditions: none beyond the row's own reach. -/
import Derived.Test.YtcakbenoaclbkaaCFnOrder4
import Derived.Test.YtcakbenoaclbkaaRows
namespace Go.Proofs.Ytcakbenoaclbkaa.X
open Go.RowKit Go.Proofs.YtcakbenoaclbkaaW.PrintWords Go.Proofs.YtcakbenoaclbkaaW.PrintLast Go.Proofs.YtcakbenoaclbkaaW.PrintMore
attribute [local go_sem] max2_int min2_int max_two min_two max_three min_three max_four min_four   -- for this text's walks alone
set_option linter.unusedVariables false
set_option linter.unusedSimpArgs false
open Go.Proofs.YtcakbenoaclbkaaW.PrintWords renaming blk_drewN -> bDn
open Go.Proofs.YtcakbenoaclbkaaW.PrintWords renaming blk_drew -> bDr
open Go.Proofs.YtcakbenoaclbkaaW.PrintWords renaming blk_alloc -> bAl
open Go.Proofs.YtcakbenoaclbkaaW.PrintWords renaming blk_frozen -> bFr
open Go.Proofs.YtcakbenoaclbkaaW.PrintWords renaming blk_cell -> bCe
open Go.Proofs.YtcakbenoaclbkaaW.PrintWords.Aside0 renaming mk -> aMk
open Go.World renaming block_lt_of_cell? -> wLt
open Go.Proofs.YtcakbenoaclbkaaW.PrintWords renaming pw_below_drewN -> bwN
open Go.Proofs.YtcakbenoaclbkaaW.PrintWords renaming below_drew1 -> bw1
open Go.Proofs.YtcakbenoaclbkaaW.PrintWords renaming below_alloc -> bwA
section
attribute [local go_sem high] eqA39
/-! ### laws_FnMeter: function 6 -/
mutual
def laws_FnMeter.j0 : Nat → List Int → List Int → Bool → Option (Bool)
 | 0,_,_,_ => none
 | k + 1,x0,x1,x32 => if x32 = true then (some true) else ((some (([] : List Int) : List Int)).bind fun y298 => ((spec_AmountsOf.f k x0).bind fun t301 => (if y298.length + t301.length < 17592186044416 then ((some (y298 ++ t301 : List Int)).bind fun y304 => ((spec_AmountsOf.f k x1).bind fun t307 => (if y304.length + t307.length < 17592186044416 then (laws_FnMeter.l0 k x1 (y304 ++ t307) 0 0 0 0 0) else (none)))) else (none))))
def laws_FnMeter.l0 : Nat → List Int → List Int → Int → Int → Int → Int → Int → Option (Bool)
 | 0,_,_,_,_,_,_,_ => none
 | k + 1,x1,x5,x7,x314000,x314001,x314002,x314003 => if x7 < (x5.length : Int) then (if 0 ≤ x7 then ((impl_MeterAdd.f x314000 x314001 x314002 x314003 (rd x5 x7)).bind fun bt315 => ((spec_MeterAdd.f x314000 x314001 x314002 x314003 (rd x5 x7)).bind fun bt322 => (if bt315.2.2.2.2 = 0 then (if (!(bt315.1 == bt322.1) || (!(bt315.2.1 == bt322.2.1) || (!(bt315.2.2.1 == bt322.2.2.1) || (!(bt315.2.2.2.1 == bt322.2.2.2.1))))) = true then (some false) else (if bt315.1 < bt315.2.1 then (some false) else (if bt315.1 > bt315.2.2.1 then (some false) else (if (rd x5 x7) < bt315.2.1 then (some false) else (if (rd x5 x7) > bt315.2.2.1 then (some false) else (if bt315.2.2.2.1 = (wrap64 (x7 + 1)) then (laws_FnMeter.l0 k x1 x5 (wrap64 (x7 + 1)) bt315.1 bt315.2.1 bt315.2.2.1 bt315.2.2.2.1) else (some false))))))) else (some false)))) else (none)) else ((laws_at.f x1 0 900).bind fun t330 => ((impl_MeanOf.f k (([wrap64 (t330 - 400),wrap64 (t330 - 400),wrap64 (t330 - 400)] : List Int))).bind fun bt334 => ((impl_MeanOf.f k x5).bind fun bt336 => ((spec_MeanOf.f k x5).bind fun bt338 => ((laws_at.f x1 1 500).bind fun t340 => ((laws_at.f x1 2 500).bind fun t341 => ((impl_ShareOf.f k t340 (wrap64 (1 + t341))).bind fun bt342 => ((laws_at.f x1 1 500).bind fun t344 => ((laws_at.f x1 2 500).bind fun t345 => ((spec_ShareOf.f k t344 (wrap64 (1 + t345))).bind fun bt346 => ((impl_ShareOf.f k 7 0).bind fun bt348 => (if bt334.2 = 0 then (if bt334.1 = (wrap64 (t330 - 400)) then (if bt336.2 = bt338.2 then (if bt336.1 = bt338.1 then (if bt342.2 = 0 then (if bt342.1 = bt346.1 then (if bt342.1 ≥ 0 then (if bt342.1 ≤ 1000 then (if bt348.2 = 0 then (some (bt348.1 == 1000)) else (some false)) else (some false)) else (some false)) else (some false)) else (some false)) else (some false)) else (some false)) else (some false)) else (some false)))))))))))))
end
def laws_FnMeter.f (k : Nat) (l0 : List Int) (l1 : List Int) : Option (Bool):=if (l0.length : Int) > 1048576 then (laws_FnMeter.j0 k l0 l1 true) else (laws_FnMeter.j0 k l0 l1 (decide ((l1.length : Int) > 1048576)))
theorem laws_FnMeter.mono_l : ∀ k,(∀ y0 y1 y2,LeO (laws_FnMeter.j0 k y0 y1 y2) (laws_FnMeter.j0 (k + 1) y0 y1 y2)) ∧ (∀ y0 y1 y2 y3 y4 y5 y6,LeO (laws_FnMeter.l0 k y0 y1 y2 y3 y4 y5 y6) (laws_FnMeter.l0 (k + 1) y0 y1 y2 y3 y4 y5 y6))
 | 0 => ⟨fun _ _ _ r h => by simp [laws_FnMeter.j0] at h,fun _ _ _ _ _ _ _ r h => by simp [laws_FnMeter.l0] at h⟩
 | k + 1 => by
  obtain ⟨ih0,ih1⟩:=laws_FnMeter.mono_l k
  refine ⟨?_,?_⟩
  ·intro y0 y1 y2
   unfold laws_FnMeter.j0
   repeat' first
   | (with_reducible exact ih0 _ _ _)
   | (with_reducible exact ih1 _ _ _ _ _ _ _)
   | (with_reducible exact impl_MeanOf.mono ..)
   | (with_reducible exact impl_ShareOf.mono ..)
   | (with_reducible exact spec_AmountsOf.mono ..)
   | (with_reducible exact spec_MeanOf.mono ..)
   | (with_reducible exact spec_ShareOf.mono ..)
   | (with_reducible exact LeO.refl _)
   | (with_reducible exact LeO.none _)
   | (with_reducible refine LeO.ite ?_ ?_)
   | (with_reducible refine LeO.bind ?_ (fun _ => ?_))
   | exact ih0 _ _ _
   | exact ih1 _ _ _ _ _ _ _
   | exact impl_MeanOf.mono ..
   | exact impl_ShareOf.mono ..
   | exact spec_AmountsOf.mono ..
   | exact spec_MeanOf.mono ..
   | exact spec_ShareOf.mono ..
   | exact LeO.none _
   | refine LeO.ite ?_ ?_
   | refine LeO.bind ?_ (fun _ => ?_)
  ·intro y0 y1 y2 y3 y4 y5 y6
   unfold laws_FnMeter.l0
   repeat' first
   | (with_reducible exact ih0 _ _ _)
   | (with_reducible exact ih1 _ _ _ _ _ _ _)
   | (with_reducible exact impl_MeanOf.mono ..)
   | (with_reducible exact impl_ShareOf.mono ..)
   | (with_reducible exact spec_AmountsOf.mono ..)
   | (with_reducible exact spec_MeanOf.mono ..)
   | (with_reducible exact spec_ShareOf.mono ..)
   | (with_reducible exact LeO.refl _)
   | (with_reducible exact LeO.none _)
   | (with_reducible refine LeO.ite ?_ ?_)
   | (with_reducible refine LeO.bind ?_ (fun _ => ?_))
   | exact ih0 _ _ _
   | exact ih1 _ _ _ _ _ _ _
   | exact impl_MeanOf.mono ..
   | exact impl_ShareOf.mono ..
   | exact spec_AmountsOf.mono ..
   | exact spec_MeanOf.mono ..
   | exact spec_ShareOf.mono ..
   | exact LeO.none _
   | refine LeO.ite ?_ ?_
   | refine LeO.bind ?_ (fun _ => ?_)
theorem laws_FnMeter.mono : ∀ a0 a1 k,LeO (laws_FnMeter.f k a0 a1) (laws_FnMeter.f (k + 1) a0 a1):=by
 intro a0 a1 k
 obtain ⟨ih0,ih1⟩:=laws_FnMeter.mono_l k
 unfold laws_FnMeter.f
 repeat' first
   | (with_reducible exact ih0 _ _ _)
   | (with_reducible exact ih1 _ _ _ _ _ _ _)
   | (with_reducible exact impl_MeanOf.mono ..)
   | (with_reducible exact impl_ShareOf.mono ..)
   | (with_reducible exact spec_AmountsOf.mono ..)
   | (with_reducible exact spec_MeanOf.mono ..)
   | (with_reducible exact spec_ShareOf.mono ..)
   | (with_reducible exact LeO.refl _)
   | (with_reducible exact LeO.none _)
   | (with_reducible refine LeO.ite ?_ ?_)
   | (with_reducible refine LeO.bind ?_ (fun _ => ?_))
   | exact ih0 _ _ _
   | exact ih1 _ _ _ _ _ _ _
   | exact impl_MeanOf.mono ..
   | exact impl_ShareOf.mono ..
   | exact spec_AmountsOf.mono ..
   | exact spec_MeanOf.mono ..
   | exact spec_ShareOf.mono ..
   | exact LeO.none _
   | refine LeO.ite ?_ ?_
   | refine LeO.bind ?_ (fun _ => ?_)
def laws_FnMeter.T8 : Bool × List (List Nat × List Nat):=(true,[([],[]),([],[]),([],[]),([1,2],[1,2]),([3],[3]),([0,4],[0,4]),([5],[5]),([6],[6]),([6],[6]),([],[]),([9,7,5,0,1,2,3,4,5,6,7,9],[7,9]),([8,10,0,1,2,3,4,5,6,7,8,9,10],[8])])
def laws_FnMeter.B8 : List Nat:=[0,0,0,6,14,31,63,127,127,0,767,2047]
theorem laws_FnMeter.tab8 : rtab .any (opsOf Try.f6 8) = laws_FnMeter.T8:=by kernel_rfl
theorem laws_FnMeter.bits8 : waitsOk laws_FnMeter.T8.2 laws_FnMeter.B8 = true:=by kernel_rfl
def laws_FnMeter.T9 : Bool × List (List Nat × List Nat):=(true,[([],[]),([],[]),([],[]),([1,2],[1,2]),([3],[3]),([0,4],[0,4]),([5],[5]),([6],[6]),([6],[6]),([],[]),([9,7,5,0,1,2,3,4,5,6,7,9],[7,9]),([8,10,0,1,2,3,4,5,6,7,8,9,10],[8])])
def laws_FnMeter.B9 : List Nat:=[0,0,0,6,14,31,63,127,127,0,767,2047]
theorem laws_FnMeter.tab9 : rtab .any (opsOf Try.f6 9) = laws_FnMeter.T9:=by kernel_rfl
theorem laws_FnMeter.bits9 : waitsOk laws_FnMeter.T9.2 laws_FnMeter.B9 = true:=by kernel_rfl
def laws_FnMeter.T10 : Bool × List (List Nat × List Nat):=(true,[([],[]),([0],[0]),([1],[1]),([2],[2]),([2],[2]),([3,4,2],[2,3,4]),([2,5],[2,5]),([6,2],[6]),([7],[7]),([8,7],[7,8]),([7],[7]),([10,7],[7,10]),([9,11,7],[7,9,11]),([7,12],[7,12]),([13,7],[13]),([14],[14]),([15,14],[14,15]),([14],[14]),([17,14],[14,17]),([16,18,14],[14,16,18]),([14,19],[14,19]),([20,14],[20]),([21],[21]),([21],[21]),([22,23,21],[21,22,23]),([24,21],[21,24]),([21],[21]),([26,21],[21,26]),([25,27,21],[21,25,27]),([21,28],[21,28]),([29,21],[29]),([30],[30]),([30],[30]),([31,32,30],[30,31,32]),([33,30],[30,33]),([30],[30]),([35,30],[30,35]),([34,36,30],[30,34,36]),([30,37],[30,37]),([38,30],[38]),([39],[39]),([40,39],[39,40]),([39],[39]),([42,39],[39,42]),([41,43,39],[39,41,43]),([39,44],[39,44])])
def laws_FnMeter.B10 : List Nat:=[0,1,3,7,7,31,63,127,255,511,255,1279,4095,8191,16383,32767,65535,32767,163839,524287,1048575,2097151,4194303,4194303,16777215,33554431,4194303,71303167,268435455,536870911,1073741823,2147483647,2147483647,8589934591,17179869183,2147483647,36507222015,137438953471,274877906943,549755813887,1099511627775,2199023255551,1099511627775,5497558138879,17592186044415,35184372088831]
theorem laws_FnMeter.tab10 : rtab .any (opsOf Try.f6 10) = laws_FnMeter.T10:=by kernel_rfl
theorem laws_FnMeter.bits10 : waitsOk laws_FnMeter.T10.2 laws_FnMeter.B10 = true:=by kernel_rfl
set_option maxHeartbeats 8000000 in
set_option maxRecDepth 100000 in
theorem laws_FnMeter.calls (k : Nat) (A0 : Option Addr) (c0 : Nat) (l0 : List Int) (A1 : Option Addr) (c1 : Nat) (l1 : List Int) (r : Bool) (w : World) (hr0 : Kd.C (Kd.int .u8) w A0 l0.length l0) (hc0 : l0.length ≤ c0) (hr1 : Kd.C (Kd.int .u8) w A1 l1.length l1) (hc1 : l1.length ≤ c1) (h : laws_FnMeter.f k l0 l1 = some r) (hr_ : r = true) :
  Calls Try.prog 6 #[.slice A0 l0.length c0,.slice A1 l1.length c1] w fun e w' => e = .returned (.bool r) ∧ Below w.heap.size w w':=by
 have HRT_:=aMk hr_
 clear hr_
 have hu39:=Try.underlying39
 have HR0:=aMk hr0
 have HC0:=aMk hc0
 clear hr0 hc0
 have HR1:=aMk hr1
 have HC1:=aMk hc1
 clear hr1 hc1
 have HB:=aMk (Below.refl w.heap.size w)
 have H : (if (l0.length : Int) > 1048576 then (laws_FnMeter.j0 k l0 l1 true) else (laws_FnMeter.j0 k l0 l1 (decide ((l1.length : Int) > 1048576)))) = some r:=h
 clear h
 have HC3:=aMk H
 clear H
 go_enter Try.func6,Try.ntmps6
 go_upto_region 1 with (fail)
 go_cut [32] (fun v32 wc => ∃ (kq : Nat) (x32_2 : Bool),v32 = .bool x32_2 ∧ Aside0 (laws_FnMeter.j0 kq l0 l1 x32_2 = some r) ∧ Aside0 (kq ≤ k) ∧ Aside0 (Below w.heap.size w wc))
 case first =>
  have H:=HC3.out
  clear HC3
  by_cases c4 : (l0.length : Int) > 1048576
  ·rw [if_pos c4] at H
   have c4b0 : decide (1048576 < (l0.length : Int)) = true:=decide_eq_true c4
   have c4b1 : decide (1048576 < l0.length) = true:=decide_eq_true (by omega)
   clear c4
   (first|rw [c4b0]|(simp only [i64_w,i32_w];rw [c4b0]) | skip)
   have H':=aMk H
   clear H
   go_wp2
   go_meet
   case rel => exact ⟨_,(true),(by first | rfl|(simp;done)|(simp [*];done)|(simp [ne_nil_b];done)|(simp [ne_nil_b, *];done)),H',⟨by first | omega|exact Nat.le_refl _⟩,⟨by repeat (first|(with_reducible first|exact HB.out|apply bwA|apply bwN|apply bw1)|exact HB.out)⟩⟩
  ·rw [if_neg c4] at H
   have c4b0 : decide (1048576 < (l0.length : Int)) = false:=decide_eq_false c4
   have c4b1 : decide (1048576 < l0.length) = false:=decide_eq_false (by omega)
   clear c4
   (first|rw [c4b0]|(simp only [i64_w,i32_w];rw [c4b0]) | skip)
   have H':=aMk H
   clear H
   go_wp2
   go_meet
   case rel => exact ⟨_,(decide ((l1.length : Int) > 1048576)),(by first | rfl|(simp;done)|(simp [*];done)|(simp [ne_nil_b];done)|(simp [ne_nil_b, *];done)),H',⟨by first | omega|exact Nat.le_refl _⟩,⟨by repeat (first|(with_reducible first|exact HB.out|apply bwA|apply bwN|apply bw1)|exact HB.out)⟩⟩
 case rest =>
  clear HC3
  try clear c1
  try clear p2
  try clear c4
  try clear c4b0
  try clear c4b1
  obtain ⟨kq,x32_2,rfl,HA,HJ2,HB⟩:=hcut
  cases kq with
  | zero => exact absurd HA.out (by simp [laws_FnMeter.j0])
  | succ kj2 =>
   have H:=HA.out
   clear HA
   simp only [laws_FnMeter.j0] at H
   by_cases c5 : x32_2 = true
   ·subst c5
    have H1 : (some true) = some r:=by rw [if_pos rfl] at H;exact H
    clear H
    have H:=H1
    clear H1
    obtain rfl:=Option.some.inj H
    go_wp2
    go_ret
    exact ⟨eRf,by repeat (first|(with_reducible first|exact HB.out|apply bwA|apply bwN|apply bw1)|exact HB.out)⟩
   ·replace c5:=Bool.eq_false_iff.mpr c5
    subst c5
    have H1 : ((some (([] : List Int) : List Int)).bind fun y298 => ((spec_AmountsOf.f kj2 l0).bind fun t301 => (if y298.length + t301.length < 17592186044416 then ((some (y298 ++ t301 : List Int)).bind fun y304 => ((spec_AmountsOf.f kj2 l1).bind fun t307 => (if y304.length + t307.length < 17592186044416 then (laws_FnMeter.l0 kj2 l1 (y304 ++ t307) 0 0 0 0 0) else (none)))) else (none)))) = some r:=by rw [if_neg (show ¬ (false = true) by decide)] at H;exact H
    clear H
    have H:=H1
    clear H1
    obtain ⟨y298,hy298⟩ : ∃ y_ : List Int,y_ = (([] : List Int)):=⟨_,rfl⟩
    replace H : ((spec_AmountsOf.f kj2 l0).bind fun t301 => (if y298.length + t301.length < 17592186044416 then ((some (y298 ++ t301 : List Int)).bind fun y304 => ((spec_AmountsOf.f kj2 l1).bind fun t307 => (if y304.length + t307.length < 17592186044416 then (laws_FnMeter.l0 kj2 l1 (y304 ++ t307) 0 0 0 0 0) else (none)))) else (none))) = some r:=by first|(rw [hy298];with_reducible exact H)|(have H2_:=(Option.bind_some _ _).symm.trans H;rw [hy298];with_reducible exact H2_)|(have H2_:=(Option.bind_some _ _).symm.trans H;with_reducible exact H2_) | with_reducible exact H|(rw [hy298];exact H)|exact H
    have Ny298:=aMk hy298
    clear hy298
    replace H:=Option.bind_eq_some_iff.mp H
    obtain ⟨t301,A60,H⟩:=H
    replace H : (if y298.length + t301.length < 17592186044416 then ((some (y298 ++ t301 : List Int)).bind fun y304 => ((spec_AmountsOf.f kj2 l1).bind fun t307 => (if y304.length + t307.length < 17592186044416 then (laws_FnMeter.l0 kj2 l1 (y304 ++ t307) 0 0 0 0 0) else (none)))) else (none)) = some r:=H
    have A6:=aMk A60
    clear A60
    by_cases c7 : y298.length + t301.length < 17592186044416
    ·rw [if_pos c7] at H
     have LMc7:=aMk c7
     clear c7
     obtain ⟨y304,hy304⟩ : ∃ y_ : List Int,y_ = (y298 ++ t301):=⟨_,rfl⟩
     replace H : ((spec_AmountsOf.f kj2 l1).bind fun t307 => (if y304.length + t307.length < 17592186044416 then (laws_FnMeter.l0 kj2 l1 (y304 ++ t307) 0 0 0 0 0) else (none))) = some r:=by first|(rw [hy304];with_reducible exact H)|(have H2_:=(Option.bind_some _ _).symm.trans H;rw [hy304];with_reducible exact H2_)|(have H2_:=(Option.bind_some _ _).symm.trans H;with_reducible exact H2_) | with_reducible exact H|(rw [hy304];exact H)|exact H
     have Ny304:=aMk hy304
     clear hy304
     replace H:=Option.bind_eq_some_iff.mp H
     obtain ⟨t307,A80,H⟩:=H
     replace H : (if y304.length + t307.length < 17592186044416 then (laws_FnMeter.l0 kj2 l1 (y304 ++ t307) 0 0 0 0 0) else (none)) = some r:=H
     have A8:=aMk A80
     clear A80
     by_cases c9 : y304.length + t307.length < 17592186044416
     ·rw [if_pos c9] at H
      have LMc9:=aMk c9
      clear c9
      obtain ⟨y310,hy310⟩ : ∃ y_ : List Int,y_ = (y304 ++ t307):=⟨_,rfl⟩
      replace H : (laws_FnMeter.l0 kj2 l1 y310 0 0 0 0 0) = some r:=by first|(rw [hy310];with_reducible exact H)|(have H2_:=(Option.bind_some _ _).symm.trans H;rw [hy310];with_reducible exact H2_)|(have H2_:=(Option.bind_some _ _).symm.trans H;with_reducible exact H2_) | with_reducible exact H|(rw [hy310];exact H)|exact H
      have Ny310:=aMk hy310
      clear hy310
      have H':=aMk H
      clear H
      go_wp2_with (first|((with_reducible refine gate_dst (N:=33) rfl ?_);(try (refine gate_guard (by rfl) ?_;dsimp only));refine Kd.R_lit (Kd.int .i64) _ 3 ?hg (N:=33) ?hd (xs:=([] : List Int)) (inner:=[]) (ok:=fun _ => True) (okp:=fun _ => True) ?hr ?hp (fun _ hk => hk) trivial (Below.refl _ _) (Nat.le_refl _) (by simp) ?_;(case hd => rfl);(case hg => rfl);(case hr => first|(go_simp;done)|(go_simp;rfl));(case hp => exact (Reps.none _ _));intro v299 w10 ho11 hb hg_ hnew_;clear hg_ hnew_;(first|rw [← Ny298.out] at ho11|(simp only [Int.reduceToNat] at ho11;rw [← Ny298.out] at ho11));have n0_:=aMk (Kd.R_lower ho11 bSz);have n1_:=aMk (bSt hb);clear HB;have HO300:=n0_;have HB:=n1_;clear n0_ n1_;clear hb ho11)|((with_reducible refine gate_callee (f:=18) rfl ?_);refine gLs 35 Try.func18 #[.slice A0 l0.length c0] ?_;(with_reducible refine (spec_AmountsOf.calls kj2 _ _ l0 t301 _ ?side1 ?side2 A6.out).mono ?_);(case side1 => repeat (first|exact (Kd.C_below HR0.out HB.out)|(with_reducible refine Kd.C_alloc ?_ _)|(with_reducible refine Kd.C_drewN ?_ _)|(with_reducible refine Kd.C_drew ?_)));(case side2 => exact HC0.out);rintro e w12 ⟨v302,rfl,ho0,hb⟩;refine ⟨_,rfl,?_⟩;have n0_:=aMk (Kd.R_elder' (by (with_reducible repeat (first|apply Kd.R_alloc|apply Kd.R_drewN|apply Kd.R_drew));exact HO300.out) (Kd.R_base ho0) hb);have n1_:=aMk (Kd.R_lower (Kd.R_new' ho0 (Kd.R_lt (by (with_reducible repeat (first|apply Kd.R_alloc|apply Kd.R_drewN|apply Kd.R_drew));exact HO300.out))) bSz);have n2_:=aMk (bSt hb);clear HO300;clear HB;have HO300:=n0_;have HO303:=n1_;have HB:=n2_;clear n0_ n1_ n2_;(try clear hb);(try clear hb2);(try clear hk);(try clear hi);(try clear ho0);obtain ⟨Ao14,co14,eo14⟩:=Kd.R_slice HO303.out;subst eo14)|((with_reducible refine gate_builtin (b:=.append) (xs:=#[.tmp 33,.tmp 35]) rfl ?_);(try (refine gate_guard (by rfl) ?_;dsimp only));at_builtin;refine Kd.R_append_rows (Kd.int .i64) (w0:=w) w.heap.size rfl (.tmp 33) (.tmp 35) 22 3 (.int .i64 0) 8 rfl Try.underlying22 info3 rfl (by decide) (by omega) v299 y298 t301 _ _ _ (fun k_ => some k_ ≠ (.slice Ao14 t301.length co14 : Value).ownBlock) (fun _ => False) rfl rfl ?aO ?aR (fun _ _ h => h) (fun _ h => h.elim) ?aF ?aB ?aS ?aL ?_;(case aR => repeat (first|exact (Kd.R_reads' HO303.out).2.2|(with_reducible refine Kd.C_alloc ?_ _)|(with_reducible refine Kd.C_drewN ?_ _)|(with_reducible refine Kd.C_drew ?_)));(case aB => exact (by repeat first|exact HB.out|apply bwA|apply bwN|apply bw1));(case aF => exact (fun k_ hk => Kd.fresh' (Kd.R_lt (by (with_reducible repeat (first|apply Kd.R_alloc|apply Kd.R_drewN|apply Kd.R_drew));exact HO303.out)) k_ hk));(case aO => exact (by (with_reducible repeat (first|apply Kd.R_alloc|apply Kd.R_drewN|apply Kd.R_drew));exact Kd.R_mono HO300.out (fun _ hk => hk.2)));(case aS => exact bSz);(case aL => have:=LMc7.out;omega);intro v305 w13 ho hb hg hat;rw [← Ny304.out] at ho;have n0_:=aMk (Kd.R_after (ok:=(fun _ => True)) (by (with_reducible repeat (first|apply Kd.R_alloc|apply Kd.R_drewN|apply Kd.R_drew));exact HO303.out) hg hat);have n1_:=aMk (hb);have n2_:=aMk (ho);clear HO303;clear HB;clear HO300;have HO303:=n0_;have HB:=n1_;have HO306:=n2_;clear n0_ n1_ n2_;clear ho hb hg hat)|((with_reducible refine gate_callee (f:=18) rfl ?_);refine gLs 38 Try.func18 #[.slice A1 l1.length c1] ?_;(with_reducible refine (spec_AmountsOf.calls kj2 _ _ l1 t307 _ ?side1 ?side2 A8.out).mono ?_);(case side1 => repeat (first|exact (Kd.C_below HR1.out HB.out)|(with_reducible refine Kd.C_alloc ?_ _)|(with_reducible refine Kd.C_drewN ?_ _)|(with_reducible refine Kd.C_drew ?_)));(case side2 => exact HC1.out);rintro e w15 ⟨v308,rfl,ho0,hb⟩;refine ⟨_,rfl,?_⟩;have n0_:=aMk (Kd.R_elder' (by (with_reducible repeat (first|apply Kd.R_alloc|apply Kd.R_drewN|apply Kd.R_drew));exact HO303.out) (Kd.R_base ho0) hb);have n1_:=aMk (Kd.R_elder' (by (with_reducible repeat (first|apply Kd.R_alloc|apply Kd.R_drewN|apply Kd.R_drew));exact HO306.out) (Kd.R_base ho0) hb);have n2_:=aMk (Kd.R_lower (Kd.R_new' (Kd.R_new' ho0 (Kd.R_lt (by (with_reducible repeat (first|apply Kd.R_alloc|apply Kd.R_drewN|apply Kd.R_drew));exact HO303.out))) (Kd.R_lt (by (with_reducible repeat (first|apply Kd.R_alloc|apply Kd.R_drewN|apply Kd.R_drew));exact HO306.out))) bSz);have n3_:=aMk (bSt hb);clear HO303;clear HO306;clear HB;have HO303:=n0_;have HO306:=n1_;have HO309:=n2_;have HB:=n3_;clear n0_ n1_ n2_ n3_;(try clear hb);(try clear hb2);(try clear hk);(try clear hi);(try clear ho0);obtain ⟨Ao17,co17,eo17⟩:=Kd.R_slice HO309.out;subst eo17)|((with_reducible refine gate_builtin (b:=.append) (xs:=#[.tmp 36,.tmp 38]) rfl ?_);(try (refine gate_guard (by rfl) ?_;dsimp only));at_builtin;refine Kd.R_append_rows (Kd.int .i64) (w0:=w) w.heap.size rfl (.tmp 36) (.tmp 38) 22 3 (.int .i64 0) 8 rfl Try.underlying22 info3 rfl (by decide) (by omega) v305 y304 t307 _ _ _ (fun k_ => some k_ ≠ (.slice Ao14 t301.length co14 : Value).ownBlock ∧ some k_ ≠ (.slice Ao17 t307.length co17 : Value).ownBlock) (fun _ => False) rfl rfl ?aO ?aR (fun _ _ h => h) (fun _ h => h.elim) ?aF ?aB ?aS ?aL ?_;(case aR => repeat (first|exact (Kd.R_reads' HO309.out).2.2|(with_reducible refine Kd.C_alloc ?_ _)|(with_reducible refine Kd.C_drewN ?_ _)|(with_reducible refine Kd.C_drew ?_)));(case aB => exact (by repeat first|exact HB.out|apply bwA|apply bwN|apply bw1));(case aF => exact (fun k_ hk => ⟨Kd.fresh' (Kd.R_lt (by (with_reducible repeat (first|apply Kd.R_alloc|apply Kd.R_drewN|apply Kd.R_drew));exact HO303.out)) k_ hk,Kd.fresh' (Kd.R_lt (by (with_reducible repeat (first|apply Kd.R_alloc|apply Kd.R_drewN|apply Kd.R_drew));exact HO309.out)) k_ hk⟩));(case aO => exact (by (with_reducible repeat (first|apply Kd.R_alloc|apply Kd.R_drewN|apply Kd.R_drew));exact HO306.out));(case aS => exact bSz);(case aL => have:=LMc9.out;omega);intro v311 w16 ho hb hg hat;rw [← Ny310.out] at ho;have n0_:=aMk (Kd.R_after (ok:=(fun k_ => some k_ ≠ (.slice Ao17 t307.length co17 : Value).ownBlock)) (by (with_reducible repeat (first|apply Kd.R_alloc|apply Kd.R_drewN|apply Kd.R_drew));exact Kd.R_mono HO303.out (fun _ hk => ⟨hk.2,hk.1.2⟩)) hg hat);have n1_:=aMk (Kd.R_after (ok:=(fun k_ => some k_ ≠ (.slice Ao14 t301.length co14 : Value).ownBlock)) (by (with_reducible repeat (first|apply Kd.R_alloc|apply Kd.R_drewN|apply Kd.R_drew));exact Kd.R_mono HO309.out (fun _ hk => ⟨hk.1.2,hk.2⟩)) hg hat);have n2_:=aMk (hb);have n3_:=aMk (ho);clear HO303;clear HO309;clear HB;clear HO306;have HO303:=n0_;have HO309:=n1_;have HB:=n2_;have HO312:=n3_;clear n0_ n1_ n2_ n3_;clear ho hb hg hat)|((with_reducible refine gate_dst (N:=6) rfl ?_);(try (refine gate_guard (by rfl) ?_;dsimp only));refine bxE (N:=6) (cs:=#[.int .i64 0,.int .i64 0,.int .i64 0,.int .i64 0]) (t:=39) ?_;intro gb313 hg w18 hbox hb;have n0_:=aMk (Kd.R_below (by (with_reducible repeat (first|apply Kd.R_alloc|apply Kd.R_drewN|apply Kd.R_drew));exact HO303.out) hb);have n1_:=aMk (Kd.R_below (by (with_reducible repeat (first|apply Kd.R_alloc|apply Kd.R_drewN|apply Kd.R_drew));exact HO309.out) hb);have n2_:=aMk (Kd.R_below (by (with_reducible repeat (first|apply Kd.R_alloc|apply Kd.R_drewN|apply Kd.R_drew));exact HO312.out) hb);have n3_:=aMk (bSt hb);have n4_:=aMk (hbox);have n5_:=aMk ((by rw [hg];exact bSz : w.heap.size ≤ gb313));have n6_:=aMk ((by rw [hg];exact bSz : w.heap.size ≤ gb313));clear HO303;clear HO309;clear HO312;clear HB;have HO303:=n0_;have HO309:=n1_;have HO312:=n2_;have HB:=n3_;have BK313:=n4_;have GW313:=n5_;have GE313:=n6_;clear n0_ n1_ n2_ n3_ n4_ n5_ n6_;clear hb hbox hg;obtain ⟨hcz19_0,hcz19_1,hcz19_2,hcz19_3,hfz19_0,hfz19_1,hfz19_2,hfz19_3⟩:=bC4 BK313.out))
      go_loopg [7] kj2 (fun kq v7 w' => ∃ (x7_2 : Int) (x314000_2 : Int) (x314001_2 : Int) (x314002_2 : Int) (x314003_2 : Int),v7 = .int .i64 x7_2 ∧ Aside0 (laws_FnMeter.l0 kq l1 y310 x7_2 x314000_2 x314001_2 x314002_2 x314003_2 = some r) ∧ Aside0 (kq ≤ kj2) ∧ Aside0 (Kd.R (Kd.int .i64) 3 w' w.heap.size (fun _ => True) v311 y310) ∧ Aside0 (w'.heap[gb313]? = some (.cells #[.int .i64 x314000_2,.int .i64 x314001_2,.int .i64 x314002_2,.int .i64 x314003_2] 39 (0,0))) ∧ Aside0 (Below w.heap.size w w'))
      case atStart => exact ⟨(0),(0),(0),(0),(0),(by first | rfl|(simp;done)|(simp [*];done)|(simp [ne_nil_b];done)|(simp [ne_nil_b, *];done)),H',⟨Nat.le_refl _⟩,⟨by (with_reducible repeat (first|apply Kd.R_alloc|apply Kd.R_drewN|apply Kd.R_drew));exact Kd.R_mono (Kd.R_far (p:=⟨gb313,3,none⟩) (Kd.R_far (p:=⟨gb313,2,none⟩) (Kd.R_far (p:=⟨gb313,1,none⟩) (Kd.R_far (p:=⟨gb313,0,none⟩) (Kd.R_types HO312.out BK313.out (by decide)) (fun _ hk => hk.2) (.int .i64 0)) (fun _ hk => hk.2) (.int .i64 0)) (fun _ hk => hk.2) (.int .i64 0)) (fun _ hk => hk.2) (.int .i64 0)) (fun _ hk => trivial)⟩,⟨by refine pB ?_;refine blk_put (cs:=#[.int .i64 0,.int .i64 0,.int .i64 0,.int .i64 0]) ?_ 3 _ rfl;refine pB ?_;refine blk_put (cs:=#[.int .i64 0,.int .i64 0,.int .i64 0,.int .i64 0]) ?_ 2 _ rfl;refine pB ?_;refine blk_put (cs:=#[.int .i64 0,.int .i64 0,.int .i64 0,.int .i64 0]) ?_ 1 _ rfl;refine pB ?_;refine blk_put (cs:=#[.int .i64 0,.int .i64 0,.int .i64 0,.int .i64 0]) ?_ 0 _ rfl;refine pB ?_;exact BK313.out⟩,⟨by repeat (first|(with_reducible first|exact HB.out|apply bwA|apply bwN|apply bw1|refine below_set ?_ GE313.out)|exact HB.out)⟩⟩
      case round =>
       clear H'
       try clear c1
       try clear p2
       try clear c4
       try clear c4b0
       try clear c4b1
       try clear c5
       try clear c6
       try clear c7
       try clear c9
       try clear c18
       try clear hcz19_0
       try clear hcz19_1
       try clear hcz19_2
       try clear hcz19_3
       try clear hfz19_0
       try clear hfz19_1
       try clear hfz19_2
       try clear hfz19_3
       try clear p2
       obtain ⟨x7_2,x314000_2,x314001_2,x314002_2,x314003_2,rfl,HA,HK2,HO_5,BK313,HB⟩:=hrel
       cases gk with
       | zero => exact absurd HA.out (by simp [laws_FnMeter.l0])
       | succ k2 =>
        have H:=HA.out
        clear HA
        simp only [laws_FnMeter.l0] at H
        by_cases c20 : x7_2 < (y310.length : Int)
        ·rw [if_pos c20] at H
         have c20b0 : decide (x7_2 < (y310.length : Int)) = true:=decide_eq_true c20
         clear c20
         by_cases c21 : 0 ≤ x7_2
         ·rw [if_pos c21] at H
          have c21b0 : decide (0 ≤ x7_2) = true:=decide_eq_true c21
          clear c21
          replace H:=Option.bind_eq_some_iff.mp H
          obtain ⟨⟨t315,t316,t317,t318,t319⟩,A220,H⟩:=H
          replace H : ((spec_MeterAdd.f x314000_2 x314001_2 x314002_2 x314003_2 (rd y310 x7_2)).bind fun bt322 => (if t319 = 0 then (if (!(t315 == bt322.1) || (!(t316 == bt322.2.1) || (!(t317 == bt322.2.2.1) || (!(t318 == bt322.2.2.2.1))))) = true then (some false) else (if t315 < t316 then (some false) else (if t315 > t317 then (some false) else (if (rd y310 x7_2) < t316 then (some false) else (if (rd y310 x7_2) > t317 then (some false) else (if t318 = (wrap64 (x7_2 + 1)) then (laws_FnMeter.l0 k2 l1 y310 (wrap64 (x7_2 + 1)) t315 t316 t317 t318) else (some false))))))) else (some false))) = some r:=H
          have A22:=aMk A220
          clear A220
          replace H:=Option.bind_eq_some_iff.mp H
          obtain ⟨⟨t322,t323,t324,t325,t326⟩,A230,H⟩:=H
          replace H : (if t319 = 0 then (if (!(t315 == t322) || (!(t316 == t323) || (!(t317 == t324) || (!(t318 == t325))))) = true then (some false) else (if t315 < t316 then (some false) else (if t315 > t317 then (some false) else (if (rd y310 x7_2) < t316 then (some false) else (if (rd y310 x7_2) > t317 then (some false) else (if t318 = (wrap64 (x7_2 + 1)) then (laws_FnMeter.l0 k2 l1 y310 (wrap64 (x7_2 + 1)) t315 t316 t317 t318) else (some false))))))) else (some false)) = some r:=H
          have A23:=aMk A230
          clear A230
          by_cases c24 : t319 = 0
          ·rw [if_pos c24] at H
           have c24b0 : (t319 == 0) = true:=beq_iff_eq.mpr c24
           have c24b1 : (t319 != 0) = false:=bne_eq_false_iff_eq.mpr c24
           clear c24
           by_cases c25 : (!(t315 == t322) || (!(t316 == t323) || (!(t317 == t324) || (!(t318 == t325))))) = true
           ·rw [if_pos c25] at H
            have c25b0 : (!(t315 == t322) || (!(t316 == t323) || (!(t317 == t324) || (!(t318 == t325))))) = true:=c25
            clear c25
            exact absurd ((Option.some.inj H).trans HRT_.out) (by decide)
           ·rw [if_neg c25] at H
            have c25b0 : (!(t315 == t322) || (!(t316 == t323) || (!(t317 == t324) || (!(t318 == t325))))) = false:=by simpa using c25
            clear c25
            by_cases c46 : t315 < t316
            ·rw [if_pos c46] at H
             have c46b0 : decide (t315 < t316) = true:=decide_eq_true c46
             clear c46
             exact absurd ((Option.some.inj H).trans HRT_.out) (by decide)
            ·rw [if_neg c46] at H
             have c46b0 : decide (t315 < t316) = false:=decide_eq_false c46
             clear c46
             by_cases c67 : t315 > t317
             ·rw [if_pos c67] at H
              have c67b0 : decide (t317 < t315) = true:=decide_eq_true c67
              clear c67
              exact absurd ((Option.some.inj H).trans HRT_.out) (by decide)
             ·rw [if_neg c67] at H
              have c67b0 : decide (t317 < t315) = false:=decide_eq_false c67
              clear c67
              by_cases c88 : (rd y310 x7_2) < t316
              ·rw [if_pos c88] at H
               have c88b0 : decide ((rd y310 x7_2) < t316) = true:=decide_eq_true c88
               clear c88
               exact absurd ((Option.some.inj H).trans HRT_.out) (by decide)
              ·rw [if_neg c88] at H
               have c88b0 : decide ((rd y310 x7_2) < t316) = false:=decide_eq_false c88
               clear c88
               by_cases c109 : (rd y310 x7_2) > t317
               ·rw [if_pos c109] at H
                have c109b0 : decide (t317 < (rd y310 x7_2)) = true:=decide_eq_true c109
                clear c109
                exact absurd ((Option.some.inj H).trans HRT_.out) (by decide)
               ·rw [if_neg c109] at H
                have c109b0 : decide (t317 < (rd y310 x7_2)) = false:=decide_eq_false c109
                clear c109
                by_cases c130 : t318 = (wrap64 (x7_2 + 1))
                ·rw [if_pos c130] at H
                 have c130b0 : (t318 == (wrap64 (x7_2 + 1))) = true:=beq_iff_eq.mpr c130
                 have c130b1 : (t318 != (wrap64 (x7_2 + 1))) = false:=bne_eq_false_iff_eq.mpr c130
                 clear c130
                 have H':=aMk H
                 clear H
                 obtain ⟨Ao131,co131,eo131⟩:=Kd.R_slice HO_5.out
                 subst eo131
                 try go_wp2
                 have n0_:=aMk (Kd.R_drew HO_5.out)
                 have n1_:=aMk (bDr BK313.out)
                 have n2_:=aMk (bw1 HB.out)
                 clear HO_5
                 clear BK313
                 clear HB
                 have HO_5:=n0_
                 have BK313:=n1_
                 have HB:=n2_
                 clear n0_ n1_ n2_
                 have p314 : 0 ≤ (x7_2 : Int):=of_decide_eq_true (by first|(with_reducible assumption) | assumption)
                 have q314 : x7_2 < (y310.length : Int):=of_decide_eq_true (by first|(with_reducible assumption) | assumption)
                 obtain ⟨ad314,e314,hx314_0⟩:=Kd.at_int (Kd.R_reads' HO_5.out).2.2 x7_2 p314 q314
                 cases e314
                 replace p314:=eq_true p314
                 replace q314:=eq_true q314
                 refine start_ (n:=12) (S:=fun w' => w'.cell? ⟨gb313,0,none⟩ = some (.int .i64 x314000_2) ∧ w'.cell? ⟨gb313,1,none⟩ = some (.int .i64 x314001_2) ∧ w'.cell? ⟨gb313,2,none⟩ = some (.int .i64 x314002_2) ∧ w'.cell? ⟨gb313,3,none⟩ = some (.int .i64 x314003_2) ∧ w'.cell? (ad314.add (x7_2).toNat) = some (.int .i64 (rd y310 x7_2))) (ds:=[]) #[false,false,false,false,false,false,false,false,false,false,false,false] (by kernel_rfl) rfl rfl ⟨(bCe BK313.out 0).trans rfl,(bCe BK313.out 1).trans rfl,(bCe BK313.out 2).trans rfl,(bCe BK313.out 3).trans rfl,hx314_0⟩ (fun hHeld => ?_);refine with_tabW laws_FnMeter.tab8 laws_FnMeter.bits8 (fun HT_ HW_ => ?_)
                 generalize wr.drew = w132 at HO_5 BK313 HB hx314_0 hHeld ⊢
                 refine pU (i:=1) (N:=some 49) #[false,true,false,false,false,false,false,false,false,false,false,false] (any_of HT_.out (by kernel_rfl)) ?_
                 refine pU (i:=2) (N:=some 50) #[false,true,true,false,false,false,false,false,false,false,false,false] (any_of HT_.out (by kernel_rfl)) ?_
                 refine pU (i:=3) (N:=some 51) #[false,true,true,true,false,false,false,false,false,false,false,false] (any_of HT_.out (by kernel_rfl)) ?_
                 refine tU5 (i:=0) (N:=some 48) #[true,true,true,true,false,false,false,false,false,false,false,false] (take_ofW HT_.out HW_.out (by kernel_rfl)) hHeld ?_
                 refine tU5 (i:=4) (N:=some 52) #[true,true,true,true,true,false,false,false,false,false,false,false] (take_ofW HT_.out HW_.out (by kernel_rfl)) hHeld ?_
                 refine join_ (σ:=Nat) 2 #[true,true,true,true,true,true,true,true,true,true,false,false] (fun s_ => [(53,.tuple #[.agg #[.int .i64 t315,.int .i64 t316,.int .i64 t317,.int .i64 t318],.int .i64 t319]),(8,.pointer (some ⟨s_,0,none⟩)),(47,.tuple #[.agg #[.int .i64 t315,.int .i64 t316,.int .i64 t317,.int .i64 t318],.int .i64 t319]),(54,.agg #[.int .i64 t315,.int .i64 t316,.int .i64 t317,.int .i64 t318]),(55,.int .i64 t319)]) (fun s_ w' => (w'.cell? ⟨gb313,0,none⟩ = some (.int .i64 x314000_2) ∧ w'.cell? ⟨gb313,1,none⟩ = some (.int .i64 x314001_2) ∧ w'.cell? ⟨gb313,2,none⟩ = some (.int .i64 x314002_2) ∧ w'.cell? ⟨gb313,3,none⟩ = some (.int .i64 x314003_2) ∧ w'.cell? (ad314.add (x7_2).toNat) = some (.int .i64 (rd y310 x7_2))) ∧ (Kd.R (Kd.int .i64) 3 w' w.heap.size (fun _ => True) (.slice (some ad314) y310.length co131) y310) ∧ (w'.heap[gb313]? = some (.cells #[.int .i64 x314000_2,.int .i64 x314001_2,.int .i64 x314002_2,.int .i64 x314003_2] 39 (0,0))) ∧ (w'.heap[s_]? = some (.cells #[.int .i64 0,.int .i64 0,.int .i64 0,.int .i64 0] 39 (0,0))) ∧ (w.heap.size ≤ s_) ∧ (w.heap.size ≤ s_) ∧ (gb313 ≠ s_) ∧ (s_ ≠ gb313) ∧ (Below w.heap.size w w')) ?_ ?_
                 rotate_left
                 ·intro hCont
                  refine two_ (i:=5) (j:=9) (Ni:=some 53) (Nj:=some 8) #[true,true,true,true,true,true,false,false,false,false,false,false] #[true,true,true,true,true,false,false,false,false,true,false,false] rfl rfl rfl rfl (two_of HT_.out (by kernel_rfl)) (by decide) (by decide) (fun K hK => ?_) (fun K hK => ?_)
                  ·skip
                   refine goes_ Try.func19 (by kernel_rfl) rfl #[.agg #[.int .i64 x314000_2,.int .i64 x314001_2,.int .i64 x314002_2,.int .i64 x314003_2],.int .i64 (rd y310 x7_2)] (by rfl) rfl rfl (by (try simp only [List.map_toArray,List.map_cons,List.map_nil]);first | done | rfl|(simp only [List.length_drop,List.length_take];rfl)) ?_
                   with_reducible refine (impl_MeterAdd.calls x314000_2 x314001_2 x314002_2 x314003_2 (rd y310 x7_2) t315 t316 t317 t318 t319 _ A22.out).mono ?_
                   rintro e w133 ⟨rfl,hb⟩
                   have HS4_:=(hb.cell (wLt _ _ (hHeld.2.2.2.2))).trans (hHeld.2.2.2.2)
                   refine ⟨_,rfl,?_⟩
                   have n0_:=aMk (Kd.R_below (by (with_reducible repeat (first|apply Kd.R_alloc|apply Kd.R_drewN|apply Kd.R_drew));exact HO_5.out) hb)
                   have n1_:=aMk (bkB BK313.out hb)
                   have n2_:=aMk (below_step (by repeat (first|(with_reducible first|exact HB.out|apply bwA|apply bwN|apply bw1|refine below_set ?_ GE313.out)|exact HB.out)) hb)
                   clear HO_5
                   clear BK313
                   clear HB
                   have HO_5:=n0_
                   have BK313:=n1_
                   have HB:=n2_
                   clear n0_ n1_ n2_
                   (try clear hb)
                   (try clear hb2)
                   (try clear hk)
                   (try clear hi)
                   refine hK.out _ _ ⟨(bCe BK313.out 0).trans rfl,(bCe BK313.out 1).trans rfl,(bCe BK313.out 2).trans rfl,(bCe BK313.out 3).trans rfl,HS4_⟩ (fun hHeld => ?_)
                   clear hK K
                   refine norm_ (a':=?_) ?_ ?_
                   rotate_left
                   ·show Act.put _ (some 53) _ = _
                    simp only [Act.put,List.setIfInBounds_toArray,List.set_cons_zero,List.set_cons_succ,i64_w,i32_w]
                    rfl
                   refine pU (i:=6) (N:=some 47) #[true,true,true,true,true,true,true,false,false,false,false,false] (any_of HT_.out (by kernel_rfl)) ?_
                   refine pU (i:=7) (N:=some 54) #[true,true,true,true,true,true,true,true,false,false,false,false] (any_of HT_.out (by kernel_rfl)) ?_
                   refine pU (i:=8) (N:=some 55) #[true,true,true,true,true,true,true,true,true,false,false,false] (any_of HT_.out (by kernel_rfl)) ?_
                   refine one_ (i:=9) (N:=some 8) #[true,true,true,true,true,true,true,true,true,true,false,false] rfl rfl (one_of HT_.out (by kernel_rfl)) (by decide) (fun K hK => ?_)
                   refine box_step ?hg (N:=8) ?hd (cs:=#[.int .i64 0,.int .i64 0,.int .i64 0,.int .i64 0]) (t:=39) ?hr ?_;(case hd => rfl);(case hg => rfl);(case hr => first|(go_simp;done)|(go_simp;rfl))
                   intro gb320 hg w134 hbox hb
                   have HS4_:=(hb.cell (wLt _ _ (hHeld.2.2.2.2))).trans (hHeld.2.2.2.2)
                   have n0_:=aMk (Kd.R_below (by (with_reducible repeat (first|apply Kd.R_alloc|apply Kd.R_drewN|apply Kd.R_drew));exact HO_5.out) hb)
                   have n1_:=aMk (bkB BK313.out hb)
                   have n2_:=aMk (below_step (by repeat (first|(with_reducible first|exact HB.out|apply bwA|apply bwN|apply bw1|refine below_set ?_ GE313.out)|exact HB.out)) hb)
                   have n3_:=aMk (hbox)
                   have n4_:=aMk ((by rw [hg];exact (below_size (by repeat (first|(with_reducible first|exact HB.out|apply bwA|apply bwN|apply bw1|refine below_set ?_ GE313.out)|exact HB.out))) : w.heap.size ≤ gb320))
                   have n5_:=aMk ((by rw [hg];exact (below_size (by repeat (first|(with_reducible first|exact HB.out|apply bwA|apply bwN|apply bw1|refine below_set ?_ GE313.out)|exact HB.out))) : w.heap.size ≤ gb320))
                   have n6_:=aMk ((bkL BK313.out hg : gb313 ≠ gb320))
                   have n7_:=aMk ((bkG BK313.out hg : gb320 ≠ gb313))
                   clear HO_5
                   clear BK313
                   clear HB
                   have HO_5:=n0_
                   have BK313:=n1_
                   have HB:=n2_
                   have BK320:=n3_
                   have GW320:=n4_
                   have GE320:=n5_
                   have NB313_320:=n6_
                   have NB320_313:=n7_
                   clear n0_ n1_ n2_ n3_ n4_ n5_ n6_ n7_
                   clear hb hbox hg
                   refine hK.out _ _ ⟨(bCe BK313.out 0).trans rfl,(bCe BK313.out 1).trans rfl,(bCe BK313.out 2).trans rfl,(bCe BK313.out 3).trans rfl,HS4_⟩ (fun hHeld => ?_)
                   clear hK K
                   refine norm_ (a':=?_) ?_ ?_
                   rotate_left
                   ·show Act.put _ (some 8) _ = _
                    simp only [Act.put,List.setIfInBounds_toArray,List.set_cons_zero,List.set_cons_succ,i64_w,i32_w]
                    rfl
                   exact norm_ (by simp only [putAll,Act.put,List.setIfInBounds_toArray,List.set_cons_zero,List.set_cons_succ]) (hCont (gb320) _ ⟨hHeld,(by (with_reducible repeat (first|apply Kd.R_alloc|apply Kd.R_drewN|apply Kd.R_drew));exact HO_5.out),(by refine pB ?_;exact BK313.out),(by refine pB ?_;exact BK320.out),GW320.out,GE320.out,NB313_320.out,NB320_313.out,(by repeat (first|(with_reducible first|exact HB.out|apply bwA|apply bwN|apply bw1|refine below_set ?_ GE313.out|refine below_set ?_ GE320.out)|exact HB.out))⟩)
                  ·skip
                   refine box_step ?hg (N:=8) ?hd (cs:=#[.int .i64 0,.int .i64 0,.int .i64 0,.int .i64 0]) (t:=39) ?hr ?_;(case hd => rfl);(case hg => rfl);(case hr => first|(go_simp;done)|(go_simp;rfl))
                   intro gb320 hg w133 hbox hb
                   have HS4_:=(hb.cell (wLt _ _ (hHeld.2.2.2.2))).trans (hHeld.2.2.2.2)
                   have n0_:=aMk (Kd.R_below (by (with_reducible repeat (first|apply Kd.R_alloc|apply Kd.R_drewN|apply Kd.R_drew));exact HO_5.out) hb)
                   have n1_:=aMk (bkB BK313.out hb)
                   have n2_:=aMk (below_step (by repeat (first|(with_reducible first|exact HB.out|apply bwA|apply bwN|apply bw1|refine below_set ?_ GE313.out)|exact HB.out)) hb)
                   have n3_:=aMk (hbox)
                   have n4_:=aMk ((by rw [hg];exact (below_size (by repeat (first|(with_reducible first|exact HB.out|apply bwA|apply bwN|apply bw1|refine below_set ?_ GE313.out)|exact HB.out))) : w.heap.size ≤ gb320))
                   have n5_:=aMk ((by rw [hg];exact (below_size (by repeat (first|(with_reducible first|exact HB.out|apply bwA|apply bwN|apply bw1|refine below_set ?_ GE313.out)|exact HB.out))) : w.heap.size ≤ gb320))
                   have n6_:=aMk ((bkL BK313.out hg : gb313 ≠ gb320))
                   have n7_:=aMk ((bkG BK313.out hg : gb320 ≠ gb313))
                   clear HO_5
                   clear BK313
                   clear HB
                   have HO_5:=n0_
                   have BK313:=n1_
                   have HB:=n2_
                   have BK320:=n3_
                   have GW320:=n4_
                   have GE320:=n5_
                   have NB313_320:=n6_
                   have NB320_313:=n7_
                   clear n0_ n1_ n2_ n3_ n4_ n5_ n6_ n7_
                   clear hb hbox hg
                   refine hK.out _ _ ⟨(bCe BK313.out 0).trans rfl,(bCe BK313.out 1).trans rfl,(bCe BK313.out 2).trans rfl,(bCe BK313.out 3).trans rfl,HS4_⟩ (fun hHeld => ?_)
                   clear hK K
                   refine norm_ (a':=?_) ?_ ?_
                   rotate_left
                   ·show Act.put _ (some 8) _ = _
                    simp only [Act.put,List.setIfInBounds_toArray,List.set_cons_zero,List.set_cons_succ,i64_w,i32_w]
                    rfl
                   refine one_ (i:=5) (N:=some 53) #[true,true,true,true,true,true,false,false,false,true,false,false] rfl rfl (one_of HT_.out (by kernel_rfl)) (by decide) (fun K hK => ?_)
                   refine goes_ Try.func19 (by kernel_rfl) rfl #[.agg #[.int .i64 x314000_2,.int .i64 x314001_2,.int .i64 x314002_2,.int .i64 x314003_2],.int .i64 (rd y310 x7_2)] (by rfl) rfl rfl (by (try simp only [List.map_toArray,List.map_cons,List.map_nil]);first | done | rfl|(simp only [List.length_drop,List.length_take];rfl)) ?_
                   with_reducible refine (impl_MeterAdd.calls x314000_2 x314001_2 x314002_2 x314003_2 (rd y310 x7_2) t315 t316 t317 t318 t319 _ A22.out).mono ?_
                   rintro e w134 ⟨rfl,hb⟩
                   have HS4_:=(hb.cell (wLt _ _ (hHeld.2.2.2.2))).trans (hHeld.2.2.2.2)
                   refine ⟨_,rfl,?_⟩
                   have n0_:=aMk (Kd.R_below (by (with_reducible repeat (first|apply Kd.R_alloc|apply Kd.R_drewN|apply Kd.R_drew));exact HO_5.out) hb)
                   have n1_:=aMk (bkB BK313.out hb)
                   have n2_:=aMk (bkB BK320.out hb)
                   have n3_:=aMk (below_step (by repeat (first|(with_reducible first|exact HB.out|apply bwA|apply bwN|apply bw1|refine below_set ?_ GE313.out|refine below_set ?_ GE320.out)|exact HB.out)) hb)
                   clear HO_5
                   clear BK313
                   clear BK320
                   clear HB
                   have HO_5:=n0_
                   have BK313:=n1_
                   have BK320:=n2_
                   have HB:=n3_
                   clear n0_ n1_ n2_ n3_
                   (try clear hb)
                   (try clear hb2)
                   (try clear hk)
                   (try clear hi)
                   refine hK.out _ _ ⟨(bCe BK313.out 0).trans rfl,(bCe BK313.out 1).trans rfl,(bCe BK313.out 2).trans rfl,(bCe BK313.out 3).trans rfl,HS4_⟩ (fun hHeld => ?_)
                   clear hK K
                   refine norm_ (a':=?_) ?_ ?_
                   rotate_left
                   ·show Act.put _ (some 53) _ = _
                    simp only [Act.put,List.setIfInBounds_toArray,List.set_cons_zero,List.set_cons_succ,i64_w,i32_w]
                    rfl
                   refine pU (i:=6) (N:=some 47) #[true,true,true,true,true,true,true,false,false,true,false,false] (any_of HT_.out (by kernel_rfl)) ?_
                   refine pU (i:=7) (N:=some 54) #[true,true,true,true,true,true,true,true,false,true,false,false] (any_of HT_.out (by kernel_rfl)) ?_
                   refine pU (i:=8) (N:=some 55) #[true,true,true,true,true,true,true,true,true,true,false,false] (any_of HT_.out (by kernel_rfl)) ?_
                   exact norm_ (by simp only [putAll,Act.put,List.setIfInBounds_toArray,List.set_cons_zero,List.set_cons_succ]) (hCont (gb320) _ ⟨hHeld,(by (with_reducible repeat (first|apply Kd.R_alloc|apply Kd.R_drewN|apply Kd.R_drew));exact HO_5.out),(by refine pB ?_;exact BK313.out),(by refine pB ?_;exact BK320.out),GW320.out,GE320.out,NB313_320.out,NB320_313.out,(by repeat (first|(with_reducible first|exact HB.out|apply bwA|apply bwN|apply bw1|refine below_set ?_ GE313.out|refine below_set ?_ GE320.out)|exact HB.out))⟩)
                 rintro gb320 w135 ⟨hS_,h0_,h1_,h2_,h3_,h4_,h5_,h6_,h7_⟩
                 have n0_ : Aside0 (Kd.R (Kd.int .i64) 3 w135 w.heap.size (fun _ => True) (.slice (some ad314) y310.length co131) y310):=⟨h0_⟩
                 have n1_ : Aside0 (w135.heap[gb313]? = some (.cells #[.int .i64 x314000_2,.int .i64 x314001_2,.int .i64 x314002_2,.int .i64 x314003_2] 39 (0,0))):=⟨h1_⟩
                 have n2_ : Aside0 (w135.heap[gb320]? = some (.cells #[.int .i64 0,.int .i64 0,.int .i64 0,.int .i64 0] 39 (0,0))):=⟨h2_⟩
                 have n3_ : Aside0 (w.heap.size ≤ gb320):=⟨h3_⟩
                 have n4_ : Aside0 (w.heap.size ≤ gb320):=⟨h4_⟩
                 have n5_ : Aside0 (gb313 ≠ gb320):=⟨h5_⟩
                 have n6_ : Aside0 (gb320 ≠ gb313):=⟨h6_⟩
                 have n7_ : Aside0 (Below w.heap.size w w135):=⟨h7_⟩
                 clear HO_5
                 clear BK313
                 clear HB
                 clear h0_ h1_ h2_ h3_ h4_ h5_ h6_ h7_
                 have HO_5:=n0_
                 have BK313:=n1_
                 have BK320:=n2_
                 have GW320:=n3_
                 have GE320:=n4_
                 have NB313_320:=n5_
                 have NB320_313:=n6_
                 have HB:=n7_
                 clear n0_ n1_ n2_ n3_ n4_ n5_ n6_ n7_
                 have hHeld : w135.cell? ⟨gb313,0,none⟩ = some (.int .i64 x314000_2) ∧ w135.cell? ⟨gb313,1,none⟩ = some (.int .i64 x314001_2) ∧ w135.cell? ⟨gb313,2,none⟩ = some (.int .i64 x314002_2) ∧ w135.cell? ⟨gb313,3,none⟩ = some (.int .i64 x314003_2) ∧ w135.cell? (ad314.add (x7_2).toNat) = some (.int .i64 (rd y310 x7_2)):=hS_
                 refine norm_ (a':=?_) ?_ ?_
                 rotate_left
                 ·simp only [putAll,Act.put,List.setIfInBounds_toArray,List.set_cons_zero,List.set_cons_succ]
                  rfl
                 refine one_ (i:=10) (N:=none) #[true,true,true,true,true,true,true,true,true,true,true,false] rfl rfl (one_of HT_.out (by kernel_rfl)) (by decide) (fun K hK => ?_)
                 have hs136 : w135.cell? ⟨gb320,0,none⟩ = some (.int .i64 0):=(bCe BK320.out 0).trans rfl
                 have hfs136:=bFr BK320.out 0
                 have hns136_0:=NB313_320.out
                 have hms136_0:=NB320_313.out
                 have hs137 : w135.cell? ⟨gb320,1,none⟩ = some (.int .i64 0):=(bCe BK320.out 1).trans rfl
                 have hfs137:=bFr BK320.out 1
                 have hns137_0:=NB313_320.out
                 have hms137_0:=NB320_313.out
                 have hs138 : w135.cell? ⟨gb320,2,none⟩ = some (.int .i64 0):=(bCe BK320.out 2).trans rfl
                 have hfs138:=bFr BK320.out 2
                 have hns138_0:=NB313_320.out
                 have hms138_0:=NB320_313.out
                 have hs139 : w135.cell? ⟨gb320,3,none⟩ = some (.int .i64 0):=(bCe BK320.out 3).trans rfl
                 have hfs139:=bFr BK320.out 3
                 have hns139_0:=NB313_320.out
                 have hms139_0:=NB320_313.out
                 refine skip_ (w1:=?_) (by rfl) rfl ?_ ?_
                 rotate_left
                 ·go_simp
                  rfl
                 refine hK.out _ _ ⟨((cell_far (p:=⟨gb320,_,none⟩) NB313_320.out _).trans (((cell_far (p:=⟨gb320,_,none⟩) NB313_320.out _).trans (((cell_far (p:=⟨gb320,_,none⟩) NB313_320.out _).trans (((cell_far (p:=⟨gb320,_,none⟩) NB313_320.out _).trans (hHeld.1)))))))),((cell_far (p:=⟨gb320,_,none⟩) NB313_320.out _).trans (((cell_far (p:=⟨gb320,_,none⟩) NB313_320.out _).trans (((cell_far (p:=⟨gb320,_,none⟩) NB313_320.out _).trans (((cell_far (p:=⟨gb320,_,none⟩) NB313_320.out _).trans (hHeld.2.1)))))))),((cell_far (p:=⟨gb320,_,none⟩) NB313_320.out _).trans (((cell_far (p:=⟨gb320,_,none⟩) NB313_320.out _).trans (((cell_far (p:=⟨gb320,_,none⟩) NB313_320.out _).trans (((cell_far (p:=⟨gb320,_,none⟩) NB313_320.out _).trans (hHeld.2.2.1)))))))),((cell_far (p:=⟨gb320,_,none⟩) NB313_320.out _).trans (((cell_far (p:=⟨gb320,_,none⟩) NB313_320.out _).trans (((cell_far (p:=⟨gb320,_,none⟩) NB313_320.out _).trans (((cell_far (p:=⟨gb320,_,none⟩) NB313_320.out _).trans (hHeld.2.2.2.1)))))))),((cell_far (p:=⟨gb320,_,none⟩) (by first|exact Kd.own_blk (Kd.R_ne HO_5.out BK320.out (by decide))|(rw [add_block];exact Kd.own_blk (Kd.R_ne HO_5.out BK320.out (by decide)))|(show (Addr.add _ _).block ≠ _;rw [add_block];exact Kd.own_blk (Kd.R_ne HO_5.out BK320.out (by decide)))|(dsimp only;exact Kd.own_blk (Kd.R_ne HO_5.out BK320.out (by decide)))) _).trans (((cell_far (p:=⟨gb320,_,none⟩) (by first|exact Kd.own_blk (Kd.R_ne HO_5.out BK320.out (by decide))|(rw [add_block];exact Kd.own_blk (Kd.R_ne HO_5.out BK320.out (by decide)))|(show (Addr.add _ _).block ≠ _;rw [add_block];exact Kd.own_blk (Kd.R_ne HO_5.out BK320.out (by decide)))|(dsimp only;exact Kd.own_blk (Kd.R_ne HO_5.out BK320.out (by decide)))) _).trans (((cell_far (p:=⟨gb320,_,none⟩) (by first|exact Kd.own_blk (Kd.R_ne HO_5.out BK320.out (by decide))|(rw [add_block];exact Kd.own_blk (Kd.R_ne HO_5.out BK320.out (by decide)))|(show (Addr.add _ _).block ≠ _;rw [add_block];exact Kd.own_blk (Kd.R_ne HO_5.out BK320.out (by decide)))|(dsimp only;exact Kd.own_blk (Kd.R_ne HO_5.out BK320.out (by decide)))) _).trans (((cell_far (p:=⟨gb320,_,none⟩) (by first|exact Kd.own_blk (Kd.R_ne HO_5.out BK320.out (by decide))|(rw [add_block];exact Kd.own_blk (Kd.R_ne HO_5.out BK320.out (by decide)))|(show (Addr.add _ _).block ≠ _;rw [add_block];exact Kd.own_blk (Kd.R_ne HO_5.out BK320.out (by decide)))|(dsimp only;exact Kd.own_blk (Kd.R_ne HO_5.out BK320.out (by decide)))) _).trans (hHeld.2.2.2.2))))))))⟩ (fun hHeld => ?_)
                 clear hK K
                 refine pU (i:=11) (N:=some 9) #[true,true,true,true,true,true,true,true,true,true,true,true] (any_of HT_.out (by kernel_rfl)) ?_
                 refine done_ (done_of HT_.out (by kernel_rfl)) ?_
                 try go_wp2
                 have n0_ : Aside0 (Kd.R (Kd.int .i64) 3 ((((w135.setCell ⟨gb320,0,none⟩ (.int .i64 t315)).setCell ⟨gb320,1,none⟩ (.int .i64 t316)).setCell ⟨gb320,2,none⟩ (.int .i64 t317)).setCell ⟨gb320,3,none⟩ (.int .i64 t318)) w.heap.size (fun _ => True) (.slice (some ad314) y310.length co131) y310):=⟨by (with_reducible repeat (first|apply Kd.R_alloc|apply Kd.R_drewN|apply Kd.R_drew));exact Kd.R_mono (Kd.R_far (p:=⟨gb320,3,none⟩) (Kd.R_far (p:=⟨gb320,2,none⟩) (Kd.R_far (p:=⟨gb320,1,none⟩) (Kd.R_far (p:=⟨gb320,0,none⟩) (Kd.R_types HO_5.out BK320.out (by decide)) (fun _ hk => hk.2) (.int .i64 t315)) (fun _ hk => hk.2) (.int .i64 t316)) (fun _ hk => hk.2) (.int .i64 t317)) (fun _ hk => hk.2) (.int .i64 t318)) (fun _ hk => trivial)⟩
                 have n1_ : Aside0 (((((w135.setCell ⟨gb320,0,none⟩ (.int .i64 t315)).setCell ⟨gb320,1,none⟩ (.int .i64 t316)).setCell ⟨gb320,2,none⟩ (.int .i64 t317)).setCell ⟨gb320,3,none⟩ (.int .i64 t318)).heap[gb313]? = some (.cells #[.int .i64 x314000_2,.int .i64 x314001_2,.int .i64 x314002_2,.int .i64 x314003_2] 39 (0,0))):=⟨by refine pB ?_;refine blk_far ?_ NB313_320.out _;refine pB ?_;refine blk_far ?_ NB313_320.out _;refine pB ?_;refine blk_far ?_ NB313_320.out _;refine pB ?_;refine blk_far ?_ NB313_320.out _;refine pB ?_;exact BK313.out⟩
                 have n2_ : Aside0 (((((w135.setCell ⟨gb320,0,none⟩ (.int .i64 t315)).setCell ⟨gb320,1,none⟩ (.int .i64 t316)).setCell ⟨gb320,2,none⟩ (.int .i64 t317)).setCell ⟨gb320,3,none⟩ (.int .i64 t318)).heap[gb320]? = some (.cells #[.int .i64 t315,.int .i64 t316,.int .i64 t317,.int .i64 t318] 39 (0,0))):=⟨by refine pB ?_;refine blk_put (cs:=#[.int .i64 t315,.int .i64 t316,.int .i64 t317,.int .i64 0]) ?_ 3 _ rfl;refine pB ?_;refine blk_put (cs:=#[.int .i64 t315,.int .i64 t316,.int .i64 0,.int .i64 0]) ?_ 2 _ rfl;refine pB ?_;refine blk_put (cs:=#[.int .i64 t315,.int .i64 0,.int .i64 0,.int .i64 0]) ?_ 1 _ rfl;refine pB ?_;refine blk_put (cs:=#[.int .i64 0,.int .i64 0,.int .i64 0,.int .i64 0]) ?_ 0 _ rfl;refine pB ?_;exact BK320.out⟩
                 have n3_ : Aside0 (Below w.heap.size w ((((w135.setCell ⟨gb320,0,none⟩ (.int .i64 t315)).setCell ⟨gb320,1,none⟩ (.int .i64 t316)).setCell ⟨gb320,2,none⟩ (.int .i64 t317)).setCell ⟨gb320,3,none⟩ (.int .i64 t318))):=⟨by repeat (first|(with_reducible first|exact HB.out|apply bwA|apply bwN|apply bw1|refine below_set ?_ GE313.out|refine below_set ?_ GE320.out)|exact HB.out)⟩
                 (try clear HO_5)
                 (try clear BK313)
                 (try clear BK320)
                 (try clear HB)
                 generalize ((((w135.setCell ⟨gb320,0,none⟩ (.int .i64 t315)).setCell ⟨gb320,1,none⟩ (.int .i64 t316)).setCell ⟨gb320,2,none⟩ (.int .i64 t317)).setCell ⟨gb320,3,none⟩ (.int .i64 t318)) = w140 at n0_ n1_ n2_ n3_ ⊢
                 have HO_5:=n0_
                 have BK313:=n1_
                 have BK320:=n2_
                 have HB:=n3_
                 clear n0_ n1_ n2_ n3_
                 have n0_:=aMk (Kd.R_drew HO_5.out)
                 have n1_:=aMk (bDr BK313.out)
                 have n2_:=aMk (bDr BK320.out)
                 have n3_:=aMk (bw1 HB.out)
                 clear HO_5
                 clear BK313
                 clear BK320
                 clear HB
                 have HO_5:=n0_
                 have BK313:=n1_
                 have BK320:=n2_
                 have HB:=n3_
                 clear n0_ n1_ n2_ n3_
                 have p321 : 0 ≤ (x7_2 : Int):=of_decide_eq_true (by first|(with_reducible assumption) | assumption)
                 have q321 : x7_2 < (y310.length : Int):=of_decide_eq_true (by first|(with_reducible assumption) | assumption)
                 obtain ⟨ad321,e321,hx321_0⟩:=Kd.at_int (Kd.R_reads' HO_5.out).2.2 x7_2 p321 q321
                 obtain rfl : ad314 = ad321:=(by injection e321)
                 replace p321:=eq_true p321
                 replace q321:=eq_true q321
                 refine start_ (n:=12) (S:=fun w' => w'.cell? ⟨gb313,0,none⟩ = some (.int .i64 x314000_2) ∧ w'.cell? ⟨gb313,1,none⟩ = some (.int .i64 x314001_2) ∧ w'.cell? ⟨gb313,2,none⟩ = some (.int .i64 x314002_2) ∧ w'.cell? ⟨gb313,3,none⟩ = some (.int .i64 x314003_2) ∧ w'.cell? (ad314.add (x7_2).toNat) = some (.int .i64 (rd y310 x7_2))) (ds:=[]) #[false,false,false,false,false,false,false,false,false,false,false,false] (by kernel_rfl) rfl rfl ⟨(bCe BK313.out 0).trans rfl,(bCe BK313.out 1).trans rfl,(bCe BK313.out 2).trans rfl,(bCe BK313.out 3).trans rfl,hx321_0⟩ (fun hHeld => ?_);refine with_tabW laws_FnMeter.tab9 laws_FnMeter.bits9 (fun HT_ HW_ => ?_)
                 generalize w140.drew = w141 at HO_5 BK313 BK320 HB hx321_0 hHeld ⊢
                 refine pU (i:=1) (N:=some 58) #[false,true,false,false,false,false,false,false,false,false,false,false] (any_of HT_.out (by kernel_rfl)) ?_
                 refine pU (i:=2) (N:=some 59) #[false,true,true,false,false,false,false,false,false,false,false,false] (any_of HT_.out (by kernel_rfl)) ?_
                 refine pU (i:=3) (N:=some 60) #[false,true,true,true,false,false,false,false,false,false,false,false] (any_of HT_.out (by kernel_rfl)) ?_
                 refine tU5 (i:=0) (N:=some 57) #[true,true,true,true,false,false,false,false,false,false,false,false] (take_ofW HT_.out HW_.out (by kernel_rfl)) hHeld ?_
                 refine tU5 (i:=4) (N:=some 61) #[true,true,true,true,true,false,false,false,false,false,false,false] (take_ofW HT_.out HW_.out (by kernel_rfl)) hHeld ?_
                 refine join_ (σ:=Nat) 2 #[true,true,true,true,true,true,true,true,true,true,false,false] (fun s_ => [(62,.tuple #[.agg #[.int .i64 t322,.int .i64 t323,.int .i64 t324,.int .i64 t325],.int .i64 t326]),(10,.pointer (some ⟨s_,0,none⟩)),(56,.tuple #[.agg #[.int .i64 t322,.int .i64 t323,.int .i64 t324,.int .i64 t325],.int .i64 t326]),(63,.agg #[.int .i64 t322,.int .i64 t323,.int .i64 t324,.int .i64 t325]),(64,.int .i64 t326)]) (fun s_ w' => (w'.cell? ⟨gb313,0,none⟩ = some (.int .i64 x314000_2) ∧ w'.cell? ⟨gb313,1,none⟩ = some (.int .i64 x314001_2) ∧ w'.cell? ⟨gb313,2,none⟩ = some (.int .i64 x314002_2) ∧ w'.cell? ⟨gb313,3,none⟩ = some (.int .i64 x314003_2) ∧ w'.cell? (ad314.add (x7_2).toNat) = some (.int .i64 (rd y310 x7_2))) ∧ (Kd.R (Kd.int .i64) 3 w' w.heap.size (fun _ => True) (.slice (some ad314) y310.length co131) y310) ∧ (w'.heap[gb313]? = some (.cells #[.int .i64 x314000_2,.int .i64 x314001_2,.int .i64 x314002_2,.int .i64 x314003_2] 39 (0,0))) ∧ (w'.heap[gb320]? = some (.cells #[.int .i64 t315,.int .i64 t316,.int .i64 t317,.int .i64 t318] 39 (0,0))) ∧ (w'.heap[s_]? = some (.cells #[.int .i64 0,.int .i64 0,.int .i64 0,.int .i64 0] 39 (0,0))) ∧ (w.heap.size ≤ s_) ∧ (w.heap.size ≤ s_) ∧ (gb313 ≠ s_) ∧ (s_ ≠ gb313) ∧ (gb320 ≠ s_) ∧ (s_ ≠ gb320) ∧ (Below w.heap.size w w')) ?_ ?_
                 rotate_left
                 ·intro hCont
                  refine two_ (i:=5) (j:=9) (Ni:=some 62) (Nj:=some 10) #[true,true,true,true,true,true,false,false,false,false,false,false] #[true,true,true,true,true,false,false,false,false,true,false,false] rfl rfl rfl rfl (two_of HT_.out (by kernel_rfl)) (by decide) (by decide) (fun K hK => ?_) (fun K hK => ?_)
                  ·skip
                   refine goes_ Try.func20 (by kernel_rfl) rfl #[.agg #[.int .i64 x314000_2,.int .i64 x314001_2,.int .i64 x314002_2,.int .i64 x314003_2],.int .i64 (rd y310 x7_2)] (by rfl) rfl rfl (by (try simp only [List.map_toArray,List.map_cons,List.map_nil]);first | done | rfl|(simp only [List.length_drop,List.length_take];rfl)) ?_
                   with_reducible refine (spec_MeterAdd.calls x314000_2 x314001_2 x314002_2 x314003_2 (rd y310 x7_2) t322 t323 t324 t325 t326 _ A23.out).mono ?_
                   rintro e w142 ⟨rfl,hb⟩
                   have HS4_:=(hb.cell (wLt _ _ (hHeld.2.2.2.2))).trans (hHeld.2.2.2.2)
                   refine ⟨_,rfl,?_⟩
                   have n0_:=aMk (Kd.R_below (by (with_reducible repeat (first|apply Kd.R_alloc|apply Kd.R_drewN|apply Kd.R_drew));exact HO_5.out) hb)
                   have n1_:=aMk (bkB BK313.out hb)
                   have n2_:=aMk (bkB BK320.out hb)
                   have n3_:=aMk (below_step (by repeat (first|(with_reducible first|exact HB.out|apply bwA|apply bwN|apply bw1|refine below_set ?_ GE313.out|refine below_set ?_ GE320.out)|exact HB.out)) hb)
                   clear HO_5
                   clear BK313
                   clear BK320
                   clear HB
                   have HO_5:=n0_
                   have BK313:=n1_
                   have BK320:=n2_
                   have HB:=n3_
                   clear n0_ n1_ n2_ n3_
                   (try clear hb)
                   (try clear hb2)
                   (try clear hk)
                   (try clear hi)
                   refine hK.out _ _ ⟨(bCe BK313.out 0).trans rfl,(bCe BK313.out 1).trans rfl,(bCe BK313.out 2).trans rfl,(bCe BK313.out 3).trans rfl,HS4_⟩ (fun hHeld => ?_)
                   clear hK K
                   refine norm_ (a':=?_) ?_ ?_
                   rotate_left
                   ·show Act.put _ (some 62) _ = _
                    simp only [Act.put,List.setIfInBounds_toArray,List.set_cons_zero,List.set_cons_succ,i64_w,i32_w]
                    rfl
                   refine pU (i:=6) (N:=some 56) #[true,true,true,true,true,true,true,false,false,false,false,false] (any_of HT_.out (by kernel_rfl)) ?_
                   refine pU (i:=7) (N:=some 63) #[true,true,true,true,true,true,true,true,false,false,false,false] (any_of HT_.out (by kernel_rfl)) ?_
                   refine pU (i:=8) (N:=some 64) #[true,true,true,true,true,true,true,true,true,false,false,false] (any_of HT_.out (by kernel_rfl)) ?_
                   refine one_ (i:=9) (N:=some 10) #[true,true,true,true,true,true,true,true,true,true,false,false] rfl rfl (one_of HT_.out (by kernel_rfl)) (by decide) (fun K hK => ?_)
                   refine box_step ?hg (N:=10) ?hd (cs:=#[.int .i64 0,.int .i64 0,.int .i64 0,.int .i64 0]) (t:=39) ?hr ?_;(case hd => rfl);(case hg => rfl);(case hr => first|(go_simp;done)|(go_simp;rfl))
                   intro gb327 hg w143 hbox hb
                   have HS4_:=(hb.cell (wLt _ _ (hHeld.2.2.2.2))).trans (hHeld.2.2.2.2)
                   have n0_:=aMk (Kd.R_below (by (with_reducible repeat (first|apply Kd.R_alloc|apply Kd.R_drewN|apply Kd.R_drew));exact HO_5.out) hb)
                   have n1_:=aMk (bkB BK313.out hb)
                   have n2_:=aMk (bkB BK320.out hb)
                   have n3_:=aMk (below_step (by repeat (first|(with_reducible first|exact HB.out|apply bwA|apply bwN|apply bw1|refine below_set ?_ GE313.out|refine below_set ?_ GE320.out)|exact HB.out)) hb)
                   have n4_:=aMk (hbox)
                   have n5_:=aMk ((by rw [hg];exact (below_size (by repeat (first|(with_reducible first|exact HB.out|apply bwA|apply bwN|apply bw1|refine below_set ?_ GE313.out|refine below_set ?_ GE320.out)|exact HB.out))) : w.heap.size ≤ gb327))
                   have n6_:=aMk ((by rw [hg];exact (below_size (by repeat (first|(with_reducible first|exact HB.out|apply bwA|apply bwN|apply bw1|refine below_set ?_ GE313.out|refine below_set ?_ GE320.out)|exact HB.out))) : w.heap.size ≤ gb327))
                   have n7_:=aMk ((bkL BK313.out hg : gb313 ≠ gb327))
                   have n8_:=aMk ((bkG BK313.out hg : gb327 ≠ gb313))
                   have n9_:=aMk ((bkL BK320.out hg : gb320 ≠ gb327))
                   have n10_:=aMk ((bkG BK320.out hg : gb327 ≠ gb320))
                   clear HO_5
                   clear BK313
                   clear BK320
                   clear HB
                   have HO_5:=n0_
                   have BK313:=n1_
                   have BK320:=n2_
                   have HB:=n3_
                   have BK327:=n4_
                   have GW327:=n5_
                   have GE327:=n6_
                   have NB313_327:=n7_
                   have NB327_313:=n8_
                   have NB320_327:=n9_
                   have NB327_320:=n10_
                   clear n0_ n1_ n2_ n3_ n4_ n5_ n6_ n7_ n8_ n9_ n10_
                   clear hb hbox hg
                   refine hK.out _ _ ⟨(bCe BK313.out 0).trans rfl,(bCe BK313.out 1).trans rfl,(bCe BK313.out 2).trans rfl,(bCe BK313.out 3).trans rfl,HS4_⟩ (fun hHeld => ?_)
                   clear hK K
                   refine norm_ (a':=?_) ?_ ?_
                   rotate_left
                   ·show Act.put _ (some 10) _ = _
                    simp only [Act.put,List.setIfInBounds_toArray,List.set_cons_zero,List.set_cons_succ,i64_w,i32_w]
                    rfl
                   exact norm_ (by simp only [putAll,Act.put,List.setIfInBounds_toArray,List.set_cons_zero,List.set_cons_succ]) (hCont (gb327) _ ⟨hHeld,(by (with_reducible repeat (first|apply Kd.R_alloc|apply Kd.R_drewN|apply Kd.R_drew));exact HO_5.out),(by refine pB ?_;exact BK313.out),(by refine pB ?_;exact BK320.out),(by refine pB ?_;exact BK327.out),GW327.out,GE327.out,NB313_327.out,NB327_313.out,NB320_327.out,NB327_320.out,(by repeat (first|(with_reducible first|exact HB.out|apply bwA|apply bwN|apply bw1|refine below_set ?_ GE313.out|refine below_set ?_ GE320.out|refine below_set ?_ GE327.out)|exact HB.out))⟩)
                  ·skip
                   refine box_step ?hg (N:=10) ?hd (cs:=#[.int .i64 0,.int .i64 0,.int .i64 0,.int .i64 0]) (t:=39) ?hr ?_;(case hd => rfl);(case hg => rfl);(case hr => first|(go_simp;done)|(go_simp;rfl))
                   intro gb327 hg w142 hbox hb
                   have HS4_:=(hb.cell (wLt _ _ (hHeld.2.2.2.2))).trans (hHeld.2.2.2.2)
                   have n0_:=aMk (Kd.R_below (by (with_reducible repeat (first|apply Kd.R_alloc|apply Kd.R_drewN|apply Kd.R_drew));exact HO_5.out) hb)
                   have n1_:=aMk (bkB BK313.out hb)
                   have n2_:=aMk (bkB BK320.out hb)
                   have n3_:=aMk (below_step (by repeat (first|(with_reducible first|exact HB.out|apply bwA|apply bwN|apply bw1|refine below_set ?_ GE313.out|refine below_set ?_ GE320.out)|exact HB.out)) hb)
                   have n4_:=aMk (hbox)
                   have n5_:=aMk ((by rw [hg];exact (below_size (by repeat (first|(with_reducible first|exact HB.out|apply bwA|apply bwN|apply bw1|refine below_set ?_ GE313.out|refine below_set ?_ GE320.out)|exact HB.out))) : w.heap.size ≤ gb327))
                   have n6_:=aMk ((by rw [hg];exact (below_size (by repeat (first|(with_reducible first|exact HB.out|apply bwA|apply bwN|apply bw1|refine below_set ?_ GE313.out|refine below_set ?_ GE320.out)|exact HB.out))) : w.heap.size ≤ gb327))
                   have n7_:=aMk ((bkL BK313.out hg : gb313 ≠ gb327))
                   have n8_:=aMk ((bkG BK313.out hg : gb327 ≠ gb313))
                   have n9_:=aMk ((bkL BK320.out hg : gb320 ≠ gb327))
                   have n10_:=aMk ((bkG BK320.out hg : gb327 ≠ gb320))
                   clear HO_5
                   clear BK313
                   clear BK320
                   clear HB
                   have HO_5:=n0_
                   have BK313:=n1_
                   have BK320:=n2_
                   have HB:=n3_
                   have BK327:=n4_
                   have GW327:=n5_
                   have GE327:=n6_
                   have NB313_327:=n7_
                   have NB327_313:=n8_
                   have NB320_327:=n9_
                   have NB327_320:=n10_
                   clear n0_ n1_ n2_ n3_ n4_ n5_ n6_ n7_ n8_ n9_ n10_
                   clear hb hbox hg
                   refine hK.out _ _ ⟨(bCe BK313.out 0).trans rfl,(bCe BK313.out 1).trans rfl,(bCe BK313.out 2).trans rfl,(bCe BK313.out 3).trans rfl,HS4_⟩ (fun hHeld => ?_)
                   clear hK K
                   refine norm_ (a':=?_) ?_ ?_
                   rotate_left
                   ·show Act.put _ (some 10) _ = _
                    simp only [Act.put,List.setIfInBounds_toArray,List.set_cons_zero,List.set_cons_succ,i64_w,i32_w]
                    rfl
                   refine one_ (i:=5) (N:=some 62) #[true,true,true,true,true,true,false,false,false,true,false,false] rfl rfl (one_of HT_.out (by kernel_rfl)) (by decide) (fun K hK => ?_)
                   refine goes_ Try.func20 (by kernel_rfl) rfl #[.agg #[.int .i64 x314000_2,.int .i64 x314001_2,.int .i64 x314002_2,.int .i64 x314003_2],.int .i64 (rd y310 x7_2)] (by rfl) rfl rfl (by (try simp only [List.map_toArray,List.map_cons,List.map_nil]);first | done | rfl|(simp only [List.length_drop,List.length_take];rfl)) ?_
                   with_reducible refine (spec_MeterAdd.calls x314000_2 x314001_2 x314002_2 x314003_2 (rd y310 x7_2) t322 t323 t324 t325 t326 _ A23.out).mono ?_
                   rintro e w143 ⟨rfl,hb⟩
                   have HS4_:=(hb.cell (wLt _ _ (hHeld.2.2.2.2))).trans (hHeld.2.2.2.2)
                   refine ⟨_,rfl,?_⟩
                   have n0_:=aMk (Kd.R_below (by (with_reducible repeat (first|apply Kd.R_alloc|apply Kd.R_drewN|apply Kd.R_drew));exact HO_5.out) hb)
                   have n1_:=aMk (bkB BK313.out hb)
                   have n2_:=aMk (bkB BK320.out hb)
                   have n3_:=aMk (bkB BK327.out hb)
                   have n4_:=aMk (below_step (by repeat (first|(with_reducible first|exact HB.out|apply bwA|apply bwN|apply bw1|refine below_set ?_ GE313.out|refine below_set ?_ GE320.out|refine below_set ?_ GE327.out)|exact HB.out)) hb)
                   clear HO_5
                   clear BK313
                   clear BK320
                   clear BK327
                   clear HB
                   have HO_5:=n0_
                   have BK313:=n1_
                   have BK320:=n2_
                   have BK327:=n3_
                   have HB:=n4_
                   clear n0_ n1_ n2_ n3_ n4_
                   (try clear hb)
                   (try clear hb2)
                   (try clear hk)
                   (try clear hi)
                   refine hK.out _ _ ⟨(bCe BK313.out 0).trans rfl,(bCe BK313.out 1).trans rfl,(bCe BK313.out 2).trans rfl,(bCe BK313.out 3).trans rfl,HS4_⟩ (fun hHeld => ?_)
                   clear hK K
                   refine norm_ (a':=?_) ?_ ?_
                   rotate_left
                   ·show Act.put _ (some 62) _ = _
                    simp only [Act.put,List.setIfInBounds_toArray,List.set_cons_zero,List.set_cons_succ,i64_w,i32_w]
                    rfl
                   refine pU (i:=6) (N:=some 56) #[true,true,true,true,true,true,true,false,false,true,false,false] (any_of HT_.out (by kernel_rfl)) ?_
                   refine pU (i:=7) (N:=some 63) #[true,true,true,true,true,true,true,true,false,true,false,false] (any_of HT_.out (by kernel_rfl)) ?_
                   refine pU (i:=8) (N:=some 64) #[true,true,true,true,true,true,true,true,true,true,false,false] (any_of HT_.out (by kernel_rfl)) ?_
                   exact norm_ (by simp only [putAll,Act.put,List.setIfInBounds_toArray,List.set_cons_zero,List.set_cons_succ]) (hCont (gb327) _ ⟨hHeld,(by (with_reducible repeat (first|apply Kd.R_alloc|apply Kd.R_drewN|apply Kd.R_drew));exact HO_5.out),(by refine pB ?_;exact BK313.out),(by refine pB ?_;exact BK320.out),(by refine pB ?_;exact BK327.out),GW327.out,GE327.out,NB313_327.out,NB327_313.out,NB320_327.out,NB327_320.out,(by repeat (first|(with_reducible first|exact HB.out|apply bwA|apply bwN|apply bw1|refine below_set ?_ GE313.out|refine below_set ?_ GE320.out|refine below_set ?_ GE327.out)|exact HB.out))⟩)
                 rintro gb327 w144 ⟨hS_,h0_,h1_,h2_,h3_,h4_,h5_,h6_,h7_,h8_,h9_,h10_⟩
                 have n0_ : Aside0 (Kd.R (Kd.int .i64) 3 w144 w.heap.size (fun _ => True) (.slice (some ad314) y310.length co131) y310):=⟨h0_⟩
                 have n1_ : Aside0 (w144.heap[gb313]? = some (.cells #[.int .i64 x314000_2,.int .i64 x314001_2,.int .i64 x314002_2,.int .i64 x314003_2] 39 (0,0))):=⟨h1_⟩
                 have n2_ : Aside0 (w144.heap[gb320]? = some (.cells #[.int .i64 t315,.int .i64 t316,.int .i64 t317,.int .i64 t318] 39 (0,0))):=⟨h2_⟩
                 have n3_ : Aside0 (w144.heap[gb327]? = some (.cells #[.int .i64 0,.int .i64 0,.int .i64 0,.int .i64 0] 39 (0,0))):=⟨h3_⟩
                 have n4_ : Aside0 (w.heap.size ≤ gb327):=⟨h4_⟩
                 have n5_ : Aside0 (w.heap.size ≤ gb327):=⟨h5_⟩
                 have n6_ : Aside0 (gb313 ≠ gb327):=⟨h6_⟩
                 have n7_ : Aside0 (gb327 ≠ gb313):=⟨h7_⟩
                 have n8_ : Aside0 (gb320 ≠ gb327):=⟨h8_⟩
                 have n9_ : Aside0 (gb327 ≠ gb320):=⟨h9_⟩
                 have n10_ : Aside0 (Below w.heap.size w w144):=⟨h10_⟩
                 clear HO_5
                 clear BK313
                 clear BK320
                 clear HB
                 clear h0_ h1_ h2_ h3_ h4_ h5_ h6_ h7_ h8_ h9_ h10_
                 have HO_5:=n0_
                 have BK313:=n1_
                 have BK320:=n2_
                 have BK327:=n3_
                 have GW327:=n4_
                 have GE327:=n5_
                 have NB313_327:=n6_
                 have NB327_313:=n7_
                 have NB320_327:=n8_
                 have NB327_320:=n9_
                 have HB:=n10_
                 clear n0_ n1_ n2_ n3_ n4_ n5_ n6_ n7_ n8_ n9_ n10_
                 have hHeld : w144.cell? ⟨gb313,0,none⟩ = some (.int .i64 x314000_2) ∧ w144.cell? ⟨gb313,1,none⟩ = some (.int .i64 x314001_2) ∧ w144.cell? ⟨gb313,2,none⟩ = some (.int .i64 x314002_2) ∧ w144.cell? ⟨gb313,3,none⟩ = some (.int .i64 x314003_2) ∧ w144.cell? (ad314.add (x7_2).toNat) = some (.int .i64 (rd y310 x7_2)):=hS_
                 refine norm_ (a':=?_) ?_ ?_
                 rotate_left
                 ·simp only [putAll,Act.put,List.setIfInBounds_toArray,List.set_cons_zero,List.set_cons_succ]
                  rfl
                 refine one_ (i:=10) (N:=none) #[true,true,true,true,true,true,true,true,true,true,true,false] rfl rfl (one_of HT_.out (by kernel_rfl)) (by decide) (fun K hK => ?_)
                 have hs145 : w144.cell? ⟨gb327,0,none⟩ = some (.int .i64 0):=(bCe BK327.out 0).trans rfl
                 have hfs145:=bFr BK327.out 0
                 have hns145_0:=NB313_327.out
                 have hns145_1:=NB320_327.out
                 have hms145_0:=NB327_313.out
                 have hms145_1:=NB327_320.out
                 have hs146 : w144.cell? ⟨gb327,1,none⟩ = some (.int .i64 0):=(bCe BK327.out 1).trans rfl
                 have hfs146:=bFr BK327.out 1
                 have hns146_0:=NB313_327.out
                 have hns146_1:=NB320_327.out
                 have hms146_0:=NB327_313.out
                 have hms146_1:=NB327_320.out
                 have hs147 : w144.cell? ⟨gb327,2,none⟩ = some (.int .i64 0):=(bCe BK327.out 2).trans rfl
                 have hfs147:=bFr BK327.out 2
                 have hns147_0:=NB313_327.out
                 have hns147_1:=NB320_327.out
                 have hms147_0:=NB327_313.out
                 have hms147_1:=NB327_320.out
                 have hs148 : w144.cell? ⟨gb327,3,none⟩ = some (.int .i64 0):=(bCe BK327.out 3).trans rfl
                 have hfs148:=bFr BK327.out 3
                 have hns148_0:=NB313_327.out
                 have hns148_1:=NB320_327.out
                 have hms148_0:=NB327_313.out
                 have hms148_1:=NB327_320.out
                 refine skip_ (w1:=?_) (by rfl) rfl ?_ ?_
                 rotate_left
                 ·go_simp
                  rfl
                 refine hK.out _ _ ⟨((cell_far (p:=⟨gb327,_,none⟩) NB313_327.out _).trans (((cell_far (p:=⟨gb327,_,none⟩) NB313_327.out _).trans (((cell_far (p:=⟨gb327,_,none⟩) NB313_327.out _).trans (((cell_far (p:=⟨gb327,_,none⟩) NB313_327.out _).trans (hHeld.1)))))))),((cell_far (p:=⟨gb327,_,none⟩) NB313_327.out _).trans (((cell_far (p:=⟨gb327,_,none⟩) NB313_327.out _).trans (((cell_far (p:=⟨gb327,_,none⟩) NB313_327.out _).trans (((cell_far (p:=⟨gb327,_,none⟩) NB313_327.out _).trans (hHeld.2.1)))))))),((cell_far (p:=⟨gb327,_,none⟩) NB313_327.out _).trans (((cell_far (p:=⟨gb327,_,none⟩) NB313_327.out _).trans (((cell_far (p:=⟨gb327,_,none⟩) NB313_327.out _).trans (((cell_far (p:=⟨gb327,_,none⟩) NB313_327.out _).trans (hHeld.2.2.1)))))))),((cell_far (p:=⟨gb327,_,none⟩) NB313_327.out _).trans (((cell_far (p:=⟨gb327,_,none⟩) NB313_327.out _).trans (((cell_far (p:=⟨gb327,_,none⟩) NB313_327.out _).trans (((cell_far (p:=⟨gb327,_,none⟩) NB313_327.out _).trans (hHeld.2.2.2.1)))))))),((cell_far (p:=⟨gb327,_,none⟩) (by first|exact Kd.own_blk (Kd.R_ne HO_5.out BK327.out (by decide))|(rw [add_block];exact Kd.own_blk (Kd.R_ne HO_5.out BK327.out (by decide)))|(show (Addr.add _ _).block ≠ _;rw [add_block];exact Kd.own_blk (Kd.R_ne HO_5.out BK327.out (by decide)))|(dsimp only;exact Kd.own_blk (Kd.R_ne HO_5.out BK327.out (by decide)))) _).trans (((cell_far (p:=⟨gb327,_,none⟩) (by first|exact Kd.own_blk (Kd.R_ne HO_5.out BK327.out (by decide))|(rw [add_block];exact Kd.own_blk (Kd.R_ne HO_5.out BK327.out (by decide)))|(show (Addr.add _ _).block ≠ _;rw [add_block];exact Kd.own_blk (Kd.R_ne HO_5.out BK327.out (by decide)))|(dsimp only;exact Kd.own_blk (Kd.R_ne HO_5.out BK327.out (by decide)))) _).trans (((cell_far (p:=⟨gb327,_,none⟩) (by first|exact Kd.own_blk (Kd.R_ne HO_5.out BK327.out (by decide))|(rw [add_block];exact Kd.own_blk (Kd.R_ne HO_5.out BK327.out (by decide)))|(show (Addr.add _ _).block ≠ _;rw [add_block];exact Kd.own_blk (Kd.R_ne HO_5.out BK327.out (by decide)))|(dsimp only;exact Kd.own_blk (Kd.R_ne HO_5.out BK327.out (by decide)))) _).trans (((cell_far (p:=⟨gb327,_,none⟩) (by first|exact Kd.own_blk (Kd.R_ne HO_5.out BK327.out (by decide))|(rw [add_block];exact Kd.own_blk (Kd.R_ne HO_5.out BK327.out (by decide)))|(show (Addr.add _ _).block ≠ _;rw [add_block];exact Kd.own_blk (Kd.R_ne HO_5.out BK327.out (by decide)))|(dsimp only;exact Kd.own_blk (Kd.R_ne HO_5.out BK327.out (by decide)))) _).trans (hHeld.2.2.2.2))))))))⟩ (fun hHeld => ?_)
                 clear hK K
                 refine pU (i:=11) (N:=some 11) #[true,true,true,true,true,true,true,true,true,true,true,true] (any_of HT_.out (by kernel_rfl)) ?_
                 refine done_ (done_of HT_.out (by kernel_rfl)) ?_
                 try go_wp2
                 have n0_ : Aside0 (Kd.R (Kd.int .i64) 3 ((((w144.setCell ⟨gb327,0,none⟩ (.int .i64 t322)).setCell ⟨gb327,1,none⟩ (.int .i64 t323)).setCell ⟨gb327,2,none⟩ (.int .i64 t324)).setCell ⟨gb327,3,none⟩ (.int .i64 t325)) w.heap.size (fun _ => True) (.slice (some ad314) y310.length co131) y310):=⟨by (with_reducible repeat (first|apply Kd.R_alloc|apply Kd.R_drewN|apply Kd.R_drew));exact Kd.R_mono (Kd.R_far (p:=⟨gb327,3,none⟩) (Kd.R_far (p:=⟨gb327,2,none⟩) (Kd.R_far (p:=⟨gb327,1,none⟩) (Kd.R_far (p:=⟨gb327,0,none⟩) (Kd.R_types HO_5.out BK327.out (by decide)) (fun _ hk => hk.2) (.int .i64 t322)) (fun _ hk => hk.2) (.int .i64 t323)) (fun _ hk => hk.2) (.int .i64 t324)) (fun _ hk => hk.2) (.int .i64 t325)) (fun _ hk => trivial)⟩
                 have n1_ : Aside0 (((((w144.setCell ⟨gb327,0,none⟩ (.int .i64 t322)).setCell ⟨gb327,1,none⟩ (.int .i64 t323)).setCell ⟨gb327,2,none⟩ (.int .i64 t324)).setCell ⟨gb327,3,none⟩ (.int .i64 t325)).heap[gb313]? = some (.cells #[.int .i64 x314000_2,.int .i64 x314001_2,.int .i64 x314002_2,.int .i64 x314003_2] 39 (0,0))):=⟨by refine pB ?_;refine blk_far ?_ NB313_327.out _;refine pB ?_;refine blk_far ?_ NB313_327.out _;refine pB ?_;refine blk_far ?_ NB313_327.out _;refine pB ?_;refine blk_far ?_ NB313_327.out _;refine pB ?_;exact BK313.out⟩
                 have n2_ : Aside0 (((((w144.setCell ⟨gb327,0,none⟩ (.int .i64 t322)).setCell ⟨gb327,1,none⟩ (.int .i64 t323)).setCell ⟨gb327,2,none⟩ (.int .i64 t324)).setCell ⟨gb327,3,none⟩ (.int .i64 t325)).heap[gb320]? = some (.cells #[.int .i64 t315,.int .i64 t316,.int .i64 t317,.int .i64 t318] 39 (0,0))):=⟨by refine pB ?_;refine blk_far ?_ NB320_327.out _;refine pB ?_;refine blk_far ?_ NB320_327.out _;refine pB ?_;refine blk_far ?_ NB320_327.out _;refine pB ?_;refine blk_far ?_ NB320_327.out _;refine pB ?_;exact BK320.out⟩
                 have n3_ : Aside0 (((((w144.setCell ⟨gb327,0,none⟩ (.int .i64 t322)).setCell ⟨gb327,1,none⟩ (.int .i64 t323)).setCell ⟨gb327,2,none⟩ (.int .i64 t324)).setCell ⟨gb327,3,none⟩ (.int .i64 t325)).heap[gb327]? = some (.cells #[.int .i64 t322,.int .i64 t323,.int .i64 t324,.int .i64 t325] 39 (0,0))):=⟨by refine pB ?_;refine blk_put (cs:=#[.int .i64 t322,.int .i64 t323,.int .i64 t324,.int .i64 0]) ?_ 3 _ rfl;refine pB ?_;refine blk_put (cs:=#[.int .i64 t322,.int .i64 t323,.int .i64 0,.int .i64 0]) ?_ 2 _ rfl;refine pB ?_;refine blk_put (cs:=#[.int .i64 t322,.int .i64 0,.int .i64 0,.int .i64 0]) ?_ 1 _ rfl;refine pB ?_;refine blk_put (cs:=#[.int .i64 0,.int .i64 0,.int .i64 0,.int .i64 0]) ?_ 0 _ rfl;refine pB ?_;exact BK327.out⟩
                 have n4_ : Aside0 (Below w.heap.size w ((((w144.setCell ⟨gb327,0,none⟩ (.int .i64 t322)).setCell ⟨gb327,1,none⟩ (.int .i64 t323)).setCell ⟨gb327,2,none⟩ (.int .i64 t324)).setCell ⟨gb327,3,none⟩ (.int .i64 t325))):=⟨by repeat (first|(with_reducible first|exact HB.out|apply bwA|apply bwN|apply bw1|refine below_set ?_ GE313.out|refine below_set ?_ GE320.out|refine below_set ?_ GE327.out)|exact HB.out)⟩
                 (try clear HO_5)
                 (try clear BK313)
                 (try clear BK320)
                 (try clear BK327)
                 (try clear HB)
                 generalize ((((w144.setCell ⟨gb327,0,none⟩ (.int .i64 t322)).setCell ⟨gb327,1,none⟩ (.int .i64 t323)).setCell ⟨gb327,2,none⟩ (.int .i64 t324)).setCell ⟨gb327,3,none⟩ (.int .i64 t325)) = w149 at n0_ n1_ n2_ n3_ n4_ ⊢
                 have HO_5:=n0_
                 have BK313:=n1_
                 have BK320:=n2_
                 have BK327:=n3_
                 have HB:=n4_
                 clear n0_ n1_ n2_ n3_ n4_
                 have n0_:=aMk (Kd.R_drew HO_5.out)
                 have n1_:=aMk (bDr BK313.out)
                 have n2_:=aMk (bDr BK320.out)
                 have n3_:=aMk (bDr BK327.out)
                 have n4_:=aMk (bw1 HB.out)
                 clear HO_5
                 clear BK313
                 clear BK320
                 clear BK327
                 clear HB
                 have HO_5:=n0_
                 have BK313:=n1_
                 have BK320:=n2_
                 have BK327:=n3_
                 have HB:=n4_
                 clear n0_ n1_ n2_ n3_ n4_
                 have p328 : 0 ≤ (x7_2 : Int):=of_decide_eq_true (by first|(with_reducible assumption) | assumption)
                 have q328 : x7_2 < (y310.length : Int):=of_decide_eq_true (by first|(with_reducible assumption) | assumption)
                 obtain ⟨ad328,e328,hx328_0⟩:=Kd.at_int (Kd.R_reads' HO_5.out).2.2 x7_2 p328 q328
                 obtain rfl : ad314 = ad328:=(by injection e328)
                 replace p328:=eq_true p328
                 replace q328:=eq_true q328
                 have p329 : 0 ≤ (x7_2 : Int):=of_decide_eq_true (by first|(with_reducible assumption) | assumption)
                 have q329 : x7_2 < (y310.length : Int):=of_decide_eq_true (by first|(with_reducible assumption) | assumption)
                 obtain ⟨ad329,e329,hx329_0⟩:=Kd.at_int (Kd.R_reads' HO_5.out).2.2 x7_2 p329 q329
                 obtain rfl : ad314 = ad329:=(by injection e329)
                 replace p329:=eq_true p329
                 replace q329:=eq_true q329
                 refine start_ (n:=46) (S:=fun w' => w'.cell? ⟨gb320,0,none⟩ = some (.int .i64 t315) ∧ w'.cell? ⟨gb320,1,none⟩ = some (.int .i64 t316) ∧ w'.cell? ⟨gb320,2,none⟩ = some (.int .i64 t317) ∧ w'.cell? ⟨gb320,3,none⟩ = some (.int .i64 t318) ∧ w'.cell? ⟨gb327,0,none⟩ = some (.int .i64 t322) ∧ w'.cell? ⟨gb327,1,none⟩ = some (.int .i64 t323) ∧ w'.cell? ⟨gb327,2,none⟩ = some (.int .i64 t324) ∧ w'.cell? ⟨gb327,3,none⟩ = some (.int .i64 t325) ∧ w'.cell? (ad314.add (x7_2).toNat) = some (.int .i64 (rd y310 x7_2)) ∧ w'.cell? (ad314.add (x7_2).toNat) = some (.int .i64 (rd y310 x7_2))) (ds:=[]) #[false,false,false,false,false,false,false,false,false,false,false,false,false,false,false,false,false,false,false,false,false,false,false,false,false,false,false,false,false,false,false,false,false,false,false,false,false,false,false,false,false,false,false,false,false,false] (by kernel_rfl) rfl rfl ⟨(bCe BK320.out 0).trans rfl,(bCe BK320.out 1).trans rfl,(bCe BK320.out 2).trans rfl,(bCe BK320.out 3).trans rfl,(bCe BK327.out 0).trans rfl,(bCe BK327.out 1).trans rfl,(bCe BK327.out 2).trans rfl,(bCe BK327.out 3).trans rfl,hx328_0,hx329_0⟩ (fun hHeld => ?_);refine with_tabW laws_FnMeter.tab10 laws_FnMeter.bits10 (fun HT_ HW_ => ?_)
                 generalize w149.drew = w150 at HO_5 BK313 BK320 BK327 HB hx328_0 hx329_0 hHeld ⊢
                 refine pU (i:=0) (N:=some 65) #[true,false,false,false,false,false,false,false,false,false,false,false,false,false,false,false,false,false,false,false,false,false,false,false,false,false,false,false,false,false,false,false,false,false,false,false,false,false,false,false,false,false,false,false,false,false] (any_of HT_.out (by kernel_rfl)) ?_
                 refine pU (i:=1) (N:=some 66) #[true,true,false,false,false,false,false,false,false,false,false,false,false,false,false,false,false,false,false,false,false,false,false,false,false,false,false,false,false,false,false,false,false,false,false,false,false,false,false,false,false,false,false,false,false,false] (any_of HT_.out (by kernel_rfl)) ?_
                 refine pU (i:=2) (N:=some 67) #[true,true,true,false,false,false,false,false,false,false,false,false,false,false,false,false,false,false,false,false,false,false,false,false,false,false,false,false,false,false,false,false,false,false,false,false,false,false,false,false,false,false,false,false,false,false] (any_of HT_.out (by kernel_rfl)) ?_
                 refine tU10 (i:=3) (N:=some 68) #[true,true,true,true,false,false,false,false,false,false,false,false,false,false,false,false,false,false,false,false,false,false,false,false,false,false,false,false,false,false,false,false,false,false,false,false,false,false,false,false,false,false,false,false,false,false] (take_ofW HT_.out HW_.out (by kernel_rfl)) hHeld ?_
                 refine tU10 (i:=4) (N:=some 69) #[true,true,true,true,true,false,false,false,false,false,false,false,false,false,false,false,false,false,false,false,false,false,false,false,false,false,false,false,false,false,false,false,false,false,false,false,false,false,false,false,false,false,false,false,false,false] (take_ofW HT_.out HW_.out (by kernel_rfl)) hHeld ?_
                 refine pU (i:=5) (N:=some 70) #[true,true,true,true,true,true,false,false,false,false,false,false,false,false,false,false,false,false,false,false,false,false,false,false,false,false,false,false,false,false,false,false,false,false,false,false,false,false,false,false,false,false,false,false,false,false] (any_of HT_.out (by kernel_rfl)) ?_
                 refine pU (i:=6) (N:=some 71) #[true,true,true,true,true,true,true,false,false,false,false,false,false,false,false,false,false,false,false,false,false,false,false,false,false,false,false,false,false,false,false,false,false,false,false,false,false,false,false,false,false,false,false,false,false,false] (any_of HT_.out (by kernel_rfl)) ?_
                 refine pU (i:=7) (N:=some 72) #[true,true,true,true,true,true,true,true,false,false,false,false,false,false,false,false,false,false,false,false,false,false,false,false,false,false,false,false,false,false,false,false,false,false,false,false,false,false,false,false,false,false,false,false,false,false] (any_of HT_.out (by kernel_rfl)) ?_
                 refine pU (i:=8) (N:=some 73) #[true,true,true,true,true,true,true,true,true,false,false,false,false,false,false,false,false,false,false,false,false,false,false,false,false,false,false,false,false,false,false,false,false,false,false,false,false,false,false,false,false,false,false,false,false,false] (any_of HT_.out (by kernel_rfl)) ?_
                 refine pU (i:=10) (N:=some 75) #[true,true,true,true,true,true,true,true,true,false,true,false,false,false,false,false,false,false,false,false,false,false,false,false,false,false,false,false,false,false,false,false,false,false,false,false,false,false,false,false,false,false,false,false,false,false] (any_of HT_.out (by kernel_rfl)) ?_
                 refine tU10 (i:=9) (N:=some 74) #[true,true,true,true,true,true,true,true,true,true,true,false,false,false,false,false,false,false,false,false,false,false,false,false,false,false,false,false,false,false,false,false,false,false,false,false,false,false,false,false,false,false,false,false,false,false] (take_ofW HT_.out HW_.out (by kernel_rfl)) hHeld ?_
                 refine tU10 (i:=11) (N:=some 76) #[true,true,true,true,true,true,true,true,true,true,true,true,false,false,false,false,false,false,false,false,false,false,false,false,false,false,false,false,false,false,false,false,false,false,false,false,false,false,false,false,false,false,false,false,false,false] (take_ofW HT_.out HW_.out (by kernel_rfl)) hHeld ?_
                 refine pU (i:=12) (N:=some 77) #[true,true,true,true,true,true,true,true,true,true,true,true,true,false,false,false,false,false,false,false,false,false,false,false,false,false,false,false,false,false,false,false,false,false,false,false,false,false,false,false,false,false,false,false,false,false] (any_of HT_.out (by kernel_rfl)) ?_
                 refine pU (i:=13) (N:=some 78) #[true,true,true,true,true,true,true,true,true,true,true,true,true,true,false,false,false,false,false,false,false,false,false,false,false,false,false,false,false,false,false,false,false,false,false,false,false,false,false,false,false,false,false,false,false,false] (any_of HT_.out (by kernel_rfl)) ?_
                 refine pU (i:=14) (N:=some 79) #[true,true,true,true,true,true,true,true,true,true,true,true,true,true,true,false,false,false,false,false,false,false,false,false,false,false,false,false,false,false,false,false,false,false,false,false,false,false,false,false,false,false,false,false,false,false] (any_of HT_.out (by kernel_rfl)) ?_
                 refine pU (i:=15) (N:=some 80) #[true,true,true,true,true,true,true,true,true,true,true,true,true,true,true,true,false,false,false,false,false,false,false,false,false,false,false,false,false,false,false,false,false,false,false,false,false,false,false,false,false,false,false,false,false,false] (any_of HT_.out (by kernel_rfl)) ?_
                 refine pU (i:=17) (N:=some 82) #[true,true,true,true,true,true,true,true,true,true,true,true,true,true,true,true,false,true,false,false,false,false,false,false,false,false,false,false,false,false,false,false,false,false,false,false,false,false,false,false,false,false,false,false,false,false] (any_of HT_.out (by kernel_rfl)) ?_
                 refine tU10 (i:=16) (N:=some 81) #[true,true,true,true,true,true,true,true,true,true,true,true,true,true,true,true,true,true,false,false,false,false,false,false,false,false,false,false,false,false,false,false,false,false,false,false,false,false,false,false,false,false,false,false,false,false] (take_ofW HT_.out HW_.out (by kernel_rfl)) hHeld ?_
                 refine tU10 (i:=18) (N:=some 83) #[true,true,true,true,true,true,true,true,true,true,true,true,true,true,true,true,true,true,true,false,false,false,false,false,false,false,false,false,false,false,false,false,false,false,false,false,false,false,false,false,false,false,false,false,false,false] (take_ofW HT_.out HW_.out (by kernel_rfl)) hHeld ?_
                 refine pU (i:=19) (N:=some 84) #[true,true,true,true,true,true,true,true,true,true,true,true,true,true,true,true,true,true,true,true,false,false,false,false,false,false,false,false,false,false,false,false,false,false,false,false,false,false,false,false,false,false,false,false,false,false] (any_of HT_.out (by kernel_rfl)) ?_
                 refine pU (i:=20) (N:=some 85) #[true,true,true,true,true,true,true,true,true,true,true,true,true,true,true,true,true,true,true,true,true,false,false,false,false,false,false,false,false,false,false,false,false,false,false,false,false,false,false,false,false,false,false,false,false,false] (any_of HT_.out (by kernel_rfl)) ?_
                 refine pU (i:=21) (N:=some 86) #[true,true,true,true,true,true,true,true,true,true,true,true,true,true,true,true,true,true,true,true,true,true,false,false,false,false,false,false,false,false,false,false,false,false,false,false,false,false,false,false,false,false,false,false,false,false] (any_of HT_.out (by kernel_rfl)) ?_
                 refine pU (i:=22) (N:=some 87) #[true,true,true,true,true,true,true,true,true,true,true,true,true,true,true,true,true,true,true,true,true,true,true,false,false,false,false,false,false,false,false,false,false,false,false,false,false,false,false,false,false,false,false,false,false,false] (any_of HT_.out (by kernel_rfl)) ?_
                 refine pU (i:=23) (N:=some 88) #[true,true,true,true,true,true,true,true,true,true,true,true,true,true,true,true,true,true,true,true,true,true,true,true,false,false,false,false,false,false,false,false,false,false,false,false,false,false,false,false,false,false,false,false,false,false] (any_of HT_.out (by kernel_rfl)) ?_
                 refine pU (i:=24) (N:=some 89) #[true,true,true,true,true,true,true,true,true,true,true,true,true,true,true,true,true,true,true,true,true,true,true,true,true,false,false,false,false,false,false,false,false,false,false,false,false,false,false,false,false,false,false,false,false,false] (any_of HT_.out (by kernel_rfl)) ?_
                 refine pU (i:=26) (N:=some 91) #[true,true,true,true,true,true,true,true,true,true,true,true,true,true,true,true,true,true,true,true,true,true,true,true,true,false,true,false,false,false,false,false,false,false,false,false,false,false,false,false,false,false,false,false,false,false] (any_of HT_.out (by kernel_rfl)) ?_
                 refine tU10 (i:=25) (N:=some 90) #[true,true,true,true,true,true,true,true,true,true,true,true,true,true,true,true,true,true,true,true,true,true,true,true,true,true,true,false,false,false,false,false,false,false,false,false,false,false,false,false,false,false,false,false,false,false] (take_ofW HT_.out HW_.out (by kernel_rfl)) hHeld ?_
                 refine tU10 (i:=27) (N:=some 92) #[true,true,true,true,true,true,true,true,true,true,true,true,true,true,true,true,true,true,true,true,true,true,true,true,true,true,true,true,false,false,false,false,false,false,false,false,false,false,false,false,false,false,false,false,false,false] (take_ofW HT_.out HW_.out (by kernel_rfl)) hHeld ?_
                 refine pU (i:=28) (N:=some 93) #[true,true,true,true,true,true,true,true,true,true,true,true,true,true,true,true,true,true,true,true,true,true,true,true,true,true,true,true,true,false,false,false,false,false,false,false,false,false,false,false,false,false,false,false,false,false] (any_of HT_.out (by kernel_rfl)) ?_
                 refine pU (i:=29) (N:=some 94) #[true,true,true,true,true,true,true,true,true,true,true,true,true,true,true,true,true,true,true,true,true,true,true,true,true,true,true,true,true,true,false,false,false,false,false,false,false,false,false,false,false,false,false,false,false,false] (any_of HT_.out (by kernel_rfl)) ?_
                 refine pU (i:=30) (N:=some 95) #[true,true,true,true,true,true,true,true,true,true,true,true,true,true,true,true,true,true,true,true,true,true,true,true,true,true,true,true,true,true,true,false,false,false,false,false,false,false,false,false,false,false,false,false,false,false] (any_of HT_.out (by kernel_rfl)) ?_
                 refine pU (i:=31) (N:=some 96) #[true,true,true,true,true,true,true,true,true,true,true,true,true,true,true,true,true,true,true,true,true,true,true,true,true,true,true,true,true,true,true,true,false,false,false,false,false,false,false,false,false,false,false,false,false,false] (any_of HT_.out (by kernel_rfl)) ?_
                 refine pU (i:=32) (N:=some 97) #[true,true,true,true,true,true,true,true,true,true,true,true,true,true,true,true,true,true,true,true,true,true,true,true,true,true,true,true,true,true,true,true,true,false,false,false,false,false,false,false,false,false,false,false,false,false] (any_of HT_.out (by kernel_rfl)) ?_
                 refine pU (i:=33) (N:=some 98) #[true,true,true,true,true,true,true,true,true,true,true,true,true,true,true,true,true,true,true,true,true,true,true,true,true,true,true,true,true,true,true,true,true,true,false,false,false,false,false,false,false,false,false,false,false,false] (any_of HT_.out (by kernel_rfl)) ?_
                 refine pU (i:=35) (N:=some 100) #[true,true,true,true,true,true,true,true,true,true,true,true,true,true,true,true,true,true,true,true,true,true,true,true,true,true,true,true,true,true,true,true,true,true,false,true,false,false,false,false,false,false,false,false,false,false] (any_of HT_.out (by kernel_rfl)) ?_
                 refine tU10 (i:=34) (N:=some 99) #[true,true,true,true,true,true,true,true,true,true,true,true,true,true,true,true,true,true,true,true,true,true,true,true,true,true,true,true,true,true,true,true,true,true,true,true,false,false,false,false,false,false,false,false,false,false] (take_ofW HT_.out HW_.out (by kernel_rfl)) hHeld ?_
                 refine tU10 (i:=36) (N:=some 101) #[true,true,true,true,true,true,true,true,true,true,true,true,true,true,true,true,true,true,true,true,true,true,true,true,true,true,true,true,true,true,true,true,true,true,true,true,true,false,false,false,false,false,false,false,false,false] (take_ofW HT_.out HW_.out (by kernel_rfl)) hHeld ?_
                 refine pU (i:=37) (N:=some 102) #[true,true,true,true,true,true,true,true,true,true,true,true,true,true,true,true,true,true,true,true,true,true,true,true,true,true,true,true,true,true,true,true,true,true,true,true,true,true,false,false,false,false,false,false,false,false] (any_of HT_.out (by kernel_rfl)) ?_
                 refine pU (i:=38) (N:=some 103) #[true,true,true,true,true,true,true,true,true,true,true,true,true,true,true,true,true,true,true,true,true,true,true,true,true,true,true,true,true,true,true,true,true,true,true,true,true,true,true,false,false,false,false,false,false,false] (any_of HT_.out (by kernel_rfl)) ?_
                 refine pU (i:=39) (N:=some 104) #[true,true,true,true,true,true,true,true,true,true,true,true,true,true,true,true,true,true,true,true,true,true,true,true,true,true,true,true,true,true,true,true,true,true,true,true,true,true,true,true,false,false,false,false,false,false] (any_of HT_.out (by kernel_rfl)) ?_
                 refine pU (i:=40) (N:=some 105) #[true,true,true,true,true,true,true,true,true,true,true,true,true,true,true,true,true,true,true,true,true,true,true,true,true,true,true,true,true,true,true,true,true,true,true,true,true,true,true,true,true,false,false,false,false,false] (any_of HT_.out (by kernel_rfl)) ?_
                 refine pU (i:=42) (N:=some 107) #[true,true,true,true,true,true,true,true,true,true,true,true,true,true,true,true,true,true,true,true,true,true,true,true,true,true,true,true,true,true,true,true,true,true,true,true,true,true,true,true,true,false,true,false,false,false] (any_of HT_.out (by kernel_rfl)) ?_
                 refine pU (i:=43) (N:=some 108) #[true,true,true,true,true,true,true,true,true,true,true,true,true,true,true,true,true,true,true,true,true,true,true,true,true,true,true,true,true,true,true,true,true,true,true,true,true,true,true,true,true,false,true,true,false,false] (any_of HT_.out (by kernel_rfl)) ?_
                 refine tU10 (i:=41) (N:=some 106) #[true,true,true,true,true,true,true,true,true,true,true,true,true,true,true,true,true,true,true,true,true,true,true,true,true,true,true,true,true,true,true,true,true,true,true,true,true,true,true,true,true,true,true,true,false,false] (take_ofW HT_.out HW_.out (by kernel_rfl)) hHeld ?_
                 refine pU (i:=44) (N:=some 109) #[true,true,true,true,true,true,true,true,true,true,true,true,true,true,true,true,true,true,true,true,true,true,true,true,true,true,true,true,true,true,true,true,true,true,true,true,true,true,true,true,true,true,true,true,true,false] (any_of HT_.out (by kernel_rfl)) ?_
                 refine pU (i:=45) (N:=some 110) #[true,true,true,true,true,true,true,true,true,true,true,true,true,true,true,true,true,true,true,true,true,true,true,true,true,true,true,true,true,true,true,true,true,true,true,true,true,true,true,true,true,true,true,true,true,true] (any_of HT_.out (by kernel_rfl)) ?_
                 refine done_ (done_of HT_.out (by kernel_rfl)) ?_
                 have hnb151:=NB320_313.out
                 have hnc151:=NB313_320.out
                 have hnb152:=NB320_327.out
                 have hnc152:=NB327_320.out
                 obtain ⟨hcz153_0,hcz153_1,hcz153_2,hcz153_3,hfz153_0,hfz153_1,hfz153_2,hfz153_3⟩:=bC4 BK320.out
                 have hnb154:=NB313_327.out
                 have hnc154:=NB327_313.out
                 obtain ⟨hcz155_0,hcz155_1,hcz155_2,hcz155_3,hfz155_0,hfz155_1,hfz155_2,hfz155_3⟩:=bC4 BK313.out
                 try go_wp2
                 go_roundg k2
                 case measure => have:=HJ2.out;have:=HK2.out;omega
                 case rel => exact ⟨(wrap64 (x7_2 + 1)),(t315),(t316),(t317),(t318),(by first | rfl|(simp;done)|(simp [*];done)|(simp [ne_nil_b];done)|(simp [ne_nil_b, *];done)),H',⟨by have:=HJ2.out;have:=HK2.out;omega⟩,⟨by (with_reducible repeat (first|apply Kd.R_alloc|apply Kd.R_drewN|apply Kd.R_drew));exact Kd.R_mono (Kd.R_far (p:=⟨gb313,3,none⟩) (Kd.R_far (p:=⟨gb313,2,none⟩) (Kd.R_far (p:=⟨gb313,1,none⟩) (Kd.R_far (p:=⟨gb313,0,none⟩) (Kd.R_types HO_5.out BK313.out (by decide)) (fun _ hk => hk.2) (.int .i64 t315)) (fun _ hk => hk.2) (.int .i64 t316)) (fun _ hk => hk.2) (.int .i64 t317)) (fun _ hk => hk.2) (.int .i64 t318)) (fun _ hk => trivial)⟩,⟨by refine pB ?_;refine blk_put (cs:=#[.int .i64 t315,.int .i64 t316,.int .i64 t317,.int .i64 x314003_2]) ?_ 3 _ rfl;refine pB ?_;refine blk_put (cs:=#[.int .i64 t315,.int .i64 t316,.int .i64 x314002_2,.int .i64 x314003_2]) ?_ 2 _ rfl;refine pB ?_;refine blk_put (cs:=#[.int .i64 t315,.int .i64 x314001_2,.int .i64 x314002_2,.int .i64 x314003_2]) ?_ 1 _ rfl;refine pB ?_;refine blk_put (cs:=#[.int .i64 x314000_2,.int .i64 x314001_2,.int .i64 x314002_2,.int .i64 x314003_2]) ?_ 0 _ rfl;refine pB ?_;exact BK313.out⟩,⟨by repeat (first|(with_reducible first|exact HB.out|apply bwA|apply bwN|apply bw1|refine below_set ?_ GE313.out|refine below_set ?_ GE320.out|refine below_set ?_ GE327.out)|exact HB.out)⟩⟩
                ·rw [if_neg c130] at H
                 have c130b0 : (t318 == (wrap64 (x7_2 + 1))) = false:=beq_eq_false_iff_ne.mpr c130
                 have c130b1 : (t318 != (wrap64 (x7_2 + 1))) = true:=bne_iff_ne.mpr c130
                 exact absurd ((Option.some.inj H).trans HRT_.out) (by decide)
          ·rw [if_neg c24] at H
           have c24b0 : (t319 == 0) = false:=beq_eq_false_iff_ne.mpr c24
           have c24b1 : (t319 != 0) = true:=bne_iff_ne.mpr c24
           exact absurd ((Option.some.inj H).trans HRT_.out) (by decide)
         ·rw [if_neg c21] at H
          exact absurd H (by simp)
        ·rw [if_neg c20] at H
         have c20b0 : decide (x7_2 < (y310.length : Int)) = false:=decide_eq_false c20
         clear c20
         replace H:=Option.bind_eq_some_iff.mp H
         obtain ⟨t330,A1960,H⟩:=H
         replace H : ((impl_MeanOf.f k2 (([wrap64 (t330 - 400),wrap64 (t330 - 400),wrap64 (t330 - 400)] : List Int))).bind fun bt334 => ((impl_MeanOf.f k2 y310).bind fun bt336 => ((spec_MeanOf.f k2 y310).bind fun bt338 => ((laws_at.f l1 1 500).bind fun t340 => ((laws_at.f l1 2 500).bind fun t341 => ((impl_ShareOf.f k2 t340 (wrap64 (1 + t341))).bind fun bt342 => ((laws_at.f l1 1 500).bind fun t344 => ((laws_at.f l1 2 500).bind fun t345 => ((spec_ShareOf.f k2 t344 (wrap64 (1 + t345))).bind fun bt346 => ((impl_ShareOf.f k2 7 0).bind fun bt348 => (if bt334.2 = 0 then (if bt334.1 = (wrap64 (t330 - 400)) then (if bt336.2 = bt338.2 then (if bt336.1 = bt338.1 then (if bt342.2 = 0 then (if bt342.1 = bt346.1 then (if bt342.1 ≥ 0 then (if bt342.1 ≤ 1000 then (if bt348.2 = 0 then (some (bt348.1 == 1000)) else (some false)) else (some false)) else (some false)) else (some false)) else (some false)) else (some false)) else (some false)) else (some false)) else (some false)))))))))))) = some r:=H
         have A196:=aMk A1960
         clear A1960
         obtain ⟨y331,hy331⟩ : ∃ y_ : List Int,y_ = (([wrap64 (t330 - 400),wrap64 (t330 - 400),wrap64 (t330 - 400)] : List Int)):=⟨_,rfl⟩
         replace H : ((impl_MeanOf.f k2 y331).bind fun bt334 => ((impl_MeanOf.f k2 y310).bind fun bt336 => ((spec_MeanOf.f k2 y310).bind fun bt338 => ((laws_at.f l1 1 500).bind fun t340 => ((laws_at.f l1 2 500).bind fun t341 => ((impl_ShareOf.f k2 t340 (wrap64 (1 + t341))).bind fun bt342 => ((laws_at.f l1 1 500).bind fun t344 => ((laws_at.f l1 2 500).bind fun t345 => ((spec_ShareOf.f k2 t344 (wrap64 (1 + t345))).bind fun bt346 => ((impl_ShareOf.f k2 7 0).bind fun bt348 => (if bt334.2 = 0 then (if bt334.1 = (wrap64 (t330 - 400)) then (if bt336.2 = bt338.2 then (if bt336.1 = bt338.1 then (if bt342.2 = 0 then (if bt342.1 = bt346.1 then (if bt342.1 ≥ 0 then (if bt342.1 ≤ 1000 then (if bt348.2 = 0 then (some (bt348.1 == 1000)) else (some false)) else (some false)) else (some false)) else (some false)) else (some false)) else (some false)) else (some false)) else (some false)) else (some false)))))))))))) = some r:=by first|(rw [hy331];with_reducible exact H)|(have H2_:=(Option.bind_some _ _).symm.trans H;rw [hy331];with_reducible exact H2_)|(have H2_:=(Option.bind_some _ _).symm.trans H;with_reducible exact H2_) | with_reducible exact H|(rw [hy331];exact H)|exact H
         have Ny331:=aMk hy331
         clear hy331
         replace H:=Option.bind_eq_some_iff.mp H
         obtain ⟨⟨t334,t335⟩,A1970,H⟩:=H
         replace H : ((impl_MeanOf.f k2 y310).bind fun bt336 => ((spec_MeanOf.f k2 y310).bind fun bt338 => ((laws_at.f l1 1 500).bind fun t340 => ((laws_at.f l1 2 500).bind fun t341 => ((impl_ShareOf.f k2 t340 (wrap64 (1 + t341))).bind fun bt342 => ((laws_at.f l1 1 500).bind fun t344 => ((laws_at.f l1 2 500).bind fun t345 => ((spec_ShareOf.f k2 t344 (wrap64 (1 + t345))).bind fun bt346 => ((impl_ShareOf.f k2 7 0).bind fun bt348 => (if t335 = 0 then (if t334 = (wrap64 (t330 - 400)) then (if bt336.2 = bt338.2 then (if bt336.1 = bt338.1 then (if bt342.2 = 0 then (if bt342.1 = bt346.1 then (if bt342.1 ≥ 0 then (if bt342.1 ≤ 1000 then (if bt348.2 = 0 then (some (bt348.1 == 1000)) else (some false)) else (some false)) else (some false)) else (some false)) else (some false)) else (some false)) else (some false)) else (some false)) else (some false))))))))))) = some r:=H
         have A197:=aMk A1970
         clear A1970
         replace H:=Option.bind_eq_some_iff.mp H
         obtain ⟨⟨t336,t337⟩,A1980,H⟩:=H
         replace H : ((spec_MeanOf.f k2 y310).bind fun bt338 => ((laws_at.f l1 1 500).bind fun t340 => ((laws_at.f l1 2 500).bind fun t341 => ((impl_ShareOf.f k2 t340 (wrap64 (1 + t341))).bind fun bt342 => ((laws_at.f l1 1 500).bind fun t344 => ((laws_at.f l1 2 500).bind fun t345 => ((spec_ShareOf.f k2 t344 (wrap64 (1 + t345))).bind fun bt346 => ((impl_ShareOf.f k2 7 0).bind fun bt348 => (if t335 = 0 then (if t334 = (wrap64 (t330 - 400)) then (if t337 = bt338.2 then (if t336 = bt338.1 then (if bt342.2 = 0 then (if bt342.1 = bt346.1 then (if bt342.1 ≥ 0 then (if bt342.1 ≤ 1000 then (if bt348.2 = 0 then (some (bt348.1 == 1000)) else (some false)) else (some false)) else (some false)) else (some false)) else (some false)) else (some false)) else (some false)) else (some false)) else (some false)))))))))) = some r:=H
         have A198:=aMk A1980
         clear A1980
         replace H:=Option.bind_eq_some_iff.mp H
         obtain ⟨⟨t338,t339⟩,A1990,H⟩:=H
         replace H : ((laws_at.f l1 1 500).bind fun t340 => ((laws_at.f l1 2 500).bind fun t341 => ((impl_ShareOf.f k2 t340 (wrap64 (1 + t341))).bind fun bt342 => ((laws_at.f l1 1 500).bind fun t344 => ((laws_at.f l1 2 500).bind fun t345 => ((spec_ShareOf.f k2 t344 (wrap64 (1 + t345))).bind fun bt346 => ((impl_ShareOf.f k2 7 0).bind fun bt348 => (if t335 = 0 then (if t334 = (wrap64 (t330 - 400)) then (if t337 = t339 then (if t336 = t338 then (if bt342.2 = 0 then (if bt342.1 = bt346.1 then (if bt342.1 ≥ 0 then (if bt342.1 ≤ 1000 then (if bt348.2 = 0 then (some (bt348.1 == 1000)) else (some false)) else (some false)) else (some false)) else (some false)) else (some false)) else (some false)) else (some false)) else (some false)) else (some false))))))))) = some r:=H
         have A199:=aMk A1990
         clear A1990
         replace H:=Option.bind_eq_some_iff.mp H
         obtain ⟨t340,A2000,H⟩:=H
         replace H : ((laws_at.f l1 2 500).bind fun t341 => ((impl_ShareOf.f k2 t340 (wrap64 (1 + t341))).bind fun bt342 => ((laws_at.f l1 1 500).bind fun t344 => ((laws_at.f l1 2 500).bind fun t345 => ((spec_ShareOf.f k2 t344 (wrap64 (1 + t345))).bind fun bt346 => ((impl_ShareOf.f k2 7 0).bind fun bt348 => (if t335 = 0 then (if t334 = (wrap64 (t330 - 400)) then (if t337 = t339 then (if t336 = t338 then (if bt342.2 = 0 then (if bt342.1 = bt346.1 then (if bt342.1 ≥ 0 then (if bt342.1 ≤ 1000 then (if bt348.2 = 0 then (some (bt348.1 == 1000)) else (some false)) else (some false)) else (some false)) else (some false)) else (some false)) else (some false)) else (some false)) else (some false)) else (some false)))))))) = some r:=H
         have A200:=aMk A2000
         clear A2000
         replace H:=Option.bind_eq_some_iff.mp H
         obtain ⟨t341,A2010,H⟩:=H
         replace H : ((impl_ShareOf.f k2 t340 (wrap64 (1 + t341))).bind fun bt342 => ((laws_at.f l1 1 500).bind fun t344 => ((laws_at.f l1 2 500).bind fun t345 => ((spec_ShareOf.f k2 t344 (wrap64 (1 + t345))).bind fun bt346 => ((impl_ShareOf.f k2 7 0).bind fun bt348 => (if t335 = 0 then (if t334 = (wrap64 (t330 - 400)) then (if t337 = t339 then (if t336 = t338 then (if bt342.2 = 0 then (if bt342.1 = bt346.1 then (if bt342.1 ≥ 0 then (if bt342.1 ≤ 1000 then (if bt348.2 = 0 then (some (bt348.1 == 1000)) else (some false)) else (some false)) else (some false)) else (some false)) else (some false)) else (some false)) else (some false)) else (some false)) else (some false))))))) = some r:=H
         have A201:=aMk A2010
         clear A2010
         replace H:=Option.bind_eq_some_iff.mp H
         obtain ⟨⟨t342,t343⟩,A2020,H⟩:=H
         replace H : ((laws_at.f l1 1 500).bind fun t344 => ((laws_at.f l1 2 500).bind fun t345 => ((spec_ShareOf.f k2 t344 (wrap64 (1 + t345))).bind fun bt346 => ((impl_ShareOf.f k2 7 0).bind fun bt348 => (if t335 = 0 then (if t334 = (wrap64 (t330 - 400)) then (if t337 = t339 then (if t336 = t338 then (if t343 = 0 then (if t342 = bt346.1 then (if t342 ≥ 0 then (if t342 ≤ 1000 then (if bt348.2 = 0 then (some (bt348.1 == 1000)) else (some false)) else (some false)) else (some false)) else (some false)) else (some false)) else (some false)) else (some false)) else (some false)) else (some false)))))) = some r:=H
         have A202:=aMk A2020
         clear A2020
         replace H:=Option.bind_eq_some_iff.mp H
         obtain ⟨t344,A2030,H⟩:=H
         replace H : ((laws_at.f l1 2 500).bind fun t345 => ((spec_ShareOf.f k2 t344 (wrap64 (1 + t345))).bind fun bt346 => ((impl_ShareOf.f k2 7 0).bind fun bt348 => (if t335 = 0 then (if t334 = (wrap64 (t330 - 400)) then (if t337 = t339 then (if t336 = t338 then (if t343 = 0 then (if t342 = bt346.1 then (if t342 ≥ 0 then (if t342 ≤ 1000 then (if bt348.2 = 0 then (some (bt348.1 == 1000)) else (some false)) else (some false)) else (some false)) else (some false)) else (some false)) else (some false)) else (some false)) else (some false)) else (some false))))) = some r:=H
         have A203:=aMk A2030
         clear A2030
         replace H:=Option.bind_eq_some_iff.mp H
         obtain ⟨t345,A2040,H⟩:=H
         replace H : ((spec_ShareOf.f k2 t344 (wrap64 (1 + t345))).bind fun bt346 => ((impl_ShareOf.f k2 7 0).bind fun bt348 => (if t335 = 0 then (if t334 = (wrap64 (t330 - 400)) then (if t337 = t339 then (if t336 = t338 then (if t343 = 0 then (if t342 = bt346.1 then (if t342 ≥ 0 then (if t342 ≤ 1000 then (if bt348.2 = 0 then (some (bt348.1 == 1000)) else (some false)) else (some false)) else (some false)) else (some false)) else (some false)) else (some false)) else (some false)) else (some false)) else (some false)))) = some r:=H
         have A204:=aMk A2040
         clear A2040
         replace H:=Option.bind_eq_some_iff.mp H
         obtain ⟨⟨t346,t347⟩,A2050,H⟩:=H
         replace H : ((impl_ShareOf.f k2 7 0).bind fun bt348 => (if t335 = 0 then (if t334 = (wrap64 (t330 - 400)) then (if t337 = t339 then (if t336 = t338 then (if t343 = 0 then (if t342 = t346 then (if t342 ≥ 0 then (if t342 ≤ 1000 then (if bt348.2 = 0 then (some (bt348.1 == 1000)) else (some false)) else (some false)) else (some false)) else (some false)) else (some false)) else (some false)) else (some false)) else (some false)) else (some false))) = some r:=H
         have A205:=aMk A2050
         clear A2050
         replace H:=Option.bind_eq_some_iff.mp H
         obtain ⟨⟨t348,t349⟩,A2060,H⟩:=H
         replace H : (if t335 = 0 then (if t334 = (wrap64 (t330 - 400)) then (if t337 = t339 then (if t336 = t338 then (if t343 = 0 then (if t342 = t346 then (if t342 ≥ 0 then (if t342 ≤ 1000 then (if t349 = 0 then (some (t348 == 1000)) else (some false)) else (some false)) else (some false)) else (some false)) else (some false)) else (some false)) else (some false)) else (some false)) else (some false)) = some r:=H
         have A206:=aMk A2060
         clear A2060
         by_cases c207 : t335 = 0
         ·rw [if_pos c207] at H
          have c207b0 : (t335 == 0) = true:=beq_iff_eq.mpr c207
          have c207b1 : (t335 != 0) = false:=bne_eq_false_iff_eq.mpr c207
          clear c207
          by_cases c208 : t334 = (wrap64 (t330 - 400))
          ·rw [if_pos c208] at H
           have c208b0 : (t334 == (wrap64 (t330 - 400))) = true:=beq_iff_eq.mpr c208
           have c208b1 : (t334 != (wrap64 (t330 - 400))) = false:=bne_eq_false_iff_eq.mpr c208
           clear c208
           by_cases c209 : t337 = t339
           ·rw [if_pos c209] at H
            have c209b0 : (t337 == t339) = true:=beq_iff_eq.mpr c209
            have c209b1 : (t337 != t339) = false:=bne_eq_false_iff_eq.mpr c209
            clear c209
            by_cases c210 : t336 = t338
            ·rw [if_pos c210] at H
             have c210b0 : (t336 == t338) = true:=beq_iff_eq.mpr c210
             have c210b1 : (t336 != t338) = false:=bne_eq_false_iff_eq.mpr c210
             clear c210
             by_cases c211 : t343 = 0
             ·rw [if_pos c211] at H
              have c211b0 : (t343 == 0) = true:=beq_iff_eq.mpr c211
              have c211b1 : (t343 != 0) = false:=bne_eq_false_iff_eq.mpr c211
              clear c211
              by_cases c212 : t342 = t346
              ·rw [if_pos c212] at H
               have c212b0 : (t342 == t346) = true:=beq_iff_eq.mpr c212
               have c212b1 : (t342 != t346) = false:=bne_eq_false_iff_eq.mpr c212
               clear c212
               by_cases c213 : t342 ≥ 0
               ·rw [if_pos c213] at H
                have c213b0 : decide (0 ≤ t342) = true:=decide_eq_true c213
                clear c213
                by_cases c214 : t342 ≤ 1000
                ·rw [if_pos c214] at H
                 have c214b0 : decide (t342 ≤ 1000) = true:=decide_eq_true c214
                 clear c214
                 by_cases c215 : t349 = 0
                 ·rw [if_pos c215] at H
                  have c215b0 : (t349 == 0) = true:=beq_iff_eq.mpr c215
                  have c215b1 : (t349 != 0) = false:=bne_eq_false_iff_eq.mpr c215
                  clear c215
                  obtain rfl:=Option.some.inj H
                  obtain ⟨Ao216,co216,eo216⟩:=Kd.R_slice HO_5.out
                  subst eo216
                  go_wp2_with (first|((with_reducible refine gate_callee (f:=21) rfl ?_);refine gLs 113 Try.func21 #[.slice A1 l1.length c1,.int .i64 0,.int .i64 900] ?_;(with_reducible refine (laws_at.calls _ _ l1 0 900 t330 _ ?side1 ?side2 A196.out).mono ?_);(case side1 => repeat (first|exact (Kd.C_below HR1.out HB.out)|(with_reducible refine Kd.C_alloc ?_ _)|(with_reducible refine Kd.C_drewN ?_ _)|(with_reducible refine Kd.C_drew ?_)));(case side2 => exact HC1.out);rintro e w' ⟨rfl,⟨nd,rfl⟩⟩;refine ⟨_,rfl,?_⟩)|((with_reducible refine gate_dst (N:=119) rfl ?_);(try (refine gate_guard (by rfl) ?_;dsimp only));refine Kd.R_lit (Kd.int .i64) _ 3 ?hg (N:=119) ?hd (xs:=([wrap64 (t330 - 400),wrap64 (t330 - 400),wrap64 (t330 - 400)] : List Int)) (inner:=[.int .i64 (wrap64 (t330 - 400)),.int .i64 (wrap64 (t330 - 400)),.int .i64 (wrap64 (t330 - 400))]) (ok:=fun _ => True) (okp:=fun _ => True) ?hr ?hp (fun _ hk => hk) trivial (Below.refl _ _) (Nat.le_refl _) (by simp) ?_;(case hd => rfl);(case hg => rfl);(case hr => first|(go_simp;done)|(go_simp;rfl));(case hp => exact (Reps.one (show Kd.M (Kd.int .i64) _ _ _ (wrap64 (t330 - 400)) [.int .i64 (wrap64 (t330 - 400))] from rfl) (Reps.one (show Kd.M (Kd.int .i64) _ _ _ (wrap64 (t330 - 400)) [.int .i64 (wrap64 (t330 - 400))] from rfl) (Reps.one (show Kd.M (Kd.int .i64) _ _ _ (wrap64 (t330 - 400)) [.int .i64 (wrap64 (t330 - 400))] from rfl) (Reps.none _ _)))));intro v332 w217 ho218 hb hg_ hnew_;clear hg_ hnew_;(first|rw [← Ny331.out] at ho218|(simp only [Int.reduceToNat] at ho218;rw [← Ny331.out] at ho218));have n0_:=aMk (Kd.R_elder' (by (with_reducible repeat (first|apply Kd.R_alloc|apply Kd.R_drewN|apply Kd.R_drew));exact HO_5.out) (Kd.R_base ho218) hb);have n1_:=aMk (Kd.R_lower (Kd.R_new' ho218 (Kd.R_lt (by (with_reducible repeat (first|apply Kd.R_alloc|apply Kd.R_drewN|apply Kd.R_drew));exact HO_5.out))) (below_size (by repeat (first|(with_reducible first|exact HB.out|apply bwA|apply bwN|apply bw1|refine below_set ?_ GE313.out)|exact HB.out))));have n2_:=aMk (bkB BK313.out hb);have n3_:=aMk (below_step (by repeat (first|(with_reducible first|exact HB.out|apply bwA|apply bwN|apply bw1|refine below_set ?_ GE313.out)|exact HB.out)) hb);clear HO_5;clear BK313;clear HB;have HO_5:=n0_;have HO333:=n1_;have BK313:=n2_;have HB:=n3_;clear n0_ n1_ n2_ n3_;clear hb ho218;obtain ⟨Ao219,co219,eo219⟩:=Kd.R_slice HO333.out;subst eo219)|((with_reducible refine gate_callee (f:=11) rfl ?_);refine gLs 120 Try.func11 #[.slice Ao219 y331.length co219] ?_;(with_reducible refine (impl_MeanOf.calls k2 _ _ y331 t334 t335 _ ?side1 ?side2 A197.out).mono ?_);(case side1 => repeat (first|exact (Kd.R_reads' HO333.out).2.2|(with_reducible refine Kd.C_alloc ?_ _)|(with_reducible refine Kd.C_drewN ?_ _)|(with_reducible refine Kd.C_drew ?_)));(case side2 => exact (Kd.R_reads' HO333.out).2.1);rintro e w220 ⟨rfl,hb⟩;refine ⟨_,rfl,?_⟩;have n0_:=aMk (Kd.R_below (by (with_reducible repeat (first|apply Kd.R_alloc|apply Kd.R_drewN|apply Kd.R_drew));exact HO_5.out) hb);have n1_:=aMk (Kd.R_below (by (with_reducible repeat (first|apply Kd.R_alloc|apply Kd.R_drewN|apply Kd.R_drew));exact HO333.out) hb);have n2_:=aMk (bkB BK313.out hb);have n3_:=aMk (below_step (by repeat (first|(with_reducible first|exact HB.out|apply bwA|apply bwN|apply bw1|refine below_set ?_ GE313.out)|exact HB.out)) hb);clear HO_5;clear HO333;clear BK313;clear HB;have HO_5:=n0_;have HO333:=n1_;have BK313:=n2_;have HB:=n3_;clear n0_ n1_ n2_ n3_;(try clear hb);(try clear hb2);(try clear hk);(try clear hi))|((with_reducible refine gate_callee (f:=11) rfl ?_);refine gLs 125 Try.func11 #[.slice Ao216 y310.length co216] ?_;(with_reducible refine (impl_MeanOf.calls k2 _ _ y310 t336 t337 _ ?side1 ?side2 A198.out).mono ?_);(case side1 => repeat (first|exact (Kd.R_reads' HO_5.out).2.2|(with_reducible refine Kd.C_alloc ?_ _)|(with_reducible refine Kd.C_drewN ?_ _)|(with_reducible refine Kd.C_drew ?_)));(case side2 => exact (Kd.R_reads' HO_5.out).2.1);rintro e w221 ⟨rfl,hb⟩;refine ⟨_,rfl,?_⟩;have n0_:=aMk (Kd.R_below (by (with_reducible repeat (first|apply Kd.R_alloc|apply Kd.R_drewN|apply Kd.R_drew));exact HO_5.out) hb);have n1_:=aMk (Kd.R_below (by (with_reducible repeat (first|apply Kd.R_alloc|apply Kd.R_drewN|apply Kd.R_drew));exact HO333.out) hb);have n2_:=aMk (bkB BK313.out hb);have n3_:=aMk (below_step (by repeat (first|(with_reducible first|exact HB.out|apply bwA|apply bwN|apply bw1|refine below_set ?_ GE313.out)|exact HB.out)) hb);clear HO_5;clear HO333;clear BK313;clear HB;have HO_5:=n0_;have HO333:=n1_;have BK313:=n2_;have HB:=n3_;clear n0_ n1_ n2_ n3_;(try clear hb);(try clear hb2);(try clear hk);(try clear hi))|((with_reducible refine gate_callee (f:=9) rfl ?_);refine gLs 130 Try.func9 #[.slice Ao216 y310.length co216] ?_;(with_reducible refine (spec_MeanOf.calls k2 _ _ y310 t338 t339 _ ?side1 ?side2 A199.out).mono ?_);(case side1 => repeat (first|exact (Kd.R_reads' HO_5.out).2.2|(with_reducible refine Kd.C_alloc ?_ _)|(with_reducible refine Kd.C_drewN ?_ _)|(with_reducible refine Kd.C_drew ?_)));(case side2 => exact (Kd.R_reads' HO_5.out).2.1);rintro e w' ⟨rfl,⟨nd,rfl⟩⟩;refine ⟨_,rfl,?_⟩)|((with_reducible refine gate_callee (f:=21) rfl ?_);refine gLs 135 Try.func21 #[.slice A1 l1.length c1,.int .i64 1,.int .i64 500] ?_;(with_reducible refine (laws_at.calls _ _ l1 1 500 t340 _ ?side1 ?side2 A200.out).mono ?_);(case side1 => repeat (first|exact (Kd.C_below HR1.out (by repeat (first|(with_reducible first|exact HB.out|apply bwA|apply bwN|apply bw1|refine below_set ?_ GE313.out)|exact HB.out)))|(with_reducible refine Kd.C_alloc ?_ _)|(with_reducible refine Kd.C_drewN ?_ _)|(with_reducible refine Kd.C_drew ?_)));(case side2 => exact HC1.out);rintro e w' ⟨rfl,⟨nd,rfl⟩⟩;refine ⟨_,rfl,?_⟩)|((with_reducible refine gate_callee (f:=21) rfl ?_);refine gLs 137 Try.func21 #[.slice A1 l1.length c1,.int .i64 2,.int .i64 500] ?_;(with_reducible refine (laws_at.calls _ _ l1 2 500 t341 _ ?side1 ?side2 A201.out).mono ?_);(case side1 => repeat (first|exact (Kd.C_below HR1.out (by repeat (first|(with_reducible first|exact HB.out|apply bwA|apply bwN|apply bw1|refine below_set ?_ GE313.out)|exact HB.out)))|(with_reducible refine Kd.C_alloc ?_ _)|(with_reducible refine Kd.C_drewN ?_ _)|(with_reducible refine Kd.C_drew ?_)));(case side2 => exact HC1.out);rintro e w' ⟨rfl,⟨nd,rfl⟩⟩;refine ⟨_,rfl,?_⟩)|((with_reducible refine gate_callee (f:=22) rfl ?_);refine gLs 139 Try.func22 #[.int .i64 t340,.int .i64 (wrap64 (1 + t341))] ?_;(with_reducible refine (impl_ShareOf.calls k2 t340 (wrap64 (1 + t341)) t342 t343 _ A202.out).mono ?_);rintro e w222 ⟨rfl,hb⟩;refine ⟨_,rfl,?_⟩;have n0_:=aMk (Kd.R_below (by (with_reducible repeat (first|apply Kd.R_alloc|apply Kd.R_drewN|apply Kd.R_drew));exact HO_5.out) hb);have n1_:=aMk (Kd.R_below (by (with_reducible repeat (first|apply Kd.R_alloc|apply Kd.R_drewN|apply Kd.R_drew));exact HO333.out) hb);have n2_:=aMk (bkB BK313.out hb);have n3_:=aMk (below_step (by repeat (first|(with_reducible first|exact HB.out|apply bwA|apply bwN|apply bw1|refine below_set ?_ GE313.out)|exact HB.out)) hb);clear HO_5;clear HO333;clear BK313;clear HB;have HO_5:=n0_;have HO333:=n1_;have BK313:=n2_;have HB:=n3_;clear n0_ n1_ n2_ n3_;(try clear hb);(try clear hb2);(try clear hk);(try clear hi))|((with_reducible refine gate_callee (f:=21) rfl ?_);refine gLs 144 Try.func21 #[.slice A1 l1.length c1,.int .i64 1,.int .i64 500] ?_;(with_reducible refine (laws_at.calls _ _ l1 1 500 t344 _ ?side1 ?side2 A203.out).mono ?_);(case side1 => repeat (first|exact (Kd.C_below HR1.out HB.out)|(with_reducible refine Kd.C_alloc ?_ _)|(with_reducible refine Kd.C_drewN ?_ _)|(with_reducible refine Kd.C_drew ?_)));(case side2 => exact HC1.out);rintro e w' ⟨rfl,⟨nd,rfl⟩⟩;refine ⟨_,rfl,?_⟩)|((with_reducible refine gate_callee (f:=21) rfl ?_);refine gLs 146 Try.func21 #[.slice A1 l1.length c1,.int .i64 2,.int .i64 500] ?_;(with_reducible refine (laws_at.calls _ _ l1 2 500 t345 _ ?side1 ?side2 A204.out).mono ?_);(case side1 => repeat (first|exact (Kd.C_below HR1.out (by repeat (first|(with_reducible first|exact HB.out|apply bwA|apply bwN|apply bw1|refine below_set ?_ GE313.out)|exact HB.out)))|(with_reducible refine Kd.C_alloc ?_ _)|(with_reducible refine Kd.C_drewN ?_ _)|(with_reducible refine Kd.C_drew ?_)));(case side2 => exact HC1.out);rintro e w' ⟨rfl,⟨nd,rfl⟩⟩;refine ⟨_,rfl,?_⟩)|((with_reducible refine gate_callee (f:=23) rfl ?_);refine gLs 148 Try.func23 #[.int .i64 t344,.int .i64 (wrap64 (1 + t345))] ?_;(with_reducible refine (spec_ShareOf.calls k2 t344 (wrap64 (1 + t345)) t346 t347 _ A205.out).mono ?_);rintro e w223 ⟨rfl,hb⟩;refine ⟨_,rfl,?_⟩;have n0_:=aMk (Kd.R_below (by (with_reducible repeat (first|apply Kd.R_alloc|apply Kd.R_drewN|apply Kd.R_drew));exact HO_5.out) hb);have n1_:=aMk (Kd.R_below (by (with_reducible repeat (first|apply Kd.R_alloc|apply Kd.R_drewN|apply Kd.R_drew));exact HO333.out) hb);have n2_:=aMk (bkB BK313.out hb);have n3_:=aMk (below_step (by repeat (first|(with_reducible first|exact HB.out|apply bwA|apply bwN|apply bw1|refine below_set ?_ GE313.out)|exact HB.out)) hb);clear HO_5;clear HO333;clear BK313;clear HB;have HO_5:=n0_;have HO333:=n1_;have BK313:=n2_;have HB:=n3_;clear n0_ n1_ n2_ n3_;(try clear hb);(try clear hb2);(try clear hk);(try clear hi))|((with_reducible refine gate_callee (f:=22) rfl ?_);refine gLs 152 Try.func22 #[.int .i64 7,.int .i64 0] ?_;(with_reducible refine (impl_ShareOf.calls k2 7 0 t348 t349 _ A206.out).mono ?_);rintro e w224 ⟨rfl,hb⟩;refine ⟨_,rfl,?_⟩;have n0_:=aMk (Kd.R_below (by (with_reducible repeat (first|apply Kd.R_alloc|apply Kd.R_drewN|apply Kd.R_drew));exact HO_5.out) hb);have n1_:=aMk (Kd.R_below (by (with_reducible repeat (first|apply Kd.R_alloc|apply Kd.R_drewN|apply Kd.R_drew));exact HO333.out) hb);have n2_:=aMk (bkB BK313.out hb);have n3_:=aMk (below_step (by repeat (first|(with_reducible first|exact HB.out|apply bwA|apply bwN|apply bw1|refine below_set ?_ GE313.out)|exact HB.out)) hb);clear HO_5;clear HO333;clear BK313;clear HB;have HO_5:=n0_;have HO333:=n1_;have BK313:=n2_;have HB:=n3_;clear n0_ n1_ n2_ n3_;(try clear hb);(try clear hb2);(try clear hk);(try clear hi)))
                  go_ret
                  exact ⟨eRf,by repeat (first|(with_reducible first|exact HB.out|apply bwA|apply bwN|apply bw1|refine below_set ?_ GE313.out)|exact HB.out)⟩
                 ·rw [if_neg c215] at H
                  have c215b0 : (t349 == 0) = false:=beq_eq_false_iff_ne.mpr c215
                  have c215b1 : (t349 != 0) = true:=bne_iff_ne.mpr c215
                  exact absurd ((Option.some.inj H).trans HRT_.out) (by decide)
                ·rw [if_neg c214] at H
                 have c214b0 : decide (t342 ≤ 1000) = false:=decide_eq_false c214
                 clear c214
                 exact absurd ((Option.some.inj H).trans HRT_.out) (by decide)
               ·rw [if_neg c213] at H
                have c213b0 : decide (0 ≤ t342) = false:=decide_eq_false c213
                clear c213
                exact absurd ((Option.some.inj H).trans HRT_.out) (by decide)
              ·rw [if_neg c212] at H
               have c212b0 : (t342 == t346) = false:=beq_eq_false_iff_ne.mpr c212
               have c212b1 : (t342 != t346) = true:=bne_iff_ne.mpr c212
               exact absurd ((Option.some.inj H).trans HRT_.out) (by decide)
             ·rw [if_neg c211] at H
              have c211b0 : (t343 == 0) = false:=beq_eq_false_iff_ne.mpr c211
              have c211b1 : (t343 != 0) = true:=bne_iff_ne.mpr c211
              exact absurd ((Option.some.inj H).trans HRT_.out) (by decide)
            ·rw [if_neg c210] at H
             have c210b0 : (t336 == t338) = false:=beq_eq_false_iff_ne.mpr c210
             have c210b1 : (t336 != t338) = true:=bne_iff_ne.mpr c210
             exact absurd ((Option.some.inj H).trans HRT_.out) (by decide)
           ·rw [if_neg c209] at H
            have c209b0 : (t337 == t339) = false:=beq_eq_false_iff_ne.mpr c209
            have c209b1 : (t337 != t339) = true:=bne_iff_ne.mpr c209
            exact absurd ((Option.some.inj H).trans HRT_.out) (by decide)
          ·rw [if_neg c208] at H
           have c208b0 : (t334 == (wrap64 (t330 - 400))) = false:=beq_eq_false_iff_ne.mpr c208
           have c208b1 : (t334 != (wrap64 (t330 - 400))) = true:=bne_iff_ne.mpr c208
           exact absurd ((Option.some.inj H).trans HRT_.out) (by decide)
         ·rw [if_neg c207] at H
          have c207b0 : (t335 == 0) = false:=beq_eq_false_iff_ne.mpr c207
          have c207b1 : (t335 != 0) = true:=bne_iff_ne.mpr c207
          exact absurd ((Option.some.inj H).trans HRT_.out) (by decide)
     ·rw [if_neg c9] at H
      exact absurd H (by simp)
    ·rw [if_neg c7] at H
     exact absurd H (by simp)

/-- THE ONE PURE STATEMENT of laws_FnMeter: yours. -/
def laws_FnMeter.Pure : Prop:=∀ (l0 : List Int) (l1 : List Int),l0.length ≤ maxLen → l0.length * 1 ≤ 140737488351232 → (∀ x ∈ l0,(Lit.int .u8 x).wf = true) → l1.length ≤ maxLen → l1.length * 1 ≤ 140737488351232 → (∀ x ∈ l1,(Lit.int .u8 x).wf = true) → ∃ k,laws_FnMeter.f k l0 l1 = some true
theorem laws_FnMeter.walk (P : laws_FnMeter.Pure) (a0 : Option Addr) (len0 cap0 : Nat) (z0 : List Int) (a1 : Option Addr) (len1 cap1 : Nat) (z1 : List Int) (w : World) (w0 : (a0 = none ∧ len0 = 0 ∧ cap0 = 0 ∧ z0 = []) ∨ ∃ x,a0 = some x ∧ len0 ≤ cap0 ∧ cap0 ≤ maxLen ∧ z0.length = cap0 ∧ (∀ i,i < z0.length → w.cell? (x.add i) = some (.int .u8 (z0.getD i 0))) ∧ ∀ n ∈ z0,(Lit.int .u8 n).wf = true) (y0 : len0 * 1 ≤ 140737488351232) (w1 : (a1 = none ∧ len1 = 0 ∧ cap1 = 0 ∧ z1 = []) ∨ ∃ x,a1 = some x ∧ len1 ≤ cap1 ∧ cap1 ≤ maxLen ∧ z1.length = cap1 ∧ (∀ i,i < z1.length → w.cell? (x.add i) = some (.int .u8 (z1.getD i 0))) ∧ ∀ n ∈ z1,(Lit.int .u8 n).wf = true) (y1 : len1 * 1 ≤ 140737488351232) :
  Calls Try.prog 6 #[.slice a0 len0 cap0,.slice a1 len1 cap1] w fun e w' => e = .returned (.bool true) ∧ Below w.heap.size w w':=by
 obtain ⟨l0,rfl,hr0,hm0,hw0,hc0⟩:=ReadsInt.ofRowC w0
 obtain ⟨l1,rfl,hr1,hm1,hw1,hc1⟩:=ReadsInt.ofRowC w1
 obtain ⟨k,h⟩:=P l0 l1 hm0 y0 hw0 hm1 y1 hw1
 refine (laws_FnMeter.calls k _ _ l0 _ _ l1 true w (Kd.C_of_reads (d:=(0 : Int)) (h1:=fun _ => rfl) hr0) hc0 (Kd.C_of_reads (d:=(0 : Int)) (h1:=fun _ => rfl) hr1) hc1 h rfl).mono ?_
 rintro e w' ⟨rfl,hd⟩
 exact ⟨rfl,hd⟩
end
section
def fst_T3 (q : Int → Bool) (l : List Int) : Nat → Int → Int
 | 0,_ => -1
 | d + 1,i => if q (rd l i) = true then i else fst_T3 q l d (i + 1)
def any_T3 (q : Int → Bool) (l : List Int) : Nat → Int → Bool
 | 0,_ => false
 | d + 1,i => q (rd l i) || any_T3 q l d (i + 1)
end
section
-- NEEDS spec.MeanOf impl.MeanOf
def badv (x : Int) : Bool:=!decide (-1000000000 ≤ x ∧ x ≤ 1000000000)
def sumI (l : List Int) : Nat → Int → Int → Int
 | 0,_,s => s
 | d + 1,i,s => sumI l d (i + 1) (s + rd l i)
def floorI (s n : Int) : Int:=if Int.tmod s n < 0 then Int.tdiv s n - 1 else Int.tdiv s n
def meanR (l : List Int) : Int × Int:=if (l.length : Int) > 4096 then (0,2) else if any_T3 badv l l.length 0 = true then (0,1) else if (l.length : Int) = 0 then (0,5) else (floorI (sumI l l.length 0 0) l.length,0)
end
section
-- NEEDS (*spec.l00Src).byte (*spec.l00Src).next
def okSrc (code : List Int) (a s : Int) : Prop:=(∀ y ∈ code,0 ≤ y ∧ y ≤ 255) ∧ code.length ≤ 1048576 ∧ 0 ≤ a ∧ a ≤ 1000000000000 ∧ 0 ≤ s ∧ s < 2147483648
theorem src_rd {code : List Int} (h : ∀ y ∈ code,0 ≤ y ∧ y ≤ 255) (i : Int) : 0 ≤ rd code i ∧ rd code i ≤ 255:=by
 unfold rd
 rw [List.getD_eq_getElem?_getD]
 cases e : code[i.toNat]? with
 | none => decide
 | some y => exact h y (List.mem_of_getElem? e)
theorem src_byte {code : List Int} {a s : Int} (h : okSrc code a s) : ∃ b t,spec_l00Src_byte.f code a s = some (b,a + 1,t) ∧ 0 ≤ b ∧ b ≤ 255 ∧ 0 ≤ t ∧ t < 2147483648:=by
 obtain ⟨hc,hl,h0,h1,h2,h3⟩:=h
 have hr:=src_rd hc a
 unfold spec_l00Src_byte.f
 rw [wrap_id (n:=a + 1) (by omega) (by omega)]
 by_cases c1 : a + 1 ≤ (code.length : Int)
 ·rw [if_pos c1,if_pos (by omega),wrap_id (n:=a + 1 - 1) (by omega) (by omega),show a + 1 - 1 = a by omega]
  generalize rd code a = y at hr
  rw [wrap_id (n:=y) (by omega) (by omega),wrap_id (n:=s * 31) (by omega) (by omega),wrap_id (n:=s * 31 + y) (by omega) (by omega),wrap_id (n:=s * 31 + y + 7) (by omega) (by omega),Int.tmod_eq_emod_of_nonneg (by omega)]
  exact ⟨y,_,rfl,by omega,by omega,by omega,by omega⟩
 ·rw [if_neg c1]
  by_cases c2 : a + 1 > 3000
  ·rw [if_pos c2]
   exact ⟨0,s,rfl,by omega,by omega,h2,h3⟩
  ·rw [if_neg c2,wrap_id (n:=s * 1103515245) (by omega) (by omega),wrap_id (n:=s * 1103515245 + 12345) (by omega) (by omega),Int.tmod_eq_emod_of_nonneg (a:=s * 1103515245 + 12345) (by omega)]
   have ht : 0 ≤ (s * 1103515245 + 12345) % 2147483648 ∧ (s * 1103515245 + 12345) % 2147483648 < 2147483648:=by omega
   generalize (s * 1103515245 + 12345) % 2147483648 = t at ht
   rw [Int.tdiv_eq_ediv_of_nonneg (by omega),wrap_id (n:=t / 65536) (by omega) (by omega),Int.tmod_eq_emod_of_nonneg (by omega)]
   exact ⟨_,t,rfl,by omega,by omega,by omega,by omega⟩
theorem src_next {code : List Int} {a s : Int} (h : okSrc code a s) (n : Int) (h1 : 2 ≤ n) (h2 : n ≤ 256) : ∃ b t,spec_l00Src_next.f code a s n = some (b,a + 1,t) ∧ 0 ≤ b ∧ b < n ∧ 0 ≤ t ∧ t < 2147483648:=by
 obtain ⟨b,t,e,b0,b1,t0,t1⟩:=src_byte h
 unfold spec_l00Src_next.f
 rw [if_neg (by omega),if_pos h2,e,Option.bind_some,if_neg (by omega),Int.tmod_eq_emod_of_nonneg b0]
 exact ⟨_,t,rfl,Int.emod_nonneg _ (by omega),Int.emod_lt_of_pos _ (by omega),t0,t1⟩
theorem okSrc.on {code : List Int} {a s : Int} (h : okSrc code a s) {t : Int} (ha : a ≤ 999999999999) (t0 : 0 ≤ t) (t1 : t < 2147483648) : okSrc code (a + 1) t:=⟨h.1,h.2.1,by have:=h.2.2.1;omega,by omega,t0,t1⟩
theorem okSrc.begin {code : List Int} (h : ∀ y ∈ code,0 ≤ y ∧ y ≤ 255) (hl : code.length ≤ 1048576) : okSrc code 0 ((code.length : Int) % 1000):=⟨h,hl,by omega,by omega,by omega,by omega⟩
end
section
def P_FnMeter : Prop:=∀ (a0 : List Int) (a1 : List Int),(a0.length * 1 ≤ 140737488351232 ∧ a0.length ≤ maxLen ∧ ∀ y ∈ a0,(Lit.int .u8 y).wf = true) → (a1.length * 1 ≤ 140737488351232 ∧ a1.length ≤ maxLen ∧ ∀ y ∈ a1,(Lit.int .u8 y).wf = true) → ∃ k,laws_FnMeter.f k a0 a1 = some true
end
section
-- NEEDS laws.FnMeter impl.MeterAdd spec.MeterAdd
theorem byte_of_wf {l : List Int} (h : ∀ y ∈ l,(Lit.int .u8 y).wf = true) : ∀ y ∈ l,0 ≤ y ∧ y ≤ 255:=fun y hy => bndu8 (h y hy)
theorem src_big {code : List Int} {a s : Int} (h : okSrc code a s) (n : Int) (h1 : 257 ≤ n) (h2 : n ≤ 100000) (ha : a ≤ 999999999000) : ∃ b t,spec_l00Src_next.f code a s n = some (b,a + 1 + 1 + 1,t) ∧ 0 ≤ b ∧ b < n ∧ 0 ≤ t ∧ t < 2147483648:=by
 obtain ⟨b,t,e,b0,b1,t0,t1⟩:=src_byte h
 have o1:=h.on (by omega) t0 t1
 obtain ⟨c,u,e2,c0,c1,u0,u1⟩:=src_byte o1
 have o2:=o1.on (by omega) u0 u1
 obtain ⟨d,v,e3,d0,d1,v0,v1⟩:=src_byte o2
 unfold spec_l00Src_next.f
 rw [if_neg (by omega),if_neg (by omega),e,Option.bind_some]
 dsimp only
 rw [e2,Option.bind_some]
 dsimp only
 rw [e3,Option.bind_some]
 dsimp only
 rw [if_neg (by omega),wrap_id (n:=b * 65536) (by omega) (by omega),wrap_id (n:=c * 256) (by omega) (by omega),wrap_id (n:=b * 65536 + c * 256) (by omega) (by omega),wrap_id (by omega) (by omega),Int.tmod_eq_emod_of_nonneg (by omega)]
 exact ⟨_,v,rfl,Int.emod_nonneg _ (by omega),Int.emod_lt_of_pos _ (by omega),v0,v1⟩
def okAm (x : Int) : Prop:=-1000000000 ≤ x ∧ x ≤ 1000000000
def MInv (i me le mo co : Int) : Prop:=(i = 0 ∧ me = 0 ∧ le = 0 ∧ mo = 0 ∧ co = 0) ∨ (0 < i ∧ co = i ∧ okAm le ∧ okAm mo ∧ le ≤ me ∧ me ≤ mo)
end
section
def P_FnOrder : Prop:=∀ (a0 : List Int) (a1 : List Int),(a0.length * 1 ≤ 140737488351232 ∧ a0.length ≤ maxLen ∧ ∀ y ∈ a0,(Lit.int .u8 y).wf = true) → (a1.length * 1 ≤ 140737488351232 ∧ a1.length ≤ maxLen ∧ ∀ y ∈ a1,(Lit.int .u8 y).wf = true) → ∃ k,laws_FnOrder.f k a0 a1 = some true
end
section
-- NEEDS laws.FnOrder spec.SortWords impl.SortWords (impl.Word).class
theorem xor_low (n : Nat) (h : n < 2147483648) : n ^^^ 2147483648 = n + 2147483648:=by
 apply Nat.eq_of_testBit_eq
 intro i
 rw [Nat.testBit_xor,show (2147483648 : Nat) = 2 ^ 31 by decide,Nat.testBit_two_pow,Nat.add_comm n]
 rcases Nat.lt_trichotomy i 31 with hi | rfl | hi
 ·rw [Nat.testBit_two_pow_add_gt hi,decide_eq_false (by omega)];simp
 ·rw [Nat.testBit_two_pow_add_eq,Nat.testBit_lt_two_pow (by omega)];rfl
 ·have h2 : 2 ^ 32 ≤ 2 ^ i:=Nat.pow_le_pow_right (by decide) hi
  rw [Nat.testBit_lt_two_pow (show n < 2 ^ i by omega),Nat.testBit_lt_two_pow (show 2 ^ 31 + n < 2 ^ i by omega),decide_eq_false (by omega)];rfl
def negI (h : Int) : Int:=if h < 2147483648 then h + 2147483648 else h - 2147483648
theorem xor_nat (n c : Nat) (hn : n < 4294967296) (hc : c < 4294967296) : Go.bits .xor .i64 (n : Int) (c : Int) = ((n ^^^ c : Nat) : Int):=by
 have hb : Go.bits .xor .i64 (n : Int) (c : Int) = IntKind.i64.wrap (((BitVec.ofInt 64 (n : Int) ^^^ BitVec.ofInt 64 (c : Int)).toNat : Nat) : Int):=rfl
 have hl : n ^^^ c < 2 ^ 32:=Nat.xor_lt_two_pow (by omega) (by omega)
 rw [hb,BitVec.toNat_xor,BitVec.ofInt_natCast,BitVec.ofInt_natCast,BitVec.toNat_ofNat,BitVec.toNat_ofNat,Nat.mod_eq_of_lt (show n < 2 ^ 64 by omega),Nat.mod_eq_of_lt (show c < 2 ^ 64 by omega),IntKind.wrap_i64]
 omega
theorem xor_neg {h : Int} (h0 : 0 ≤ h) (h1 : h ≤ 4294967295) : Go.bits .xor .i64 h 2147483648 = negI h:=by
 obtain ⟨n,rfl⟩:=Int.eq_ofNat_of_zero_le h0
 rw [show (2147483648 : Int) = ((2147483648 : Nat) : Int) from rfl,xor_nat n _ (by omega) (by decide),negI]
 by_cases hn : n < 2147483648
 ·rw [if_pos (by omega),xor_low n hn];omega
 ·obtain ⟨m,rfl⟩ : ∃ m,n = m + 2147483648:=⟨n - 2147483648,by omega⟩
  rw [if_neg (by omega),← xor_low m (by omega),Nat.xor_assoc,Nat.xor_self,Nat.xor_zero]
  have:=xor_low m (by omega)
  omega
theorem negI_range {h : Int} (h0 : 0 ≤ h) (h1 : h ≤ 4294967295) : 0 ≤ negI h ∧ negI h ≤ 4294967295:=by
 unfold negI;split <;> omega
theorem cls_neg {h l : Int} (h0 : 0 ≤ h) (h1 : h ≤ 4294967295) : cls (negI h) l = if cls h l = 0 then 0 else 7 - cls h l:=by
 have hm : negI h % 2147483648 = h % 2147483648:=by unfold negI;split <;> omega
 have hd : negI h / 2147483648 = 1 - h / 2147483648:=by unfold negI;split <;> omega
 have hb : h / 2147483648 = 0 ∨ h / 2147483648 = 1:=by omega
 unfold cls
 rw [hm,hd]
 rcases hb with e | e <;> rw [e] <;> (repeat' split) <;> omega
theorem ord_neg {a b c d : Int} (a0 : 0 ≤ a) (a1 : a ≤ 4294967295) (b0 : 0 ≤ b) (c0 : 0 ≤ c) (c1 : c ≤ 4294967295) (d0 : 0 ≤ d) (hle : ordI a b c d ≤ 0) (hn : cls a b ≠ 0) : ordI (negI a) b (negI c) d = ordI c d a b:=by
 have hy : cls c d ≠ 0:=fun h => by
  have hr:=cls_range a b
  unfold ordI at hle
  rw [h,if_neg hn,if_pos (by omega)] at hle
  omega
 have k1:=cls_neg (h:=a) (l:=b) a0 a1
 have k2:=cls_neg (h:=c) (l:=d) c0 c1
 rw [if_neg hn] at k1
 rw [if_neg hy] at k2
 have r1:=cls_range a b
 have r2:=cls_range c d
 have e1 : cls a b = 1 → a = 4293918720 ∧ b = 0:=cls1 a0 a1 b0
 have e2 : cls a b = 2 → a / 2147483648 = 1:=cls2 a0 a1 b0
 have e3 : cls a b = 3 → a = 2147483648 ∧ b = 0:=cls3 a0 a1 b0
 have e4 : cls a b = 4 → a = 0 ∧ b = 0:=cls4 a0 a1 b0
 have e5 : cls a b = 5 → a / 2147483648 = 0:=cls5 a0 a1 b0
 have e6 : cls a b = 6 → a = 2146435072 ∧ b = 0:=cls6 a0 a1 b0
 have f1 : cls c d = 1 → c = 4293918720 ∧ d = 0:=cls1 c0 c1 d0
 have f2 : cls c d = 2 → c / 2147483648 = 1:=cls2 c0 c1 d0
 have f3 : cls c d = 3 → c = 2147483648 ∧ d = 0:=cls3 c0 c1 d0
 have f4 : cls c d = 4 → c = 0 ∧ d = 0:=cls4 c0 c1 d0
 have f5 : cls c d = 5 → c / 2147483648 = 0:=cls5 c0 c1 d0
 have f6 : cls c d = 6 → c = 2146435072 ∧ d = 0:=cls6 c0 c1 d0
 unfold ordI
 rw [k1,k2]
 generalize cls a b = x at *
 generalize cls c d = y at *
 unfold negI
 by_cases hxy : x = y
 ·subst hxy
  rw [if_pos rfl,if_neg (by omega),if_pos rfl,if_neg hn]
  have hx : x = 1 ∨ x = 2 ∨ x = 3 ∨ x = 4 ∨ x = 5 ∨ x = 6:=by omega
  rcases hx with rfl | rfl | rfl | rfl | rfl | rfl
  ·obtain ⟨rfl,rfl⟩:=e1 rfl
   obtain ⟨rfl,rfl⟩:=f1 rfl
   rfl
  ·have g1:=e2 rfl
   have g2:=f2 rfl
   rw [if_neg (show ¬ a < 2147483648 by omega),if_neg (show ¬ c < 2147483648 by omega)]
   repeat' split
   all_goals omega
  ·obtain ⟨rfl,rfl⟩:=e3 rfl
   obtain ⟨rfl,rfl⟩:=f3 rfl
   rfl
  ·obtain ⟨rfl,rfl⟩:=e4 rfl
   obtain ⟨rfl,rfl⟩:=f4 rfl
   rfl
  ·have g1:=e5 rfl
   have g2:=f5 rfl
   rw [if_pos (show a < 2147483648 by omega),if_pos (show c < 2147483648 by omega)]
   repeat' split
   all_goals omega
  ·obtain ⟨rfl,rfl⟩:=e6 rfl
   obtain ⟨rfl,rfl⟩:=f6 rfl
   rfl
 ·have h1 : ¬ (7 - x = 7 - y):=by omega
  have h2 : ¬ y = x:=fun h => hxy h.symm
  rw [if_neg h1,if_neg h2]
  by_cases hg : y > x
  ·rw [if_pos (show 7 - x > 7 - y by omega),if_pos hg]
  ·rw [if_neg (show ¬ 7 - x > 7 - y by omega),if_neg hg]
theorem rate_both (a b : Int) (h : (0 ≤ a ∧ a ≤ 4294967295) ∧ (0 ≤ b ∧ b ≤ 4294967295)) : ∃ t,∀ k,7 ≤ k → impl_RateWord.f k a b = some t ∧ spec_RateWord.f k a b = some t:=by
 have hh : ∀ k,7 ≤ k → impl_RateWord.f k a b = impl_RateWord.f 7 a b ∧ spec_RateWord.f k a b = impl_RateWord.f 7 a b:=by
  intro k hk
  obtain ⟨k,rfl⟩ : ∃ z,k = z + 7:=⟨k - 7,by omega⟩
  have o5:=impl_order_eq (a:=a) (b:=b) (c:=1083129856) (d:=0) h.1.1 h.1.2 h.2.1 (by omega) (by omega) (by omega) (k + 5) (by omega)
  have o5':=impl_order_eq (a:=a) (b:=b) (c:=1083129856) (d:=0) h.1.1 h.1.2 h.2.1 (by omega) (by omega) (by omega) 5 (by omega)
  have s7:=spec_order_eq (a:=a) (b:=b) (c:=1083129856) (d:=0) h.1.1 h.1.2 h.2.1 (by omega) (by omega) (by omega) (k + 7) (by omega)
  simp only [spec_RateWord.f,impl_RateWord.f,wordb_spec,wordb_impl,impl_RateWord.j0,impl_RateWord.j1]
  rw [impl_class_eq h.1.1 h.1.2 h.2.1,spec_class_eq h.1.1 h.1.2 h.2.1 (k + 7) (by omega),o5,o5',s7,decide_eq_true h.1,decide_eq_true h.2]
  simp only [Bool.and_self,if_true,Option.bind_some]
  have r:=cls_range a b
  generalize cls a b = x at *
  generalize ordI a b 1083129856 0 = o at *
  have hx : x = 0 ∨ x = 1 ∨ x = 2 ∨ x = 3 ∨ x = 4 ∨ x = 5 ∨ x = 6:=by omega
  by_cases ho : o < 0
  ·rcases hx with h | h | h | h | h | h | h <;> subst h <;> simp [ho]
  ·rcases hx with h | h | h | h | h | h | h <;> subst h <;> simp [ho]
 have hs : ∃ t,impl_RateWord.f 7 a b = some t:=by
  have o5':=impl_order_eq (a:=a) (b:=b) (c:=1083129856) (d:=0) h.1.1 h.1.2 h.2.1 (by omega) (by omega) (by omega) 5 (by omega)
  simp only [impl_RateWord.f,wordb_impl,impl_RateWord.j0,impl_RateWord.j1]
  rw [impl_class_eq h.1.1 h.1.2 h.2.1,o5',decide_eq_true h.1,decide_eq_true h.2]
  simp only [Bool.and_self,if_true,Option.bind_some]
  repeat' split
  all_goals exact ⟨_,rfl⟩
 obtain ⟨t,ht⟩:=hs
 exact ⟨t,fun k hk => by rw [(hh k hk).1,(hh k hk).2,ht];exact ⟨rfl,rfl⟩⟩
theorem class_both (a b : Int) (h : (0 ≤ a ∧ a ≤ 4294967295) ∧ (0 ≤ b ∧ b ≤ 4294967295)) (k : Nat) (hk : 3 ≤ k) : impl_ClassOf.f a b = some (cls a b,0) ∧ spec_ClassOf.f k a b = some (cls a b,0):=by
 rw [impl_ClassOf.f,spec_ClassOf.f,wordb_impl,wordb_spec,impl_class_eq h.1.1 h.1.2 h.2.1,spec_class_eq h.1.1 h.1.2 h.2.1 k hk,decide_eq_true h.1,decide_eq_true h.2]
 exact ⟨rfl,rfl⟩
theorem order_of {a b c d : Int} (h : (0 ≤ a ∧ a ≤ 4294967295) ∧ (0 ≤ b ∧ b ≤ 4294967295)) (g : (0 ≤ c ∧ c ≤ 4294967295) ∧ (0 ≤ d ∧ d ≤ 4294967295)) (k : Nat) (hk : 4 ≤ k) : impl_OrderOf.f k a b c d = some (ordI a b c d,0):=by
 rw [impl_OrderOf.f,wordb_impl,wordb_impl,impl_order_eq h.1.1 h.1.2 h.2.1 g.1.1 g.1.2 g.2.1 k hk,decide_eq_true h.1,decide_eq_true h.2,decide_eq_true g.1,decide_eq_true g.2]
 rfl
theorem neg_of {a b : Int} (h : (0 ≤ a ∧ a ≤ 4294967295) ∧ (0 ≤ b ∧ b ≤ 4294967295)) : impl_NegOf.f a b = some (negI a,b,0):=by
 rw [impl_NegOf.f,wordb_impl,decide_eq_true h.1,decide_eq_true h.2,xor_neg h.1.1 h.1.2]
 rfl
theorem rdW_mem {l : List S31} {i : Nat} (h : i < l.length) : rd_T31 l (i : Int) ∈ l:=by
 rw [rd_T31,List.getD_eq_getElem?_getD,Int.toNat_natCast,List.getElem?_eq_getElem h]
 exact List.getElem_mem ..
theorem rdW_rev (l : List S31) (i : Nat) (h : i < l.length) : rd_T31 l.reverse (i : Int) = rd_T31 l ((l.length - 1 - i : Nat) : Int):=by
 rw [rd_T31,rd_T31,List.getD_eq_getElem?_getD,List.getD_eq_getElem?_getD,Int.toNat_natCast,Int.toNat_natCast,List.getElem?_reverse h]
theorem order_loop (l : List S31) (hx : l.length ≤ 19) (hok : ∀ z ∈ l,okW z) (s : List S31) (hs : s.length = l.length) (hso : ∀ z ∈ s,okW z) (hadj : ∀ i : Nat,i + 1 < s.length → ordW (rd_T31 s (i : Int)) (rd_T31 s ((i + 1 : Nat) : Int)) ≤ 0) :
  ∀ (d i : Nat),i + d = l.length → ∀ k,3 * d + 20 ≤ k → laws_FnOrder.l0 k l s s i = some true
 | 0,i,hd,k,hk => by
  obtain ⟨k,rfl⟩ : ∃ z,k = z + 1:=⟨k - 1,by omega⟩
  rw [laws_FnOrder.l0,if_neg (by omega),order_of (a:=2147483648) (b:=0) (c:=0) (d:=0) (by omega) (by omega) k (by omega)]
  decide
 | d + 1,i,hd,k,hk => by
  obtain ⟨k,rfl⟩ : ∃ z,k = z + 2:=⟨k - 2,by omega⟩
  have ih:=order_loop l hx hok s hs hso hadj d (i + 1) (by omega) k (by omega)
  have hw : wrap64 ((i : Int) + 1) = ((i + 1 : Nat) : Int):=by rw [wrap_id (by omega) (by omega)];omega
  have ou:=hok _ (rdW_mem (l:=l) (i:=i) (by omega))
  obtain ⟨u,hu⟩ : ∃ u,u = rd_T31 l (i : Int):=⟨_,rfl⟩
  rw [← hu] at ou
  obtain ⟨c1,c2⟩:=class_both u.f0 u.f1 ou (k + 1) (by omega)
  obtain ⟨t,ht⟩:=rate_both u.f0 u.f1 ou
  obtain ⟨t1,t2⟩:=ht (k + 1) (by omega)
  have j3 : laws_FnOrder.j3 (k + 1) l s s (i : Int) false = some true:=by
   rw [laws_FnOrder.j3,if_neg (by decide),hw,ih]
   cases i with
   | zero => rw [if_pos (by simp)]
   | succ i =>
    have hw1 : wrap64 (((i + 1 : Nat) : Int) - 1) = (i : Int):=by rw [wrap_id (by omega) (by omega)];omega
    have op:=hso _ (rdW_mem (l:=s) (i:=i) (by omega))
    have oq:=hso _ (rdW_mem (l:=s) (i:=i + 1) (by omega))
    have ha:=hadj i (by omega)
    obtain ⟨p,hp⟩ : ∃ p,p = rd_T31 s (i : Int):=⟨_,rfl⟩
    obtain ⟨q,hq⟩ : ∃ q,q = rd_T31 s ((i + 1 : Nat) : Int):=⟨_,rfl⟩
    rw [← hp] at op ha
    rw [← hq] at oq ha
    unfold ordW at ha
    have n1:=negI_range op.1.1 op.1.2
    have n2:=negI_range oq.1.1 oq.1.2
    have on:=order_of (a:=negI p.f0) (b:=p.f1) (c:=negI q.f0) (d:=q.f1) ⟨n1,op.2⟩ ⟨n2,oq.2⟩ k (by omega)
    have an:=ord_anti p.f0 p.f1 q.f0 q.f1
    have bd : -1 ≤ ordI q.f0 q.f1 p.f0 p.f1 ∧ ordI q.f0 q.f1 p.f0 p.f1 ≤ 1:=by
     unfold ordI
     repeat' split
     all_goals omega
    rw [if_neg (by omega),hw1,if_pos (by omega),if_pos (by omega),if_pos (by omega),if_pos (by omega),← hp,← hq,order_of op oq k (by omega),order_of oq op k (by omega),neg_of op,neg_of oq,Option.bind_some,Option.bind_some,Option.bind_some,Option.bind_some]
    dsimp only
    rw [on,Option.bind_some,(class_both p.f0 p.f1 op 3 (by omega)).1,Option.bind_some]
    dsimp only
    rw [if_pos rfl,if_pos rfl,if_pos rfl,if_pos rfl,if_pos rfl,if_pos rfl,if_neg (by omega),wrap_id (by omega) (by omega),if_pos an]
    by_cases hn : cls p.f0 p.f1 = 0
    ·rw [if_pos hn]
    ·rw [if_neg hn,if_pos (ord_neg op.1.1 op.1.2 op.2.1 oq.1.1 oq.1.2 oq.2.1 ha hn)]
  rw [laws_FnOrder.l0,if_pos (by omega),if_pos (by omega),if_pos (by omega),← hu,c1,Option.bind_some,c2,Option.bind_some,if_pos (by omega)]
  dsimp only
  rw [if_neg (by simp),if_pos rfl,if_pos rfl,t1,Option.bind_some,t2,Option.bind_some,bne_self_eq_false,j3]
theorem src_bits {code : List Int} {a s : Int} (h : okSrc code a s) (ha : a ≤ 999999998000) : ∃ x y t,spec_l00Src_bits.f code a s = some (x,y,a + 5,t) ∧ okW ⟨x,y⟩ ∧ 0 ≤ t ∧ t < 2147483648:=by
 obtain ⟨b,t,e,b0,b1,t0,t1⟩:=src_big h 4096 (by omega) (by omega) (by omega)
 have o1 : okSrc code (a + 1 + 1 + 1) t:=((h.on (by omega) t0 t1).on (by omega) t0 t1).on (by omega) t0 t1
 obtain ⟨c,u,e2,c0,c1,u0,u1⟩:=src_next o1 3 (by omega) (by omega)
 have o2:=o1.on (by omega) u0 u1
 obtain ⟨d,v,e3,d0,d1,v0,v1⟩:=src_next o2 14 (by omega) (by omega)
 unfold spec_l00Src_bits.f
 rw [e,Option.bind_some]
 dsimp only
 rw [e2,Option.bind_some,Option.bind_some]
 dsimp only
 rw [e3,Option.bind_some]
 dsimp only
 rw [if_pos d0,if_pos (by simpa using d1),wrap_id (n:=b * 1048576) (by omega) (by omega)]
 refine ⟨_,_,v,by rw [show a + 1 + 1 + 1 + 1 + 1 = a + 5 by omega],?_,v0,v1⟩
 have hd : d = 0 ∨ d = 1 ∨ d = 2 ∨ d = 3 ∨ d = 4 ∨ d = 5 ∨ d = 6 ∨ d = 7 ∨ d = 8 ∨ d = 9 ∨ d = 10 ∨ d = 11 ∨ d = 12 ∨ d = 13:=by omega
 rcases hd with rfl | rfl | rfl | rfl | rfl | rfl | rfl | rfl | rfl | rfl | rfl | rfl | rfl | rfl <;> (simp only [rd_T31,okW];simp;try omega)
theorem src_words (code : List Int) : ∀ (n : Nat) (acc : List S31) (a s : Int),okSrc code a s → n ≤ 6 → a + 5 * n ≤ 999999990000 → (acc.length : Int) + n ≤ 100 → (∀ y ∈ acc,okW y) → ∀ k,n + 1 ≤ k → ∃ (r : List S31) (a' s' : Int),spec_l00Src_words.l0 k acc n code a s = some (r,a',s') ∧ (∀ y ∈ r,okW y) ∧ r.length = acc.length + n
 | 0,acc,a,s,h,hn,ha,hc,hy,k,hk => by
  obtain ⟨k,rfl⟩ : ∃ z,k = z + 1:=⟨k - 1,by omega⟩
  exact ⟨acc,a,s,by rw [spec_l00Src_words.l0,if_neg (by simp)],hy,rfl⟩
 | n + 1,acc,a,s,h,hn,ha,hc,hy,k,hk => by
  obtain ⟨k,rfl⟩ : ∃ z,k = z + 1:=⟨k - 1,by omega⟩
  obtain ⟨x,y,t,e,hb,t0,t1⟩:=src_bits h (by omega)
  have o : okSrc code (a + 5) t:=⟨h.1,h.2.1,by have:=h.2.2.1;omega,by omega,t0,t1⟩
  obtain ⟨r,a',s',er,hr,hlr⟩:=src_words code n (acc ++ [⟨x,y⟩]) (a + 5) t o (by omega) (by omega) (by simp;omega) (fun y hm => by
   rcases List.mem_append.1 hm with hm | hm
   ·exact hy y hm
   ·obtain rfl:=List.mem_singleton.1 hm;exact hb) k (by omega)
  refine ⟨r,a',s',?_,hr,by rw [hlr];simp;omega⟩
  rw [spec_l00Src_words.l0,if_pos (by omega),e,Option.bind_some]
  dsimp only
  rw [if_pos (by omega),wrap_id (by omega) (by omega),show ((n + 1 : Nat) : Int) - 1 = (n : Int) by omega,er]
theorem wm_mono (k : Nat) (y0 : List S31) (y1 : Int) (y2 : List Int) (y3 y4 : Int) : ∀ d,LeO (spec_l00Src_words.l0 k y0 y1 y2 y3 y4) (spec_l00Src_words.l0 (k + d) y0 y1 y2 y3 y4)
 | 0 => LeO.refl _
 | d + 1 => fun q hq => spec_l00Src_words.mono_l (k + d) y0 y1 y2 y3 y4 q (wm_mono k y0 y1 y2 y3 y4 d q hq)
theorem words_of {code : List Int} (h : ∀ y ∈ code,0 ≤ y ∧ y ≤ 255) (hl : (code.length : Int) ≤ 1048576) : ∃ r : List S31,(∀ k,10 ≤ k → spec_WordsOf.f k code = some r) ∧ (∀ y ∈ r,okW y) ∧ r.length ≤ 6:=by
 have o:=okSrc.begin h (by omega)
 obtain ⟨b,t,e,b0,b1,t0,t1⟩:=src_next o 7 (by omega) (by omega)
 have o1:=o.on (by omega) t0 t1
 have hnb : ((b.toNat : Nat) : Int) = b:=by omega
 have key:=fun k hk => src_words code b.toNat [] (0 + 1) t o1 (by omega) (by omega) (by simp;omega) (by simp) k hk
 obtain ⟨r,a',s',er,hr,hlr⟩:=key 10 (by omega)
 refine ⟨r,fun k hk => ?_,hr,by simp at hlr;omega⟩
 obtain ⟨d,rfl⟩ : ∃ d,k = 10 + d:=⟨k - 10,by omega⟩
 have e3:=wm_mono 10 [] b.toNat code (0 + 1) t d _ er
 unfold spec_WordsOf.f spec_l00Source.f
 rw [Option.bind_some]
 dsimp only
 unfold spec_l00Src_words.f
 rw [e,Option.bind_some]
 dsimp only
 rw [← hnb,e3,Option.bind_some]
theorem pure_FnOrder : P_FnOrder:=by
 intro l0 l1 ⟨_,_,w0⟩ ⟨_,_,w1⟩
 by_cases h0 : (l0.length : Int) > 1048576
 ·exact ⟨1,by simp only [laws_FnOrder.f,if_pos h0,laws_FnOrder.j0,if_true]⟩
 by_cases h1 : (l1.length : Int) > 1048576
 ·exact ⟨1,by simp only [laws_FnOrder.f,if_neg h0,decide_eq_true h1,laws_FnOrder.j0,if_true]⟩
 have b0:=byte_of_wf w0
 have b1:=byte_of_wf w1
 obtain ⟨r0,e0,a0,n0⟩:=words_of b0 (by omega)
 obtain ⟨r1,e1,a1,n1⟩:=words_of b1 (by omega)
 obtain ⟨l,hl⟩ : ∃ l,l = ([] : List S31) ++ r0 ++ r1:=⟨_,rfl⟩
 have hlen : l.length ≤ 12:=by rw [hl];simp;omega
 have hok : ∀ z ∈ l,okW z:=fun y hy => by
  rw [hl] at hy
  simp only [List.nil_append,List.mem_append] at hy
  rcases hy with hy | hy
  ·exact a0 y hy
  ·exact a1 y hy
 obtain ⟨K,hK⟩:=spec_Sort_ev l (by omega) hok
 have hs:=sortR_len l []
 rw [List.length_nil,Nat.zero_add] at hs
 have hso : ∀ z ∈ sortR [] l,okW z:=fun z hz => by
  rcases sortR_mem l [] hz with h | h
  ·simp at h
  ·exact hok z h
 obtain ⟨racc,hra,hre⟩:=sortR_adj l [] trivial
 have hrl : racc.length = l.length:=by rw [← hs,hre,List.length_reverse]
 have hadj : ∀ i : Nat,i + 1 < (sortR [] l).length → ordW (rd_T31 (sortR [] l) (i : Int)) (rd_T31 (sortR [] l) ((i + 1 : Nat) : Int)) ≤ 0:=by
  intro i hi
  rw [hs] at hi
  rw [hre,rdW_rev racc i (by omega),rdW_rev racc (i + 1) (by omega)]
  have:=adj_rd racc hra (racc.length - 1 - (i + 1)) (by omega)
  rw [show racc.length - 1 - (i + 1) + 1 = racc.length - 1 - i by omega] at this
  exact this
 obtain ⟨N,hN⟩ : ∃ N,N = K + 100:=⟨_,rfl⟩
 have lp:=order_loop l (by omega) hok (sortR [] l) hs hso hadj l.length 0 (by omega) N (by omega)
 have i1:=impl_Sort_ev l (by omega) hok (N + 1) (by omega)
 have s1:=hK (N + 1) (by omega)
 refine ⟨N + 2,?_⟩
 simp only [laws_FnOrder.f,if_neg h0,decide_eq_false h1,laws_FnOrder.j0]
 rw [if_neg (by decide),Option.bind_some,e0 (N + 1) (by omega),Option.bind_some,if_pos (by simp;omega),Option.bind_some,e1 (N + 1) (by omega),Option.bind_some,if_pos (by simp;omega),Option.bind_some,← hl,i1,Option.bind_some,s1,Option.bind_some]
 dsimp only
 rw [if_pos rfl,if_pos (by omega),laws_FnOrder.j1,hs,bne_self_eq_false,if_neg (by decide)]
 exact lp
end
section
-- IMPORT Derived.Test.YtcakbenoaclbkaaRows
-- IMPORT Derived.WalkKit
-- IMPORT Derived.ProofKit
-- IMPORT Derived.OpenShut
-- IMPORT Derived.ShutString
-- IMPORT Derived.ChangeOld
-- IMPORT Derived.Below
-- IMPORT Derived.SizedLaws
open Go.ChangeShapes Go.WideShapes Go.ChangeAt
open Go.ChangeMaps (open_string shut_string)
theorem own_FnOrder : ownKnob Try.prog.godebug = none:=by kernel_rfl
theorem laidOut_FnOrder : laidOutB Try.prog = true:=by kernel_rfl
set_option maxHeartbeats 4000000 in
set_option maxRecDepth 100000 in
theorem lifted_FnOrder (os : Os) (started : os.Started) (H : Type) (enc : TypeId × Value → H) :
  ReturnsInHanded {} Try.checked os 8 .any (Rows.fnOrderSpec.pre6 enc Try.prog Try.f8 Rows.fnOrderRow.domain false) (Rows.fnOrderSpec.post enc Try.prog Try.f8 false true false false):=by
 refine returnsInHanded_of_change_sized (C:=Try.checked) own_FnOrder started (by kernel_rfl) Try.func8
  (ChangeSpec.witness6 (enc:=enc) (C:=Try.checked) false ⟨#[],#[.slice none 0 0,.slice none 0 0],[]⟩ 8 (by kernel_rfl) (by kernel_rfl) (by kernel_rfl) (by kernel_rfl)) ?_
 intro W base args ds gs before hval0 hW hcnd hsz0 _
 have hsz : (DataW.weightsEach Try.prog (Try.f8.params.toList ++ Rows.fnOrderSpec.plain.varTypes Try.prog) (ds ++ gs)).all (· ≤ reachBytes) = true:=hsz0
 have hval : ∀ (j : Nat) t v,Try.f8.params[j]? = some t → args[j]? = some v → Value.okWide Try.prog W .any base t v:=hval0
 have hW':=hW
 obtain ⟨p,q,hA0,hV,rfl,hfz,hnd⟩:=hW
 have hA : DataW.TrodAll enc Try.prog W 0 (fun _ => true) true Try.f8.params.toList args.toList ds p:=hA0
 rw [Try.params8] at hA hval hsz
 obtain ⟨v0,vs0,d0,ds0,p0,q0,hargs,rfl,rfl,h0,r0⟩:=trodAll_cons hA
 obtain ⟨v1,vs1,d1,ds1,p1,q1,rfl,rfl,rfl,h1,r1⟩:=trodAll_cons r0
 obtain ⟨rfl,rfl,rfl⟩:=trodAll_nil r1
 obtain rfl : args = #[v0,v1]:=by cases args;simp_all
 obtain ⟨rfl,rfl⟩:=trodVars_none hV
 have k0:=h0
 have lt0 : ∀ x ∈ p0,x.block < W.heap.size:=by obtain ⟨m,hm⟩:=k0;exact DataW.trod_lt m _ _ _ hm
 obtain ⟨A0,n0,c0,rfl⟩:=okWide_slice Try.underlying36 (hval 0 36 v0 rfl rfl)
 obtain ⟨fuel0,hf0⟩:=h0
 obtain ⟨a0,⟨A0',c0',e0,hl0,hc0⟩,w0⟩:=(Opens.slice Try.underlying36 (by kernel_rfl) 1 (by kernel_rfl) (Opens.int Try.underlying5 (by kernel_rfl))).op hf0 (fun n hn => by have z:=List.all_eq_true.1 hsz _ (DataW.weights_mem_each (j:=0) (t:=36) rfl rfl n hn);simpa using z)
 simp only [Value.cells,List.cons.injEq,Value.slice.injEq,and_true] at e0
 obtain ⟨rfl,rfl,rfl⟩:=e0
 have k1:=h1
 have lt1 : ∀ x ∈ p1,x.block < W.heap.size:=by obtain ⟨m,hm⟩:=k1;exact DataW.trod_lt m _ _ _ hm
 obtain ⟨A1,n1,c1,rfl⟩:=okWide_slice Try.underlying36 (hval 1 36 v1 rfl rfl)
 obtain ⟨fuel1,hf1⟩:=h1
 obtain ⟨a1,⟨A1',c1',e1,hl1,hc1⟩,w1⟩:=(Opens.slice Try.underlying36 (by kernel_rfl) 1 (by kernel_rfl) (Opens.int Try.underlying5 (by kernel_rfl))).op hf1 (fun n hn => by have z:=List.all_eq_true.1 hsz _ (DataW.weights_mem_each (j:=1) (t:=36) rfl rfl n hn);simpa using z)
 simp only [Value.cells,List.cons.injEq,Value.slice.injEq,and_true] at e1
 obtain ⟨rfl,rfl,rfl⟩:=e1
 clear hA0 hval0 hsz0 hsz
 obtain ⟨k,hk⟩:=pure_FnOrder a0 a1 w0 w1
 refine (laws_FnOrder.calls k _ _ a0 _ _ a1 true W hc0 hl0 hc1 hl1 hk rfl).mono fun e W' hh => ?_
 obtain ⟨he,bel0⟩:=hh
 have bel : Below W.heap.size W W':=bel0
 subst he
 exact ⟨_,rfl,_,_,_,[],_,[],hW',trodAll_mk1 (shut_bool Try.underlying4 _),(trodAll_cons_mk (Below.trod laidOut_FnOrder (by kernel_rfl) (of_decide_eq_true (by kernel_rfl)) k0 bel lt0) (trodAll_cons_mk (Below.trod laidOut_FnOrder (by kernel_rfl) (of_decide_eq_true (by kernel_rfl)) k1 bel lt1) trodAll_mk0)),rfl,bel.frame _,fun h => by cases h⟩
theorem over_FnOrder : Rows.fnOrderRow.holds Try.pinned (OpenSpec.ofChange Rows.fnOrderSpec) :=
 OpenClaim.holds_of_wide 8 Try.f8 rfl rfl rfl rfl rfl rfl rfl ⟨rfl,rfl,rfl,rfl,rfl⟩ rfl rfl rfl rfl rfl (by kernel_rfl) Try.func8 (by kernel_rfl)
  (of_decide_eq_true (by kernel_rfl)) (by unfold Func.isWrapper;first|(rw [if_pos (by decide +kernel)];kernel_rfl)|(rw [if_neg (by decide +kernel)];exact ⟨rfl,rfl⟩))
  (fun os started H enc _ => lifted_FnOrder os started H enc)
theorem proved_FnOrder : Rows.FnOrderSaid:=over_FnOrder
#print axioms proved_FnOrder
end
end Go.Proofs.Ytcakbenoaclbkaa.X
