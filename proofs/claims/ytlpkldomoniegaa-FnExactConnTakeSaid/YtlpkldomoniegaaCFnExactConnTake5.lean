/- Texts that the row of FnExactConnTake stands on: functions of the program and of the reference, each as a Lean function with the same answers, and the plain lemmas. Conditions: none beside those that each theorem names. -/
import Derived.Test.YtlpkldomoniegaaCFnExactConnTake4
namespace Go.Proofs.Ytlpkldomoniegaa.X
open Go.RowKit Go.Proofs.YtlpkldomoniegaaW.PrintWords Go.Proofs.YtlpkldomoniegaaW.PrintLast Go.Proofs.YtlpkldomoniegaaW.PrintMore
attribute [local go_sem] max2_int min2_int max_two min_two max_three min_three max_four min_four   -- for this text's walks alone
set_option linter.unusedVariables false
set_option linter.unusedSimpArgs false
open Go.Proofs.YtlpkldomoniegaaW.PrintWords renaming blk_drewN -> bDn
open Go.Proofs.YtlpkldomoniegaaW.PrintWords renaming blk_drew -> bDr
open Go.Proofs.YtlpkldomoniegaaW.PrintWords renaming blk_alloc -> bAl
open Go.Proofs.YtlpkldomoniegaaW.PrintWords renaming blk_frozen -> bFr
open Go.Proofs.YtlpkldomoniegaaW.PrintWords renaming blk_cell -> bCe
open Go.Proofs.YtlpkldomoniegaaW.PrintWords.Aside0 renaming mk -> aMk
open Go.World renaming block_lt_of_cell? -> wLt
open Go.Proofs.YtlpkldomoniegaaW.PrintWords renaming pw_below_drewN -> bwN
open Go.Proofs.YtlpkldomoniegaaW.PrintWords renaming below_drew1 -> bw1
open Go.Proofs.YtlpkldomoniegaaW.PrintWords renaming below_alloc -> bwA
section
/-! ### laws_FnExactConnTake: function 16 -/
mutual
def laws_FnExactConnTake.j0:Nat→List (S53)→Int→List (S53)→Bool→ByteArray→Int→Int→Int→Int→Int→Int→Int→ByteArray→ByteArray→Bool→Int→Int→Int→Int→Int→Int→ByteArray→ByteArray→Int→Int→Int→Int→Int→Int→Int→ByteArray→ByteArray→Bool→Option (Bool)
 | 0,_,_,_,_,_,_,_,_,_,_,_,_,_,_,_,_,_,_,_,_,_,_,_,_,_,_,_,_,_,_,_,_,_ => none
 | k + 1,x7,x8,x10,x59,x1310000,x1310001,x1310002,x1310003,x1310004,x1310005,x1310006,x1310007,x1310008,x1310009,x1310010,x1311000,x1311001,x1311002,x1311003,x1311004,x1311005,x1311006,x1347000,x1347001,x1347002,x1347003,x1347004,x1347005,x1347006,x1347007,x1347008,x1347009,x1347010 => if x59 = true then (some false) else ((laws_markSegmentS.f k x10 1).bind fun bt1383 => ((laws_heldSegmentS.f k bt1383.2 1).bind fun t1385 => (if t1385 < 0 then (some false) else (if t1385 = bt1383.1 then ((laws_toConn.f x1310000 x1310001 x1310002 x1310003 x1310004 x1310005 x1310006 x1310007 x1310008 x1310009 x1310010).bind fun bt1386 => ((laws_toSegment.f x1311000 x1311001 x1311002 x1311003 x1311004 x1311005 x1311006).bind fun bt1397 => ((impl_ConnTake.f k bt1386.1 bt1386.2.1 bt1386.2.2.1 bt1386.2.2.2.1 bt1386.2.2.2.2.1 bt1386.2.2.2.2.2.1 bt1386.2.2.2.2.2.2.1 bt1386.2.2.2.2.2.2.2.1 bt1386.2.2.2.2.2.2.2.2.1 bt1386.2.2.2.2.2.2.2.2.2.1 bt1386.2.2.2.2.2.2.2.2.2.2 bt1397.1 bt1397.2.1 bt1397.2.2.1 bt1397.2.2.2.1 bt1397.2.2.2.2.1 bt1397.2.2.2.2.2.1 bt1397.2.2.2.2.2.2).bind fun bt1404 => ((laws_eqConn.f bt1404.1 bt1404.2.1 bt1404.2.2.1 bt1404.2.2.2.1 bt1404.2.2.2.2.1 bt1404.2.2.2.2.2.1 bt1404.2.2.2.2.2.2.1 bt1404.2.2.2.2.2.2.2.1 bt1404.2.2.2.2.2.2.2.2.1 bt1404.2.2.2.2.2.2.2.2.2.1 bt1404.2.2.2.2.2.2.2.2.2.2.1 x1347000 x1347001 x1347002 x1347003 x1347004 x1347005 x1347006 x1347007 x1347008 x1347009 x1347010).bind fun t1420 => (if t1420 = true then ((laws_eqSegmentS.f k bt1404.2.2.2.2.2.2.2.2.2.2.2.1 x7).bind fun t1421 => (if t1421 = true then (laws_FnExactConnTake.j1 k bt1383.2 bt1383.1 (bt1404.2.2.2.2.2.2.2.2.2.2.2.2 != x8)) else (laws_FnExactConnTake.j1 k bt1383.2 bt1383.1 true))) else (laws_FnExactConnTake.j1 k bt1383.2 bt1383.1 true)))))) else (some false)))))
def laws_FnExactConnTake.j1:Nat→List (S53)→Int→Bool→Option (Bool)
 | 0,_,_,_ => none
 | k + 1,x10,x12,x94 => if x94 = true then (some false) else ((laws_heldSegmentS.f k x10 1).bind fun t1422 => (if t1422 < 0 then (some false) else (if t1422 = x12 then (some true) else (some false))))
end
def laws_FnExactConnTake.f (k:Nat) (a0_0:ByteArray) (a0_1 a0_2:Int) (a0_3 a0_4:Int) (a0_5 a0_6 a0_7:Int) (a0_8 a0_9:ByteArray) (a0_10:Bool) (a1_0 a1_1:Int) (a1_2 a1_3:Int) (a1_4 a1_5:Int) (a1_6:ByteArray):Option (Bool):=(laws_szConn.f a0_0 a0_1 a0_2 a0_3 a0_4 a0_5 a0_6 a0_7 a0_8 a0_9 a0_10 1048576).bind fun t1311 => (if t1311 < 0 then (some true) else ((laws_szSegment.f a1_0 a1_1 a1_2 a1_3 a1_4 a1_5 a1_6 t1311).bind fun t1312 => (if t1312 < 0 then (some true) else ((laws_toConn.f a0_0 a0_1 a0_2 a0_3 a0_4 a0_5 a0_6 a0_7 a0_8 a0_9 a0_10).bind fun bt1313 => ((laws_toSegment.f a1_0 a1_1 a1_2 a1_3 a1_4 a1_5 a1_6).bind fun bt1324 => ((spec_ConnTake.f k bt1313.1 bt1313.2.1 bt1313.2.2.1 bt1313.2.2.2.1 bt1313.2.2.2.2.1 bt1313.2.2.2.2.2.1 bt1313.2.2.2.2.2.2.1 bt1313.2.2.2.2.2.2.2.1 bt1313.2.2.2.2.2.2.2.2.1 bt1313.2.2.2.2.2.2.2.2.2.1 bt1313.2.2.2.2.2.2.2.2.2.2 bt1324.1 bt1324.2.1 bt1324.2.2.1 bt1324.2.2.2.1 bt1324.2.2.2.2.1 bt1324.2.2.2.2.2.1 bt1324.2.2.2.2.2.2).bind fun bt1331 => ((laws_toConn.f a0_0 a0_1 a0_2 a0_3 a0_4 a0_5 a0_6 a0_7 a0_8 a0_9 a0_10).bind fun bt1347 => ((laws_toSegment.f a1_0 a1_1 a1_2 a1_3 a1_4 a1_5 a1_6).bind fun bt1358 => ((impl_ConnTake.f k bt1347.1 bt1347.2.1 bt1347.2.2.1 bt1347.2.2.2.1 bt1347.2.2.2.2.1 bt1347.2.2.2.2.2.1 bt1347.2.2.2.2.2.2.1 bt1347.2.2.2.2.2.2.2.1 bt1347.2.2.2.2.2.2.2.2.1 bt1347.2.2.2.2.2.2.2.2.2.1 bt1347.2.2.2.2.2.2.2.2.2.2 bt1358.1 bt1358.2.1 bt1358.2.2.1 bt1358.2.2.2.1 bt1358.2.2.2.2.1 bt1358.2.2.2.2.2.1 bt1358.2.2.2.2.2.2).bind fun bt1365 => ((laws_eqConn.f bt1365.1 bt1365.2.1 bt1365.2.2.1 bt1365.2.2.2.1 bt1365.2.2.2.2.1 bt1365.2.2.2.2.2.1 bt1365.2.2.2.2.2.2.1 bt1365.2.2.2.2.2.2.2.1 bt1365.2.2.2.2.2.2.2.2.1 bt1365.2.2.2.2.2.2.2.2.2.1 bt1365.2.2.2.2.2.2.2.2.2.2.1 bt1331.1 bt1331.2.1 bt1331.2.2.1 bt1331.2.2.2.1 bt1331.2.2.2.2.1 bt1331.2.2.2.2.2.1 bt1331.2.2.2.2.2.2.1 bt1331.2.2.2.2.2.2.2.1 bt1331.2.2.2.2.2.2.2.2.1 bt1331.2.2.2.2.2.2.2.2.2.1 bt1331.2.2.2.2.2.2.2.2.2.2.1).bind fun t1381 => (if t1381 = true then ((laws_eqSegmentS.f k bt1365.2.2.2.2.2.2.2.2.2.2.2.1 bt1331.2.2.2.2.2.2.2.2.2.2.2.1).bind fun t1382 => (if t1382 = true then (laws_FnExactConnTake.j0 k bt1331.2.2.2.2.2.2.2.2.2.2.2.1 bt1331.2.2.2.2.2.2.2.2.2.2.2.2 bt1365.2.2.2.2.2.2.2.2.2.2.2.1 (bt1365.2.2.2.2.2.2.2.2.2.2.2.2 != bt1331.2.2.2.2.2.2.2.2.2.2.2.2) a0_0 a0_1 a0_2 a0_3 a0_4 a0_5 a0_6 a0_7 a0_8 a0_9 a0_10 a1_0 a1_1 a1_2 a1_3 a1_4 a1_5 a1_6 bt1331.1 bt1331.2.1 bt1331.2.2.1 bt1331.2.2.2.1 bt1331.2.2.2.2.1 bt1331.2.2.2.2.2.1 bt1331.2.2.2.2.2.2.1 bt1331.2.2.2.2.2.2.2.1 bt1331.2.2.2.2.2.2.2.2.1 bt1331.2.2.2.2.2.2.2.2.2.1 bt1331.2.2.2.2.2.2.2.2.2.2.1) else (laws_FnExactConnTake.j0 k bt1331.2.2.2.2.2.2.2.2.2.2.2.1 bt1331.2.2.2.2.2.2.2.2.2.2.2.2 bt1365.2.2.2.2.2.2.2.2.2.2.2.1 true a0_0 a0_1 a0_2 a0_3 a0_4 a0_5 a0_6 a0_7 a0_8 a0_9 a0_10 a1_0 a1_1 a1_2 a1_3 a1_4 a1_5 a1_6 bt1331.1 bt1331.2.1 bt1331.2.2.1 bt1331.2.2.2.1 bt1331.2.2.2.2.1 bt1331.2.2.2.2.2.1 bt1331.2.2.2.2.2.2.1 bt1331.2.2.2.2.2.2.2.1 bt1331.2.2.2.2.2.2.2.2.1 bt1331.2.2.2.2.2.2.2.2.2.1 bt1331.2.2.2.2.2.2.2.2.2.2.1))) else (laws_FnExactConnTake.j0 k bt1331.2.2.2.2.2.2.2.2.2.2.2.1 bt1331.2.2.2.2.2.2.2.2.2.2.2.2 bt1365.2.2.2.2.2.2.2.2.2.2.2.1 true a0_0 a0_1 a0_2 a0_3 a0_4 a0_5 a0_6 a0_7 a0_8 a0_9 a0_10 a1_0 a1_1 a1_2 a1_3 a1_4 a1_5 a1_6 bt1331.1 bt1331.2.1 bt1331.2.2.1 bt1331.2.2.2.1 bt1331.2.2.2.2.1 bt1331.2.2.2.2.2.1 bt1331.2.2.2.2.2.2.1 bt1331.2.2.2.2.2.2.2.1 bt1331.2.2.2.2.2.2.2.2.1 bt1331.2.2.2.2.2.2.2.2.2.1 bt1331.2.2.2.2.2.2.2.2.2.2.1))))))))))))
theorem laws_FnExactConnTake.mono_l:∀ k,(∀ y0 y1 y2 y3 y4 y5 y6 y7 y8 y9 y10 y11 y12 y13 y14 y15 y16 y17 y18 y19 y20 y21 y22 y23 y24 y25 y26 y27 y28 y29 y30 y31 y32,LeO (laws_FnExactConnTake.j0 k y0 y1 y2 y3 y4 y5 y6 y7 y8 y9 y10 y11 y12 y13 y14 y15 y16 y17 y18 y19 y20 y21 y22 y23 y24 y25 y26 y27 y28 y29 y30 y31 y32) (laws_FnExactConnTake.j0 (k + 1) y0 y1 y2 y3 y4 y5 y6 y7 y8 y9 y10 y11 y12 y13 y14 y15 y16 y17 y18 y19 y20 y21 y22 y23 y24 y25 y26 y27 y28 y29 y30 y31 y32))∧(∀ y0 y1 y2,LeO (laws_FnExactConnTake.j1 k y0 y1 y2) (laws_FnExactConnTake.j1 (k + 1) y0 y1 y2))
 | 0 => ⟨fun _ _ _ _ _ _ _ _ _ _ _ _ _ _ _ _ _ _ _ _ _ _ _ _ _ _ _ _ _ _ _ _ _ r h => by simp [laws_FnExactConnTake.j0] at h,fun _ _ _ r h => by simp [laws_FnExactConnTake.j1] at h⟩
 | k + 1 => by
  obtain ⟨ih0,ih1⟩:=laws_FnExactConnTake.mono_l k
  refine ⟨?_,?_⟩
  ·intro y0 y1 y2 y3 y4 y5 y6 y7 y8 y9 y10 y11 y12 y13 y14 y15 y16 y17 y18 y19 y20 y21 y22 y23 y24 y25 y26 y27 y28 y29 y30 y31 y32
   unfold laws_FnExactConnTake.j0
   repeat' first
   | (with_reducible exact ih0 _ _ _ _ _ _ _ _ _ _ _ _ _ _ _ _ _ _ _ _ _ _ _ _ _ _ _ _ _ _ _ _ _)
   | (with_reducible exact ih1 _ _ _)
   | (with_reducible exact impl_ConnTake.mono ..)
   | (with_reducible exact laws_eqSegmentS.mono ..)
   | (with_reducible exact laws_heldSegmentS.mono ..)
   | (with_reducible exact laws_markSegmentS.mono ..)
   | (with_reducible exact spec_ConnTake.mono ..)
   | (with_reducible exact LeO.refl _)
   | (with_reducible exact LeO.none _)
   | (with_reducible refine LeO.ite ?_ ?_)
   | (with_reducible refine LeO.bind ?_ (fun _ => ?_))
   | exact ih0 _ _ _ _ _ _ _ _ _ _ _ _ _ _ _ _ _ _ _ _ _ _ _ _ _ _ _ _ _ _ _ _ _
   | exact ih1 _ _ _
   | exact impl_ConnTake.mono ..
   | exact laws_eqSegmentS.mono ..
   | exact laws_heldSegmentS.mono ..
   | exact laws_markSegmentS.mono ..
   | exact spec_ConnTake.mono ..
   | exact LeO.none _
   | refine LeO.ite ?_ ?_
   | refine LeO.bind ?_ (fun _ => ?_)
  ·intro y0 y1 y2
   unfold laws_FnExactConnTake.j1
   repeat' first
   | (with_reducible exact ih0 _ _ _ _ _ _ _ _ _ _ _ _ _ _ _ _ _ _ _ _ _ _ _ _ _ _ _ _ _ _ _ _ _)
   | (with_reducible exact ih1 _ _ _)
   | (with_reducible exact impl_ConnTake.mono ..)
   | (with_reducible exact laws_eqSegmentS.mono ..)
   | (with_reducible exact laws_heldSegmentS.mono ..)
   | (with_reducible exact laws_markSegmentS.mono ..)
   | (with_reducible exact spec_ConnTake.mono ..)
   | (with_reducible exact LeO.refl _)
   | (with_reducible exact LeO.none _)
   | (with_reducible refine LeO.ite ?_ ?_)
   | (with_reducible refine LeO.bind ?_ (fun _ => ?_))
   | exact ih0 _ _ _ _ _ _ _ _ _ _ _ _ _ _ _ _ _ _ _ _ _ _ _ _ _ _ _ _ _ _ _ _ _
   | exact ih1 _ _ _
   | exact impl_ConnTake.mono ..
   | exact laws_eqSegmentS.mono ..
   | exact laws_heldSegmentS.mono ..
   | exact laws_markSegmentS.mono ..
   | exact spec_ConnTake.mono ..
   | exact LeO.none _
   | refine LeO.ite ?_ ?_
   | refine LeO.bind ?_ (fun _ => ?_)
theorem laws_FnExactConnTake.mono:∀ a0 a1 a2 a3 a4 a5 a6 a7 a8 a9 a10 a11 a12 a13 a14 a15 a16 a17 k,LeO (laws_FnExactConnTake.f k a0 a1 a2 a3 a4 a5 a6 a7 a8 a9 a10 a11 a12 a13 a14 a15 a16 a17) (laws_FnExactConnTake.f (k + 1) a0 a1 a2 a3 a4 a5 a6 a7 a8 a9 a10 a11 a12 a13 a14 a15 a16 a17):=by
 intro a0 a1 a2 a3 a4 a5 a6 a7 a8 a9 a10 a11 a12 a13 a14 a15 a16 a17 k
 obtain ⟨ih0,ih1⟩:=laws_FnExactConnTake.mono_l k
 unfold laws_FnExactConnTake.f
 repeat' first
   | (with_reducible exact ih0 _ _ _ _ _ _ _ _ _ _ _ _ _ _ _ _ _ _ _ _ _ _ _ _ _ _ _ _ _ _ _ _ _)
   | (with_reducible exact ih1 _ _ _)
   | (with_reducible exact impl_ConnTake.mono ..)
   | (with_reducible exact laws_eqSegmentS.mono ..)
   | (with_reducible exact laws_heldSegmentS.mono ..)
   | (with_reducible exact laws_markSegmentS.mono ..)
   | (with_reducible exact spec_ConnTake.mono ..)
   | (with_reducible exact LeO.refl _)
   | (with_reducible exact LeO.none _)
   | (with_reducible refine LeO.ite ?_ ?_)
   | (with_reducible refine LeO.bind ?_ (fun _ => ?_))
   | exact ih0 _ _ _ _ _ _ _ _ _ _ _ _ _ _ _ _ _ _ _ _ _ _ _ _ _ _ _ _ _ _ _ _ _
   | exact ih1 _ _ _
   | exact impl_ConnTake.mono ..
   | exact laws_eqSegmentS.mono ..
   | exact laws_heldSegmentS.mono ..
   | exact laws_markSegmentS.mono ..
   | exact spec_ConnTake.mono ..
   | exact LeO.none _
   | refine LeO.ite ?_ ?_
   | refine LeO.bind ?_ (fun _ => ?_)
def laws_FnExactConnTake.T8:Bool × List (List Nat × List Nat):=(true,[([],[]),([0],[0]),([],[]),([2,1],[2]),([1,3,3],[1,3]),([4],[4]),([5],[5]),([5],[5]),([5],[5]),([],[]),([9,6,4,0,1,2,3,4,5,6,9],[6,9]),([7,10,0,1,2,3,4,5,6,7,9,10],[7]),([8,11,0,1,2,3,4,5,6,7,8,9,10,11],[8])])
def laws_FnExactConnTake.B8:List Nat:=[0,1,0,7,15,31,63,63,63,0,639,1791,4095]
theorem laws_FnExactConnTake.tab8:rtab .any (opsOf Try.f16 8) = laws_FnExactConnTake.T8:=by kernel_rfl
theorem laws_FnExactConnTake.bits8:waitsOk laws_FnExactConnTake.T8.2 laws_FnExactConnTake.B8 = true:=by kernel_rfl
def laws_FnExactConnTake.T9:Bool × List (List Nat × List Nat):=(true,[([],[]),([0],[0]),([],[]),([2,1],[2]),([1,3,3],[1,3]),([4],[4]),([5],[5]),([5],[5]),([5],[5]),([],[]),([9,6,4,0,1,2,3,4,5,6,9],[6,9]),([7,10,0,1,2,3,4,5,6,7,9,10],[7]),([8,11,0,1,2,3,4,5,6,7,8,9,10,11],[8])])
def laws_FnExactConnTake.B9:List Nat:=[0,1,0,7,15,31,63,63,63,0,639,1791,4095]
theorem laws_FnExactConnTake.tab9:rtab .any (opsOf Try.f16 9) = laws_FnExactConnTake.T9:=by kernel_rfl
theorem laws_FnExactConnTake.bits9:waitsOk laws_FnExactConnTake.T9.2 laws_FnExactConnTake.B9 = true:=by kernel_rfl
def laws_FnExactConnTake.T20:Bool × List (List Nat × List Nat):=(true,[([],[]),([0],[0]),([],[]),([2,1],[2]),([1,3,3],[1,3]),([4],[4]),([5],[5]),([5],[5]),([5],[5]),([],[]),([9,6,4,0,1,2,3,4,5,6,9],[6,9]),([7,10,0,1,2,3,4,5,6,7,9,10],[7]),([8,11,0,1,2,3,4,5,6,7,8,9,10,11],[8])])
def laws_FnExactConnTake.B20:List Nat:=[0,1,0,7,15,31,63,63,63,0,639,1791,4095]
theorem laws_FnExactConnTake.tab20:rtab .any (opsOf Try.f16 20) = laws_FnExactConnTake.T20:=by kernel_rfl
theorem laws_FnExactConnTake.bits20:waitsOk laws_FnExactConnTake.T20.2 laws_FnExactConnTake.B20 = true:=by kernel_rfl
set_option maxHeartbeats 8000000 in
set_option maxRecDepth 100000 in
theorem laws_FnExactConnTake.calls (k:Nat) (a0_0:ByteArray) (a0_1 a0_2:Int) (a0_3 a0_4:Int) (a0_5 a0_6 a0_7:Int) (a0_8 a0_9:ByteArray) (a0_10:Bool) (a1_0 a1_1:Int) (a1_2 a1_3:Int) (a1_4 a1_5:Int) (a1_6:ByteArray) (r:Bool) (w:World) (h:laws_FnExactConnTake.f k a0_0 a0_1 a0_2 a0_3 a0_4 a0_5 a0_6 a0_7 a0_8 a0_9 a0_10 a1_0 a1_1 a1_2 a1_3 a1_4 a1_5 a1_6 = some r) :
  Calls Try.prog 16 #[.agg #[.string a0_0,.int .i64 a0_1,.int .i64 a0_2,.int .i64 a0_3,.int .i64 a0_4,.int .i64 a0_5,.int .i64 a0_6,.int .i64 a0_7,.string a0_8,.string a0_9,.bool a0_10],.agg #[.int .i64 a1_0,.int .i64 a1_1,.int .i64 a1_2,.int .i64 a1_3,.int .i64 a1_4,.int .i64 a1_5,.string a1_6]] w fun e w' => e = .returned (.bool r)∧Below w.heap.size w w':=by
 have hu31:=Try.underlying31
 have hu48:=Try.underlying48
 have hu34:=Try.underlying34
 have HB:=aMk (Below.refl w.heap.size w)
 have H:=h
 unfold laws_FnExactConnTake.f at H
 clear h
 replace H:=Option.bind_eq_some_iff.mp H
 obtain ⟨t1311,A30,H⟩:=H
 try dsimp only at H
 have A3:=aMk A30
 clear A30
 by_cases c4:t1311 < 0
 ·rw [if_pos c4] at H
  have c4b0:decide (t1311 < 0) = true:=decide_eq_true c4
  clear c4
  obtain rfl:=Option.some.inj H
  go_enter Try.func16,Try.ntmps16
  go_wp2_with (first|((with_reducible refine gate_dst (N:=2) rfl ?_);refine bxE (N:=2) (cs:=#[.string a0_0,.int .i64 a0_1,.int .i64 a0_2,.int .i64 a0_3,.int .i64 a0_4,.int .i64 a0_5,.int .i64 a0_6,.int .i64 a0_7,.string a0_8,.string a0_9,.bool a0_10]) (t:=31) ?_;intro gb1309 hg w5 hbox hb;have BK1309:=aMk (hbox);have GW1309:=aMk (bZ hg);have GE1309:=aMk (bZ hg);replace HB:=aMk (bSt hb);clear hb hbox hg)|((with_reducible refine gate_dst (N:=3) rfl ?_);refine bxE (N:=3) (cs:=#[.int .i64 a1_0,.int .i64 a1_1,.int .i64 a1_2,.int .i64 a1_3,.int .i64 a1_4,.int .i64 a1_5,.string a1_6]) (t:=48) ?_;intro gb1310 hg w6 hbox hb;have BK1310:=aMk (hbox);have GW1310:=aMk (bG bW hg);have GE1310:=aMk (bG bW hg);replace HB:=aMk (bU hb);have NB1309_1310:=aMk ((bkL BK1309.out hg:gb1309 ≠ gb1310));have NB1310_1309:=aMk ((bkG BK1309.out hg:gb1310 ≠ gb1309));replace BK1309:=aMk (bkB BK1309.out hb);clear hb hbox hg;have hnb7:=NB1309_1310.out;have hnc7:=NB1310_1309.out;obtain ⟨Z8_0,Z8_1,Z8_2,Z8_3,Z8_4,Z8_5,Z8_6,Z8_7,Z8_8,Z8_9,Z8_10,Y8_0,Y8_1,Y8_2,Y8_3,Y8_4,Y8_5,Y8_6,Y8_7,Y8_8,Y8_9,Y8_10⟩:=bC11 BK1309.out)|((with_reducible refine gate_callee (f:=22) rfl ?_);refine gLs 19 Try.func22 #[.agg #[.string a0_0,.int .i64 a0_1,.int .i64 a0_2,.int .i64 a0_3,.int .i64 a0_4,.int .i64 a0_5,.int .i64 a0_6,.int .i64 a0_7,.string a0_8,.string a0_9,.bool a0_10],.int .i64 1048576] ?_;(with_reducible refine (laws_szConn.calls a0_0 a0_1 a0_2 a0_3 a0_4 a0_5 a0_6 a0_7 a0_8 a0_9 a0_10 1048576 t1311 _ A3.out).mono ?_);rintro e w9 ⟨rfl,hb⟩;refine ⟨_,rfl,?_⟩;replace BK1309:=aMk (bkB BK1309.out hb);replace BK1310:=aMk (bkB BK1310.out hb);replace HB:=aMk (bU hb)))
  go_ret
  exact ⟨eRf,bW⟩
 ·rw [if_neg c4] at H
  have c4b0:decide (t1311 < 0) = false:=decide_eq_false c4
  clear c4
  replace H:=Option.bind_eq_some_iff.mp H
  obtain ⟨t1312,A100,H⟩:=H
  try dsimp only at H
  have A10:=aMk A100
  clear A100
  by_cases c11:t1312 < 0
  ·rw [if_pos c11] at H
   have c11b0:decide (t1312 < 0) = true:=decide_eq_true c11
   clear c11
   obtain rfl:=Option.some.inj H
   go_enter Try.func16,Try.ntmps16
   go_wp2_with (first|((with_reducible refine gate_dst (N:=2) rfl ?_);refine bxE (N:=2) (cs:=#[.string a0_0,.int .i64 a0_1,.int .i64 a0_2,.int .i64 a0_3,.int .i64 a0_4,.int .i64 a0_5,.int .i64 a0_6,.int .i64 a0_7,.string a0_8,.string a0_9,.bool a0_10]) (t:=31) ?_;intro gb1309 hg w12 hbox hb;have BK1309:=aMk (hbox);have GW1309:=aMk (bZ hg);have GE1309:=aMk (bZ hg);replace HB:=aMk (bSt hb);clear hb hbox hg)|((with_reducible refine gate_dst (N:=3) rfl ?_);refine bxE (N:=3) (cs:=#[.int .i64 a1_0,.int .i64 a1_1,.int .i64 a1_2,.int .i64 a1_3,.int .i64 a1_4,.int .i64 a1_5,.string a1_6]) (t:=48) ?_;intro gb1310 hg w13 hbox hb;have BK1310:=aMk (hbox);have GW1310:=aMk (bG bW hg);have GE1310:=aMk (bG bW hg);replace HB:=aMk (bU hb);have NB1309_1310:=aMk ((bkL BK1309.out hg:gb1309 ≠ gb1310));have NB1310_1309:=aMk ((bkG BK1309.out hg:gb1310 ≠ gb1309));replace BK1309:=aMk (bkB BK1309.out hb);clear hb hbox hg;have hnb14:=NB1309_1310.out;have hnc14:=NB1310_1309.out;obtain ⟨Z15_0,Z15_1,Z15_2,Z15_3,Z15_4,Z15_5,Z15_6,Z15_7,Z15_8,Z15_9,Z15_10,Y15_0,Y15_1,Y15_2,Y15_3,Y15_4,Y15_5,Y15_6,Y15_7,Y15_8,Y15_9,Y15_10⟩:=bC11 BK1309.out)|((with_reducible refine gate_callee (f:=22) rfl ?_);refine gLs 19 Try.func22 #[.agg #[.string a0_0,.int .i64 a0_1,.int .i64 a0_2,.int .i64 a0_3,.int .i64 a0_4,.int .i64 a0_5,.int .i64 a0_6,.int .i64 a0_7,.string a0_8,.string a0_9,.bool a0_10],.int .i64 1048576] ?_;(with_reducible refine (laws_szConn.calls a0_0 a0_1 a0_2 a0_3 a0_4 a0_5 a0_6 a0_7 a0_8 a0_9 a0_10 1048576 t1311 _ A3.out).mono ?_);rintro e w16 ⟨rfl,hb⟩;refine ⟨_,rfl,?_⟩;replace BK1309:=aMk (bkB BK1309.out hb);replace BK1310:=aMk (bkB BK1310.out hb);replace HB:=aMk (bU hb);obtain ⟨Z17_0,Z17_1,Z17_2,Z17_3,Z17_4,Z17_5,Z17_6,Y17_0,Y17_1,Y17_2,Y17_3,Y17_4,Y17_5,Y17_6⟩:=bC7 BK1310.out)|((with_reducible refine gate_callee (f:=33) rfl ?_);refine gLs 24 Try.func33 #[.agg #[.int .i64 a1_0,.int .i64 a1_1,.int .i64 a1_2,.int .i64 a1_3,.int .i64 a1_4,.int .i64 a1_5,.string a1_6],.int .i64 t1311] ?_;(with_reducible refine (laws_szSegment.calls a1_0 a1_1 a1_2 a1_3 a1_4 a1_5 a1_6 t1311 t1312 _ A10.out).mono ?_);rintro e w18 ⟨rfl,hb⟩;refine ⟨_,rfl,?_⟩;replace BK1309:=aMk (bkB BK1309.out hb);replace BK1310:=aMk (bkB BK1310.out hb);replace HB:=aMk (bU hb)))
   go_ret
   exact ⟨eRf,bW⟩
  ·rw [if_neg c11] at H
   have c11b0:decide (t1312 < 0) = false:=decide_eq_false c11
   clear c11
   replace H:=Option.bind_eq_some_iff.mp H
   obtain ⟨⟨t1313,t1314,t1315,t1316,t1317,t1318,t1319,t1320,t1321,t1322,t1323⟩,A190,H⟩:=H
   try dsimp only at H
   have A19:=aMk A190
   clear A190
   replace H:=Option.bind_eq_some_iff.mp H
   obtain ⟨⟨t1324,t1325,t1326,t1327,t1328,t1329,t1330⟩,A200,H⟩:=H
   try dsimp only at H
   have A20:=aMk A200
   clear A200
   replace H:=Option.bind_eq_some_iff.mp H
   obtain ⟨⟨t1331,t1332,t1333,t1334,t1335,t1336,t1337,t1338,t1339,t1340,t1341,t1342,t1345⟩,A210,H⟩:=H
   try dsimp only at H
   have A21:=aMk A210
   clear A210
   replace H:=Option.bind_eq_some_iff.mp H
   obtain ⟨⟨t1347,t1348,t1349,t1350,t1351,t1352,t1353,t1354,t1355,t1356,t1357⟩,A220,H⟩:=H
   try dsimp only at H
   have A22:=aMk A220
   clear A220
   replace H:=Option.bind_eq_some_iff.mp H
   obtain ⟨⟨t1358,t1359,t1360,t1361,t1362,t1363,t1364⟩,A230,H⟩:=H
   try dsimp only at H
   have A23:=aMk A230
   clear A230
   replace H:=Option.bind_eq_some_iff.mp H
   obtain ⟨⟨t1365,t1366,t1367,t1368,t1369,t1370,t1371,t1372,t1373,t1374,t1375,t1376,t1379⟩,A240,H⟩:=H
   try dsimp only at H
   have A24:=aMk A240
   clear A240
   have HC25:=aMk H
   clear H
   go_enter Try.func16,Try.ntmps16
   try go_wp2_with (first|((with_reducible refine gate_dst (N:=2) rfl ?_);refine bxE (N:=2) (cs:=#[.string a0_0,.int .i64 a0_1,.int .i64 a0_2,.int .i64 a0_3,.int .i64 a0_4,.int .i64 a0_5,.int .i64 a0_6,.int .i64 a0_7,.string a0_8,.string a0_9,.bool a0_10]) (t:=31) ?_;intro gb1309 hg w26 hbox hb;have BK1309:=aMk (hbox);have GW1309:=aMk (bZ hg);have GE1309:=aMk (bZ hg);replace HB:=aMk (bSt hb);clear hb hbox hg)|((with_reducible refine gate_dst (N:=3) rfl ?_);refine bxE (N:=3) (cs:=#[.int .i64 a1_0,.int .i64 a1_1,.int .i64 a1_2,.int .i64 a1_3,.int .i64 a1_4,.int .i64 a1_5,.string a1_6]) (t:=48) ?_;intro gb1310 hg w27 hbox hb;have BK1310:=aMk (hbox);have GW1310:=aMk (bG bW hg);have GE1310:=aMk (bG bW hg);replace HB:=aMk (bU hb);have NB1309_1310:=aMk ((bkL BK1309.out hg:gb1309 ≠ gb1310));have NB1310_1309:=aMk ((bkG BK1309.out hg:gb1310 ≠ gb1309));replace BK1309:=aMk (bkB BK1309.out hb);clear hb hbox hg;have hnb28:=NB1309_1310.out;have hnc28:=NB1310_1309.out;obtain ⟨Z29_0,Z29_1,Z29_2,Z29_3,Z29_4,Z29_5,Z29_6,Z29_7,Z29_8,Z29_9,Z29_10,Y29_0,Y29_1,Y29_2,Y29_3,Y29_4,Y29_5,Y29_6,Y29_7,Y29_8,Y29_9,Y29_10⟩:=bC11 BK1309.out)|((with_reducible refine gate_callee (f:=22) rfl ?_);refine gLs 19 Try.func22 #[.agg #[.string a0_0,.int .i64 a0_1,.int .i64 a0_2,.int .i64 a0_3,.int .i64 a0_4,.int .i64 a0_5,.int .i64 a0_6,.int .i64 a0_7,.string a0_8,.string a0_9,.bool a0_10],.int .i64 1048576] ?_;(with_reducible refine (laws_szConn.calls a0_0 a0_1 a0_2 a0_3 a0_4 a0_5 a0_6 a0_7 a0_8 a0_9 a0_10 1048576 t1311 _ A3.out).mono ?_);rintro e w30 ⟨rfl,hb⟩;refine ⟨_,rfl,?_⟩;replace BK1309:=aMk (bkB BK1309.out hb);replace BK1310:=aMk (bkB BK1310.out hb);replace HB:=aMk (bU hb);obtain ⟨Z31_0,Z31_1,Z31_2,Z31_3,Z31_4,Z31_5,Z31_6,Y31_0,Y31_1,Y31_2,Y31_3,Y31_4,Y31_5,Y31_6⟩:=bC7 BK1310.out)|((with_reducible refine gate_callee (f:=33) rfl ?_);refine gLs 24 Try.func33 #[.agg #[.int .i64 a1_0,.int .i64 a1_1,.int .i64 a1_2,.int .i64 a1_3,.int .i64 a1_4,.int .i64 a1_5,.string a1_6],.int .i64 t1311] ?_;(with_reducible refine (laws_szSegment.calls a1_0 a1_1 a1_2 a1_3 a1_4 a1_5 a1_6 t1311 t1312 _ A10.out).mono ?_);rintro e w32 ⟨rfl,hb⟩;refine ⟨_,rfl,?_⟩;replace BK1309:=aMk (bkB BK1309.out hb);replace BK1310:=aMk (bkB BK1310.out hb);replace HB:=aMk (bU hb)))
   replace BK1309:=aMk (bDr BK1309.out)
   replace BK1310:=aMk (bDr BK1310.out)
   replace HB:=aMk (bw1 HB.out)
   refine start_ (n:=13) (S:=fun w' => w'.cell? ⟨gb1309,0,none⟩ = some (.string a0_0)∧w'.cell? ⟨gb1309,1,none⟩ = some (.int .i64 a0_1)∧w'.cell? ⟨gb1309,2,none⟩ = some (.int .i64 a0_2)∧w'.cell? ⟨gb1309,3,none⟩ = some (.int .i64 a0_3)∧w'.cell? ⟨gb1309,4,none⟩ = some (.int .i64 a0_4)∧w'.cell? ⟨gb1309,5,none⟩ = some (.int .i64 a0_5)∧w'.cell? ⟨gb1309,6,none⟩ = some (.int .i64 a0_6)∧w'.cell? ⟨gb1309,7,none⟩ = some (.int .i64 a0_7)∧w'.cell? ⟨gb1309,8,none⟩ = some (.string a0_8)∧w'.cell? ⟨gb1309,9,none⟩ = some (.string a0_9)∧w'.cell? ⟨gb1309,10,none⟩ = some (.bool a0_10)∧w'.cell? ⟨gb1310,0,none⟩ = some (.int .i64 a1_0)∧w'.cell? ⟨gb1310,1,none⟩ = some (.int .i64 a1_1)∧w'.cell? ⟨gb1310,2,none⟩ = some (.int .i64 a1_2)∧w'.cell? ⟨gb1310,3,none⟩ = some (.int .i64 a1_3)∧w'.cell? ⟨gb1310,4,none⟩ = some (.int .i64 a1_4)∧w'.cell? ⟨gb1310,5,none⟩ = some (.int .i64 a1_5)∧w'.cell? ⟨gb1310,6,none⟩ = some (.string a1_6)) (ds:=[]) #[false,false,false,false,false,false,false,false,false,false,false,false,false] (by kernel_rfl) rfl rfl (ca11 BK1309.out (cz7 BK1310.out)) (fun hHeld => ?_);refine with_tabW laws_FnExactConnTake.tab8 laws_FnExactConnTake.bits8 (fun HT_ HW_ => ?_)
   generalize w32.drew = w33 at BK1309 BK1310 HB hHeld ⊢
   refine tU18 (i:=0) (N:=some 28) #[true,false,false,false,false,false,false,false,false,false,false,false,false] (take_ofW HT_.out HW_.out (by kernel_rfl)) hHeld ?_
   refine tU18 (i:=2) (N:=some 30) #[true,false,true,false,false,false,false,false,false,false,false,false,false] (take_ofW HT_.out HW_.out (by kernel_rfl)) hHeld ?_
   refine join_ (σ:=Value × Nat) 3 #[true,true,true,true,true,true,true,true,true,true,false,false,false] (fun s_ => [(29,.agg #[.string t1313,.int .i64 t1314,.int .i64 t1315,.int .i64 t1316,.int .i64 t1317,.int .i64 t1318,.int .i64 t1319,.int .i64 t1320,.string t1321,.string t1322,.bool t1323]),(31,.agg #[.int .i64 t1324,.int .i64 t1325,.int .i64 t1326,.int .i64 t1327,.int .i64 t1328,.int .i64 t1329,.string t1330]),(32,.tuple #[.agg #[.string t1331,.int .i64 t1332,.int .i64 t1333,.int .i64 t1334,.int .i64 t1335,.int .i64 t1336,.int .i64 t1337,.int .i64 t1338,.string t1339,.string t1340,.bool t1341],s_.1,.int .i64 t1345]),(6,.pointer (some ⟨s_.2,0,none⟩)),(27,.tuple #[.agg #[.string t1331,.int .i64 t1332,.int .i64 t1333,.int .i64 t1334,.int .i64 t1335,.int .i64 t1336,.int .i64 t1337,.int .i64 t1338,.string t1339,.string t1340,.bool t1341],s_.1,.int .i64 t1345]),(33,.agg #[.string t1331,.int .i64 t1332,.int .i64 t1333,.int .i64 t1334,.int .i64 t1335,.int .i64 t1336,.int .i64 t1337,.int .i64 t1338,.string t1339,.string t1340,.bool t1341]),(34,s_.1),(35,.int .i64 t1345)]) (fun s_ w' => (w'.cell? ⟨gb1309,0,none⟩ = some (.string a0_0)∧w'.cell? ⟨gb1309,1,none⟩ = some (.int .i64 a0_1)∧w'.cell? ⟨gb1309,2,none⟩ = some (.int .i64 a0_2)∧w'.cell? ⟨gb1309,3,none⟩ = some (.int .i64 a0_3)∧w'.cell? ⟨gb1309,4,none⟩ = some (.int .i64 a0_4)∧w'.cell? ⟨gb1309,5,none⟩ = some (.int .i64 a0_5)∧w'.cell? ⟨gb1309,6,none⟩ = some (.int .i64 a0_6)∧w'.cell? ⟨gb1309,7,none⟩ = some (.int .i64 a0_7)∧w'.cell? ⟨gb1309,8,none⟩ = some (.string a0_8)∧w'.cell? ⟨gb1309,9,none⟩ = some (.string a0_9)∧w'.cell? ⟨gb1309,10,none⟩ = some (.bool a0_10)∧w'.cell? ⟨gb1310,0,none⟩ = some (.int .i64 a1_0)∧w'.cell? ⟨gb1310,1,none⟩ = some (.int .i64 a1_1)∧w'.cell? ⟨gb1310,2,none⟩ = some (.int .i64 a1_2)∧w'.cell? ⟨gb1310,3,none⟩ = some (.int .i64 a1_3)∧w'.cell? ⟨gb1310,4,none⟩ = some (.int .i64 a1_4)∧w'.cell? ⟨gb1310,5,none⟩ = some (.int .i64 a1_5)∧w'.cell? ⟨gb1310,6,none⟩ = some (.string a1_6))∧(Kd.R k53 53 w' w.heap.size (fun _ => True) s_.1 t1342)∧(w'.heap[gb1309]? = some (.cells #[.string a0_0,.int .i64 a0_1,.int .i64 a0_2,.int .i64 a0_3,.int .i64 a0_4,.int .i64 a0_5,.int .i64 a0_6,.int .i64 a0_7,.string a0_8,.string a0_9,.bool a0_10] 31 (0,0)))∧(w'.heap[gb1310]? = some (.cells #[.int .i64 a1_0,.int .i64 a1_1,.int .i64 a1_2,.int .i64 a1_3,.int .i64 a1_4,.int .i64 a1_5,.string a1_6] 48 (0,0)))∧(w'.heap[s_.2]? = some (.cells #[.string (⟨#[]⟩:ByteArray),.int .i64 0,.int .i64 0,.int .i64 0,.int .i64 0,.int .i64 0,.int .i64 0,.int .i64 0,.string (⟨#[]⟩:ByteArray),.string (⟨#[]⟩:ByteArray),.bool false] 34 (0,0)))∧(w.heap.size≤s_.2)∧(w.heap.size≤s_.2)∧(gb1309 ≠ s_.2)∧(s_.2 ≠ gb1309)∧(gb1310 ≠ s_.2)∧(s_.2 ≠ gb1310)∧(Below w.heap.size w w')) ?_ ?_
   rotate_left
   ·intro hCont
    refine two_ (i:=1) (j:=9) (Ni:=some 29) (Nj:=some 6) #[true,true,true,false,false,false,false,false,false,false,false,false,false] #[true,false,true,false,false,false,false,false,false,true,false,false,false] rfl rfl rfl rfl (two_of HT_.out (by kernel_rfl)) (by decide) (by decide) (fun K hK => ?_) (fun K hK => ?_)
    ·skip
     refine goes_ Try.func24 (by kernel_rfl) rfl #[.agg #[.string a0_0,.int .i64 a0_1,.int .i64 a0_2,.int .i64 a0_3,.int .i64 a0_4,.int .i64 a0_5,.int .i64 a0_6,.int .i64 a0_7,.string a0_8,.string a0_9,.bool a0_10]] (by rfl) rfl rfl (by (try simp only [List.map_toArray,List.map_cons,List.map_nil]);first | done | rfl|(simp only [List.length_drop,List.length_take];rfl)) ?_
     with_reducible refine (laws_toConn.calls a0_0 a0_1 a0_2 a0_3 a0_4 a0_5 a0_6 a0_7 a0_8 a0_9 a0_10 t1313 t1314 t1315 t1316 t1317 t1318 t1319 t1320 t1321 t1322 t1323 _ A19.out).mono ?_
     rintro e w34 ⟨rfl,hb⟩
     refine ⟨_,rfl,?_⟩
     replace BK1309:=aMk (bkB BK1309.out hb)
     replace BK1310:=aMk (bkB BK1310.out hb)
     replace HB:=aMk (bU hb)
     (try clear hb)
     (try clear hb2)
     (try clear hk)
     (try clear hi)
     refine hK.out _ _ (ca11 BK1309.out (cz7 BK1310.out)) (fun hHeld => ?_)
     clear hK K
     refine norm_ (a':=?_) ?_ ?_
     rotate_left
     ·show Act.put _ (some 29) _ = _
      simp only [Act.put,List.setIfInBounds_toArray,List.set_cons_zero,List.set_cons_succ,i64_w,i32_w]
      rfl
     refine two_ (i:=3) (j:=9) (Ni:=some 31) (Nj:=some 6) #[true,true,true,true,false,false,false,false,false,false,false,false,false] #[true,true,true,false,false,false,false,false,false,true,false,false,false] rfl rfl rfl rfl (two_of HT_.out (by kernel_rfl)) (by decide) (by decide) (fun K hK => ?_) (fun K hK => ?_)
     ·skip
      refine goes_ Try.func35 (by kernel_rfl) rfl #[.agg #[.int .i64 a1_0,.int .i64 a1_1,.int .i64 a1_2,.int .i64 a1_3,.int .i64 a1_4,.int .i64 a1_5,.string a1_6]] (by rfl) rfl rfl (by (try simp only [List.map_toArray,List.map_cons,List.map_nil]);first | done | rfl|(simp only [List.length_drop,List.length_take];rfl)) ?_
      with_reducible refine (laws_toSegment.calls a1_0 a1_1 a1_2 a1_3 a1_4 a1_5 a1_6 t1324 t1325 t1326 t1327 t1328 t1329 t1330 _ A20.out).mono ?_
      rintro e w35 ⟨rfl,hb⟩
      refine ⟨_,rfl,?_⟩
      replace BK1309:=aMk (bkB BK1309.out hb)
      replace BK1310:=aMk (bkB BK1310.out hb)
      replace HB:=aMk (bU hb)
      (try clear hb)
      (try clear hb2)
      (try clear hk)
      (try clear hi)
      refine hK.out _ _ (ca11 BK1309.out (cz7 BK1310.out)) (fun hHeld => ?_)
      clear hK K
      refine norm_ (a':=?_) ?_ ?_
      rotate_left
      ·show Act.put _ (some 31) _ = _
       simp only [Act.put,List.setIfInBounds_toArray,List.set_cons_zero,List.set_cons_succ,i64_w,i32_w]
       rfl
      refine two_ (i:=4) (j:=9) (Ni:=some 32) (Nj:=some 6) #[true,true,true,true,true,false,false,false,false,false,false,false,false] #[true,true,true,true,false,false,false,false,false,true,false,false,false] rfl rfl rfl rfl (two_of HT_.out (by kernel_rfl)) (by decide) (by decide) (fun K hK => ?_) (fun K hK => ?_)
      ·skip
       refine goes_ Try.func57 (by kernel_rfl) rfl #[.agg #[.string t1313,.int .i64 t1314,.int .i64 t1315,.int .i64 t1316,.int .i64 t1317,.int .i64 t1318,.int .i64 t1319,.int .i64 t1320,.string t1321,.string t1322,.bool t1323],.agg #[.int .i64 t1324,.int .i64 t1325,.int .i64 t1326,.int .i64 t1327,.int .i64 t1328,.int .i64 t1329,.string t1330]] (by rfl) rfl rfl (by (try simp only [List.map_toArray,List.map_cons,List.map_nil]);first | done | rfl|(simp only [List.length_drop,List.length_take];rfl)) ?_
       with_reducible refine (spec_ConnTake.calls k t1313 t1314 t1315 t1316 t1317 t1318 t1319 t1320 t1321 t1322 t1323 t1324 t1325 t1326 t1327 t1328 t1329 t1330 t1331 t1332 t1333 t1334 t1335 t1336 t1337 t1338 t1339 t1340 t1341 t1342 t1345 _ A21.out).mono ?_
       rintro e w36 ⟨v1343,rfl,ho0,hb⟩
       refine ⟨_,rfl,?_⟩
       have HO1344:=aMk (Kd.R_lower ho0 (below_size bW))
       replace BK1309:=aMk (bkB BK1309.out hb)
       replace BK1310:=aMk (bkB BK1310.out hb)
       replace HB:=aMk (bU hb)
       (try clear hb)
       (try clear hb2)
       (try clear hk)
       (try clear hi)
       (try clear ho0)
       refine hK.out _ _ (ca11 BK1309.out (cz7 BK1310.out)) (fun hHeld => ?_)
       clear hK K
       refine norm_ (a':=?_) ?_ ?_
       rotate_left
       ·show Act.put _ (some 32) _ = _
        simp only [Act.put,List.setIfInBounds_toArray,List.set_cons_zero,List.set_cons_succ,i64_w,i32_w]
        rfl
       refine pU (i:=5) (N:=some 27) #[true,true,true,true,true,true,false,false,false,false,false,false,false] (any_of HT_.out (by kernel_rfl)) ?_
       refine pU (i:=6) (N:=some 33) #[true,true,true,true,true,true,true,false,false,false,false,false,false] (any_of HT_.out (by kernel_rfl)) ?_
       refine pU (i:=7) (N:=some 34) #[true,true,true,true,true,true,true,true,false,false,false,false,false] (any_of HT_.out (by kernel_rfl)) ?_
       refine pU (i:=8) (N:=some 35) #[true,true,true,true,true,true,true,true,true,false,false,false,false] (any_of HT_.out (by kernel_rfl)) ?_
       refine one_ (i:=9) (N:=some 6) #[true,true,true,true,true,true,true,true,true,true,false,false,false] rfl rfl (one_of HT_.out (by kernel_rfl)) (by decide) (fun K hK => ?_)
       refine box_step ?hg (N:=6) ?hd (cs:=#[.string (⟨#[]⟩:ByteArray),.int .i64 0,.int .i64 0,.int .i64 0,.int .i64 0,.int .i64 0,.int .i64 0,.int .i64 0,.string (⟨#[]⟩:ByteArray),.string (⟨#[]⟩:ByteArray),.bool false]) (t:=34) ?hr ?_;(case hd => rfl);(case hg => rfl);(case hr => first|(go_simp;done)|(go_simp;rfl))
       intro gb1346 hg w37 hbox hb
       replace HO1344:=aMk (Kd.R_below (kR (HO1344.out)) hb)
       have BK1346:=aMk (hbox)
       have GW1346:=aMk (bG bW hg)
       have GE1346:=aMk (bG bW hg)
       replace HB:=aMk (bU hb)
       have NB1309_1346:=aMk ((bkL BK1309.out hg:gb1309 ≠ gb1346))
       have NB1346_1309:=aMk ((bkG BK1309.out hg:gb1346 ≠ gb1309))
       replace BK1309:=aMk (bkB BK1309.out hb)
       have NB1310_1346:=aMk ((bkL BK1310.out hg:gb1310 ≠ gb1346))
       have NB1346_1310:=aMk ((bkG BK1310.out hg:gb1346 ≠ gb1310))
       replace BK1310:=aMk (bkB BK1310.out hb)
       clear hb hbox hg
       refine hK.out _ _ (ca11 BK1309.out (cz7 BK1310.out)) (fun hHeld => ?_)
       clear hK K
       refine norm_ (a':=?_) ?_ ?_
       rotate_left
       ·show Act.put _ (some 6) _ = _
        simp only [Act.put,List.setIfInBounds_toArray,List.set_cons_zero,List.set_cons_succ,i64_w,i32_w]
        rfl
       exact norm_ (by simp only [putAll,Act.put,List.setIfInBounds_toArray,List.set_cons_zero,List.set_cons_succ]) (hCont (v1343,gb1346) _ ⟨hHeld,(kR (HO1344.out)),(pB BK1309.out),(pB BK1310.out),(pB BK1346.out),GW1346.out,GE1346.out,NB1309_1346.out,NB1346_1309.out,NB1310_1346.out,NB1346_1310.out,bW⟩)
      ·skip
       refine box_step ?hg (N:=6) ?hd (cs:=#[.string (⟨#[]⟩:ByteArray),.int .i64 0,.int .i64 0,.int .i64 0,.int .i64 0,.int .i64 0,.int .i64 0,.int .i64 0,.string (⟨#[]⟩:ByteArray),.string (⟨#[]⟩:ByteArray),.bool false]) (t:=34) ?hr ?_;(case hd => rfl);(case hg => rfl);(case hr => first|(go_simp;done)|(go_simp;rfl))
       intro gb1346 hg w36 hbox hb
       have BK1346:=aMk (hbox)
       have GW1346:=aMk (bG bW hg)
       have GE1346:=aMk (bG bW hg)
       replace HB:=aMk (bU hb)
       have NB1309_1346:=aMk ((bkL BK1309.out hg:gb1309 ≠ gb1346))
       have NB1346_1309:=aMk ((bkG BK1309.out hg:gb1346 ≠ gb1309))
       replace BK1309:=aMk (bkB BK1309.out hb)
       have NB1310_1346:=aMk ((bkL BK1310.out hg:gb1310 ≠ gb1346))
       have NB1346_1310:=aMk ((bkG BK1310.out hg:gb1346 ≠ gb1310))
       replace BK1310:=aMk (bkB BK1310.out hb)
       clear hb hbox hg
       refine hK.out _ _ (ca11 BK1309.out (cz7 BK1310.out)) (fun hHeld => ?_)
       clear hK K
       refine norm_ (a':=?_) ?_ ?_
       rotate_left
       ·show Act.put _ (some 6) _ = _
        simp only [Act.put,List.setIfInBounds_toArray,List.set_cons_zero,List.set_cons_succ,i64_w,i32_w]
        rfl
       refine one_ (i:=4) (N:=some 32) #[true,true,true,true,true,false,false,false,false,true,false,false,false] rfl rfl (one_of HT_.out (by kernel_rfl)) (by decide) (fun K hK => ?_)
       refine goes_ Try.func57 (by kernel_rfl) rfl #[.agg #[.string t1313,.int .i64 t1314,.int .i64 t1315,.int .i64 t1316,.int .i64 t1317,.int .i64 t1318,.int .i64 t1319,.int .i64 t1320,.string t1321,.string t1322,.bool t1323],.agg #[.int .i64 t1324,.int .i64 t1325,.int .i64 t1326,.int .i64 t1327,.int .i64 t1328,.int .i64 t1329,.string t1330]] (by rfl) rfl rfl (by (try simp only [List.map_toArray,List.map_cons,List.map_nil]);first | done | rfl|(simp only [List.length_drop,List.length_take];rfl)) ?_
       with_reducible refine (spec_ConnTake.calls k t1313 t1314 t1315 t1316 t1317 t1318 t1319 t1320 t1321 t1322 t1323 t1324 t1325 t1326 t1327 t1328 t1329 t1330 t1331 t1332 t1333 t1334 t1335 t1336 t1337 t1338 t1339 t1340 t1341 t1342 t1345 _ A21.out).mono ?_
       rintro e w37 ⟨v1343,rfl,ho0,hb⟩
       refine ⟨_,rfl,?_⟩
       have HO1344:=aMk (Kd.R_lower ho0 (below_size bW))
       replace BK1309:=aMk (bkB BK1309.out hb)
       replace BK1310:=aMk (bkB BK1310.out hb)
       replace BK1346:=aMk (bkB BK1346.out hb)
       replace HB:=aMk (bU hb)
       (try clear hb)
       (try clear hb2)
       (try clear hk)
       (try clear hi)
       (try clear ho0)
       refine hK.out _ _ (ca11 BK1309.out (cz7 BK1310.out)) (fun hHeld => ?_)
       clear hK K
       refine norm_ (a':=?_) ?_ ?_
       rotate_left
       ·show Act.put _ (some 32) _ = _
        simp only [Act.put,List.setIfInBounds_toArray,List.set_cons_zero,List.set_cons_succ,i64_w,i32_w]
        rfl
       refine pU (i:=5) (N:=some 27) #[true,true,true,true,true,true,false,false,false,true,false,false,false] (any_of HT_.out (by kernel_rfl)) ?_
       refine pU (i:=6) (N:=some 33) #[true,true,true,true,true,true,true,false,false,true,false,false,false] (any_of HT_.out (by kernel_rfl)) ?_
       refine pU (i:=7) (N:=some 34) #[true,true,true,true,true,true,true,true,false,true,false,false,false] (any_of HT_.out (by kernel_rfl)) ?_
       refine pU (i:=8) (N:=some 35) #[true,true,true,true,true,true,true,true,true,true,false,false,false] (any_of HT_.out (by kernel_rfl)) ?_
       exact norm_ (by simp only [putAll,Act.put,List.setIfInBounds_toArray,List.set_cons_zero,List.set_cons_succ]) (hCont (v1343,gb1346) _ ⟨hHeld,(kR (HO1344.out)),(pB BK1309.out),(pB BK1310.out),(pB BK1346.out),GW1346.out,GE1346.out,NB1309_1346.out,NB1346_1309.out,NB1310_1346.out,NB1346_1310.out,bW⟩)
     ·skip
      refine box_step ?hg (N:=6) ?hd (cs:=#[.string (⟨#[]⟩:ByteArray),.int .i64 0,.int .i64 0,.int .i64 0,.int .i64 0,.int .i64 0,.int .i64 0,.int .i64 0,.string (⟨#[]⟩:ByteArray),.string (⟨#[]⟩:ByteArray),.bool false]) (t:=34) ?hr ?_;(case hd => rfl);(case hg => rfl);(case hr => first|(go_simp;done)|(go_simp;rfl))
      intro gb1346 hg w35 hbox hb
      have BK1346:=aMk (hbox)
      have GW1346:=aMk (bG bW hg)
      have GE1346:=aMk (bG bW hg)
      replace HB:=aMk (bU hb)
      have NB1309_1346:=aMk ((bkL BK1309.out hg:gb1309 ≠ gb1346))
      have NB1346_1309:=aMk ((bkG BK1309.out hg:gb1346 ≠ gb1309))
      replace BK1309:=aMk (bkB BK1309.out hb)
      have NB1310_1346:=aMk ((bkL BK1310.out hg:gb1310 ≠ gb1346))
      have NB1346_1310:=aMk ((bkG BK1310.out hg:gb1346 ≠ gb1310))
      replace BK1310:=aMk (bkB BK1310.out hb)
      clear hb hbox hg
      refine hK.out _ _ (ca11 BK1309.out (cz7 BK1310.out)) (fun hHeld => ?_)
      clear hK K
      refine norm_ (a':=?_) ?_ ?_
      rotate_left
      ·show Act.put _ (some 6) _ = _
       simp only [Act.put,List.setIfInBounds_toArray,List.set_cons_zero,List.set_cons_succ,i64_w,i32_w]
       rfl
      refine one_ (i:=3) (N:=some 31) #[true,true,true,true,false,false,false,false,false,true,false,false,false] rfl rfl (one_of HT_.out (by kernel_rfl)) (by decide) (fun K hK => ?_)
      refine goes_ Try.func35 (by kernel_rfl) rfl #[.agg #[.int .i64 a1_0,.int .i64 a1_1,.int .i64 a1_2,.int .i64 a1_3,.int .i64 a1_4,.int .i64 a1_5,.string a1_6]] (by rfl) rfl rfl (by (try simp only [List.map_toArray,List.map_cons,List.map_nil]);first | done | rfl|(simp only [List.length_drop,List.length_take];rfl)) ?_
      with_reducible refine (laws_toSegment.calls a1_0 a1_1 a1_2 a1_3 a1_4 a1_5 a1_6 t1324 t1325 t1326 t1327 t1328 t1329 t1330 _ A20.out).mono ?_
      rintro e w36 ⟨rfl,hb⟩
      refine ⟨_,rfl,?_⟩
      replace BK1309:=aMk (bkB BK1309.out hb)
      replace BK1310:=aMk (bkB BK1310.out hb)
      replace BK1346:=aMk (bkB BK1346.out hb)
      replace HB:=aMk (bU hb)
      (try clear hb)
      (try clear hb2)
      (try clear hk)
      (try clear hi)
      refine hK.out _ _ (ca11 BK1309.out (cz7 BK1310.out)) (fun hHeld => ?_)
      clear hK K
      refine norm_ (a':=?_) ?_ ?_
      rotate_left
      ·show Act.put _ (some 31) _ = _
       simp only [Act.put,List.setIfInBounds_toArray,List.set_cons_zero,List.set_cons_succ,i64_w,i32_w]
       rfl
      refine one_ (i:=4) (N:=some 32) #[true,true,true,true,true,false,false,false,false,true,false,false,false] rfl rfl (one_of HT_.out (by kernel_rfl)) (by decide) (fun K hK => ?_)
      refine goes_ Try.func57 (by kernel_rfl) rfl #[.agg #[.string t1313,.int .i64 t1314,.int .i64 t1315,.int .i64 t1316,.int .i64 t1317,.int .i64 t1318,.int .i64 t1319,.int .i64 t1320,.string t1321,.string t1322,.bool t1323],.agg #[.int .i64 t1324,.int .i64 t1325,.int .i64 t1326,.int .i64 t1327,.int .i64 t1328,.int .i64 t1329,.string t1330]] (by rfl) rfl rfl (by (try simp only [List.map_toArray,List.map_cons,List.map_nil]);first | done | rfl|(simp only [List.length_drop,List.length_take];rfl)) ?_
      with_reducible refine (spec_ConnTake.calls k t1313 t1314 t1315 t1316 t1317 t1318 t1319 t1320 t1321 t1322 t1323 t1324 t1325 t1326 t1327 t1328 t1329 t1330 t1331 t1332 t1333 t1334 t1335 t1336 t1337 t1338 t1339 t1340 t1341 t1342 t1345 _ A21.out).mono ?_
      rintro e w37 ⟨v1343,rfl,ho0,hb⟩
      refine ⟨_,rfl,?_⟩
      have HO1344:=aMk (Kd.R_lower ho0 (below_size bW))
      replace BK1309:=aMk (bkB BK1309.out hb)
      replace BK1310:=aMk (bkB BK1310.out hb)
      replace BK1346:=aMk (bkB BK1346.out hb)
      replace HB:=aMk (bU hb)
      (try clear hb)
      (try clear hb2)
      (try clear hk)
      (try clear hi)
      (try clear ho0)
      refine hK.out _ _ (ca11 BK1309.out (cz7 BK1310.out)) (fun hHeld => ?_)
      clear hK K
      refine norm_ (a':=?_) ?_ ?_
      rotate_left
      ·show Act.put _ (some 32) _ = _
       simp only [Act.put,List.setIfInBounds_toArray,List.set_cons_zero,List.set_cons_succ,i64_w,i32_w]
       rfl
      refine pU (i:=5) (N:=some 27) #[true,true,true,true,true,true,false,false,false,true,false,false,false] (any_of HT_.out (by kernel_rfl)) ?_
      refine pU (i:=6) (N:=some 33) #[true,true,true,true,true,true,true,false,false,true,false,false,false] (any_of HT_.out (by kernel_rfl)) ?_
      refine pU (i:=7) (N:=some 34) #[true,true,true,true,true,true,true,true,false,true,false,false,false] (any_of HT_.out (by kernel_rfl)) ?_
      refine pU (i:=8) (N:=some 35) #[true,true,true,true,true,true,true,true,true,true,false,false,false] (any_of HT_.out (by kernel_rfl)) ?_
      exact norm_ (by simp only [putAll,Act.put,List.setIfInBounds_toArray,List.set_cons_zero,List.set_cons_succ]) (hCont (v1343,gb1346) _ ⟨hHeld,(kR (HO1344.out)),(pB BK1309.out),(pB BK1310.out),(pB BK1346.out),GW1346.out,GE1346.out,NB1309_1346.out,NB1346_1309.out,NB1310_1346.out,NB1346_1310.out,bW⟩)
    ·skip
     refine box_step ?hg (N:=6) ?hd (cs:=#[.string (⟨#[]⟩:ByteArray),.int .i64 0,.int .i64 0,.int .i64 0,.int .i64 0,.int .i64 0,.int .i64 0,.int .i64 0,.string (⟨#[]⟩:ByteArray),.string (⟨#[]⟩:ByteArray),.bool false]) (t:=34) ?hr ?_;(case hd => rfl);(case hg => rfl);(case hr => first|(go_simp;done)|(go_simp;rfl))
     intro gb1346 hg w34 hbox hb
     have BK1346:=aMk (hbox)
     have GW1346:=aMk (bG bW hg)
     have GE1346:=aMk (bG bW hg)
     replace HB:=aMk (bU hb)
     have NB1309_1346:=aMk ((bkL BK1309.out hg:gb1309 ≠ gb1346))
     have NB1346_1309:=aMk ((bkG BK1309.out hg:gb1346 ≠ gb1309))
     replace BK1309:=aMk (bkB BK1309.out hb)
     have NB1310_1346:=aMk ((bkL BK1310.out hg:gb1310 ≠ gb1346))
     have NB1346_1310:=aMk ((bkG BK1310.out hg:gb1346 ≠ gb1310))
     replace BK1310:=aMk (bkB BK1310.out hb)
     clear hb hbox hg
     refine hK.out _ _ (ca11 BK1309.out (cz7 BK1310.out)) (fun hHeld => ?_)
     clear hK K
     refine norm_ (a':=?_) ?_ ?_
     rotate_left
     ·show Act.put _ (some 6) _ = _
      simp only [Act.put,List.setIfInBounds_toArray,List.set_cons_zero,List.set_cons_succ,i64_w,i32_w]
      rfl
     refine one_ (i:=1) (N:=some 29) #[true,true,true,false,false,false,false,false,false,true,false,false,false] rfl rfl (one_of HT_.out (by kernel_rfl)) (by decide) (fun K hK => ?_)
     refine goes_ Try.func24 (by kernel_rfl) rfl #[.agg #[.string a0_0,.int .i64 a0_1,.int .i64 a0_2,.int .i64 a0_3,.int .i64 a0_4,.int .i64 a0_5,.int .i64 a0_6,.int .i64 a0_7,.string a0_8,.string a0_9,.bool a0_10]] (by rfl) rfl rfl (by (try simp only [List.map_toArray,List.map_cons,List.map_nil]);first | done | rfl|(simp only [List.length_drop,List.length_take];rfl)) ?_
     with_reducible refine (laws_toConn.calls a0_0 a0_1 a0_2 a0_3 a0_4 a0_5 a0_6 a0_7 a0_8 a0_9 a0_10 t1313 t1314 t1315 t1316 t1317 t1318 t1319 t1320 t1321 t1322 t1323 _ A19.out).mono ?_
     rintro e w35 ⟨rfl,hb⟩
     refine ⟨_,rfl,?_⟩
     replace BK1309:=aMk (bkB BK1309.out hb)
     replace BK1310:=aMk (bkB BK1310.out hb)
     replace BK1346:=aMk (bkB BK1346.out hb)
     replace HB:=aMk (bU hb)
     (try clear hb)
     (try clear hb2)
     (try clear hk)
     (try clear hi)
     refine hK.out _ _ (ca11 BK1309.out (cz7 BK1310.out)) (fun hHeld => ?_)
     clear hK K
     refine norm_ (a':=?_) ?_ ?_
     rotate_left
     ·show Act.put _ (some 29) _ = _
      simp only [Act.put,List.setIfInBounds_toArray,List.set_cons_zero,List.set_cons_succ,i64_w,i32_w]
      rfl
     refine one_ (i:=3) (N:=some 31) #[true,true,true,true,false,false,false,false,false,true,false,false,false] rfl rfl (one_of HT_.out (by kernel_rfl)) (by decide) (fun K hK => ?_)
     refine goes_ Try.func35 (by kernel_rfl) rfl #[.agg #[.int .i64 a1_0,.int .i64 a1_1,.int .i64 a1_2,.int .i64 a1_3,.int .i64 a1_4,.int .i64 a1_5,.string a1_6]] (by rfl) rfl rfl (by (try simp only [List.map_toArray,List.map_cons,List.map_nil]);first | done | rfl|(simp only [List.length_drop,List.length_take];rfl)) ?_
     with_reducible refine (laws_toSegment.calls a1_0 a1_1 a1_2 a1_3 a1_4 a1_5 a1_6 t1324 t1325 t1326 t1327 t1328 t1329 t1330 _ A20.out).mono ?_
     rintro e w36 ⟨rfl,hb⟩
     refine ⟨_,rfl,?_⟩
     replace BK1309:=aMk (bkB BK1309.out hb)
     replace BK1310:=aMk (bkB BK1310.out hb)
     replace BK1346:=aMk (bkB BK1346.out hb)
     replace HB:=aMk (bU hb)
     (try clear hb)
     (try clear hb2)
     (try clear hk)
     (try clear hi)
     refine hK.out _ _ (ca11 BK1309.out (cz7 BK1310.out)) (fun hHeld => ?_)
     clear hK K
     refine norm_ (a':=?_) ?_ ?_
     rotate_left
     ·show Act.put _ (some 31) _ = _
      simp only [Act.put,List.setIfInBounds_toArray,List.set_cons_zero,List.set_cons_succ,i64_w,i32_w]
      rfl
     refine one_ (i:=4) (N:=some 32) #[true,true,true,true,true,false,false,false,false,true,false,false,false] rfl rfl (one_of HT_.out (by kernel_rfl)) (by decide) (fun K hK => ?_)
     refine goes_ Try.func57 (by kernel_rfl) rfl #[.agg #[.string t1313,.int .i64 t1314,.int .i64 t1315,.int .i64 t1316,.int .i64 t1317,.int .i64 t1318,.int .i64 t1319,.int .i64 t1320,.string t1321,.string t1322,.bool t1323],.agg #[.int .i64 t1324,.int .i64 t1325,.int .i64 t1326,.int .i64 t1327,.int .i64 t1328,.int .i64 t1329,.string t1330]] (by rfl) rfl rfl (by (try simp only [List.map_toArray,List.map_cons,List.map_nil]);first | done | rfl|(simp only [List.length_drop,List.length_take];rfl)) ?_
     with_reducible refine (spec_ConnTake.calls k t1313 t1314 t1315 t1316 t1317 t1318 t1319 t1320 t1321 t1322 t1323 t1324 t1325 t1326 t1327 t1328 t1329 t1330 t1331 t1332 t1333 t1334 t1335 t1336 t1337 t1338 t1339 t1340 t1341 t1342 t1345 _ A21.out).mono ?_
     rintro e w37 ⟨v1343,rfl,ho0,hb⟩
     refine ⟨_,rfl,?_⟩
     have HO1344:=aMk (Kd.R_lower ho0 (below_size bW))
     replace BK1309:=aMk (bkB BK1309.out hb)
     replace BK1310:=aMk (bkB BK1310.out hb)
     replace BK1346:=aMk (bkB BK1346.out hb)
     replace HB:=aMk (bU hb)
     (try clear hb)
     (try clear hb2)
     (try clear hk)
     (try clear hi)
     (try clear ho0)
     refine hK.out _ _ (ca11 BK1309.out (cz7 BK1310.out)) (fun hHeld => ?_)
     clear hK K
     refine norm_ (a':=?_) ?_ ?_
     rotate_left
     ·show Act.put _ (some 32) _ = _
      simp only [Act.put,List.setIfInBounds_toArray,List.set_cons_zero,List.set_cons_succ,i64_w,i32_w]
      rfl
     refine pU (i:=5) (N:=some 27) #[true,true,true,true,true,true,false,false,false,true,false,false,false] (any_of HT_.out (by kernel_rfl)) ?_
     refine pU (i:=6) (N:=some 33) #[true,true,true,true,true,true,true,false,false,true,false,false,false] (any_of HT_.out (by kernel_rfl)) ?_
     refine pU (i:=7) (N:=some 34) #[true,true,true,true,true,true,true,true,false,true,false,false,false] (any_of HT_.out (by kernel_rfl)) ?_
     refine pU (i:=8) (N:=some 35) #[true,true,true,true,true,true,true,true,true,true,false,false,false] (any_of HT_.out (by kernel_rfl)) ?_
     exact norm_ (by simp only [putAll,Act.put,List.setIfInBounds_toArray,List.set_cons_zero,List.set_cons_succ]) (hCont (v1343,gb1346) _ ⟨hHeld,(kR (HO1344.out)),(pB BK1309.out),(pB BK1310.out),(pB BK1346.out),GW1346.out,GE1346.out,NB1309_1346.out,NB1346_1309.out,NB1310_1346.out,NB1346_1310.out,bW⟩)
   rintro ⟨v1343,gb1346⟩ w38 ⟨hS_,h0_,h1_,h2_,h3_,h4_,h5_,h6_,h7_,h8_,h9_,h10_⟩
   have n0_:Aside0 (Kd.R k53 53 w38 w.heap.size (fun _ => True) v1343 t1342):=⟨h0_⟩
   have n1_:Aside0 (w38.heap[gb1309]? = some (.cells #[.string a0_0,.int .i64 a0_1,.int .i64 a0_2,.int .i64 a0_3,.int .i64 a0_4,.int .i64 a0_5,.int .i64 a0_6,.int .i64 a0_7,.string a0_8,.string a0_9,.bool a0_10] 31 (0,0))):=⟨h1_⟩
   have n2_:Aside0 (w38.heap[gb1310]? = some (.cells #[.int .i64 a1_0,.int .i64 a1_1,.int .i64 a1_2,.int .i64 a1_3,.int .i64 a1_4,.int .i64 a1_5,.string a1_6] 48 (0,0))):=⟨h2_⟩
   have n3_:Aside0 (w38.heap[gb1346]? = some (.cells #[.string (⟨#[]⟩:ByteArray),.int .i64 0,.int .i64 0,.int .i64 0,.int .i64 0,.int .i64 0,.int .i64 0,.int .i64 0,.string (⟨#[]⟩:ByteArray),.string (⟨#[]⟩:ByteArray),.bool false] 34 (0,0))):=⟨h3_⟩
   have n4_:Aside0 (w.heap.size≤gb1346):=⟨h4_⟩
   have n5_:Aside0 (w.heap.size≤gb1346):=⟨h5_⟩
   have n6_:Aside0 (gb1309 ≠ gb1346):=⟨h6_⟩
   have n7_:Aside0 (gb1346 ≠ gb1309):=⟨h7_⟩
   have n8_:Aside0 (gb1310 ≠ gb1346):=⟨h8_⟩
   have n9_:Aside0 (gb1346 ≠ gb1310):=⟨h9_⟩
   have n10_:Aside0 (Below w.heap.size w w38):=⟨h10_⟩
   clear BK1309
   clear BK1310
   clear HB
   clear h0_ h1_ h2_ h3_ h4_ h5_ h6_ h7_ h8_ h9_ h10_
   have HO1344:=n0_
   have BK1309:=n1_
   have BK1310:=n2_
   have BK1346:=n3_
   have GW1346:=n4_
   have GE1346:=n5_
   have NB1309_1346:=n6_
   have NB1346_1309:=n7_
   have NB1310_1346:=n8_
   have NB1346_1310:=n9_
   have HB:=n10_
   clear n0_ n1_ n2_ n3_ n4_ n5_ n6_ n7_ n8_ n9_ n10_
   have hHeld:w38.cell? ⟨gb1309,0,none⟩ = some (.string a0_0)∧w38.cell? ⟨gb1309,1,none⟩ = some (.int .i64 a0_1)∧w38.cell? ⟨gb1309,2,none⟩ = some (.int .i64 a0_2)∧w38.cell? ⟨gb1309,3,none⟩ = some (.int .i64 a0_3)∧w38.cell? ⟨gb1309,4,none⟩ = some (.int .i64 a0_4)∧w38.cell? ⟨gb1309,5,none⟩ = some (.int .i64 a0_5)∧w38.cell? ⟨gb1309,6,none⟩ = some (.int .i64 a0_6)∧w38.cell? ⟨gb1309,7,none⟩ = some (.int .i64 a0_7)∧w38.cell? ⟨gb1309,8,none⟩ = some (.string a0_8)∧w38.cell? ⟨gb1309,9,none⟩ = some (.string a0_9)∧w38.cell? ⟨gb1309,10,none⟩ = some (.bool a0_10)∧w38.cell? ⟨gb1310,0,none⟩ = some (.int .i64 a1_0)∧w38.cell? ⟨gb1310,1,none⟩ = some (.int .i64 a1_1)∧w38.cell? ⟨gb1310,2,none⟩ = some (.int .i64 a1_2)∧w38.cell? ⟨gb1310,3,none⟩ = some (.int .i64 a1_3)∧w38.cell? ⟨gb1310,4,none⟩ = some (.int .i64 a1_4)∧w38.cell? ⟨gb1310,5,none⟩ = some (.int .i64 a1_5)∧w38.cell? ⟨gb1310,6,none⟩ = some (.string a1_6):=hS_
   refine norm_ (a':=?_) ?_ ?_
   rotate_left
   ·simp only [putAll,Act.put,List.setIfInBounds_toArray,List.set_cons_zero,List.set_cons_succ]
    rfl
   refine one_ (i:=10) (N:=none) #[true,true,true,true,true,true,true,true,true,true,true,false,false] rfl rfl (one_of HT_.out (by kernel_rfl)) (by decide) (fun K hK => ?_)
   have hs39:w38.cell? ⟨gb1346,0,none⟩ = some (.string (⟨#[]⟩:ByteArray)):=(bCe BK1346.out 0).trans rfl
   have hfs39:=bFr BK1346.out 0
   have hns39_0:=NB1309_1346.out
   have hns39_1:=NB1310_1346.out
   have hms39_0:=NB1346_1309.out
   have hms39_1:=NB1346_1310.out
   have hs40:w38.cell? ⟨gb1346,1,none⟩ = some (.int .i64 0):=(bCe BK1346.out 1).trans rfl
   have hfs40:=bFr BK1346.out 1
   have hns40_0:=NB1309_1346.out
   have hns40_1:=NB1310_1346.out
   have hms40_0:=NB1346_1309.out
   have hms40_1:=NB1346_1310.out
   have hs41:w38.cell? ⟨gb1346,2,none⟩ = some (.int .i64 0):=(bCe BK1346.out 2).trans rfl
   have hfs41:=bFr BK1346.out 2
   have hns41_0:=NB1309_1346.out
   have hns41_1:=NB1310_1346.out
   have hms41_0:=NB1346_1309.out
   have hms41_1:=NB1346_1310.out
   have hs42:w38.cell? ⟨gb1346,3,none⟩ = some (.int .i64 0):=(bCe BK1346.out 3).trans rfl
   have hfs42:=bFr BK1346.out 3
   have hns42_0:=NB1309_1346.out
   have hns42_1:=NB1310_1346.out
   have hms42_0:=NB1346_1309.out
   have hms42_1:=NB1346_1310.out
   have hs43:w38.cell? ⟨gb1346,4,none⟩ = some (.int .i64 0):=(bCe BK1346.out 4).trans rfl
   have hfs43:=bFr BK1346.out 4
   have hns43_0:=NB1309_1346.out
   have hns43_1:=NB1310_1346.out
   have hms43_0:=NB1346_1309.out
   have hms43_1:=NB1346_1310.out
   have hs44:w38.cell? ⟨gb1346,5,none⟩ = some (.int .i64 0):=(bCe BK1346.out 5).trans rfl
   have hfs44:=bFr BK1346.out 5
   have hns44_0:=NB1309_1346.out
   have hns44_1:=NB1310_1346.out
   have hms44_0:=NB1346_1309.out
   have hms44_1:=NB1346_1310.out
   have hs45:w38.cell? ⟨gb1346,6,none⟩ = some (.int .i64 0):=(bCe BK1346.out 6).trans rfl
   have hfs45:=bFr BK1346.out 6
   have hns45_0:=NB1309_1346.out
   have hns45_1:=NB1310_1346.out
   have hms45_0:=NB1346_1309.out
   have hms45_1:=NB1346_1310.out
   have hs46:w38.cell? ⟨gb1346,7,none⟩ = some (.int .i64 0):=(bCe BK1346.out 7).trans rfl
   have hfs46:=bFr BK1346.out 7
   have hns46_0:=NB1309_1346.out
   have hns46_1:=NB1310_1346.out
   have hms46_0:=NB1346_1309.out
   have hms46_1:=NB1346_1310.out
   have hs47:w38.cell? ⟨gb1346,8,none⟩ = some (.string (⟨#[]⟩:ByteArray)):=(bCe BK1346.out 8).trans rfl
   have hfs47:=bFr BK1346.out 8
   have hns47_0:=NB1309_1346.out
   have hns47_1:=NB1310_1346.out
   have hms47_0:=NB1346_1309.out
   have hms47_1:=NB1346_1310.out
   have hs48:w38.cell? ⟨gb1346,9,none⟩ = some (.string (⟨#[]⟩:ByteArray)):=(bCe BK1346.out 9).trans rfl
   have hfs48:=bFr BK1346.out 9
   have hns48_0:=NB1309_1346.out
   have hns48_1:=NB1310_1346.out
   have hms48_0:=NB1346_1309.out
   have hms48_1:=NB1346_1310.out
   have hs49:w38.cell? ⟨gb1346,10,none⟩ = some (.bool false):=(bCe BK1346.out 10).trans rfl
   have hfs49:=bFr BK1346.out 10
   have hns49_0:=NB1309_1346.out
   have hns49_1:=NB1310_1346.out
   have hms49_0:=NB1346_1309.out
   have hms49_1:=NB1346_1310.out
   refine skip_ (w1:=?_) (by rfl) rfl ?_ ?_
   rotate_left
   ·go_simp
    rfl
   refine hK.out _ _ ⟨(cF11 NB1309_1346.out (hHeld.1)),(cF11 NB1309_1346.out (hHeld.2.1)),(cF11 NB1309_1346.out (hHeld.2.2.1)),(cF11 NB1309_1346.out (hHeld.2.2.2.1)),(cF11 NB1309_1346.out (hHeld.2.2.2.2.1)),(cF11 NB1309_1346.out (hHeld.2.2.2.2.2.1)),(cF11 NB1309_1346.out (hHeld.2.2.2.2.2.2.1)),(cF11 NB1309_1346.out (hHeld.2.2.2.2.2.2.2.1)),(cF11 NB1309_1346.out (hHeld.2.2.2.2.2.2.2.2.1)),(cF11 NB1309_1346.out (hHeld.2.2.2.2.2.2.2.2.2.1)),(cF11 NB1309_1346.out (hHeld.2.2.2.2.2.2.2.2.2.2.1)),(cF11 NB1310_1346.out (hHeld.2.2.2.2.2.2.2.2.2.2.2.1)),(cF11 NB1310_1346.out (hHeld.2.2.2.2.2.2.2.2.2.2.2.2.1)),(cF11 NB1310_1346.out (hHeld.2.2.2.2.2.2.2.2.2.2.2.2.2.1)),(cF11 NB1310_1346.out (hHeld.2.2.2.2.2.2.2.2.2.2.2.2.2.2.1)),(cF11 NB1310_1346.out (hHeld.2.2.2.2.2.2.2.2.2.2.2.2.2.2.2.1)),(cF11 NB1310_1346.out (hHeld.2.2.2.2.2.2.2.2.2.2.2.2.2.2.2.2.1)),(cF11 NB1310_1346.out (hHeld.2.2.2.2.2.2.2.2.2.2.2.2.2.2.2.2.2))⟩ (fun hHeld => ?_)
   clear hK K
   refine pU (i:=11) (N:=some 7) #[true,true,true,true,true,true,true,true,true,true,true,true,false] (any_of HT_.out (by kernel_rfl)) ?_
   refine pU (i:=12) (N:=some 8) #[true,true,true,true,true,true,true,true,true,true,true,true,true] (any_of HT_.out (by kernel_rfl)) ?_
   refine done_ (done_of HT_.out (by kernel_rfl)) ?_
   try go_wp2
   have n0_:Aside0 (Kd.R k53 53 (((((((((((w38.setCell ⟨gb1346,0,none⟩ (.string t1331)).setCell ⟨gb1346,1,none⟩ (.int .i64 t1332)).setCell ⟨gb1346,2,none⟩ (.int .i64 t1333)).setCell ⟨gb1346,3,none⟩ (.int .i64 t1334)).setCell ⟨gb1346,4,none⟩ (.int .i64 t1335)).setCell ⟨gb1346,5,none⟩ (.int .i64 t1336)).setCell ⟨gb1346,6,none⟩ (.int .i64 t1337)).setCell ⟨gb1346,7,none⟩ (.int .i64 t1338)).setCell ⟨gb1346,8,none⟩ (.string t1339)).setCell ⟨gb1346,9,none⟩ (.string t1340)).setCell ⟨gb1346,10,none⟩ (.bool t1341)) w.heap.size (fun _ => True) v1343 t1342):=⟨kR (Kd.R_mono (Kd.R_far (p:=⟨gb1346,10,none⟩) (Kd.R_far (p:=⟨gb1346,9,none⟩) (Kd.R_far (p:=⟨gb1346,8,none⟩) (Kd.R_far (p:=⟨gb1346,7,none⟩) (Kd.R_far (p:=⟨gb1346,6,none⟩) (Kd.R_far (p:=⟨gb1346,5,none⟩) (Kd.R_far (p:=⟨gb1346,4,none⟩) (Kd.R_far (p:=⟨gb1346,3,none⟩) (Kd.R_far (p:=⟨gb1346,2,none⟩) (Kd.R_far (p:=⟨gb1346,1,none⟩) (Kd.R_far (p:=⟨gb1346,0,none⟩) (Kd.R_types HO1344.out BK1346.out (by decide)) (fun _ hk => hk.2) (.string t1331)) (fun _ hk => hk.2) (.int .i64 t1332)) (fun _ hk => hk.2) (.int .i64 t1333)) (fun _ hk => hk.2) (.int .i64 t1334)) (fun _ hk => hk.2) (.int .i64 t1335)) (fun _ hk => hk.2) (.int .i64 t1336)) (fun _ hk => hk.2) (.int .i64 t1337)) (fun _ hk => hk.2) (.int .i64 t1338)) (fun _ hk => hk.2) (.string t1339)) (fun _ hk => hk.2) (.string t1340)) (fun _ hk => hk.2) (.bool t1341)) (fun _ hk => trivial))⟩
   have n1_:Aside0 ((((((((((((w38.setCell ⟨gb1346,0,none⟩ (.string t1331)).setCell ⟨gb1346,1,none⟩ (.int .i64 t1332)).setCell ⟨gb1346,2,none⟩ (.int .i64 t1333)).setCell ⟨gb1346,3,none⟩ (.int .i64 t1334)).setCell ⟨gb1346,4,none⟩ (.int .i64 t1335)).setCell ⟨gb1346,5,none⟩ (.int .i64 t1336)).setCell ⟨gb1346,6,none⟩ (.int .i64 t1337)).setCell ⟨gb1346,7,none⟩ (.int .i64 t1338)).setCell ⟨gb1346,8,none⟩ (.string t1339)).setCell ⟨gb1346,9,none⟩ (.string t1340)).setCell ⟨gb1346,10,none⟩ (.bool t1341)).heap[gb1309]? = some (.cells #[.string a0_0,.int .i64 a0_1,.int .i64 a0_2,.int .i64 a0_3,.int .i64 a0_4,.int .i64 a0_5,.int .i64 a0_6,.int .i64 a0_7,.string a0_8,.string a0_9,.bool a0_10] 31 (0,0))):=⟨by refine pB ?_;refine blk_far ?_ NB1309_1346.out _;refine pB ?_;refine blk_far ?_ NB1309_1346.out _;refine pB ?_;refine blk_far ?_ NB1309_1346.out _;refine pB ?_;refine blk_far ?_ NB1309_1346.out _;refine pB ?_;refine blk_far ?_ NB1309_1346.out _;refine pB ?_;refine blk_far ?_ NB1309_1346.out _;refine pB ?_;refine blk_far ?_ NB1309_1346.out _;refine pB ?_;refine blk_far ?_ NB1309_1346.out _;refine pB ?_;refine blk_far ?_ NB1309_1346.out _;refine pB ?_;refine blk_far ?_ NB1309_1346.out _;refine pB ?_;refine blk_far ?_ NB1309_1346.out _;refine pB ?_;exact BK1309.out⟩
   have n2_:Aside0 ((((((((((((w38.setCell ⟨gb1346,0,none⟩ (.string t1331)).setCell ⟨gb1346,1,none⟩ (.int .i64 t1332)).setCell ⟨gb1346,2,none⟩ (.int .i64 t1333)).setCell ⟨gb1346,3,none⟩ (.int .i64 t1334)).setCell ⟨gb1346,4,none⟩ (.int .i64 t1335)).setCell ⟨gb1346,5,none⟩ (.int .i64 t1336)).setCell ⟨gb1346,6,none⟩ (.int .i64 t1337)).setCell ⟨gb1346,7,none⟩ (.int .i64 t1338)).setCell ⟨gb1346,8,none⟩ (.string t1339)).setCell ⟨gb1346,9,none⟩ (.string t1340)).setCell ⟨gb1346,10,none⟩ (.bool t1341)).heap[gb1310]? = some (.cells #[.int .i64 a1_0,.int .i64 a1_1,.int .i64 a1_2,.int .i64 a1_3,.int .i64 a1_4,.int .i64 a1_5,.string a1_6] 48 (0,0))):=⟨by refine pB ?_;refine blk_far ?_ NB1310_1346.out _;refine pB ?_;refine blk_far ?_ NB1310_1346.out _;refine pB ?_;refine blk_far ?_ NB1310_1346.out _;refine pB ?_;refine blk_far ?_ NB1310_1346.out _;refine pB ?_;refine blk_far ?_ NB1310_1346.out _;refine pB ?_;refine blk_far ?_ NB1310_1346.out _;refine pB ?_;refine blk_far ?_ NB1310_1346.out _;refine pB ?_;refine blk_far ?_ NB1310_1346.out _;refine pB ?_;refine blk_far ?_ NB1310_1346.out _;refine pB ?_;refine blk_far ?_ NB1310_1346.out _;refine pB ?_;refine blk_far ?_ NB1310_1346.out _;refine pB ?_;exact BK1310.out⟩
   have n3_:Aside0 ((((((((((((w38.setCell ⟨gb1346,0,none⟩ (.string t1331)).setCell ⟨gb1346,1,none⟩ (.int .i64 t1332)).setCell ⟨gb1346,2,none⟩ (.int .i64 t1333)).setCell ⟨gb1346,3,none⟩ (.int .i64 t1334)).setCell ⟨gb1346,4,none⟩ (.int .i64 t1335)).setCell ⟨gb1346,5,none⟩ (.int .i64 t1336)).setCell ⟨gb1346,6,none⟩ (.int .i64 t1337)).setCell ⟨gb1346,7,none⟩ (.int .i64 t1338)).setCell ⟨gb1346,8,none⟩ (.string t1339)).setCell ⟨gb1346,9,none⟩ (.string t1340)).setCell ⟨gb1346,10,none⟩ (.bool t1341)).heap[gb1346]? = some (.cells #[.string t1331,.int .i64 t1332,.int .i64 t1333,.int .i64 t1334,.int .i64 t1335,.int .i64 t1336,.int .i64 t1337,.int .i64 t1338,.string t1339,.string t1340,.bool t1341] 34 (0,0))):=⟨by refine pB ?_;refine blk_put (cs:=#[.string t1331,.int .i64 t1332,.int .i64 t1333,.int .i64 t1334,.int .i64 t1335,.int .i64 t1336,.int .i64 t1337,.int .i64 t1338,.string t1339,.string t1340,.bool false]) ?_ 10 _ rfl;refine pB ?_;refine blk_put (cs:=#[.string t1331,.int .i64 t1332,.int .i64 t1333,.int .i64 t1334,.int .i64 t1335,.int .i64 t1336,.int .i64 t1337,.int .i64 t1338,.string t1339,.string (⟨#[]⟩:ByteArray),.bool false]) ?_ 9 _ rfl;refine pB ?_;refine blk_put (cs:=#[.string t1331,.int .i64 t1332,.int .i64 t1333,.int .i64 t1334,.int .i64 t1335,.int .i64 t1336,.int .i64 t1337,.int .i64 t1338,.string (⟨#[]⟩:ByteArray),.string (⟨#[]⟩:ByteArray),.bool false]) ?_ 8 _ rfl;refine pB ?_;refine blk_put (cs:=#[.string t1331,.int .i64 t1332,.int .i64 t1333,.int .i64 t1334,.int .i64 t1335,.int .i64 t1336,.int .i64 t1337,.int .i64 0,.string (⟨#[]⟩:ByteArray),.string (⟨#[]⟩:ByteArray),.bool false]) ?_ 7 _ rfl;refine pB ?_;refine blk_put (cs:=#[.string t1331,.int .i64 t1332,.int .i64 t1333,.int .i64 t1334,.int .i64 t1335,.int .i64 t1336,.int .i64 0,.int .i64 0,.string (⟨#[]⟩:ByteArray),.string (⟨#[]⟩:ByteArray),.bool false]) ?_ 6 _ rfl;refine pB ?_;refine blk_put (cs:=#[.string t1331,.int .i64 t1332,.int .i64 t1333,.int .i64 t1334,.int .i64 t1335,.int .i64 0,.int .i64 0,.int .i64 0,.string (⟨#[]⟩:ByteArray),.string (⟨#[]⟩:ByteArray),.bool false]) ?_ 5 _ rfl;refine pB ?_;refine blk_put (cs:=#[.string t1331,.int .i64 t1332,.int .i64 t1333,.int .i64 t1334,.int .i64 0,.int .i64 0,.int .i64 0,.int .i64 0,.string (⟨#[]⟩:ByteArray),.string (⟨#[]⟩:ByteArray),.bool false]) ?_ 4 _ rfl;refine pB ?_;refine blk_put (cs:=#[.string t1331,.int .i64 t1332,.int .i64 t1333,.int .i64 0,.int .i64 0,.int .i64 0,.int .i64 0,.int .i64 0,.string (⟨#[]⟩:ByteArray),.string (⟨#[]⟩:ByteArray),.bool false]) ?_ 3 _ rfl;refine pB ?_;refine blk_put (cs:=#[.string t1331,.int .i64 t1332,.int .i64 0,.int .i64 0,.int .i64 0,.int .i64 0,.int .i64 0,.int .i64 0,.string (⟨#[]⟩:ByteArray),.string (⟨#[]⟩:ByteArray),.bool false]) ?_ 2 _ rfl;refine pB ?_;refine blk_put (cs:=#[.string t1331,.int .i64 0,.int .i64 0,.int .i64 0,.int .i64 0,.int .i64 0,.int .i64 0,.int .i64 0,.string (⟨#[]⟩:ByteArray),.string (⟨#[]⟩:ByteArray),.bool false]) ?_ 1 _ rfl;refine pB ?_;refine blk_put (cs:=#[.string (⟨#[]⟩:ByteArray),.int .i64 0,.int .i64 0,.int .i64 0,.int .i64 0,.int .i64 0,.int .i64 0,.int .i64 0,.string (⟨#[]⟩:ByteArray),.string (⟨#[]⟩:ByteArray),.bool false]) ?_ 0 _ rfl;refine pB ?_;exact BK1346.out⟩
   have n4_:Aside0 (Below w.heap.size w (((((((((((w38.setCell ⟨gb1346,0,none⟩ (.string t1331)).setCell ⟨gb1346,1,none⟩ (.int .i64 t1332)).setCell ⟨gb1346,2,none⟩ (.int .i64 t1333)).setCell ⟨gb1346,3,none⟩ (.int .i64 t1334)).setCell ⟨gb1346,4,none⟩ (.int .i64 t1335)).setCell ⟨gb1346,5,none⟩ (.int .i64 t1336)).setCell ⟨gb1346,6,none⟩ (.int .i64 t1337)).setCell ⟨gb1346,7,none⟩ (.int .i64 t1338)).setCell ⟨gb1346,8,none⟩ (.string t1339)).setCell ⟨gb1346,9,none⟩ (.string t1340)).setCell ⟨gb1346,10,none⟩ (.bool t1341))):=⟨bW⟩
   (try clear HO1344)
   (try clear BK1309)
   (try clear BK1310)
   (try clear BK1346)
   (try clear HB)
   generalize (((((((((((w38.setCell ⟨gb1346,0,none⟩ (.string t1331)).setCell ⟨gb1346,1,none⟩ (.int .i64 t1332)).setCell ⟨gb1346,2,none⟩ (.int .i64 t1333)).setCell ⟨gb1346,3,none⟩ (.int .i64 t1334)).setCell ⟨gb1346,4,none⟩ (.int .i64 t1335)).setCell ⟨gb1346,5,none⟩ (.int .i64 t1336)).setCell ⟨gb1346,6,none⟩ (.int .i64 t1337)).setCell ⟨gb1346,7,none⟩ (.int .i64 t1338)).setCell ⟨gb1346,8,none⟩ (.string t1339)).setCell ⟨gb1346,9,none⟩ (.string t1340)).setCell ⟨gb1346,10,none⟩ (.bool t1341)) = w50 at n0_ n1_ n2_ n3_ n4_ ⊢
   have HO1344:=n0_
   have BK1309:=n1_
   have BK1310:=n2_
   have BK1346:=n3_
   have HB:=n4_
   clear n0_ n1_ n2_ n3_ n4_
   replace HO1344:=aMk (Kd.R_drew HO1344.out)
   replace BK1309:=aMk (bDr BK1309.out)
   replace BK1310:=aMk (bDr BK1310.out)
   replace BK1346:=aMk (bDr BK1346.out)
   replace HB:=aMk (bw1 HB.out)
   refine start_ (n:=13) (S:=fun w' => w'.cell? ⟨gb1309,0,none⟩ = some (.string a0_0)∧w'.cell? ⟨gb1309,1,none⟩ = some (.int .i64 a0_1)∧w'.cell? ⟨gb1309,2,none⟩ = some (.int .i64 a0_2)∧w'.cell? ⟨gb1309,3,none⟩ = some (.int .i64 a0_3)∧w'.cell? ⟨gb1309,4,none⟩ = some (.int .i64 a0_4)∧w'.cell? ⟨gb1309,5,none⟩ = some (.int .i64 a0_5)∧w'.cell? ⟨gb1309,6,none⟩ = some (.int .i64 a0_6)∧w'.cell? ⟨gb1309,7,none⟩ = some (.int .i64 a0_7)∧w'.cell? ⟨gb1309,8,none⟩ = some (.string a0_8)∧w'.cell? ⟨gb1309,9,none⟩ = some (.string a0_9)∧w'.cell? ⟨gb1309,10,none⟩ = some (.bool a0_10)∧w'.cell? ⟨gb1310,0,none⟩ = some (.int .i64 a1_0)∧w'.cell? ⟨gb1310,1,none⟩ = some (.int .i64 a1_1)∧w'.cell? ⟨gb1310,2,none⟩ = some (.int .i64 a1_2)∧w'.cell? ⟨gb1310,3,none⟩ = some (.int .i64 a1_3)∧w'.cell? ⟨gb1310,4,none⟩ = some (.int .i64 a1_4)∧w'.cell? ⟨gb1310,5,none⟩ = some (.int .i64 a1_5)∧w'.cell? ⟨gb1310,6,none⟩ = some (.string a1_6)) (ds:=[]) #[false,false,false,false,false,false,false,false,false,false,false,false,false] (by kernel_rfl) rfl rfl (ca11 BK1309.out (cz7 BK1310.out)) (fun hHeld => ?_);refine with_tabW laws_FnExactConnTake.tab9 laws_FnExactConnTake.bits9 (fun HT_ HW_ => ?_)
   generalize w50.drew = w51 at HO1344 BK1309 BK1310 BK1346 HB hHeld ⊢
   refine tU18 (i:=0) (N:=some 37) #[true,false,false,false,false,false,false,false,false,false,false,false,false] (take_ofW HT_.out HW_.out (by kernel_rfl)) hHeld ?_
   refine tU18 (i:=2) (N:=some 39) #[true,false,true,false,false,false,false,false,false,false,false,false,false] (take_ofW HT_.out HW_.out (by kernel_rfl)) hHeld ?_
   refine join_ (σ:=Value × Nat) 3 #[true,true,true,true,true,true,true,true,true,true,false,false,false] (fun s_ => [(38,.agg #[.string t1347,.int .i64 t1348,.int .i64 t1349,.int .i64 t1350,.int .i64 t1351,.int .i64 t1352,.int .i64 t1353,.int .i64 t1354,.string t1355,.string t1356,.bool t1357]),(40,.agg #[.int .i64 t1358,.int .i64 t1359,.int .i64 t1360,.int .i64 t1361,.int .i64 t1362,.int .i64 t1363,.string t1364]),(41,.tuple #[.agg #[.string t1365,.int .i64 t1366,.int .i64 t1367,.int .i64 t1368,.int .i64 t1369,.int .i64 t1370,.int .i64 t1371,.int .i64 t1372,.string t1373,.string t1374,.bool t1375],s_.1,.int .i64 t1379]),(9,.pointer (some ⟨s_.2,0,none⟩)),(36,.tuple #[.agg #[.string t1365,.int .i64 t1366,.int .i64 t1367,.int .i64 t1368,.int .i64 t1369,.int .i64 t1370,.int .i64 t1371,.int .i64 t1372,.string t1373,.string t1374,.bool t1375],s_.1,.int .i64 t1379]),(42,.agg #[.string t1365,.int .i64 t1366,.int .i64 t1367,.int .i64 t1368,.int .i64 t1369,.int .i64 t1370,.int .i64 t1371,.int .i64 t1372,.string t1373,.string t1374,.bool t1375]),(43,s_.1),(44,.int .i64 t1379)]) (fun s_ w' => (w'.cell? ⟨gb1309,0,none⟩ = some (.string a0_0)∧w'.cell? ⟨gb1309,1,none⟩ = some (.int .i64 a0_1)∧w'.cell? ⟨gb1309,2,none⟩ = some (.int .i64 a0_2)∧w'.cell? ⟨gb1309,3,none⟩ = some (.int .i64 a0_3)∧w'.cell? ⟨gb1309,4,none⟩ = some (.int .i64 a0_4)∧w'.cell? ⟨gb1309,5,none⟩ = some (.int .i64 a0_5)∧w'.cell? ⟨gb1309,6,none⟩ = some (.int .i64 a0_6)∧w'.cell? ⟨gb1309,7,none⟩ = some (.int .i64 a0_7)∧w'.cell? ⟨gb1309,8,none⟩ = some (.string a0_8)∧w'.cell? ⟨gb1309,9,none⟩ = some (.string a0_9)∧w'.cell? ⟨gb1309,10,none⟩ = some (.bool a0_10)∧w'.cell? ⟨gb1310,0,none⟩ = some (.int .i64 a1_0)∧w'.cell? ⟨gb1310,1,none⟩ = some (.int .i64 a1_1)∧w'.cell? ⟨gb1310,2,none⟩ = some (.int .i64 a1_2)∧w'.cell? ⟨gb1310,3,none⟩ = some (.int .i64 a1_3)∧w'.cell? ⟨gb1310,4,none⟩ = some (.int .i64 a1_4)∧w'.cell? ⟨gb1310,5,none⟩ = some (.int .i64 a1_5)∧w'.cell? ⟨gb1310,6,none⟩ = some (.string a1_6))∧(Kd.R k53 53 w' w.heap.size (fun k_ => some k_ ≠ (s_.1:Value).ownBlock) v1343 t1342)∧(Kd.R k53 53 w' w.heap.size (fun k_ => some k_ ≠ (v1343:Value).ownBlock) s_.1 t1376)∧(w'.heap[gb1309]? = some (.cells #[.string a0_0,.int .i64 a0_1,.int .i64 a0_2,.int .i64 a0_3,.int .i64 a0_4,.int .i64 a0_5,.int .i64 a0_6,.int .i64 a0_7,.string a0_8,.string a0_9,.bool a0_10] 31 (0,0)))∧(w'.heap[gb1310]? = some (.cells #[.int .i64 a1_0,.int .i64 a1_1,.int .i64 a1_2,.int .i64 a1_3,.int .i64 a1_4,.int .i64 a1_5,.string a1_6] 48 (0,0)))∧(w'.heap[gb1346]? = some (.cells #[.string t1331,.int .i64 t1332,.int .i64 t1333,.int .i64 t1334,.int .i64 t1335,.int .i64 t1336,.int .i64 t1337,.int .i64 t1338,.string t1339,.string t1340,.bool t1341] 34 (0,0)))∧(w'.heap[s_.2]? = some (.cells #[.string (⟨#[]⟩:ByteArray),.int .i64 0,.int .i64 0,.int .i64 0,.int .i64 0,.int .i64 0,.int .i64 0,.int .i64 0,.string (⟨#[]⟩:ByteArray),.string (⟨#[]⟩:ByteArray),.bool false] 34 (0,0)))∧(w.heap.size≤s_.2)∧(w.heap.size≤s_.2)∧(gb1309 ≠ s_.2)∧(s_.2 ≠ gb1309)∧(gb1310 ≠ s_.2)∧(s_.2 ≠ gb1310)∧(gb1346 ≠ s_.2)∧(s_.2 ≠ gb1346)∧(Below w.heap.size w w')) ?_ ?_
   rotate_left
   ·intro hCont
    refine two_ (i:=1) (j:=9) (Ni:=some 38) (Nj:=some 9) #[true,true,true,false,false,false,false,false,false,false,false,false,false] #[true,false,true,false,false,false,false,false,false,true,false,false,false] rfl rfl rfl rfl (two_of HT_.out (by kernel_rfl)) (by decide) (by decide) (fun K hK => ?_) (fun K hK => ?_)
    ·skip
     refine goes_ Try.func24 (by kernel_rfl) rfl #[.agg #[.string a0_0,.int .i64 a0_1,.int .i64 a0_2,.int .i64 a0_3,.int .i64 a0_4,.int .i64 a0_5,.int .i64 a0_6,.int .i64 a0_7,.string a0_8,.string a0_9,.bool a0_10]] (by rfl) rfl rfl (by (try simp only [List.map_toArray,List.map_cons,List.map_nil]);first | done | rfl|(simp only [List.length_drop,List.length_take];rfl)) ?_
     with_reducible refine (laws_toConn.calls a0_0 a0_1 a0_2 a0_3 a0_4 a0_5 a0_6 a0_7 a0_8 a0_9 a0_10 t1347 t1348 t1349 t1350 t1351 t1352 t1353 t1354 t1355 t1356 t1357 _ A22.out).mono ?_
     rintro e w52 ⟨rfl,hb⟩
     refine ⟨_,rfl,?_⟩
     replace HO1344:=aMk (Kd.R_below (kR (HO1344.out)) hb)
     replace BK1309:=aMk (bkB BK1309.out hb)
     replace BK1310:=aMk (bkB BK1310.out hb)
     replace BK1346:=aMk (bkB BK1346.out hb)
     replace HB:=aMk (bU hb)
     (try clear hb)
     (try clear hb2)
     (try clear hk)
     (try clear hi)
     refine hK.out _ _ (ca11 BK1309.out (cz7 BK1310.out)) (fun hHeld => ?_)
     clear hK K
     refine norm_ (a':=?_) ?_ ?_
     rotate_left
     ·show Act.put _ (some 38) _ = _
      simp only [Act.put,List.setIfInBounds_toArray,List.set_cons_zero,List.set_cons_succ,i64_w,i32_w]
      rfl
     refine two_ (i:=3) (j:=9) (Ni:=some 40) (Nj:=some 9) #[true,true,true,true,false,false,false,false,false,false,false,false,false] #[true,true,true,false,false,false,false,false,false,true,false,false,false] rfl rfl rfl rfl (two_of HT_.out (by kernel_rfl)) (by decide) (by decide) (fun K hK => ?_) (fun K hK => ?_)
     ·skip
      refine goes_ Try.func35 (by kernel_rfl) rfl #[.agg #[.int .i64 a1_0,.int .i64 a1_1,.int .i64 a1_2,.int .i64 a1_3,.int .i64 a1_4,.int .i64 a1_5,.string a1_6]] (by rfl) rfl rfl (by (try simp only [List.map_toArray,List.map_cons,List.map_nil]);first | done | rfl|(simp only [List.length_drop,List.length_take];rfl)) ?_
      with_reducible refine (laws_toSegment.calls a1_0 a1_1 a1_2 a1_3 a1_4 a1_5 a1_6 t1358 t1359 t1360 t1361 t1362 t1363 t1364 _ A23.out).mono ?_
      rintro e w53 ⟨rfl,hb⟩
      refine ⟨_,rfl,?_⟩
      replace HO1344:=aMk (Kd.R_below (kR (HO1344.out)) hb)
      replace BK1309:=aMk (bkB BK1309.out hb)
      replace BK1310:=aMk (bkB BK1310.out hb)
      replace BK1346:=aMk (bkB BK1346.out hb)
      replace HB:=aMk (bU hb)
      (try clear hb)
      (try clear hb2)
      (try clear hk)
      (try clear hi)
      refine hK.out _ _ (ca11 BK1309.out (cz7 BK1310.out)) (fun hHeld => ?_)
      clear hK K
      refine norm_ (a':=?_) ?_ ?_
      rotate_left
      ·show Act.put _ (some 40) _ = _
       simp only [Act.put,List.setIfInBounds_toArray,List.set_cons_zero,List.set_cons_succ,i64_w,i32_w]
       rfl
      refine two_ (i:=4) (j:=9) (Ni:=some 41) (Nj:=some 9) #[true,true,true,true,true,false,false,false,false,false,false,false,false] #[true,true,true,true,false,false,false,false,false,true,false,false,false] rfl rfl rfl rfl (two_of HT_.out (by kernel_rfl)) (by decide) (by decide) (fun K hK => ?_) (fun K hK => ?_)
      ·skip
       refine goes_ Try.func58 (by kernel_rfl) rfl #[.agg #[.string t1347,.int .i64 t1348,.int .i64 t1349,.int .i64 t1350,.int .i64 t1351,.int .i64 t1352,.int .i64 t1353,.int .i64 t1354,.string t1355,.string t1356,.bool t1357],.agg #[.int .i64 t1358,.int .i64 t1359,.int .i64 t1360,.int .i64 t1361,.int .i64 t1362,.int .i64 t1363,.string t1364]] (by rfl) rfl rfl (by (try simp only [List.map_toArray,List.map_cons,List.map_nil]);first | done | rfl|(simp only [List.length_drop,List.length_take];rfl)) ?_
       with_reducible refine (impl_ConnTake.calls k t1347 t1348 t1349 t1350 t1351 t1352 t1353 t1354 t1355 t1356 t1357 t1358 t1359 t1360 t1361 t1362 t1363 t1364 t1365 t1366 t1367 t1368 t1369 t1370 t1371 t1372 t1373 t1374 t1375 t1376 t1379 _ A24.out).mono ?_
       rintro e w54 ⟨v1377,rfl,ho0,hb⟩
       refine ⟨_,rfl,?_⟩
       have HO1378:=aMk (Kd.R_lower (Kd.R_new' ho0 (Kd.R_lt (kR (HO1344.out)))) (below_size bW))
       replace HO1344:=aMk (Kd.R_elder' (kR (HO1344.out)) (Kd.R_base ho0) hb)
       replace BK1309:=aMk (bkB BK1309.out hb)
       replace BK1310:=aMk (bkB BK1310.out hb)
       replace BK1346:=aMk (bkB BK1346.out hb)
       replace HB:=aMk (bU hb)
       (try clear hb)
       (try clear hb2)
       (try clear hk)
       (try clear hi)
       (try clear ho0)
       refine hK.out _ _ (ca11 BK1309.out (cz7 BK1310.out)) (fun hHeld => ?_)
       clear hK K
       refine norm_ (a':=?_) ?_ ?_
       rotate_left
       ·show Act.put _ (some 41) _ = _
        simp only [Act.put,List.setIfInBounds_toArray,List.set_cons_zero,List.set_cons_succ,i64_w,i32_w]
        rfl
       refine pU (i:=5) (N:=some 36) #[true,true,true,true,true,true,false,false,false,false,false,false,false] (any_of HT_.out (by kernel_rfl)) ?_
       refine pU (i:=6) (N:=some 42) #[true,true,true,true,true,true,true,false,false,false,false,false,false] (any_of HT_.out (by kernel_rfl)) ?_
       refine pU (i:=7) (N:=some 43) #[true,true,true,true,true,true,true,true,false,false,false,false,false] (any_of HT_.out (by kernel_rfl)) ?_
       refine pU (i:=8) (N:=some 44) #[true,true,true,true,true,true,true,true,true,false,false,false,false] (any_of HT_.out (by kernel_rfl)) ?_
       refine one_ (i:=9) (N:=some 9) #[true,true,true,true,true,true,true,true,true,true,false,false,false] rfl rfl (one_of HT_.out (by kernel_rfl)) (by decide) (fun K hK => ?_)
       refine box_step ?hg (N:=9) ?hd (cs:=#[.string (⟨#[]⟩:ByteArray),.int .i64 0,.int .i64 0,.int .i64 0,.int .i64 0,.int .i64 0,.int .i64 0,.int .i64 0,.string (⟨#[]⟩:ByteArray),.string (⟨#[]⟩:ByteArray),.bool false]) (t:=34) ?hr ?_;(case hd => rfl);(case hg => rfl);(case hr => first|(go_simp;done)|(go_simp;rfl))
       intro gb1380 hg w55 hbox hb
       replace HO1344:=aMk (Kd.R_below (kR (HO1344.out)) hb)
       replace HO1378:=aMk (Kd.R_below (kR (HO1378.out)) hb)
       have BK1380:=aMk (hbox)
       have GW1380:=aMk (bG bW hg)
       have GE1380:=aMk (bG bW hg)
       replace HB:=aMk (bU hb)
       have NB1309_1380:=aMk ((bkL BK1309.out hg:gb1309 ≠ gb1380))
       have NB1380_1309:=aMk ((bkG BK1309.out hg:gb1380 ≠ gb1309))
       replace BK1309:=aMk (bkB BK1309.out hb)
       have NB1310_1380:=aMk ((bkL BK1310.out hg:gb1310 ≠ gb1380))
       have NB1380_1310:=aMk ((bkG BK1310.out hg:gb1380 ≠ gb1310))
       replace BK1310:=aMk (bkB BK1310.out hb)
       have NB1346_1380:=aMk ((bkL BK1346.out hg:gb1346 ≠ gb1380))
       have NB1380_1346:=aMk ((bkG BK1346.out hg:gb1380 ≠ gb1346))
       replace BK1346:=aMk (bkB BK1346.out hb)
       clear hb hbox hg
       refine hK.out _ _ (ca11 BK1309.out (cz7 BK1310.out)) (fun hHeld => ?_)
       clear hK K
       refine norm_ (a':=?_) ?_ ?_
       rotate_left
       ·show Act.put _ (some 9) _ = _
        simp only [Act.put,List.setIfInBounds_toArray,List.set_cons_zero,List.set_cons_succ,i64_w,i32_w]
        rfl
       exact norm_ (by simp only [putAll,Act.put,List.setIfInBounds_toArray,List.set_cons_zero,List.set_cons_succ]) (hCont (v1377,gb1380) _ ⟨hHeld,(kR (Kd.R_mono HO1344.out (fun _ hk => hk.2))),(kR (Kd.R_mono HO1378.out (fun _ hk => hk.2))),(pB BK1309.out),(pB BK1310.out),(pB BK1346.out),(pB BK1380.out),GW1380.out,GE1380.out,NB1309_1380.out,NB1380_1309.out,NB1310_1380.out,NB1380_1310.out,NB1346_1380.out,NB1380_1346.out,bW⟩)
      ·skip
       refine box_step ?hg (N:=9) ?hd (cs:=#[.string (⟨#[]⟩:ByteArray),.int .i64 0,.int .i64 0,.int .i64 0,.int .i64 0,.int .i64 0,.int .i64 0,.int .i64 0,.string (⟨#[]⟩:ByteArray),.string (⟨#[]⟩:ByteArray),.bool false]) (t:=34) ?hr ?_;(case hd => rfl);(case hg => rfl);(case hr => first|(go_simp;done)|(go_simp;rfl))
       intro gb1380 hg w54 hbox hb
       replace HO1344:=aMk (Kd.R_below (kR (HO1344.out)) hb)
       have BK1380:=aMk (hbox)
       have GW1380:=aMk (bG bW hg)
       have GE1380:=aMk (bG bW hg)
       replace HB:=aMk (bU hb)
       have NB1309_1380:=aMk ((bkL BK1309.out hg:gb1309 ≠ gb1380))
       have NB1380_1309:=aMk ((bkG BK1309.out hg:gb1380 ≠ gb1309))
       replace BK1309:=aMk (bkB BK1309.out hb)
       have NB1310_1380:=aMk ((bkL BK1310.out hg:gb1310 ≠ gb1380))
       have NB1380_1310:=aMk ((bkG BK1310.out hg:gb1380 ≠ gb1310))
       replace BK1310:=aMk (bkB BK1310.out hb)
       have NB1346_1380:=aMk ((bkL BK1346.out hg:gb1346 ≠ gb1380))
       have NB1380_1346:=aMk ((bkG BK1346.out hg:gb1380 ≠ gb1346))
       replace BK1346:=aMk (bkB BK1346.out hb)
       clear hb hbox hg
       refine hK.out _ _ (ca11 BK1309.out (cz7 BK1310.out)) (fun hHeld => ?_)
       clear hK K
       refine norm_ (a':=?_) ?_ ?_
       rotate_left
       ·show Act.put _ (some 9) _ = _
        simp only [Act.put,List.setIfInBounds_toArray,List.set_cons_zero,List.set_cons_succ,i64_w,i32_w]
        rfl
       refine one_ (i:=4) (N:=some 41) #[true,true,true,true,true,false,false,false,false,true,false,false,false] rfl rfl (one_of HT_.out (by kernel_rfl)) (by decide) (fun K hK => ?_)
       refine goes_ Try.func58 (by kernel_rfl) rfl #[.agg #[.string t1347,.int .i64 t1348,.int .i64 t1349,.int .i64 t1350,.int .i64 t1351,.int .i64 t1352,.int .i64 t1353,.int .i64 t1354,.string t1355,.string t1356,.bool t1357],.agg #[.int .i64 t1358,.int .i64 t1359,.int .i64 t1360,.int .i64 t1361,.int .i64 t1362,.int .i64 t1363,.string t1364]] (by rfl) rfl rfl (by (try simp only [List.map_toArray,List.map_cons,List.map_nil]);first | done | rfl|(simp only [List.length_drop,List.length_take];rfl)) ?_
       with_reducible refine (impl_ConnTake.calls k t1347 t1348 t1349 t1350 t1351 t1352 t1353 t1354 t1355 t1356 t1357 t1358 t1359 t1360 t1361 t1362 t1363 t1364 t1365 t1366 t1367 t1368 t1369 t1370 t1371 t1372 t1373 t1374 t1375 t1376 t1379 _ A24.out).mono ?_
       rintro e w55 ⟨v1377,rfl,ho0,hb⟩
       refine ⟨_,rfl,?_⟩
       have HO1378:=aMk (Kd.R_lower (Kd.R_new' ho0 (Kd.R_lt (kR (HO1344.out)))) (below_size bW))
       replace HO1344:=aMk (Kd.R_elder' (kR (HO1344.out)) (Kd.R_base ho0) hb)
       replace BK1309:=aMk (bkB BK1309.out hb)
       replace BK1310:=aMk (bkB BK1310.out hb)
       replace BK1346:=aMk (bkB BK1346.out hb)
       replace BK1380:=aMk (bkB BK1380.out hb)
       replace HB:=aMk (bU hb)
       (try clear hb)
       (try clear hb2)
       (try clear hk)
       (try clear hi)
       (try clear ho0)
       refine hK.out _ _ (ca11 BK1309.out (cz7 BK1310.out)) (fun hHeld => ?_)
       clear hK K
       refine norm_ (a':=?_) ?_ ?_
       rotate_left
       ·show Act.put _ (some 41) _ = _
        simp only [Act.put,List.setIfInBounds_toArray,List.set_cons_zero,List.set_cons_succ,i64_w,i32_w]
        rfl
       refine pU (i:=5) (N:=some 36) #[true,true,true,true,true,true,false,false,false,true,false,false,false] (any_of HT_.out (by kernel_rfl)) ?_
       refine pU (i:=6) (N:=some 42) #[true,true,true,true,true,true,true,false,false,true,false,false,false] (any_of HT_.out (by kernel_rfl)) ?_
       refine pU (i:=7) (N:=some 43) #[true,true,true,true,true,true,true,true,false,true,false,false,false] (any_of HT_.out (by kernel_rfl)) ?_
       refine pU (i:=8) (N:=some 44) #[true,true,true,true,true,true,true,true,true,true,false,false,false] (any_of HT_.out (by kernel_rfl)) ?_
       exact norm_ (by simp only [putAll,Act.put,List.setIfInBounds_toArray,List.set_cons_zero,List.set_cons_succ]) (hCont (v1377,gb1380) _ ⟨hHeld,(kR (Kd.R_mono HO1344.out (fun _ hk => hk.2))),(kR (Kd.R_mono HO1378.out (fun _ hk => hk.2))),(pB BK1309.out),(pB BK1310.out),(pB BK1346.out),(pB BK1380.out),GW1380.out,GE1380.out,NB1309_1380.out,NB1380_1309.out,NB1310_1380.out,NB1380_1310.out,NB1346_1380.out,NB1380_1346.out,bW⟩)
     ·skip
      refine box_step ?hg (N:=9) ?hd (cs:=#[.string (⟨#[]⟩:ByteArray),.int .i64 0,.int .i64 0,.int .i64 0,.int .i64 0,.int .i64 0,.int .i64 0,.int .i64 0,.string (⟨#[]⟩:ByteArray),.string (⟨#[]⟩:ByteArray),.bool false]) (t:=34) ?hr ?_;(case hd => rfl);(case hg => rfl);(case hr => first|(go_simp;done)|(go_simp;rfl))
      intro gb1380 hg w53 hbox hb
      replace HO1344:=aMk (Kd.R_below (kR (HO1344.out)) hb)
      have BK1380:=aMk (hbox)
      have GW1380:=aMk (bG bW hg)
      have GE1380:=aMk (bG bW hg)
      replace HB:=aMk (bU hb)
      have NB1309_1380:=aMk ((bkL BK1309.out hg:gb1309 ≠ gb1380))
      have NB1380_1309:=aMk ((bkG BK1309.out hg:gb1380 ≠ gb1309))
      replace BK1309:=aMk (bkB BK1309.out hb)
      have NB1310_1380:=aMk ((bkL BK1310.out hg:gb1310 ≠ gb1380))
      have NB1380_1310:=aMk ((bkG BK1310.out hg:gb1380 ≠ gb1310))
      replace BK1310:=aMk (bkB BK1310.out hb)
      have NB1346_1380:=aMk ((bkL BK1346.out hg:gb1346 ≠ gb1380))
      have NB1380_1346:=aMk ((bkG BK1346.out hg:gb1380 ≠ gb1346))
      replace BK1346:=aMk (bkB BK1346.out hb)
      clear hb hbox hg
      refine hK.out _ _ (ca11 BK1309.out (cz7 BK1310.out)) (fun hHeld => ?_)
      clear hK K
      refine norm_ (a':=?_) ?_ ?_
      rotate_left
      ·show Act.put _ (some 9) _ = _
       simp only [Act.put,List.setIfInBounds_toArray,List.set_cons_zero,List.set_cons_succ,i64_w,i32_w]
       rfl
      refine one_ (i:=3) (N:=some 40) #[true,true,true,true,false,false,false,false,false,true,false,false,false] rfl rfl (one_of HT_.out (by kernel_rfl)) (by decide) (fun K hK => ?_)
      refine goes_ Try.func35 (by kernel_rfl) rfl #[.agg #[.int .i64 a1_0,.int .i64 a1_1,.int .i64 a1_2,.int .i64 a1_3,.int .i64 a1_4,.int .i64 a1_5,.string a1_6]] (by rfl) rfl rfl (by (try simp only [List.map_toArray,List.map_cons,List.map_nil]);first | done | rfl|(simp only [List.length_drop,List.length_take];rfl)) ?_
      with_reducible refine (laws_toSegment.calls a1_0 a1_1 a1_2 a1_3 a1_4 a1_5 a1_6 t1358 t1359 t1360 t1361 t1362 t1363 t1364 _ A23.out).mono ?_
      rintro e w54 ⟨rfl,hb⟩
      refine ⟨_,rfl,?_⟩
      replace HO1344:=aMk (Kd.R_below (kR (HO1344.out)) hb)
      replace BK1309:=aMk (bkB BK1309.out hb)
      replace BK1310:=aMk (bkB BK1310.out hb)
      replace BK1346:=aMk (bkB BK1346.out hb)
      replace BK1380:=aMk (bkB BK1380.out hb)
      replace HB:=aMk (bU hb)
      (try clear hb)
      (try clear hb2)
      (try clear hk)
      (try clear hi)
      refine hK.out _ _ (ca11 BK1309.out (cz7 BK1310.out)) (fun hHeld => ?_)
      clear hK K
      refine norm_ (a':=?_) ?_ ?_
      rotate_left
      ·show Act.put _ (some 40) _ = _
       simp only [Act.put,List.setIfInBounds_toArray,List.set_cons_zero,List.set_cons_succ,i64_w,i32_w]
       rfl
      refine one_ (i:=4) (N:=some 41) #[true,true,true,true,true,false,false,false,false,true,false,false,false] rfl rfl (one_of HT_.out (by kernel_rfl)) (by decide) (fun K hK => ?_)
      refine goes_ Try.func58 (by kernel_rfl) rfl #[.agg #[.string t1347,.int .i64 t1348,.int .i64 t1349,.int .i64 t1350,.int .i64 t1351,.int .i64 t1352,.int .i64 t1353,.int .i64 t1354,.string t1355,.string t1356,.bool t1357],.agg #[.int .i64 t1358,.int .i64 t1359,.int .i64 t1360,.int .i64 t1361,.int .i64 t1362,.int .i64 t1363,.string t1364]] (by rfl) rfl rfl (by (try simp only [List.map_toArray,List.map_cons,List.map_nil]);first | done | rfl|(simp only [List.length_drop,List.length_take];rfl)) ?_
      with_reducible refine (impl_ConnTake.calls k t1347 t1348 t1349 t1350 t1351 t1352 t1353 t1354 t1355 t1356 t1357 t1358 t1359 t1360 t1361 t1362 t1363 t1364 t1365 t1366 t1367 t1368 t1369 t1370 t1371 t1372 t1373 t1374 t1375 t1376 t1379 _ A24.out).mono ?_
      rintro e w55 ⟨v1377,rfl,ho0,hb⟩
      refine ⟨_,rfl,?_⟩
      have HO1378:=aMk (Kd.R_lower (Kd.R_new' ho0 (Kd.R_lt (kR (HO1344.out)))) (below_size bW))
      replace HO1344:=aMk (Kd.R_elder' (kR (HO1344.out)) (Kd.R_base ho0) hb)
      replace BK1309:=aMk (bkB BK1309.out hb)
      replace BK1310:=aMk (bkB BK1310.out hb)
      replace BK1346:=aMk (bkB BK1346.out hb)
      replace BK1380:=aMk (bkB BK1380.out hb)
      replace HB:=aMk (bU hb)
      (try clear hb)
      (try clear hb2)
      (try clear hk)
      (try clear hi)
      (try clear ho0)
      refine hK.out _ _ (ca11 BK1309.out (cz7 BK1310.out)) (fun hHeld => ?_)
      clear hK K
      refine norm_ (a':=?_) ?_ ?_
      rotate_left
      ·show Act.put _ (some 41) _ = _
       simp only [Act.put,List.setIfInBounds_toArray,List.set_cons_zero,List.set_cons_succ,i64_w,i32_w]
       rfl
      refine pU (i:=5) (N:=some 36) #[true,true,true,true,true,true,false,false,false,true,false,false,false] (any_of HT_.out (by kernel_rfl)) ?_
      refine pU (i:=6) (N:=some 42) #[true,true,true,true,true,true,true,false,false,true,false,false,false] (any_of HT_.out (by kernel_rfl)) ?_
      refine pU (i:=7) (N:=some 43) #[true,true,true,true,true,true,true,true,false,true,false,false,false] (any_of HT_.out (by kernel_rfl)) ?_
      refine pU (i:=8) (N:=some 44) #[true,true,true,true,true,true,true,true,true,true,false,false,false] (any_of HT_.out (by kernel_rfl)) ?_
      exact norm_ (by simp only [putAll,Act.put,List.setIfInBounds_toArray,List.set_cons_zero,List.set_cons_succ]) (hCont (v1377,gb1380) _ ⟨hHeld,(kR (Kd.R_mono HO1344.out (fun _ hk => hk.2))),(kR (Kd.R_mono HO1378.out (fun _ hk => hk.2))),(pB BK1309.out),(pB BK1310.out),(pB BK1346.out),(pB BK1380.out),GW1380.out,GE1380.out,NB1309_1380.out,NB1380_1309.out,NB1310_1380.out,NB1380_1310.out,NB1346_1380.out,NB1380_1346.out,bW⟩)
    ·skip
     refine box_step ?hg (N:=9) ?hd (cs:=#[.string (⟨#[]⟩:ByteArray),.int .i64 0,.int .i64 0,.int .i64 0,.int .i64 0,.int .i64 0,.int .i64 0,.int .i64 0,.string (⟨#[]⟩:ByteArray),.string (⟨#[]⟩:ByteArray),.bool false]) (t:=34) ?hr ?_;(case hd => rfl);(case hg => rfl);(case hr => first|(go_simp;done)|(go_simp;rfl))
     intro gb1380 hg w52 hbox hb
     replace HO1344:=aMk (Kd.R_below (kR (HO1344.out)) hb)
     have BK1380:=aMk (hbox)
     have GW1380:=aMk (bG bW hg)
     have GE1380:=aMk (bG bW hg)
     replace HB:=aMk (bU hb)
     have NB1309_1380:=aMk ((bkL BK1309.out hg:gb1309 ≠ gb1380))
     have NB1380_1309:=aMk ((bkG BK1309.out hg:gb1380 ≠ gb1309))
     replace BK1309:=aMk (bkB BK1309.out hb)
     have NB1310_1380:=aMk ((bkL BK1310.out hg:gb1310 ≠ gb1380))
     have NB1380_1310:=aMk ((bkG BK1310.out hg:gb1380 ≠ gb1310))
     replace BK1310:=aMk (bkB BK1310.out hb)
     have NB1346_1380:=aMk ((bkL BK1346.out hg:gb1346 ≠ gb1380))
     have NB1380_1346:=aMk ((bkG BK1346.out hg:gb1380 ≠ gb1346))
     replace BK1346:=aMk (bkB BK1346.out hb)
     clear hb hbox hg
     refine hK.out _ _ (ca11 BK1309.out (cz7 BK1310.out)) (fun hHeld => ?_)
     clear hK K
     refine norm_ (a':=?_) ?_ ?_
     rotate_left
     ·show Act.put _ (some 9) _ = _
      simp only [Act.put,List.setIfInBounds_toArray,List.set_cons_zero,List.set_cons_succ,i64_w,i32_w]
      rfl
     refine one_ (i:=1) (N:=some 38) #[true,true,true,false,false,false,false,false,false,true,false,false,false] rfl rfl (one_of HT_.out (by kernel_rfl)) (by decide) (fun K hK => ?_)
     refine goes_ Try.func24 (by kernel_rfl) rfl #[.agg #[.string a0_0,.int .i64 a0_1,.int .i64 a0_2,.int .i64 a0_3,.int .i64 a0_4,.int .i64 a0_5,.int .i64 a0_6,.int .i64 a0_7,.string a0_8,.string a0_9,.bool a0_10]] (by rfl) rfl rfl (by (try simp only [List.map_toArray,List.map_cons,List.map_nil]);first | done | rfl|(simp only [List.length_drop,List.length_take];rfl)) ?_
     with_reducible refine (laws_toConn.calls a0_0 a0_1 a0_2 a0_3 a0_4 a0_5 a0_6 a0_7 a0_8 a0_9 a0_10 t1347 t1348 t1349 t1350 t1351 t1352 t1353 t1354 t1355 t1356 t1357 _ A22.out).mono ?_
     rintro e w53 ⟨rfl,hb⟩
     refine ⟨_,rfl,?_⟩
     replace HO1344:=aMk (Kd.R_below (kR (HO1344.out)) hb)
     replace BK1309:=aMk (bkB BK1309.out hb)
     replace BK1310:=aMk (bkB BK1310.out hb)
     replace BK1346:=aMk (bkB BK1346.out hb)
     replace BK1380:=aMk (bkB BK1380.out hb)
     replace HB:=aMk (bU hb)
     (try clear hb)
     (try clear hb2)
     (try clear hk)
     (try clear hi)
     refine hK.out _ _ (ca11 BK1309.out (cz7 BK1310.out)) (fun hHeld => ?_)
     clear hK K
     refine norm_ (a':=?_) ?_ ?_
     rotate_left
     ·show Act.put _ (some 38) _ = _
      simp only [Act.put,List.setIfInBounds_toArray,List.set_cons_zero,List.set_cons_succ,i64_w,i32_w]
      rfl
     refine one_ (i:=3) (N:=some 40) #[true,true,true,true,false,false,false,false,false,true,false,false,false] rfl rfl (one_of HT_.out (by kernel_rfl)) (by decide) (fun K hK => ?_)
     refine goes_ Try.func35 (by kernel_rfl) rfl #[.agg #[.int .i64 a1_0,.int .i64 a1_1,.int .i64 a1_2,.int .i64 a1_3,.int .i64 a1_4,.int .i64 a1_5,.string a1_6]] (by rfl) rfl rfl (by (try simp only [List.map_toArray,List.map_cons,List.map_nil]);first | done | rfl|(simp only [List.length_drop,List.length_take];rfl)) ?_
     with_reducible refine (laws_toSegment.calls a1_0 a1_1 a1_2 a1_3 a1_4 a1_5 a1_6 t1358 t1359 t1360 t1361 t1362 t1363 t1364 _ A23.out).mono ?_
     rintro e w54 ⟨rfl,hb⟩
     refine ⟨_,rfl,?_⟩
     replace HO1344:=aMk (Kd.R_below (kR (HO1344.out)) hb)
     replace BK1309:=aMk (bkB BK1309.out hb)
     replace BK1310:=aMk (bkB BK1310.out hb)
     replace BK1346:=aMk (bkB BK1346.out hb)
     replace BK1380:=aMk (bkB BK1380.out hb)
     replace HB:=aMk (bU hb)
     (try clear hb)
     (try clear hb2)
     (try clear hk)
     (try clear hi)
     refine hK.out _ _ (ca11 BK1309.out (cz7 BK1310.out)) (fun hHeld => ?_)
     clear hK K
     refine norm_ (a':=?_) ?_ ?_
     rotate_left
     ·show Act.put _ (some 40) _ = _
      simp only [Act.put,List.setIfInBounds_toArray,List.set_cons_zero,List.set_cons_succ,i64_w,i32_w]
      rfl
     refine one_ (i:=4) (N:=some 41) #[true,true,true,true,true,false,false,false,false,true,false,false,false] rfl rfl (one_of HT_.out (by kernel_rfl)) (by decide) (fun K hK => ?_)
     refine goes_ Try.func58 (by kernel_rfl) rfl #[.agg #[.string t1347,.int .i64 t1348,.int .i64 t1349,.int .i64 t1350,.int .i64 t1351,.int .i64 t1352,.int .i64 t1353,.int .i64 t1354,.string t1355,.string t1356,.bool t1357],.agg #[.int .i64 t1358,.int .i64 t1359,.int .i64 t1360,.int .i64 t1361,.int .i64 t1362,.int .i64 t1363,.string t1364]] (by rfl) rfl rfl (by (try simp only [List.map_toArray,List.map_cons,List.map_nil]);first | done | rfl|(simp only [List.length_drop,List.length_take];rfl)) ?_
     with_reducible refine (impl_ConnTake.calls k t1347 t1348 t1349 t1350 t1351 t1352 t1353 t1354 t1355 t1356 t1357 t1358 t1359 t1360 t1361 t1362 t1363 t1364 t1365 t1366 t1367 t1368 t1369 t1370 t1371 t1372 t1373 t1374 t1375 t1376 t1379 _ A24.out).mono ?_
     rintro e w55 ⟨v1377,rfl,ho0,hb⟩
     refine ⟨_,rfl,?_⟩
     have HO1378:=aMk (Kd.R_lower (Kd.R_new' ho0 (Kd.R_lt (kR (HO1344.out)))) (below_size bW))
     replace HO1344:=aMk (Kd.R_elder' (kR (HO1344.out)) (Kd.R_base ho0) hb)
     replace BK1309:=aMk (bkB BK1309.out hb)
     replace BK1310:=aMk (bkB BK1310.out hb)
     replace BK1346:=aMk (bkB BK1346.out hb)
     replace BK1380:=aMk (bkB BK1380.out hb)
     replace HB:=aMk (bU hb)
     (try clear hb)
     (try clear hb2)
     (try clear hk)
     (try clear hi)
     (try clear ho0)
     refine hK.out _ _ (ca11 BK1309.out (cz7 BK1310.out)) (fun hHeld => ?_)
     clear hK K
     refine norm_ (a':=?_) ?_ ?_
     rotate_left
     ·show Act.put _ (some 41) _ = _
      simp only [Act.put,List.setIfInBounds_toArray,List.set_cons_zero,List.set_cons_succ,i64_w,i32_w]
      rfl
     refine pU (i:=5) (N:=some 36) #[true,true,true,true,true,true,false,false,false,true,false,false,false] (any_of HT_.out (by kernel_rfl)) ?_
     refine pU (i:=6) (N:=some 42) #[true,true,true,true,true,true,true,false,false,true,false,false,false] (any_of HT_.out (by kernel_rfl)) ?_
     refine pU (i:=7) (N:=some 43) #[true,true,true,true,true,true,true,true,false,true,false,false,false] (any_of HT_.out (by kernel_rfl)) ?_
     refine pU (i:=8) (N:=some 44) #[true,true,true,true,true,true,true,true,true,true,false,false,false] (any_of HT_.out (by kernel_rfl)) ?_
     exact norm_ (by simp only [putAll,Act.put,List.setIfInBounds_toArray,List.set_cons_zero,List.set_cons_succ]) (hCont (v1377,gb1380) _ ⟨hHeld,(kR (Kd.R_mono HO1344.out (fun _ hk => hk.2))),(kR (Kd.R_mono HO1378.out (fun _ hk => hk.2))),(pB BK1309.out),(pB BK1310.out),(pB BK1346.out),(pB BK1380.out),GW1380.out,GE1380.out,NB1309_1380.out,NB1380_1309.out,NB1310_1380.out,NB1380_1310.out,NB1346_1380.out,NB1380_1346.out,bW⟩)
   rintro ⟨v1377,gb1380⟩ w56 ⟨hS_,h0_,h1_,h2_,h3_,h4_,h5_,h6_,h7_,h8_,h9_,h10_,h11_,h12_,h13_,h14_⟩
   have n0_:Aside0 (Kd.R k53 53 w56 w.heap.size (fun k_ => some k_ ≠ (v1377:Value).ownBlock) v1343 t1342):=⟨h0_⟩
   have n1_:Aside0 (Kd.R k53 53 w56 w.heap.size (fun k_ => some k_ ≠ (v1343:Value).ownBlock) v1377 t1376):=⟨h1_⟩
   have n2_:Aside0 (w56.heap[gb1309]? = some (.cells #[.string a0_0,.int .i64 a0_1,.int .i64 a0_2,.int .i64 a0_3,.int .i64 a0_4,.int .i64 a0_5,.int .i64 a0_6,.int .i64 a0_7,.string a0_8,.string a0_9,.bool a0_10] 31 (0,0))):=⟨h2_⟩
   have n3_:Aside0 (w56.heap[gb1310]? = some (.cells #[.int .i64 a1_0,.int .i64 a1_1,.int .i64 a1_2,.int .i64 a1_3,.int .i64 a1_4,.int .i64 a1_5,.string a1_6] 48 (0,0))):=⟨h3_⟩
   have n4_:Aside0 (w56.heap[gb1346]? = some (.cells #[.string t1331,.int .i64 t1332,.int .i64 t1333,.int .i64 t1334,.int .i64 t1335,.int .i64 t1336,.int .i64 t1337,.int .i64 t1338,.string t1339,.string t1340,.bool t1341] 34 (0,0))):=⟨h4_⟩
   have n5_:Aside0 (w56.heap[gb1380]? = some (.cells #[.string (⟨#[]⟩:ByteArray),.int .i64 0,.int .i64 0,.int .i64 0,.int .i64 0,.int .i64 0,.int .i64 0,.int .i64 0,.string (⟨#[]⟩:ByteArray),.string (⟨#[]⟩:ByteArray),.bool false] 34 (0,0))):=⟨h5_⟩
   have n6_:Aside0 (w.heap.size≤gb1380):=⟨h6_⟩
   have n7_:Aside0 (w.heap.size≤gb1380):=⟨h7_⟩
   have n8_:Aside0 (gb1309 ≠ gb1380):=⟨h8_⟩
   have n9_:Aside0 (gb1380 ≠ gb1309):=⟨h9_⟩
   have n10_:Aside0 (gb1310 ≠ gb1380):=⟨h10_⟩
   have n11_:Aside0 (gb1380 ≠ gb1310):=⟨h11_⟩
   have n12_:Aside0 (gb1346 ≠ gb1380):=⟨h12_⟩
   have n13_:Aside0 (gb1380 ≠ gb1346):=⟨h13_⟩
   have n14_:Aside0 (Below w.heap.size w w56):=⟨h14_⟩
   clear HO1344
   clear BK1309
   clear BK1310
   clear BK1346
   clear HB
   clear h0_ h1_ h2_ h3_ h4_ h5_ h6_ h7_ h8_ h9_ h10_ h11_ h12_ h13_ h14_
   have HO1344:=n0_
   have HO1378:=n1_
   have BK1309:=n2_
   have BK1310:=n3_
   have BK1346:=n4_
   have BK1380:=n5_
   have GW1380:=n6_
   have GE1380:=n7_
   have NB1309_1380:=n8_
   have NB1380_1309:=n9_
   have NB1310_1380:=n10_
   have NB1380_1310:=n11_
   have NB1346_1380:=n12_
   have NB1380_1346:=n13_
   have HB:=n14_
   clear n0_ n1_ n2_ n3_ n4_ n5_ n6_ n7_ n8_ n9_ n10_ n11_ n12_ n13_ n14_
   have hHeld:w56.cell? ⟨gb1309,0,none⟩ = some (.string a0_0)∧w56.cell? ⟨gb1309,1,none⟩ = some (.int .i64 a0_1)∧w56.cell? ⟨gb1309,2,none⟩ = some (.int .i64 a0_2)∧w56.cell? ⟨gb1309,3,none⟩ = some (.int .i64 a0_3)∧w56.cell? ⟨gb1309,4,none⟩ = some (.int .i64 a0_4)∧w56.cell? ⟨gb1309,5,none⟩ = some (.int .i64 a0_5)∧w56.cell? ⟨gb1309,6,none⟩ = some (.int .i64 a0_6)∧w56.cell? ⟨gb1309,7,none⟩ = some (.int .i64 a0_7)∧w56.cell? ⟨gb1309,8,none⟩ = some (.string a0_8)∧w56.cell? ⟨gb1309,9,none⟩ = some (.string a0_9)∧w56.cell? ⟨gb1309,10,none⟩ = some (.bool a0_10)∧w56.cell? ⟨gb1310,0,none⟩ = some (.int .i64 a1_0)∧w56.cell? ⟨gb1310,1,none⟩ = some (.int .i64 a1_1)∧w56.cell? ⟨gb1310,2,none⟩ = some (.int .i64 a1_2)∧w56.cell? ⟨gb1310,3,none⟩ = some (.int .i64 a1_3)∧w56.cell? ⟨gb1310,4,none⟩ = some (.int .i64 a1_4)∧w56.cell? ⟨gb1310,5,none⟩ = some (.int .i64 a1_5)∧w56.cell? ⟨gb1310,6,none⟩ = some (.string a1_6):=hS_
   refine norm_ (a':=?_) ?_ ?_
   rotate_left
   ·simp only [putAll,Act.put,List.setIfInBounds_toArray,List.set_cons_zero,List.set_cons_succ]
    rfl
   refine one_ (i:=10) (N:=none) #[true,true,true,true,true,true,true,true,true,true,true,false,false] rfl rfl (one_of HT_.out (by kernel_rfl)) (by decide) (fun K hK => ?_)
   have hs57:w56.cell? ⟨gb1380,0,none⟩ = some (.string (⟨#[]⟩:ByteArray)):=(bCe BK1380.out 0).trans rfl
   have hfs57:=bFr BK1380.out 0
   have hns57_0:=NB1309_1380.out
   have hns57_1:=NB1310_1380.out
   have hns57_2:=NB1346_1380.out
   have hms57_0:=NB1380_1309.out
   have hms57_1:=NB1380_1310.out
   have hms57_2:=NB1380_1346.out
   have hs58:w56.cell? ⟨gb1380,1,none⟩ = some (.int .i64 0):=(bCe BK1380.out 1).trans rfl
   have hfs58:=bFr BK1380.out 1
   have hns58_0:=NB1309_1380.out
   have hns58_1:=NB1310_1380.out
   have hns58_2:=NB1346_1380.out
   have hms58_0:=NB1380_1309.out
   have hms58_1:=NB1380_1310.out
   have hms58_2:=NB1380_1346.out
   have hs59:w56.cell? ⟨gb1380,2,none⟩ = some (.int .i64 0):=(bCe BK1380.out 2).trans rfl
   have hfs59:=bFr BK1380.out 2
   have hns59_0:=NB1309_1380.out
   have hns59_1:=NB1310_1380.out
   have hns59_2:=NB1346_1380.out
   have hms59_0:=NB1380_1309.out
   have hms59_1:=NB1380_1310.out
   have hms59_2:=NB1380_1346.out
   have hs60:w56.cell? ⟨gb1380,3,none⟩ = some (.int .i64 0):=(bCe BK1380.out 3).trans rfl
   have hfs60:=bFr BK1380.out 3
   have hns60_0:=NB1309_1380.out
   have hns60_1:=NB1310_1380.out
   have hns60_2:=NB1346_1380.out
   have hms60_0:=NB1380_1309.out
   have hms60_1:=NB1380_1310.out
   have hms60_2:=NB1380_1346.out
   have hs61:w56.cell? ⟨gb1380,4,none⟩ = some (.int .i64 0):=(bCe BK1380.out 4).trans rfl
   have hfs61:=bFr BK1380.out 4
   have hns61_0:=NB1309_1380.out
   have hns61_1:=NB1310_1380.out
   have hns61_2:=NB1346_1380.out
   have hms61_0:=NB1380_1309.out
   have hms61_1:=NB1380_1310.out
   have hms61_2:=NB1380_1346.out
   have hs62:w56.cell? ⟨gb1380,5,none⟩ = some (.int .i64 0):=(bCe BK1380.out 5).trans rfl
   have hfs62:=bFr BK1380.out 5
   have hns62_0:=NB1309_1380.out
   have hns62_1:=NB1310_1380.out
   have hns62_2:=NB1346_1380.out
   have hms62_0:=NB1380_1309.out
   have hms62_1:=NB1380_1310.out
   have hms62_2:=NB1380_1346.out
   have hs63:w56.cell? ⟨gb1380,6,none⟩ = some (.int .i64 0):=(bCe BK1380.out 6).trans rfl
   have hfs63:=bFr BK1380.out 6
   have hns63_0:=NB1309_1380.out
   have hns63_1:=NB1310_1380.out
   have hns63_2:=NB1346_1380.out
   have hms63_0:=NB1380_1309.out
   have hms63_1:=NB1380_1310.out
   have hms63_2:=NB1380_1346.out
   have hs64:w56.cell? ⟨gb1380,7,none⟩ = some (.int .i64 0):=(bCe BK1380.out 7).trans rfl
   have hfs64:=bFr BK1380.out 7
   have hns64_0:=NB1309_1380.out
   have hns64_1:=NB1310_1380.out
   have hns64_2:=NB1346_1380.out
   have hms64_0:=NB1380_1309.out
   have hms64_1:=NB1380_1310.out
   have hms64_2:=NB1380_1346.out
   have hs65:w56.cell? ⟨gb1380,8,none⟩ = some (.string (⟨#[]⟩:ByteArray)):=(bCe BK1380.out 8).trans rfl
   have hfs65:=bFr BK1380.out 8
   have hns65_0:=NB1309_1380.out
   have hns65_1:=NB1310_1380.out
   have hns65_2:=NB1346_1380.out
   have hms65_0:=NB1380_1309.out
   have hms65_1:=NB1380_1310.out
   have hms65_2:=NB1380_1346.out
   have hs66:w56.cell? ⟨gb1380,9,none⟩ = some (.string (⟨#[]⟩:ByteArray)):=(bCe BK1380.out 9).trans rfl
   have hfs66:=bFr BK1380.out 9
   have hns66_0:=NB1309_1380.out
   have hns66_1:=NB1310_1380.out
   have hns66_2:=NB1346_1380.out
   have hms66_0:=NB1380_1309.out
   have hms66_1:=NB1380_1310.out
   have hms66_2:=NB1380_1346.out
   have hs67:w56.cell? ⟨gb1380,10,none⟩ = some (.bool false):=(bCe BK1380.out 10).trans rfl
   have hfs67:=bFr BK1380.out 10
   have hns67_0:=NB1309_1380.out
   have hns67_1:=NB1310_1380.out
   have hns67_2:=NB1346_1380.out
   have hms67_0:=NB1380_1309.out
   have hms67_1:=NB1380_1310.out
   have hms67_2:=NB1380_1346.out
   refine skip_ (w1:=?_) (by rfl) rfl ?_ ?_
   rotate_left
   ·go_simp
    rfl
   refine hK.out _ _ ⟨(cF11 NB1309_1380.out (hHeld.1)),(cF11 NB1309_1380.out (hHeld.2.1)),(cF11 NB1309_1380.out (hHeld.2.2.1)),(cF11 NB1309_1380.out (hHeld.2.2.2.1)),(cF11 NB1309_1380.out (hHeld.2.2.2.2.1)),(cF11 NB1309_1380.out (hHeld.2.2.2.2.2.1)),(cF11 NB1309_1380.out (hHeld.2.2.2.2.2.2.1)),(cF11 NB1309_1380.out (hHeld.2.2.2.2.2.2.2.1)),(cF11 NB1309_1380.out (hHeld.2.2.2.2.2.2.2.2.1)),(cF11 NB1309_1380.out (hHeld.2.2.2.2.2.2.2.2.2.1)),(cF11 NB1309_1380.out (hHeld.2.2.2.2.2.2.2.2.2.2.1)),(cF11 NB1310_1380.out (hHeld.2.2.2.2.2.2.2.2.2.2.2.1)),(cF11 NB1310_1380.out (hHeld.2.2.2.2.2.2.2.2.2.2.2.2.1)),(cF11 NB1310_1380.out (hHeld.2.2.2.2.2.2.2.2.2.2.2.2.2.1)),(cF11 NB1310_1380.out (hHeld.2.2.2.2.2.2.2.2.2.2.2.2.2.2.1)),(cF11 NB1310_1380.out (hHeld.2.2.2.2.2.2.2.2.2.2.2.2.2.2.2.1)),(cF11 NB1310_1380.out (hHeld.2.2.2.2.2.2.2.2.2.2.2.2.2.2.2.2.1)),(cF11 NB1310_1380.out (hHeld.2.2.2.2.2.2.2.2.2.2.2.2.2.2.2.2.2))⟩ (fun hHeld => ?_)
   clear hK K
   refine pU (i:=11) (N:=some 10) #[true,true,true,true,true,true,true,true,true,true,true,true,false] (any_of HT_.out (by kernel_rfl)) ?_
   refine pU (i:=12) (N:=some 11) #[true,true,true,true,true,true,true,true,true,true,true,true,true] (any_of HT_.out (by kernel_rfl)) ?_
   refine done_ (done_of HT_.out (by kernel_rfl)) ?_
   go_upto_region 10 with (fail)
   go_cut [59] (fun v59 wc => ∃ (kq:Nat) (x59_24:Bool),v59 = .bool x59_24∧Aside0 (laws_FnExactConnTake.j0 kq t1342 t1345 t1376 x59_24 a0_0 a0_1 a0_2 a0_3 a0_4 a0_5 a0_6 a0_7 a0_8 a0_9 a0_10 a1_0 a1_1 a1_2 a1_3 a1_4 a1_5 a1_6 t1331 t1332 t1333 t1334 t1335 t1336 t1337 t1338 t1339 t1340 t1341 = some r)∧Aside0 (kq≤k)∧Aside0 (Kd.R k53 53 wc w.heap.size (fun k_ => some k_ ≠ (v1377:Value).ownBlock) v1343 t1342)∧Aside0 (Kd.R k53 53 wc w.heap.size (fun k_ => some k_ ≠ (v1343:Value).ownBlock) v1377 t1376)∧Aside0 (wc.heap[gb1309]? = some (.cells #[.string a0_0,.int .i64 a0_1,.int .i64 a0_2,.int .i64 a0_3,.int .i64 a0_4,.int .i64 a0_5,.int .i64 a0_6,.int .i64 a0_7,.string a0_8,.string a0_9,.bool a0_10] 31 (0,0)))∧Aside0 (wc.heap[gb1310]? = some (.cells #[.int .i64 a1_0,.int .i64 a1_1,.int .i64 a1_2,.int .i64 a1_3,.int .i64 a1_4,.int .i64 a1_5,.string a1_6] 48 (0,0)))∧Aside0 (wc.heap[gb1346]? = some (.cells #[.string t1331,.int .i64 t1332,.int .i64 t1333,.int .i64 t1334,.int .i64 t1335,.int .i64 t1336,.int .i64 t1337,.int .i64 t1338,.string t1339,.string t1340,.bool t1341] 34 (0,0)))∧Aside0 (wc.heap[gb1380]? = some (.cells #[.string t1365,.int .i64 t1366,.int .i64 t1367,.int .i64 t1368,.int .i64 t1369,.int .i64 t1370,.int .i64 t1371,.int .i64 t1372,.string t1373,.string t1374,.bool t1375] 34 (0,0)))∧Aside0 (Below w.heap.size w wc))
   case first =>
    have H:=HC25.out
    clear HC25
    replace H:=Option.bind_eq_some_iff.mp H
    obtain ⟨t1381,A680,H⟩:=H
    try dsimp only at H
    have A68:=aMk A680
    clear A680
    by_cases c69:t1381 = true
    ·subst c69
     have H1:=H
     rw [if_pos rfl] at H1
     clear H
     have H:=H1
     clear H1
     replace H:=Option.bind_eq_some_iff.mp H
     obtain ⟨t1382,A700,H⟩:=H
     try dsimp only at H
     have A70:=aMk A700
     clear A700
     by_cases c71:t1382 = true
     ·subst c71
      have H1:=H
      rw [if_pos rfl] at H1
      clear H
      have H:=H1
      clear H1
      have H':=aMk H
      clear H
      have hnb72:=NB1380_1309.out
      have hnc72:=NB1309_1380.out
      have hnb73:=NB1380_1310.out
      have hnc73:=NB1310_1380.out
      have hnb74:=NB1380_1346.out
      have hnc74:=NB1346_1380.out
      obtain ⟨Z75_0,Z75_1,Z75_2,Z75_3,Z75_4,Z75_5,Z75_6,Z75_7,Z75_8,Z75_9,Z75_10,Y75_0,Y75_1,Y75_2,Y75_3,Y75_4,Y75_5,Y75_6,Y75_7,Y75_8,Y75_9,Y75_10⟩:=bC11 BK1380.out
      have hnb76:=NB1346_1309.out
      have hnc76:=NB1309_1346.out
      have hnb77:=NB1346_1310.out
      have hnc77:=NB1310_1346.out
      obtain ⟨Z78_0,Z78_1,Z78_2,Z78_3,Z78_4,Z78_5,Z78_6,Z78_7,Z78_8,Z78_9,Z78_10,Y78_0,Y78_1,Y78_2,Y78_3,Y78_4,Y78_5,Y78_6,Y78_7,Y78_8,Y78_9,Y78_10⟩:=bC11 BK1346.out
      go_wp2_with (first|((with_reducible refine gate_callee (f:=37) rfl ?_);refine gLs 47 Try.func37 #[.agg #[.string t1365,.int .i64 t1366,.int .i64 t1367,.int .i64 t1368,.int .i64 t1369,.int .i64 t1370,.int .i64 t1371,.int .i64 t1372,.string t1373,.string t1374,.bool t1375],.agg #[.string t1331,.int .i64 t1332,.int .i64 t1333,.int .i64 t1334,.int .i64 t1335,.int .i64 t1336,.int .i64 t1337,.int .i64 t1338,.string t1339,.string t1340,.bool t1341]] ?_;(with_reducible refine (laws_eqConn.calls t1365 t1366 t1367 t1368 t1369 t1370 t1371 t1372 t1373 t1374 t1375 t1331 t1332 t1333 t1334 t1335 t1336 t1337 t1338 t1339 t1340 t1341 true _ A68.out).mono ?_);rintro e w79 ⟨rfl,hb⟩;refine ⟨_,rfl,?_⟩;replace HO1344:=aMk (Kd.R_below (kR ((Kd.R_mono (Kd.R_far (p:=⟨gb1380,10,none⟩) (Kd.R_far (p:=⟨gb1380,9,none⟩) (Kd.R_far (p:=⟨gb1380,8,none⟩) (Kd.R_far (p:=⟨gb1380,7,none⟩) (Kd.R_far (p:=⟨gb1380,6,none⟩) (Kd.R_far (p:=⟨gb1380,5,none⟩) (Kd.R_far (p:=⟨gb1380,4,none⟩) (Kd.R_far (p:=⟨gb1380,3,none⟩) (Kd.R_far (p:=⟨gb1380,2,none⟩) (Kd.R_far (p:=⟨gb1380,1,none⟩) (Kd.R_far (p:=⟨gb1380,0,none⟩) (Kd.R_types HO1344.out BK1380.out (by decide)) (fun _ hk => hk.2) (.string t1365)) (fun _ hk => hk.2) (.int .i64 t1366)) (fun _ hk => hk.2) (.int .i64 t1367)) (fun _ hk => hk.2) (.int .i64 t1368)) (fun _ hk => hk.2) (.int .i64 t1369)) (fun _ hk => hk.2) (.int .i64 t1370)) (fun _ hk => hk.2) (.int .i64 t1371)) (fun _ hk => hk.2) (.int .i64 t1372)) (fun _ hk => hk.2) (.string t1373)) (fun _ hk => hk.2) (.string t1374)) (fun _ hk => hk.2) (.bool t1375)) (fun _ h_ => h_.1)))) hb);replace HO1378:=aMk (Kd.R_below (kR ((Kd.R_mono (Kd.R_far (p:=⟨gb1380,10,none⟩) (Kd.R_far (p:=⟨gb1380,9,none⟩) (Kd.R_far (p:=⟨gb1380,8,none⟩) (Kd.R_far (p:=⟨gb1380,7,none⟩) (Kd.R_far (p:=⟨gb1380,6,none⟩) (Kd.R_far (p:=⟨gb1380,5,none⟩) (Kd.R_far (p:=⟨gb1380,4,none⟩) (Kd.R_far (p:=⟨gb1380,3,none⟩) (Kd.R_far (p:=⟨gb1380,2,none⟩) (Kd.R_far (p:=⟨gb1380,1,none⟩) (Kd.R_far (p:=⟨gb1380,0,none⟩) (Kd.R_types HO1378.out BK1380.out (by decide)) (fun _ hk => hk.2) (.string t1365)) (fun _ hk => hk.2) (.int .i64 t1366)) (fun _ hk => hk.2) (.int .i64 t1367)) (fun _ hk => hk.2) (.int .i64 t1368)) (fun _ hk => hk.2) (.int .i64 t1369)) (fun _ hk => hk.2) (.int .i64 t1370)) (fun _ hk => hk.2) (.int .i64 t1371)) (fun _ hk => hk.2) (.int .i64 t1372)) (fun _ hk => hk.2) (.string t1373)) (fun _ hk => hk.2) (.string t1374)) (fun _ hk => hk.2) (.bool t1375)) (fun _ h_ => h_.1)))) hb);replace BK1309:=aMk (blk_below (g:=gb1309) (o:=.cells #[.string a0_0,.int .i64 a0_1,.int .i64 a0_2,.int .i64 a0_3,.int .i64 a0_4,.int .i64 a0_5,.int .i64 a0_6,.int .i64 a0_7,.string a0_8,.string a0_9,.bool a0_10] 31 (0,0)) (fB BK1309.out) hb);replace BK1310:=aMk (blk_below (g:=gb1310) (o:=.cells #[.int .i64 a1_0,.int .i64 a1_1,.int .i64 a1_2,.int .i64 a1_3,.int .i64 a1_4,.int .i64 a1_5,.string a1_6] 48 (0,0)) (fB BK1310.out) hb);replace BK1346:=aMk (blk_below (g:=gb1346) (o:=.cells #[.string t1331,.int .i64 t1332,.int .i64 t1333,.int .i64 t1334,.int .i64 t1335,.int .i64 t1336,.int .i64 t1337,.int .i64 t1338,.string t1339,.string t1340,.bool t1341] 34 (0,0)) (fB BK1346.out) hb);replace BK1380:=aMk (blk_below (g:=gb1380) (o:=.cells #[.string t1365,.int .i64 t1366,.int .i64 t1367,.int .i64 t1368,.int .i64 t1369,.int .i64 t1370,.int .i64 t1371,.int .i64 t1372,.string t1373,.string t1374,.bool t1375] 34 (0,0)) (by refine pB ?_;refine blk_put (cs:=#[.string t1365,.int .i64 t1366,.int .i64 t1367,.int .i64 t1368,.int .i64 t1369,.int .i64 t1370,.int .i64 t1371,.int .i64 t1372,.string t1373,.string t1374,.bool false]) ?_ 10 _ rfl;refine pB ?_;refine blk_put (cs:=#[.string t1365,.int .i64 t1366,.int .i64 t1367,.int .i64 t1368,.int .i64 t1369,.int .i64 t1370,.int .i64 t1371,.int .i64 t1372,.string t1373,.string (⟨#[]⟩:ByteArray),.bool false]) ?_ 9 _ rfl;refine pB ?_;refine blk_put (cs:=#[.string t1365,.int .i64 t1366,.int .i64 t1367,.int .i64 t1368,.int .i64 t1369,.int .i64 t1370,.int .i64 t1371,.int .i64 t1372,.string (⟨#[]⟩:ByteArray),.string (⟨#[]⟩:ByteArray),.bool false]) ?_ 8 _ rfl;refine pB ?_;refine blk_put (cs:=#[.string t1365,.int .i64 t1366,.int .i64 t1367,.int .i64 t1368,.int .i64 t1369,.int .i64 t1370,.int .i64 t1371,.int .i64 0,.string (⟨#[]⟩:ByteArray),.string (⟨#[]⟩:ByteArray),.bool false]) ?_ 7 _ rfl;refine pB ?_;refine blk_put (cs:=#[.string t1365,.int .i64 t1366,.int .i64 t1367,.int .i64 t1368,.int .i64 t1369,.int .i64 t1370,.int .i64 0,.int .i64 0,.string (⟨#[]⟩:ByteArray),.string (⟨#[]⟩:ByteArray),.bool false]) ?_ 6 _ rfl;refine pB ?_;refine blk_put (cs:=#[.string t1365,.int .i64 t1366,.int .i64 t1367,.int .i64 t1368,.int .i64 t1369,.int .i64 0,.int .i64 0,.int .i64 0,.string (⟨#[]⟩:ByteArray),.string (⟨#[]⟩:ByteArray),.bool false]) ?_ 5 _ rfl;refine pB ?_;refine blk_put (cs:=#[.string t1365,.int .i64 t1366,.int .i64 t1367,.int .i64 t1368,.int .i64 0,.int .i64 0,.int .i64 0,.int .i64 0,.string (⟨#[]⟩:ByteArray),.string (⟨#[]⟩:ByteArray),.bool false]) ?_ 4 _ rfl;refine pB ?_;refine blk_put (cs:=#[.string t1365,.int .i64 t1366,.int .i64 t1367,.int .i64 0,.int .i64 0,.int .i64 0,.int .i64 0,.int .i64 0,.string (⟨#[]⟩:ByteArray),.string (⟨#[]⟩:ByteArray),.bool false]) ?_ 3 _ rfl;refine pB ?_;refine blk_put (cs:=#[.string t1365,.int .i64 t1366,.int .i64 0,.int .i64 0,.int .i64 0,.int .i64 0,.int .i64 0,.int .i64 0,.string (⟨#[]⟩:ByteArray),.string (⟨#[]⟩:ByteArray),.bool false]) ?_ 2 _ rfl;refine pB ?_;refine blk_put (cs:=#[.string t1365,.int .i64 0,.int .i64 0,.int .i64 0,.int .i64 0,.int .i64 0,.int .i64 0,.int .i64 0,.string (⟨#[]⟩:ByteArray),.string (⟨#[]⟩:ByteArray),.bool false]) ?_ 1 _ rfl;refine pB ?_;refine blk_put (cs:=#[.string (⟨#[]⟩:ByteArray),.int .i64 0,.int .i64 0,.int .i64 0,.int .i64 0,.int .i64 0,.int .i64 0,.int .i64 0,.string (⟨#[]⟩:ByteArray),.string (⟨#[]⟩:ByteArray),.bool false]) ?_ 0 _ rfl;refine pB ?_;exact BK1380.out) hb);replace HB:=aMk (bU hb);obtain ⟨Ao80,co80,eo80⟩:=Kd.R_slice HO1378.out;subst eo80;obtain ⟨Ao81,co81,eo81⟩:=Kd.R_slice HO1344.out;subst eo81)|(go_at_call 38;(with_reducible refine (laws_eqSegmentS.calls k _ _ t1376 _ _ t1342 true _ ?side1 ?side2 ?side3 ?side4 A70.out).mono ?_);(case side1 => repeat (first|exact (Kd.R_reads' HO1378.out).2.2|(with_reducible refine Kd.C_alloc ?_ _)|(with_reducible refine Kd.C_drewN ?_ _)|(with_reducible refine Kd.C_drew ?_)));(case side2 => exact (Kd.R_reads' HO1378.out).2.1);(case side3 => repeat (first|exact (Kd.R_reads' HO1344.out).2.2|(with_reducible refine Kd.C_alloc ?_ _)|(with_reducible refine Kd.C_drewN ?_ _)|(with_reducible refine Kd.C_drew ?_)));(case side4 => exact (Kd.R_reads' HO1344.out).2.1);rintro e w82 ⟨rfl,hb⟩;replace HO1344:=aMk (Kd.R_below (kR (HO1344.out)) hb);replace HO1378:=aMk (Kd.R_below (kR (HO1378.out)) hb);replace BK1309:=aMk (bkB BK1309.out hb);replace BK1310:=aMk (bkB BK1310.out hb);replace BK1346:=aMk (bkB BK1346.out hb);replace BK1380:=aMk (bkB BK1380.out hb);replace HB:=aMk (bU hb)))
      go_meet
      case rel => exact ⟨_,((t1379 != t1345)),rfS,H',⟨by first | omega|exact Nat.le_refl _⟩,⟨kR (HO1344.out)⟩,⟨kR (HO1378.out)⟩,⟨by refine pB ?_;exact BK1309.out⟩,⟨by refine pB ?_;exact BK1310.out⟩,⟨by refine pB ?_;exact BK1346.out⟩,⟨by refine pB ?_;exact BK1380.out⟩,⟨bW⟩⟩
     ·replace c71:=Bool.eq_false_iff.mpr c71
      subst c71
      have H1:=H
      rw [if_neg (show ¬ (false = true) by decide)] at H1
      clear H
      have H:=H1
      clear H1
      have H':=aMk H
      clear H
      have hnb83:=NB1380_1309.out
      have hnc83:=NB1309_1380.out
      have hnb84:=NB1380_1310.out
      have hnc84:=NB1310_1380.out
      have hnb85:=NB1380_1346.out
      have hnc85:=NB1346_1380.out
      obtain ⟨Z86_0,Z86_1,Z86_2,Z86_3,Z86_4,Z86_5,Z86_6,Z86_7,Z86_8,Z86_9,Z86_10,Y86_0,Y86_1,Y86_2,Y86_3,Y86_4,Y86_5,Y86_6,Y86_7,Y86_8,Y86_9,Y86_10⟩:=bC11 BK1380.out
      have hnb87:=NB1346_1309.out
      have hnc87:=NB1309_1346.out
      have hnb88:=NB1346_1310.out
      have hnc88:=NB1310_1346.out
      obtain ⟨Z89_0,Z89_1,Z89_2,Z89_3,Z89_4,Z89_5,Z89_6,Z89_7,Z89_8,Z89_9,Z89_10,Y89_0,Y89_1,Y89_2,Y89_3,Y89_4,Y89_5,Y89_6,Y89_7,Y89_8,Y89_9,Y89_10⟩:=bC11 BK1346.out
      go_wp2_with (first|((with_reducible refine gate_callee (f:=37) rfl ?_);refine gLs 47 Try.func37 #[.agg #[.string t1365,.int .i64 t1366,.int .i64 t1367,.int .i64 t1368,.int .i64 t1369,.int .i64 t1370,.int .i64 t1371,.int .i64 t1372,.string t1373,.string t1374,.bool t1375],.agg #[.string t1331,.int .i64 t1332,.int .i64 t1333,.int .i64 t1334,.int .i64 t1335,.int .i64 t1336,.int .i64 t1337,.int .i64 t1338,.string t1339,.string t1340,.bool t1341]] ?_;(with_reducible refine (laws_eqConn.calls t1365 t1366 t1367 t1368 t1369 t1370 t1371 t1372 t1373 t1374 t1375 t1331 t1332 t1333 t1334 t1335 t1336 t1337 t1338 t1339 t1340 t1341 true _ A68.out).mono ?_);rintro e w90 ⟨rfl,hb⟩;refine ⟨_,rfl,?_⟩;replace HO1344:=aMk (Kd.R_below (kR ((Kd.R_mono (Kd.R_far (p:=⟨gb1380,10,none⟩) (Kd.R_far (p:=⟨gb1380,9,none⟩) (Kd.R_far (p:=⟨gb1380,8,none⟩) (Kd.R_far (p:=⟨gb1380,7,none⟩) (Kd.R_far (p:=⟨gb1380,6,none⟩) (Kd.R_far (p:=⟨gb1380,5,none⟩) (Kd.R_far (p:=⟨gb1380,4,none⟩) (Kd.R_far (p:=⟨gb1380,3,none⟩) (Kd.R_far (p:=⟨gb1380,2,none⟩) (Kd.R_far (p:=⟨gb1380,1,none⟩) (Kd.R_far (p:=⟨gb1380,0,none⟩) (Kd.R_types HO1344.out BK1380.out (by decide)) (fun _ hk => hk.2) (.string t1365)) (fun _ hk => hk.2) (.int .i64 t1366)) (fun _ hk => hk.2) (.int .i64 t1367)) (fun _ hk => hk.2) (.int .i64 t1368)) (fun _ hk => hk.2) (.int .i64 t1369)) (fun _ hk => hk.2) (.int .i64 t1370)) (fun _ hk => hk.2) (.int .i64 t1371)) (fun _ hk => hk.2) (.int .i64 t1372)) (fun _ hk => hk.2) (.string t1373)) (fun _ hk => hk.2) (.string t1374)) (fun _ hk => hk.2) (.bool t1375)) (fun _ h_ => h_.1)))) hb);replace HO1378:=aMk (Kd.R_below (kR ((Kd.R_mono (Kd.R_far (p:=⟨gb1380,10,none⟩) (Kd.R_far (p:=⟨gb1380,9,none⟩) (Kd.R_far (p:=⟨gb1380,8,none⟩) (Kd.R_far (p:=⟨gb1380,7,none⟩) (Kd.R_far (p:=⟨gb1380,6,none⟩) (Kd.R_far (p:=⟨gb1380,5,none⟩) (Kd.R_far (p:=⟨gb1380,4,none⟩) (Kd.R_far (p:=⟨gb1380,3,none⟩) (Kd.R_far (p:=⟨gb1380,2,none⟩) (Kd.R_far (p:=⟨gb1380,1,none⟩) (Kd.R_far (p:=⟨gb1380,0,none⟩) (Kd.R_types HO1378.out BK1380.out (by decide)) (fun _ hk => hk.2) (.string t1365)) (fun _ hk => hk.2) (.int .i64 t1366)) (fun _ hk => hk.2) (.int .i64 t1367)) (fun _ hk => hk.2) (.int .i64 t1368)) (fun _ hk => hk.2) (.int .i64 t1369)) (fun _ hk => hk.2) (.int .i64 t1370)) (fun _ hk => hk.2) (.int .i64 t1371)) (fun _ hk => hk.2) (.int .i64 t1372)) (fun _ hk => hk.2) (.string t1373)) (fun _ hk => hk.2) (.string t1374)) (fun _ hk => hk.2) (.bool t1375)) (fun _ h_ => h_.1)))) hb);replace BK1309:=aMk (blk_below (g:=gb1309) (o:=.cells #[.string a0_0,.int .i64 a0_1,.int .i64 a0_2,.int .i64 a0_3,.int .i64 a0_4,.int .i64 a0_5,.int .i64 a0_6,.int .i64 a0_7,.string a0_8,.string a0_9,.bool a0_10] 31 (0,0)) (fB BK1309.out) hb);replace BK1310:=aMk (blk_below (g:=gb1310) (o:=.cells #[.int .i64 a1_0,.int .i64 a1_1,.int .i64 a1_2,.int .i64 a1_3,.int .i64 a1_4,.int .i64 a1_5,.string a1_6] 48 (0,0)) (fB BK1310.out) hb);replace BK1346:=aMk (blk_below (g:=gb1346) (o:=.cells #[.string t1331,.int .i64 t1332,.int .i64 t1333,.int .i64 t1334,.int .i64 t1335,.int .i64 t1336,.int .i64 t1337,.int .i64 t1338,.string t1339,.string t1340,.bool t1341] 34 (0,0)) (fB BK1346.out) hb);replace BK1380:=aMk (blk_below (g:=gb1380) (o:=.cells #[.string t1365,.int .i64 t1366,.int .i64 t1367,.int .i64 t1368,.int .i64 t1369,.int .i64 t1370,.int .i64 t1371,.int .i64 t1372,.string t1373,.string t1374,.bool t1375] 34 (0,0)) (by refine pB ?_;refine blk_put (cs:=#[.string t1365,.int .i64 t1366,.int .i64 t1367,.int .i64 t1368,.int .i64 t1369,.int .i64 t1370,.int .i64 t1371,.int .i64 t1372,.string t1373,.string t1374,.bool false]) ?_ 10 _ rfl;refine pB ?_;refine blk_put (cs:=#[.string t1365,.int .i64 t1366,.int .i64 t1367,.int .i64 t1368,.int .i64 t1369,.int .i64 t1370,.int .i64 t1371,.int .i64 t1372,.string t1373,.string (⟨#[]⟩:ByteArray),.bool false]) ?_ 9 _ rfl;refine pB ?_;refine blk_put (cs:=#[.string t1365,.int .i64 t1366,.int .i64 t1367,.int .i64 t1368,.int .i64 t1369,.int .i64 t1370,.int .i64 t1371,.int .i64 t1372,.string (⟨#[]⟩:ByteArray),.string (⟨#[]⟩:ByteArray),.bool false]) ?_ 8 _ rfl;refine pB ?_;refine blk_put (cs:=#[.string t1365,.int .i64 t1366,.int .i64 t1367,.int .i64 t1368,.int .i64 t1369,.int .i64 t1370,.int .i64 t1371,.int .i64 0,.string (⟨#[]⟩:ByteArray),.string (⟨#[]⟩:ByteArray),.bool false]) ?_ 7 _ rfl;refine pB ?_;refine blk_put (cs:=#[.string t1365,.int .i64 t1366,.int .i64 t1367,.int .i64 t1368,.int .i64 t1369,.int .i64 t1370,.int .i64 0,.int .i64 0,.string (⟨#[]⟩:ByteArray),.string (⟨#[]⟩:ByteArray),.bool false]) ?_ 6 _ rfl;refine pB ?_;refine blk_put (cs:=#[.string t1365,.int .i64 t1366,.int .i64 t1367,.int .i64 t1368,.int .i64 t1369,.int .i64 0,.int .i64 0,.int .i64 0,.string (⟨#[]⟩:ByteArray),.string (⟨#[]⟩:ByteArray),.bool false]) ?_ 5 _ rfl;refine pB ?_;refine blk_put (cs:=#[.string t1365,.int .i64 t1366,.int .i64 t1367,.int .i64 t1368,.int .i64 0,.int .i64 0,.int .i64 0,.int .i64 0,.string (⟨#[]⟩:ByteArray),.string (⟨#[]⟩:ByteArray),.bool false]) ?_ 4 _ rfl;refine pB ?_;refine blk_put (cs:=#[.string t1365,.int .i64 t1366,.int .i64 t1367,.int .i64 0,.int .i64 0,.int .i64 0,.int .i64 0,.int .i64 0,.string (⟨#[]⟩:ByteArray),.string (⟨#[]⟩:ByteArray),.bool false]) ?_ 3 _ rfl;refine pB ?_;refine blk_put (cs:=#[.string t1365,.int .i64 t1366,.int .i64 0,.int .i64 0,.int .i64 0,.int .i64 0,.int .i64 0,.int .i64 0,.string (⟨#[]⟩:ByteArray),.string (⟨#[]⟩:ByteArray),.bool false]) ?_ 2 _ rfl;refine pB ?_;refine blk_put (cs:=#[.string t1365,.int .i64 0,.int .i64 0,.int .i64 0,.int .i64 0,.int .i64 0,.int .i64 0,.int .i64 0,.string (⟨#[]⟩:ByteArray),.string (⟨#[]⟩:ByteArray),.bool false]) ?_ 1 _ rfl;refine pB ?_;refine blk_put (cs:=#[.string (⟨#[]⟩:ByteArray),.int .i64 0,.int .i64 0,.int .i64 0,.int .i64 0,.int .i64 0,.int .i64 0,.int .i64 0,.string (⟨#[]⟩:ByteArray),.string (⟨#[]⟩:ByteArray),.bool false]) ?_ 0 _ rfl;refine pB ?_;exact BK1380.out) hb);replace HB:=aMk (bU hb);obtain ⟨Ao91,co91,eo91⟩:=Kd.R_slice HO1378.out;subst eo91;obtain ⟨Ao92,co92,eo92⟩:=Kd.R_slice HO1344.out;subst eo92)|(go_at_call 38;(with_reducible refine (laws_eqSegmentS.calls k _ _ t1376 _ _ t1342 false _ ?side1 ?side2 ?side3 ?side4 A70.out).mono ?_);(case side1 => repeat (first|exact (Kd.R_reads' HO1378.out).2.2|(with_reducible refine Kd.C_alloc ?_ _)|(with_reducible refine Kd.C_drewN ?_ _)|(with_reducible refine Kd.C_drew ?_)));(case side2 => exact (Kd.R_reads' HO1378.out).2.1);(case side3 => repeat (first|exact (Kd.R_reads' HO1344.out).2.2|(with_reducible refine Kd.C_alloc ?_ _)|(with_reducible refine Kd.C_drewN ?_ _)|(with_reducible refine Kd.C_drew ?_)));(case side4 => exact (Kd.R_reads' HO1344.out).2.1);rintro e w93 ⟨rfl,hb⟩;replace HO1344:=aMk (Kd.R_below (kR (HO1344.out)) hb);replace HO1378:=aMk (Kd.R_below (kR (HO1378.out)) hb);replace BK1309:=aMk (bkB BK1309.out hb);replace BK1310:=aMk (bkB BK1310.out hb);replace BK1346:=aMk (bkB BK1346.out hb);replace BK1380:=aMk (bkB BK1380.out hb);replace HB:=aMk (bU hb)))
      go_meet
      case rel => exact ⟨_,(true),rfS,H',⟨by first | omega|exact Nat.le_refl _⟩,⟨kR (HO1344.out)⟩,⟨kR (HO1378.out)⟩,⟨by refine pB ?_;exact BK1309.out⟩,⟨by refine pB ?_;exact BK1310.out⟩,⟨by refine pB ?_;exact BK1346.out⟩,⟨by refine pB ?_;exact BK1380.out⟩,⟨bW⟩⟩
    ·replace c69:=Bool.eq_false_iff.mpr c69
     subst c69
     have H1:=H
     rw [if_neg (show ¬ (false = true) by decide)] at H1
     clear H
     have H:=H1
     clear H1
     have H':=aMk H
     clear H
     have hnb94:=NB1380_1309.out
     have hnc94:=NB1309_1380.out
     have hnb95:=NB1380_1310.out
     have hnc95:=NB1310_1380.out
     have hnb96:=NB1380_1346.out
     have hnc96:=NB1346_1380.out
     obtain ⟨Z97_0,Z97_1,Z97_2,Z97_3,Z97_4,Z97_5,Z97_6,Z97_7,Z97_8,Z97_9,Z97_10,Y97_0,Y97_1,Y97_2,Y97_3,Y97_4,Y97_5,Y97_6,Y97_7,Y97_8,Y97_9,Y97_10⟩:=bC11 BK1380.out
     have hnb98:=NB1346_1309.out
     have hnc98:=NB1309_1346.out
     have hnb99:=NB1346_1310.out
     have hnc99:=NB1310_1346.out
     obtain ⟨Z100_0,Z100_1,Z100_2,Z100_3,Z100_4,Z100_5,Z100_6,Z100_7,Z100_8,Z100_9,Z100_10,Y100_0,Y100_1,Y100_2,Y100_3,Y100_4,Y100_5,Y100_6,Y100_7,Y100_8,Y100_9,Y100_10⟩:=bC11 BK1346.out
     go_wp2_with (first|((with_reducible refine gate_callee (f:=37) rfl ?_);refine gLs 47 Try.func37 #[.agg #[.string t1365,.int .i64 t1366,.int .i64 t1367,.int .i64 t1368,.int .i64 t1369,.int .i64 t1370,.int .i64 t1371,.int .i64 t1372,.string t1373,.string t1374,.bool t1375],.agg #[.string t1331,.int .i64 t1332,.int .i64 t1333,.int .i64 t1334,.int .i64 t1335,.int .i64 t1336,.int .i64 t1337,.int .i64 t1338,.string t1339,.string t1340,.bool t1341]] ?_;(with_reducible refine (laws_eqConn.calls t1365 t1366 t1367 t1368 t1369 t1370 t1371 t1372 t1373 t1374 t1375 t1331 t1332 t1333 t1334 t1335 t1336 t1337 t1338 t1339 t1340 t1341 false _ A68.out).mono ?_);rintro e w101 ⟨rfl,hb⟩;refine ⟨_,rfl,?_⟩;replace HO1344:=aMk (Kd.R_below (kR ((Kd.R_mono (Kd.R_far (p:=⟨gb1380,10,none⟩) (Kd.R_far (p:=⟨gb1380,9,none⟩) (Kd.R_far (p:=⟨gb1380,8,none⟩) (Kd.R_far (p:=⟨gb1380,7,none⟩) (Kd.R_far (p:=⟨gb1380,6,none⟩) (Kd.R_far (p:=⟨gb1380,5,none⟩) (Kd.R_far (p:=⟨gb1380,4,none⟩) (Kd.R_far (p:=⟨gb1380,3,none⟩) (Kd.R_far (p:=⟨gb1380,2,none⟩) (Kd.R_far (p:=⟨gb1380,1,none⟩) (Kd.R_far (p:=⟨gb1380,0,none⟩) (Kd.R_types HO1344.out BK1380.out (by decide)) (fun _ hk => hk.2) (.string t1365)) (fun _ hk => hk.2) (.int .i64 t1366)) (fun _ hk => hk.2) (.int .i64 t1367)) (fun _ hk => hk.2) (.int .i64 t1368)) (fun _ hk => hk.2) (.int .i64 t1369)) (fun _ hk => hk.2) (.int .i64 t1370)) (fun _ hk => hk.2) (.int .i64 t1371)) (fun _ hk => hk.2) (.int .i64 t1372)) (fun _ hk => hk.2) (.string t1373)) (fun _ hk => hk.2) (.string t1374)) (fun _ hk => hk.2) (.bool t1375)) (fun _ h_ => h_.1)))) hb);replace HO1378:=aMk (Kd.R_below (kR ((Kd.R_mono (Kd.R_far (p:=⟨gb1380,10,none⟩) (Kd.R_far (p:=⟨gb1380,9,none⟩) (Kd.R_far (p:=⟨gb1380,8,none⟩) (Kd.R_far (p:=⟨gb1380,7,none⟩) (Kd.R_far (p:=⟨gb1380,6,none⟩) (Kd.R_far (p:=⟨gb1380,5,none⟩) (Kd.R_far (p:=⟨gb1380,4,none⟩) (Kd.R_far (p:=⟨gb1380,3,none⟩) (Kd.R_far (p:=⟨gb1380,2,none⟩) (Kd.R_far (p:=⟨gb1380,1,none⟩) (Kd.R_far (p:=⟨gb1380,0,none⟩) (Kd.R_types HO1378.out BK1380.out (by decide)) (fun _ hk => hk.2) (.string t1365)) (fun _ hk => hk.2) (.int .i64 t1366)) (fun _ hk => hk.2) (.int .i64 t1367)) (fun _ hk => hk.2) (.int .i64 t1368)) (fun _ hk => hk.2) (.int .i64 t1369)) (fun _ hk => hk.2) (.int .i64 t1370)) (fun _ hk => hk.2) (.int .i64 t1371)) (fun _ hk => hk.2) (.int .i64 t1372)) (fun _ hk => hk.2) (.string t1373)) (fun _ hk => hk.2) (.string t1374)) (fun _ hk => hk.2) (.bool t1375)) (fun _ h_ => h_.1)))) hb);replace BK1309:=aMk (blk_below (g:=gb1309) (o:=.cells #[.string a0_0,.int .i64 a0_1,.int .i64 a0_2,.int .i64 a0_3,.int .i64 a0_4,.int .i64 a0_5,.int .i64 a0_6,.int .i64 a0_7,.string a0_8,.string a0_9,.bool a0_10] 31 (0,0)) (fB BK1309.out) hb);replace BK1310:=aMk (blk_below (g:=gb1310) (o:=.cells #[.int .i64 a1_0,.int .i64 a1_1,.int .i64 a1_2,.int .i64 a1_3,.int .i64 a1_4,.int .i64 a1_5,.string a1_6] 48 (0,0)) (fB BK1310.out) hb);replace BK1346:=aMk (blk_below (g:=gb1346) (o:=.cells #[.string t1331,.int .i64 t1332,.int .i64 t1333,.int .i64 t1334,.int .i64 t1335,.int .i64 t1336,.int .i64 t1337,.int .i64 t1338,.string t1339,.string t1340,.bool t1341] 34 (0,0)) (fB BK1346.out) hb);replace BK1380:=aMk (blk_below (g:=gb1380) (o:=.cells #[.string t1365,.int .i64 t1366,.int .i64 t1367,.int .i64 t1368,.int .i64 t1369,.int .i64 t1370,.int .i64 t1371,.int .i64 t1372,.string t1373,.string t1374,.bool t1375] 34 (0,0)) (by refine pB ?_;refine blk_put (cs:=#[.string t1365,.int .i64 t1366,.int .i64 t1367,.int .i64 t1368,.int .i64 t1369,.int .i64 t1370,.int .i64 t1371,.int .i64 t1372,.string t1373,.string t1374,.bool false]) ?_ 10 _ rfl;refine pB ?_;refine blk_put (cs:=#[.string t1365,.int .i64 t1366,.int .i64 t1367,.int .i64 t1368,.int .i64 t1369,.int .i64 t1370,.int .i64 t1371,.int .i64 t1372,.string t1373,.string (⟨#[]⟩:ByteArray),.bool false]) ?_ 9 _ rfl;refine pB ?_;refine blk_put (cs:=#[.string t1365,.int .i64 t1366,.int .i64 t1367,.int .i64 t1368,.int .i64 t1369,.int .i64 t1370,.int .i64 t1371,.int .i64 t1372,.string (⟨#[]⟩:ByteArray),.string (⟨#[]⟩:ByteArray),.bool false]) ?_ 8 _ rfl;refine pB ?_;refine blk_put (cs:=#[.string t1365,.int .i64 t1366,.int .i64 t1367,.int .i64 t1368,.int .i64 t1369,.int .i64 t1370,.int .i64 t1371,.int .i64 0,.string (⟨#[]⟩:ByteArray),.string (⟨#[]⟩:ByteArray),.bool false]) ?_ 7 _ rfl;refine pB ?_;refine blk_put (cs:=#[.string t1365,.int .i64 t1366,.int .i64 t1367,.int .i64 t1368,.int .i64 t1369,.int .i64 t1370,.int .i64 0,.int .i64 0,.string (⟨#[]⟩:ByteArray),.string (⟨#[]⟩:ByteArray),.bool false]) ?_ 6 _ rfl;refine pB ?_;refine blk_put (cs:=#[.string t1365,.int .i64 t1366,.int .i64 t1367,.int .i64 t1368,.int .i64 t1369,.int .i64 0,.int .i64 0,.int .i64 0,.string (⟨#[]⟩:ByteArray),.string (⟨#[]⟩:ByteArray),.bool false]) ?_ 5 _ rfl;refine pB ?_;refine blk_put (cs:=#[.string t1365,.int .i64 t1366,.int .i64 t1367,.int .i64 t1368,.int .i64 0,.int .i64 0,.int .i64 0,.int .i64 0,.string (⟨#[]⟩:ByteArray),.string (⟨#[]⟩:ByteArray),.bool false]) ?_ 4 _ rfl;refine pB ?_;refine blk_put (cs:=#[.string t1365,.int .i64 t1366,.int .i64 t1367,.int .i64 0,.int .i64 0,.int .i64 0,.int .i64 0,.int .i64 0,.string (⟨#[]⟩:ByteArray),.string (⟨#[]⟩:ByteArray),.bool false]) ?_ 3 _ rfl;refine pB ?_;refine blk_put (cs:=#[.string t1365,.int .i64 t1366,.int .i64 0,.int .i64 0,.int .i64 0,.int .i64 0,.int .i64 0,.int .i64 0,.string (⟨#[]⟩:ByteArray),.string (⟨#[]⟩:ByteArray),.bool false]) ?_ 2 _ rfl;refine pB ?_;refine blk_put (cs:=#[.string t1365,.int .i64 0,.int .i64 0,.int .i64 0,.int .i64 0,.int .i64 0,.int .i64 0,.int .i64 0,.string (⟨#[]⟩:ByteArray),.string (⟨#[]⟩:ByteArray),.bool false]) ?_ 1 _ rfl;refine pB ?_;refine blk_put (cs:=#[.string (⟨#[]⟩:ByteArray),.int .i64 0,.int .i64 0,.int .i64 0,.int .i64 0,.int .i64 0,.int .i64 0,.int .i64 0,.string (⟨#[]⟩:ByteArray),.string (⟨#[]⟩:ByteArray),.bool false]) ?_ 0 _ rfl;refine pB ?_;exact BK1380.out) hb);replace HB:=aMk (bU hb)))
     go_meet
     case rel => exact ⟨_,(true),rfS,H',⟨by first | omega|exact Nat.le_refl _⟩,⟨kR (HO1344.out)⟩,⟨kR (HO1378.out)⟩,⟨by refine pB ?_;exact BK1309.out⟩,⟨by refine pB ?_;exact BK1310.out⟩,⟨by refine pB ?_;exact BK1346.out⟩,⟨by refine pB ?_;exact BK1380.out⟩,⟨bW⟩⟩
   case rest =>
    clear HC25
    try clear Z100_0 Z100_1 Z100_10 Z100_2 Z100_3 Z100_4 Z100_5 Z100_6 Z100_7 Z100_8 Z100_9
    try clear Z75_0 Z75_1 Z75_10 Z75_2 Z75_3 Z75_4 Z75_5 Z75_6 Z75_7 Z75_8 Z75_9
    try clear Z78_0 Z78_1 Z78_10 Z78_2 Z78_3 Z78_4 Z78_5 Z78_6 Z78_7 Z78_8 Z78_9
    try clear Z86_0 Z86_1 Z86_10 Z86_2 Z86_3 Z86_4 Z86_5 Z86_6 Z86_7 Z86_8 Z86_9
    try clear Z89_0 Z89_1 Z89_10 Z89_2 Z89_3 Z89_4 Z89_5 Z89_6 Z89_7 Z89_8 Z89_9
    try clear Z97_0 Z97_1 Z97_10 Z97_2 Z97_3 Z97_4 Z97_5 Z97_6 Z97_7 Z97_8 Z97_9
    try clear Y100_0 Y100_1 Y100_10 Y100_2 Y100_3 Y100_4 Y100_5 Y100_6 Y100_7 Y100_8 Y100_9
    try clear Y75_0 Y75_1 Y75_10 Y75_2 Y75_3 Y75_4 Y75_5 Y75_6 Y75_7 Y75_8 Y75_9
    try clear Y78_0 Y78_1 Y78_10 Y78_2 Y78_3 Y78_4 Y78_5 Y78_6 Y78_7 Y78_8 Y78_9
    try clear Y86_0 Y86_1 Y86_10 Y86_2 Y86_3 Y86_4 Y86_5 Y86_6 Y86_7 Y86_8 Y86_9
    try clear Y89_0 Y89_1 Y89_10 Y89_2 Y89_3 Y89_4 Y89_5 Y89_6 Y89_7 Y89_8 Y89_9
    try clear Y97_0 Y97_1 Y97_10 Y97_2 Y97_3 Y97_4 Y97_5 Y97_6 Y97_7 Y97_8 Y97_9
    obtain ⟨kq,x59_24,rfl,HA,HJ24,HO_7,HO_10,BK1309,BK1310,BK1346,BK1380,HB⟩:=hcut
    cases kq with
    | zero => exact absurd HA.out (by simp [laws_FnExactConnTake.j0])
    | succ kj24 =>
     have H:=HA.out
     clear HA
     simp only [laws_FnExactConnTake.j0] at H
     by_cases c102:x59_24 = true
     ·subst c102
      have H1:=H
      rw [if_pos rfl] at H1
      clear H
      have H:=H1
      clear H1
      obtain rfl:=Option.some.inj H
      go_wp2
      go_ret
      exact ⟨eRf,bW⟩
     ·replace c102:=Bool.eq_false_iff.mpr c102
      subst c102
      have H1:=H
      rw [if_neg (show ¬ (false = true) by decide)] at H1
      clear H
      have H:=H1
      clear H1
      replace H:=Option.bind_eq_some_iff.mp H
      obtain ⟨⟨t1383,t1384⟩,A1030,H⟩:=H
      try dsimp only at H
      have A103:=aMk A1030
      clear A1030
      replace H:=Option.bind_eq_some_iff.mp H
      obtain ⟨t1385,A1040,H⟩:=H
      try dsimp only at H
      have A104:=aMk A1040
      clear A1040
      by_cases c105:t1385 < 0
      ·rw [if_pos c105] at H
       have c105b0:decide (t1385 < 0) = true:=decide_eq_true c105
       clear c105
       obtain rfl:=Option.some.inj H
       obtain ⟨Ao106,co106,eo106⟩:=Kd.R_slice HO_10.out
       subst eo106
       go_wp2_with (first|((with_reducible refine gate_callee (f:=39) rfl ?_);refine gLs 62 Try.func39 #[.slice Ao106 t1376.length co106,.int .i64 1] ?_;(with_reducible refine (laws_markSegmentS.calls kj24 (fun k_ => some k_ = (.slice Ao106 t1376.length co106:Value).ownBlock) (.slice Ao106 t1376.length co106) t1376 1 t1383 t1384 w _ ?side1 ?side2 A103.out).mono ?_);(case side1 => repeat (first|(with_reducible first|exact HB.out|apply bwA|apply bwN|apply bw1|refine below_set ?_ GE1309.out|refine below_set ?_ GE1310.out|refine below_set ?_ GE1346.out|refine below_set ?_ GE1380.out)|exact HB.out));(case side2 => exact Kd.R_tight rfl HO_10.out);rintro e w107 ⟨rfl,hy0,hb,hkp⟩;refine ⟨_,rfl,?_⟩;replace HO_7:=aMk (Kd.R_mono (ok':=fun k_ => some k_ ≠ (.slice Ao106 t1376.length co106:Value).ownBlock) (Kd.R_keptB (HO_7.out) hkp (fun k_ hk_ hs_ => (hk_) hs_)) (fun k_ hk_ => hk_.1));replace BK1309:=aMk (blk_kept (pB BK1309.out) hkp (fun hs_ => (fun e_ => (Kd.R_ne HO_10.out BK1309.out (by decide)) e_) hs_));replace BK1310:=aMk (blk_kept (pB BK1310.out) hkp (fun hs_ => (fun e_ => (Kd.R_ne HO_10.out BK1310.out (by decide)) e_) hs_));replace BK1346:=aMk (blk_kept (pB BK1346.out) hkp (fun hs_ => (fun e_ => (Kd.R_ne HO_10.out BK1346.out (by decide)) e_) hs_));replace BK1380:=aMk (blk_kept (pB BK1380.out) hkp (fun hs_ => (fun e_ => (Kd.R_ne HO_10.out BK1380.out (by decide)) e_) hs_));replace HO_10:=aMk (Kd.R_reok rfl hy0 (fun k_ e_ => HO_10.out.1 k_ e_));replace HB:=aMk (hb);(try clear hkp);(try clear hy0))|((with_reducible refine gate_callee (f:=40) rfl ?_);refine goesL_ (some 65) rfl rfl Try.func40 (by kernel_rfl) rfl #[.slice Ao106 t1384.length co106,.int .i64 1] rfl (by (try simp only [List.map_toArray,List.map_cons,List.map_nil]);first | done|(rw [show t1384.length = t1376.length from (Kd.R_reads' HO_10.out).1.symm] <;> rfl) | rfl|(simp only [List.length_drop,List.length_take];rfl)) ?_;(with_reducible refine (laws_heldSegmentS.calls kj24 _ _ t1384 1 t1385 _ ?side1 ?side2 A104.out).mono ?_);(case side1 => repeat (first|exact (Kd.R_reads' HO_10.out).2.2|(with_reducible refine Kd.C_alloc ?_ _)|(with_reducible refine Kd.C_drewN ?_ _)|(with_reducible refine Kd.C_drew ?_)));(case side2 => rw [show t1384.length = t1376.length from (Kd.R_reads' HO_10.out).1.symm];exact (Kd.R_reads' HO_10.out).2.1);rintro e w108 ⟨rfl,hb⟩;refine ⟨_,rfl,?_⟩;replace HO_7:=aMk (Kd.R_below (kR (HO_7.out)) hb);replace HO_10:=aMk (Kd.R_below (kR (HO_10.out)) hb);replace BK1309:=aMk (bkB BK1309.out hb);replace BK1310:=aMk (bkB BK1310.out hb);replace BK1346:=aMk (bkB BK1346.out hb);replace BK1380:=aMk (bkB BK1380.out hb);replace HB:=aMk (bU hb)))
       go_ret
       exact ⟨eRf,bW⟩
      ·rw [if_neg c105] at H
       have c105b0:decide (t1385 < 0) = false:=decide_eq_false c105
       clear c105
       by_cases c109:t1385 = t1383
       ·rw [if_pos c109] at H
        have c109b0:(t1385 == t1383) = true:=beq_iff_eq.mpr c109
        have c109b1:(t1385 != t1383) = false:=bne_eq_false_iff_eq.mpr c109
        clear c109
        replace H:=Option.bind_eq_some_iff.mp H
        obtain ⟨⟨t1386,t1387,t1388,t1389,t1390,t1391,t1392,t1393,t1394,t1395,t1396⟩,A1100,H⟩:=H
        try dsimp only at H
        have A110:=aMk A1100
        clear A1100
        replace H:=Option.bind_eq_some_iff.mp H
        obtain ⟨⟨t1397,t1398,t1399,t1400,t1401,t1402,t1403⟩,A1110,H⟩:=H
        try dsimp only at H
        have A111:=aMk A1110
        clear A1110
        replace H:=Option.bind_eq_some_iff.mp H
        obtain ⟨⟨t1404,t1405,t1406,t1407,t1408,t1409,t1410,t1411,t1412,t1413,t1414,t1415,t1418⟩,A1120,H⟩:=H
        try dsimp only at H
        have A112:=aMk A1120
        clear A1120
        have HC113:=aMk H
        clear H
        obtain ⟨Ao114,co114,eo114⟩:=Kd.R_slice HO_10.out
        subst eo114
        try go_wp2_with (first|((with_reducible refine gate_callee (f:=39) rfl ?_);refine gLs 62 Try.func39 #[.slice Ao114 t1376.length co114,.int .i64 1] ?_;(with_reducible refine (laws_markSegmentS.calls kj24 (fun k_ => some k_ = (.slice Ao114 t1376.length co114:Value).ownBlock) (.slice Ao114 t1376.length co114) t1376 1 t1383 t1384 w _ ?side1 ?side2 A103.out).mono ?_);(case side1 => repeat (first|(with_reducible first|exact HB.out|apply bwA|apply bwN|apply bw1|refine below_set ?_ GE1309.out|refine below_set ?_ GE1310.out|refine below_set ?_ GE1346.out|refine below_set ?_ GE1380.out)|exact HB.out));(case side2 => exact Kd.R_tight rfl HO_10.out);rintro e w115 ⟨rfl,hy0,hb,hkp⟩;refine ⟨_,rfl,?_⟩;replace HO_7:=aMk (Kd.R_mono (ok':=fun k_ => some k_ ≠ (.slice Ao114 t1376.length co114:Value).ownBlock) (Kd.R_keptB (HO_7.out) hkp (fun k_ hk_ hs_ => (hk_) hs_)) (fun k_ hk_ => hk_.1));replace BK1309:=aMk (blk_kept (pB BK1309.out) hkp (fun hs_ => (fun e_ => (Kd.R_ne HO_10.out BK1309.out (by decide)) e_) hs_));replace BK1310:=aMk (blk_kept (pB BK1310.out) hkp (fun hs_ => (fun e_ => (Kd.R_ne HO_10.out BK1310.out (by decide)) e_) hs_));replace BK1346:=aMk (blk_kept (pB BK1346.out) hkp (fun hs_ => (fun e_ => (Kd.R_ne HO_10.out BK1346.out (by decide)) e_) hs_));replace BK1380:=aMk (blk_kept (pB BK1380.out) hkp (fun hs_ => (fun e_ => (Kd.R_ne HO_10.out BK1380.out (by decide)) e_) hs_));replace HO_10:=aMk (Kd.R_reok rfl hy0 (fun k_ e_ => HO_10.out.1 k_ e_));replace HB:=aMk (hb);(try clear hkp);(try clear hy0))|((with_reducible refine gate_callee (f:=40) rfl ?_);refine goesL_ (some 65) rfl rfl Try.func40 (by kernel_rfl) rfl #[.slice Ao114 t1384.length co114,.int .i64 1] rfl (by (try simp only [List.map_toArray,List.map_cons,List.map_nil]);first | done|(rw [show t1384.length = t1376.length from (Kd.R_reads' HO_10.out).1.symm] <;> rfl) | rfl|(simp only [List.length_drop,List.length_take];rfl)) ?_;(with_reducible refine (laws_heldSegmentS.calls kj24 _ _ t1384 1 t1385 _ ?side1 ?side2 A104.out).mono ?_);(case side1 => repeat (first|exact (Kd.R_reads' HO_10.out).2.2|(with_reducible refine Kd.C_alloc ?_ _)|(with_reducible refine Kd.C_drewN ?_ _)|(with_reducible refine Kd.C_drew ?_)));(case side2 => rw [show t1384.length = t1376.length from (Kd.R_reads' HO_10.out).1.symm];exact (Kd.R_reads' HO_10.out).2.1);rintro e w116 ⟨rfl,hb⟩;refine ⟨_,rfl,?_⟩;replace HO_7:=aMk (Kd.R_below (kR (HO_7.out)) hb);replace HO_10:=aMk (Kd.R_below (kR (HO_10.out)) hb);replace BK1309:=aMk (bkB BK1309.out hb);replace BK1310:=aMk (bkB BK1310.out hb);replace BK1346:=aMk (bkB BK1346.out hb);replace BK1380:=aMk (bkB BK1380.out hb);replace HB:=aMk (bU hb)))
        replace HO_7:=aMk (Kd.R_drew HO_7.out)
        replace HO_10:=aMk (Kd.R_drew HO_10.out)
        replace BK1309:=aMk (bDr BK1309.out)
        replace BK1310:=aMk (bDr BK1310.out)
        replace BK1346:=aMk (bDr BK1346.out)
        replace BK1380:=aMk (bDr BK1380.out)
        replace HB:=aMk (bw1 HB.out)
        refine start_ (n:=13) (S:=fun w' => w'.cell? ⟨gb1309,0,none⟩ = some (.string a0_0)∧w'.cell? ⟨gb1309,1,none⟩ = some (.int .i64 a0_1)∧w'.cell? ⟨gb1309,2,none⟩ = some (.int .i64 a0_2)∧w'.cell? ⟨gb1309,3,none⟩ = some (.int .i64 a0_3)∧w'.cell? ⟨gb1309,4,none⟩ = some (.int .i64 a0_4)∧w'.cell? ⟨gb1309,5,none⟩ = some (.int .i64 a0_5)∧w'.cell? ⟨gb1309,6,none⟩ = some (.int .i64 a0_6)∧w'.cell? ⟨gb1309,7,none⟩ = some (.int .i64 a0_7)∧w'.cell? ⟨gb1309,8,none⟩ = some (.string a0_8)∧w'.cell? ⟨gb1309,9,none⟩ = some (.string a0_9)∧w'.cell? ⟨gb1309,10,none⟩ = some (.bool a0_10)∧w'.cell? ⟨gb1310,0,none⟩ = some (.int .i64 a1_0)∧w'.cell? ⟨gb1310,1,none⟩ = some (.int .i64 a1_1)∧w'.cell? ⟨gb1310,2,none⟩ = some (.int .i64 a1_2)∧w'.cell? ⟨gb1310,3,none⟩ = some (.int .i64 a1_3)∧w'.cell? ⟨gb1310,4,none⟩ = some (.int .i64 a1_4)∧w'.cell? ⟨gb1310,5,none⟩ = some (.int .i64 a1_5)∧w'.cell? ⟨gb1310,6,none⟩ = some (.string a1_6)) (ds:=[]) #[false,false,false,false,false,false,false,false,false,false,false,false,false] (by kernel_rfl) rfl rfl (ca11 BK1309.out (cz7 BK1310.out)) (fun hHeld => ?_);refine with_tabW laws_FnExactConnTake.tab20 laws_FnExactConnTake.bits20 (fun HT_ HW_ => ?_)
        generalize w116.drew = w117 at HO_7 HO_10 BK1309 BK1310 BK1346 BK1380 HB hHeld ⊢
        refine tU18 (i:=0) (N:=some 72) #[true,false,false,false,false,false,false,false,false,false,false,false,false] (take_ofW HT_.out HW_.out (by kernel_rfl)) hHeld ?_
        refine tU18 (i:=2) (N:=some 74) #[true,false,true,false,false,false,false,false,false,false,false,false,false] (take_ofW HT_.out HW_.out (by kernel_rfl)) hHeld ?_
        refine join_ (σ:=Value × Nat) 3 #[true,true,true,true,true,true,true,true,true,true,false,false,false] (fun s_ => [(73,.agg #[.string t1386,.int .i64 t1387,.int .i64 t1388,.int .i64 t1389,.int .i64 t1390,.int .i64 t1391,.int .i64 t1392,.int .i64 t1393,.string t1394,.string t1395,.bool t1396]),(75,.agg #[.int .i64 t1397,.int .i64 t1398,.int .i64 t1399,.int .i64 t1400,.int .i64 t1401,.int .i64 t1402,.string t1403]),(76,.tuple #[.agg #[.string t1404,.int .i64 t1405,.int .i64 t1406,.int .i64 t1407,.int .i64 t1408,.int .i64 t1409,.int .i64 t1410,.int .i64 t1411,.string t1412,.string t1413,.bool t1414],s_.1,.int .i64 t1418]),(14,.pointer (some ⟨s_.2,0,none⟩)),(71,.tuple #[.agg #[.string t1404,.int .i64 t1405,.int .i64 t1406,.int .i64 t1407,.int .i64 t1408,.int .i64 t1409,.int .i64 t1410,.int .i64 t1411,.string t1412,.string t1413,.bool t1414],s_.1,.int .i64 t1418]),(77,.agg #[.string t1404,.int .i64 t1405,.int .i64 t1406,.int .i64 t1407,.int .i64 t1408,.int .i64 t1409,.int .i64 t1410,.int .i64 t1411,.string t1412,.string t1413,.bool t1414]),(78,s_.1),(79,.int .i64 t1418)]) (fun s_ w' => (w'.cell? ⟨gb1309,0,none⟩ = some (.string a0_0)∧w'.cell? ⟨gb1309,1,none⟩ = some (.int .i64 a0_1)∧w'.cell? ⟨gb1309,2,none⟩ = some (.int .i64 a0_2)∧w'.cell? ⟨gb1309,3,none⟩ = some (.int .i64 a0_3)∧w'.cell? ⟨gb1309,4,none⟩ = some (.int .i64 a0_4)∧w'.cell? ⟨gb1309,5,none⟩ = some (.int .i64 a0_5)∧w'.cell? ⟨gb1309,6,none⟩ = some (.int .i64 a0_6)∧w'.cell? ⟨gb1309,7,none⟩ = some (.int .i64 a0_7)∧w'.cell? ⟨gb1309,8,none⟩ = some (.string a0_8)∧w'.cell? ⟨gb1309,9,none⟩ = some (.string a0_9)∧w'.cell? ⟨gb1309,10,none⟩ = some (.bool a0_10)∧w'.cell? ⟨gb1310,0,none⟩ = some (.int .i64 a1_0)∧w'.cell? ⟨gb1310,1,none⟩ = some (.int .i64 a1_1)∧w'.cell? ⟨gb1310,2,none⟩ = some (.int .i64 a1_2)∧w'.cell? ⟨gb1310,3,none⟩ = some (.int .i64 a1_3)∧w'.cell? ⟨gb1310,4,none⟩ = some (.int .i64 a1_4)∧w'.cell? ⟨gb1310,5,none⟩ = some (.int .i64 a1_5)∧w'.cell? ⟨gb1310,6,none⟩ = some (.string a1_6))∧(Kd.R k53 53 w' w.heap.size (fun k_ => some k_ ≠ (.slice Ao114 t1376.length co114:Value).ownBlock∧some k_ ≠ (v1343:Value).ownBlock) s_.1 t1415)∧(Kd.R k53 53 w' w.heap.size (fun k_ => some k_ ≠ (s_.1:Value).ownBlock∧some k_ ≠ (v1343:Value).ownBlock) (.slice Ao114 t1376.length co114) t1384)∧(Kd.R k53 53 w' w.heap.size (fun k_ => some k_ ≠ (s_.1:Value).ownBlock∧some k_ ≠ (.slice Ao114 t1376.length co114:Value).ownBlock) v1343 t1342)∧(w'.heap[gb1309]? = some (.cells #[.string a0_0,.int .i64 a0_1,.int .i64 a0_2,.int .i64 a0_3,.int .i64 a0_4,.int .i64 a0_5,.int .i64 a0_6,.int .i64 a0_7,.string a0_8,.string a0_9,.bool a0_10] 31 (0,0)))∧(w'.heap[gb1310]? = some (.cells #[.int .i64 a1_0,.int .i64 a1_1,.int .i64 a1_2,.int .i64 a1_3,.int .i64 a1_4,.int .i64 a1_5,.string a1_6] 48 (0,0)))∧(w'.heap[gb1346]? = some (.cells #[.string t1331,.int .i64 t1332,.int .i64 t1333,.int .i64 t1334,.int .i64 t1335,.int .i64 t1336,.int .i64 t1337,.int .i64 t1338,.string t1339,.string t1340,.bool t1341] 34 (0,0)))∧(w'.heap[gb1380]? = some (.cells #[.string t1365,.int .i64 t1366,.int .i64 t1367,.int .i64 t1368,.int .i64 t1369,.int .i64 t1370,.int .i64 t1371,.int .i64 t1372,.string t1373,.string t1374,.bool t1375] 34 (0,0)))∧(w'.heap[s_.2]? = some (.cells #[.string (⟨#[]⟩:ByteArray),.int .i64 0,.int .i64 0,.int .i64 0,.int .i64 0,.int .i64 0,.int .i64 0,.int .i64 0,.string (⟨#[]⟩:ByteArray),.string (⟨#[]⟩:ByteArray),.bool false] 34 (0,0)))∧(w.heap.size≤s_.2)∧(w.heap.size≤s_.2)∧(gb1309 ≠ s_.2)∧(s_.2 ≠ gb1309)∧(gb1310 ≠ s_.2)∧(s_.2 ≠ gb1310)∧(gb1346 ≠ s_.2)∧(s_.2 ≠ gb1346)∧(gb1380 ≠ s_.2)∧(s_.2 ≠ gb1380)∧(Below w.heap.size w w')) ?_ ?_
        rotate_left
        ·intro hCont
         refine two_ (i:=1) (j:=9) (Ni:=some 73) (Nj:=some 14) #[true,true,true,false,false,false,false,false,false,false,false,false,false] #[true,false,true,false,false,false,false,false,false,true,false,false,false] rfl rfl rfl rfl (two_of HT_.out (by kernel_rfl)) (by decide) (by decide) (fun K hK => ?_) (fun K hK => ?_)
         ·skip
          refine goes_ Try.func24 (by kernel_rfl) rfl #[.agg #[.string a0_0,.int .i64 a0_1,.int .i64 a0_2,.int .i64 a0_3,.int .i64 a0_4,.int .i64 a0_5,.int .i64 a0_6,.int .i64 a0_7,.string a0_8,.string a0_9,.bool a0_10]] (by rfl) rfl rfl (by (try simp only [List.map_toArray,List.map_cons,List.map_nil]);first | done | rfl|(simp only [List.length_drop,List.length_take];rfl)) ?_
          with_reducible refine (laws_toConn.calls a0_0 a0_1 a0_2 a0_3 a0_4 a0_5 a0_6 a0_7 a0_8 a0_9 a0_10 t1386 t1387 t1388 t1389 t1390 t1391 t1392 t1393 t1394 t1395 t1396 _ A110.out).mono ?_
          rintro e w118 ⟨rfl,hb⟩
          refine ⟨_,rfl,?_⟩
          replace HO_7:=aMk (Kd.R_below (kR (HO_7.out)) hb)
          replace HO_10:=aMk (Kd.R_below (kR (HO_10.out)) hb)
          replace BK1309:=aMk (bkB BK1309.out hb)
          replace BK1310:=aMk (bkB BK1310.out hb)
          replace BK1346:=aMk (bkB BK1346.out hb)
          replace BK1380:=aMk (bkB BK1380.out hb)
          replace HB:=aMk (bU hb)
          (try clear hb)
          (try clear hb2)
          (try clear hk)
          (try clear hi)
          refine hK.out _ _ (ca11 BK1309.out (cz7 BK1310.out)) (fun hHeld => ?_)
          clear hK K
          refine norm_ (a':=?_) ?_ ?_
          rotate_left
          ·show Act.put _ (some 73) _ = _
           simp only [Act.put,List.setIfInBounds_toArray,List.set_cons_zero,List.set_cons_succ,i64_w,i32_w]
           rfl
          refine two_ (i:=3) (j:=9) (Ni:=some 75) (Nj:=some 14) #[true,true,true,true,false,false,false,false,false,false,false,false,false] #[true,true,true,false,false,false,false,false,false,true,false,false,false] rfl rfl rfl rfl (two_of HT_.out (by kernel_rfl)) (by decide) (by decide) (fun K hK => ?_) (fun K hK => ?_)
          ·skip
           refine goes_ Try.func35 (by kernel_rfl) rfl #[.agg #[.int .i64 a1_0,.int .i64 a1_1,.int .i64 a1_2,.int .i64 a1_3,.int .i64 a1_4,.int .i64 a1_5,.string a1_6]] (by rfl) rfl rfl (by (try simp only [List.map_toArray,List.map_cons,List.map_nil]);first | done | rfl|(simp only [List.length_drop,List.length_take];rfl)) ?_
           with_reducible refine (laws_toSegment.calls a1_0 a1_1 a1_2 a1_3 a1_4 a1_5 a1_6 t1397 t1398 t1399 t1400 t1401 t1402 t1403 _ A111.out).mono ?_
           rintro e w119 ⟨rfl,hb⟩
           refine ⟨_,rfl,?_⟩
           replace HO_7:=aMk (Kd.R_below (kR (HO_7.out)) hb)
           replace HO_10:=aMk (Kd.R_below (kR (HO_10.out)) hb)
           replace BK1309:=aMk (bkB BK1309.out hb)
           replace BK1310:=aMk (bkB BK1310.out hb)
           replace BK1346:=aMk (bkB BK1346.out hb)
           replace BK1380:=aMk (bkB BK1380.out hb)
           replace HB:=aMk (bU hb)
           (try clear hb)
           (try clear hb2)
           (try clear hk)
           (try clear hi)
           refine hK.out _ _ (ca11 BK1309.out (cz7 BK1310.out)) (fun hHeld => ?_)
           clear hK K
           refine norm_ (a':=?_) ?_ ?_
           rotate_left
           ·show Act.put _ (some 75) _ = _
            simp only [Act.put,List.setIfInBounds_toArray,List.set_cons_zero,List.set_cons_succ,i64_w,i32_w]
            rfl
           refine two_ (i:=4) (j:=9) (Ni:=some 76) (Nj:=some 14) #[true,true,true,true,true,false,false,false,false,false,false,false,false] #[true,true,true,true,false,false,false,false,false,true,false,false,false] rfl rfl rfl rfl (two_of HT_.out (by kernel_rfl)) (by decide) (by decide) (fun K hK => ?_) (fun K hK => ?_)
           ·skip
            refine goes_ Try.func58 (by kernel_rfl) rfl #[.agg #[.string t1386,.int .i64 t1387,.int .i64 t1388,.int .i64 t1389,.int .i64 t1390,.int .i64 t1391,.int .i64 t1392,.int .i64 t1393,.string t1394,.string t1395,.bool t1396],.agg #[.int .i64 t1397,.int .i64 t1398,.int .i64 t1399,.int .i64 t1400,.int .i64 t1401,.int .i64 t1402,.string t1403]] (by rfl) rfl rfl (by (try simp only [List.map_toArray,List.map_cons,List.map_nil]);first | done | rfl|(simp only [List.length_drop,List.length_take];rfl)) ?_
            with_reducible refine (impl_ConnTake.calls kj24 t1386 t1387 t1388 t1389 t1390 t1391 t1392 t1393 t1394 t1395 t1396 t1397 t1398 t1399 t1400 t1401 t1402 t1403 t1404 t1405 t1406 t1407 t1408 t1409 t1410 t1411 t1412 t1413 t1414 t1415 t1418 _ A112.out).mono ?_
            rintro e w120 ⟨v1416,rfl,ho0,hb⟩
            refine ⟨_,rfl,?_⟩
            have HO1417:=aMk (Kd.R_lower (Kd.R_new' (Kd.R_new' ho0 (Kd.R_lt (kR (HO_7.out)))) (Kd.R_lt (kR (HO_10.out)))) (below_size bW))
            replace HO_7:=aMk (Kd.R_elder' (kR (HO_7.out)) (Kd.R_base ho0) hb)
            replace HO_10:=aMk (Kd.R_elder' (kR (HO_10.out)) (Kd.R_base ho0) hb)
            replace BK1309:=aMk (bkB BK1309.out hb)
            replace BK1310:=aMk (bkB BK1310.out hb)
            replace BK1346:=aMk (bkB BK1346.out hb)
            replace BK1380:=aMk (bkB BK1380.out hb)
            replace HB:=aMk (bU hb)
            (try clear hb)
            (try clear hb2)
            (try clear hk)
            (try clear hi)
            (try clear ho0)
            refine hK.out _ _ (ca11 BK1309.out (cz7 BK1310.out)) (fun hHeld => ?_)
            clear hK K
            refine norm_ (a':=?_) ?_ ?_
            rotate_left
            ·show Act.put _ (some 76) _ = _
             simp only [Act.put,List.setIfInBounds_toArray,List.set_cons_zero,List.set_cons_succ,i64_w,i32_w]
             rfl
            refine pU (i:=5) (N:=some 71) #[true,true,true,true,true,true,false,false,false,false,false,false,false] (any_of HT_.out (by kernel_rfl)) ?_
            refine pU (i:=6) (N:=some 77) #[true,true,true,true,true,true,true,false,false,false,false,false,false] (any_of HT_.out (by kernel_rfl)) ?_
            refine pU (i:=7) (N:=some 78) #[true,true,true,true,true,true,true,true,false,false,false,false,false] (any_of HT_.out (by kernel_rfl)) ?_
            refine pU (i:=8) (N:=some 79) #[true,true,true,true,true,true,true,true,true,false,false,false,false] (any_of HT_.out (by kernel_rfl)) ?_
            refine one_ (i:=9) (N:=some 14) #[true,true,true,true,true,true,true,true,true,true,false,false,false] rfl rfl (one_of HT_.out (by kernel_rfl)) (by decide) (fun K hK => ?_)
            refine box_step ?hg (N:=14) ?hd (cs:=#[.string (⟨#[]⟩:ByteArray),.int .i64 0,.int .i64 0,.int .i64 0,.int .i64 0,.int .i64 0,.int .i64 0,.int .i64 0,.string (⟨#[]⟩:ByteArray),.string (⟨#[]⟩:ByteArray),.bool false]) (t:=34) ?hr ?_;(case hd => rfl);(case hg => rfl);(case hr => first|(go_simp;done)|(go_simp;rfl))
            intro gb1419 hg w121 hbox hb
            replace HO_7:=aMk (Kd.R_below (kR (HO_7.out)) hb)
            replace HO_10:=aMk (Kd.R_below (kR (HO_10.out)) hb)
            replace HO1417:=aMk (Kd.R_below (kR (HO1417.out)) hb)
            have BK1419:=aMk (hbox)
            have GW1419:=aMk (bG bW hg)
            have GE1419:=aMk (bG bW hg)
            replace HB:=aMk (bU hb)
            have NB1309_1419:=aMk ((bkL BK1309.out hg:gb1309 ≠ gb1419))
            have NB1419_1309:=aMk ((bkG BK1309.out hg:gb1419 ≠ gb1309))
            replace BK1309:=aMk (bkB BK1309.out hb)
            have NB1310_1419:=aMk ((bkL BK1310.out hg:gb1310 ≠ gb1419))
            have NB1419_1310:=aMk ((bkG BK1310.out hg:gb1419 ≠ gb1310))
            replace BK1310:=aMk (bkB BK1310.out hb)
            have NB1346_1419:=aMk ((bkL BK1346.out hg:gb1346 ≠ gb1419))
            have NB1419_1346:=aMk ((bkG BK1346.out hg:gb1419 ≠ gb1346))
            replace BK1346:=aMk (bkB BK1346.out hb)
            have NB1380_1419:=aMk ((bkL BK1380.out hg:gb1380 ≠ gb1419))
            have NB1419_1380:=aMk ((bkG BK1380.out hg:gb1419 ≠ gb1380))
            replace BK1380:=aMk (bkB BK1380.out hb)
            clear hb hbox hg
            refine hK.out _ _ (ca11 BK1309.out (cz7 BK1310.out)) (fun hHeld => ?_)
            clear hK K
            refine norm_ (a':=?_) ?_ ?_
            rotate_left
            ·show Act.put _ (some 14) _ = _
             simp only [Act.put,List.setIfInBounds_toArray,List.set_cons_zero,List.set_cons_succ,i64_w,i32_w]
             rfl
            exact norm_ (by simp only [putAll,Act.put,List.setIfInBounds_toArray,List.set_cons_zero,List.set_cons_succ]) (hCont (v1416,gb1419) _ ⟨hHeld,(by (with_reducible repeat (first|apply Kd.R_alloc|apply Kd.R_drewN|apply Kd.R_drew));exact Kd.R_mono HO1417.out (fun _ hk => ⟨hk.2,hk.1.2⟩)),(by (with_reducible repeat (first|apply Kd.R_alloc|apply Kd.R_drewN|apply Kd.R_drew));exact Kd.R_mono HO_10.out (fun _ hk => ⟨hk.2,hk.1⟩)),(by (with_reducible repeat (first|apply Kd.R_alloc|apply Kd.R_drewN|apply Kd.R_drew));exact Kd.R_mono HO_7.out (fun _ hk => ⟨hk.2,hk.1⟩)),(pB BK1309.out),(pB BK1310.out),(pB BK1346.out),(pB BK1380.out),(pB BK1419.out),GW1419.out,GE1419.out,NB1309_1419.out,NB1419_1309.out,NB1310_1419.out,NB1419_1310.out,NB1346_1419.out,NB1419_1346.out,NB1380_1419.out,NB1419_1380.out,bW⟩)
           ·skip
            refine box_step ?hg (N:=14) ?hd (cs:=#[.string (⟨#[]⟩:ByteArray),.int .i64 0,.int .i64 0,.int .i64 0,.int .i64 0,.int .i64 0,.int .i64 0,.int .i64 0,.string (⟨#[]⟩:ByteArray),.string (⟨#[]⟩:ByteArray),.bool false]) (t:=34) ?hr ?_;(case hd => rfl);(case hg => rfl);(case hr => first|(go_simp;done)|(go_simp;rfl))
            intro gb1419 hg w120 hbox hb
            replace HO_7:=aMk (Kd.R_below (kR (HO_7.out)) hb)
            replace HO_10:=aMk (Kd.R_below (kR (HO_10.out)) hb)
            have BK1419:=aMk (hbox)
            have GW1419:=aMk (bG bW hg)
            have GE1419:=aMk (bG bW hg)
            replace HB:=aMk (bU hb)
            have NB1309_1419:=aMk ((bkL BK1309.out hg:gb1309 ≠ gb1419))
            have NB1419_1309:=aMk ((bkG BK1309.out hg:gb1419 ≠ gb1309))
            replace BK1309:=aMk (bkB BK1309.out hb)
            have NB1310_1419:=aMk ((bkL BK1310.out hg:gb1310 ≠ gb1419))
            have NB1419_1310:=aMk ((bkG BK1310.out hg:gb1419 ≠ gb1310))
            replace BK1310:=aMk (bkB BK1310.out hb)
            have NB1346_1419:=aMk ((bkL BK1346.out hg:gb1346 ≠ gb1419))
            have NB1419_1346:=aMk ((bkG BK1346.out hg:gb1419 ≠ gb1346))
            replace BK1346:=aMk (bkB BK1346.out hb)
            have NB1380_1419:=aMk ((bkL BK1380.out hg:gb1380 ≠ gb1419))
            have NB1419_1380:=aMk ((bkG BK1380.out hg:gb1419 ≠ gb1380))
            replace BK1380:=aMk (bkB BK1380.out hb)
            clear hb hbox hg
            refine hK.out _ _ (ca11 BK1309.out (cz7 BK1310.out)) (fun hHeld => ?_)
            clear hK K
            refine norm_ (a':=?_) ?_ ?_
            rotate_left
            ·show Act.put _ (some 14) _ = _
             simp only [Act.put,List.setIfInBounds_toArray,List.set_cons_zero,List.set_cons_succ,i64_w,i32_w]
             rfl
            refine one_ (i:=4) (N:=some 76) #[true,true,true,true,true,false,false,false,false,true,false,false,false] rfl rfl (one_of HT_.out (by kernel_rfl)) (by decide) (fun K hK => ?_)
            refine goes_ Try.func58 (by kernel_rfl) rfl #[.agg #[.string t1386,.int .i64 t1387,.int .i64 t1388,.int .i64 t1389,.int .i64 t1390,.int .i64 t1391,.int .i64 t1392,.int .i64 t1393,.string t1394,.string t1395,.bool t1396],.agg #[.int .i64 t1397,.int .i64 t1398,.int .i64 t1399,.int .i64 t1400,.int .i64 t1401,.int .i64 t1402,.string t1403]] (by rfl) rfl rfl (by (try simp only [List.map_toArray,List.map_cons,List.map_nil]);first | done | rfl|(simp only [List.length_drop,List.length_take];rfl)) ?_
            with_reducible refine (impl_ConnTake.calls kj24 t1386 t1387 t1388 t1389 t1390 t1391 t1392 t1393 t1394 t1395 t1396 t1397 t1398 t1399 t1400 t1401 t1402 t1403 t1404 t1405 t1406 t1407 t1408 t1409 t1410 t1411 t1412 t1413 t1414 t1415 t1418 _ A112.out).mono ?_
            rintro e w121 ⟨v1416,rfl,ho0,hb⟩
            refine ⟨_,rfl,?_⟩
            have HO1417:=aMk (Kd.R_lower (Kd.R_new' (Kd.R_new' ho0 (Kd.R_lt (kR (HO_7.out)))) (Kd.R_lt (kR (HO_10.out)))) (below_size bW))
            replace HO_7:=aMk (Kd.R_elder' (kR (HO_7.out)) (Kd.R_base ho0) hb)
            replace HO_10:=aMk (Kd.R_elder' (kR (HO_10.out)) (Kd.R_base ho0) hb)
            replace BK1309:=aMk (bkB BK1309.out hb)
            replace BK1310:=aMk (bkB BK1310.out hb)
            replace BK1346:=aMk (bkB BK1346.out hb)
            replace BK1380:=aMk (bkB BK1380.out hb)
            replace BK1419:=aMk (bkB BK1419.out hb)
            replace HB:=aMk (bU hb)
            (try clear hb)
            (try clear hb2)
            (try clear hk)
            (try clear hi)
            (try clear ho0)
            refine hK.out _ _ (ca11 BK1309.out (cz7 BK1310.out)) (fun hHeld => ?_)
            clear hK K
            refine norm_ (a':=?_) ?_ ?_
            rotate_left
            ·show Act.put _ (some 76) _ = _
             simp only [Act.put,List.setIfInBounds_toArray,List.set_cons_zero,List.set_cons_succ,i64_w,i32_w]
             rfl
            refine pU (i:=5) (N:=some 71) #[true,true,true,true,true,true,false,false,false,true,false,false,false] (any_of HT_.out (by kernel_rfl)) ?_
            refine pU (i:=6) (N:=some 77) #[true,true,true,true,true,true,true,false,false,true,false,false,false] (any_of HT_.out (by kernel_rfl)) ?_
            refine pU (i:=7) (N:=some 78) #[true,true,true,true,true,true,true,true,false,true,false,false,false] (any_of HT_.out (by kernel_rfl)) ?_
            refine pU (i:=8) (N:=some 79) #[true,true,true,true,true,true,true,true,true,true,false,false,false] (any_of HT_.out (by kernel_rfl)) ?_
            exact norm_ (by simp only [putAll,Act.put,List.setIfInBounds_toArray,List.set_cons_zero,List.set_cons_succ]) (hCont (v1416,gb1419) _ ⟨hHeld,(by (with_reducible repeat (first|apply Kd.R_alloc|apply Kd.R_drewN|apply Kd.R_drew));exact Kd.R_mono HO1417.out (fun _ hk => ⟨hk.2,hk.1.2⟩)),(by (with_reducible repeat (first|apply Kd.R_alloc|apply Kd.R_drewN|apply Kd.R_drew));exact Kd.R_mono HO_10.out (fun _ hk => ⟨hk.2,hk.1⟩)),(by (with_reducible repeat (first|apply Kd.R_alloc|apply Kd.R_drewN|apply Kd.R_drew));exact Kd.R_mono HO_7.out (fun _ hk => ⟨hk.2,hk.1⟩)),(pB BK1309.out),(pB BK1310.out),(pB BK1346.out),(pB BK1380.out),(pB BK1419.out),GW1419.out,GE1419.out,NB1309_1419.out,NB1419_1309.out,NB1310_1419.out,NB1419_1310.out,NB1346_1419.out,NB1419_1346.out,NB1380_1419.out,NB1419_1380.out,bW⟩)
          ·skip
           refine box_step ?hg (N:=14) ?hd (cs:=#[.string (⟨#[]⟩:ByteArray),.int .i64 0,.int .i64 0,.int .i64 0,.int .i64 0,.int .i64 0,.int .i64 0,.int .i64 0,.string (⟨#[]⟩:ByteArray),.string (⟨#[]⟩:ByteArray),.bool false]) (t:=34) ?hr ?_;(case hd => rfl);(case hg => rfl);(case hr => first|(go_simp;done)|(go_simp;rfl))
           intro gb1419 hg w119 hbox hb
           replace HO_7:=aMk (Kd.R_below (kR (HO_7.out)) hb)
           replace HO_10:=aMk (Kd.R_below (kR (HO_10.out)) hb)
           have BK1419:=aMk (hbox)
           have GW1419:=aMk (bG bW hg)
           have GE1419:=aMk (bG bW hg)
           replace HB:=aMk (bU hb)
           have NB1309_1419:=aMk ((bkL BK1309.out hg:gb1309 ≠ gb1419))
           have NB1419_1309:=aMk ((bkG BK1309.out hg:gb1419 ≠ gb1309))
           replace BK1309:=aMk (bkB BK1309.out hb)
           have NB1310_1419:=aMk ((bkL BK1310.out hg:gb1310 ≠ gb1419))
           have NB1419_1310:=aMk ((bkG BK1310.out hg:gb1419 ≠ gb1310))
           replace BK1310:=aMk (bkB BK1310.out hb)
           have NB1346_1419:=aMk ((bkL BK1346.out hg:gb1346 ≠ gb1419))
           have NB1419_1346:=aMk ((bkG BK1346.out hg:gb1419 ≠ gb1346))
           replace BK1346:=aMk (bkB BK1346.out hb)
           have NB1380_1419:=aMk ((bkL BK1380.out hg:gb1380 ≠ gb1419))
           have NB1419_1380:=aMk ((bkG BK1380.out hg:gb1419 ≠ gb1380))
           replace BK1380:=aMk (bkB BK1380.out hb)
           clear hb hbox hg
           refine hK.out _ _ (ca11 BK1309.out (cz7 BK1310.out)) (fun hHeld => ?_)
           clear hK K
           refine norm_ (a':=?_) ?_ ?_
           rotate_left
           ·show Act.put _ (some 14) _ = _
            simp only [Act.put,List.setIfInBounds_toArray,List.set_cons_zero,List.set_cons_succ,i64_w,i32_w]
            rfl
           refine one_ (i:=3) (N:=some 75) #[true,true,true,true,false,false,false,false,false,true,false,false,false] rfl rfl (one_of HT_.out (by kernel_rfl)) (by decide) (fun K hK => ?_)
           refine goes_ Try.func35 (by kernel_rfl) rfl #[.agg #[.int .i64 a1_0,.int .i64 a1_1,.int .i64 a1_2,.int .i64 a1_3,.int .i64 a1_4,.int .i64 a1_5,.string a1_6]] (by rfl) rfl rfl (by (try simp only [List.map_toArray,List.map_cons,List.map_nil]);first | done | rfl|(simp only [List.length_drop,List.length_take];rfl)) ?_
           with_reducible refine (laws_toSegment.calls a1_0 a1_1 a1_2 a1_3 a1_4 a1_5 a1_6 t1397 t1398 t1399 t1400 t1401 t1402 t1403 _ A111.out).mono ?_
           rintro e w120 ⟨rfl,hb⟩
           refine ⟨_,rfl,?_⟩
           replace HO_7:=aMk (Kd.R_below (kR (HO_7.out)) hb)
           replace HO_10:=aMk (Kd.R_below (kR (HO_10.out)) hb)
           replace BK1309:=aMk (bkB BK1309.out hb)
           replace BK1310:=aMk (bkB BK1310.out hb)
           replace BK1346:=aMk (bkB BK1346.out hb)
           replace BK1380:=aMk (bkB BK1380.out hb)
           replace BK1419:=aMk (bkB BK1419.out hb)
           replace HB:=aMk (bU hb)
           (try clear hb)
           (try clear hb2)
           (try clear hk)
           (try clear hi)
           refine hK.out _ _ (ca11 BK1309.out (cz7 BK1310.out)) (fun hHeld => ?_)
           clear hK K
           refine norm_ (a':=?_) ?_ ?_
           rotate_left
           ·show Act.put _ (some 75) _ = _
            simp only [Act.put,List.setIfInBounds_toArray,List.set_cons_zero,List.set_cons_succ,i64_w,i32_w]
            rfl
           refine one_ (i:=4) (N:=some 76) #[true,true,true,true,true,false,false,false,false,true,false,false,false] rfl rfl (one_of HT_.out (by kernel_rfl)) (by decide) (fun K hK => ?_)
           refine goes_ Try.func58 (by kernel_rfl) rfl #[.agg #[.string t1386,.int .i64 t1387,.int .i64 t1388,.int .i64 t1389,.int .i64 t1390,.int .i64 t1391,.int .i64 t1392,.int .i64 t1393,.string t1394,.string t1395,.bool t1396],.agg #[.int .i64 t1397,.int .i64 t1398,.int .i64 t1399,.int .i64 t1400,.int .i64 t1401,.int .i64 t1402,.string t1403]] (by rfl) rfl rfl (by (try simp only [List.map_toArray,List.map_cons,List.map_nil]);first | done | rfl|(simp only [List.length_drop,List.length_take];rfl)) ?_
           with_reducible refine (impl_ConnTake.calls kj24 t1386 t1387 t1388 t1389 t1390 t1391 t1392 t1393 t1394 t1395 t1396 t1397 t1398 t1399 t1400 t1401 t1402 t1403 t1404 t1405 t1406 t1407 t1408 t1409 t1410 t1411 t1412 t1413 t1414 t1415 t1418 _ A112.out).mono ?_
           rintro e w121 ⟨v1416,rfl,ho0,hb⟩
           refine ⟨_,rfl,?_⟩
           have HO1417:=aMk (Kd.R_lower (Kd.R_new' (Kd.R_new' ho0 (Kd.R_lt (kR (HO_7.out)))) (Kd.R_lt (kR (HO_10.out)))) (below_size bW))
           replace HO_7:=aMk (Kd.R_elder' (kR (HO_7.out)) (Kd.R_base ho0) hb)
           replace HO_10:=aMk (Kd.R_elder' (kR (HO_10.out)) (Kd.R_base ho0) hb)
           replace BK1309:=aMk (bkB BK1309.out hb)
           replace BK1310:=aMk (bkB BK1310.out hb)
           replace BK1346:=aMk (bkB BK1346.out hb)
           replace BK1380:=aMk (bkB BK1380.out hb)
           replace BK1419:=aMk (bkB BK1419.out hb)
           replace HB:=aMk (bU hb)
           (try clear hb)
           (try clear hb2)
           (try clear hk)
           (try clear hi)
           (try clear ho0)
           refine hK.out _ _ (ca11 BK1309.out (cz7 BK1310.out)) (fun hHeld => ?_)
           clear hK K
           refine norm_ (a':=?_) ?_ ?_
           rotate_left
           ·show Act.put _ (some 76) _ = _
            simp only [Act.put,List.setIfInBounds_toArray,List.set_cons_zero,List.set_cons_succ,i64_w,i32_w]
            rfl
           refine pU (i:=5) (N:=some 71) #[true,true,true,true,true,true,false,false,false,true,false,false,false] (any_of HT_.out (by kernel_rfl)) ?_
           refine pU (i:=6) (N:=some 77) #[true,true,true,true,true,true,true,false,false,true,false,false,false] (any_of HT_.out (by kernel_rfl)) ?_
           refine pU (i:=7) (N:=some 78) #[true,true,true,true,true,true,true,true,false,true,false,false,false] (any_of HT_.out (by kernel_rfl)) ?_
           refine pU (i:=8) (N:=some 79) #[true,true,true,true,true,true,true,true,true,true,false,false,false] (any_of HT_.out (by kernel_rfl)) ?_
           exact norm_ (by simp only [putAll,Act.put,List.setIfInBounds_toArray,List.set_cons_zero,List.set_cons_succ]) (hCont (v1416,gb1419) _ ⟨hHeld,(by (with_reducible repeat (first|apply Kd.R_alloc|apply Kd.R_drewN|apply Kd.R_drew));exact Kd.R_mono HO1417.out (fun _ hk => ⟨hk.2,hk.1.2⟩)),(by (with_reducible repeat (first|apply Kd.R_alloc|apply Kd.R_drewN|apply Kd.R_drew));exact Kd.R_mono HO_10.out (fun _ hk => ⟨hk.2,hk.1⟩)),(by (with_reducible repeat (first|apply Kd.R_alloc|apply Kd.R_drewN|apply Kd.R_drew));exact Kd.R_mono HO_7.out (fun _ hk => ⟨hk.2,hk.1⟩)),(pB BK1309.out),(pB BK1310.out),(pB BK1346.out),(pB BK1380.out),(pB BK1419.out),GW1419.out,GE1419.out,NB1309_1419.out,NB1419_1309.out,NB1310_1419.out,NB1419_1310.out,NB1346_1419.out,NB1419_1346.out,NB1380_1419.out,NB1419_1380.out,bW⟩)
         ·skip
          refine box_step ?hg (N:=14) ?hd (cs:=#[.string (⟨#[]⟩:ByteArray),.int .i64 0,.int .i64 0,.int .i64 0,.int .i64 0,.int .i64 0,.int .i64 0,.int .i64 0,.string (⟨#[]⟩:ByteArray),.string (⟨#[]⟩:ByteArray),.bool false]) (t:=34) ?hr ?_;(case hd => rfl);(case hg => rfl);(case hr => first|(go_simp;done)|(go_simp;rfl))
          intro gb1419 hg w118 hbox hb
          replace HO_7:=aMk (Kd.R_below (kR (HO_7.out)) hb)
          replace HO_10:=aMk (Kd.R_below (kR (HO_10.out)) hb)
          have BK1419:=aMk (hbox)
          have GW1419:=aMk (bG bW hg)
          have GE1419:=aMk (bG bW hg)
          replace HB:=aMk (bU hb)
          have NB1309_1419:=aMk ((bkL BK1309.out hg:gb1309 ≠ gb1419))
          have NB1419_1309:=aMk ((bkG BK1309.out hg:gb1419 ≠ gb1309))
          replace BK1309:=aMk (bkB BK1309.out hb)
          have NB1310_1419:=aMk ((bkL BK1310.out hg:gb1310 ≠ gb1419))
          have NB1419_1310:=aMk ((bkG BK1310.out hg:gb1419 ≠ gb1310))
          replace BK1310:=aMk (bkB BK1310.out hb)
          have NB1346_1419:=aMk ((bkL BK1346.out hg:gb1346 ≠ gb1419))
          have NB1419_1346:=aMk ((bkG BK1346.out hg:gb1419 ≠ gb1346))
          replace BK1346:=aMk (bkB BK1346.out hb)
          have NB1380_1419:=aMk ((bkL BK1380.out hg:gb1380 ≠ gb1419))
          have NB1419_1380:=aMk ((bkG BK1380.out hg:gb1419 ≠ gb1380))
          replace BK1380:=aMk (bkB BK1380.out hb)
          clear hb hbox hg
          refine hK.out _ _ (ca11 BK1309.out (cz7 BK1310.out)) (fun hHeld => ?_)
          clear hK K
          refine norm_ (a':=?_) ?_ ?_
          rotate_left
          ·show Act.put _ (some 14) _ = _
           simp only [Act.put,List.setIfInBounds_toArray,List.set_cons_zero,List.set_cons_succ,i64_w,i32_w]
           rfl
          refine one_ (i:=1) (N:=some 73) #[true,true,true,false,false,false,false,false,false,true,false,false,false] rfl rfl (one_of HT_.out (by kernel_rfl)) (by decide) (fun K hK => ?_)
          refine goes_ Try.func24 (by kernel_rfl) rfl #[.agg #[.string a0_0,.int .i64 a0_1,.int .i64 a0_2,.int .i64 a0_3,.int .i64 a0_4,.int .i64 a0_5,.int .i64 a0_6,.int .i64 a0_7,.string a0_8,.string a0_9,.bool a0_10]] (by rfl) rfl rfl (by (try simp only [List.map_toArray,List.map_cons,List.map_nil]);first | done | rfl|(simp only [List.length_drop,List.length_take];rfl)) ?_
          with_reducible refine (laws_toConn.calls a0_0 a0_1 a0_2 a0_3 a0_4 a0_5 a0_6 a0_7 a0_8 a0_9 a0_10 t1386 t1387 t1388 t1389 t1390 t1391 t1392 t1393 t1394 t1395 t1396 _ A110.out).mono ?_
          rintro e w119 ⟨rfl,hb⟩
          refine ⟨_,rfl,?_⟩
          replace HO_7:=aMk (Kd.R_below (kR (HO_7.out)) hb)
          replace HO_10:=aMk (Kd.R_below (kR (HO_10.out)) hb)
          replace BK1309:=aMk (bkB BK1309.out hb)
          replace BK1310:=aMk (bkB BK1310.out hb)
          replace BK1346:=aMk (bkB BK1346.out hb)
          replace BK1380:=aMk (bkB BK1380.out hb)
          replace BK1419:=aMk (bkB BK1419.out hb)
          replace HB:=aMk (bU hb)
          (try clear hb)
          (try clear hb2)
          (try clear hk)
          (try clear hi)
          refine hK.out _ _ (ca11 BK1309.out (cz7 BK1310.out)) (fun hHeld => ?_)
          clear hK K
          refine norm_ (a':=?_) ?_ ?_
          rotate_left
          ·show Act.put _ (some 73) _ = _
           simp only [Act.put,List.setIfInBounds_toArray,List.set_cons_zero,List.set_cons_succ,i64_w,i32_w]
           rfl
          refine one_ (i:=3) (N:=some 75) #[true,true,true,true,false,false,false,false,false,true,false,false,false] rfl rfl (one_of HT_.out (by kernel_rfl)) (by decide) (fun K hK => ?_)
          refine goes_ Try.func35 (by kernel_rfl) rfl #[.agg #[.int .i64 a1_0,.int .i64 a1_1,.int .i64 a1_2,.int .i64 a1_3,.int .i64 a1_4,.int .i64 a1_5,.string a1_6]] (by rfl) rfl rfl (by (try simp only [List.map_toArray,List.map_cons,List.map_nil]);first | done | rfl|(simp only [List.length_drop,List.length_take];rfl)) ?_
          with_reducible refine (laws_toSegment.calls a1_0 a1_1 a1_2 a1_3 a1_4 a1_5 a1_6 t1397 t1398 t1399 t1400 t1401 t1402 t1403 _ A111.out).mono ?_
          rintro e w120 ⟨rfl,hb⟩
          refine ⟨_,rfl,?_⟩
          replace HO_7:=aMk (Kd.R_below (kR (HO_7.out)) hb)
          replace HO_10:=aMk (Kd.R_below (kR (HO_10.out)) hb)
          replace BK1309:=aMk (bkB BK1309.out hb)
          replace BK1310:=aMk (bkB BK1310.out hb)
          replace BK1346:=aMk (bkB BK1346.out hb)
          replace BK1380:=aMk (bkB BK1380.out hb)
          replace BK1419:=aMk (bkB BK1419.out hb)
          replace HB:=aMk (bU hb)
          (try clear hb)
          (try clear hb2)
          (try clear hk)
          (try clear hi)
          refine hK.out _ _ (ca11 BK1309.out (cz7 BK1310.out)) (fun hHeld => ?_)
          clear hK K
          refine norm_ (a':=?_) ?_ ?_
          rotate_left
          ·show Act.put _ (some 75) _ = _
           simp only [Act.put,List.setIfInBounds_toArray,List.set_cons_zero,List.set_cons_succ,i64_w,i32_w]
           rfl
          refine one_ (i:=4) (N:=some 76) #[true,true,true,true,true,false,false,false,false,true,false,false,false] rfl rfl (one_of HT_.out (by kernel_rfl)) (by decide) (fun K hK => ?_)
          refine goes_ Try.func58 (by kernel_rfl) rfl #[.agg #[.string t1386,.int .i64 t1387,.int .i64 t1388,.int .i64 t1389,.int .i64 t1390,.int .i64 t1391,.int .i64 t1392,.int .i64 t1393,.string t1394,.string t1395,.bool t1396],.agg #[.int .i64 t1397,.int .i64 t1398,.int .i64 t1399,.int .i64 t1400,.int .i64 t1401,.int .i64 t1402,.string t1403]] (by rfl) rfl rfl (by (try simp only [List.map_toArray,List.map_cons,List.map_nil]);first | done | rfl|(simp only [List.length_drop,List.length_take];rfl)) ?_
          with_reducible refine (impl_ConnTake.calls kj24 t1386 t1387 t1388 t1389 t1390 t1391 t1392 t1393 t1394 t1395 t1396 t1397 t1398 t1399 t1400 t1401 t1402 t1403 t1404 t1405 t1406 t1407 t1408 t1409 t1410 t1411 t1412 t1413 t1414 t1415 t1418 _ A112.out).mono ?_
          rintro e w121 ⟨v1416,rfl,ho0,hb⟩
          refine ⟨_,rfl,?_⟩
          have HO1417:=aMk (Kd.R_lower (Kd.R_new' (Kd.R_new' ho0 (Kd.R_lt (kR (HO_7.out)))) (Kd.R_lt (kR (HO_10.out)))) (below_size bW))
          replace HO_7:=aMk (Kd.R_elder' (kR (HO_7.out)) (Kd.R_base ho0) hb)
          replace HO_10:=aMk (Kd.R_elder' (kR (HO_10.out)) (Kd.R_base ho0) hb)
          replace BK1309:=aMk (bkB BK1309.out hb)
          replace BK1310:=aMk (bkB BK1310.out hb)
          replace BK1346:=aMk (bkB BK1346.out hb)
          replace BK1380:=aMk (bkB BK1380.out hb)
          replace BK1419:=aMk (bkB BK1419.out hb)
          replace HB:=aMk (bU hb)
          (try clear hb)
          (try clear hb2)
          (try clear hk)
          (try clear hi)
          (try clear ho0)
          refine hK.out _ _ (ca11 BK1309.out (cz7 BK1310.out)) (fun hHeld => ?_)
          clear hK K
          refine norm_ (a':=?_) ?_ ?_
          rotate_left
          ·show Act.put _ (some 76) _ = _
           simp only [Act.put,List.setIfInBounds_toArray,List.set_cons_zero,List.set_cons_succ,i64_w,i32_w]
           rfl
          refine pU (i:=5) (N:=some 71) #[true,true,true,true,true,true,false,false,false,true,false,false,false] (any_of HT_.out (by kernel_rfl)) ?_
          refine pU (i:=6) (N:=some 77) #[true,true,true,true,true,true,true,false,false,true,false,false,false] (any_of HT_.out (by kernel_rfl)) ?_
          refine pU (i:=7) (N:=some 78) #[true,true,true,true,true,true,true,true,false,true,false,false,false] (any_of HT_.out (by kernel_rfl)) ?_
          refine pU (i:=8) (N:=some 79) #[true,true,true,true,true,true,true,true,true,true,false,false,false] (any_of HT_.out (by kernel_rfl)) ?_
          exact norm_ (by simp only [putAll,Act.put,List.setIfInBounds_toArray,List.set_cons_zero,List.set_cons_succ]) (hCont (v1416,gb1419) _ ⟨hHeld,(by (with_reducible repeat (first|apply Kd.R_alloc|apply Kd.R_drewN|apply Kd.R_drew));exact Kd.R_mono HO1417.out (fun _ hk => ⟨hk.2,hk.1.2⟩)),(by (with_reducible repeat (first|apply Kd.R_alloc|apply Kd.R_drewN|apply Kd.R_drew));exact Kd.R_mono HO_10.out (fun _ hk => ⟨hk.2,hk.1⟩)),(by (with_reducible repeat (first|apply Kd.R_alloc|apply Kd.R_drewN|apply Kd.R_drew));exact Kd.R_mono HO_7.out (fun _ hk => ⟨hk.2,hk.1⟩)),(pB BK1309.out),(pB BK1310.out),(pB BK1346.out),(pB BK1380.out),(pB BK1419.out),GW1419.out,GE1419.out,NB1309_1419.out,NB1419_1309.out,NB1310_1419.out,NB1419_1310.out,NB1346_1419.out,NB1419_1346.out,NB1380_1419.out,NB1419_1380.out,bW⟩)
        rintro ⟨v1416,gb1419⟩ w122 ⟨hS_,h0_,h1_,h2_,h3_,h4_,h5_,h6_,h7_,h8_,h9_,h10_,h11_,h12_,h13_,h14_,h15_,h16_,h17_,h18_⟩
        have n0_:Aside0 (Kd.R k53 53 w122 w.heap.size (fun k_ => some k_ ≠ (.slice Ao114 t1376.length co114:Value).ownBlock∧some k_ ≠ (v1343:Value).ownBlock) v1416 t1415):=⟨h0_⟩
        have n1_:Aside0 (Kd.R k53 53 w122 w.heap.size (fun k_ => some k_ ≠ (v1416:Value).ownBlock∧some k_ ≠ (v1343:Value).ownBlock) (.slice Ao114 t1376.length co114) t1384):=⟨h1_⟩
        have n2_:Aside0 (Kd.R k53 53 w122 w.heap.size (fun k_ => some k_ ≠ (v1416:Value).ownBlock∧some k_ ≠ (.slice Ao114 t1376.length co114:Value).ownBlock) v1343 t1342):=⟨h2_⟩
        have n3_:Aside0 (w122.heap[gb1309]? = some (.cells #[.string a0_0,.int .i64 a0_1,.int .i64 a0_2,.int .i64 a0_3,.int .i64 a0_4,.int .i64 a0_5,.int .i64 a0_6,.int .i64 a0_7,.string a0_8,.string a0_9,.bool a0_10] 31 (0,0))):=⟨h3_⟩
        have n4_:Aside0 (w122.heap[gb1310]? = some (.cells #[.int .i64 a1_0,.int .i64 a1_1,.int .i64 a1_2,.int .i64 a1_3,.int .i64 a1_4,.int .i64 a1_5,.string a1_6] 48 (0,0))):=⟨h4_⟩
        have n5_:Aside0 (w122.heap[gb1346]? = some (.cells #[.string t1331,.int .i64 t1332,.int .i64 t1333,.int .i64 t1334,.int .i64 t1335,.int .i64 t1336,.int .i64 t1337,.int .i64 t1338,.string t1339,.string t1340,.bool t1341] 34 (0,0))):=⟨h5_⟩
        have n6_:Aside0 (w122.heap[gb1380]? = some (.cells #[.string t1365,.int .i64 t1366,.int .i64 t1367,.int .i64 t1368,.int .i64 t1369,.int .i64 t1370,.int .i64 t1371,.int .i64 t1372,.string t1373,.string t1374,.bool t1375] 34 (0,0))):=⟨h6_⟩
        have n7_:Aside0 (w122.heap[gb1419]? = some (.cells #[.string (⟨#[]⟩:ByteArray),.int .i64 0,.int .i64 0,.int .i64 0,.int .i64 0,.int .i64 0,.int .i64 0,.int .i64 0,.string (⟨#[]⟩:ByteArray),.string (⟨#[]⟩:ByteArray),.bool false] 34 (0,0))):=⟨h7_⟩
        have n8_:Aside0 (w.heap.size≤gb1419):=⟨h8_⟩
        have n9_:Aside0 (w.heap.size≤gb1419):=⟨h9_⟩
        have n10_:Aside0 (gb1309 ≠ gb1419):=⟨h10_⟩
        have n11_:Aside0 (gb1419 ≠ gb1309):=⟨h11_⟩
        have n12_:Aside0 (gb1310 ≠ gb1419):=⟨h12_⟩
        have n13_:Aside0 (gb1419 ≠ gb1310):=⟨h13_⟩
        have n14_:Aside0 (gb1346 ≠ gb1419):=⟨h14_⟩
        have n15_:Aside0 (gb1419 ≠ gb1346):=⟨h15_⟩
        have n16_:Aside0 (gb1380 ≠ gb1419):=⟨h16_⟩
        have n17_:Aside0 (gb1419 ≠ gb1380):=⟨h17_⟩
        have n18_:Aside0 (Below w.heap.size w w122):=⟨h18_⟩
        clear HO_7
        clear HO_10
        clear BK1309
        clear BK1310
        clear BK1346
        clear BK1380
        clear HB
        clear h0_ h1_ h2_ h3_ h4_ h5_ h6_ h7_ h8_ h9_ h10_ h11_ h12_ h13_ h14_ h15_ h16_ h17_ h18_
        have HO1417:=n0_
        have HO_10:=n1_
        have HO_7:=n2_
        have BK1309:=n3_
        have BK1310:=n4_
        have BK1346:=n5_
        have BK1380:=n6_
        have BK1419:=n7_
        have GW1419:=n8_
        have GE1419:=n9_
        have NB1309_1419:=n10_
        have NB1419_1309:=n11_
        have NB1310_1419:=n12_
        have NB1419_1310:=n13_
        have NB1346_1419:=n14_
        have NB1419_1346:=n15_
        have NB1380_1419:=n16_
        have NB1419_1380:=n17_
        have HB:=n18_
        clear n0_ n1_ n2_ n3_ n4_ n5_ n6_ n7_ n8_ n9_ n10_ n11_ n12_ n13_ n14_ n15_ n16_ n17_ n18_
        have hHeld:w122.cell? ⟨gb1309,0,none⟩ = some (.string a0_0)∧w122.cell? ⟨gb1309,1,none⟩ = some (.int .i64 a0_1)∧w122.cell? ⟨gb1309,2,none⟩ = some (.int .i64 a0_2)∧w122.cell? ⟨gb1309,3,none⟩ = some (.int .i64 a0_3)∧w122.cell? ⟨gb1309,4,none⟩ = some (.int .i64 a0_4)∧w122.cell? ⟨gb1309,5,none⟩ = some (.int .i64 a0_5)∧w122.cell? ⟨gb1309,6,none⟩ = some (.int .i64 a0_6)∧w122.cell? ⟨gb1309,7,none⟩ = some (.int .i64 a0_7)∧w122.cell? ⟨gb1309,8,none⟩ = some (.string a0_8)∧w122.cell? ⟨gb1309,9,none⟩ = some (.string a0_9)∧w122.cell? ⟨gb1309,10,none⟩ = some (.bool a0_10)∧w122.cell? ⟨gb1310,0,none⟩ = some (.int .i64 a1_0)∧w122.cell? ⟨gb1310,1,none⟩ = some (.int .i64 a1_1)∧w122.cell? ⟨gb1310,2,none⟩ = some (.int .i64 a1_2)∧w122.cell? ⟨gb1310,3,none⟩ = some (.int .i64 a1_3)∧w122.cell? ⟨gb1310,4,none⟩ = some (.int .i64 a1_4)∧w122.cell? ⟨gb1310,5,none⟩ = some (.int .i64 a1_5)∧w122.cell? ⟨gb1310,6,none⟩ = some (.string a1_6):=hS_
        refine norm_ (a':=?_) ?_ ?_
        rotate_left
        ·simp only [putAll,Act.put,List.setIfInBounds_toArray,List.set_cons_zero,List.set_cons_succ]
         rfl
        refine one_ (i:=10) (N:=none) #[true,true,true,true,true,true,true,true,true,true,true,false,false] rfl rfl (one_of HT_.out (by kernel_rfl)) (by decide) (fun K hK => ?_)
        have hs123:w122.cell? ⟨gb1419,0,none⟩ = some (.string (⟨#[]⟩:ByteArray)):=(bCe BK1419.out 0).trans rfl
        have hfs123:=bFr BK1419.out 0
        have hns123_0:=NB1309_1419.out
        have hns123_1:=NB1310_1419.out
        have hns123_2:=NB1346_1419.out
        have hns123_3:=NB1380_1419.out
        have hms123_0:=NB1419_1309.out
        have hms123_1:=NB1419_1310.out
        have hms123_2:=NB1419_1346.out
        have hms123_3:=NB1419_1380.out
        have hs124:w122.cell? ⟨gb1419,1,none⟩ = some (.int .i64 0):=(bCe BK1419.out 1).trans rfl
        have hfs124:=bFr BK1419.out 1
        have hns124_0:=NB1309_1419.out
        have hns124_1:=NB1310_1419.out
        have hns124_2:=NB1346_1419.out
        have hns124_3:=NB1380_1419.out
        have hms124_0:=NB1419_1309.out
        have hms124_1:=NB1419_1310.out
        have hms124_2:=NB1419_1346.out
        have hms124_3:=NB1419_1380.out
        have hs125:w122.cell? ⟨gb1419,2,none⟩ = some (.int .i64 0):=(bCe BK1419.out 2).trans rfl
        have hfs125:=bFr BK1419.out 2
        have hns125_0:=NB1309_1419.out
        have hns125_1:=NB1310_1419.out
        have hns125_2:=NB1346_1419.out
        have hns125_3:=NB1380_1419.out
        have hms125_0:=NB1419_1309.out
        have hms125_1:=NB1419_1310.out
        have hms125_2:=NB1419_1346.out
        have hms125_3:=NB1419_1380.out
        have hs126:w122.cell? ⟨gb1419,3,none⟩ = some (.int .i64 0):=(bCe BK1419.out 3).trans rfl
        have hfs126:=bFr BK1419.out 3
        have hns126_0:=NB1309_1419.out
        have hns126_1:=NB1310_1419.out
        have hns126_2:=NB1346_1419.out
        have hns126_3:=NB1380_1419.out
        have hms126_0:=NB1419_1309.out
        have hms126_1:=NB1419_1310.out
        have hms126_2:=NB1419_1346.out
        have hms126_3:=NB1419_1380.out
        have hs127:w122.cell? ⟨gb1419,4,none⟩ = some (.int .i64 0):=(bCe BK1419.out 4).trans rfl
        have hfs127:=bFr BK1419.out 4
        have hns127_0:=NB1309_1419.out
        have hns127_1:=NB1310_1419.out
        have hns127_2:=NB1346_1419.out
        have hns127_3:=NB1380_1419.out
        have hms127_0:=NB1419_1309.out
        have hms127_1:=NB1419_1310.out
        have hms127_2:=NB1419_1346.out
        have hms127_3:=NB1419_1380.out
        have hs128:w122.cell? ⟨gb1419,5,none⟩ = some (.int .i64 0):=(bCe BK1419.out 5).trans rfl
        have hfs128:=bFr BK1419.out 5
        have hns128_0:=NB1309_1419.out
        have hns128_1:=NB1310_1419.out
        have hns128_2:=NB1346_1419.out
        have hns128_3:=NB1380_1419.out
        have hms128_0:=NB1419_1309.out
        have hms128_1:=NB1419_1310.out
        have hms128_2:=NB1419_1346.out
        have hms128_3:=NB1419_1380.out
        have hs129:w122.cell? ⟨gb1419,6,none⟩ = some (.int .i64 0):=(bCe BK1419.out 6).trans rfl
        have hfs129:=bFr BK1419.out 6
        have hns129_0:=NB1309_1419.out
        have hns129_1:=NB1310_1419.out
        have hns129_2:=NB1346_1419.out
        have hns129_3:=NB1380_1419.out
        have hms129_0:=NB1419_1309.out
        have hms129_1:=NB1419_1310.out
        have hms129_2:=NB1419_1346.out
        have hms129_3:=NB1419_1380.out
        have hs130:w122.cell? ⟨gb1419,7,none⟩ = some (.int .i64 0):=(bCe BK1419.out 7).trans rfl
        have hfs130:=bFr BK1419.out 7
        have hns130_0:=NB1309_1419.out
        have hns130_1:=NB1310_1419.out
        have hns130_2:=NB1346_1419.out
        have hns130_3:=NB1380_1419.out
        have hms130_0:=NB1419_1309.out
        have hms130_1:=NB1419_1310.out
        have hms130_2:=NB1419_1346.out
        have hms130_3:=NB1419_1380.out
        have hs131:w122.cell? ⟨gb1419,8,none⟩ = some (.string (⟨#[]⟩:ByteArray)):=(bCe BK1419.out 8).trans rfl
        have hfs131:=bFr BK1419.out 8
        have hns131_0:=NB1309_1419.out
        have hns131_1:=NB1310_1419.out
        have hns131_2:=NB1346_1419.out
        have hns131_3:=NB1380_1419.out
        have hms131_0:=NB1419_1309.out
        have hms131_1:=NB1419_1310.out
        have hms131_2:=NB1419_1346.out
        have hms131_3:=NB1419_1380.out
        have hs132:w122.cell? ⟨gb1419,9,none⟩ = some (.string (⟨#[]⟩:ByteArray)):=(bCe BK1419.out 9).trans rfl
        have hfs132:=bFr BK1419.out 9
        have hns132_0:=NB1309_1419.out
        have hns132_1:=NB1310_1419.out
        have hns132_2:=NB1346_1419.out
        have hns132_3:=NB1380_1419.out
        have hms132_0:=NB1419_1309.out
        have hms132_1:=NB1419_1310.out
        have hms132_2:=NB1419_1346.out
        have hms132_3:=NB1419_1380.out
        have hs133:w122.cell? ⟨gb1419,10,none⟩ = some (.bool false):=(bCe BK1419.out 10).trans rfl
        have hfs133:=bFr BK1419.out 10
        have hns133_0:=NB1309_1419.out
        have hns133_1:=NB1310_1419.out
        have hns133_2:=NB1346_1419.out
        have hns133_3:=NB1380_1419.out
        have hms133_0:=NB1419_1309.out
        have hms133_1:=NB1419_1310.out
        have hms133_2:=NB1419_1346.out
        have hms133_3:=NB1419_1380.out
        refine skip_ (w1:=?_) (by rfl) rfl ?_ ?_
        rotate_left
        ·go_simp
         rfl
        refine hK.out _ _ ⟨(cF11 NB1309_1419.out (hHeld.1)),(cF11 NB1309_1419.out (hHeld.2.1)),(cF11 NB1309_1419.out (hHeld.2.2.1)),(cF11 NB1309_1419.out (hHeld.2.2.2.1)),(cF11 NB1309_1419.out (hHeld.2.2.2.2.1)),(cF11 NB1309_1419.out (hHeld.2.2.2.2.2.1)),(cF11 NB1309_1419.out (hHeld.2.2.2.2.2.2.1)),(cF11 NB1309_1419.out (hHeld.2.2.2.2.2.2.2.1)),(cF11 NB1309_1419.out (hHeld.2.2.2.2.2.2.2.2.1)),(cF11 NB1309_1419.out (hHeld.2.2.2.2.2.2.2.2.2.1)),(cF11 NB1309_1419.out (hHeld.2.2.2.2.2.2.2.2.2.2.1)),(cF11 NB1310_1419.out (hHeld.2.2.2.2.2.2.2.2.2.2.2.1)),(cF11 NB1310_1419.out (hHeld.2.2.2.2.2.2.2.2.2.2.2.2.1)),(cF11 NB1310_1419.out (hHeld.2.2.2.2.2.2.2.2.2.2.2.2.2.1)),(cF11 NB1310_1419.out (hHeld.2.2.2.2.2.2.2.2.2.2.2.2.2.2.1)),(cF11 NB1310_1419.out (hHeld.2.2.2.2.2.2.2.2.2.2.2.2.2.2.2.1)),(cF11 NB1310_1419.out (hHeld.2.2.2.2.2.2.2.2.2.2.2.2.2.2.2.2.1)),(cF11 NB1310_1419.out (hHeld.2.2.2.2.2.2.2.2.2.2.2.2.2.2.2.2.2))⟩ (fun hHeld => ?_)
        clear hK K
        refine pU (i:=11) (N:=some 15) #[true,true,true,true,true,true,true,true,true,true,true,true,false] (any_of HT_.out (by kernel_rfl)) ?_
        refine pU (i:=12) (N:=some 16) #[true,true,true,true,true,true,true,true,true,true,true,true,true] (any_of HT_.out (by kernel_rfl)) ?_
        refine done_ (done_of HT_.out (by kernel_rfl)) ?_
        go_upto_region 21 with (fail)
        go_cut [94] (fun v94 wc => ∃ (kq:Nat) (x94_112:Bool),v94 = .bool x94_112∧Aside0 (laws_FnExactConnTake.j1 kq t1384 t1383 x94_112 = some r)∧Aside0 (kq≤kj24)∧Aside0 (Kd.R k53 53 wc w.heap.size (fun _ => True) (.slice Ao114 t1376.length co114) t1384)∧Aside0 (wc.heap[gb1309]? = some (.cells #[.string a0_0,.int .i64 a0_1,.int .i64 a0_2,.int .i64 a0_3,.int .i64 a0_4,.int .i64 a0_5,.int .i64 a0_6,.int .i64 a0_7,.string a0_8,.string a0_9,.bool a0_10] 31 (0,0)))∧Aside0 (wc.heap[gb1310]? = some (.cells #[.int .i64 a1_0,.int .i64 a1_1,.int .i64 a1_2,.int .i64 a1_3,.int .i64 a1_4,.int .i64 a1_5,.string a1_6] 48 (0,0)))∧Aside0 (wc.heap[gb1346]? = some (.cells #[.string t1331,.int .i64 t1332,.int .i64 t1333,.int .i64 t1334,.int .i64 t1335,.int .i64 t1336,.int .i64 t1337,.int .i64 t1338,.string t1339,.string t1340,.bool t1341] 34 (0,0)))∧Aside0 (wc.heap[gb1380]? = some (.cells #[.string t1365,.int .i64 t1366,.int .i64 t1367,.int .i64 t1368,.int .i64 t1369,.int .i64 t1370,.int .i64 t1371,.int .i64 t1372,.string t1373,.string t1374,.bool t1375] 34 (0,0)))∧Aside0 (wc.heap[gb1419]? = some (.cells #[.string t1404,.int .i64 t1405,.int .i64 t1406,.int .i64 t1407,.int .i64 t1408,.int .i64 t1409,.int .i64 t1410,.int .i64 t1411,.string t1412,.string t1413,.bool t1414] 34 (0,0)))∧Aside0 (Below w.heap.size w wc))
        case first =>
         have H:=HC113.out
         clear HC113
         replace H:=Option.bind_eq_some_iff.mp H
         obtain ⟨t1420,A1340,H⟩:=H
         try dsimp only at H
         have A134:=aMk A1340
         clear A1340
         by_cases c135:t1420 = true
         ·subst c135
          have H1:=H
          rw [if_pos rfl] at H1
          clear H
          have H:=H1
          clear H1
          replace H:=Option.bind_eq_some_iff.mp H
          obtain ⟨t1421,A1360,H⟩:=H
          try dsimp only at H
          have A136:=aMk A1360
          clear A1360
          by_cases c137:t1421 = true
          ·subst c137
           have H1:=H
           rw [if_pos rfl] at H1
           clear H
           have H:=H1
           clear H1
           have H':=aMk H
           clear H
           have hnb138:=NB1419_1309.out
           have hnc138:=NB1309_1419.out
           have hnb139:=NB1419_1310.out
           have hnc139:=NB1310_1419.out
           have hnb140:=NB1419_1346.out
           have hnc140:=NB1346_1419.out
           have hnb141:=NB1419_1380.out
           have hnc141:=NB1380_1419.out
           obtain ⟨Z142_0,Z142_1,Z142_2,Z142_3,Z142_4,Z142_5,Z142_6,Z142_7,Z142_8,Z142_9,Z142_10,Y142_0,Y142_1,Y142_2,Y142_3,Y142_4,Y142_5,Y142_6,Y142_7,Y142_8,Y142_9,Y142_10⟩:=bC11 BK1419.out
           have hnb143:=NB1346_1309.out
           have hnc143:=NB1309_1346.out
           have hnb144:=NB1346_1310.out
           have hnc144:=NB1310_1346.out
           have hnb145:=NB1346_1380.out
           have hnc145:=NB1380_1346.out
           obtain ⟨Z146_0,Z146_1,Z146_2,Z146_3,Z146_4,Z146_5,Z146_6,Z146_7,Z146_8,Z146_9,Z146_10,Y146_0,Y146_1,Y146_2,Y146_3,Y146_4,Y146_5,Y146_6,Y146_7,Y146_8,Y146_9,Y146_10⟩:=bC11 BK1346.out
           go_wp2_with (first|((with_reducible refine gate_callee (f:=37) rfl ?_);refine gLs 82 Try.func37 #[.agg #[.string t1404,.int .i64 t1405,.int .i64 t1406,.int .i64 t1407,.int .i64 t1408,.int .i64 t1409,.int .i64 t1410,.int .i64 t1411,.string t1412,.string t1413,.bool t1414],.agg #[.string t1331,.int .i64 t1332,.int .i64 t1333,.int .i64 t1334,.int .i64 t1335,.int .i64 t1336,.int .i64 t1337,.int .i64 t1338,.string t1339,.string t1340,.bool t1341]] ?_;(with_reducible refine (laws_eqConn.calls t1404 t1405 t1406 t1407 t1408 t1409 t1410 t1411 t1412 t1413 t1414 t1331 t1332 t1333 t1334 t1335 t1336 t1337 t1338 t1339 t1340 t1341 true _ A134.out).mono ?_);rintro e w147 ⟨rfl,hb⟩;refine ⟨_,rfl,?_⟩;replace HO_7:=aMk (Kd.R_below (kR ((Kd.R_mono (Kd.R_far (p:=⟨gb1419,10,none⟩) (Kd.R_far (p:=⟨gb1419,9,none⟩) (Kd.R_far (p:=⟨gb1419,8,none⟩) (Kd.R_far (p:=⟨gb1419,7,none⟩) (Kd.R_far (p:=⟨gb1419,6,none⟩) (Kd.R_far (p:=⟨gb1419,5,none⟩) (Kd.R_far (p:=⟨gb1419,4,none⟩) (Kd.R_far (p:=⟨gb1419,3,none⟩) (Kd.R_far (p:=⟨gb1419,2,none⟩) (Kd.R_far (p:=⟨gb1419,1,none⟩) (Kd.R_far (p:=⟨gb1419,0,none⟩) (Kd.R_types HO_7.out BK1419.out (by decide)) (fun _ hk => hk.2) (.string t1404)) (fun _ hk => hk.2) (.int .i64 t1405)) (fun _ hk => hk.2) (.int .i64 t1406)) (fun _ hk => hk.2) (.int .i64 t1407)) (fun _ hk => hk.2) (.int .i64 t1408)) (fun _ hk => hk.2) (.int .i64 t1409)) (fun _ hk => hk.2) (.int .i64 t1410)) (fun _ hk => hk.2) (.int .i64 t1411)) (fun _ hk => hk.2) (.string t1412)) (fun _ hk => hk.2) (.string t1413)) (fun _ hk => hk.2) (.bool t1414)) (fun _ h_ => h_.1)))) hb);replace HO_10:=aMk (Kd.R_below (kR ((Kd.R_mono (Kd.R_far (p:=⟨gb1419,10,none⟩) (Kd.R_far (p:=⟨gb1419,9,none⟩) (Kd.R_far (p:=⟨gb1419,8,none⟩) (Kd.R_far (p:=⟨gb1419,7,none⟩) (Kd.R_far (p:=⟨gb1419,6,none⟩) (Kd.R_far (p:=⟨gb1419,5,none⟩) (Kd.R_far (p:=⟨gb1419,4,none⟩) (Kd.R_far (p:=⟨gb1419,3,none⟩) (Kd.R_far (p:=⟨gb1419,2,none⟩) (Kd.R_far (p:=⟨gb1419,1,none⟩) (Kd.R_far (p:=⟨gb1419,0,none⟩) (Kd.R_types HO_10.out BK1419.out (by decide)) (fun _ hk => hk.2) (.string t1404)) (fun _ hk => hk.2) (.int .i64 t1405)) (fun _ hk => hk.2) (.int .i64 t1406)) (fun _ hk => hk.2) (.int .i64 t1407)) (fun _ hk => hk.2) (.int .i64 t1408)) (fun _ hk => hk.2) (.int .i64 t1409)) (fun _ hk => hk.2) (.int .i64 t1410)) (fun _ hk => hk.2) (.int .i64 t1411)) (fun _ hk => hk.2) (.string t1412)) (fun _ hk => hk.2) (.string t1413)) (fun _ hk => hk.2) (.bool t1414)) (fun _ h_ => h_.1)))) hb);replace HO1417:=aMk (Kd.R_below (kR ((Kd.R_mono (Kd.R_far (p:=⟨gb1419,10,none⟩) (Kd.R_far (p:=⟨gb1419,9,none⟩) (Kd.R_far (p:=⟨gb1419,8,none⟩) (Kd.R_far (p:=⟨gb1419,7,none⟩) (Kd.R_far (p:=⟨gb1419,6,none⟩) (Kd.R_far (p:=⟨gb1419,5,none⟩) (Kd.R_far (p:=⟨gb1419,4,none⟩) (Kd.R_far (p:=⟨gb1419,3,none⟩) (Kd.R_far (p:=⟨gb1419,2,none⟩) (Kd.R_far (p:=⟨gb1419,1,none⟩) (Kd.R_far (p:=⟨gb1419,0,none⟩) (Kd.R_types HO1417.out BK1419.out (by decide)) (fun _ hk => hk.2) (.string t1404)) (fun _ hk => hk.2) (.int .i64 t1405)) (fun _ hk => hk.2) (.int .i64 t1406)) (fun _ hk => hk.2) (.int .i64 t1407)) (fun _ hk => hk.2) (.int .i64 t1408)) (fun _ hk => hk.2) (.int .i64 t1409)) (fun _ hk => hk.2) (.int .i64 t1410)) (fun _ hk => hk.2) (.int .i64 t1411)) (fun _ hk => hk.2) (.string t1412)) (fun _ hk => hk.2) (.string t1413)) (fun _ hk => hk.2) (.bool t1414)) (fun _ h_ => h_.1)))) hb);replace BK1309:=aMk (blk_below (g:=gb1309) (o:=.cells #[.string a0_0,.int .i64 a0_1,.int .i64 a0_2,.int .i64 a0_3,.int .i64 a0_4,.int .i64 a0_5,.int .i64 a0_6,.int .i64 a0_7,.string a0_8,.string a0_9,.bool a0_10] 31 (0,0)) (fB BK1309.out) hb);replace BK1310:=aMk (blk_below (g:=gb1310) (o:=.cells #[.int .i64 a1_0,.int .i64 a1_1,.int .i64 a1_2,.int .i64 a1_3,.int .i64 a1_4,.int .i64 a1_5,.string a1_6] 48 (0,0)) (fB BK1310.out) hb);replace BK1346:=aMk (blk_below (g:=gb1346) (o:=.cells #[.string t1331,.int .i64 t1332,.int .i64 t1333,.int .i64 t1334,.int .i64 t1335,.int .i64 t1336,.int .i64 t1337,.int .i64 t1338,.string t1339,.string t1340,.bool t1341] 34 (0,0)) (fB BK1346.out) hb);replace BK1380:=aMk (blk_below (g:=gb1380) (o:=.cells #[.string t1365,.int .i64 t1366,.int .i64 t1367,.int .i64 t1368,.int .i64 t1369,.int .i64 t1370,.int .i64 t1371,.int .i64 t1372,.string t1373,.string t1374,.bool t1375] 34 (0,0)) (fB BK1380.out) hb);replace BK1419:=aMk (blk_below (g:=gb1419) (o:=.cells #[.string t1404,.int .i64 t1405,.int .i64 t1406,.int .i64 t1407,.int .i64 t1408,.int .i64 t1409,.int .i64 t1410,.int .i64 t1411,.string t1412,.string t1413,.bool t1414] 34 (0,0)) (by refine pB ?_;refine blk_put (cs:=#[.string t1404,.int .i64 t1405,.int .i64 t1406,.int .i64 t1407,.int .i64 t1408,.int .i64 t1409,.int .i64 t1410,.int .i64 t1411,.string t1412,.string t1413,.bool false]) ?_ 10 _ rfl;refine pB ?_;refine blk_put (cs:=#[.string t1404,.int .i64 t1405,.int .i64 t1406,.int .i64 t1407,.int .i64 t1408,.int .i64 t1409,.int .i64 t1410,.int .i64 t1411,.string t1412,.string (⟨#[]⟩:ByteArray),.bool false]) ?_ 9 _ rfl;refine pB ?_;refine blk_put (cs:=#[.string t1404,.int .i64 t1405,.int .i64 t1406,.int .i64 t1407,.int .i64 t1408,.int .i64 t1409,.int .i64 t1410,.int .i64 t1411,.string (⟨#[]⟩:ByteArray),.string (⟨#[]⟩:ByteArray),.bool false]) ?_ 8 _ rfl;refine pB ?_;refine blk_put (cs:=#[.string t1404,.int .i64 t1405,.int .i64 t1406,.int .i64 t1407,.int .i64 t1408,.int .i64 t1409,.int .i64 t1410,.int .i64 0,.string (⟨#[]⟩:ByteArray),.string (⟨#[]⟩:ByteArray),.bool false]) ?_ 7 _ rfl;refine pB ?_;refine blk_put (cs:=#[.string t1404,.int .i64 t1405,.int .i64 t1406,.int .i64 t1407,.int .i64 t1408,.int .i64 t1409,.int .i64 0,.int .i64 0,.string (⟨#[]⟩:ByteArray),.string (⟨#[]⟩:ByteArray),.bool false]) ?_ 6 _ rfl;refine pB ?_;refine blk_put (cs:=#[.string t1404,.int .i64 t1405,.int .i64 t1406,.int .i64 t1407,.int .i64 t1408,.int .i64 0,.int .i64 0,.int .i64 0,.string (⟨#[]⟩:ByteArray),.string (⟨#[]⟩:ByteArray),.bool false]) ?_ 5 _ rfl;refine pB ?_;refine blk_put (cs:=#[.string t1404,.int .i64 t1405,.int .i64 t1406,.int .i64 t1407,.int .i64 0,.int .i64 0,.int .i64 0,.int .i64 0,.string (⟨#[]⟩:ByteArray),.string (⟨#[]⟩:ByteArray),.bool false]) ?_ 4 _ rfl;refine pB ?_;refine blk_put (cs:=#[.string t1404,.int .i64 t1405,.int .i64 t1406,.int .i64 0,.int .i64 0,.int .i64 0,.int .i64 0,.int .i64 0,.string (⟨#[]⟩:ByteArray),.string (⟨#[]⟩:ByteArray),.bool false]) ?_ 3 _ rfl;refine pB ?_;refine blk_put (cs:=#[.string t1404,.int .i64 t1405,.int .i64 0,.int .i64 0,.int .i64 0,.int .i64 0,.int .i64 0,.int .i64 0,.string (⟨#[]⟩:ByteArray),.string (⟨#[]⟩:ByteArray),.bool false]) ?_ 2 _ rfl;refine pB ?_;refine blk_put (cs:=#[.string t1404,.int .i64 0,.int .i64 0,.int .i64 0,.int .i64 0,.int .i64 0,.int .i64 0,.int .i64 0,.string (⟨#[]⟩:ByteArray),.string (⟨#[]⟩:ByteArray),.bool false]) ?_ 1 _ rfl;refine pB ?_;refine blk_put (cs:=#[.string (⟨#[]⟩:ByteArray),.int .i64 0,.int .i64 0,.int .i64 0,.int .i64 0,.int .i64 0,.int .i64 0,.int .i64 0,.string (⟨#[]⟩:ByteArray),.string (⟨#[]⟩:ByteArray),.bool false]) ?_ 0 _ rfl;refine pB ?_;exact BK1419.out) hb);replace HB:=aMk (bU hb);obtain ⟨Ao148,co148,eo148⟩:=Kd.R_slice HO1417.out;subst eo148;obtain ⟨Ao149,co149,eo149⟩:=Kd.R_slice HO_7.out;subst eo149)|(go_at_call 38;(with_reducible refine (laws_eqSegmentS.calls kj24 _ _ t1415 _ _ t1342 true _ ?side1 ?side2 ?side3 ?side4 A136.out).mono ?_);(case side1 => repeat (first|exact (Kd.R_reads' HO1417.out).2.2|(with_reducible refine Kd.C_alloc ?_ _)|(with_reducible refine Kd.C_drewN ?_ _)|(with_reducible refine Kd.C_drew ?_)));(case side2 => exact (Kd.R_reads' HO1417.out).2.1);(case side3 => repeat (first|exact (Kd.R_reads' HO_7.out).2.2|(with_reducible refine Kd.C_alloc ?_ _)|(with_reducible refine Kd.C_drewN ?_ _)|(with_reducible refine Kd.C_drew ?_)));(case side4 => exact (Kd.R_reads' HO_7.out).2.1);rintro e w150 ⟨rfl,hb⟩;replace HO_7:=aMk (Kd.R_below (kR (HO_7.out)) hb);replace HO_10:=aMk (Kd.R_below (kR (HO_10.out)) hb);replace HO1417:=aMk (Kd.R_below (kR (HO1417.out)) hb);replace BK1309:=aMk (bkB BK1309.out hb);replace BK1310:=aMk (bkB BK1310.out hb);replace BK1346:=aMk (bkB BK1346.out hb);replace BK1380:=aMk (bkB BK1380.out hb);replace BK1419:=aMk (bkB BK1419.out hb);replace HB:=aMk (bU hb)))
           go_meet
           case rel => exact ⟨_,((t1418 != t1345)),rfS,H',⟨by have:=HJ24.out;first | omega|exact Nat.le_refl _⟩,⟨kR (Kd.R_mono HO_10.out (fun _ hk => trivial))⟩,⟨by refine pB ?_;exact BK1309.out⟩,⟨by refine pB ?_;exact BK1310.out⟩,⟨by refine pB ?_;exact BK1346.out⟩,⟨by refine pB ?_;exact BK1380.out⟩,⟨by refine pB ?_;exact BK1419.out⟩,⟨bW⟩⟩
          ·replace c137:=Bool.eq_false_iff.mpr c137
           subst c137
           have H1:=H
           rw [if_neg (show ¬ (false = true) by decide)] at H1
           clear H
           have H:=H1
           clear H1
           have H':=aMk H
           clear H
           have hnb151:=NB1419_1309.out
           have hnc151:=NB1309_1419.out
           have hnb152:=NB1419_1310.out
           have hnc152:=NB1310_1419.out
           have hnb153:=NB1419_1346.out
           have hnc153:=NB1346_1419.out
           have hnb154:=NB1419_1380.out
           have hnc154:=NB1380_1419.out
           obtain ⟨Z155_0,Z155_1,Z155_2,Z155_3,Z155_4,Z155_5,Z155_6,Z155_7,Z155_8,Z155_9,Z155_10,Y155_0,Y155_1,Y155_2,Y155_3,Y155_4,Y155_5,Y155_6,Y155_7,Y155_8,Y155_9,Y155_10⟩:=bC11 BK1419.out
           have hnb156:=NB1346_1309.out
           have hnc156:=NB1309_1346.out
           have hnb157:=NB1346_1310.out
           have hnc157:=NB1310_1346.out
           have hnb158:=NB1346_1380.out
           have hnc158:=NB1380_1346.out
           obtain ⟨Z159_0,Z159_1,Z159_2,Z159_3,Z159_4,Z159_5,Z159_6,Z159_7,Z159_8,Z159_9,Z159_10,Y159_0,Y159_1,Y159_2,Y159_3,Y159_4,Y159_5,Y159_6,Y159_7,Y159_8,Y159_9,Y159_10⟩:=bC11 BK1346.out
           go_wp2_with (first|((with_reducible refine gate_callee (f:=37) rfl ?_);refine gLs 82 Try.func37 #[.agg #[.string t1404,.int .i64 t1405,.int .i64 t1406,.int .i64 t1407,.int .i64 t1408,.int .i64 t1409,.int .i64 t1410,.int .i64 t1411,.string t1412,.string t1413,.bool t1414],.agg #[.string t1331,.int .i64 t1332,.int .i64 t1333,.int .i64 t1334,.int .i64 t1335,.int .i64 t1336,.int .i64 t1337,.int .i64 t1338,.string t1339,.string t1340,.bool t1341]] ?_;(with_reducible refine (laws_eqConn.calls t1404 t1405 t1406 t1407 t1408 t1409 t1410 t1411 t1412 t1413 t1414 t1331 t1332 t1333 t1334 t1335 t1336 t1337 t1338 t1339 t1340 t1341 true _ A134.out).mono ?_);rintro e w160 ⟨rfl,hb⟩;refine ⟨_,rfl,?_⟩;replace HO_7:=aMk (Kd.R_below (kR ((Kd.R_mono (Kd.R_far (p:=⟨gb1419,10,none⟩) (Kd.R_far (p:=⟨gb1419,9,none⟩) (Kd.R_far (p:=⟨gb1419,8,none⟩) (Kd.R_far (p:=⟨gb1419,7,none⟩) (Kd.R_far (p:=⟨gb1419,6,none⟩) (Kd.R_far (p:=⟨gb1419,5,none⟩) (Kd.R_far (p:=⟨gb1419,4,none⟩) (Kd.R_far (p:=⟨gb1419,3,none⟩) (Kd.R_far (p:=⟨gb1419,2,none⟩) (Kd.R_far (p:=⟨gb1419,1,none⟩) (Kd.R_far (p:=⟨gb1419,0,none⟩) (Kd.R_types HO_7.out BK1419.out (by decide)) (fun _ hk => hk.2) (.string t1404)) (fun _ hk => hk.2) (.int .i64 t1405)) (fun _ hk => hk.2) (.int .i64 t1406)) (fun _ hk => hk.2) (.int .i64 t1407)) (fun _ hk => hk.2) (.int .i64 t1408)) (fun _ hk => hk.2) (.int .i64 t1409)) (fun _ hk => hk.2) (.int .i64 t1410)) (fun _ hk => hk.2) (.int .i64 t1411)) (fun _ hk => hk.2) (.string t1412)) (fun _ hk => hk.2) (.string t1413)) (fun _ hk => hk.2) (.bool t1414)) (fun _ h_ => h_.1)))) hb);replace HO_10:=aMk (Kd.R_below (kR ((Kd.R_mono (Kd.R_far (p:=⟨gb1419,10,none⟩) (Kd.R_far (p:=⟨gb1419,9,none⟩) (Kd.R_far (p:=⟨gb1419,8,none⟩) (Kd.R_far (p:=⟨gb1419,7,none⟩) (Kd.R_far (p:=⟨gb1419,6,none⟩) (Kd.R_far (p:=⟨gb1419,5,none⟩) (Kd.R_far (p:=⟨gb1419,4,none⟩) (Kd.R_far (p:=⟨gb1419,3,none⟩) (Kd.R_far (p:=⟨gb1419,2,none⟩) (Kd.R_far (p:=⟨gb1419,1,none⟩) (Kd.R_far (p:=⟨gb1419,0,none⟩) (Kd.R_types HO_10.out BK1419.out (by decide)) (fun _ hk => hk.2) (.string t1404)) (fun _ hk => hk.2) (.int .i64 t1405)) (fun _ hk => hk.2) (.int .i64 t1406)) (fun _ hk => hk.2) (.int .i64 t1407)) (fun _ hk => hk.2) (.int .i64 t1408)) (fun _ hk => hk.2) (.int .i64 t1409)) (fun _ hk => hk.2) (.int .i64 t1410)) (fun _ hk => hk.2) (.int .i64 t1411)) (fun _ hk => hk.2) (.string t1412)) (fun _ hk => hk.2) (.string t1413)) (fun _ hk => hk.2) (.bool t1414)) (fun _ h_ => h_.1)))) hb);replace HO1417:=aMk (Kd.R_below (kR ((Kd.R_mono (Kd.R_far (p:=⟨gb1419,10,none⟩) (Kd.R_far (p:=⟨gb1419,9,none⟩) (Kd.R_far (p:=⟨gb1419,8,none⟩) (Kd.R_far (p:=⟨gb1419,7,none⟩) (Kd.R_far (p:=⟨gb1419,6,none⟩) (Kd.R_far (p:=⟨gb1419,5,none⟩) (Kd.R_far (p:=⟨gb1419,4,none⟩) (Kd.R_far (p:=⟨gb1419,3,none⟩) (Kd.R_far (p:=⟨gb1419,2,none⟩) (Kd.R_far (p:=⟨gb1419,1,none⟩) (Kd.R_far (p:=⟨gb1419,0,none⟩) (Kd.R_types HO1417.out BK1419.out (by decide)) (fun _ hk => hk.2) (.string t1404)) (fun _ hk => hk.2) (.int .i64 t1405)) (fun _ hk => hk.2) (.int .i64 t1406)) (fun _ hk => hk.2) (.int .i64 t1407)) (fun _ hk => hk.2) (.int .i64 t1408)) (fun _ hk => hk.2) (.int .i64 t1409)) (fun _ hk => hk.2) (.int .i64 t1410)) (fun _ hk => hk.2) (.int .i64 t1411)) (fun _ hk => hk.2) (.string t1412)) (fun _ hk => hk.2) (.string t1413)) (fun _ hk => hk.2) (.bool t1414)) (fun _ h_ => h_.1)))) hb);replace BK1309:=aMk (blk_below (g:=gb1309) (o:=.cells #[.string a0_0,.int .i64 a0_1,.int .i64 a0_2,.int .i64 a0_3,.int .i64 a0_4,.int .i64 a0_5,.int .i64 a0_6,.int .i64 a0_7,.string a0_8,.string a0_9,.bool a0_10] 31 (0,0)) (fB BK1309.out) hb);replace BK1310:=aMk (blk_below (g:=gb1310) (o:=.cells #[.int .i64 a1_0,.int .i64 a1_1,.int .i64 a1_2,.int .i64 a1_3,.int .i64 a1_4,.int .i64 a1_5,.string a1_6] 48 (0,0)) (fB BK1310.out) hb);replace BK1346:=aMk (blk_below (g:=gb1346) (o:=.cells #[.string t1331,.int .i64 t1332,.int .i64 t1333,.int .i64 t1334,.int .i64 t1335,.int .i64 t1336,.int .i64 t1337,.int .i64 t1338,.string t1339,.string t1340,.bool t1341] 34 (0,0)) (fB BK1346.out) hb);replace BK1380:=aMk (blk_below (g:=gb1380) (o:=.cells #[.string t1365,.int .i64 t1366,.int .i64 t1367,.int .i64 t1368,.int .i64 t1369,.int .i64 t1370,.int .i64 t1371,.int .i64 t1372,.string t1373,.string t1374,.bool t1375] 34 (0,0)) (fB BK1380.out) hb);replace BK1419:=aMk (blk_below (g:=gb1419) (o:=.cells #[.string t1404,.int .i64 t1405,.int .i64 t1406,.int .i64 t1407,.int .i64 t1408,.int .i64 t1409,.int .i64 t1410,.int .i64 t1411,.string t1412,.string t1413,.bool t1414] 34 (0,0)) (by refine pB ?_;refine blk_put (cs:=#[.string t1404,.int .i64 t1405,.int .i64 t1406,.int .i64 t1407,.int .i64 t1408,.int .i64 t1409,.int .i64 t1410,.int .i64 t1411,.string t1412,.string t1413,.bool false]) ?_ 10 _ rfl;refine pB ?_;refine blk_put (cs:=#[.string t1404,.int .i64 t1405,.int .i64 t1406,.int .i64 t1407,.int .i64 t1408,.int .i64 t1409,.int .i64 t1410,.int .i64 t1411,.string t1412,.string (⟨#[]⟩:ByteArray),.bool false]) ?_ 9 _ rfl;refine pB ?_;refine blk_put (cs:=#[.string t1404,.int .i64 t1405,.int .i64 t1406,.int .i64 t1407,.int .i64 t1408,.int .i64 t1409,.int .i64 t1410,.int .i64 t1411,.string (⟨#[]⟩:ByteArray),.string (⟨#[]⟩:ByteArray),.bool false]) ?_ 8 _ rfl;refine pB ?_;refine blk_put (cs:=#[.string t1404,.int .i64 t1405,.int .i64 t1406,.int .i64 t1407,.int .i64 t1408,.int .i64 t1409,.int .i64 t1410,.int .i64 0,.string (⟨#[]⟩:ByteArray),.string (⟨#[]⟩:ByteArray),.bool false]) ?_ 7 _ rfl;refine pB ?_;refine blk_put (cs:=#[.string t1404,.int .i64 t1405,.int .i64 t1406,.int .i64 t1407,.int .i64 t1408,.int .i64 t1409,.int .i64 0,.int .i64 0,.string (⟨#[]⟩:ByteArray),.string (⟨#[]⟩:ByteArray),.bool false]) ?_ 6 _ rfl;refine pB ?_;refine blk_put (cs:=#[.string t1404,.int .i64 t1405,.int .i64 t1406,.int .i64 t1407,.int .i64 t1408,.int .i64 0,.int .i64 0,.int .i64 0,.string (⟨#[]⟩:ByteArray),.string (⟨#[]⟩:ByteArray),.bool false]) ?_ 5 _ rfl;refine pB ?_;refine blk_put (cs:=#[.string t1404,.int .i64 t1405,.int .i64 t1406,.int .i64 t1407,.int .i64 0,.int .i64 0,.int .i64 0,.int .i64 0,.string (⟨#[]⟩:ByteArray),.string (⟨#[]⟩:ByteArray),.bool false]) ?_ 4 _ rfl;refine pB ?_;refine blk_put (cs:=#[.string t1404,.int .i64 t1405,.int .i64 t1406,.int .i64 0,.int .i64 0,.int .i64 0,.int .i64 0,.int .i64 0,.string (⟨#[]⟩:ByteArray),.string (⟨#[]⟩:ByteArray),.bool false]) ?_ 3 _ rfl;refine pB ?_;refine blk_put (cs:=#[.string t1404,.int .i64 t1405,.int .i64 0,.int .i64 0,.int .i64 0,.int .i64 0,.int .i64 0,.int .i64 0,.string (⟨#[]⟩:ByteArray),.string (⟨#[]⟩:ByteArray),.bool false]) ?_ 2 _ rfl;refine pB ?_;refine blk_put (cs:=#[.string t1404,.int .i64 0,.int .i64 0,.int .i64 0,.int .i64 0,.int .i64 0,.int .i64 0,.int .i64 0,.string (⟨#[]⟩:ByteArray),.string (⟨#[]⟩:ByteArray),.bool false]) ?_ 1 _ rfl;refine pB ?_;refine blk_put (cs:=#[.string (⟨#[]⟩:ByteArray),.int .i64 0,.int .i64 0,.int .i64 0,.int .i64 0,.int .i64 0,.int .i64 0,.int .i64 0,.string (⟨#[]⟩:ByteArray),.string (⟨#[]⟩:ByteArray),.bool false]) ?_ 0 _ rfl;refine pB ?_;exact BK1419.out) hb);replace HB:=aMk (bU hb);obtain ⟨Ao161,co161,eo161⟩:=Kd.R_slice HO1417.out;subst eo161;obtain ⟨Ao162,co162,eo162⟩:=Kd.R_slice HO_7.out;subst eo162)|(go_at_call 38;(with_reducible refine (laws_eqSegmentS.calls kj24 _ _ t1415 _ _ t1342 false _ ?side1 ?side2 ?side3 ?side4 A136.out).mono ?_);(case side1 => repeat (first|exact (Kd.R_reads' HO1417.out).2.2|(with_reducible refine Kd.C_alloc ?_ _)|(with_reducible refine Kd.C_drewN ?_ _)|(with_reducible refine Kd.C_drew ?_)));(case side2 => exact (Kd.R_reads' HO1417.out).2.1);(case side3 => repeat (first|exact (Kd.R_reads' HO_7.out).2.2|(with_reducible refine Kd.C_alloc ?_ _)|(with_reducible refine Kd.C_drewN ?_ _)|(with_reducible refine Kd.C_drew ?_)));(case side4 => exact (Kd.R_reads' HO_7.out).2.1);rintro e w163 ⟨rfl,hb⟩;replace HO_7:=aMk (Kd.R_below (kR (HO_7.out)) hb);replace HO_10:=aMk (Kd.R_below (kR (HO_10.out)) hb);replace HO1417:=aMk (Kd.R_below (kR (HO1417.out)) hb);replace BK1309:=aMk (bkB BK1309.out hb);replace BK1310:=aMk (bkB BK1310.out hb);replace BK1346:=aMk (bkB BK1346.out hb);replace BK1380:=aMk (bkB BK1380.out hb);replace BK1419:=aMk (bkB BK1419.out hb);replace HB:=aMk (bU hb)))
           go_meet
           case rel => exact ⟨_,(true),rfS,H',⟨by have:=HJ24.out;first | omega|exact Nat.le_refl _⟩,⟨kR (Kd.R_mono HO_10.out (fun _ hk => trivial))⟩,⟨by refine pB ?_;exact BK1309.out⟩,⟨by refine pB ?_;exact BK1310.out⟩,⟨by refine pB ?_;exact BK1346.out⟩,⟨by refine pB ?_;exact BK1380.out⟩,⟨by refine pB ?_;exact BK1419.out⟩,⟨bW⟩⟩
         ·replace c135:=Bool.eq_false_iff.mpr c135
          subst c135
          have H1:=H
          rw [if_neg (show ¬ (false = true) by decide)] at H1
          clear H
          have H:=H1
          clear H1
          have H':=aMk H
          clear H
          have hnb164:=NB1419_1309.out
          have hnc164:=NB1309_1419.out
          have hnb165:=NB1419_1310.out
          have hnc165:=NB1310_1419.out
          have hnb166:=NB1419_1346.out
          have hnc166:=NB1346_1419.out
          have hnb167:=NB1419_1380.out
          have hnc167:=NB1380_1419.out
          obtain ⟨Z168_0,Z168_1,Z168_2,Z168_3,Z168_4,Z168_5,Z168_6,Z168_7,Z168_8,Z168_9,Z168_10,Y168_0,Y168_1,Y168_2,Y168_3,Y168_4,Y168_5,Y168_6,Y168_7,Y168_8,Y168_9,Y168_10⟩:=bC11 BK1419.out
          have hnb169:=NB1346_1309.out
          have hnc169:=NB1309_1346.out
          have hnb170:=NB1346_1310.out
          have hnc170:=NB1310_1346.out
          have hnb171:=NB1346_1380.out
          have hnc171:=NB1380_1346.out
          obtain ⟨Z172_0,Z172_1,Z172_2,Z172_3,Z172_4,Z172_5,Z172_6,Z172_7,Z172_8,Z172_9,Z172_10,Y172_0,Y172_1,Y172_2,Y172_3,Y172_4,Y172_5,Y172_6,Y172_7,Y172_8,Y172_9,Y172_10⟩:=bC11 BK1346.out
          go_wp2_with (first|((with_reducible refine gate_callee (f:=37) rfl ?_);refine gLs 82 Try.func37 #[.agg #[.string t1404,.int .i64 t1405,.int .i64 t1406,.int .i64 t1407,.int .i64 t1408,.int .i64 t1409,.int .i64 t1410,.int .i64 t1411,.string t1412,.string t1413,.bool t1414],.agg #[.string t1331,.int .i64 t1332,.int .i64 t1333,.int .i64 t1334,.int .i64 t1335,.int .i64 t1336,.int .i64 t1337,.int .i64 t1338,.string t1339,.string t1340,.bool t1341]] ?_;(with_reducible refine (laws_eqConn.calls t1404 t1405 t1406 t1407 t1408 t1409 t1410 t1411 t1412 t1413 t1414 t1331 t1332 t1333 t1334 t1335 t1336 t1337 t1338 t1339 t1340 t1341 false _ A134.out).mono ?_);rintro e w173 ⟨rfl,hb⟩;refine ⟨_,rfl,?_⟩;replace HO_7:=aMk (Kd.R_below (kR ((Kd.R_mono (Kd.R_far (p:=⟨gb1419,10,none⟩) (Kd.R_far (p:=⟨gb1419,9,none⟩) (Kd.R_far (p:=⟨gb1419,8,none⟩) (Kd.R_far (p:=⟨gb1419,7,none⟩) (Kd.R_far (p:=⟨gb1419,6,none⟩) (Kd.R_far (p:=⟨gb1419,5,none⟩) (Kd.R_far (p:=⟨gb1419,4,none⟩) (Kd.R_far (p:=⟨gb1419,3,none⟩) (Kd.R_far (p:=⟨gb1419,2,none⟩) (Kd.R_far (p:=⟨gb1419,1,none⟩) (Kd.R_far (p:=⟨gb1419,0,none⟩) (Kd.R_types HO_7.out BK1419.out (by decide)) (fun _ hk => hk.2) (.string t1404)) (fun _ hk => hk.2) (.int .i64 t1405)) (fun _ hk => hk.2) (.int .i64 t1406)) (fun _ hk => hk.2) (.int .i64 t1407)) (fun _ hk => hk.2) (.int .i64 t1408)) (fun _ hk => hk.2) (.int .i64 t1409)) (fun _ hk => hk.2) (.int .i64 t1410)) (fun _ hk => hk.2) (.int .i64 t1411)) (fun _ hk => hk.2) (.string t1412)) (fun _ hk => hk.2) (.string t1413)) (fun _ hk => hk.2) (.bool t1414)) (fun _ h_ => h_.1)))) hb);replace HO_10:=aMk (Kd.R_below (kR ((Kd.R_mono (Kd.R_far (p:=⟨gb1419,10,none⟩) (Kd.R_far (p:=⟨gb1419,9,none⟩) (Kd.R_far (p:=⟨gb1419,8,none⟩) (Kd.R_far (p:=⟨gb1419,7,none⟩) (Kd.R_far (p:=⟨gb1419,6,none⟩) (Kd.R_far (p:=⟨gb1419,5,none⟩) (Kd.R_far (p:=⟨gb1419,4,none⟩) (Kd.R_far (p:=⟨gb1419,3,none⟩) (Kd.R_far (p:=⟨gb1419,2,none⟩) (Kd.R_far (p:=⟨gb1419,1,none⟩) (Kd.R_far (p:=⟨gb1419,0,none⟩) (Kd.R_types HO_10.out BK1419.out (by decide)) (fun _ hk => hk.2) (.string t1404)) (fun _ hk => hk.2) (.int .i64 t1405)) (fun _ hk => hk.2) (.int .i64 t1406)) (fun _ hk => hk.2) (.int .i64 t1407)) (fun _ hk => hk.2) (.int .i64 t1408)) (fun _ hk => hk.2) (.int .i64 t1409)) (fun _ hk => hk.2) (.int .i64 t1410)) (fun _ hk => hk.2) (.int .i64 t1411)) (fun _ hk => hk.2) (.string t1412)) (fun _ hk => hk.2) (.string t1413)) (fun _ hk => hk.2) (.bool t1414)) (fun _ h_ => h_.1)))) hb);replace HO1417:=aMk (Kd.R_below (kR ((Kd.R_mono (Kd.R_far (p:=⟨gb1419,10,none⟩) (Kd.R_far (p:=⟨gb1419,9,none⟩) (Kd.R_far (p:=⟨gb1419,8,none⟩) (Kd.R_far (p:=⟨gb1419,7,none⟩) (Kd.R_far (p:=⟨gb1419,6,none⟩) (Kd.R_far (p:=⟨gb1419,5,none⟩) (Kd.R_far (p:=⟨gb1419,4,none⟩) (Kd.R_far (p:=⟨gb1419,3,none⟩) (Kd.R_far (p:=⟨gb1419,2,none⟩) (Kd.R_far (p:=⟨gb1419,1,none⟩) (Kd.R_far (p:=⟨gb1419,0,none⟩) (Kd.R_types HO1417.out BK1419.out (by decide)) (fun _ hk => hk.2) (.string t1404)) (fun _ hk => hk.2) (.int .i64 t1405)) (fun _ hk => hk.2) (.int .i64 t1406)) (fun _ hk => hk.2) (.int .i64 t1407)) (fun _ hk => hk.2) (.int .i64 t1408)) (fun _ hk => hk.2) (.int .i64 t1409)) (fun _ hk => hk.2) (.int .i64 t1410)) (fun _ hk => hk.2) (.int .i64 t1411)) (fun _ hk => hk.2) (.string t1412)) (fun _ hk => hk.2) (.string t1413)) (fun _ hk => hk.2) (.bool t1414)) (fun _ h_ => h_.1)))) hb);replace BK1309:=aMk (blk_below (g:=gb1309) (o:=.cells #[.string a0_0,.int .i64 a0_1,.int .i64 a0_2,.int .i64 a0_3,.int .i64 a0_4,.int .i64 a0_5,.int .i64 a0_6,.int .i64 a0_7,.string a0_8,.string a0_9,.bool a0_10] 31 (0,0)) (fB BK1309.out) hb);replace BK1310:=aMk (blk_below (g:=gb1310) (o:=.cells #[.int .i64 a1_0,.int .i64 a1_1,.int .i64 a1_2,.int .i64 a1_3,.int .i64 a1_4,.int .i64 a1_5,.string a1_6] 48 (0,0)) (fB BK1310.out) hb);replace BK1346:=aMk (blk_below (g:=gb1346) (o:=.cells #[.string t1331,.int .i64 t1332,.int .i64 t1333,.int .i64 t1334,.int .i64 t1335,.int .i64 t1336,.int .i64 t1337,.int .i64 t1338,.string t1339,.string t1340,.bool t1341] 34 (0,0)) (fB BK1346.out) hb);replace BK1380:=aMk (blk_below (g:=gb1380) (o:=.cells #[.string t1365,.int .i64 t1366,.int .i64 t1367,.int .i64 t1368,.int .i64 t1369,.int .i64 t1370,.int .i64 t1371,.int .i64 t1372,.string t1373,.string t1374,.bool t1375] 34 (0,0)) (fB BK1380.out) hb);replace BK1419:=aMk (blk_below (g:=gb1419) (o:=.cells #[.string t1404,.int .i64 t1405,.int .i64 t1406,.int .i64 t1407,.int .i64 t1408,.int .i64 t1409,.int .i64 t1410,.int .i64 t1411,.string t1412,.string t1413,.bool t1414] 34 (0,0)) (by refine pB ?_;refine blk_put (cs:=#[.string t1404,.int .i64 t1405,.int .i64 t1406,.int .i64 t1407,.int .i64 t1408,.int .i64 t1409,.int .i64 t1410,.int .i64 t1411,.string t1412,.string t1413,.bool false]) ?_ 10 _ rfl;refine pB ?_;refine blk_put (cs:=#[.string t1404,.int .i64 t1405,.int .i64 t1406,.int .i64 t1407,.int .i64 t1408,.int .i64 t1409,.int .i64 t1410,.int .i64 t1411,.string t1412,.string (⟨#[]⟩:ByteArray),.bool false]) ?_ 9 _ rfl;refine pB ?_;refine blk_put (cs:=#[.string t1404,.int .i64 t1405,.int .i64 t1406,.int .i64 t1407,.int .i64 t1408,.int .i64 t1409,.int .i64 t1410,.int .i64 t1411,.string (⟨#[]⟩:ByteArray),.string (⟨#[]⟩:ByteArray),.bool false]) ?_ 8 _ rfl;refine pB ?_;refine blk_put (cs:=#[.string t1404,.int .i64 t1405,.int .i64 t1406,.int .i64 t1407,.int .i64 t1408,.int .i64 t1409,.int .i64 t1410,.int .i64 0,.string (⟨#[]⟩:ByteArray),.string (⟨#[]⟩:ByteArray),.bool false]) ?_ 7 _ rfl;refine pB ?_;refine blk_put (cs:=#[.string t1404,.int .i64 t1405,.int .i64 t1406,.int .i64 t1407,.int .i64 t1408,.int .i64 t1409,.int .i64 0,.int .i64 0,.string (⟨#[]⟩:ByteArray),.string (⟨#[]⟩:ByteArray),.bool false]) ?_ 6 _ rfl;refine pB ?_;refine blk_put (cs:=#[.string t1404,.int .i64 t1405,.int .i64 t1406,.int .i64 t1407,.int .i64 t1408,.int .i64 0,.int .i64 0,.int .i64 0,.string (⟨#[]⟩:ByteArray),.string (⟨#[]⟩:ByteArray),.bool false]) ?_ 5 _ rfl;refine pB ?_;refine blk_put (cs:=#[.string t1404,.int .i64 t1405,.int .i64 t1406,.int .i64 t1407,.int .i64 0,.int .i64 0,.int .i64 0,.int .i64 0,.string (⟨#[]⟩:ByteArray),.string (⟨#[]⟩:ByteArray),.bool false]) ?_ 4 _ rfl;refine pB ?_;refine blk_put (cs:=#[.string t1404,.int .i64 t1405,.int .i64 t1406,.int .i64 0,.int .i64 0,.int .i64 0,.int .i64 0,.int .i64 0,.string (⟨#[]⟩:ByteArray),.string (⟨#[]⟩:ByteArray),.bool false]) ?_ 3 _ rfl;refine pB ?_;refine blk_put (cs:=#[.string t1404,.int .i64 t1405,.int .i64 0,.int .i64 0,.int .i64 0,.int .i64 0,.int .i64 0,.int .i64 0,.string (⟨#[]⟩:ByteArray),.string (⟨#[]⟩:ByteArray),.bool false]) ?_ 2 _ rfl;refine pB ?_;refine blk_put (cs:=#[.string t1404,.int .i64 0,.int .i64 0,.int .i64 0,.int .i64 0,.int .i64 0,.int .i64 0,.int .i64 0,.string (⟨#[]⟩:ByteArray),.string (⟨#[]⟩:ByteArray),.bool false]) ?_ 1 _ rfl;refine pB ?_;refine blk_put (cs:=#[.string (⟨#[]⟩:ByteArray),.int .i64 0,.int .i64 0,.int .i64 0,.int .i64 0,.int .i64 0,.int .i64 0,.int .i64 0,.string (⟨#[]⟩:ByteArray),.string (⟨#[]⟩:ByteArray),.bool false]) ?_ 0 _ rfl;refine pB ?_;exact BK1419.out) hb);replace HB:=aMk (bU hb)))
          go_meet
          case rel => exact ⟨_,(true),rfS,H',⟨by have:=HJ24.out;first | omega|exact Nat.le_refl _⟩,⟨kR (Kd.R_mono HO_10.out (fun _ hk => trivial))⟩,⟨by refine pB ?_;exact BK1309.out⟩,⟨by refine pB ?_;exact BK1310.out⟩,⟨by refine pB ?_;exact BK1346.out⟩,⟨by refine pB ?_;exact BK1380.out⟩,⟨by refine pB ?_;exact BK1419.out⟩,⟨bW⟩⟩
        case rest =>
         clear HC113
         try clear Z142_0 Z142_1 Z142_10 Z142_2 Z142_3 Z142_4 Z142_5 Z142_6 Z142_7 Z142_8 Z142_9
         try clear Z146_0 Z146_1 Z146_10 Z146_2 Z146_3 Z146_4 Z146_5 Z146_6 Z146_7 Z146_8 Z146_9
         try clear Z155_0 Z155_1 Z155_10 Z155_2 Z155_3 Z155_4 Z155_5 Z155_6 Z155_7 Z155_8 Z155_9
         try clear Z159_0 Z159_1 Z159_10 Z159_2 Z159_3 Z159_4 Z159_5 Z159_6 Z159_7 Z159_8 Z159_9
         try clear Z168_0 Z168_1 Z168_10 Z168_2 Z168_3 Z168_4 Z168_5 Z168_6 Z168_7 Z168_8 Z168_9
         try clear Z172_0 Z172_1 Z172_10 Z172_2 Z172_3 Z172_4 Z172_5 Z172_6 Z172_7 Z172_8 Z172_9
         try clear Y142_0 Y142_1 Y142_10 Y142_2 Y142_3 Y142_4 Y142_5 Y142_6 Y142_7 Y142_8 Y142_9
         try clear Y146_0 Y146_1 Y146_10 Y146_2 Y146_3 Y146_4 Y146_5 Y146_6 Y146_7 Y146_8 Y146_9
         try clear Y155_0 Y155_1 Y155_10 Y155_2 Y155_3 Y155_4 Y155_5 Y155_6 Y155_7 Y155_8 Y155_9
         try clear Y159_0 Y159_1 Y159_10 Y159_2 Y159_3 Y159_4 Y159_5 Y159_6 Y159_7 Y159_8 Y159_9
         try clear Y168_0 Y168_1 Y168_10 Y168_2 Y168_3 Y168_4 Y168_5 Y168_6 Y168_7 Y168_8 Y168_9
         try clear Y172_0 Y172_1 Y172_10 Y172_2 Y172_3 Y172_4 Y172_5 Y172_6 Y172_7 Y172_8 Y172_9
         obtain ⟨kq,x94_112,rfl,HA,HJ112,HO_10,BK1309,BK1310,BK1346,BK1380,BK1419,HB⟩:=hcut
         have hl10_112:=(Kd.R_reads' HO_10.out).1
         rw [hl10_112] at HO_10
         (try simp only [hl10_112])
         (try simp only [hl10_112] at BK1309)
         (try simp only [hl10_112] at BK1310)
         (try simp only [hl10_112] at BK1346)
         (try simp only [hl10_112] at BK1380)
         (try simp only [hl10_112] at BK1419)
         cases kq with
         | zero => exact absurd HA.out (by simp [laws_FnExactConnTake.j1])
         | succ kj112 =>
          have H:=HA.out
          clear HA
          simp only [laws_FnExactConnTake.j1] at H
          by_cases c174:x94_112 = true
          ·subst c174
           have H1:=H
           rw [if_pos rfl] at H1
           clear H
           have H:=H1
           clear H1
           obtain rfl:=Option.some.inj H
           go_wp2
           go_ret
           exact ⟨eRf,bW⟩
          ·replace c174:=Bool.eq_false_iff.mpr c174
           subst c174
           have H1:=H
           rw [if_neg (show ¬ (false = true) by decide)] at H1
           clear H
           have H:=H1
           clear H1
           replace H:=Option.bind_eq_some_iff.mp H
           obtain ⟨t1422,A1750,H⟩:=H
           try dsimp only at H
           have A175:=aMk A1750
           clear A1750
           by_cases c176:t1422 < 0
           ·rw [if_pos c176] at H
            have c176b0:decide (t1422 < 0) = true:=decide_eq_true c176
            clear c176
            obtain rfl:=Option.some.inj H
            go_wp2_with (first|((with_reducible refine gate_callee (f:=40) rfl ?_);refine gLs 97 Try.func40 #[.slice Ao114 t1384.length co114,.int .i64 1] ?_;(with_reducible refine (laws_heldSegmentS.calls kj112 _ _ t1384 1 t1422 _ ?side1 ?side2 A175.out).mono ?_);(case side1 => repeat (first|exact (Kd.R_reads' HO_10.out).2.2|(with_reducible refine Kd.C_alloc ?_ _)|(with_reducible refine Kd.C_drewN ?_ _)|(with_reducible refine Kd.C_drew ?_)));(case side2 => exact (Kd.R_reads' HO_10.out).2.1);rintro e w177 ⟨rfl,hb⟩;refine ⟨_,rfl,?_⟩;replace HO_10:=aMk (Kd.R_below (kR (HO_10.out)) hb);replace BK1309:=aMk (bkB BK1309.out hb);replace BK1310:=aMk (bkB BK1310.out hb);replace BK1346:=aMk (bkB BK1346.out hb);replace BK1380:=aMk (bkB BK1380.out hb);replace BK1419:=aMk (bkB BK1419.out hb);replace HB:=aMk (bU hb)))
            go_ret
            exact ⟨eRf,bW⟩
           ·rw [if_neg c176] at H
            have c176b0:decide (t1422 < 0) = false:=decide_eq_false c176
            clear c176
            by_cases c178:t1422 = t1383
            ·rw [if_pos c178] at H
             have c178b0:(t1422 == t1383) = true:=beq_iff_eq.mpr c178
             have c178b1:(t1422 != t1383) = false:=bne_eq_false_iff_eq.mpr c178
             clear c178
             obtain rfl:=Option.some.inj H
             go_wp2_with (first|((with_reducible refine gate_callee (f:=40) rfl ?_);refine gLs 97 Try.func40 #[.slice Ao114 t1384.length co114,.int .i64 1] ?_;(with_reducible refine (laws_heldSegmentS.calls kj112 _ _ t1384 1 t1422 _ ?side1 ?side2 A175.out).mono ?_);(case side1 => repeat (first|exact (Kd.R_reads' HO_10.out).2.2|(with_reducible refine Kd.C_alloc ?_ _)|(with_reducible refine Kd.C_drewN ?_ _)|(with_reducible refine Kd.C_drew ?_)));(case side2 => exact (Kd.R_reads' HO_10.out).2.1);rintro e w179 ⟨rfl,hb⟩;refine ⟨_,rfl,?_⟩;replace HO_10:=aMk (Kd.R_below (kR (HO_10.out)) hb);replace BK1309:=aMk (bkB BK1309.out hb);replace BK1310:=aMk (bkB BK1310.out hb);replace BK1346:=aMk (bkB BK1346.out hb);replace BK1380:=aMk (bkB BK1380.out hb);replace BK1419:=aMk (bkB BK1419.out hb);replace HB:=aMk (bU hb)))
             go_ret
             exact ⟨eRf,bW⟩
            ·rw [if_neg c178] at H
             have c178b0:(t1422 == t1383) = false:=beq_eq_false_iff_ne.mpr c178
             have c178b1:(t1422 != t1383) = true:=bne_iff_ne.mpr c178
             obtain rfl:=Option.some.inj H
             go_wp2_with (first|((with_reducible refine gate_callee (f:=40) rfl ?_);refine gLs 97 Try.func40 #[.slice Ao114 t1384.length co114,.int .i64 1] ?_;(with_reducible refine (laws_heldSegmentS.calls kj112 _ _ t1384 1 t1422 _ ?side1 ?side2 A175.out).mono ?_);(case side1 => repeat (first|exact (Kd.R_reads' HO_10.out).2.2|(with_reducible refine Kd.C_alloc ?_ _)|(with_reducible refine Kd.C_drewN ?_ _)|(with_reducible refine Kd.C_drew ?_)));(case side2 => exact (Kd.R_reads' HO_10.out).2.1);rintro e w180 ⟨rfl,hb⟩;refine ⟨_,rfl,?_⟩;replace HO_10:=aMk (Kd.R_below (kR (HO_10.out)) hb);replace BK1309:=aMk (bkB BK1309.out hb);replace BK1310:=aMk (bkB BK1310.out hb);replace BK1346:=aMk (bkB BK1346.out hb);replace BK1380:=aMk (bkB BK1380.out hb);replace BK1419:=aMk (bkB BK1419.out hb);replace HB:=aMk (bU hb)))
             go_ret
             exact ⟨eRf,bW⟩
       ·rw [if_neg c109] at H
        have c109b0:(t1385 == t1383) = false:=beq_eq_false_iff_ne.mpr c109
        have c109b1:(t1385 != t1383) = true:=bne_iff_ne.mpr c109
        obtain rfl:=Option.some.inj H
        obtain ⟨Ao181,co181,eo181⟩:=Kd.R_slice HO_10.out
        subst eo181
        go_wp2_with (first|((with_reducible refine gate_callee (f:=39) rfl ?_);refine gLs 62 Try.func39 #[.slice Ao181 t1376.length co181,.int .i64 1] ?_;(with_reducible refine (laws_markSegmentS.calls kj24 (fun k_ => some k_ = (.slice Ao181 t1376.length co181:Value).ownBlock) (.slice Ao181 t1376.length co181) t1376 1 t1383 t1384 w _ ?side1 ?side2 A103.out).mono ?_);(case side1 => repeat (first|(with_reducible first|exact HB.out|apply bwA|apply bwN|apply bw1|refine below_set ?_ GE1309.out|refine below_set ?_ GE1310.out|refine below_set ?_ GE1346.out|refine below_set ?_ GE1380.out)|exact HB.out));(case side2 => exact Kd.R_tight rfl HO_10.out);rintro e w182 ⟨rfl,hy0,hb,hkp⟩;refine ⟨_,rfl,?_⟩;replace HO_7:=aMk (Kd.R_mono (ok':=fun k_ => some k_ ≠ (.slice Ao181 t1376.length co181:Value).ownBlock) (Kd.R_keptB (HO_7.out) hkp (fun k_ hk_ hs_ => (hk_) hs_)) (fun k_ hk_ => hk_.1));replace BK1309:=aMk (blk_kept (pB BK1309.out) hkp (fun hs_ => (fun e_ => (Kd.R_ne HO_10.out BK1309.out (by decide)) e_) hs_));replace BK1310:=aMk (blk_kept (pB BK1310.out) hkp (fun hs_ => (fun e_ => (Kd.R_ne HO_10.out BK1310.out (by decide)) e_) hs_));replace BK1346:=aMk (blk_kept (pB BK1346.out) hkp (fun hs_ => (fun e_ => (Kd.R_ne HO_10.out BK1346.out (by decide)) e_) hs_));replace BK1380:=aMk (blk_kept (pB BK1380.out) hkp (fun hs_ => (fun e_ => (Kd.R_ne HO_10.out BK1380.out (by decide)) e_) hs_));replace HO_10:=aMk (Kd.R_reok rfl hy0 (fun k_ e_ => HO_10.out.1 k_ e_));replace HB:=aMk (hb);(try clear hkp);(try clear hy0))|((with_reducible refine gate_callee (f:=40) rfl ?_);refine goesL_ (some 65) rfl rfl Try.func40 (by kernel_rfl) rfl #[.slice Ao181 t1384.length co181,.int .i64 1] rfl (by (try simp only [List.map_toArray,List.map_cons,List.map_nil]);first | done|(rw [show t1384.length = t1376.length from (Kd.R_reads' HO_10.out).1.symm] <;> rfl) | rfl|(simp only [List.length_drop,List.length_take];rfl)) ?_;(with_reducible refine (laws_heldSegmentS.calls kj24 _ _ t1384 1 t1385 _ ?side1 ?side2 A104.out).mono ?_);(case side1 => repeat (first|exact (Kd.R_reads' HO_10.out).2.2|(with_reducible refine Kd.C_alloc ?_ _)|(with_reducible refine Kd.C_drewN ?_ _)|(with_reducible refine Kd.C_drew ?_)));(case side2 => rw [show t1384.length = t1376.length from (Kd.R_reads' HO_10.out).1.symm];exact (Kd.R_reads' HO_10.out).2.1);rintro e w183 ⟨rfl,hb⟩;refine ⟨_,rfl,?_⟩;replace HO_7:=aMk (Kd.R_below (kR (HO_7.out)) hb);replace HO_10:=aMk (Kd.R_below (kR (HO_10.out)) hb);replace BK1309:=aMk (bkB BK1309.out hb);replace BK1310:=aMk (bkB BK1310.out hb);replace BK1346:=aMk (bkB BK1346.out hb);replace BK1380:=aMk (bkB BK1380.out hb);replace HB:=aMk (bU hb)))
        go_ret
        exact ⟨eRf,bW⟩
end
section
-- IMPORT Derived.Laws.BitsLemmas
-- IMPORT Derived.OpenShut
/-- A mask of low bits is a remainder,of whatever number. -/
theorem and_low (x:Int) (j:Nat) (hj:j≤62):Go.bits .and .i64 x (2 ^ j - 1) = x % 2 ^ j:=by
 have hm:((2:Int) ^ j - 1) = ((2 ^ j - 1:Nat):Int):=by
  rw [Int.natCast_sub (Nat.two_pow_pos j),Int.natCast_pow];rfl
 have hlt:2 ^ j - 1 < 2 ^ 64:=Nat.lt_of_lt_of_le (Nat.sub_lt (Nat.two_pow_pos j) (by decide)) (Nat.pow_le_pow_right (by decide) (by omega))
 have hle:(2:Nat) ^ j≤2 ^ 62:=Nat.pow_le_pow_right (by decide) hj
 have hd:(2:Nat) ^ j ∣ 2 ^ 64:=Nat.pow_dvd_pow 2 (by omega)
 rw [hm]
 have hb:Go.bits .and .i64 x ((2 ^ j - 1:Nat):Int) = IntKind.i64.wrap (((BitVec.ofInt 64 x &&& BitVec.ofInt 64 ((2 ^ j - 1:Nat):Int)).toNat:Nat):Int):=rfl
 rw [hb,BitVec.toNat_and,BitVec.ofInt_natCast,BitVec.toNat_ofNat,BitVec.toNat_ofInt,Nat.mod_eq_of_lt hlt,Nat.and_two_pow_sub_one_eq_mod,IntKind.wrap_i64]
 have e:(((x % ((2 ^ 64:Nat):Int)).toNat % 2 ^ j:Nat):Int) = x % ((2 ^ j:Nat):Int):=by
  rw [Int.natCast_emod,Int.toNat_of_nonneg (Int.emod_nonneg _ (by decide)),Int.emod_emod_of_dvd]
  exact Int.natCast_dvd_natCast.2 hd
 rw [e]
 have hp:(0:Int) < ((2 ^ j:Nat):Int):=by exact_mod_cast Nat.two_pow_pos j
 have h0:=Int.emod_nonneg x (Int.ne_of_gt hp)
 have h1:=Int.emod_lt_of_pos x hp
 have h2:((2 ^ j:Nat):Int)≤((4611686018427387904:Nat):Int):=Int.ofNat_le.2 (Nat.le_trans hle (by decide))
 have h3:((2:Int) ^ j) = ((2 ^ j:Nat):Int):=by rw [Int.natCast_pow];rfl
 rw [h3,Int.emod_eq_of_lt (by omega) (by omega)]
 omega
theorem and32 (x:Int):Go.bits .and .i64 x 4294967295 = x % 4294967296:=and_low x 32 (by decide)
theorem wrap_id {n:Int} (h0:-9223372036854775808≤n) (h1:n≤9223372036854775807):wrap64 n = n:=by
 unfold wrap64;omega
end
section
/-! ### spec_l10Pieces: function 114 -/
def spec_l10Pieces.l0:Nat→Int→ByteArray→Bool→List (S53)→ByteArray→Int→Int→Int→Int→Int→Int→Int→ByteArray→ByteArray→Bool→Option ((List (S53)))
 | 0,_,_,_,_,_,_,_,_,_,_,_,_,_,_,_ => none
 | k + 1,x1,x2,x3,x9,x546000,x546001,x546002,x546003,x546004,x546005,x546006,x546007,x546008,x546009,x546010 => if (x2.size:Int) > 0 then (if 0≤(mn (x2.size:Int) 200) then (if (mn (x2.size:Int) 200)≤(x2.size:Int) then ((spec_l10Reply.f x546000 x546001 x546002 x546003 x546004 x546005 x546006 x546007 x546008 x546009 x546010 x1 24 (x2.extract 0 ((mn (x2.size:Int) 200):Int).toNat)).bind fun bt549 => (if x9.length < 2199023255552 then ((spec_l10Seq.f (wrap64 (x1 + (mn (x2.size:Int) 200)))).bind fun t559 => (spec_l10Pieces.l0 k t559 (x2.extract ((mn (x2.size:Int) 200):Int).toNat x2.size) x3 (x9 ++ [(⟨bt549.1,bt549.2.1,bt549.2.2.1,bt549.2.2.2.1,bt549.2.2.2.2.1,bt549.2.2.2.2.2.1,bt549.2.2.2.2.2.2⟩:S53)]) x546000 x546001 x546002 x546003 x546004 x546005 x546006 x546007 x546008 x546009 x546010)) else (none))) else (none)) else (none)) else (if x3 = true then ((spec_l10Reply.f x546000 x546001 x546002 x546003 x546004 x546005 x546006 x546007 x546008 x546009 x546010 x1 17 (⟨#[]⟩:ByteArray)).bind fun bt560 => (if x9.length < 2199023255552 then (some (x9 ++ [(⟨bt560.1,bt560.2.1,bt560.2.2.1,bt560.2.2.2.1,bt560.2.2.2.2.1,bt560.2.2.2.2.2.1,bt560.2.2.2.2.2.2⟩:S53)])) else (none))) else (some x9))
def spec_l10Pieces.f (k:Nat) (a0_0:ByteArray) (a0_1 a0_2:Int) (a0_3 a0_4:Int) (a0_5 a0_6 a0_7:Int) (a0_8 a0_9:ByteArray) (a0_10:Bool) (a1:Int) (a2:ByteArray) (a3:Bool):Option ((List (S53))):=spec_l10Pieces.l0 k a1 a2 a3 (([]:List (S53))) a0_0 a0_1 a0_2 a0_3 a0_4 a0_5 a0_6 a0_7 a0_8 a0_9 a0_10
theorem spec_l10Pieces.mono_l:∀ k,(∀ y0 y1 y2 y3 y4 y5 y6 y7 y8 y9 y10 y11 y12 y13 y14,LeO (spec_l10Pieces.l0 k y0 y1 y2 y3 y4 y5 y6 y7 y8 y9 y10 y11 y12 y13 y14) (spec_l10Pieces.l0 (k + 1) y0 y1 y2 y3 y4 y5 y6 y7 y8 y9 y10 y11 y12 y13 y14))
 | 0 => fun _ _ _ _ _ _ _ _ _ _ _ _ _ _ _ r h => by simp [spec_l10Pieces.l0] at h
 | k + 1 => by
  have ih0:=spec_l10Pieces.mono_l k
  ·intro y0 y1 y2 y3 y4 y5 y6 y7 y8 y9 y10 y11 y12 y13 y14
   unfold spec_l10Pieces.l0
   repeat' first
   | (with_reducible exact ih0 _ _ _ _ _ _ _ _ _ _ _ _ _ _ _)
   | (with_reducible exact LeO.refl _)
   | (with_reducible exact LeO.none _)
   | (with_reducible refine LeO.ite ?_ ?_)
   | (with_reducible refine LeO.bind ?_ (fun _ => ?_))
   | exact ih0 _ _ _ _ _ _ _ _ _ _ _ _ _ _ _
   | exact LeO.none _
   | refine LeO.ite ?_ ?_
   | refine LeO.bind ?_ (fun _ => ?_)
theorem spec_l10Pieces.mono:∀ a0 a1 a2 a3 a4 a5 a6 a7 a8 a9 a10 a11 a12 a13 k,LeO (spec_l10Pieces.f k a0 a1 a2 a3 a4 a5 a6 a7 a8 a9 a10 a11 a12 a13) (spec_l10Pieces.f (k + 1) a0 a1 a2 a3 a4 a5 a6 a7 a8 a9 a10 a11 a12 a13):=by
 intro a0 a1 a2 a3 a4 a5 a6 a7 a8 a9 a10 a11 a12 a13 k
 have ih0:=spec_l10Pieces.mono_l k
 unfold spec_l10Pieces.f
 repeat' first
   | (with_reducible exact ih0 _ _ _ _ _ _ _ _ _ _ _ _ _ _ _)
   | (with_reducible exact LeO.refl _)
   | (with_reducible exact LeO.none _)
   | (with_reducible refine LeO.ite ?_ ?_)
   | (with_reducible refine LeO.bind ?_ (fun _ => ?_))
   | exact ih0 _ _ _ _ _ _ _ _ _ _ _ _ _ _ _
   | exact LeO.none _
   | refine LeO.ite ?_ ?_
   | refine LeO.bind ?_ (fun _ => ?_)
def spec_l10Pieces.T4:Bool × List (List Nat × List Nat):=(true,[([],[]),([],[]),([],[]),([],[]),([],[]),([3,4],[3,4]),([1,2,5],[1,2,5]),([6],[6]),([0,7,6],[0,7]),([8,8,0,1,2,3,4,5,6,7,8],[0,8])])
def spec_l10Pieces.B4:List Nat:=[0,0,0,0,0,24,62,126,255,511]
theorem spec_l10Pieces.tab4:rtab .any (opsOf Try.f114 4) = spec_l10Pieces.T4:=by kernel_rfl
theorem spec_l10Pieces.bits4:waitsOk spec_l10Pieces.T4.2 spec_l10Pieces.B4 = true:=by kernel_rfl
set_option maxHeartbeats 8000000 in
set_option maxRecDepth 100000 in
theorem spec_l10Pieces.calls (k:Nat) (a0_0:ByteArray) (a0_1 a0_2:Int) (a0_3 a0_4:Int) (a0_5 a0_6 a0_7:Int) (a0_8 a0_9:ByteArray) (a0_10:Bool) (a1:Int) (a2:ByteArray) (a3:Bool) (r:List (S53)) (w:World) (h:spec_l10Pieces.f k a0_0 a0_1 a0_2 a0_3 a0_4 a0_5 a0_6 a0_7 a0_8 a0_9 a0_10 a1 a2 a3 = some r) :
  Calls Try.prog 114 #[.agg #[.string a0_0,.int .i64 a0_1,.int .i64 a0_2,.int .i64 a0_3,.int .i64 a0_4,.int .i64 a0_5,.int .i64 a0_6,.int .i64 a0_7,.string a0_8,.string a0_9,.bool a0_10],.int .i64 a1,.string a2,.bool a3] w fun e w' => ∃ v0_:Value,e = .returned (v0_)∧Kd.R k53 53 w' w.heap.size (fun _ => True) v0_ r∧Below w.heap.size w w':=by
 have hu34:=Try.underlying34
 have HB:=aMk (Below.refl w.heap.size w)
 have H:=h
 unfold spec_l10Pieces.f at H
 clear h
 obtain ⟨y546,hy546⟩:∃ y_:List (S53),y_ = (([]:List (S53))):=⟨_,rfl⟩
 replace H:(spec_l10Pieces.l0 k a1 a2 a3 y546 a0_0 a0_1 a0_2 a0_3 a0_4 a0_5 a0_6 a0_7 a0_8 a0_9 a0_10) = some r:=by first|(rw [hy546];with_reducible exact H)|(have H2_:=(Option.bind_some _ _).symm.trans H;rw [hy546];with_reducible exact H2_)|(have H2_:=(Option.bind_some _ _).symm.trans H;with_reducible exact H2_) | with_reducible exact H|(rw [hy546];exact H)|exact H
 have Ny546:=aMk hy546
 clear hy546
 have H':=aMk H
 clear H
 go_enter Try.func114,Try.ntmps114
 go_wp2_with (first|((with_reducible refine gate_dst (N:=4) rfl ?_);refine bxE (N:=4) (cs:=#[.string a0_0,.int .i64 a0_1,.int .i64 a0_2,.int .i64 a0_3,.int .i64 a0_4,.int .i64 a0_5,.int .i64 a0_6,.int .i64 a0_7,.string a0_8,.string a0_9,.bool a0_10]) (t:=34) ?_;intro gb545 hg w5 hbox hb;have BK545:=aMk (hbox);have GW545:=aMk (bZ hg);have GE545:=aMk (bZ hg);replace HB:=aMk (bSt hb);clear hb hbox hg)|((with_reducible refine gate_dst (N:=11) rfl ?_);refine Kd.R_lit k53 _ 53 ?hg (N:=11) ?hd (xs:=([]:List (S53))) (inner:=[]) (ok:=fun _ => True) (okp:=fun _ => True) ?hr ?hp (fun _ hk => hk) trivial (Below.refl _ _) (Nat.le_refl _) (by simp) ?_;(case hd => rfl);(case hg => rfl);(case hr => first|(go_simp;done)|(go_simp;rfl));(case hp => exact (Reps.none _ _));intro v547 w6 ho7 hb hg_ hnew_;clear hg_ hnew_;(first|rw [← Ny546.out] at ho7|(simp only [Int.reduceToNat] at ho7;rw [← Ny546.out] at ho7));have HO548:=aMk (Kd.R_lower ho7 (below_size bW));replace BK545:=aMk (bkB BK545.out hb);replace HB:=aMk (bU hb);clear hb ho7))
 go_loopg [1,2,9] k (fun kq v1 v2 v9 w' => ∃ (x1_1:Int) (x2_1:ByteArray) (x9_1:List (S53)),v1 = .int .i64 x1_1∧v2 = .string x2_1∧Aside0 (spec_l10Pieces.l0 kq x1_1 x2_1 a3 x9_1 a0_0 a0_1 a0_2 a0_3 a0_4 a0_5 a0_6 a0_7 a0_8 a0_9 a0_10 = some r)∧Aside0 (kq≤k)∧Aside0 (Kd.R k53 53 w' w.heap.size (fun _ => True) v9 x9_1)∧Aside0 (w'.heap[gb545]? = some (.cells #[.string a0_0,.int .i64 a0_1,.int .i64 a0_2,.int .i64 a0_3,.int .i64 a0_4,.int .i64 a0_5,.int .i64 a0_6,.int .i64 a0_7,.string a0_8,.string a0_9,.bool a0_10] 34 (0,0)))∧Aside0 (Below w.heap.size w w'))
 case atStart => exact ⟨(a1),(a2),(y546),rfS,rfS,H',⟨Nat.le_refl _⟩,⟨kR (HO548.out)⟩,⟨by refine pB ?_;exact BK545.out⟩,⟨bW⟩⟩
 case round =>
  clear H'
  obtain ⟨x1_1,x2_1,x9_1,rfl,rfl,HA,HK1,HO_9,BK545,HB⟩:=hrel
  cases gk with
  | zero => exact absurd HA.out (by simp [spec_l10Pieces.l0])
  | succ k1 =>
   have H:=HA.out
   clear HA
   simp only [spec_l10Pieces.l0] at H
   by_cases c8:(x2_1.size:Int) > 0
   ·rw [if_pos c8] at H
    have c8b0:decide (0 < (x2_1.size:Int)) = true:=decide_eq_true c8
    have c8b1:decide (0 < x2_1.size) = true:=decide_eq_true (by omega)
    clear c8
    obtain ⟨ji9,hji9⟩:∃ j_:Int,(mn (x2_1.size:Int) 200) = j_:=⟨_,rfl⟩
    replace H:(if 0≤(ji9) then (if (ji9)≤(x2_1.size:Int) then ((spec_l10Reply.f a0_0 a0_1 a0_2 a0_3 a0_4 a0_5 a0_6 a0_7 a0_8 a0_9 a0_10 x1_1 24 (x2_1.extract 0 ((ji9):Int).toNat)).bind fun bt549 => (if x9_1.length < 2199023255552 then ((spec_l10Seq.f (wrap64 (x1_1 + (ji9)))).bind fun t559 => (spec_l10Pieces.l0 k1 t559 (x2_1.extract ((ji9):Int).toNat x2_1.size) a3 (x9_1 ++ [(⟨bt549.1,bt549.2.1,bt549.2.2.1,bt549.2.2.2.1,bt549.2.2.2.2.1,bt549.2.2.2.2.2.1,bt549.2.2.2.2.2.2⟩:S53)]) a0_0 a0_1 a0_2 a0_3 a0_4 a0_5 a0_6 a0_7 a0_8 a0_9 a0_10)) else (none))) else (none)) else (none)) = some r:=by first|(rw [hji9] at H;exact H)|(simp only [hji9] at H ⊢;exact H)
    have hji9_:(if 200 < (x2_1.size:Int) then 200 else (x2_1.size:Int)) = ji9:=hji9
    by_cases c10:0≤(ji9)
    ·rw [if_pos c10] at H
     have c10b0:=eq_true c10
     have c10b1:decide (0≤(ji9)) = true:=decide_eq_true c10
     clear c10
     by_cases c11:(ji9)≤(x2_1.size:Int)
     ·rw [if_pos c11] at H
      have c11b0:=eq_true c11
      have c11b1:decide ((ji9)≤(x2_1.size:Int)) = true:=decide_eq_true c11
      clear c11
      replace H:=Option.bind_eq_some_iff.mp H
      obtain ⟨⟨t549,t550,t551,t552,t553,t554,t555⟩,A120,H⟩:=H
      try dsimp only at H
      have A12:=aMk A120
      clear A120
      by_cases c13:x9_1.length < 2199023255552
      ·rw [if_pos c13] at H
       have LMc13:=aMk c13
       clear c13
       obtain ⟨y556,hy556⟩:∃ y_:List (S53),y_ = (x9_1 ++ [(⟨t549,t550,t551,t552,t553,t554,t555⟩:S53)]):=⟨_,rfl⟩
       replace H:((spec_l10Seq.f (wrap64 (x1_1 + (ji9)))).bind fun t559 => (spec_l10Pieces.l0 k1 t559 (x2_1.extract ((ji9):Int).toNat x2_1.size) a3 y556 a0_0 a0_1 a0_2 a0_3 a0_4 a0_5 a0_6 a0_7 a0_8 a0_9 a0_10)) = some r:=by first|(rw [hy556];with_reducible exact H)|(have H2_:=(Option.bind_some _ _).symm.trans H;rw [hy556];with_reducible exact H2_)|(have H2_:=(Option.bind_some _ _).symm.trans H;with_reducible exact H2_) | with_reducible exact H|(rw [hy556];exact H)|exact H
       have Ny556:=aMk hy556
       clear hy556
       replace H:=Option.bind_eq_some_iff.mp H
       obtain ⟨t559,A140,H⟩:=H
       try dsimp only at H
       have A14:=aMk A140
       clear A140
       have c15b0:=eq_true (of_decide_eq_true (by first|(with_reducible assumption) | assumption):0≤(ji9))
       have c16b0:=eq_true (of_decide_eq_true (by first|(with_reducible assumption) | assumption):(ji9)≤(x2_1.size:Int))
       have H':=aMk H
       clear H
       try go_wp2
       replace HO_9:=aMk (Kd.R_drew HO_9.out)
       replace BK545:=aMk (bDr BK545.out)
       replace HB:=aMk (bw1 HB.out)
       refine start_ (n:=10) (S:=fun w' => w'.cell? ⟨gb545,0,none⟩ = some (.string a0_0)∧w'.cell? ⟨gb545,1,none⟩ = some (.int .i64 a0_1)∧w'.cell? ⟨gb545,2,none⟩ = some (.int .i64 a0_2)∧w'.cell? ⟨gb545,3,none⟩ = some (.int .i64 a0_3)∧w'.cell? ⟨gb545,4,none⟩ = some (.int .i64 a0_4)∧w'.cell? ⟨gb545,5,none⟩ = some (.int .i64 a0_5)∧w'.cell? ⟨gb545,6,none⟩ = some (.int .i64 a0_6)∧w'.cell? ⟨gb545,7,none⟩ = some (.int .i64 a0_7)∧w'.cell? ⟨gb545,8,none⟩ = some (.string a0_8)∧w'.cell? ⟨gb545,9,none⟩ = some (.string a0_9)∧w'.cell? ⟨gb545,10,none⟩ = some (.bool a0_10)) (ds:=[]) #[false,false,false,false,false,false,false,false,false,false] (by kernel_rfl) rfl rfl (cz11 BK545.out) (fun hHeld => ?_);refine with_tabW spec_l10Pieces.tab4 spec_l10Pieces.bits4 (fun HT_ HW_ => ?_)
       generalize wr.drew = w17 at HO_9 BK545 HB hHeld ⊢
       refine pU (i:=0) (N:=some 18) #[true,false,false,false,false,false,false,false,false,false] (any_of HT_.out (by kernel_rfl)) ?_
       refine pU (i:=2) (N:=some 20) #[true,false,true,false,false,false,false,false,false,false] (any_of HT_.out (by kernel_rfl)) ?_
       refine pU (i:=3) (N:=some 21) #[true,false,true,true,false,false,false,false,false,false] (any_of HT_.out (by kernel_rfl)) ?_
       refine pU (i:=4) (N:=some 22) #[true,false,true,true,true,false,false,false,false,false] (any_of HT_.out (by kernel_rfl)) ?_
       refine pU (i:=5) (N:=some 23) #[true,false,true,true,true,true,false,false,false,false] (any_of HT_.out (by kernel_rfl)) ?_
       refine tU11 (i:=1) (N:=some 19) #[true,true,true,true,true,true,false,false,false,false] (take_ofW HT_.out HW_.out (by kernel_rfl)) hHeld ?_
       refine one_ (i:=6) (N:=some 24) #[true,true,true,true,true,true,true,false,false,false] rfl rfl (one_of HT_.out (by kernel_rfl)) (by decide) (fun K hK => ?_)
       refine goes_ Try.func111 (by kernel_rfl) rfl #[.agg #[.string a0_0,.int .i64 a0_1,.int .i64 a0_2,.int .i64 a0_3,.int .i64 a0_4,.int .i64 a0_5,.int .i64 a0_6,.int .i64 a0_7,.string a0_8,.string a0_9,.bool a0_10],.int .i64 x1_1,.int .i64 24,.string (x2_1.extract 0 ((ji9):Int).toNat)] (by rfl) rfl rfl (by (try simp only [List.map_toArray,List.map_cons,List.map_nil]);first | done|(simp only [hji9];rfl) | rfl|(simp only [List.length_drop,List.length_take];rfl)) ?_
       with_reducible refine (spec_l10Reply.calls a0_0 a0_1 a0_2 a0_3 a0_4 a0_5 a0_6 a0_7 a0_8 a0_9 a0_10 x1_1 24 (x2_1.extract 0 ((ji9):Int).toNat) t549 t550 t551 t552 t553 t554 t555 _ A12.out).mono ?_
       rintro e w18 ⟨rfl,hb⟩
       refine ⟨_,rfl,?_⟩
       replace HO_9:=aMk (Kd.R_below (kR (HO_9.out)) hb)
       replace BK545:=aMk (bkB BK545.out hb)
       replace HB:=aMk (bU hb)
       (try clear hb)
       (try clear hb2)
       (try clear hk)
       (try clear hi)
       refine hK.out _ _ (cz11 BK545.out) (fun hHeld => ?_)
       clear hK K
       refine norm_ (a':=?_) ?_ ?_
       rotate_left
       ·show Act.put _ (some 24) _ = _
        simp only [Act.put,List.setIfInBounds_toArray,List.set_cons_zero,List.set_cons_succ,i64_w,i32_w]
        rfl
       refine one_ (i:=7) (N:=some 25) #[true,true,true,true,true,true,true,true,false,false] rfl rfl (one_of HT_.out (by kernel_rfl)) (by decide) (fun K hK => ?_)
       refine value_ (w1:=?_) (v:=?_) (by rfl) rfl ?_ ?_
       rotate_left 2
       ·go_simp
        constructor
        ·rfl
        ·rfl
       refine hK.out _ _ ⟨(bCe (bAl BK545.out _) 0).trans rfl,(bCe (bAl BK545.out _) 1).trans rfl,(bCe (bAl BK545.out _) 2).trans rfl,(bCe (bAl BK545.out _) 3).trans rfl,(bCe (bAl BK545.out _) 4).trans rfl,(bCe (bAl BK545.out _) 5).trans rfl,(bCe (bAl BK545.out _) 6).trans rfl,(bCe (bAl BK545.out _) 7).trans rfl,(bCe (bAl BK545.out _) 8).trans rfl,(bCe (bAl BK545.out _) 9).trans rfl,(bCe (bAl BK545.out _) 10).trans rfl⟩ (fun hHeld => ?_)
       clear hK K
       refine norm_ (a':=?_) ?_ ?_
       rotate_left
       ·show Act.put _ (some 25) _ = _
        simp only [Act.put,List.setIfInBounds_toArray,List.set_cons_zero,List.set_cons_succ,i64_w,i32_w]
        rfl
       refine one_ (i:=8) (N:=some 26) #[true,true,true,true,true,true,true,true,true,false] rfl rfl (one_of HT_.out (by kernel_rfl)) (by decide) (fun K hK => ?_)
       refine Kd.R_append_step k53 (w0:=w) w.heap.size (by rfl) (.tmp 18) (.tmp 25) 50 53 (.agg #[(.int .i64 0),(.int .i64 0),(.int .i64 0),(.int .i64 0),(.int .i64 0),(.int .i64 0),(.string ⟨#[]⟩)]) 64 rfl Try.underlying50 info53 rfl (by decide) (by omega) u9 x9_1 (⟨t549,t550,t551,t552,t553,t554,t555⟩:S53) [.int .i64 t549,.int .i64 t550,.int .i64 t551,.int .i64 t552,.int .i64 t553,.int .i64 t554,.string t555] (fun _ => True) (fun _ => False) rfl rfl ?aP (fun _ hk => hk.elim) ?aF ?aO ?aB ?aS ?aL ?_
       (case aP => exact k53_mkM _ _ _ (⟨t549,t550,t551,t552,t553,t554,t555⟩:S53))
       (case aB => exact bW)
       (case aF => exact (fun _ _ => trivial))
       (case aO => exact (kR (HO_9.out)))
       (case aS => exact (below_size bW))
       (case aL => have:=LMc13.out;omega)
       intro v557 w19 ho hb hg hat
       rw [← Ny556.out] at ho
       have n0_:=aMk (blk_grown (g:=gb545) (o:=.cells #[.string a0_0,.int .i64 a0_1,.int .i64 a0_2,.int .i64 a0_3,.int .i64 a0_4,.int .i64 a0_5,.int .i64 a0_6,.int .i64 a0_7,.string a0_8,.string a0_9,.bool a0_10] 34 (0,0)) (pB BK545.out) hg (Kd.R_ne HO_9.out BK545.out (by decide)))
       have n1_:=aMk (hb)
       have n2_:=aMk (ho)
       clear BK545
       clear HB
       clear HO_9
       have BK545:=n0_
       have HB:=n1_
       have HO558:=n2_
       clear n0_ n1_ n2_
       clear ho hb hg hat
       refine hK.out _ _ (cz11 BK545.out) (fun hHeld => ?_)
       clear hK K
       refine norm_ (a':=?_) ?_ ?_
       rotate_left
       ·show Act.put _ (some 26) _ = _
        simp only [Act.put,List.setIfInBounds_toArray,List.set_cons_zero,List.set_cons_succ,i64_w,i32_w]
        rfl
       refine pU (i:=9) (N:=some 9) #[true,true,true,true,true,true,true,true,true,true] (any_of HT_.out (by kernel_rfl)) ?_
       refine done_ (done_of HT_.out (by kernel_rfl)) ?_
       try go_wp2_with (first|((with_reducible refine gate_callee (f:=70) rfl ?_);refine goesL_ (some 30) rfl rfl Try.func70 (by kernel_rfl) rfl #[.int .i64 (wrap64 (x1_1 + (ji9)))] rfl (by (try simp only [List.map_toArray,List.map_cons,List.map_nil]);first | done|(simp only [hji9];rfl) | rfl|(simp only [List.length_drop,List.length_take];rfl)) ?_;(with_reducible refine (spec_l10Seq.calls (wrap64 (x1_1 + (ji9))) t559 _ A14.out).mono ?_);rintro e w' ⟨rfl,⟨nd,rfl⟩⟩;refine ⟨_,rfl,?_⟩))
       go_roundg k1
       case measure => have:=HK1.out;omega
       case rel => exact ⟨(t559),(x2_1.extract ((ji9):Int).toNat x2_1.size),(y556),rfS,(by first | rfl|(simp;done)|(simp only [← hji9] <;> (first|rfl | simp))|(simp [*];done)|(simp [ne_nil_b];done)|(simp [ne_nil_b, *];done)),H',⟨by have:=HK1.out;omega⟩,⟨kR (HO558.out)⟩,⟨by refine pB ?_;exact BK545.out⟩,⟨bW⟩⟩
      ·rw [if_neg c13] at H
       exact absurd H (by simp)
     ·rw [if_neg c11] at H
      exact absurd H (by simp)
    ·rw [if_neg c10] at H
     exact absurd H (by simp)
   ·rw [if_neg c8] at H
    have c8b0:decide (0 < (x2_1.size:Int)) = false:=decide_eq_false c8
    have c8b1:decide (0 < x2_1.size) = false:=decide_eq_false (by omega)
    clear c8
    by_cases c20:a3 = true
    ·subst c20
     have H1:=H
     rw [if_pos rfl] at H1
     clear H
     have H:=H1
     clear H1
     replace H:=Option.bind_eq_some_iff.mp H
     obtain ⟨⟨t560,t561,t562,t563,t564,t565,t566⟩,A210,H⟩:=H
     try dsimp only at H
     have A21:=aMk A210
     clear A210
     by_cases c22:x9_1.length < 2199023255552
     ·rw [if_pos c22] at H
      have LMc22:=aMk c22
      clear c22
      obtain ⟨y567,hy567⟩:∃ y_:List (S53),y_ = (x9_1 ++ [(⟨t560,t561,t562,t563,t564,t565,t566⟩:S53)]):=⟨_,rfl⟩
      replace H:(some y567) = some r:=by first|(rw [hy567];with_reducible exact H)|(have H2_:=(Option.bind_some _ _).symm.trans H;rw [hy567];with_reducible exact H2_)|(have H2_:=(Option.bind_some _ _).symm.trans H;with_reducible exact H2_) | with_reducible exact H|(rw [hy567];exact H)|exact H
      have Ny567:=aMk hy567
      clear hy567
      obtain rfl:=Option.some.inj H
      obtain ⟨Z23_0,Z23_1,Z23_2,Z23_3,Z23_4,Z23_5,Z23_6,Z23_7,Z23_8,Z23_9,Z23_10,Y23_0,Y23_1,Y23_2,Y23_3,Y23_4,Y23_5,Y23_6,Y23_7,Y23_8,Y23_9,Y23_10⟩:=bC11 BK545.out
      go_wp2_with (first|((with_reducible refine gate_callee (f:=111) rfl ?_);refine gLs 38 Try.func111 #[.agg #[.string a0_0,.int .i64 a0_1,.int .i64 a0_2,.int .i64 a0_3,.int .i64 a0_4,.int .i64 a0_5,.int .i64 a0_6,.int .i64 a0_7,.string a0_8,.string a0_9,.bool a0_10],.int .i64 x1_1,.int .i64 17,.string (⟨#[]⟩:ByteArray)] ?_;(with_reducible refine (spec_l10Reply.calls a0_0 a0_1 a0_2 a0_3 a0_4 a0_5 a0_6 a0_7 a0_8 a0_9 a0_10 x1_1 17 (⟨#[]⟩:ByteArray) t560 t561 t562 t563 t564 t565 t566 _ A21.out).mono ?_);rintro e w24 ⟨rfl,hb⟩;refine ⟨_,rfl,?_⟩;replace HO_9:=aMk (Kd.R_below (kR (HO_9.out)) hb);replace BK545:=aMk (bkB BK545.out hb);replace HB:=aMk (bU hb))|((with_reducible refine gate_builtin (b:=.append) (xs:=#[.tmp 35,.tmp 39]) rfl ?_);at_builtin;refine Kd.R_append k53 (w0:=w) w.heap.size rfl (.tmp 35) (.tmp 39) 50 53 (.agg #[(.int .i64 0),(.int .i64 0),(.int .i64 0),(.int .i64 0),(.int .i64 0),(.int .i64 0),(.string ⟨#[]⟩)]) 64 rfl Try.underlying50 info53 rfl (by decide) (by omega) u9 x9_1 (⟨t560,t561,t562,t563,t564,t565,t566⟩:S53) [.int .i64 t560,.int .i64 t561,.int .i64 t562,.int .i64 t563,.int .i64 t564,.int .i64 t565,.string t566] (fun _ => True) (fun _ => False) rfl rfl ?aP (fun _ hk => hk.elim) ?aF ?aO ?aB ?aS ?aL ?_;(case aP => exact k53_mkM _ _ _ (⟨t560,t561,t562,t563,t564,t565,t566⟩:S53));(case aB => exact bW);(case aF => exact (fun _ _ => trivial));(case aO => exact (kR (HO_9.out)));(case aS => exact (below_size bW));(case aL => have:=LMc22.out;omega);intro v568 w25 ho hb hg hat;rw [← Ny567.out] at ho;have n0_:=aMk (blk_grown (g:=gb545) (o:=.cells #[.string a0_0,.int .i64 a0_1,.int .i64 a0_2,.int .i64 a0_3,.int .i64 a0_4,.int .i64 a0_5,.int .i64 a0_6,.int .i64 a0_7,.string a0_8,.string a0_9,.bool a0_10] 34 (0,0)) (pB BK545.out) hg (Kd.R_ne HO_9.out BK545.out (by decide)));have n1_:=aMk (hb);have n2_:=aMk (ho);clear BK545;clear HB;clear HO_9;have BK545:=n0_;have HB:=n1_;have HO569:=n2_;clear n0_ n1_ n2_;clear ho hb hg hat))
      go_ret
      exact ⟨_,eRf,kR (HO569.out),bW⟩
     ·rw [if_neg c22] at H
      exact absurd H (by simp)
    ·replace c20:=Bool.eq_false_iff.mpr c20
     subst c20
     have H1:=H
     rw [if_neg (show ¬ (false = true) by decide)] at H1
     clear H
     have H:=H1
     clear H1
     obtain rfl:=Option.some.inj H
     go_wp2
     go_ret
     exact ⟨_,eRf,kR (HO_9.out),bW⟩
end
section
/-! ### impl_Conn_pieces: function 115 -/
def impl_Conn_pieces.l0:Nat→Int→ByteArray→List (S53)→ByteArray→Int→Int→Int→Int→Int→Int→Int→ByteArray→ByteArray→Bool→Option ((List (S53)))
 | 0,_,_,_,_,_,_,_,_,_,_,_,_,_,_ => none
 | k + 1,x1,x2,x7,x1000,x1001,x1002,x1003,x1004,x1005,x1006,x1007,x1008,x1009,x1010 => if x2.toList = ([]:List UInt8) then ((impl_Conn_tell.f x1000 x1001 x1002 x1003 x1004 x1005 x1006 x1007 x1008 x1009 x1010 x1 17 (⟨#[]⟩:ByteArray)).bind fun bt598 => (if x7.length < 2199023255552 then (some (x7 ++ [(⟨bt598.1,bt598.2.1,bt598.2.2.1,bt598.2.2.2.1,bt598.2.2.2.2.1,bt598.2.2.2.2.2.1,bt598.2.2.2.2.2.2⟩:S53)])) else (none))) else (if 0≤(mn (x2.size:Int) 200) then (if (mn (x2.size:Int) 200)≤(x2.size:Int) then ((impl_Conn_tell.f x1000 x1001 x1002 x1003 x1004 x1005 x1006 x1007 x1008 x1009 x1010 x1 24 (x2.extract 0 ((mn (x2.size:Int) 200):Int).toNat)).bind fun bt608 => (if x7.length < 2199023255552 then ((impl_onward.f x1 (mn (x2.size:Int) 200)).bind fun t618 => (impl_Conn_pieces.l0 k t618 (x2.extract ((mn (x2.size:Int) 200):Int).toNat x2.size) (x7 ++ [(⟨bt608.1,bt608.2.1,bt608.2.2.1,bt608.2.2.2.1,bt608.2.2.2.2.1,bt608.2.2.2.2.2.1,bt608.2.2.2.2.2.2⟩:S53)]) x1000 x1001 x1002 x1003 x1004 x1005 x1006 x1007 x1008 x1009 x1010)) else (none))) else (none)) else (none))
def impl_Conn_pieces.f (k:Nat) (s0_0:ByteArray) (s0_1 s0_2:Int) (s0_3 s0_4:Int) (s0_5 s0_6 s0_7:Int) (s0_8 s0_9:ByteArray) (s0_10:Bool) (a1:Int) (a2:ByteArray):Option ((List (S53))):=impl_Conn_pieces.l0 k a1 a2 (([]:List (S53))) s0_0 s0_1 s0_2 s0_3 s0_4 s0_5 s0_6 s0_7 s0_8 s0_9 s0_10
theorem impl_Conn_pieces.mono_l:∀ k,(∀ y0 y1 y2 y3 y4 y5 y6 y7 y8 y9 y10 y11 y12 y13,LeO (impl_Conn_pieces.l0 k y0 y1 y2 y3 y4 y5 y6 y7 y8 y9 y10 y11 y12 y13) (impl_Conn_pieces.l0 (k + 1) y0 y1 y2 y3 y4 y5 y6 y7 y8 y9 y10 y11 y12 y13))
 | 0 => fun _ _ _ _ _ _ _ _ _ _ _ _ _ _ r h => by simp [impl_Conn_pieces.l0] at h
 | k + 1 => by
  have ih0:=impl_Conn_pieces.mono_l k
  ·intro y0 y1 y2 y3 y4 y5 y6 y7 y8 y9 y10 y11 y12 y13
   unfold impl_Conn_pieces.l0
   repeat' first
   | (with_reducible exact ih0 _ _ _ _ _ _ _ _ _ _ _ _ _ _)
   | (with_reducible exact LeO.refl _)
   | (with_reducible exact LeO.none _)
   | (with_reducible refine LeO.ite ?_ ?_)
   | (with_reducible refine LeO.bind ?_ (fun _ => ?_))
   | exact ih0 _ _ _ _ _ _ _ _ _ _ _ _ _ _
   | exact LeO.none _
   | refine LeO.ite ?_ ?_
   | refine LeO.bind ?_ (fun _ => ?_)
theorem impl_Conn_pieces.mono:∀ a0 a1 a2 a3 a4 a5 a6 a7 a8 a9 a10 a11 a12 k,LeO (impl_Conn_pieces.f k a0 a1 a2 a3 a4 a5 a6 a7 a8 a9 a10 a11 a12) (impl_Conn_pieces.f (k + 1) a0 a1 a2 a3 a4 a5 a6 a7 a8 a9 a10 a11 a12):=by
 intro a0 a1 a2 a3 a4 a5 a6 a7 a8 a9 a10 a11 a12 k
 have ih0:=impl_Conn_pieces.mono_l k
 unfold impl_Conn_pieces.f
 repeat' first
   | (with_reducible exact ih0 _ _ _ _ _ _ _ _ _ _ _ _ _ _)
   | (with_reducible exact LeO.refl _)
   | (with_reducible exact LeO.none _)
   | (with_reducible refine LeO.ite ?_ ?_)
   | (with_reducible refine LeO.bind ?_ (fun _ => ?_))
   | exact ih0 _ _ _ _ _ _ _ _ _ _ _ _ _ _
   | exact LeO.none _
   | refine LeO.ite ?_ ?_
   | refine LeO.bind ?_ (fun _ => ?_)
set_option maxHeartbeats 8000000 in
set_option maxRecDepth 100000 in
theorem impl_Conn_pieces.calls (k:Nat) (g:Nat) (s0_0:ByteArray) (s0_1 s0_2:Int) (s0_3 s0_4:Int) (s0_5 s0_6 s0_7:Int) (s0_8 s0_9:ByteArray) (s0_10:Bool) (a1:Int) (a2:ByteArray) (r:List (S53)) (w0 w:World) (hI:IsS34 w0 w g s0_0 s0_1 s0_2 s0_3 s0_4 s0_5 s0_6 s0_7 s0_8 s0_9 s0_10) (hB:Below w0.heap.size w0 w) (h:impl_Conn_pieces.f k s0_0 s0_1 s0_2 s0_3 s0_4 s0_5 s0_6 s0_7 s0_8 s0_9 s0_10 a1 a2 = some r) :
  Calls Try.prog 115 #[.pointer (some ⟨g,0,none⟩),.int .i64 a1,.string a2] w fun e w' => ∃ v0_:Value,e = .returned (v0_)∧Kd.R k53 53 w' w.heap.size (fun _ => True) v0_ r∧IsS34 w0 w' g s0_0 s0_1 s0_2 s0_3 s0_4 s0_5 s0_6 s0_7 s0_8 s0_9 s0_10∧Below w0.heap.size w0 w'∧KeepBut w w' g none:=by
 have HI0:=aMk hI
 have HK:=aMk (KeepBut.refl w g none)
 have HL:=aMk hB.size
 clear hI
 have HW0:=aMk hB.size
 have HB:=aMk hB
 clear hB
 have H:=h
 unfold impl_Conn_pieces.f at H
 clear h
 obtain ⟨y595,hy595⟩:∃ y_:List (S53),y_ = (([]:List (S53))):=⟨_,rfl⟩
 replace H:(impl_Conn_pieces.l0 k a1 a2 y595 s0_0 s0_1 s0_2 s0_3 s0_4 s0_5 s0_6 s0_7 s0_8 s0_9 s0_10) = some r:=by first|(rw [hy595];with_reducible exact H)|(have H2_:=(Option.bind_some _ _).symm.trans H;rw [hy595];with_reducible exact H2_)|(have H2_:=(Option.bind_some _ _).symm.trans H;with_reducible exact H2_) | with_reducible exact H|(rw [hy595];exact H)|exact H
 have Ny595:=aMk hy595
 clear hy595
 have H':=aMk H
 clear H
 go_enter Try.func115,Try.ntmps115
 go_wp2_with (first|((with_reducible refine gate_dst (N:=9) rfl ?_);refine Kd.R_lit k53 _ 53 ?hg (N:=9) ?hd (xs:=([]:List (S53))) (inner:=[]) (ok:=fun _ => True) (okp:=fun _ => True) ?hr ?hp (fun _ hk => hk) trivial (Below.refl _ _) (Nat.le_refl _) (by simp) ?_;(case hd => rfl);(case hg => rfl);(case hr => first|(go_simp;done)|(go_simp;rfl));(case hp => exact (Reps.none _ _));intro v596 w4 ho5 hb hg_ hnew_;clear hg_ hnew_;(first|rw [← Ny595.out] at ho5|(simp only [Int.reduceToNat] at ho5;rw [← Ny595.out] at ho5));have HO597:=aMk (Kd.R_lower ho5 (keep_size (w:=w) (g:=g) (row:=none) (kQ HK.out)));replace HI0:=aMk (IsS34.below (iQ34 HI0.out) hb);replace HK:=aMk (KeepBut.trans (kQ HK.out) (KeepBut.of_below hb g none) (.inl rfl));replace HB:=aMk (below_step bW34 hb);clear hb ho5))
 repeat (go_quiet (first|((with_reducible refine gate_dst (N:=9) rfl ?_);refine Kd.R_lit k53 _ 53 ?hg (N:=9) ?hd (xs:=([]:List (S53))) (inner:=[]) (ok:=fun _ => True) (okp:=fun _ => True) ?hr ?hp (fun _ hk => hk) trivial (Below.refl _ _) (Nat.le_refl _) (by simp) ?_;(case hd => rfl);(case hg => rfl);(case hr => first|(go_simp;done)|(go_simp;rfl));(case hp => exact (Reps.none _ _));intro v596 w4 ho5 hb hg_ hnew_;clear hg_ hnew_;(first|rw [← Ny595.out] at ho5|(simp only [Int.reduceToNat] at ho5;rw [← Ny595.out] at ho5));have HO597:=aMk (Kd.R_lower ho5 (keep_size (w:=w) (g:=g) (row:=none) (kQ HK.out)));replace HI0:=aMk (IsS34.below (iQ34 HI0.out) hb);replace HK:=aMk (KeepBut.trans (kQ HK.out) (KeepBut.of_below hb g none) (.inl rfl));replace HB:=aMk (below_step bW34 hb);clear hb ho5));try go_wp2_with (first|((with_reducible refine gate_dst (N:=9) rfl ?_);refine Kd.R_lit k53 _ 53 ?hg (N:=9) ?hd (xs:=([]:List (S53))) (inner:=[]) (ok:=fun _ => True) (okp:=fun _ => True) ?hr ?hp (fun _ hk => hk) trivial (Below.refl _ _) (Nat.le_refl _) (by simp) ?_;(case hd => rfl);(case hg => rfl);(case hr => first|(go_simp;done)|(go_simp;rfl));(case hp => exact (Reps.none _ _));intro v596 w4 ho5 hb hg_ hnew_;clear hg_ hnew_;(first|rw [← Ny595.out] at ho5|(simp only [Int.reduceToNat] at ho5;rw [← Ny595.out] at ho5));have HO597:=aMk (Kd.R_lower ho5 (keep_size (w:=w) (g:=g) (row:=none) (kQ HK.out)));replace HI0:=aMk (IsS34.below (iQ34 HI0.out) hb);replace HK:=aMk (KeepBut.trans (kQ HK.out) (KeepBut.of_below hb g none) (.inl rfl));replace HB:=aMk (below_step bW34 hb);clear hb ho5)))
 go_loopg [1,2,7] k (fun kq v1 v2 v7 w' => ∃ (x1_1:Int) (x2_1:ByteArray) (x7_1:List (S53)),v1 = .int .i64 x1_1∧v2 = .string x2_1∧Aside0 (impl_Conn_pieces.l0 kq x1_1 x2_1 x7_1 s0_0 s0_1 s0_2 s0_3 s0_4 s0_5 s0_6 s0_7 s0_8 s0_9 s0_10 = some r)∧Aside0 (kq≤k)∧Aside0 (Kd.R k53 53 w' w.heap.size (fun _ => True) v7 x7_1)∧Aside0 (IsS34 w0 w' g s0_0 s0_1 s0_2 s0_3 s0_4 s0_5 s0_6 s0_7 s0_8 s0_9 s0_10)∧Aside0 (KeepBut w w' g none)∧Aside0 (Below w0.heap.size w0 w'))
 case atStart => exact ⟨(a1),(a2),(y595),rfS,rfS,H',⟨Nat.le_refl _⟩,⟨kR (HO597.out)⟩,⟨by repeat (first|(with_reducible first|exact HI0.out|apply IsS34.alloc|apply IsS34.drewN|apply IsS34.drew|apply IsS34.set_0|apply IsS34.set_1|apply IsS34.set_2|apply IsS34.set_3|apply IsS34.set_4|apply IsS34.set_5|apply IsS34.set_6|apply IsS34.set_7|apply IsS34.set_8|apply IsS34.set_9|apply IsS34.set_10)|exact HI0.out)⟩,⟨by repeat (first|(with_reducible first|exact HK.out|apply KeepBut.set_|apply keep_drewN|apply keep_drew|apply keep_alloc)|exact HK.out)⟩,⟨bW34⟩⟩
 case round =>
  clear H'
  obtain ⟨x1_1,x2_1,x7_1,rfl,rfl,HA,HK1,HO_7,HI0,HK,HB⟩:=hrel
  cases gk with
  | zero => exact absurd HA.out (by simp [impl_Conn_pieces.l0])
  | succ k1 =>
   have H:=HA.out
   clear HA
   simp only [impl_Conn_pieces.l0] at H
   by_cases c6:x2_1.toList = ([]:List UInt8)
   ·rw [if_pos c6] at H
    have c6b0:(x2_1.toList == ([]:List UInt8)) = true:=beq_iff_eq.mpr c6
    have c6b1:(x2_1.toList != ([]:List UInt8)) = false:=bne_eq_false_iff_eq.mpr c6
    clear c6
    replace H:=Option.bind_eq_some_iff.mp H
    obtain ⟨⟨t598,t599,t600,t601,t602,t603,t604⟩,A70,H⟩:=H
    try dsimp only at H
    have A7:=aMk A70
    clear A70
    by_cases c8:x7_1.length < 2199023255552
    ·rw [if_pos c8] at H
     have LMc8:=aMk c8
     clear c8
     obtain ⟨y605,hy605⟩:∃ y_:List (S53),y_ = (x7_1 ++ [(⟨t598,t599,t600,t601,t602,t603,t604⟩:S53)]):=⟨_,rfl⟩
     replace H:(some y605) = some r:=by first|(rw [hy605];with_reducible exact H)|(have H2_:=(Option.bind_some _ _).symm.trans H;rw [hy605];with_reducible exact H2_)|(have H2_:=(Option.bind_some _ _).symm.trans H;with_reducible exact H2_) | with_reducible exact H|(rw [hy605];exact H)|exact H
     have Ny605:=aMk hy605
     clear hy605
     obtain rfl:=Option.some.inj H
     go_wp2_with (first|(go_at_call 113;(with_reducible refine (impl_Conn_tell.calls g s0_0 s0_1 s0_2 s0_3 s0_4 s0_5 s0_6 s0_7 s0_8 s0_9 s0_10 x1_1 17 (⟨#[]⟩:ByteArray) t598 t599 t600 t601 t602 t603 t604 w0 _ ?side1 ?side2 A7.out).mono ?_);(case side1 => exact iQ34 HI0.out);(case side2 => repeat (first|(with_reducible first|exact HB.out|apply bwA|apply bwN|apply bw1|refine below_set ?_ (IsS34.ge HI0.out))|exact HB.out));rintro e w9 ⟨rfl,hi,hb,hk⟩;replace HO_7:=aMk (Kd.R_mono (Kd.R_keep (IsS34.apart (show IsS34 w0 _ g s0_0 s0_1 s0_2 s0_3 s0_4 s0_5 s0_6 s0_7 s0_8 s0_9 s0_10 from iQ34 HI0.out) (kR (HO_7.out)) (by decide)) hk (fun _ h => h.2)) (fun _ h => h.1));replace HK:=aMk (KeepBut.trans (kQ HK.out) hk (.inl rfl));replace HB:=aMk (hb);replace HI0:=aMk (hi))|((with_reducible refine gate_builtin (b:=.append) (xs:=#[.tmp 30,.tmp 34]) rfl ?_);at_builtin;refine Kd.R_append k53 w.heap.size rfl (.tmp 30) (.tmp 34) 50 53 (.agg #[(.int .i64 0),(.int .i64 0),(.int .i64 0),(.int .i64 0),(.int .i64 0),(.int .i64 0),(.string ⟨#[]⟩)]) 64 rfl Try.underlying50 info53 rfl (by decide) (by omega) u7 x7_1 (⟨t598,t599,t600,t601,t602,t603,t604⟩:S53) [.int .i64 t598,.int .i64 t599,.int .i64 t600,.int .i64 t601,.int .i64 t602,.int .i64 t603,.string t604] (fun _ => True) (fun _ => False) rfl rfl ?aP (fun _ hk => hk.elim) ?aF ?aO (Below.refl _ _) ?aS ?aL ?_;(case aP => exact k53_mkM _ _ _ (⟨t598,t599,t600,t601,t602,t603,t604⟩:S53));(case aF => exact (fun _ _ => trivial));(case aO => exact (kR (HO_7.out)));(case aS => exact (keep_size (w:=w) (g:=g) (row:=none) (kQ HK.out)));(case aL => have:=LMc8.out;omega);intro v606 w10 ho hb hg hat;rw [← Ny605.out] at ho;have n0_:=aMk (IsS34.grown (iQ34 HI0.out) hg (IsS34.own_ne HI0.out HO_7.out (by decide)));have n1_:=aMk (below_weaken bW34 HL.out hb);have n2_:=aMk (KeepBut.trans (kQ HK.out) (KeepBut.of_grown hg g) (Kd.R_base2 HO_7.out));have n3_:=aMk (ho);clear HI0;clear HB;clear HK;clear HO_7;have HI0:=n0_;have HB:=n1_;have HK:=n2_;have HO607:=n3_;clear n0_ n1_ n2_ n3_;clear ho hb hg hat))
     repeat (go_quiet (first|(go_at_call 113;(with_reducible refine (impl_Conn_tell.calls g s0_0 s0_1 s0_2 s0_3 s0_4 s0_5 s0_6 s0_7 s0_8 s0_9 s0_10 x1_1 17 (⟨#[]⟩:ByteArray) t598 t599 t600 t601 t602 t603 t604 w0 _ ?side1 ?side2 A7.out).mono ?_);(case side1 => exact iQ34 HI0.out);(case side2 => repeat (first|(with_reducible first|exact HB.out|apply bwA|apply bwN|apply bw1|refine below_set ?_ (IsS34.ge HI0.out))|exact HB.out));rintro e w9 ⟨rfl,hi,hb,hk⟩;replace HO_7:=aMk (Kd.R_mono (Kd.R_keep (IsS34.apart (show IsS34 w0 _ g s0_0 s0_1 s0_2 s0_3 s0_4 s0_5 s0_6 s0_7 s0_8 s0_9 s0_10 from iQ34 HI0.out) (kR (HO_7.out)) (by decide)) hk (fun _ h => h.2)) (fun _ h => h.1));replace HK:=aMk (KeepBut.trans (kQ HK.out) hk (.inl rfl));replace HB:=aMk (hb);replace HI0:=aMk (hi))|((with_reducible refine gate_builtin (b:=.append) (xs:=#[.tmp 30,.tmp 34]) rfl ?_);at_builtin;refine Kd.R_append k53 w.heap.size rfl (.tmp 30) (.tmp 34) 50 53 (.agg #[(.int .i64 0),(.int .i64 0),(.int .i64 0),(.int .i64 0),(.int .i64 0),(.int .i64 0),(.string ⟨#[]⟩)]) 64 rfl Try.underlying50 info53 rfl (by decide) (by omega) u7 x7_1 (⟨t598,t599,t600,t601,t602,t603,t604⟩:S53) [.int .i64 t598,.int .i64 t599,.int .i64 t600,.int .i64 t601,.int .i64 t602,.int .i64 t603,.string t604] (fun _ => True) (fun _ => False) rfl rfl ?aP (fun _ hk => hk.elim) ?aF ?aO (Below.refl _ _) ?aS ?aL ?_;(case aP => exact k53_mkM _ _ _ (⟨t598,t599,t600,t601,t602,t603,t604⟩:S53));(case aF => exact (fun _ _ => trivial));(case aO => exact (kR (HO_7.out)));(case aS => exact (keep_size (w:=w) (g:=g) (row:=none) (kQ HK.out)));(case aL => have:=LMc8.out;omega);intro v606 w10 ho hb hg hat;rw [← Ny605.out] at ho;have n0_:=aMk (IsS34.grown (iQ34 HI0.out) hg (IsS34.own_ne HI0.out HO_7.out (by decide)));have n1_:=aMk (below_weaken bW34 HL.out hb);have n2_:=aMk (KeepBut.trans (kQ HK.out) (KeepBut.of_grown hg g) (Kd.R_base2 HO_7.out));have n3_:=aMk (ho);clear HI0;clear HB;clear HK;clear HO_7;have HI0:=n0_;have HB:=n1_;have HK:=n2_;have HO607:=n3_;clear n0_ n1_ n2_ n3_;clear ho hb hg hat));try go_wp2_with (first|(go_at_call 113;(with_reducible refine (impl_Conn_tell.calls g s0_0 s0_1 s0_2 s0_3 s0_4 s0_5 s0_6 s0_7 s0_8 s0_9 s0_10 x1_1 17 (⟨#[]⟩:ByteArray) t598 t599 t600 t601 t602 t603 t604 w0 _ ?side1 ?side2 A7.out).mono ?_);(case side1 => exact iQ34 HI0.out);(case side2 => repeat (first|(with_reducible first|exact HB.out|apply bwA|apply bwN|apply bw1|refine below_set ?_ (IsS34.ge HI0.out))|exact HB.out));rintro e w9 ⟨rfl,hi,hb,hk⟩;replace HO_7:=aMk (Kd.R_mono (Kd.R_keep (IsS34.apart (show IsS34 w0 _ g s0_0 s0_1 s0_2 s0_3 s0_4 s0_5 s0_6 s0_7 s0_8 s0_9 s0_10 from iQ34 HI0.out) (kR (HO_7.out)) (by decide)) hk (fun _ h => h.2)) (fun _ h => h.1));replace HK:=aMk (KeepBut.trans (kQ HK.out) hk (.inl rfl));replace HB:=aMk (hb);replace HI0:=aMk (hi))|((with_reducible refine gate_builtin (b:=.append) (xs:=#[.tmp 30,.tmp 34]) rfl ?_);at_builtin;refine Kd.R_append k53 w.heap.size rfl (.tmp 30) (.tmp 34) 50 53 (.agg #[(.int .i64 0),(.int .i64 0),(.int .i64 0),(.int .i64 0),(.int .i64 0),(.int .i64 0),(.string ⟨#[]⟩)]) 64 rfl Try.underlying50 info53 rfl (by decide) (by omega) u7 x7_1 (⟨t598,t599,t600,t601,t602,t603,t604⟩:S53) [.int .i64 t598,.int .i64 t599,.int .i64 t600,.int .i64 t601,.int .i64 t602,.int .i64 t603,.string t604] (fun _ => True) (fun _ => False) rfl rfl ?aP (fun _ hk => hk.elim) ?aF ?aO (Below.refl _ _) ?aS ?aL ?_;(case aP => exact k53_mkM _ _ _ (⟨t598,t599,t600,t601,t602,t603,t604⟩:S53));(case aF => exact (fun _ _ => trivial));(case aO => exact (kR (HO_7.out)));(case aS => exact (keep_size (w:=w) (g:=g) (row:=none) (kQ HK.out)));(case aL => have:=LMc8.out;omega);intro v606 w10 ho hb hg hat;rw [← Ny605.out] at ho;have n0_:=aMk (IsS34.grown (iQ34 HI0.out) hg (IsS34.own_ne HI0.out HO_7.out (by decide)));have n1_:=aMk (below_weaken bW34 HL.out hb);have n2_:=aMk (KeepBut.trans (kQ HK.out) (KeepBut.of_grown hg g) (Kd.R_base2 HO_7.out));have n3_:=aMk (ho);clear HI0;clear HB;clear HK;clear HO_7;have HI0:=n0_;have HB:=n1_;have HK:=n2_;have HO607:=n3_;clear n0_ n1_ n2_ n3_;clear ho hb hg hat)))
     go_ret
     exact ⟨_,eRf,kR (HO607.out),by repeat (first|(with_reducible first|exact HI0.out|apply IsS34.alloc|apply IsS34.drewN|apply IsS34.drew|apply IsS34.set_0|apply IsS34.set_1|apply IsS34.set_2|apply IsS34.set_3|apply IsS34.set_4|apply IsS34.set_5|apply IsS34.set_6|apply IsS34.set_7|apply IsS34.set_8|apply IsS34.set_9|apply IsS34.set_10)|exact HI0.out),bW34,by repeat (first|(with_reducible first|exact HK.out|apply KeepBut.set_|apply keep_drewN|apply keep_drew|apply keep_alloc)|exact HK.out)⟩
    ·rw [if_neg c8] at H
     exact absurd H (by simp)
   ·rw [if_neg c6] at H
    have c6b0:(x2_1.toList == ([]:List UInt8)) = false:=beq_eq_false_iff_ne.mpr c6
    have c6b1:(x2_1.toList != ([]:List UInt8)) = true:=bne_iff_ne.mpr c6
    obtain ⟨ji11,hji11⟩:∃ j_:Int,(mn (x2_1.size:Int) 200) = j_:=⟨_,rfl⟩
    replace H:(if 0≤(ji11) then (if (ji11)≤(x2_1.size:Int) then ((impl_Conn_tell.f s0_0 s0_1 s0_2 s0_3 s0_4 s0_5 s0_6 s0_7 s0_8 s0_9 s0_10 x1_1 24 (x2_1.extract 0 ((ji11):Int).toNat)).bind fun bt608 => (if x7_1.length < 2199023255552 then ((impl_onward.f x1_1 (ji11)).bind fun t618 => (impl_Conn_pieces.l0 k1 t618 (x2_1.extract ((ji11):Int).toNat x2_1.size) (x7_1 ++ [(⟨bt608.1,bt608.2.1,bt608.2.2.1,bt608.2.2.2.1,bt608.2.2.2.2.1,bt608.2.2.2.2.2.1,bt608.2.2.2.2.2.2⟩:S53)]) s0_0 s0_1 s0_2 s0_3 s0_4 s0_5 s0_6 s0_7 s0_8 s0_9 s0_10)) else (none))) else (none)) else (none)) = some r:=by first|(rw [hji11] at H;exact H)|(simp only [hji11] at H ⊢;exact H)
    have hji11_:(if 200 < (x2_1.size:Int) then 200 else (x2_1.size:Int)) = ji11:=hji11
    by_cases c12:0≤(ji11)
    ·rw [if_pos c12] at H
     have c12b0:=eq_true c12
     have c12b1:decide (0≤(ji11)) = true:=decide_eq_true c12
     clear c12
     by_cases c13:(ji11)≤(x2_1.size:Int)
     ·rw [if_pos c13] at H
      have c13b0:=eq_true c13
      have c13b1:decide ((ji11)≤(x2_1.size:Int)) = true:=decide_eq_true c13
      clear c13
      replace H:=Option.bind_eq_some_iff.mp H
      obtain ⟨⟨t608,t609,t610,t611,t612,t613,t614⟩,A140,H⟩:=H
      try dsimp only at H
      have A14:=aMk A140
      clear A140
      by_cases c15:x7_1.length < 2199023255552
      ·rw [if_pos c15] at H
       have LMc15:=aMk c15
       clear c15
       obtain ⟨y615,hy615⟩:∃ y_:List (S53),y_ = (x7_1 ++ [(⟨t608,t609,t610,t611,t612,t613,t614⟩:S53)]):=⟨_,rfl⟩
       replace H:((impl_onward.f x1_1 (ji11)).bind fun t618 => (impl_Conn_pieces.l0 k1 t618 (x2_1.extract ((ji11):Int).toNat x2_1.size) y615 s0_0 s0_1 s0_2 s0_3 s0_4 s0_5 s0_6 s0_7 s0_8 s0_9 s0_10)) = some r:=by first|(rw [hy615];with_reducible exact H)|(have H2_:=(Option.bind_some _ _).symm.trans H;rw [hy615];with_reducible exact H2_)|(have H2_:=(Option.bind_some _ _).symm.trans H;with_reducible exact H2_) | with_reducible exact H|(rw [hy615];exact H)|exact H
       have Ny615:=aMk hy615
       clear hy615
       replace H:=Option.bind_eq_some_iff.mp H
       obtain ⟨t618,A160,H⟩:=H
       try dsimp only at H
       have A16:=aMk A160
       clear A160
       have c17b0:=eq_true (of_decide_eq_true (by first|(with_reducible assumption) | assumption):0≤(ji11))
       have c18b0:=eq_true (of_decide_eq_true (by first|(with_reducible assumption) | assumption):(ji11)≤(x2_1.size:Int))
       have H':=aMk H
       clear H
       go_wp2_with (first|(go_at_call 113;(with_reducible refine (impl_Conn_tell.calls g s0_0 s0_1 s0_2 s0_3 s0_4 s0_5 s0_6 s0_7 s0_8 s0_9 s0_10 x1_1 24 (x2_1.extract 0 ((ji11):Int).toNat) t608 t609 t610 t611 t612 t613 t614 w0 _ ?side1 ?side2 A14.out).mono ?_);(case side1 => exact iQ34 HI0.out);(case side2 => repeat (first|(with_reducible first|exact HB.out|apply bwA|apply bwN|apply bw1|refine below_set ?_ (IsS34.ge HI0.out))|exact HB.out));rintro e w19 ⟨rfl,hi,hb,hk⟩;replace HO_7:=aMk (Kd.R_mono (Kd.R_keep (IsS34.apart (show IsS34 w0 _ g s0_0 s0_1 s0_2 s0_3 s0_4 s0_5 s0_6 s0_7 s0_8 s0_9 s0_10 from iQ34 HI0.out) (kR (HO_7.out)) (by decide)) hk (fun _ h => h.2)) (fun _ h => h.1));replace HK:=aMk (KeepBut.trans (kQ HK.out) hk (.inl rfl));replace HB:=aMk (hb);replace HI0:=aMk (hi))|((with_reducible refine gate_builtin (b:=.append) (xs:=#[.tmp 15,.tmp 22]) rfl ?_);at_builtin;refine Kd.R_append k53 w.heap.size rfl (.tmp 15) (.tmp 22) 50 53 (.agg #[(.int .i64 0),(.int .i64 0),(.int .i64 0),(.int .i64 0),(.int .i64 0),(.int .i64 0),(.string ⟨#[]⟩)]) 64 rfl Try.underlying50 info53 rfl (by decide) (by omega) u7 x7_1 (⟨t608,t609,t610,t611,t612,t613,t614⟩:S53) [.int .i64 t608,.int .i64 t609,.int .i64 t610,.int .i64 t611,.int .i64 t612,.int .i64 t613,.string t614] (fun _ => True) (fun _ => False) rfl rfl ?aP (fun _ hk => hk.elim) ?aF ?aO (Below.refl _ _) ?aS ?aL ?_;(case aP => exact k53_mkM _ _ _ (⟨t608,t609,t610,t611,t612,t613,t614⟩:S53));(case aF => exact (fun _ _ => trivial));(case aO => exact (kR (HO_7.out)));(case aS => exact (keep_size (w:=w) (g:=g) (row:=none) (kQ HK.out)));(case aL => have:=LMc15.out;omega);intro v616 w20 ho hb hg hat;rw [← Ny615.out] at ho;have n0_:=aMk (IsS34.grown (iQ34 HI0.out) hg (IsS34.own_ne HI0.out HO_7.out (by decide)));have n1_:=aMk (below_weaken bW34 HL.out hb);have n2_:=aMk (KeepBut.trans (kQ HK.out) (KeepBut.of_grown hg g) (Kd.R_base2 HO_7.out));have n3_:=aMk (ho);clear HI0;clear HB;clear HK;clear HO_7;have HI0:=n0_;have HB:=n1_;have HK:=n2_;have HO617:=n3_;clear n0_ n1_ n2_ n3_;clear ho hb hg hat)|(go_at_call 112;(with_reducible refine (impl_onward.calls x1_1 ji11 t618 _ A16.out).mono ?_);rintro e w' ⟨rfl,⟨nd,rfl⟩⟩;(try first|exact ⟨rfl,_,World.drewN_drewN _ _ _⟩|exact ⟨rfl,_,Eq.trans (World.drewN_drewN _ _ _) (congrArg (World.drewN _) (Nat.add_assoc _ _ _))⟩)))
       repeat (go_quiet (first|(go_at_call 113;(with_reducible refine (impl_Conn_tell.calls g s0_0 s0_1 s0_2 s0_3 s0_4 s0_5 s0_6 s0_7 s0_8 s0_9 s0_10 x1_1 24 (x2_1.extract 0 ((ji11):Int).toNat) t608 t609 t610 t611 t612 t613 t614 w0 _ ?side1 ?side2 A14.out).mono ?_);(case side1 => exact iQ34 HI0.out);(case side2 => repeat (first|(with_reducible first|exact HB.out|apply bwA|apply bwN|apply bw1|refine below_set ?_ (IsS34.ge HI0.out))|exact HB.out));rintro e w19 ⟨rfl,hi,hb,hk⟩;replace HO_7:=aMk (Kd.R_mono (Kd.R_keep (IsS34.apart (show IsS34 w0 _ g s0_0 s0_1 s0_2 s0_3 s0_4 s0_5 s0_6 s0_7 s0_8 s0_9 s0_10 from iQ34 HI0.out) (kR (HO_7.out)) (by decide)) hk (fun _ h => h.2)) (fun _ h => h.1));replace HK:=aMk (KeepBut.trans (kQ HK.out) hk (.inl rfl));replace HB:=aMk (hb);replace HI0:=aMk (hi))|((with_reducible refine gate_builtin (b:=.append) (xs:=#[.tmp 15,.tmp 22]) rfl ?_);at_builtin;refine Kd.R_append k53 w.heap.size rfl (.tmp 15) (.tmp 22) 50 53 (.agg #[(.int .i64 0),(.int .i64 0),(.int .i64 0),(.int .i64 0),(.int .i64 0),(.int .i64 0),(.string ⟨#[]⟩)]) 64 rfl Try.underlying50 info53 rfl (by decide) (by omega) u7 x7_1 (⟨t608,t609,t610,t611,t612,t613,t614⟩:S53) [.int .i64 t608,.int .i64 t609,.int .i64 t610,.int .i64 t611,.int .i64 t612,.int .i64 t613,.string t614] (fun _ => True) (fun _ => False) rfl rfl ?aP (fun _ hk => hk.elim) ?aF ?aO (Below.refl _ _) ?aS ?aL ?_;(case aP => exact k53_mkM _ _ _ (⟨t608,t609,t610,t611,t612,t613,t614⟩:S53));(case aF => exact (fun _ _ => trivial));(case aO => exact (kR (HO_7.out)));(case aS => exact (keep_size (w:=w) (g:=g) (row:=none) (kQ HK.out)));(case aL => have:=LMc15.out;omega);intro v616 w20 ho hb hg hat;rw [← Ny615.out] at ho;have n0_:=aMk (IsS34.grown (iQ34 HI0.out) hg (IsS34.own_ne HI0.out HO_7.out (by decide)));have n1_:=aMk (below_weaken bW34 HL.out hb);have n2_:=aMk (KeepBut.trans (kQ HK.out) (KeepBut.of_grown hg g) (Kd.R_base2 HO_7.out));have n3_:=aMk (ho);clear HI0;clear HB;clear HK;clear HO_7;have HI0:=n0_;have HB:=n1_;have HK:=n2_;have HO617:=n3_;clear n0_ n1_ n2_ n3_;clear ho hb hg hat)|(go_at_call 112;(with_reducible refine (impl_onward.calls x1_1 ji11 t618 _ A16.out).mono ?_);rintro e w' ⟨rfl,⟨nd,rfl⟩⟩;(try first|exact ⟨rfl,_,World.drewN_drewN _ _ _⟩|exact ⟨rfl,_,Eq.trans (World.drewN_drewN _ _ _) (congrArg (World.drewN _) (Nat.add_assoc _ _ _))⟩)));try go_wp2_with (first|(go_at_call 113;(with_reducible refine (impl_Conn_tell.calls g s0_0 s0_1 s0_2 s0_3 s0_4 s0_5 s0_6 s0_7 s0_8 s0_9 s0_10 x1_1 24 (x2_1.extract 0 ((ji11):Int).toNat) t608 t609 t610 t611 t612 t613 t614 w0 _ ?side1 ?side2 A14.out).mono ?_);(case side1 => exact iQ34 HI0.out);(case side2 => repeat (first|(with_reducible first|exact HB.out|apply bwA|apply bwN|apply bw1|refine below_set ?_ (IsS34.ge HI0.out))|exact HB.out));rintro e w19 ⟨rfl,hi,hb,hk⟩;replace HO_7:=aMk (Kd.R_mono (Kd.R_keep (IsS34.apart (show IsS34 w0 _ g s0_0 s0_1 s0_2 s0_3 s0_4 s0_5 s0_6 s0_7 s0_8 s0_9 s0_10 from iQ34 HI0.out) (kR (HO_7.out)) (by decide)) hk (fun _ h => h.2)) (fun _ h => h.1));replace HK:=aMk (KeepBut.trans (kQ HK.out) hk (.inl rfl));replace HB:=aMk (hb);replace HI0:=aMk (hi))|((with_reducible refine gate_builtin (b:=.append) (xs:=#[.tmp 15,.tmp 22]) rfl ?_);at_builtin;refine Kd.R_append k53 w.heap.size rfl (.tmp 15) (.tmp 22) 50 53 (.agg #[(.int .i64 0),(.int .i64 0),(.int .i64 0),(.int .i64 0),(.int .i64 0),(.int .i64 0),(.string ⟨#[]⟩)]) 64 rfl Try.underlying50 info53 rfl (by decide) (by omega) u7 x7_1 (⟨t608,t609,t610,t611,t612,t613,t614⟩:S53) [.int .i64 t608,.int .i64 t609,.int .i64 t610,.int .i64 t611,.int .i64 t612,.int .i64 t613,.string t614] (fun _ => True) (fun _ => False) rfl rfl ?aP (fun _ hk => hk.elim) ?aF ?aO (Below.refl _ _) ?aS ?aL ?_;(case aP => exact k53_mkM _ _ _ (⟨t608,t609,t610,t611,t612,t613,t614⟩:S53));(case aF => exact (fun _ _ => trivial));(case aO => exact (kR (HO_7.out)));(case aS => exact (keep_size (w:=w) (g:=g) (row:=none) (kQ HK.out)));(case aL => have:=LMc15.out;omega);intro v616 w20 ho hb hg hat;rw [← Ny615.out] at ho;have n0_:=aMk (IsS34.grown (iQ34 HI0.out) hg (IsS34.own_ne HI0.out HO_7.out (by decide)));have n1_:=aMk (below_weaken bW34 HL.out hb);have n2_:=aMk (KeepBut.trans (kQ HK.out) (KeepBut.of_grown hg g) (Kd.R_base2 HO_7.out));have n3_:=aMk (ho);clear HI0;clear HB;clear HK;clear HO_7;have HI0:=n0_;have HB:=n1_;have HK:=n2_;have HO617:=n3_;clear n0_ n1_ n2_ n3_;clear ho hb hg hat)|(go_at_call 112;(with_reducible refine (impl_onward.calls x1_1 ji11 t618 _ A16.out).mono ?_);rintro e w' ⟨rfl,⟨nd,rfl⟩⟩;(try first|exact ⟨rfl,_,World.drewN_drewN _ _ _⟩|exact ⟨rfl,_,Eq.trans (World.drewN_drewN _ _ _) (congrArg (World.drewN _) (Nat.add_assoc _ _ _))⟩))))
       go_roundg k1
       case measure => have:=HK1.out;omega
       case rel => exact ⟨(t618),(x2_1.extract ((ji11):Int).toNat x2_1.size),(y615),rfS,(by first | rfl|(simp;done)|(simp only [← hji11] <;> (first|rfl | simp))|(simp [*];done)|(simp [ne_nil_b];done)|(simp [ne_nil_b, *];done)),H',⟨by have:=HK1.out;omega⟩,⟨kR (HO617.out)⟩,⟨by repeat (first|(with_reducible first|exact HI0.out|apply IsS34.alloc|apply IsS34.drewN|apply IsS34.drew|apply IsS34.set_0|apply IsS34.set_1|apply IsS34.set_2|apply IsS34.set_3|apply IsS34.set_4|apply IsS34.set_5|apply IsS34.set_6|apply IsS34.set_7|apply IsS34.set_8|apply IsS34.set_9|apply IsS34.set_10)|exact HI0.out)⟩,⟨by repeat (first|(with_reducible first|exact HK.out|apply KeepBut.set_|apply keep_drewN|apply keep_drew|apply keep_alloc)|exact HK.out)⟩,⟨bW34⟩⟩
      ·rw [if_neg c15] at H
       exact absurd H (by simp)
     ·rw [if_neg c13] at H
      exact absurd H (by simp)
    ·rw [if_neg c12] at H
     exact absurd H (by simp)
end
section
/-! ### spec_l10Again: function 90 -/
def spec_l10Again.f (k:Nat) (a0_0:ByteArray) (a0_1 a0_2:Int) (a0_3 a0_4:Int) (a0_5 a0_6 a0_7:Int) (a0_8 a0_9:ByteArray) (a0_10:Bool):Option ((List (S53))):=if a0_4 = 1 then ((spec_l10Reply.f a0_0 a0_1 a0_2 a0_3 a0_4 a0_5 a0_6 a0_7 a0_8 a0_9 a0_10 a0_5 18 (⟨#[]⟩:ByteArray)).bind fun bt571 => (some (([(⟨bt571.1,bt571.2.1,bt571.2.2.1,bt571.2.2.2.1,bt571.2.2.2.2.1,bt571.2.2.2.2.2.1,bt571.2.2.2.2.2.2⟩:S53)]:List (S53))))) else (if a0_4 = 4 then (some (([]:List (S53)))) else ((spec_l10Pieces.f k a0_0 a0_1 a0_2 a0_3 a0_4 a0_5 a0_6 a0_7 a0_8 a0_9 a0_10 a0_5 a0_9 a0_10).bind fun t584 => (some t584)))
theorem spec_l10Again.mono:∀ a0 a1 a2 a3 a4 a5 a6 a7 a8 a9 a10 k,LeO (spec_l10Again.f k a0 a1 a2 a3 a4 a5 a6 a7 a8 a9 a10) (spec_l10Again.f (k + 1) a0 a1 a2 a3 a4 a5 a6 a7 a8 a9 a10):=by
 intro a0 a1 a2 a3 a4 a5 a6 a7 a8 a9 a10 k
 unfold spec_l10Again.f
 repeat' first
   | (with_reducible exact spec_l10Pieces.mono ..)
   | (with_reducible exact LeO.refl _)
   | (with_reducible exact LeO.none _)
   | (with_reducible refine LeO.ite ?_ ?_)
   | (with_reducible refine LeO.bind ?_ (fun _ => ?_))
   | exact spec_l10Pieces.mono ..
   | exact LeO.none _
   | refine LeO.ite ?_ ?_
   | refine LeO.bind ?_ (fun _ => ?_)
set_option maxHeartbeats 8000000 in
set_option maxRecDepth 100000 in
theorem spec_l10Again.calls (k:Nat) (a0_0:ByteArray) (a0_1 a0_2:Int) (a0_3 a0_4:Int) (a0_5 a0_6 a0_7:Int) (a0_8 a0_9:ByteArray) (a0_10:Bool) (r:List (S53)) (w:World) (h:spec_l10Again.f k a0_0 a0_1 a0_2 a0_3 a0_4 a0_5 a0_6 a0_7 a0_8 a0_9 a0_10 = some r) :
  Calls Try.prog 90 #[.agg #[.string a0_0,.int .i64 a0_1,.int .i64 a0_2,.int .i64 a0_3,.int .i64 a0_4,.int .i64 a0_5,.int .i64 a0_6,.int .i64 a0_7,.string a0_8,.string a0_9,.bool a0_10]] w fun e w' => ∃ v0_:Value,e = .returned (v0_)∧Kd.R k53 53 w' w.heap.size (fun _ => True) v0_ r∧Below w.heap.size w w':=by
 have hu34:=Try.underlying34
 have HB:=aMk (Below.refl w.heap.size w)
 have H:=h
 unfold spec_l10Again.f at H
 clear h
 by_cases c2:a0_4 = 1
 ·rw [if_pos c2] at H
  have c2b0:(a0_4 == 1) = true:=beq_iff_eq.mpr c2
  have c2b1:(a0_4 != 1) = false:=bne_eq_false_iff_eq.mpr c2
  clear c2
  replace H:=Option.bind_eq_some_iff.mp H
  obtain ⟨⟨t571,t572,t573,t574,t575,t576,t577⟩,A30,H⟩:=H
  try dsimp only at H
  have A3:=aMk A30
  clear A30
  obtain ⟨y578,hy578⟩:∃ y_:List (S53),y_ = (([(⟨t571,t572,t573,t574,t575,t576,t577⟩:S53)]:List (S53))):=⟨_,rfl⟩
  replace H:(some y578) = some r:=by first|(rw [hy578];with_reducible exact H)|(have H2_:=(Option.bind_some _ _).symm.trans H;rw [hy578];with_reducible exact H2_)|(have H2_:=(Option.bind_some _ _).symm.trans H;with_reducible exact H2_) | with_reducible exact H|(rw [hy578];exact H)|exact H
  have Ny578:=aMk hy578
  clear hy578
  obtain rfl:=Option.some.inj H
  go_enter Try.func90,Try.ntmps90
  go_wp2_with (first|((with_reducible refine gate_dst (N:=1) rfl ?_);refine bxE (N:=1) (cs:=#[.string a0_0,.int .i64 a0_1,.int .i64 a0_2,.int .i64 a0_3,.int .i64 a0_4,.int .i64 a0_5,.int .i64 a0_6,.int .i64 a0_7,.string a0_8,.string a0_9,.bool a0_10]) (t:=34) ?_;intro gb570 hg w4 hbox hb;have BK570:=aMk (hbox);have GW570:=aMk (bZ hg);have GE570:=aMk (bZ hg);replace HB:=aMk (bSt hb);clear hb hbox hg;obtain ⟨Z5_0,Z5_1,Z5_2,Z5_3,Z5_4,Z5_5,Z5_6,Z5_7,Z5_8,Z5_9,Z5_10,Y5_0,Y5_1,Y5_2,Y5_3,Y5_4,Y5_5,Y5_6,Y5_7,Y5_8,Y5_9,Y5_10⟩:=bC11 BK570.out)|((with_reducible refine gate_callee (f:=111) rfl ?_);refine gLs 10 Try.func111 #[.agg #[.string a0_0,.int .i64 a0_1,.int .i64 a0_2,.int .i64 a0_3,.int .i64 a0_4,.int .i64 a0_5,.int .i64 a0_6,.int .i64 a0_7,.string a0_8,.string a0_9,.bool a0_10],.int .i64 a0_5,.int .i64 18,.string (⟨#[]⟩:ByteArray)] ?_;(with_reducible refine (spec_l10Reply.calls a0_0 a0_1 a0_2 a0_3 a0_4 a0_5 a0_6 a0_7 a0_8 a0_9 a0_10 a0_5 18 (⟨#[]⟩:ByteArray) t571 t572 t573 t574 t575 t576 t577 _ A3.out).mono ?_);rintro e w6 ⟨rfl,hb⟩;refine ⟨_,rfl,?_⟩;replace BK570:=aMk (bkB BK570.out hb);replace HB:=aMk (bU hb))|((with_reducible refine gate_dst (N:=11) rfl ?_);refine Kd.R_lit k53 _ 53 ?hg (N:=11) ?hd (xs:=([(⟨t571,t572,t573,t574,t575,t576,t577⟩:S53)]:List (S53))) (inner:=[.int .i64 t571,.int .i64 t572,.int .i64 t573,.int .i64 t574,.int .i64 t575,.int .i64 t576,.string t577]) (ok:=fun _ => True) (okp:=fun _ => True) ?hr ?hp (fun _ hk => hk) trivial (Below.refl _ _) (Nat.le_refl _) (by simp) ?_;(case hd => rfl);(case hg => rfl);(case hr => first|(go_simp;done)|(go_simp;rfl));(case hp => exact (Reps.c7 (show Kd.M k53 _ _ _ (⟨t571,t572,t573,t574,t575,t576,t577⟩:S53) [.int .i64 t571,.int .i64 t572,.int .i64 t573,.int .i64 t574,.int .i64 t575,.int .i64 t576,.string t577] from (k53_mkM _ _ _ (⟨t571,t572,t573,t574,t575,t576,t577⟩:S53) )) (Reps.none _ _)));intro v579 w7 ho8 hb hg_ hnew_;clear hg_ hnew_;(first|rw [← Ny578.out] at ho8|(simp only [Int.reduceToNat] at ho8;rw [← Ny578.out] at ho8));have HO580:=aMk (Kd.R_lower ho8 (below_size bW));replace BK570:=aMk (bkB BK570.out hb);replace HB:=aMk (bU hb);clear hb ho8))
  go_ret
  exact ⟨_,eRf,kR (HO580.out),bW⟩
 ·rw [if_neg c2] at H
  have c2b0:(a0_4 == 1) = false:=beq_eq_false_iff_ne.mpr c2
  have c2b1:(a0_4 != 1) = true:=bne_iff_ne.mpr c2
  by_cases c9:a0_4 = 4
  ·rw [if_pos c9] at H
   have c9b0:(a0_4 == 4) = true:=beq_iff_eq.mpr c9
   have c9b1:(a0_4 != 4) = false:=bne_eq_false_iff_eq.mpr c9
   clear c9
   obtain ⟨y581,hy581⟩:∃ y_:List (S53),y_ = (([]:List (S53))):=⟨_,rfl⟩
   replace H:(some y581) = some r:=by first|(rw [hy581];with_reducible exact H)|(have H2_:=(Option.bind_some _ _).symm.trans H;rw [hy581];with_reducible exact H2_)|(have H2_:=(Option.bind_some _ _).symm.trans H;with_reducible exact H2_) | with_reducible exact H|(rw [hy581];exact H)|exact H
   have Ny581:=aMk hy581
   clear hy581
   obtain rfl:=Option.some.inj H
   go_enter Try.func90,Try.ntmps90
   go_wp2_with (first|((with_reducible refine gate_dst (N:=1) rfl ?_);refine bxE (N:=1) (cs:=#[.string a0_0,.int .i64 a0_1,.int .i64 a0_2,.int .i64 a0_3,.int .i64 a0_4,.int .i64 a0_5,.int .i64 a0_6,.int .i64 a0_7,.string a0_8,.string a0_9,.bool a0_10]) (t:=34) ?_;intro gb570 hg w10 hbox hb;have BK570:=aMk (hbox);have GW570:=aMk (bZ hg);have GE570:=aMk (bZ hg);replace HB:=aMk (bSt hb);clear hb hbox hg;obtain ⟨Z11_0,Z11_1,Z11_2,Z11_3,Z11_4,Z11_5,Z11_6,Z11_7,Z11_8,Z11_9,Z11_10,Y11_0,Y11_1,Y11_2,Y11_3,Y11_4,Y11_5,Y11_6,Y11_7,Y11_8,Y11_9,Y11_10⟩:=bC11 BK570.out)|((with_reducible refine gate_dst (N:=14) rfl ?_);refine Kd.R_lit k53 _ 53 ?hg (N:=14) ?hd (xs:=([]:List (S53))) (inner:=[]) (ok:=fun _ => True) (okp:=fun _ => True) ?hr ?hp (fun _ hk => hk) trivial (Below.refl _ _) (Nat.le_refl _) (by simp) ?_;(case hd => rfl);(case hg => rfl);(case hr => first|(go_simp;done)|(go_simp;rfl));(case hp => exact (Reps.none _ _));intro v582 w12 ho13 hb hg_ hnew_;clear hg_ hnew_;(first|rw [← Ny581.out] at ho13|(simp only [Int.reduceToNat] at ho13;rw [← Ny581.out] at ho13));have HO583:=aMk (Kd.R_lower ho13 (below_size bW));replace BK570:=aMk (bkB BK570.out hb);replace HB:=aMk (bU hb);clear hb ho13))
   go_ret
   exact ⟨_,eRf,kR (HO583.out),bW⟩
  ·rw [if_neg c9] at H
   have c9b0:(a0_4 == 4) = false:=beq_eq_false_iff_ne.mpr c9
   have c9b1:(a0_4 != 4) = true:=bne_iff_ne.mpr c9
   replace H:=Option.bind_eq_some_iff.mp H
   obtain ⟨t584,A140,H⟩:=H
   try dsimp only at H
   have A14:=aMk A140
   clear A140
   obtain rfl:=Option.some.inj H
   go_enter Try.func90,Try.ntmps90
   go_wp2_with (first|((with_reducible refine gate_dst (N:=1) rfl ?_);refine bxE (N:=1) (cs:=#[.string a0_0,.int .i64 a0_1,.int .i64 a0_2,.int .i64 a0_3,.int .i64 a0_4,.int .i64 a0_5,.int .i64 a0_6,.int .i64 a0_7,.string a0_8,.string a0_9,.bool a0_10]) (t:=34) ?_;intro gb570 hg w15 hbox hb;have BK570:=aMk (hbox);have GW570:=aMk (bZ hg);have GE570:=aMk (bZ hg);replace HB:=aMk (bSt hb);clear hb hbox hg;obtain ⟨Z16_0,Z16_1,Z16_2,Z16_3,Z16_4,Z16_5,Z16_6,Z16_7,Z16_8,Z16_9,Z16_10,Y16_0,Y16_1,Y16_2,Y16_3,Y16_4,Y16_5,Y16_6,Y16_7,Y16_8,Y16_9,Y16_10⟩:=bC11 BK570.out)|((with_reducible refine gate_callee (f:=114) rfl ?_);refine gLs 22 Try.func114 #[.agg #[.string a0_0,.int .i64 a0_1,.int .i64 a0_2,.int .i64 a0_3,.int .i64 a0_4,.int .i64 a0_5,.int .i64 a0_6,.int .i64 a0_7,.string a0_8,.string a0_9,.bool a0_10],.int .i64 a0_5,.string a0_9,.bool a0_10] ?_;(with_reducible refine (spec_l10Pieces.calls k a0_0 a0_1 a0_2 a0_3 a0_4 a0_5 a0_6 a0_7 a0_8 a0_9 a0_10 a0_5 a0_9 a0_10 t584 _ A14.out).mono ?_);rintro e w17 ⟨v585,rfl,ho0,hb⟩;refine ⟨_,rfl,?_⟩;have HO586:=aMk (Kd.R_lower ho0 (below_size bW));replace BK570:=aMk (bkB BK570.out hb);replace HB:=aMk (bU hb);(try clear ho0)))
   go_ret
   exact ⟨_,eRf,kR (HO586.out),bW⟩
end
end Go.Proofs.Ytlpkldomoniegaa.X
