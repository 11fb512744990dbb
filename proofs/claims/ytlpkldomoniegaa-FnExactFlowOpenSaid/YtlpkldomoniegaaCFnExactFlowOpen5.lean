/- The program's FlowOpen returns what the reference's FlowOpen returns, for all arguments. Conditions: none beyond the row's own reach. -/
import Derived.Test.YtlpkldomoniegaaCFnExactFlowOpen4
import Derived.Test.YtlpkldomoniegaaRows
namespace Go.Proofs.Ytlpkldomoniegaa.X
open Go.RowKit Go.Proofs.YtlpkldomoniegaaW.PrintWords Go.Proofs.YtlpkldomoniegaaW.PrintLast Go.Proofs.YtlpkldomoniegaaW.PrintMore
attribute [local go_sem] max2_int min2_int max_two min_two max_three min_three max_four min_four   -- for this text's walks alone
set_option linter.unusedVariables false
set_option linter.unusedSimpArgs false
open Go.Proofs.YtlpkldomoniegaaW.PrintWords renaming blk_drewN -> bDn
open Go.Proofs.YtlpkldomoniegaaW.PrintWords renaming blk_drew -> bDr
open Go.Proofs.YtlpkldomoniegaaW.PrintWords renaming blk_alloc -> bAl
open Go.Proofs.YtlpkldomoniegaaW.PrintWords renaming blk_frozen -> bFr
open Go.Proofs.YtlpkldomoniegaaW.PrintWords renaming blk_cell -> bCe
open Go.Proofs.YtlpkldomoniegaaW.PrintWords.Aside0 renaming mk -> aMk
open Go.World renaming block_lt_of_cell? -> wLt
open Go.Proofs.YtlpkldomoniegaaW.PrintWords renaming pw_below_drewN -> bwN
open Go.Proofs.YtlpkldomoniegaaW.PrintWords renaming below_drew1 -> bw1
open Go.Proofs.YtlpkldomoniegaaW.PrintWords renaming below_alloc -> bwA
section
/-! ### laws_FnExactFlowOpen: function 14 -/
mutual
def laws_FnExactFlowOpen.j0 : Nat → List (S68) → Int → List (S71) → Int → List (S71) → List (S71) → Int → Bool → Int → ByteArray → Int → Int → Int → Int → Int → Int → Int → Option (Bool)
 | 0,_,_,_,_,_,_,_,_,_,_,_,_,_,_,_,_,_ => none
 | k + 1,x0,x2,x8,x9,x10,x11,x12,x55,x983000,x983001,x983002,x983003,x983004,x983005,x983006,x983007,x983008 => if x55 = true then (some false) else ((laws_toFlowS.f k x0).bind fun t1018 => ((laws_eqFlowS.f k x10 t1018).bind fun t1021 => (if t1021 = true then ((laws_markFlowS.f k x10 1).bind fun bt1022 => (if bt1022.1 < 0 then (laws_FnExactFlowOpen.j1 k x0 x2 x8 x9 x11 true x983000 x983001 x983002 x983003 x983004 x983005 x983006 x983007 x983008) else ((laws_eqFlowS.f k x11 x8).bind fun t1024 => (if t1024 = true then (laws_FnExactFlowOpen.j1 k x0 x2 x8 x9 x11 (x12 != x9) x983000 x983001 x983002 x983003 x983004 x983005 x983006 x983007 x983008) else (laws_FnExactFlowOpen.j1 k x0 x2 x8 x9 x11 true x983000 x983001 x983002 x983003 x983004 x983005 x983006 x983007 x983008))))) else (some false))))
def laws_FnExactFlowOpen.j1 : Nat → List (S68) → Int → List (S71) → Int → List (S71) → Bool → Int → ByteArray → Int → Int → Int → Int → Int → Int → Int → Option (Bool)
 | 0,_,_,_,_,_,_,_,_,_,_,_,_,_,_,_ => none
 | k + 1,x0,x2,x8,x9,x11,x76,x983000,x983001,x983002,x983003,x983004,x983005,x983006,x983007,x983008 => if x76 = true then (some false) else ((laws_markFlowS.f k x11 1).bind fun bt1025 => ((laws_heldFlowS.f k bt1025.2 1).bind fun t1027 => (if t1027 < 0 then (some false) else (if t1027 = bt1025.1 then ((laws_toFlowS.f k x0).bind fun t1028 => ((laws_toFlow.f x983000 x983001 x983002 x983003 x983004 x983005 x983006 x983007 x983008).bind fun bt1031 => ((impl_FlowOpen.f k t1028 bt1031.1 bt1031.2.1 bt1031.2.2.1 bt1031.2.2.2.1 bt1031.2.2.2.2.1 bt1031.2.2.2.2.2.1 bt1031.2.2.2.2.2.2.1 bt1031.2.2.2.2.2.2.2.1 bt1031.2.2.2.2.2.2.2.2 x2).bind fun bt1040 => ((laws_eqFlowS.f k bt1040.1 x8).bind fun t1044 => (if t1044 = true then (laws_FnExactFlowOpen.j2 k bt1025.2 bt1025.1 (bt1040.2 != x9)) else (laws_FnExactFlowOpen.j2 k bt1025.2 bt1025.1 true)))))) else (some false)))))
def laws_FnExactFlowOpen.j2 : Nat → List (S71) → Int → Bool → Option (Bool)
 | 0,_,_,_ => none
 | k + 1,x11,x14,x105 => if x105 = true then (some false) else ((laws_heldFlowS.f k x11 1).bind fun t1045 => (if t1045 < 0 then (some false) else (if t1045 = x14 then (some true) else (some false))))
end
def laws_FnExactFlowOpen.f (k : Nat) (l0 : List (S68)) (a1_0 : Int) (a1_1 : ByteArray) (a1_2 : Int) (a1_3 : Int) (a1_4 : Int) (a1_5 : Int) (a1_6 : Int) (a1_7 : Int) (a1_8 : Int) (a2 : Int) : Option (Bool):=(laws_szFlowS.f k l0 1048576).bind fun t983 => (if t983 < 0 then (some true) else ((laws_szFlow.f a1_0 a1_1 a1_2 a1_3 a1_4 a1_5 a1_6 a1_7 a1_8 t983).bind fun t984 => (if t984 < 0 then (some true) else ((laws_toFlowS.f k l0).bind fun t985 => ((laws_toFlow.f a1_0 a1_1 a1_2 a1_3 a1_4 a1_5 a1_6 a1_7 a1_8).bind fun bt988 => ((spec_FlowOpen.f k t985 bt988.1 bt988.2.1 bt988.2.2.1 bt988.2.2.2.1 bt988.2.2.2.2.1 bt988.2.2.2.2.2.1 bt988.2.2.2.2.2.2.1 bt988.2.2.2.2.2.2.2.1 bt988.2.2.2.2.2.2.2.2 a2).bind fun bt997 => ((laws_toFlowS.f k l0).bind fun t1001 => ((laws_toFlow.f a1_0 a1_1 a1_2 a1_3 a1_4 a1_5 a1_6 a1_7 a1_8).bind fun bt1004 => ((impl_FlowOpen.f k t1001 bt1004.1 bt1004.2.1 bt1004.2.2.1 bt1004.2.2.2.1 bt1004.2.2.2.2.1 bt1004.2.2.2.2.2.1 bt1004.2.2.2.2.2.2.1 bt1004.2.2.2.2.2.2.2.1 bt1004.2.2.2.2.2.2.2.2 a2).bind fun bt1013 => ((laws_eqFlowS.f k bt1013.1 bt997.1).bind fun t1017 => (if t1017 = true then (laws_FnExactFlowOpen.j0 k l0 a2 bt997.1 bt997.2 t1001 bt1013.1 bt1013.2 (bt1013.2 != bt997.2) a1_0 a1_1 a1_2 a1_3 a1_4 a1_5 a1_6 a1_7 a1_8) else (laws_FnExactFlowOpen.j0 k l0 a2 bt997.1 bt997.2 t1001 bt1013.1 bt1013.2 true a1_0 a1_1 a1_2 a1_3 a1_4 a1_5 a1_6 a1_7 a1_8))))))))))))
theorem laws_FnExactFlowOpen.mono_l : ∀ k,(∀ y0 y1 y2 y3 y4 y5 y6 y7 y8 y9 y10 y11 y12 y13 y14 y15 y16,LeO (laws_FnExactFlowOpen.j0 k y0 y1 y2 y3 y4 y5 y6 y7 y8 y9 y10 y11 y12 y13 y14 y15 y16) (laws_FnExactFlowOpen.j0 (k + 1) y0 y1 y2 y3 y4 y5 y6 y7 y8 y9 y10 y11 y12 y13 y14 y15 y16)) ∧ (∀ y0 y1 y2 y3 y4 y5 y6 y7 y8 y9 y10 y11 y12 y13 y14,LeO (laws_FnExactFlowOpen.j1 k y0 y1 y2 y3 y4 y5 y6 y7 y8 y9 y10 y11 y12 y13 y14) (laws_FnExactFlowOpen.j1 (k + 1) y0 y1 y2 y3 y4 y5 y6 y7 y8 y9 y10 y11 y12 y13 y14)) ∧ (∀ y0 y1 y2,LeO (laws_FnExactFlowOpen.j2 k y0 y1 y2) (laws_FnExactFlowOpen.j2 (k + 1) y0 y1 y2))
 | 0 => ⟨fun _ _ _ _ _ _ _ _ _ _ _ _ _ _ _ _ _ r h => by simp [laws_FnExactFlowOpen.j0] at h,fun _ _ _ _ _ _ _ _ _ _ _ _ _ _ _ r h => by simp [laws_FnExactFlowOpen.j1] at h,fun _ _ _ r h => by simp [laws_FnExactFlowOpen.j2] at h⟩
 | k + 1 => by
  obtain ⟨ih0,ih1,ih2⟩:=laws_FnExactFlowOpen.mono_l k
  refine ⟨?_,?_,?_⟩
  ·intro y0 y1 y2 y3 y4 y5 y6 y7 y8 y9 y10 y11 y12 y13 y14 y15 y16
   unfold laws_FnExactFlowOpen.j0
   repeat' first
   | (with_reducible exact ih0 _ _ _ _ _ _ _ _ _ _ _ _ _ _ _ _ _)
   | (with_reducible exact ih1 _ _ _ _ _ _ _ _ _ _ _ _ _ _ _)
   | (with_reducible exact ih2 _ _ _)
   | (with_reducible exact impl_FlowOpen.mono ..)
   | (with_reducible exact laws_eqFlowS.mono ..)
   | (with_reducible exact laws_heldFlowS.mono ..)
   | (with_reducible exact laws_markFlowS.mono ..)
   | (with_reducible exact laws_szFlowS.mono ..)
   | (with_reducible exact laws_toFlowS.mono ..)
   | (with_reducible exact spec_FlowOpen.mono ..)
   | (with_reducible exact LeO.refl _)
   | (with_reducible exact LeO.none _)
   | (with_reducible refine LeO.ite ?_ ?_)
   | (with_reducible refine LeO.bind ?_ (fun _ => ?_))
   | exact ih0 _ _ _ _ _ _ _ _ _ _ _ _ _ _ _ _ _
   | exact ih1 _ _ _ _ _ _ _ _ _ _ _ _ _ _ _
   | exact ih2 _ _ _
   | exact impl_FlowOpen.mono ..
   | exact laws_eqFlowS.mono ..
   | exact laws_heldFlowS.mono ..
   | exact laws_markFlowS.mono ..
   | exact laws_szFlowS.mono ..
   | exact laws_toFlowS.mono ..
   | exact spec_FlowOpen.mono ..
   | exact LeO.none _
   | refine LeO.ite ?_ ?_
   | refine LeO.bind ?_ (fun _ => ?_)
  ·intro y0 y1 y2 y3 y4 y5 y6 y7 y8 y9 y10 y11 y12 y13 y14
   unfold laws_FnExactFlowOpen.j1
   repeat' first
   | (with_reducible exact ih0 _ _ _ _ _ _ _ _ _ _ _ _ _ _ _ _ _)
   | (with_reducible exact ih1 _ _ _ _ _ _ _ _ _ _ _ _ _ _ _)
   | (with_reducible exact ih2 _ _ _)
   | (with_reducible exact impl_FlowOpen.mono ..)
   | (with_reducible exact laws_eqFlowS.mono ..)
   | (with_reducible exact laws_heldFlowS.mono ..)
   | (with_reducible exact laws_markFlowS.mono ..)
   | (with_reducible exact laws_szFlowS.mono ..)
   | (with_reducible exact laws_toFlowS.mono ..)
   | (with_reducible exact spec_FlowOpen.mono ..)
   | (with_reducible exact LeO.refl _)
   | (with_reducible exact LeO.none _)
   | (with_reducible refine LeO.ite ?_ ?_)
   | (with_reducible refine LeO.bind ?_ (fun _ => ?_))
   | exact ih0 _ _ _ _ _ _ _ _ _ _ _ _ _ _ _ _ _
   | exact ih1 _ _ _ _ _ _ _ _ _ _ _ _ _ _ _
   | exact ih2 _ _ _
   | exact impl_FlowOpen.mono ..
   | exact laws_eqFlowS.mono ..
   | exact laws_heldFlowS.mono ..
   | exact laws_markFlowS.mono ..
   | exact laws_szFlowS.mono ..
   | exact laws_toFlowS.mono ..
   | exact spec_FlowOpen.mono ..
   | exact LeO.none _
   | refine LeO.ite ?_ ?_
   | refine LeO.bind ?_ (fun _ => ?_)
  ·intro y0 y1 y2
   unfold laws_FnExactFlowOpen.j2
   repeat' first
   | (with_reducible exact ih0 _ _ _ _ _ _ _ _ _ _ _ _ _ _ _ _ _)
   | (with_reducible exact ih1 _ _ _ _ _ _ _ _ _ _ _ _ _ _ _)
   | (with_reducible exact ih2 _ _ _)
   | (with_reducible exact impl_FlowOpen.mono ..)
   | (with_reducible exact laws_eqFlowS.mono ..)
   | (with_reducible exact laws_heldFlowS.mono ..)
   | (with_reducible exact laws_markFlowS.mono ..)
   | (with_reducible exact laws_szFlowS.mono ..)
   | (with_reducible exact laws_toFlowS.mono ..)
   | (with_reducible exact spec_FlowOpen.mono ..)
   | (with_reducible exact LeO.refl _)
   | (with_reducible exact LeO.none _)
   | (with_reducible refine LeO.ite ?_ ?_)
   | (with_reducible refine LeO.bind ?_ (fun _ => ?_))
   | exact ih0 _ _ _ _ _ _ _ _ _ _ _ _ _ _ _ _ _
   | exact ih1 _ _ _ _ _ _ _ _ _ _ _ _ _ _ _
   | exact ih2 _ _ _
   | exact impl_FlowOpen.mono ..
   | exact laws_eqFlowS.mono ..
   | exact laws_heldFlowS.mono ..
   | exact laws_markFlowS.mono ..
   | exact laws_szFlowS.mono ..
   | exact laws_toFlowS.mono ..
   | exact spec_FlowOpen.mono ..
   | exact LeO.none _
   | refine LeO.ite ?_ ?_
   | refine LeO.bind ?_ (fun _ => ?_)
theorem laws_FnExactFlowOpen.mono : ∀ a0 a1 a2 a3 a4 a5 a6 a7 a8 a9 a10 k,LeO (laws_FnExactFlowOpen.f k a0 a1 a2 a3 a4 a5 a6 a7 a8 a9 a10) (laws_FnExactFlowOpen.f (k + 1) a0 a1 a2 a3 a4 a5 a6 a7 a8 a9 a10):=by
 intro a0 a1 a2 a3 a4 a5 a6 a7 a8 a9 a10 k
 obtain ⟨ih0,ih1,ih2⟩:=laws_FnExactFlowOpen.mono_l k
 unfold laws_FnExactFlowOpen.f
 repeat' first
   | (with_reducible exact ih0 _ _ _ _ _ _ _ _ _ _ _ _ _ _ _ _ _)
   | (with_reducible exact ih1 _ _ _ _ _ _ _ _ _ _ _ _ _ _ _)
   | (with_reducible exact ih2 _ _ _)
   | (with_reducible exact impl_FlowOpen.mono ..)
   | (with_reducible exact laws_eqFlowS.mono ..)
   | (with_reducible exact laws_heldFlowS.mono ..)
   | (with_reducible exact laws_markFlowS.mono ..)
   | (with_reducible exact laws_szFlowS.mono ..)
   | (with_reducible exact laws_toFlowS.mono ..)
   | (with_reducible exact spec_FlowOpen.mono ..)
   | (with_reducible exact LeO.refl _)
   | (with_reducible exact LeO.none _)
   | (with_reducible refine LeO.ite ?_ ?_)
   | (with_reducible refine LeO.bind ?_ (fun _ => ?_))
   | exact ih0 _ _ _ _ _ _ _ _ _ _ _ _ _ _ _ _ _
   | exact ih1 _ _ _ _ _ _ _ _ _ _ _ _ _ _ _
   | exact ih2 _ _ _
   | exact impl_FlowOpen.mono ..
   | exact laws_eqFlowS.mono ..
   | exact laws_heldFlowS.mono ..
   | exact laws_markFlowS.mono ..
   | exact laws_szFlowS.mono ..
   | exact laws_toFlowS.mono ..
   | exact spec_FlowOpen.mono ..
   | exact LeO.none _
   | refine LeO.ite ?_ ?_
   | refine LeO.bind ?_ (fun _ => ?_)
def laws_FnExactFlowOpen.T8 : Bool × List (List Nat × List Nat):=(true,[([],[]),([0],[0]),([],[]),([2,1],[2]),([],[]),([1,3,4,3],[1,3,4]),([5],[5]),([6],[6]),([6],[6]),([7,5,0,1,2,3,4,5,6,7],[7]),([8,9,0,1,2,3,4,5,6,7,8,9],[8])])
def laws_FnExactFlowOpen.B8 : List Nat:=[0,1,0,7,0,31,63,127,127,255,1023]
theorem laws_FnExactFlowOpen.tab8 : rtab .any (opsOf Try.f14 8) = laws_FnExactFlowOpen.T8:=by kernel_rfl
theorem laws_FnExactFlowOpen.bits8 : waitsOk laws_FnExactFlowOpen.T8.2 laws_FnExactFlowOpen.B8 = true:=by kernel_rfl
def laws_FnExactFlowOpen.T27 : Bool × List (List Nat × List Nat):=(true,[([],[]),([0],[0]),([],[]),([2,1],[2]),([],[]),([1,3,4,3],[1,3,4]),([5],[5]),([6],[6]),([6],[6]),([7,5,0,1,2,3,4,5,6,7],[7]),([8,9,0,1,2,3,4,5,6,7,8,9],[8])])
def laws_FnExactFlowOpen.B27 : List Nat:=[0,1,0,7,0,31,63,127,127,255,1023]
theorem laws_FnExactFlowOpen.tab27 : rtab .any (opsOf Try.f14 27) = laws_FnExactFlowOpen.T27:=by kernel_rfl
theorem laws_FnExactFlowOpen.bits27 : waitsOk laws_FnExactFlowOpen.T27.2 laws_FnExactFlowOpen.B27 = true:=by kernel_rfl
set_option maxHeartbeats 8000000 in
set_option maxRecDepth 100000 in
theorem laws_FnExactFlowOpen.calls (k : Nat) (A0 : Option Addr) (c0 : Nat) (l0 : List (S68)) (a1_0 : Int) (a1_1 : ByteArray) (a1_2 : Int) (a1_3 : Int) (a1_4 : Int) (a1_5 : Int) (a1_6 : Int) (a1_7 : Int) (a1_8 : Int) (a2 : Int) (r : Bool) (w : World) (hr0 : Kd.C k68 w A0 l0.length l0) (hc0 : l0.length ≤ c0) (h : laws_FnExactFlowOpen.f k l0 a1_0 a1_1 a1_2 a1_3 a1_4 a1_5 a1_6 a1_7 a1_8 a2 = some r) :
  Calls Try.prog 14 #[.slice A0 l0.length c0,.agg #[.int .i64 a1_0,.string a1_1,.int .i64 a1_2,.int .i64 a1_3,.int .i64 a1_4,.int .i64 a1_5,.int .i64 a1_6,.int .i64 a1_7,.int .i64 a1_8],.int .i64 a2] w fun e w' => e = .returned (.bool r) ∧ Below w.heap.size w w':=by
 have hu68:=Try.underlying68
 have HR0:=aMk hr0
 have HC0:=aMk hc0
 clear hr0 hc0
 have HB:=aMk (Below.refl w.heap.size w)
 have H : ((laws_szFlowS.f k l0 1048576).bind fun t983 => (if t983 < 0 then (some true) else ((laws_szFlow.f a1_0 a1_1 a1_2 a1_3 a1_4 a1_5 a1_6 a1_7 a1_8 t983).bind fun t984 => (if t984 < 0 then (some true) else ((laws_toFlowS.f k l0).bind fun t985 => ((laws_toFlow.f a1_0 a1_1 a1_2 a1_3 a1_4 a1_5 a1_6 a1_7 a1_8).bind fun bt988 => ((spec_FlowOpen.f k t985 bt988.1 bt988.2.1 bt988.2.2.1 bt988.2.2.2.1 bt988.2.2.2.2.1 bt988.2.2.2.2.2.1 bt988.2.2.2.2.2.2.1 bt988.2.2.2.2.2.2.2.1 bt988.2.2.2.2.2.2.2.2 a2).bind fun bt997 => ((laws_toFlowS.f k l0).bind fun t1001 => ((laws_toFlow.f a1_0 a1_1 a1_2 a1_3 a1_4 a1_5 a1_6 a1_7 a1_8).bind fun bt1004 => ((impl_FlowOpen.f k t1001 bt1004.1 bt1004.2.1 bt1004.2.2.1 bt1004.2.2.2.1 bt1004.2.2.2.2.1 bt1004.2.2.2.2.2.1 bt1004.2.2.2.2.2.2.1 bt1004.2.2.2.2.2.2.2.1 bt1004.2.2.2.2.2.2.2.2 a2).bind fun bt1013 => ((laws_eqFlowS.f k bt1013.1 bt997.1).bind fun t1017 => (if t1017 = true then (laws_FnExactFlowOpen.j0 k l0 a2 bt997.1 bt997.2 t1001 bt1013.1 bt1013.2 (bt1013.2 != bt997.2) a1_0 a1_1 a1_2 a1_3 a1_4 a1_5 a1_6 a1_7 a1_8) else (laws_FnExactFlowOpen.j0 k l0 a2 bt997.1 bt997.2 t1001 bt1013.1 bt1013.2 true a1_0 a1_1 a1_2 a1_3 a1_4 a1_5 a1_6 a1_7 a1_8))))))))))))) = some r:=h
 clear h
 replace H:=Option.bind_eq_some_iff.mp H
 obtain ⟨t983,A40,H⟩:=H
 replace H : (if t983 < 0 then (some true) else ((laws_szFlow.f a1_0 a1_1 a1_2 a1_3 a1_4 a1_5 a1_6 a1_7 a1_8 t983).bind fun t984 => (if t984 < 0 then (some true) else ((laws_toFlowS.f k l0).bind fun t985 => ((laws_toFlow.f a1_0 a1_1 a1_2 a1_3 a1_4 a1_5 a1_6 a1_7 a1_8).bind fun bt988 => ((spec_FlowOpen.f k t985 bt988.1 bt988.2.1 bt988.2.2.1 bt988.2.2.2.1 bt988.2.2.2.2.1 bt988.2.2.2.2.2.1 bt988.2.2.2.2.2.2.1 bt988.2.2.2.2.2.2.2.1 bt988.2.2.2.2.2.2.2.2 a2).bind fun bt997 => ((laws_toFlowS.f k l0).bind fun t1001 => ((laws_toFlow.f a1_0 a1_1 a1_2 a1_3 a1_4 a1_5 a1_6 a1_7 a1_8).bind fun bt1004 => ((impl_FlowOpen.f k t1001 bt1004.1 bt1004.2.1 bt1004.2.2.1 bt1004.2.2.2.1 bt1004.2.2.2.2.1 bt1004.2.2.2.2.2.1 bt1004.2.2.2.2.2.2.1 bt1004.2.2.2.2.2.2.2.1 bt1004.2.2.2.2.2.2.2.2 a2).bind fun bt1013 => ((laws_eqFlowS.f k bt1013.1 bt997.1).bind fun t1017 => (if t1017 = true then (laws_FnExactFlowOpen.j0 k l0 a2 bt997.1 bt997.2 t1001 bt1013.1 bt1013.2 (bt1013.2 != bt997.2) a1_0 a1_1 a1_2 a1_3 a1_4 a1_5 a1_6 a1_7 a1_8) else (laws_FnExactFlowOpen.j0 k l0 a2 bt997.1 bt997.2 t1001 bt1013.1 bt1013.2 true a1_0 a1_1 a1_2 a1_3 a1_4 a1_5 a1_6 a1_7 a1_8)))))))))))) = some r:=H
 have A4:=aMk A40
 clear A40
 by_cases c5 : t983 < 0
 ·rw [if_pos c5] at H
  have c5b0 : decide (t983 < 0) = true:=decide_eq_true c5
  clear c5
  obtain rfl:=Option.some.inj H
  go_enter Try.func14,Try.ntmps14
  go_wp2_with (first|((with_reducible refine gate_dst (N:=4) rfl ?_);refine box_event ?hg (N:=4) ?hd (cs:=#[.int .i64 a1_0,.string a1_1,.int .i64 a1_2,.int .i64 a1_3,.int .i64 a1_4,.int .i64 a1_5,.int .i64 a1_6,.int .i64 a1_7,.int .i64 a1_8]) (t:=68) ?hr ?_;(case hd => rfl);(case hg => rfl);(case hr => first|(go_simp;done)|(go_simp;rfl));intro gb982 hg w6 hbox hb;have n0_:=aMk (below_step (by repeat first|exact HB.out|apply bwA|apply bwN|apply bw1) hb);have n1_:=aMk (hbox);have n2_:=aMk ((by rw [hg];exact (below_size (by repeat first|exact HB.out|apply bwA|apply bwN|apply bw1)) : w.heap.size ≤ gb982));have n3_:=aMk ((by rw [hg];exact (below_size (by repeat first|exact HB.out|apply bwA|apply bwN|apply bw1)) : w.heap.size ≤ gb982));clear HB;have HB:=n0_;have BK982:=n1_;have GW982:=n2_;have GE982:=n3_;clear n0_ n1_ n2_ n3_;clear hb hbox hg)|((with_reducible refine gate_callee (f:=26) rfl ?_);refine goesL_ (some 20) rfl rfl Try.func26 (by kernel_rfl) rfl #[.slice A0 l0.length c0,.int .i64 1048576] rfl (by (try simp only [List.map_toArray,List.map_cons,List.map_nil]);first | done | rfl|(simp only [List.length_drop,List.length_take];rfl)) ?_;(with_reducible refine (laws_szFlowS.calls k _ _ l0 1048576 t983 _ ?side1 ?side2 A4.out).mono ?_);(case side1 => repeat (first|exact (Kd.C_below HR0.out HB.out)|(with_reducible refine Kd.C_alloc ?_ _)|(with_reducible refine Kd.C_drewN ?_ _)|(with_reducible refine Kd.C_drew ?_)));(case side2 => exact HC0.out);rintro e w7 ⟨rfl,hb⟩;refine ⟨_,rfl,?_⟩;have n0_:=aMk (blk_below (g:=gb982) (o:=.cells #[.int .i64 a1_0,.string a1_1,.int .i64 a1_2,.int .i64 a1_3,.int .i64 a1_4,.int .i64 a1_5,.int .i64 a1_6,.int .i64 a1_7,.int .i64 a1_8] 68 (0,0)) (by (with_reducible repeat (first|refine bDn ?_ _|refine bDr ?_|refine bAl ?_ _));exact BK982.out) hb);have n1_:=aMk (below_step (by repeat (first|(with_reducible first|exact HB.out|apply bwA|apply bwN|apply bw1|refine below_set ?_ GE982.out)|exact HB.out)) hb);clear BK982;clear HB;have BK982:=n0_;have HB:=n1_;clear n0_ n1_;(try clear hb);(try clear hb2);(try clear hk);(try clear hi)))
  go_ret
  exact ⟨by first | rfl|(simp [errW_none,errW_some] <;> rfl)|(simp [*,errW_none,errW_some] <;> rfl),by repeat (first|(with_reducible first|exact HB.out|apply bwA|apply bwN|apply bw1|refine below_set ?_ GE982.out)|exact HB.out)⟩
 ·rw [if_neg c5] at H
  have c5b0 : decide (t983 < 0) = false:=decide_eq_false c5
  clear c5
  replace H:=Option.bind_eq_some_iff.mp H
  obtain ⟨t984,A80,H⟩:=H
  replace H : (if t984 < 0 then (some true) else ((laws_toFlowS.f k l0).bind fun t985 => ((laws_toFlow.f a1_0 a1_1 a1_2 a1_3 a1_4 a1_5 a1_6 a1_7 a1_8).bind fun bt988 => ((spec_FlowOpen.f k t985 bt988.1 bt988.2.1 bt988.2.2.1 bt988.2.2.2.1 bt988.2.2.2.2.1 bt988.2.2.2.2.2.1 bt988.2.2.2.2.2.2.1 bt988.2.2.2.2.2.2.2.1 bt988.2.2.2.2.2.2.2.2 a2).bind fun bt997 => ((laws_toFlowS.f k l0).bind fun t1001 => ((laws_toFlow.f a1_0 a1_1 a1_2 a1_3 a1_4 a1_5 a1_6 a1_7 a1_8).bind fun bt1004 => ((impl_FlowOpen.f k t1001 bt1004.1 bt1004.2.1 bt1004.2.2.1 bt1004.2.2.2.1 bt1004.2.2.2.2.1 bt1004.2.2.2.2.2.1 bt1004.2.2.2.2.2.2.1 bt1004.2.2.2.2.2.2.2.1 bt1004.2.2.2.2.2.2.2.2 a2).bind fun bt1013 => ((laws_eqFlowS.f k bt1013.1 bt997.1).bind fun t1017 => (if t1017 = true then (laws_FnExactFlowOpen.j0 k l0 a2 bt997.1 bt997.2 t1001 bt1013.1 bt1013.2 (bt1013.2 != bt997.2) a1_0 a1_1 a1_2 a1_3 a1_4 a1_5 a1_6 a1_7 a1_8) else (laws_FnExactFlowOpen.j0 k l0 a2 bt997.1 bt997.2 t1001 bt1013.1 bt1013.2 true a1_0 a1_1 a1_2 a1_3 a1_4 a1_5 a1_6 a1_7 a1_8)))))))))) = some r:=H
  have A8:=aMk A80
  clear A80
  by_cases c9 : t984 < 0
  ·rw [if_pos c9] at H
   have c9b0 : decide (t984 < 0) = true:=decide_eq_true c9
   clear c9
   obtain rfl:=Option.some.inj H
   go_enter Try.func14,Try.ntmps14
   go_wp2_with (first|((with_reducible refine gate_dst (N:=4) rfl ?_);refine box_event ?hg (N:=4) ?hd (cs:=#[.int .i64 a1_0,.string a1_1,.int .i64 a1_2,.int .i64 a1_3,.int .i64 a1_4,.int .i64 a1_5,.int .i64 a1_6,.int .i64 a1_7,.int .i64 a1_8]) (t:=68) ?hr ?_;(case hd => rfl);(case hg => rfl);(case hr => first|(go_simp;done)|(go_simp;rfl));intro gb982 hg w10 hbox hb;have n0_:=aMk (below_step (by repeat first|exact HB.out|apply bwA|apply bwN|apply bw1) hb);have n1_:=aMk (hbox);have n2_:=aMk ((by rw [hg];exact (below_size (by repeat first|exact HB.out|apply bwA|apply bwN|apply bw1)) : w.heap.size ≤ gb982));have n3_:=aMk ((by rw [hg];exact (below_size (by repeat first|exact HB.out|apply bwA|apply bwN|apply bw1)) : w.heap.size ≤ gb982));clear HB;have HB:=n0_;have BK982:=n1_;have GW982:=n2_;have GE982:=n3_;clear n0_ n1_ n2_ n3_;clear hb hbox hg)|((with_reducible refine gate_callee (f:=26) rfl ?_);refine goesL_ (some 20) rfl rfl Try.func26 (by kernel_rfl) rfl #[.slice A0 l0.length c0,.int .i64 1048576] rfl (by (try simp only [List.map_toArray,List.map_cons,List.map_nil]);first | done | rfl|(simp only [List.length_drop,List.length_take];rfl)) ?_;(with_reducible refine (laws_szFlowS.calls k _ _ l0 1048576 t983 _ ?side1 ?side2 A4.out).mono ?_);(case side1 => repeat (first|exact (Kd.C_below HR0.out HB.out)|(with_reducible refine Kd.C_alloc ?_ _)|(with_reducible refine Kd.C_drewN ?_ _)|(with_reducible refine Kd.C_drew ?_)));(case side2 => exact HC0.out);rintro e w11 ⟨rfl,hb⟩;refine ⟨_,rfl,?_⟩;have n0_:=aMk (blk_below (g:=gb982) (o:=.cells #[.int .i64 a1_0,.string a1_1,.int .i64 a1_2,.int .i64 a1_3,.int .i64 a1_4,.int .i64 a1_5,.int .i64 a1_6,.int .i64 a1_7,.int .i64 a1_8] 68 (0,0)) (by (with_reducible repeat (first|refine bDn ?_ _|refine bDr ?_|refine bAl ?_ _));exact BK982.out) hb);have n1_:=aMk (below_step (by repeat (first|(with_reducible first|exact HB.out|apply bwA|apply bwN|apply bw1|refine below_set ?_ GE982.out)|exact HB.out)) hb);clear BK982;clear HB;have BK982:=n0_;have HB:=n1_;clear n0_ n1_;(try clear hb);(try clear hb2);(try clear hk);(try clear hi);have hcz12_0 : w11.cell? ⟨gb982,0,none⟩ = some (.int .i64 a1_0):=(bCe BK982.out 0).trans rfl;have hcz12_1 : w11.cell? ⟨gb982,1,none⟩ = some (.string a1_1):=(bCe BK982.out 1).trans rfl;have hcz12_2 : w11.cell? ⟨gb982,2,none⟩ = some (.int .i64 a1_2):=(bCe BK982.out 2).trans rfl;have hcz12_3 : w11.cell? ⟨gb982,3,none⟩ = some (.int .i64 a1_3):=(bCe BK982.out 3).trans rfl;have hcz12_4 : w11.cell? ⟨gb982,4,none⟩ = some (.int .i64 a1_4):=(bCe BK982.out 4).trans rfl;have hcz12_5 : w11.cell? ⟨gb982,5,none⟩ = some (.int .i64 a1_5):=(bCe BK982.out 5).trans rfl;have hcz12_6 : w11.cell? ⟨gb982,6,none⟩ = some (.int .i64 a1_6):=(bCe BK982.out 6).trans rfl;have hcz12_7 : w11.cell? ⟨gb982,7,none⟩ = some (.int .i64 a1_7):=(bCe BK982.out 7).trans rfl;have hcz12_8 : w11.cell? ⟨gb982,8,none⟩ = some (.int .i64 a1_8):=(bCe BK982.out 8).trans rfl;have hfz12_0:=bFr BK982.out 0;have hfz12_1:=bFr BK982.out 1;have hfz12_2:=bFr BK982.out 2;have hfz12_3:=bFr BK982.out 3;have hfz12_4:=bFr BK982.out 4;have hfz12_5:=bFr BK982.out 5;have hfz12_6:=bFr BK982.out 6;have hfz12_7:=bFr BK982.out 7;have hfz12_8:=bFr BK982.out 8)|((with_reducible refine gate_callee (f:=51) rfl ?_);refine goesL_ (some 25) rfl rfl Try.func51 (by kernel_rfl) rfl #[.agg #[.int .i64 a1_0,.string a1_1,.int .i64 a1_2,.int .i64 a1_3,.int .i64 a1_4,.int .i64 a1_5,.int .i64 a1_6,.int .i64 a1_7,.int .i64 a1_8],.int .i64 t983] rfl (by (try simp only [List.map_toArray,List.map_cons,List.map_nil]);first | done | rfl|(simp only [List.length_drop,List.length_take];rfl)) ?_;(with_reducible refine (laws_szFlow.calls a1_0 a1_1 a1_2 a1_3 a1_4 a1_5 a1_6 a1_7 a1_8 t983 t984 _ A8.out).mono ?_);rintro e w13 ⟨rfl,hb⟩;refine ⟨_,rfl,?_⟩;have n0_:=aMk (blk_below (g:=gb982) (o:=.cells #[.int .i64 a1_0,.string a1_1,.int .i64 a1_2,.int .i64 a1_3,.int .i64 a1_4,.int .i64 a1_5,.int .i64 a1_6,.int .i64 a1_7,.int .i64 a1_8] 68 (0,0)) (by (with_reducible repeat (first|refine bDn ?_ _|refine bDr ?_|refine bAl ?_ _));exact BK982.out) hb);have n1_:=aMk (below_step (by repeat (first|(with_reducible first|exact HB.out|apply bwA|apply bwN|apply bw1|refine below_set ?_ GE982.out)|exact HB.out)) hb);clear BK982;clear HB;have BK982:=n0_;have HB:=n1_;clear n0_ n1_;(try clear hb);(try clear hb2);(try clear hk);(try clear hi)))
   go_ret
   exact ⟨by first | rfl|(simp [errW_none,errW_some] <;> rfl)|(simp [*,errW_none,errW_some] <;> rfl),by repeat (first|(with_reducible first|exact HB.out|apply bwA|apply bwN|apply bw1|refine below_set ?_ GE982.out)|exact HB.out)⟩
  ·rw [if_neg c9] at H
   have c9b0 : decide (t984 < 0) = false:=decide_eq_false c9
   clear c9
   replace H:=Option.bind_eq_some_iff.mp H
   obtain ⟨t985,A140,H⟩:=H
   replace H : ((laws_toFlow.f a1_0 a1_1 a1_2 a1_3 a1_4 a1_5 a1_6 a1_7 a1_8).bind fun bt988 => ((spec_FlowOpen.f k t985 bt988.1 bt988.2.1 bt988.2.2.1 bt988.2.2.2.1 bt988.2.2.2.2.1 bt988.2.2.2.2.2.1 bt988.2.2.2.2.2.2.1 bt988.2.2.2.2.2.2.2.1 bt988.2.2.2.2.2.2.2.2 a2).bind fun bt997 => ((laws_toFlowS.f k l0).bind fun t1001 => ((laws_toFlow.f a1_0 a1_1 a1_2 a1_3 a1_4 a1_5 a1_6 a1_7 a1_8).bind fun bt1004 => ((impl_FlowOpen.f k t1001 bt1004.1 bt1004.2.1 bt1004.2.2.1 bt1004.2.2.2.1 bt1004.2.2.2.2.1 bt1004.2.2.2.2.2.1 bt1004.2.2.2.2.2.2.1 bt1004.2.2.2.2.2.2.2.1 bt1004.2.2.2.2.2.2.2.2 a2).bind fun bt1013 => ((laws_eqFlowS.f k bt1013.1 bt997.1).bind fun t1017 => (if t1017 = true then (laws_FnExactFlowOpen.j0 k l0 a2 bt997.1 bt997.2 t1001 bt1013.1 bt1013.2 (bt1013.2 != bt997.2) a1_0 a1_1 a1_2 a1_3 a1_4 a1_5 a1_6 a1_7 a1_8) else (laws_FnExactFlowOpen.j0 k l0 a2 bt997.1 bt997.2 t1001 bt1013.1 bt1013.2 true a1_0 a1_1 a1_2 a1_3 a1_4 a1_5 a1_6 a1_7 a1_8)))))))) = some r:=H
   have A14:=aMk A140
   clear A140
   replace H:=Option.bind_eq_some_iff.mp H
   obtain ⟨⟨t988,t989,t990,t991,t992,t993,t994,t995,t996⟩,A150,H⟩:=H
   replace H : ((spec_FlowOpen.f k t985 t988 t989 t990 t991 t992 t993 t994 t995 t996 a2).bind fun bt997 => ((laws_toFlowS.f k l0).bind fun t1001 => ((laws_toFlow.f a1_0 a1_1 a1_2 a1_3 a1_4 a1_5 a1_6 a1_7 a1_8).bind fun bt1004 => ((impl_FlowOpen.f k t1001 bt1004.1 bt1004.2.1 bt1004.2.2.1 bt1004.2.2.2.1 bt1004.2.2.2.2.1 bt1004.2.2.2.2.2.1 bt1004.2.2.2.2.2.2.1 bt1004.2.2.2.2.2.2.2.1 bt1004.2.2.2.2.2.2.2.2 a2).bind fun bt1013 => ((laws_eqFlowS.f k bt1013.1 bt997.1).bind fun t1017 => (if t1017 = true then (laws_FnExactFlowOpen.j0 k l0 a2 bt997.1 bt997.2 t1001 bt1013.1 bt1013.2 (bt1013.2 != bt997.2) a1_0 a1_1 a1_2 a1_3 a1_4 a1_5 a1_6 a1_7 a1_8) else (laws_FnExactFlowOpen.j0 k l0 a2 bt997.1 bt997.2 t1001 bt1013.1 bt1013.2 true a1_0 a1_1 a1_2 a1_3 a1_4 a1_5 a1_6 a1_7 a1_8))))))) = some r:=H
   have A15:=aMk A150
   clear A150
   replace H:=Option.bind_eq_some_iff.mp H
   obtain ⟨⟨t997,t1000⟩,A160,H⟩:=H
   replace H : ((laws_toFlowS.f k l0).bind fun t1001 => ((laws_toFlow.f a1_0 a1_1 a1_2 a1_3 a1_4 a1_5 a1_6 a1_7 a1_8).bind fun bt1004 => ((impl_FlowOpen.f k t1001 bt1004.1 bt1004.2.1 bt1004.2.2.1 bt1004.2.2.2.1 bt1004.2.2.2.2.1 bt1004.2.2.2.2.2.1 bt1004.2.2.2.2.2.2.1 bt1004.2.2.2.2.2.2.2.1 bt1004.2.2.2.2.2.2.2.2 a2).bind fun bt1013 => ((laws_eqFlowS.f k bt1013.1 t997).bind fun t1017 => (if t1017 = true then (laws_FnExactFlowOpen.j0 k l0 a2 t997 t1000 t1001 bt1013.1 bt1013.2 (bt1013.2 != t1000) a1_0 a1_1 a1_2 a1_3 a1_4 a1_5 a1_6 a1_7 a1_8) else (laws_FnExactFlowOpen.j0 k l0 a2 t997 t1000 t1001 bt1013.1 bt1013.2 true a1_0 a1_1 a1_2 a1_3 a1_4 a1_5 a1_6 a1_7 a1_8)))))) = some r:=H
   have A16:=aMk A160
   clear A160
   replace H:=Option.bind_eq_some_iff.mp H
   obtain ⟨t1001,A170,H⟩:=H
   replace H : ((laws_toFlow.f a1_0 a1_1 a1_2 a1_3 a1_4 a1_5 a1_6 a1_7 a1_8).bind fun bt1004 => ((impl_FlowOpen.f k t1001 bt1004.1 bt1004.2.1 bt1004.2.2.1 bt1004.2.2.2.1 bt1004.2.2.2.2.1 bt1004.2.2.2.2.2.1 bt1004.2.2.2.2.2.2.1 bt1004.2.2.2.2.2.2.2.1 bt1004.2.2.2.2.2.2.2.2 a2).bind fun bt1013 => ((laws_eqFlowS.f k bt1013.1 t997).bind fun t1017 => (if t1017 = true then (laws_FnExactFlowOpen.j0 k l0 a2 t997 t1000 t1001 bt1013.1 bt1013.2 (bt1013.2 != t1000) a1_0 a1_1 a1_2 a1_3 a1_4 a1_5 a1_6 a1_7 a1_8) else (laws_FnExactFlowOpen.j0 k l0 a2 t997 t1000 t1001 bt1013.1 bt1013.2 true a1_0 a1_1 a1_2 a1_3 a1_4 a1_5 a1_6 a1_7 a1_8))))) = some r:=H
   have A17:=aMk A170
   clear A170
   replace H:=Option.bind_eq_some_iff.mp H
   obtain ⟨⟨t1004,t1005,t1006,t1007,t1008,t1009,t1010,t1011,t1012⟩,A180,H⟩:=H
   replace H : ((impl_FlowOpen.f k t1001 t1004 t1005 t1006 t1007 t1008 t1009 t1010 t1011 t1012 a2).bind fun bt1013 => ((laws_eqFlowS.f k bt1013.1 t997).bind fun t1017 => (if t1017 = true then (laws_FnExactFlowOpen.j0 k l0 a2 t997 t1000 t1001 bt1013.1 bt1013.2 (bt1013.2 != t1000) a1_0 a1_1 a1_2 a1_3 a1_4 a1_5 a1_6 a1_7 a1_8) else (laws_FnExactFlowOpen.j0 k l0 a2 t997 t1000 t1001 bt1013.1 bt1013.2 true a1_0 a1_1 a1_2 a1_3 a1_4 a1_5 a1_6 a1_7 a1_8)))) = some r:=H
   have A18:=aMk A180
   clear A180
   replace H:=Option.bind_eq_some_iff.mp H
   obtain ⟨⟨t1013,t1016⟩,A190,H⟩:=H
   replace H : ((laws_eqFlowS.f k t1013 t997).bind fun t1017 => (if t1017 = true then (laws_FnExactFlowOpen.j0 k l0 a2 t997 t1000 t1001 t1013 t1016 (t1016 != t1000) a1_0 a1_1 a1_2 a1_3 a1_4 a1_5 a1_6 a1_7 a1_8) else (laws_FnExactFlowOpen.j0 k l0 a2 t997 t1000 t1001 t1013 t1016 true a1_0 a1_1 a1_2 a1_3 a1_4 a1_5 a1_6 a1_7 a1_8))) = some r:=H
   have A19:=aMk A190
   clear A190
   have HC20:=aMk H
   clear H
   go_enter Try.func14,Try.ntmps14
   try go_wp2_with (first|((with_reducible refine gate_dst (N:=4) rfl ?_);refine box_event ?hg (N:=4) ?hd (cs:=#[.int .i64 a1_0,.string a1_1,.int .i64 a1_2,.int .i64 a1_3,.int .i64 a1_4,.int .i64 a1_5,.int .i64 a1_6,.int .i64 a1_7,.int .i64 a1_8]) (t:=68) ?hr ?_;(case hd => rfl);(case hg => rfl);(case hr => first|(go_simp;done)|(go_simp;rfl));intro gb982 hg w21 hbox hb;have n0_:=aMk (below_step (by repeat first|exact HB.out|apply bwA|apply bwN|apply bw1) hb);have n1_:=aMk (hbox);have n2_:=aMk ((by rw [hg];exact (below_size (by repeat first|exact HB.out|apply bwA|apply bwN|apply bw1)) : w.heap.size ≤ gb982));have n3_:=aMk ((by rw [hg];exact (below_size (by repeat first|exact HB.out|apply bwA|apply bwN|apply bw1)) : w.heap.size ≤ gb982));clear HB;have HB:=n0_;have BK982:=n1_;have GW982:=n2_;have GE982:=n3_;clear n0_ n1_ n2_ n3_;clear hb hbox hg)|((with_reducible refine gate_callee (f:=26) rfl ?_);refine goesL_ (some 20) rfl rfl Try.func26 (by kernel_rfl) rfl #[.slice A0 l0.length c0,.int .i64 1048576] rfl (by (try simp only [List.map_toArray,List.map_cons,List.map_nil]);first | done | rfl|(simp only [List.length_drop,List.length_take];rfl)) ?_;(with_reducible refine (laws_szFlowS.calls k _ _ l0 1048576 t983 _ ?side1 ?side2 A4.out).mono ?_);(case side1 => repeat (first|exact (Kd.C_below HR0.out HB.out)|(with_reducible refine Kd.C_alloc ?_ _)|(with_reducible refine Kd.C_drewN ?_ _)|(with_reducible refine Kd.C_drew ?_)));(case side2 => exact HC0.out);rintro e w22 ⟨rfl,hb⟩;refine ⟨_,rfl,?_⟩;have n0_:=aMk (blk_below (g:=gb982) (o:=.cells #[.int .i64 a1_0,.string a1_1,.int .i64 a1_2,.int .i64 a1_3,.int .i64 a1_4,.int .i64 a1_5,.int .i64 a1_6,.int .i64 a1_7,.int .i64 a1_8] 68 (0,0)) (by (with_reducible repeat (first|refine bDn ?_ _|refine bDr ?_|refine bAl ?_ _));exact BK982.out) hb);have n1_:=aMk (below_step (by repeat (first|(with_reducible first|exact HB.out|apply bwA|apply bwN|apply bw1|refine below_set ?_ GE982.out)|exact HB.out)) hb);clear BK982;clear HB;have BK982:=n0_;have HB:=n1_;clear n0_ n1_;(try clear hb);(try clear hb2);(try clear hk);(try clear hi);have hcz23_0 : w22.cell? ⟨gb982,0,none⟩ = some (.int .i64 a1_0):=(bCe BK982.out 0).trans rfl;have hcz23_1 : w22.cell? ⟨gb982,1,none⟩ = some (.string a1_1):=(bCe BK982.out 1).trans rfl;have hcz23_2 : w22.cell? ⟨gb982,2,none⟩ = some (.int .i64 a1_2):=(bCe BK982.out 2).trans rfl;have hcz23_3 : w22.cell? ⟨gb982,3,none⟩ = some (.int .i64 a1_3):=(bCe BK982.out 3).trans rfl;have hcz23_4 : w22.cell? ⟨gb982,4,none⟩ = some (.int .i64 a1_4):=(bCe BK982.out 4).trans rfl;have hcz23_5 : w22.cell? ⟨gb982,5,none⟩ = some (.int .i64 a1_5):=(bCe BK982.out 5).trans rfl;have hcz23_6 : w22.cell? ⟨gb982,6,none⟩ = some (.int .i64 a1_6):=(bCe BK982.out 6).trans rfl;have hcz23_7 : w22.cell? ⟨gb982,7,none⟩ = some (.int .i64 a1_7):=(bCe BK982.out 7).trans rfl;have hcz23_8 : w22.cell? ⟨gb982,8,none⟩ = some (.int .i64 a1_8):=(bCe BK982.out 8).trans rfl;have hfz23_0:=bFr BK982.out 0;have hfz23_1:=bFr BK982.out 1;have hfz23_2:=bFr BK982.out 2;have hfz23_3:=bFr BK982.out 3;have hfz23_4:=bFr BK982.out 4;have hfz23_5:=bFr BK982.out 5;have hfz23_6:=bFr BK982.out 6;have hfz23_7:=bFr BK982.out 7;have hfz23_8:=bFr BK982.out 8)|((with_reducible refine gate_callee (f:=51) rfl ?_);refine goesL_ (some 25) rfl rfl Try.func51 (by kernel_rfl) rfl #[.agg #[.int .i64 a1_0,.string a1_1,.int .i64 a1_2,.int .i64 a1_3,.int .i64 a1_4,.int .i64 a1_5,.int .i64 a1_6,.int .i64 a1_7,.int .i64 a1_8],.int .i64 t983] rfl (by (try simp only [List.map_toArray,List.map_cons,List.map_nil]);first | done | rfl|(simp only [List.length_drop,List.length_take];rfl)) ?_;(with_reducible refine (laws_szFlow.calls a1_0 a1_1 a1_2 a1_3 a1_4 a1_5 a1_6 a1_7 a1_8 t983 t984 _ A8.out).mono ?_);rintro e w24 ⟨rfl,hb⟩;refine ⟨_,rfl,?_⟩;have n0_:=aMk (blk_below (g:=gb982) (o:=.cells #[.int .i64 a1_0,.string a1_1,.int .i64 a1_2,.int .i64 a1_3,.int .i64 a1_4,.int .i64 a1_5,.int .i64 a1_6,.int .i64 a1_7,.int .i64 a1_8] 68 (0,0)) (by (with_reducible repeat (first|refine bDn ?_ _|refine bDr ?_|refine bAl ?_ _));exact BK982.out) hb);have n1_:=aMk (below_step (by repeat (first|(with_reducible first|exact HB.out|apply bwA|apply bwN|apply bw1|refine below_set ?_ GE982.out)|exact HB.out)) hb);clear BK982;clear HB;have BK982:=n0_;have HB:=n1_;clear n0_ n1_;(try clear hb);(try clear hb2);(try clear hk);(try clear hi)))
   have n0_:=aMk (bDr BK982.out)
   have n1_:=aMk (bw1 HB.out)
   clear BK982
   clear HB
   have BK982:=n0_
   have HB:=n1_
   clear n0_ n1_
   refine start_ (n:=11) (S:=fun w' => w'.cell? ⟨gb982,0,none⟩ = some (.int .i64 a1_0) ∧ w'.cell? ⟨gb982,1,none⟩ = some (.string a1_1) ∧ w'.cell? ⟨gb982,2,none⟩ = some (.int .i64 a1_2) ∧ w'.cell? ⟨gb982,3,none⟩ = some (.int .i64 a1_3) ∧ w'.cell? ⟨gb982,4,none⟩ = some (.int .i64 a1_4) ∧ w'.cell? ⟨gb982,5,none⟩ = some (.int .i64 a1_5) ∧ w'.cell? ⟨gb982,6,none⟩ = some (.int .i64 a1_6) ∧ w'.cell? ⟨gb982,7,none⟩ = some (.int .i64 a1_7) ∧ w'.cell? ⟨gb982,8,none⟩ = some (.int .i64 a1_8)) (ds:=[]) #[false,false,false,false,false,false,false,false,false,false,false] (by kernel_rfl) rfl rfl ⟨(bCe BK982.out 0).trans rfl,(bCe BK982.out 1).trans rfl,(bCe BK982.out 2).trans rfl,(bCe BK982.out 3).trans rfl,(bCe BK982.out 4).trans rfl,(bCe BK982.out 5).trans rfl,(bCe BK982.out 6).trans rfl,(bCe BK982.out 7).trans rfl,(bCe BK982.out 8).trans rfl⟩ (fun hHeld => ?_);refine with_tabW laws_FnExactFlowOpen.tab8 laws_FnExactFlowOpen.bits8 (fun HT_ HW_ => ?_)
   generalize w24.drew = w25 at BK982 HB hHeld ⊢
   refine pure_ (i:=0) (N:=some 29) (v:=?_) (a':=?_) #[true,false,false,false,false,false,false,false,false,false,false] rfl rfl (any_of HT_.out (by kernel_rfl)) (fun _ _ _ h => h) (Or.inl ⟨by rfl,?_⟩) ?_ ?_
   rotate_left
   ·intro w'
    go_simp
    with_reducible rfl
   rotate_left
   ·simp only [Act.put,List.setIfInBounds_toArray,List.set_cons_zero,List.set_cons_succ,i64_w,i32_w]
    rfl
   refine pure_ (i:=4) (N:=some 33) (v:=?_) (a':=?_) #[true,false,false,false,true,false,false,false,false,false,false] rfl rfl (any_of HT_.out (by kernel_rfl)) (fun _ _ _ h => h) (Or.inl ⟨by rfl,?_⟩) ?_ ?_
   rotate_left
   ·intro w'
    go_simp
    with_reducible rfl
   rotate_left
   ·simp only [Act.put,List.setIfInBounds_toArray,List.set_cons_zero,List.set_cons_succ,i64_w,i32_w]
    rfl
   refine take_ (i:=2) (N:=some 31) (v:=?_) (a':=?_) #[true,false,true,false,true,false,false,false,false,false,false] rfl rfl (take_ofW HT_.out HW_.out (by kernel_rfl)) (fun _ _ _ h => h) (Or.inl ⟨by rfl,?_⟩) hHeld ?_ ?_
   rotate_left
   ·rintro w' ⟨s0,s1,s2,s3,s4,s5,s6,s7,s8⟩
    go_simp
    with_reducible rfl
   rotate_left
   ·simp only [Act.put,List.setIfInBounds_toArray,List.set_cons_zero,List.set_cons_succ,i64_w,i32_w]
    rfl
   refine one_ (i:=1) (N:=some 30) #[true,true,true,false,true,false,false,false,false,false,false] rfl rfl (one_of HT_.out (by kernel_rfl)) (by decide) (fun K hK => ?_)
   refine goes_ Try.func28 (by kernel_rfl) rfl #[.slice A0 l0.length c0] (by rfl) rfl rfl (by (try simp only [List.map_toArray,List.map_cons,List.map_nil]);first | done | rfl|(simp only [List.length_drop,List.length_take];rfl)) ?_
   with_reducible refine (laws_toFlowS.calls k _ _ l0 t985 _ ?side1 ?side2 A14.out).mono ?_
   (case side1 => repeat (first|exact (Kd.C_below HR0.out HB.out)|(with_reducible refine Kd.C_alloc ?_ _)|(with_reducible refine Kd.C_drewN ?_ _)|(with_reducible refine Kd.C_drew ?_)))
   (case side2 => exact HC0.out)
   rintro e w26 ⟨v986,rfl,ho0,hb⟩
   refine ⟨_,rfl,?_⟩
   have n0_:=aMk (Kd.R_lower ho0 (below_size (by repeat (first|(with_reducible first|exact HB.out|apply bwA|apply bwN|apply bw1|refine below_set ?_ GE982.out)|exact HB.out))))
   have n1_:=aMk (blk_below (g:=gb982) (o:=.cells #[.int .i64 a1_0,.string a1_1,.int .i64 a1_2,.int .i64 a1_3,.int .i64 a1_4,.int .i64 a1_5,.int .i64 a1_6,.int .i64 a1_7,.int .i64 a1_8] 68 (0,0)) (by (with_reducible repeat (first|refine bDn ?_ _|refine bDr ?_|refine bAl ?_ _));exact BK982.out) hb)
   have n2_:=aMk (below_step (by repeat (first|(with_reducible first|exact HB.out|apply bwA|apply bwN|apply bw1|refine below_set ?_ GE982.out)|exact HB.out)) hb)
   clear BK982
   clear HB
   have HO987:=n0_
   have BK982:=n1_
   have HB:=n2_
   clear n0_ n1_ n2_
   (try clear hb)
   (try clear hb2)
   (try clear hk)
   (try clear hi)
   (try clear ho0)
   refine hK.out _ _ ⟨(bCe BK982.out 0).trans rfl,(bCe BK982.out 1).trans rfl,(bCe BK982.out 2).trans rfl,(bCe BK982.out 3).trans rfl,(bCe BK982.out 4).trans rfl,(bCe BK982.out 5).trans rfl,(bCe BK982.out 6).trans rfl,(bCe BK982.out 7).trans rfl,(bCe BK982.out 8).trans rfl⟩ (fun hHeld => ?_)
   clear hK K
   refine norm_ (a':=?_) ?_ ?_
   rotate_left
   ·show Act.put _ (some 30) _ = _
    simp only [Act.put,List.setIfInBounds_toArray,List.set_cons_zero,List.set_cons_succ,i64_w,i32_w]
    rfl
   refine one_ (i:=3) (N:=some 32) #[true,true,true,true,true,false,false,false,false,false,false] rfl rfl (one_of HT_.out (by kernel_rfl)) (by decide) (fun K hK => ?_)
   refine goes_ Try.func53 (by kernel_rfl) rfl #[.agg #[.int .i64 a1_0,.string a1_1,.int .i64 a1_2,.int .i64 a1_3,.int .i64 a1_4,.int .i64 a1_5,.int .i64 a1_6,.int .i64 a1_7,.int .i64 a1_8]] (by rfl) rfl rfl (by (try simp only [List.map_toArray,List.map_cons,List.map_nil]);first | done | rfl|(simp only [List.length_drop,List.length_take];rfl)) ?_
   with_reducible refine (laws_toFlow.calls a1_0 a1_1 a1_2 a1_3 a1_4 a1_5 a1_6 a1_7 a1_8 t988 t989 t990 t991 t992 t993 t994 t995 t996 _ A15.out).mono ?_
   rintro e w27 ⟨rfl,hb⟩
   refine ⟨_,rfl,?_⟩
   have n0_:=aMk (Kd.R_below (by (with_reducible repeat (first|apply Kd.R_alloc|apply Kd.R_drewN|apply Kd.R_drew));exact HO987.out) hb)
   have n1_:=aMk (blk_below (g:=gb982) (o:=.cells #[.int .i64 a1_0,.string a1_1,.int .i64 a1_2,.int .i64 a1_3,.int .i64 a1_4,.int .i64 a1_5,.int .i64 a1_6,.int .i64 a1_7,.int .i64 a1_8] 68 (0,0)) (by (with_reducible repeat (first|refine bDn ?_ _|refine bDr ?_|refine bAl ?_ _));exact BK982.out) hb)
   have n2_:=aMk (below_step (by repeat (first|(with_reducible first|exact HB.out|apply bwA|apply bwN|apply bw1|refine below_set ?_ GE982.out)|exact HB.out)) hb)
   clear HO987
   clear BK982
   clear HB
   have HO987:=n0_
   have BK982:=n1_
   have HB:=n2_
   clear n0_ n1_ n2_
   (try clear hb)
   (try clear hb2)
   (try clear hk)
   (try clear hi)
   obtain ⟨Ao28,co28,eo28⟩:=Kd.R_slice HO987.out
   (first|subst eo28|(injection eo28 with f1_ f2_ f3_;have f4_:=f1_.symm;have f5_:=f3_.symm;clear f1_ f2_ f3_;subst f4_;subst f5_))
   refine hK.out _ _ ⟨(bCe BK982.out 0).trans rfl,(bCe BK982.out 1).trans rfl,(bCe BK982.out 2).trans rfl,(bCe BK982.out 3).trans rfl,(bCe BK982.out 4).trans rfl,(bCe BK982.out 5).trans rfl,(bCe BK982.out 6).trans rfl,(bCe BK982.out 7).trans rfl,(bCe BK982.out 8).trans rfl⟩ (fun hHeld => ?_)
   clear hK K
   refine norm_ (a':=?_) ?_ ?_
   rotate_left
   ·show Act.put _ (some 32) _ = _
    simp only [Act.put,List.setIfInBounds_toArray,List.set_cons_zero,List.set_cons_succ,i64_w,i32_w]
    rfl
   refine one_ (i:=5) (N:=some 34) #[true,true,true,true,true,true,false,false,false,false,false] rfl rfl (one_of HT_.out (by kernel_rfl)) (by decide) (fun K hK => ?_)
   refine goes_ Try.func52 (by kernel_rfl) rfl #[.slice Ao28 t985.length co28,.agg #[.int .i64 t988,.string t989,.int .i64 t990,.int .i64 t991,.int .i64 t992,.int .i64 t993,.int .i64 t994,.int .i64 t995,.int .i64 t996],.int .i64 a2] (by rfl) rfl rfl (by (try simp only [List.map_toArray,List.map_cons,List.map_nil]);first | done | rfl|(simp only [List.length_drop,List.length_take];rfl)) ?_
   with_reducible refine (spec_FlowOpen.calls k (fun k_ => some k_ = (.slice Ao28 t985.length co28 : Value).ownBlock) (.slice Ao28 t985.length co28) t985 t988 t989 t990 t991 t992 t993 t994 t995 t996 a2 t997 t1000 w _ ?side1 ?side2 A16.out).mono ?_
   (case side1 => repeat (first|(with_reducible first|exact HB.out|apply bwA|apply bwN|apply bw1|refine below_set ?_ GE982.out)|exact HB.out))
   (case side2 => exact Kd.R_tight rfl HO987.out)
   rintro e w29 ⟨v998,rfl,ho0,hb,hkp⟩
   refine ⟨_,rfl,?_⟩
   have n0_:=aMk (blk_kept (by (with_reducible repeat (first|refine bDn ?_ _|refine bDr ?_|refine bAl ?_ _));exact BK982.out) hkp (fun hs_ => (fun e_ => (Kd.R_ne HO987.out BK982.out (by decide)) e_) hs_))
   have n1_:=aMk (Kd.R_mono (ok':=fun k_ => True) ho0 (fun k_ hk_ => trivial))
   have n2_:=aMk (hb)
   clear BK982
   clear HB
   clear HO987
   have BK982:=n0_
   have HO999:=n1_
   have HB:=n2_
   clear n0_ n1_ n2_
   (try clear hb)
   (try clear hkp)
   (try clear ho0)
   refine hK.out _ _ ⟨(bCe BK982.out 0).trans rfl,(bCe BK982.out 1).trans rfl,(bCe BK982.out 2).trans rfl,(bCe BK982.out 3).trans rfl,(bCe BK982.out 4).trans rfl,(bCe BK982.out 5).trans rfl,(bCe BK982.out 6).trans rfl,(bCe BK982.out 7).trans rfl,(bCe BK982.out 8).trans rfl⟩ (fun hHeld => ?_)
   clear hK K
   refine norm_ (a':=?_) ?_ ?_
   rotate_left
   ·show Act.put _ (some 34) _ = _
    simp only [Act.put,List.setIfInBounds_toArray,List.set_cons_zero,List.set_cons_succ,i64_w,i32_w]
    rfl
   refine pure_ (i:=6) (N:=some 28) (v:=?_) (a':=?_) #[true,true,true,true,true,true,true,false,false,false,false] rfl rfl (any_of HT_.out (by kernel_rfl)) (fun _ _ _ h => h) (Or.inl ⟨by rfl,?_⟩) ?_ ?_
   rotate_left
   ·intro w'
    go_simp
    with_reducible rfl
   rotate_left
   ·simp only [Act.put,List.setIfInBounds_toArray,List.set_cons_zero,List.set_cons_succ,i64_w,i32_w]
    rfl
   refine pure_ (i:=7) (N:=some 35) (v:=?_) (a':=?_) #[true,true,true,true,true,true,true,true,false,false,false] rfl rfl (any_of HT_.out (by kernel_rfl)) (fun _ _ _ h => h) (Or.inl ⟨by rfl,?_⟩) ?_ ?_
   rotate_left
   ·intro w'
    go_simp
    with_reducible rfl
   rotate_left
   ·simp only [Act.put,List.setIfInBounds_toArray,List.set_cons_zero,List.set_cons_succ,i64_w,i32_w]
    rfl
   refine pure_ (i:=8) (N:=some 36) (v:=?_) (a':=?_) #[true,true,true,true,true,true,true,true,true,false,false] rfl rfl (any_of HT_.out (by kernel_rfl)) (fun _ _ _ h => h) (Or.inl ⟨by rfl,?_⟩) ?_ ?_
   rotate_left
   ·intro w'
    go_simp
    with_reducible rfl
   rotate_left
   ·simp only [Act.put,List.setIfInBounds_toArray,List.set_cons_zero,List.set_cons_succ,i64_w,i32_w]
    rfl
   refine pure_ (i:=9) (N:=some 8) (v:=?_) (a':=?_) #[true,true,true,true,true,true,true,true,true,true,false] rfl rfl (any_of HT_.out (by kernel_rfl)) (fun _ _ _ h => h) (Or.inl ⟨by rfl,?_⟩) ?_ ?_
   rotate_left
   ·intro w'
    go_simp
    with_reducible rfl
   rotate_left
   ·simp only [Act.put,List.setIfInBounds_toArray,List.set_cons_zero,List.set_cons_succ,i64_w,i32_w]
    rfl
   refine pure_ (i:=10) (N:=some 9) (v:=?_) (a':=?_) #[true,true,true,true,true,true,true,true,true,true,true] rfl rfl (any_of HT_.out (by kernel_rfl)) (fun _ _ _ h => h) (Or.inl ⟨by rfl,?_⟩) ?_ ?_
   rotate_left
   ·intro w'
    go_simp
    with_reducible rfl
   rotate_left
   ·simp only [Act.put,List.setIfInBounds_toArray,List.set_cons_zero,List.set_cons_succ,i64_w,i32_w]
    rfl
   refine done_ (done_of HT_.out (by kernel_rfl)) ?_
   go_upto_region 11 with (first|((with_reducible refine gate_callee (f:=28) rfl ?_);refine goesL_ (some 38) rfl rfl Try.func28 (by kernel_rfl) rfl #[.slice A0 l0.length c0] rfl (by (try simp only [List.map_toArray,List.map_cons,List.map_nil]);first | done | rfl|(simp only [List.length_drop,List.length_take];rfl)) ?_;(with_reducible refine (laws_toFlowS.calls k _ _ l0 t1001 _ ?side1 ?side2 A17.out).mono ?_);(case side1 => repeat (first|exact (Kd.C_below HR0.out HB.out)|(with_reducible refine Kd.C_alloc ?_ _)|(with_reducible refine Kd.C_drewN ?_ _)|(with_reducible refine Kd.C_drew ?_)));(case side2 => exact HC0.out);rintro e w30 ⟨v1002,rfl,ho0,hb⟩;refine ⟨_,rfl,?_⟩;have n0_:=aMk (Kd.R_elder' (by (with_reducible repeat (first|apply Kd.R_alloc|apply Kd.R_drewN|apply Kd.R_drew));exact HO999.out) (Kd.R_base ho0) hb);have n1_:=aMk (Kd.R_lower (Kd.R_new' ho0 (Kd.R_lt (by (with_reducible repeat (first|apply Kd.R_alloc|apply Kd.R_drewN|apply Kd.R_drew));exact HO999.out))) (below_size (by repeat (first|(with_reducible first|exact HB.out|apply bwA|apply bwN|apply bw1|refine below_set ?_ GE982.out)|exact HB.out))));have n2_:=aMk (blk_below (g:=gb982) (o:=.cells #[.int .i64 a1_0,.string a1_1,.int .i64 a1_2,.int .i64 a1_3,.int .i64 a1_4,.int .i64 a1_5,.int .i64 a1_6,.int .i64 a1_7,.int .i64 a1_8] 68 (0,0)) (by (with_reducible repeat (first|refine bDn ?_ _|refine bDr ?_|refine bAl ?_ _));exact BK982.out) hb);have n3_:=aMk (below_step (by repeat (first|(with_reducible first|exact HB.out|apply bwA|apply bwN|apply bw1|refine below_set ?_ GE982.out)|exact HB.out)) hb);clear HO999;clear BK982;clear HB;have HO999:=n0_;have HO1003:=n1_;have BK982:=n2_;have HB:=n3_;clear n0_ n1_ n2_ n3_;(try clear hb);(try clear hb2);(try clear hk);(try clear hi);(try clear ho0);have hcz31_0 : w30.cell? ⟨gb982,0,none⟩ = some (.int .i64 a1_0):=(bCe BK982.out 0).trans rfl;have hcz31_1 : w30.cell? ⟨gb982,1,none⟩ = some (.string a1_1):=(bCe BK982.out 1).trans rfl;have hcz31_2 : w30.cell? ⟨gb982,2,none⟩ = some (.int .i64 a1_2):=(bCe BK982.out 2).trans rfl;have hcz31_3 : w30.cell? ⟨gb982,3,none⟩ = some (.int .i64 a1_3):=(bCe BK982.out 3).trans rfl;have hcz31_4 : w30.cell? ⟨gb982,4,none⟩ = some (.int .i64 a1_4):=(bCe BK982.out 4).trans rfl;have hcz31_5 : w30.cell? ⟨gb982,5,none⟩ = some (.int .i64 a1_5):=(bCe BK982.out 5).trans rfl;have hcz31_6 : w30.cell? ⟨gb982,6,none⟩ = some (.int .i64 a1_6):=(bCe BK982.out 6).trans rfl;have hcz31_7 : w30.cell? ⟨gb982,7,none⟩ = some (.int .i64 a1_7):=(bCe BK982.out 7).trans rfl;have hcz31_8 : w30.cell? ⟨gb982,8,none⟩ = some (.int .i64 a1_8):=(bCe BK982.out 8).trans rfl;have hfz31_0:=bFr BK982.out 0;have hfz31_1:=bFr BK982.out 1;have hfz31_2:=bFr BK982.out 2;have hfz31_3:=bFr BK982.out 3;have hfz31_4:=bFr BK982.out 4;have hfz31_5:=bFr BK982.out 5;have hfz31_6:=bFr BK982.out 6;have hfz31_7:=bFr BK982.out 7;have hfz31_8:=bFr BK982.out 8)|((with_reducible refine gate_callee (f:=53) rfl ?_);refine goesL_ (some 42) rfl rfl Try.func53 (by kernel_rfl) rfl #[.agg #[.int .i64 a1_0,.string a1_1,.int .i64 a1_2,.int .i64 a1_3,.int .i64 a1_4,.int .i64 a1_5,.int .i64 a1_6,.int .i64 a1_7,.int .i64 a1_8]] rfl (by (try simp only [List.map_toArray,List.map_cons,List.map_nil]);first | done | rfl|(simp only [List.length_drop,List.length_take];rfl)) ?_;(with_reducible refine (laws_toFlow.calls a1_0 a1_1 a1_2 a1_3 a1_4 a1_5 a1_6 a1_7 a1_8 t1004 t1005 t1006 t1007 t1008 t1009 t1010 t1011 t1012 _ A18.out).mono ?_);rintro e w32 ⟨rfl,hb⟩;refine ⟨_,rfl,?_⟩;have n0_:=aMk (Kd.R_below (by (with_reducible repeat (first|apply Kd.R_alloc|apply Kd.R_drewN|apply Kd.R_drew));exact HO999.out) hb);have n1_:=aMk (Kd.R_below (by (with_reducible repeat (first|apply Kd.R_alloc|apply Kd.R_drewN|apply Kd.R_drew));exact HO1003.out) hb);have n2_:=aMk (blk_below (g:=gb982) (o:=.cells #[.int .i64 a1_0,.string a1_1,.int .i64 a1_2,.int .i64 a1_3,.int .i64 a1_4,.int .i64 a1_5,.int .i64 a1_6,.int .i64 a1_7,.int .i64 a1_8] 68 (0,0)) (by (with_reducible repeat (first|refine bDn ?_ _|refine bDr ?_|refine bAl ?_ _));exact BK982.out) hb);have n3_:=aMk (below_step (by repeat (first|(with_reducible first|exact HB.out|apply bwA|apply bwN|apply bw1|refine below_set ?_ GE982.out)|exact HB.out)) hb);clear HO999;clear HO1003;clear BK982;clear HB;have HO999:=n0_;have HO1003:=n1_;have BK982:=n2_;have HB:=n3_;clear n0_ n1_ n2_ n3_;(try clear hb);(try clear hb2);(try clear hk);(try clear hi);obtain ⟨Ao33,co33,eo33⟩:=Kd.R_slice HO1003.out;subst eo33)|((with_reducible refine gate_callee (f:=54) rfl ?_);refine goesL_ (some 44) rfl rfl Try.func54 (by kernel_rfl) rfl #[.slice Ao33 t1001.length co33,.agg #[.int .i64 t1004,.string t1005,.int .i64 t1006,.int .i64 t1007,.int .i64 t1008,.int .i64 t1009,.int .i64 t1010,.int .i64 t1011,.int .i64 t1012],.int .i64 a2] rfl (by (try simp only [List.map_toArray,List.map_cons,List.map_nil]);first | done | rfl|(simp only [List.length_drop,List.length_take];rfl)) ?_;(with_reducible refine (impl_FlowOpen.calls k _ _ t1001 t1004 t1005 t1006 t1007 t1008 t1009 t1010 t1011 t1012 a2 t1013 t1016 _ ?side1 ?side2 A19.out).mono ?_);(case side1 => repeat (first|exact (Kd.R_reads' HO1003.out).2.2|(with_reducible refine Kd.C_alloc ?_ _)|(with_reducible refine Kd.C_drewN ?_ _)|(with_reducible refine Kd.C_drew ?_)));(case side2 => exact (Kd.R_reads' HO1003.out).2.1);rintro e w34 ⟨v1014,rfl,ho0,hb⟩;refine ⟨_,rfl,?_⟩;have n0_:=aMk (Kd.R_elder' (by (with_reducible repeat (first|apply Kd.R_alloc|apply Kd.R_drewN|apply Kd.R_drew));exact HO999.out) (Kd.R_base ho0) hb);have n1_:=aMk (Kd.R_elder' (by (with_reducible repeat (first|apply Kd.R_alloc|apply Kd.R_drewN|apply Kd.R_drew));exact HO1003.out) (Kd.R_base ho0) hb);have n2_:=aMk (Kd.R_lower (Kd.R_new' (Kd.R_new' ho0 (Kd.R_lt (by (with_reducible repeat (first|apply Kd.R_alloc|apply Kd.R_drewN|apply Kd.R_drew));exact HO999.out))) (Kd.R_lt (by (with_reducible repeat (first|apply Kd.R_alloc|apply Kd.R_drewN|apply Kd.R_drew));exact HO1003.out))) (below_size (by repeat (first|(with_reducible first|exact HB.out|apply bwA|apply bwN|apply bw1|refine below_set ?_ GE982.out)|exact HB.out))));have n3_:=aMk (blk_below (g:=gb982) (o:=.cells #[.int .i64 a1_0,.string a1_1,.int .i64 a1_2,.int .i64 a1_3,.int .i64 a1_4,.int .i64 a1_5,.int .i64 a1_6,.int .i64 a1_7,.int .i64 a1_8] 68 (0,0)) (by (with_reducible repeat (first|refine bDn ?_ _|refine bDr ?_|refine bAl ?_ _));exact BK982.out) hb);have n4_:=aMk (below_step (by repeat (first|(with_reducible first|exact HB.out|apply bwA|apply bwN|apply bw1|refine below_set ?_ GE982.out)|exact HB.out)) hb);clear HO999;clear HO1003;clear BK982;clear HB;have HO999:=n0_;have HO1003:=n1_;have HO1015:=n2_;have BK982:=n3_;have HB:=n4_;clear n0_ n1_ n2_ n3_ n4_;(try clear hb);(try clear hb2);(try clear hk);(try clear hi);(try clear ho0)))
   (try simp only [Act.put,List.setIfInBounds_toArray,List.set_cons_zero,List.set_cons_succ])
   go_cut [55] (fun v55 wc => ∃ (kq : Nat) (x55_19 : Bool),v55 = .bool x55_19 ∧ Aside0 (laws_FnExactFlowOpen.j0 kq l0 a2 t997 t1000 t1001 t1013 t1016 x55_19 a1_0 a1_1 a1_2 a1_3 a1_4 a1_5 a1_6 a1_7 a1_8 = some r) ∧ Aside0 (kq ≤ k) ∧ Aside0 (Kd.R k71 71 wc w.heap.size (fun k_ => some k_ ≠ ((.slice Ao33 t1001.length co33) : Value).ownBlock ∧ some k_ ≠ (v1014 : Value).ownBlock) v998 t997) ∧ Aside0 (Kd.R k71 71 wc w.heap.size (fun k_ => some k_ ≠ (v998 : Value).ownBlock ∧ some k_ ≠ (v1014 : Value).ownBlock) (.slice Ao33 t1001.length co33) t1001) ∧ Aside0 (Kd.R k71 71 wc w.heap.size (fun k_ => some k_ ≠ (v998 : Value).ownBlock ∧ some k_ ≠ ((.slice Ao33 t1001.length co33) : Value).ownBlock) v1014 t1013) ∧ Aside0 (wc.heap[gb982]? = some (.cells #[.int .i64 a1_0,.string a1_1,.int .i64 a1_2,.int .i64 a1_3,.int .i64 a1_4,.int .i64 a1_5,.int .i64 a1_6,.int .i64 a1_7,.int .i64 a1_8] 68 (0,0))) ∧ Aside0 (Below w.heap.size w wc))
   case first =>
    have H:=HC20.out
    clear HC20
    replace H:=Option.bind_eq_some_iff.mp H
    obtain ⟨t1017,A350,H⟩:=H
    replace H : (if t1017 = true then (laws_FnExactFlowOpen.j0 k l0 a2 t997 t1000 t1001 t1013 t1016 (t1016 != t1000) a1_0 a1_1 a1_2 a1_3 a1_4 a1_5 a1_6 a1_7 a1_8) else (laws_FnExactFlowOpen.j0 k l0 a2 t997 t1000 t1001 t1013 t1016 true a1_0 a1_1 a1_2 a1_3 a1_4 a1_5 a1_6 a1_7 a1_8)) = some r:=H
    have A35:=aMk A350
    clear A350
    by_cases c36 : t1017 = true
    ·subst c36
     have H1 : (laws_FnExactFlowOpen.j0 k l0 a2 t997 t1000 t1001 t1013 t1016 (t1016 != t1000) a1_0 a1_1 a1_2 a1_3 a1_4 a1_5 a1_6 a1_7 a1_8) = some r:=by rw [if_pos rfl] at H;exact H
     clear H
     have H:=H1
     clear H1
     have H':=aMk H
     clear H
     obtain ⟨Ao37,co37,eo37⟩:=Kd.R_slice HO1015.out
     subst eo37
     obtain ⟨Ao38,co38,eo38⟩:=Kd.R_slice HO999.out
     subst eo38
     go_wp2_with (first|((with_reducible refine gate_callee (f:=30) rfl ?_);refine goesL_ (some 49) rfl rfl Try.func30 (by kernel_rfl) rfl #[.slice Ao37 t1013.length co37,.slice Ao38 t997.length co38] rfl (by (try simp only [List.map_toArray,List.map_cons,List.map_nil]);first | done | rfl|(simp only [List.length_drop,List.length_take];rfl)) ?_;(with_reducible refine (laws_eqFlowS.calls k _ _ t1013 _ _ t997 true _ ?side1 ?side2 ?side3 ?side4 A35.out).mono ?_);(case side1 => repeat (first|exact (Kd.R_reads' HO1015.out).2.2|(with_reducible refine Kd.C_alloc ?_ _)|(with_reducible refine Kd.C_drewN ?_ _)|(with_reducible refine Kd.C_drew ?_)));(case side2 => exact (Kd.R_reads' HO1015.out).2.1);(case side3 => repeat (first|exact (Kd.R_reads' HO999.out).2.2|(with_reducible refine Kd.C_alloc ?_ _)|(with_reducible refine Kd.C_drewN ?_ _)|(with_reducible refine Kd.C_drew ?_)));(case side4 => exact (Kd.R_reads' HO999.out).2.1);rintro e w39 ⟨rfl,hb⟩;refine ⟨_,rfl,?_⟩;have n0_:=aMk (Kd.R_below (by (with_reducible repeat (first|apply Kd.R_alloc|apply Kd.R_drewN|apply Kd.R_drew));exact HO999.out) hb);have n1_:=aMk (Kd.R_below (by (with_reducible repeat (first|apply Kd.R_alloc|apply Kd.R_drewN|apply Kd.R_drew));exact HO1003.out) hb);have n2_:=aMk (Kd.R_below (by (with_reducible repeat (first|apply Kd.R_alloc|apply Kd.R_drewN|apply Kd.R_drew));exact HO1015.out) hb);have n3_:=aMk (blk_below (g:=gb982) (o:=.cells #[.int .i64 a1_0,.string a1_1,.int .i64 a1_2,.int .i64 a1_3,.int .i64 a1_4,.int .i64 a1_5,.int .i64 a1_6,.int .i64 a1_7,.int .i64 a1_8] 68 (0,0)) (by (with_reducible repeat (first|refine bDn ?_ _|refine bDr ?_|refine bAl ?_ _));exact BK982.out) hb);have n4_:=aMk (below_step (by repeat (first|(with_reducible first|exact HB.out|apply bwA|apply bwN|apply bw1|refine below_set ?_ GE982.out)|exact HB.out)) hb);clear HO999;clear HO1003;clear HO1015;clear BK982;clear HB;have HO999:=n0_;have HO1003:=n1_;have HO1015:=n2_;have BK982:=n3_;have HB:=n4_;clear n0_ n1_ n2_ n3_ n4_;(try clear hb);(try clear hb2);(try clear hk);(try clear hi)))
     go_meet
     case rel => exact ⟨_,((t1016 != t1000)),(by first | rfl|(simp;done)|(simp [*];done)|(simp [ne_nil_b];done)|(simp [ne_nil_b, *];done)),H',⟨by first | omega|exact Nat.le_refl _⟩,⟨by (with_reducible repeat (first|apply Kd.R_alloc|apply Kd.R_drewN|apply Kd.R_drew));exact Kd.R_mono HO999.out (fun _ hk => ⟨hk.1.2,hk.2⟩)⟩,⟨by (with_reducible repeat (first|apply Kd.R_alloc|apply Kd.R_drewN|apply Kd.R_drew));exact Kd.R_mono HO1003.out (fun _ hk => ⟨hk.1.2,hk.2⟩)⟩,⟨by (with_reducible repeat (first|apply Kd.R_alloc|apply Kd.R_drewN|apply Kd.R_drew));exact Kd.R_mono HO1015.out (fun _ hk => ⟨hk.1.2,hk.2⟩)⟩,⟨by (with_reducible repeat (first|refine bDn ?_ _|refine bDr ?_|refine bAl ?_ _));exact BK982.out⟩,⟨by repeat (first|(with_reducible first|exact HB.out|apply bwA|apply bwN|apply bw1|refine below_set ?_ GE982.out)|exact HB.out)⟩⟩
    ·replace c36:=Bool.eq_false_iff.mpr c36
     subst c36
     have H1 : (laws_FnExactFlowOpen.j0 k l0 a2 t997 t1000 t1001 t1013 t1016 true a1_0 a1_1 a1_2 a1_3 a1_4 a1_5 a1_6 a1_7 a1_8) = some r:=by rw [if_neg (show ¬ (false = true) by decide)] at H;exact H
     clear H
     have H:=H1
     clear H1
     have H':=aMk H
     clear H
     obtain ⟨Ao40,co40,eo40⟩:=Kd.R_slice HO1015.out
     subst eo40
     obtain ⟨Ao41,co41,eo41⟩:=Kd.R_slice HO999.out
     subst eo41
     go_wp2_with (first|((with_reducible refine gate_callee (f:=30) rfl ?_);refine goesL_ (some 49) rfl rfl Try.func30 (by kernel_rfl) rfl #[.slice Ao40 t1013.length co40,.slice Ao41 t997.length co41] rfl (by (try simp only [List.map_toArray,List.map_cons,List.map_nil]);first | done | rfl|(simp only [List.length_drop,List.length_take];rfl)) ?_;(with_reducible refine (laws_eqFlowS.calls k _ _ t1013 _ _ t997 false _ ?side1 ?side2 ?side3 ?side4 A35.out).mono ?_);(case side1 => repeat (first|exact (Kd.R_reads' HO1015.out).2.2|(with_reducible refine Kd.C_alloc ?_ _)|(with_reducible refine Kd.C_drewN ?_ _)|(with_reducible refine Kd.C_drew ?_)));(case side2 => exact (Kd.R_reads' HO1015.out).2.1);(case side3 => repeat (first|exact (Kd.R_reads' HO999.out).2.2|(with_reducible refine Kd.C_alloc ?_ _)|(with_reducible refine Kd.C_drewN ?_ _)|(with_reducible refine Kd.C_drew ?_)));(case side4 => exact (Kd.R_reads' HO999.out).2.1);rintro e w42 ⟨rfl,hb⟩;refine ⟨_,rfl,?_⟩;have n0_:=aMk (Kd.R_below (by (with_reducible repeat (first|apply Kd.R_alloc|apply Kd.R_drewN|apply Kd.R_drew));exact HO999.out) hb);have n1_:=aMk (Kd.R_below (by (with_reducible repeat (first|apply Kd.R_alloc|apply Kd.R_drewN|apply Kd.R_drew));exact HO1003.out) hb);have n2_:=aMk (Kd.R_below (by (with_reducible repeat (first|apply Kd.R_alloc|apply Kd.R_drewN|apply Kd.R_drew));exact HO1015.out) hb);have n3_:=aMk (blk_below (g:=gb982) (o:=.cells #[.int .i64 a1_0,.string a1_1,.int .i64 a1_2,.int .i64 a1_3,.int .i64 a1_4,.int .i64 a1_5,.int .i64 a1_6,.int .i64 a1_7,.int .i64 a1_8] 68 (0,0)) (by (with_reducible repeat (first|refine bDn ?_ _|refine bDr ?_|refine bAl ?_ _));exact BK982.out) hb);have n4_:=aMk (below_step (by repeat (first|(with_reducible first|exact HB.out|apply bwA|apply bwN|apply bw1|refine below_set ?_ GE982.out)|exact HB.out)) hb);clear HO999;clear HO1003;clear HO1015;clear BK982;clear HB;have HO999:=n0_;have HO1003:=n1_;have HO1015:=n2_;have BK982:=n3_;have HB:=n4_;clear n0_ n1_ n2_ n3_ n4_;(try clear hb);(try clear hb2);(try clear hk);(try clear hi)))
     go_meet
     case rel => exact ⟨_,(true),(by first | rfl|(simp;done)|(simp [*];done)|(simp [ne_nil_b];done)|(simp [ne_nil_b, *];done)),H',⟨by first | omega|exact Nat.le_refl _⟩,⟨by (with_reducible repeat (first|apply Kd.R_alloc|apply Kd.R_drewN|apply Kd.R_drew));exact Kd.R_mono HO999.out (fun _ hk => ⟨hk.1.2,hk.2⟩)⟩,⟨by (with_reducible repeat (first|apply Kd.R_alloc|apply Kd.R_drewN|apply Kd.R_drew));exact Kd.R_mono HO1003.out (fun _ hk => ⟨hk.1.2,hk.2⟩)⟩,⟨by (with_reducible repeat (first|apply Kd.R_alloc|apply Kd.R_drewN|apply Kd.R_drew));exact Kd.R_mono HO1015.out (fun _ hk => ⟨hk.1.2,hk.2⟩)⟩,⟨by (with_reducible repeat (first|refine bDn ?_ _|refine bDr ?_|refine bAl ?_ _));exact BK982.out⟩,⟨by repeat (first|(with_reducible first|exact HB.out|apply bwA|apply bwN|apply bw1|refine below_set ?_ GE982.out)|exact HB.out)⟩⟩
   case rest =>
    clear HC20
    try clear c1
    try clear c2
    try clear p2
    try clear c3
    try clear c5
    try clear c5b0
    try clear c9
    try clear c9b0
    try clear c14
    try clear c26
    try clear c28
    try clear c30
    try clear c36
    try clear hcz12_0
    try clear hcz12_1
    try clear hcz12_2
    try clear hcz12_3
    try clear hcz12_4
    try clear hcz12_5
    try clear hcz12_6
    try clear hcz12_7
    try clear hcz12_8
    try clear hcz23_0
    try clear hcz23_1
    try clear hcz23_2
    try clear hcz23_3
    try clear hcz23_4
    try clear hcz23_5
    try clear hcz23_6
    try clear hcz23_7
    try clear hcz23_8
    try clear hcz31_0
    try clear hcz31_1
    try clear hcz31_2
    try clear hcz31_3
    try clear hcz31_4
    try clear hcz31_5
    try clear hcz31_6
    try clear hcz31_7
    try clear hcz31_8
    try clear hfz12_0
    try clear hfz12_1
    try clear hfz12_2
    try clear hfz12_3
    try clear hfz12_4
    try clear hfz12_5
    try clear hfz12_6
    try clear hfz12_7
    try clear hfz12_8
    try clear hfz23_0
    try clear hfz23_1
    try clear hfz23_2
    try clear hfz23_3
    try clear hfz23_4
    try clear hfz23_5
    try clear hfz23_6
    try clear hfz23_7
    try clear hfz23_8
    try clear hfz31_0
    try clear hfz31_1
    try clear hfz31_2
    try clear hfz31_3
    try clear hfz31_4
    try clear hfz31_5
    try clear hfz31_6
    try clear hfz31_7
    try clear hfz31_8
    obtain ⟨kq,x55_19,rfl,HA,HJ19,HO_8,HO_10,HO_11,BK982,HB⟩:=hcut
    cases kq with
    | zero => exact absurd HA.out (by simp [laws_FnExactFlowOpen.j0])
    | succ kj19 =>
     have H:=HA.out
     clear HA
     simp only [laws_FnExactFlowOpen.j0] at H
     by_cases c43 : x55_19 = true
     ·subst c43
      have H1 : (some false) = some r:=by rw [if_pos rfl] at H;exact H
      clear H
      have H:=H1
      clear H1
      obtain rfl:=Option.some.inj H
      go_wp2
      go_ret
      exact ⟨by first | rfl|(simp [errW_none,errW_some] <;> rfl)|(simp [*,errW_none,errW_some] <;> rfl),by repeat (first|(with_reducible first|exact HB.out|apply bwA|apply bwN|apply bw1|refine below_set ?_ GE982.out)|exact HB.out)⟩
     ·replace c43:=Bool.eq_false_iff.mpr c43
      subst c43
      have H1 : ((laws_toFlowS.f kj19 l0).bind fun t1018 => ((laws_eqFlowS.f kj19 t1001 t1018).bind fun t1021 => (if t1021 = true then ((laws_markFlowS.f kj19 t1001 1).bind fun bt1022 => (if bt1022.1 < 0 then (laws_FnExactFlowOpen.j1 kj19 l0 a2 t997 t1000 t1013 true a1_0 a1_1 a1_2 a1_3 a1_4 a1_5 a1_6 a1_7 a1_8) else ((laws_eqFlowS.f kj19 t1013 t997).bind fun t1024 => (if t1024 = true then (laws_FnExactFlowOpen.j1 kj19 l0 a2 t997 t1000 t1013 (t1016 != t1000) a1_0 a1_1 a1_2 a1_3 a1_4 a1_5 a1_6 a1_7 a1_8) else (laws_FnExactFlowOpen.j1 kj19 l0 a2 t997 t1000 t1013 true a1_0 a1_1 a1_2 a1_3 a1_4 a1_5 a1_6 a1_7 a1_8))))) else (some false)))) = some r:=by rw [if_neg (show ¬ (false = true) by decide)] at H;exact H
      clear H
      have H:=H1
      clear H1
      replace H:=Option.bind_eq_some_iff.mp H
      obtain ⟨t1018,A440,H⟩:=H
      replace H : ((laws_eqFlowS.f kj19 t1001 t1018).bind fun t1021 => (if t1021 = true then ((laws_markFlowS.f kj19 t1001 1).bind fun bt1022 => (if bt1022.1 < 0 then (laws_FnExactFlowOpen.j1 kj19 l0 a2 t997 t1000 t1013 true a1_0 a1_1 a1_2 a1_3 a1_4 a1_5 a1_6 a1_7 a1_8) else ((laws_eqFlowS.f kj19 t1013 t997).bind fun t1024 => (if t1024 = true then (laws_FnExactFlowOpen.j1 kj19 l0 a2 t997 t1000 t1013 (t1016 != t1000) a1_0 a1_1 a1_2 a1_3 a1_4 a1_5 a1_6 a1_7 a1_8) else (laws_FnExactFlowOpen.j1 kj19 l0 a2 t997 t1000 t1013 true a1_0 a1_1 a1_2 a1_3 a1_4 a1_5 a1_6 a1_7 a1_8))))) else (some false))) = some r:=H
      have A44:=aMk A440
      clear A440
      replace H:=Option.bind_eq_some_iff.mp H
      obtain ⟨t1021,A450,H⟩:=H
      replace H : (if t1021 = true then ((laws_markFlowS.f kj19 t1001 1).bind fun bt1022 => (if bt1022.1 < 0 then (laws_FnExactFlowOpen.j1 kj19 l0 a2 t997 t1000 t1013 true a1_0 a1_1 a1_2 a1_3 a1_4 a1_5 a1_6 a1_7 a1_8) else ((laws_eqFlowS.f kj19 t1013 t997).bind fun t1024 => (if t1024 = true then (laws_FnExactFlowOpen.j1 kj19 l0 a2 t997 t1000 t1013 (t1016 != t1000) a1_0 a1_1 a1_2 a1_3 a1_4 a1_5 a1_6 a1_7 a1_8) else (laws_FnExactFlowOpen.j1 kj19 l0 a2 t997 t1000 t1013 true a1_0 a1_1 a1_2 a1_3 a1_4 a1_5 a1_6 a1_7 a1_8))))) else (some false)) = some r:=H
      have A45:=aMk A450
      clear A450
      by_cases c46 : t1021 = true
      ·subst c46
       have H1 : ((laws_markFlowS.f kj19 t1001 1).bind fun bt1022 => (if bt1022.1 < 0 then (laws_FnExactFlowOpen.j1 kj19 l0 a2 t997 t1000 t1013 true a1_0 a1_1 a1_2 a1_3 a1_4 a1_5 a1_6 a1_7 a1_8) else ((laws_eqFlowS.f kj19 t1013 t997).bind fun t1024 => (if t1024 = true then (laws_FnExactFlowOpen.j1 kj19 l0 a2 t997 t1000 t1013 (t1016 != t1000) a1_0 a1_1 a1_2 a1_3 a1_4 a1_5 a1_6 a1_7 a1_8) else (laws_FnExactFlowOpen.j1 kj19 l0 a2 t997 t1000 t1013 true a1_0 a1_1 a1_2 a1_3 a1_4 a1_5 a1_6 a1_7 a1_8))))) = some r:=by rw [if_pos rfl] at H;exact H
       clear H
       have H:=H1
       clear H1
       replace H:=Option.bind_eq_some_iff.mp H
       obtain ⟨⟨t1022,t1023⟩,A470,H⟩:=H
       replace H : (if t1022 < 0 then (laws_FnExactFlowOpen.j1 kj19 l0 a2 t997 t1000 t1013 true a1_0 a1_1 a1_2 a1_3 a1_4 a1_5 a1_6 a1_7 a1_8) else ((laws_eqFlowS.f kj19 t1013 t997).bind fun t1024 => (if t1024 = true then (laws_FnExactFlowOpen.j1 kj19 l0 a2 t997 t1000 t1013 (t1016 != t1000) a1_0 a1_1 a1_2 a1_3 a1_4 a1_5 a1_6 a1_7 a1_8) else (laws_FnExactFlowOpen.j1 kj19 l0 a2 t997 t1000 t1013 true a1_0 a1_1 a1_2 a1_3 a1_4 a1_5 a1_6 a1_7 a1_8)))) = some r:=H
       have A47:=aMk A470
       clear A470
       have HC48:=aMk H
       clear H
       go_upto_region 17 with (first|((with_reducible refine gate_callee (f:=28) rfl ?_);refine goesL_ (some 58) rfl rfl Try.func28 (by kernel_rfl) rfl #[.slice A0 l0.length c0] rfl (by (try simp only [List.map_toArray,List.map_cons,List.map_nil]);first | done | rfl|(simp only [List.length_drop,List.length_take];rfl)) ?_;(with_reducible refine (laws_toFlowS.calls kj19 _ _ l0 t1018 _ ?side1 ?side2 A44.out).mono ?_);(case side1 => repeat (first|exact (Kd.C_below HR0.out HB.out)|(with_reducible refine Kd.C_alloc ?_ _)|(with_reducible refine Kd.C_drewN ?_ _)|(with_reducible refine Kd.C_drew ?_)));(case side2 => exact HC0.out);rintro e w49 ⟨v1019,rfl,ho0,hb⟩;refine ⟨_,rfl,?_⟩;have n0_:=aMk (Kd.R_elder' (by (with_reducible repeat (first|apply Kd.R_alloc|apply Kd.R_drewN|apply Kd.R_drew));exact HO_8.out) (Kd.R_base ho0) hb);have n1_:=aMk (Kd.R_elder' (by (with_reducible repeat (first|apply Kd.R_alloc|apply Kd.R_drewN|apply Kd.R_drew));exact HO_10.out) (Kd.R_base ho0) hb);have n2_:=aMk (Kd.R_elder' (by (with_reducible repeat (first|apply Kd.R_alloc|apply Kd.R_drewN|apply Kd.R_drew));exact HO_11.out) (Kd.R_base ho0) hb);have n3_:=aMk (Kd.R_lower (Kd.R_new' (Kd.R_new' (Kd.R_new' ho0 (Kd.R_lt (by (with_reducible repeat (first|apply Kd.R_alloc|apply Kd.R_drewN|apply Kd.R_drew));exact HO_8.out))) (Kd.R_lt (by (with_reducible repeat (first|apply Kd.R_alloc|apply Kd.R_drewN|apply Kd.R_drew));exact HO_10.out))) (Kd.R_lt (by (with_reducible repeat (first|apply Kd.R_alloc|apply Kd.R_drewN|apply Kd.R_drew));exact HO_11.out))) (below_size (by repeat (first|(with_reducible first|exact HB.out|apply bwA|apply bwN|apply bw1|refine below_set ?_ GE982.out)|exact HB.out))));have n4_:=aMk (blk_below (g:=gb982) (o:=.cells #[.int .i64 a1_0,.string a1_1,.int .i64 a1_2,.int .i64 a1_3,.int .i64 a1_4,.int .i64 a1_5,.int .i64 a1_6,.int .i64 a1_7,.int .i64 a1_8] 68 (0,0)) (by (with_reducible repeat (first|refine bDn ?_ _|refine bDr ?_|refine bAl ?_ _));exact BK982.out) hb);have n5_:=aMk (below_step (by repeat (first|(with_reducible first|exact HB.out|apply bwA|apply bwN|apply bw1|refine below_set ?_ GE982.out)|exact HB.out)) hb);clear HO_8;clear HO_10;clear HO_11;clear BK982;clear HB;have HO_8:=n0_;have HO_10:=n1_;have HO_11:=n2_;have HO1020:=n3_;have BK982:=n4_;have HB:=n5_;clear n0_ n1_ n2_ n3_ n4_ n5_;(try clear hb);(try clear hb2);(try clear hk);(try clear hi);(try clear ho0);obtain ⟨Ao50,co50,eo50⟩:=Kd.R_slice HO1020.out;subst eo50)|((with_reducible refine gate_callee (f:=30) rfl ?_);refine goesL_ (some 59) rfl rfl Try.func30 (by kernel_rfl) rfl #[.slice Ao33 t1001.length co33,.slice Ao50 t1018.length co50] rfl (by (try simp only [List.map_toArray,List.map_cons,List.map_nil]);first | done | rfl|(simp only [List.length_drop,List.length_take];rfl)) ?_;(with_reducible refine (laws_eqFlowS.calls kj19 _ _ t1001 _ _ t1018 true _ ?side1 ?side2 ?side3 ?side4 A45.out).mono ?_);(case side1 => repeat (first|exact (Kd.R_reads' HO_10.out).2.2|(with_reducible refine Kd.C_alloc ?_ _)|(with_reducible refine Kd.C_drewN ?_ _)|(with_reducible refine Kd.C_drew ?_)));(case side2 => exact (Kd.R_reads' HO_10.out).2.1);(case side3 => repeat (first|exact (Kd.R_reads' HO1020.out).2.2|(with_reducible refine Kd.C_alloc ?_ _)|(with_reducible refine Kd.C_drewN ?_ _)|(with_reducible refine Kd.C_drew ?_)));(case side4 => exact (Kd.R_reads' HO1020.out).2.1);rintro e w51 ⟨rfl,hb⟩;refine ⟨_,rfl,?_⟩;have n0_:=aMk (Kd.R_below (by (with_reducible repeat (first|apply Kd.R_alloc|apply Kd.R_drewN|apply Kd.R_drew));exact HO_8.out) hb);have n1_:=aMk (Kd.R_below (by (with_reducible repeat (first|apply Kd.R_alloc|apply Kd.R_drewN|apply Kd.R_drew));exact HO_10.out) hb);have n2_:=aMk (Kd.R_below (by (with_reducible repeat (first|apply Kd.R_alloc|apply Kd.R_drewN|apply Kd.R_drew));exact HO_11.out) hb);have n3_:=aMk (Kd.R_below (by (with_reducible repeat (first|apply Kd.R_alloc|apply Kd.R_drewN|apply Kd.R_drew));exact HO1020.out) hb);have n4_:=aMk (blk_below (g:=gb982) (o:=.cells #[.int .i64 a1_0,.string a1_1,.int .i64 a1_2,.int .i64 a1_3,.int .i64 a1_4,.int .i64 a1_5,.int .i64 a1_6,.int .i64 a1_7,.int .i64 a1_8] 68 (0,0)) (by (with_reducible repeat (first|refine bDn ?_ _|refine bDr ?_|refine bAl ?_ _));exact BK982.out) hb);have n5_:=aMk (below_step (by repeat (first|(with_reducible first|exact HB.out|apply bwA|apply bwN|apply bw1|refine below_set ?_ GE982.out)|exact HB.out)) hb);clear HO_8;clear HO_10;clear HO_11;clear HO1020;clear BK982;clear HB;have HO_8:=n0_;have HO_10:=n1_;have HO_11:=n2_;have HO1020:=n3_;have BK982:=n4_;have HB:=n5_;clear n0_ n1_ n2_ n3_ n4_ n5_;(try clear hb);(try clear hb2);(try clear hk);(try clear hi))|((with_reducible refine gate_callee (f:=47) rfl ?_);refine goesL_ (some 63) rfl rfl Try.func47 (by kernel_rfl) rfl #[.slice Ao33 t1001.length co33,.int .i64 1] rfl (by (try simp only [List.map_toArray,List.map_cons,List.map_nil]);first | done | rfl|(simp only [List.length_drop,List.length_take];rfl)) ?_;(with_reducible refine (laws_markFlowS.calls kj19 (fun k_ => some k_ = (.slice Ao33 t1001.length co33 : Value).ownBlock) (.slice Ao33 t1001.length co33) t1001 1 t1022 t1023 w _ ?side1 ?side2 A47.out).mono ?_);(case side1 => repeat (first|(with_reducible first|exact HB.out|apply bwA|apply bwN|apply bw1|refine below_set ?_ GE982.out)|exact HB.out));(case side2 => exact Kd.R_tight rfl HO_10.out);rintro e w52 ⟨rfl,hy0,hb,hkp⟩;refine ⟨_,rfl,?_⟩;have n0_:=aMk (Kd.R_mono (ok':=fun k_ => some k_ ≠ (.slice Ao33 t1001.length co33 : Value).ownBlock ∧ some k_ ≠ (v1014 : Value).ownBlock ∧ some k_ ≠ (.slice Ao50 t1018.length co50 : Value).ownBlock) (Kd.R_keptB (HO_8.out) hkp (fun k_ hk_ hs_ => (hk_.1.1) hs_)) (fun k_ hk_ => ⟨hk_.1.1.1,hk_.1.1.2,hk_.1.2⟩));have n1_:=aMk (Kd.R_reok rfl hy0 (fun k_ e_ => HO_10.out.1 k_ e_));have n2_:=aMk (Kd.R_mono (ok':=fun k_ => some k_ ≠ (v998 : Value).ownBlock ∧ some k_ ≠ (.slice Ao33 t1001.length co33 : Value).ownBlock ∧ some k_ ≠ (.slice Ao50 t1018.length co50 : Value).ownBlock) (Kd.R_keptB (HO_11.out) hkp (fun k_ hk_ hs_ => (hk_.1.2) hs_)) (fun k_ hk_ => ⟨hk_.1.1.1,hk_.1.1.2,hk_.1.2⟩));have n3_:=aMk (blk_kept (by (with_reducible repeat (first|refine bDn ?_ _|refine bDr ?_|refine bAl ?_ _));exact BK982.out) hkp (fun hs_ => (fun e_ => (Kd.R_ne HO_10.out BK982.out (by decide)) e_) hs_));have n4_:=aMk (Kd.R_mono (ok':=fun k_ => some k_ ≠ (v998 : Value).ownBlock ∧ some k_ ≠ (.slice Ao33 t1001.length co33 : Value).ownBlock ∧ some k_ ≠ (v1014 : Value).ownBlock) (Kd.R_keptB (HO1020.out) hkp (fun k_ hk_ hs_ => (hk_.1.2) hs_)) (fun k_ hk_ => ⟨hk_.1.1.1.2,hk_.1.1.2,hk_.1.2⟩));have n5_:=aMk (hb);clear HO_8;clear HO_10;clear HO_11;clear BK982;clear HO1020;clear HB;have HO_8:=n0_;have HO_10:=n1_;have HO_11:=n2_;have BK982:=n3_;have HO1020:=n4_;have HB:=n5_;clear n0_ n1_ n2_ n3_ n4_ n5_;(try clear hb);(try clear hkp);(try clear hy0)))
       (try simp only [Act.put,List.setIfInBounds_toArray,List.set_cons_zero,List.set_cons_succ])
       go_cut [76] (fun v76 wc => ∃ (kq : Nat) (x76_47 : Bool),v76 = .bool x76_47 ∧ Aside0 (laws_FnExactFlowOpen.j1 kq l0 a2 t997 t1000 t1013 x76_47 a1_0 a1_1 a1_2 a1_3 a1_4 a1_5 a1_6 a1_7 a1_8 = some r) ∧ Aside0 (kq ≤ kj19) ∧ Aside0 (Kd.R k71 71 wc w.heap.size (fun k_ => some k_ ≠ (v1014 : Value).ownBlock) v998 t997) ∧ Aside0 (Kd.R k71 71 wc w.heap.size (fun k_ => some k_ ≠ (v998 : Value).ownBlock) v1014 t1013) ∧ Aside0 (wc.heap[gb982]? = some (.cells #[.int .i64 a1_0,.string a1_1,.int .i64 a1_2,.int .i64 a1_3,.int .i64 a1_4,.int .i64 a1_5,.int .i64 a1_6,.int .i64 a1_7,.int .i64 a1_8] 68 (0,0))) ∧ Aside0 (Below w.heap.size w wc))
       case first =>
        have H:=HC48.out
        clear HC48
        by_cases c53 : t1022 < 0
        ·rw [if_pos c53] at H
         have c53b0 : decide (t1022 < 0) = true:=decide_eq_true c53
         clear c53
         (first|rw [c53b0]|(simp only [i64_w,i32_w];rw [c53b0]) | skip)
         have H':=aMk H
         clear H
         go_wp2
         go_meet
         case rel => exact ⟨_,(true),(by first | rfl|(simp;done)|(simp [*];done)|(simp [ne_nil_b];done)|(simp [ne_nil_b, *];done)),H',⟨by have:=HJ19.out;first | omega|exact Nat.le_refl _⟩,⟨by (with_reducible repeat (first|apply Kd.R_alloc|apply Kd.R_drewN|apply Kd.R_drew));exact Kd.R_mono HO_8.out (fun _ hk => hk.2.1)⟩,⟨by (with_reducible repeat (first|apply Kd.R_alloc|apply Kd.R_drewN|apply Kd.R_drew));exact Kd.R_mono HO_11.out (fun _ hk => hk.1)⟩,⟨by (with_reducible repeat (first|refine bDn ?_ _|refine bDr ?_|refine bAl ?_ _));exact BK982.out⟩,⟨by repeat (first|(with_reducible first|exact HB.out|apply bwA|apply bwN|apply bw1|refine below_set ?_ GE982.out)|exact HB.out)⟩⟩
        ·rw [if_neg c53] at H
         have c53b0 : decide (t1022 < 0) = false:=decide_eq_false c53
         clear c53
         (first|rw [c53b0]|(simp only [i64_w,i32_w];rw [c53b0]) | skip)
         replace H:=Option.bind_eq_some_iff.mp H
         obtain ⟨t1024,A540,H⟩:=H
         replace H : (if t1024 = true then (laws_FnExactFlowOpen.j1 kj19 l0 a2 t997 t1000 t1013 (t1016 != t1000) a1_0 a1_1 a1_2 a1_3 a1_4 a1_5 a1_6 a1_7 a1_8) else (laws_FnExactFlowOpen.j1 kj19 l0 a2 t997 t1000 t1013 true a1_0 a1_1 a1_2 a1_3 a1_4 a1_5 a1_6 a1_7 a1_8)) = some r:=H
         have A54:=aMk A540
         clear A540
         by_cases c55 : t1024 = true
         ·subst c55
          have H1 : (laws_FnExactFlowOpen.j1 kj19 l0 a2 t997 t1000 t1013 (t1016 != t1000) a1_0 a1_1 a1_2 a1_3 a1_4 a1_5 a1_6 a1_7 a1_8) = some r:=by rw [if_pos rfl] at H;exact H
          clear H
          have H:=H1
          clear H1
          have H':=aMk H
          clear H
          obtain ⟨Ao56,co56,eo56⟩:=Kd.R_slice HO_11.out
          subst eo56
          obtain ⟨Ao57,co57,eo57⟩:=Kd.R_slice HO_8.out
          subst eo57
          go_wp2_with (first|(go_at_call 30;(with_reducible refine (laws_eqFlowS.calls kj19 _ _ t1013 _ _ t997 true _ ?side1 ?side2 ?side3 ?side4 A54.out).mono ?_);(case side1 => repeat (first|exact (Kd.R_reads' HO_11.out).2.2|(with_reducible refine Kd.C_alloc ?_ _)|(with_reducible refine Kd.C_drewN ?_ _)|(with_reducible refine Kd.C_drew ?_)));(case side2 => exact (Kd.R_reads' HO_11.out).2.1);(case side3 => repeat (first|exact (Kd.R_reads' HO_8.out).2.2|(with_reducible refine Kd.C_alloc ?_ _)|(with_reducible refine Kd.C_drewN ?_ _)|(with_reducible refine Kd.C_drew ?_)));(case side4 => exact (Kd.R_reads' HO_8.out).2.1);rintro e w58 ⟨rfl,hb⟩;have n0_:=aMk (Kd.R_below (by (with_reducible repeat (first|apply Kd.R_alloc|apply Kd.R_drewN|apply Kd.R_drew));exact HO_8.out) hb);have n1_:=aMk (Kd.R_below (by (with_reducible repeat (first|apply Kd.R_alloc|apply Kd.R_drewN|apply Kd.R_drew));exact HO_10.out) hb);have n2_:=aMk (Kd.R_below (by (with_reducible repeat (first|apply Kd.R_alloc|apply Kd.R_drewN|apply Kd.R_drew));exact HO_11.out) hb);have n3_:=aMk (Kd.R_below (by (with_reducible repeat (first|apply Kd.R_alloc|apply Kd.R_drewN|apply Kd.R_drew));exact HO1020.out) hb);have n4_:=aMk (blk_below (g:=gb982) (o:=.cells #[.int .i64 a1_0,.string a1_1,.int .i64 a1_2,.int .i64 a1_3,.int .i64 a1_4,.int .i64 a1_5,.int .i64 a1_6,.int .i64 a1_7,.int .i64 a1_8] 68 (0,0)) (by (with_reducible repeat (first|refine bDn ?_ _|refine bDr ?_|refine bAl ?_ _));exact BK982.out) hb);have n5_:=aMk (below_step (by repeat (first|(with_reducible first|exact HB.out|apply bwA|apply bwN|apply bw1|refine below_set ?_ GE982.out)|exact HB.out)) hb);clear HO_8;clear HO_10;clear HO_11;clear HO1020;clear BK982;clear HB;have HO_8:=n0_;have HO_10:=n1_;have HO_11:=n2_;have HO1020:=n3_;have BK982:=n4_;have HB:=n5_;clear n0_ n1_ n2_ n3_ n4_ n5_;(try clear hb);(try clear hb2);(try clear hk);(try clear hi)))
          go_meet
          case rel => exact ⟨_,((t1016 != t1000)),(by first | rfl|(simp;done)|(simp [*];done)|(simp [ne_nil_b];done)|(simp [ne_nil_b, *];done)),H',⟨by have:=HJ19.out;first | omega|exact Nat.le_refl _⟩,⟨by (with_reducible repeat (first|apply Kd.R_alloc|apply Kd.R_drewN|apply Kd.R_drew));exact Kd.R_mono HO_8.out (fun _ hk => hk.2.1)⟩,⟨by (with_reducible repeat (first|apply Kd.R_alloc|apply Kd.R_drewN|apply Kd.R_drew));exact Kd.R_mono HO_11.out (fun _ hk => hk.1)⟩,⟨by (with_reducible repeat (first|refine bDn ?_ _|refine bDr ?_|refine bAl ?_ _));exact BK982.out⟩,⟨by repeat (first|(with_reducible first|exact HB.out|apply bwA|apply bwN|apply bw1|refine below_set ?_ GE982.out)|exact HB.out)⟩⟩
         ·replace c55:=Bool.eq_false_iff.mpr c55
          subst c55
          have H1 : (laws_FnExactFlowOpen.j1 kj19 l0 a2 t997 t1000 t1013 true a1_0 a1_1 a1_2 a1_3 a1_4 a1_5 a1_6 a1_7 a1_8) = some r:=by rw [if_neg (show ¬ (false = true) by decide)] at H;exact H
          clear H
          have H:=H1
          clear H1
          have H':=aMk H
          clear H
          obtain ⟨Ao59,co59,eo59⟩:=Kd.R_slice HO_11.out
          subst eo59
          obtain ⟨Ao60,co60,eo60⟩:=Kd.R_slice HO_8.out
          subst eo60
          go_wp2_with (first|(go_at_call 30;(with_reducible refine (laws_eqFlowS.calls kj19 _ _ t1013 _ _ t997 false _ ?side1 ?side2 ?side3 ?side4 A54.out).mono ?_);(case side1 => repeat (first|exact (Kd.R_reads' HO_11.out).2.2|(with_reducible refine Kd.C_alloc ?_ _)|(with_reducible refine Kd.C_drewN ?_ _)|(with_reducible refine Kd.C_drew ?_)));(case side2 => exact (Kd.R_reads' HO_11.out).2.1);(case side3 => repeat (first|exact (Kd.R_reads' HO_8.out).2.2|(with_reducible refine Kd.C_alloc ?_ _)|(with_reducible refine Kd.C_drewN ?_ _)|(with_reducible refine Kd.C_drew ?_)));(case side4 => exact (Kd.R_reads' HO_8.out).2.1);rintro e w61 ⟨rfl,hb⟩;have n0_:=aMk (Kd.R_below (by (with_reducible repeat (first|apply Kd.R_alloc|apply Kd.R_drewN|apply Kd.R_drew));exact HO_8.out) hb);have n1_:=aMk (Kd.R_below (by (with_reducible repeat (first|apply Kd.R_alloc|apply Kd.R_drewN|apply Kd.R_drew));exact HO_10.out) hb);have n2_:=aMk (Kd.R_below (by (with_reducible repeat (first|apply Kd.R_alloc|apply Kd.R_drewN|apply Kd.R_drew));exact HO_11.out) hb);have n3_:=aMk (Kd.R_below (by (with_reducible repeat (first|apply Kd.R_alloc|apply Kd.R_drewN|apply Kd.R_drew));exact HO1020.out) hb);have n4_:=aMk (blk_below (g:=gb982) (o:=.cells #[.int .i64 a1_0,.string a1_1,.int .i64 a1_2,.int .i64 a1_3,.int .i64 a1_4,.int .i64 a1_5,.int .i64 a1_6,.int .i64 a1_7,.int .i64 a1_8] 68 (0,0)) (by (with_reducible repeat (first|refine bDn ?_ _|refine bDr ?_|refine bAl ?_ _));exact BK982.out) hb);have n5_:=aMk (below_step (by repeat (first|(with_reducible first|exact HB.out|apply bwA|apply bwN|apply bw1|refine below_set ?_ GE982.out)|exact HB.out)) hb);clear HO_8;clear HO_10;clear HO_11;clear HO1020;clear BK982;clear HB;have HO_8:=n0_;have HO_10:=n1_;have HO_11:=n2_;have HO1020:=n3_;have BK982:=n4_;have HB:=n5_;clear n0_ n1_ n2_ n3_ n4_ n5_;(try clear hb);(try clear hb2);(try clear hk);(try clear hi)))
          go_meet
          case rel => exact ⟨_,(true),(by first | rfl|(simp;done)|(simp [*];done)|(simp [ne_nil_b];done)|(simp [ne_nil_b, *];done)),H',⟨by have:=HJ19.out;first | omega|exact Nat.le_refl _⟩,⟨by (with_reducible repeat (first|apply Kd.R_alloc|apply Kd.R_drewN|apply Kd.R_drew));exact Kd.R_mono HO_8.out (fun _ hk => hk.2.1)⟩,⟨by (with_reducible repeat (first|apply Kd.R_alloc|apply Kd.R_drewN|apply Kd.R_drew));exact Kd.R_mono HO_11.out (fun _ hk => hk.1)⟩,⟨by (with_reducible repeat (first|refine bDn ?_ _|refine bDr ?_|refine bAl ?_ _));exact BK982.out⟩,⟨by repeat (first|(with_reducible first|exact HB.out|apply bwA|apply bwN|apply bw1|refine below_set ?_ GE982.out)|exact HB.out)⟩⟩
       case rest =>
        clear HC48
        try clear c1
        try clear c2
        try clear p2
        try clear c3
        try clear c4
        try clear c5
        try clear c5b0
        try clear c9
        try clear c9b0
        try clear c14
        try clear c26
        try clear c28
        try clear c30
        try clear c36
        try clear c43
        try clear c46
        try clear c47
        try clear c51
        try clear c52
        try clear c53
        try clear c53b0
        try clear c54
        try clear c55
        try clear hcz12_0
        try clear hcz12_1
        try clear hcz12_2
        try clear hcz12_3
        try clear hcz12_4
        try clear hcz12_5
        try clear hcz12_6
        try clear hcz12_7
        try clear hcz12_8
        try clear hcz23_0
        try clear hcz23_1
        try clear hcz23_2
        try clear hcz23_3
        try clear hcz23_4
        try clear hcz23_5
        try clear hcz23_6
        try clear hcz23_7
        try clear hcz23_8
        try clear hcz31_0
        try clear hcz31_1
        try clear hcz31_2
        try clear hcz31_3
        try clear hcz31_4
        try clear hcz31_5
        try clear hcz31_6
        try clear hcz31_7
        try clear hcz31_8
        try clear hfz12_0
        try clear hfz12_1
        try clear hfz12_2
        try clear hfz12_3
        try clear hfz12_4
        try clear hfz12_5
        try clear hfz12_6
        try clear hfz12_7
        try clear hfz12_8
        try clear hfz23_0
        try clear hfz23_1
        try clear hfz23_2
        try clear hfz23_3
        try clear hfz23_4
        try clear hfz23_5
        try clear hfz23_6
        try clear hfz23_7
        try clear hfz23_8
        try clear hfz31_0
        try clear hfz31_1
        try clear hfz31_2
        try clear hfz31_3
        try clear hfz31_4
        try clear hfz31_5
        try clear hfz31_6
        try clear hfz31_7
        try clear hfz31_8
        try clear p2
        obtain ⟨kq,x76_47,rfl,HA,HJ47,HO_8,HO_11,BK982,HB⟩:=hcut
        cases kq with
        | zero => exact absurd HA.out (by simp [laws_FnExactFlowOpen.j1])
        | succ kj47 =>
         have H:=HA.out
         clear HA
         simp only [laws_FnExactFlowOpen.j1] at H
         by_cases c62 : x76_47 = true
         ·subst c62
          have H1 : (some false) = some r:=by rw [if_pos rfl] at H;exact H
          clear H
          have H:=H1
          clear H1
          obtain rfl:=Option.some.inj H
          go_wp2
          go_ret
          exact ⟨by first | rfl|(simp [errW_none,errW_some] <;> rfl)|(simp [*,errW_none,errW_some] <;> rfl),by repeat (first|(with_reducible first|exact HB.out|apply bwA|apply bwN|apply bw1|refine below_set ?_ GE982.out)|exact HB.out)⟩
         ·replace c62:=Bool.eq_false_iff.mpr c62
          subst c62
          have H1 : ((laws_markFlowS.f kj47 t1013 1).bind fun bt1025 => ((laws_heldFlowS.f kj47 bt1025.2 1).bind fun t1027 => (if t1027 < 0 then (some false) else (if t1027 = bt1025.1 then ((laws_toFlowS.f kj47 l0).bind fun t1028 => ((laws_toFlow.f a1_0 a1_1 a1_2 a1_3 a1_4 a1_5 a1_6 a1_7 a1_8).bind fun bt1031 => ((impl_FlowOpen.f kj47 t1028 bt1031.1 bt1031.2.1 bt1031.2.2.1 bt1031.2.2.2.1 bt1031.2.2.2.2.1 bt1031.2.2.2.2.2.1 bt1031.2.2.2.2.2.2.1 bt1031.2.2.2.2.2.2.2.1 bt1031.2.2.2.2.2.2.2.2 a2).bind fun bt1040 => ((laws_eqFlowS.f kj47 bt1040.1 t997).bind fun t1044 => (if t1044 = true then (laws_FnExactFlowOpen.j2 kj47 bt1025.2 bt1025.1 (bt1040.2 != t1000)) else (laws_FnExactFlowOpen.j2 kj47 bt1025.2 bt1025.1 true)))))) else (some false))))) = some r:=by rw [if_neg (show ¬ (false = true) by decide)] at H;exact H
          clear H
          have H:=H1
          clear H1
          replace H:=Option.bind_eq_some_iff.mp H
          obtain ⟨⟨t1025,t1026⟩,A630,H⟩:=H
          replace H : ((laws_heldFlowS.f kj47 t1026 1).bind fun t1027 => (if t1027 < 0 then (some false) else (if t1027 = t1025 then ((laws_toFlowS.f kj47 l0).bind fun t1028 => ((laws_toFlow.f a1_0 a1_1 a1_2 a1_3 a1_4 a1_5 a1_6 a1_7 a1_8).bind fun bt1031 => ((impl_FlowOpen.f kj47 t1028 bt1031.1 bt1031.2.1 bt1031.2.2.1 bt1031.2.2.2.1 bt1031.2.2.2.2.1 bt1031.2.2.2.2.2.1 bt1031.2.2.2.2.2.2.1 bt1031.2.2.2.2.2.2.2.1 bt1031.2.2.2.2.2.2.2.2 a2).bind fun bt1040 => ((laws_eqFlowS.f kj47 bt1040.1 t997).bind fun t1044 => (if t1044 = true then (laws_FnExactFlowOpen.j2 kj47 t1026 t1025 (bt1040.2 != t1000)) else (laws_FnExactFlowOpen.j2 kj47 t1026 t1025 true)))))) else (some false)))) = some r:=H
          have A63:=aMk A630
          clear A630
          replace H:=Option.bind_eq_some_iff.mp H
          obtain ⟨t1027,A640,H⟩:=H
          replace H : (if t1027 < 0 then (some false) else (if t1027 = t1025 then ((laws_toFlowS.f kj47 l0).bind fun t1028 => ((laws_toFlow.f a1_0 a1_1 a1_2 a1_3 a1_4 a1_5 a1_6 a1_7 a1_8).bind fun bt1031 => ((impl_FlowOpen.f kj47 t1028 bt1031.1 bt1031.2.1 bt1031.2.2.1 bt1031.2.2.2.1 bt1031.2.2.2.2.1 bt1031.2.2.2.2.2.1 bt1031.2.2.2.2.2.2.1 bt1031.2.2.2.2.2.2.2.1 bt1031.2.2.2.2.2.2.2.2 a2).bind fun bt1040 => ((laws_eqFlowS.f kj47 bt1040.1 t997).bind fun t1044 => (if t1044 = true then (laws_FnExactFlowOpen.j2 kj47 t1026 t1025 (bt1040.2 != t1000)) else (laws_FnExactFlowOpen.j2 kj47 t1026 t1025 true)))))) else (some false))) = some r:=H
          have A64:=aMk A640
          clear A640
          by_cases c65 : t1027 < 0
          ·rw [if_pos c65] at H
           have c65b0 : decide (t1027 < 0) = true:=decide_eq_true c65
           clear c65
           obtain rfl:=Option.some.inj H
           obtain ⟨Ao66,co66,eo66⟩:=Kd.R_slice HO_11.out
           subst eo66
           go_wp2_with (first|((with_reducible refine gate_callee (f:=47) rfl ?_);refine goesL_ (some 79) rfl rfl Try.func47 (by kernel_rfl) rfl #[.slice Ao66 t1013.length co66,.int .i64 1] rfl (by (try simp only [List.map_toArray,List.map_cons,List.map_nil]);first | done | rfl|(simp only [List.length_drop,List.length_take];rfl)) ?_;(with_reducible refine (laws_markFlowS.calls kj47 (fun k_ => some k_ = (.slice Ao66 t1013.length co66 : Value).ownBlock) (.slice Ao66 t1013.length co66) t1013 1 t1025 t1026 w _ ?side1 ?side2 A63.out).mono ?_);(case side1 => repeat (first|(with_reducible first|exact HB.out|apply bwA|apply bwN|apply bw1|refine below_set ?_ GE982.out)|exact HB.out));(case side2 => exact Kd.R_tight rfl HO_11.out);rintro e w67 ⟨rfl,hy0,hb,hkp⟩;refine ⟨_,rfl,?_⟩;have n0_:=aMk (Kd.R_mono (ok':=fun k_ => some k_ ≠ (.slice Ao66 t1013.length co66 : Value).ownBlock) (Kd.R_keptB (HO_8.out) hkp (fun k_ hk_ hs_ => (hk_) hs_)) (fun k_ hk_ => hk_.1));have n1_:=aMk (Kd.R_reok rfl hy0 (fun k_ e_ => HO_11.out.1 k_ e_));have n2_:=aMk (blk_kept (by (with_reducible repeat (first|refine bDn ?_ _|refine bDr ?_|refine bAl ?_ _));exact BK982.out) hkp (fun hs_ => (fun e_ => (Kd.R_ne HO_11.out BK982.out (by decide)) e_) hs_));have n3_:=aMk (hb);clear HO_8;clear HO_11;clear BK982;clear HB;have HO_8:=n0_;have HO_11:=n1_;have BK982:=n2_;have HB:=n3_;clear n0_ n1_ n2_ n3_;(try clear hb);(try clear hkp);(try clear hy0))|((with_reducible refine gate_callee (f:=48) rfl ?_);refine goesL_ (some 82) rfl rfl Try.func48 (by kernel_rfl) rfl #[.slice Ao66 t1026.length co66,.int .i64 1] rfl (by (try simp only [List.map_toArray,List.map_cons,List.map_nil]);first | done|(rw [show t1026.length = t1013.length from (Kd.R_reads' HO_11.out).1.symm] <;> rfl) | rfl|(simp only [List.length_drop,List.length_take];rfl)) ?_;(with_reducible refine (laws_heldFlowS.calls kj47 _ _ t1026 1 t1027 _ ?side1 ?side2 A64.out).mono ?_);(case side1 => repeat (first|exact (Kd.R_reads' HO_11.out).2.2|(with_reducible refine Kd.C_alloc ?_ _)|(with_reducible refine Kd.C_drewN ?_ _)|(with_reducible refine Kd.C_drew ?_)));(case side2 => rw [show t1026.length = t1013.length from (Kd.R_reads' HO_11.out).1.symm];exact (Kd.R_reads' HO_11.out).2.1);rintro e w68 ⟨rfl,hb⟩;refine ⟨_,rfl,?_⟩;have n0_:=aMk (Kd.R_below (by (with_reducible repeat (first|apply Kd.R_alloc|apply Kd.R_drewN|apply Kd.R_drew));exact HO_8.out) hb);have n1_:=aMk (Kd.R_below (by (with_reducible repeat (first|apply Kd.R_alloc|apply Kd.R_drewN|apply Kd.R_drew));exact HO_11.out) hb);have n2_:=aMk (blk_below (g:=gb982) (o:=.cells #[.int .i64 a1_0,.string a1_1,.int .i64 a1_2,.int .i64 a1_3,.int .i64 a1_4,.int .i64 a1_5,.int .i64 a1_6,.int .i64 a1_7,.int .i64 a1_8] 68 (0,0)) (by (with_reducible repeat (first|refine bDn ?_ _|refine bDr ?_|refine bAl ?_ _));exact BK982.out) hb);have n3_:=aMk (below_step (by repeat (first|(with_reducible first|exact HB.out|apply bwA|apply bwN|apply bw1|refine below_set ?_ GE982.out)|exact HB.out)) hb);clear HO_8;clear HO_11;clear BK982;clear HB;have HO_8:=n0_;have HO_11:=n1_;have BK982:=n2_;have HB:=n3_;clear n0_ n1_ n2_ n3_;(try clear hb);(try clear hb2);(try clear hk);(try clear hi)))
           go_ret
           exact ⟨by first | rfl|(simp [errW_none,errW_some] <;> rfl)|(simp [*,errW_none,errW_some] <;> rfl),by repeat (first|(with_reducible first|exact HB.out|apply bwA|apply bwN|apply bw1|refine below_set ?_ GE982.out)|exact HB.out)⟩
          ·rw [if_neg c65] at H
           have c65b0 : decide (t1027 < 0) = false:=decide_eq_false c65
           clear c65
           by_cases c69 : t1027 = t1025
           ·rw [if_pos c69] at H
            have c69b0 : (t1027 == t1025) = true:=beq_iff_eq.mpr c69
            have c69b1 : (t1027 != t1025) = false:=bne_eq_false_iff_eq.mpr c69
            clear c69
            replace H:=Option.bind_eq_some_iff.mp H
            obtain ⟨t1028,A700,H⟩:=H
            replace H : ((laws_toFlow.f a1_0 a1_1 a1_2 a1_3 a1_4 a1_5 a1_6 a1_7 a1_8).bind fun bt1031 => ((impl_FlowOpen.f kj47 t1028 bt1031.1 bt1031.2.1 bt1031.2.2.1 bt1031.2.2.2.1 bt1031.2.2.2.2.1 bt1031.2.2.2.2.2.1 bt1031.2.2.2.2.2.2.1 bt1031.2.2.2.2.2.2.2.1 bt1031.2.2.2.2.2.2.2.2 a2).bind fun bt1040 => ((laws_eqFlowS.f kj47 bt1040.1 t997).bind fun t1044 => (if t1044 = true then (laws_FnExactFlowOpen.j2 kj47 t1026 t1025 (bt1040.2 != t1000)) else (laws_FnExactFlowOpen.j2 kj47 t1026 t1025 true))))) = some r:=H
            have A70:=aMk A700
            clear A700
            replace H:=Option.bind_eq_some_iff.mp H
            obtain ⟨⟨t1031,t1032,t1033,t1034,t1035,t1036,t1037,t1038,t1039⟩,A710,H⟩:=H
            replace H : ((impl_FlowOpen.f kj47 t1028 t1031 t1032 t1033 t1034 t1035 t1036 t1037 t1038 t1039 a2).bind fun bt1040 => ((laws_eqFlowS.f kj47 bt1040.1 t997).bind fun t1044 => (if t1044 = true then (laws_FnExactFlowOpen.j2 kj47 t1026 t1025 (bt1040.2 != t1000)) else (laws_FnExactFlowOpen.j2 kj47 t1026 t1025 true)))) = some r:=H
            have A71:=aMk A710
            clear A710
            replace H:=Option.bind_eq_some_iff.mp H
            obtain ⟨⟨t1040,t1043⟩,A720,H⟩:=H
            replace H : ((laws_eqFlowS.f kj47 t1040 t997).bind fun t1044 => (if t1044 = true then (laws_FnExactFlowOpen.j2 kj47 t1026 t1025 (t1043 != t1000)) else (laws_FnExactFlowOpen.j2 kj47 t1026 t1025 true))) = some r:=H
            have A72:=aMk A720
            clear A720
            have HC73:=aMk H
            clear H
            obtain ⟨Ao74,co74,eo74⟩:=Kd.R_slice HO_11.out
            subst eo74
            try go_wp2_with (first|((with_reducible refine gate_callee (f:=47) rfl ?_);refine goesL_ (some 79) rfl rfl Try.func47 (by kernel_rfl) rfl #[.slice Ao74 t1013.length co74,.int .i64 1] rfl (by (try simp only [List.map_toArray,List.map_cons,List.map_nil]);first | done | rfl|(simp only [List.length_drop,List.length_take];rfl)) ?_;(with_reducible refine (laws_markFlowS.calls kj47 (fun k_ => some k_ = (.slice Ao74 t1013.length co74 : Value).ownBlock) (.slice Ao74 t1013.length co74) t1013 1 t1025 t1026 w _ ?side1 ?side2 A63.out).mono ?_);(case side1 => repeat (first|(with_reducible first|exact HB.out|apply bwA|apply bwN|apply bw1|refine below_set ?_ GE982.out)|exact HB.out));(case side2 => exact Kd.R_tight rfl HO_11.out);rintro e w75 ⟨rfl,hy0,hb,hkp⟩;refine ⟨_,rfl,?_⟩;have n0_:=aMk (Kd.R_mono (ok':=fun k_ => some k_ ≠ (.slice Ao74 t1013.length co74 : Value).ownBlock) (Kd.R_keptB (HO_8.out) hkp (fun k_ hk_ hs_ => (hk_) hs_)) (fun k_ hk_ => hk_.1));have n1_:=aMk (Kd.R_reok rfl hy0 (fun k_ e_ => HO_11.out.1 k_ e_));have n2_:=aMk (blk_kept (by (with_reducible repeat (first|refine bDn ?_ _|refine bDr ?_|refine bAl ?_ _));exact BK982.out) hkp (fun hs_ => (fun e_ => (Kd.R_ne HO_11.out BK982.out (by decide)) e_) hs_));have n3_:=aMk (hb);clear HO_8;clear HO_11;clear BK982;clear HB;have HO_8:=n0_;have HO_11:=n1_;have BK982:=n2_;have HB:=n3_;clear n0_ n1_ n2_ n3_;(try clear hb);(try clear hkp);(try clear hy0))|((with_reducible refine gate_callee (f:=48) rfl ?_);refine goesL_ (some 82) rfl rfl Try.func48 (by kernel_rfl) rfl #[.slice Ao74 t1026.length co74,.int .i64 1] rfl (by (try simp only [List.map_toArray,List.map_cons,List.map_nil]);first | done|(rw [show t1026.length = t1013.length from (Kd.R_reads' HO_11.out).1.symm] <;> rfl) | rfl|(simp only [List.length_drop,List.length_take];rfl)) ?_;(with_reducible refine (laws_heldFlowS.calls kj47 _ _ t1026 1 t1027 _ ?side1 ?side2 A64.out).mono ?_);(case side1 => repeat (first|exact (Kd.R_reads' HO_11.out).2.2|(with_reducible refine Kd.C_alloc ?_ _)|(with_reducible refine Kd.C_drewN ?_ _)|(with_reducible refine Kd.C_drew ?_)));(case side2 => rw [show t1026.length = t1013.length from (Kd.R_reads' HO_11.out).1.symm];exact (Kd.R_reads' HO_11.out).2.1);rintro e w76 ⟨rfl,hb⟩;refine ⟨_,rfl,?_⟩;have n0_:=aMk (Kd.R_below (by (with_reducible repeat (first|apply Kd.R_alloc|apply Kd.R_drewN|apply Kd.R_drew));exact HO_8.out) hb);have n1_:=aMk (Kd.R_below (by (with_reducible repeat (first|apply Kd.R_alloc|apply Kd.R_drewN|apply Kd.R_drew));exact HO_11.out) hb);have n2_:=aMk (blk_below (g:=gb982) (o:=.cells #[.int .i64 a1_0,.string a1_1,.int .i64 a1_2,.int .i64 a1_3,.int .i64 a1_4,.int .i64 a1_5,.int .i64 a1_6,.int .i64 a1_7,.int .i64 a1_8] 68 (0,0)) (by (with_reducible repeat (first|refine bDn ?_ _|refine bDr ?_|refine bAl ?_ _));exact BK982.out) hb);have n3_:=aMk (below_step (by repeat (first|(with_reducible first|exact HB.out|apply bwA|apply bwN|apply bw1|refine below_set ?_ GE982.out)|exact HB.out)) hb);clear HO_8;clear HO_11;clear BK982;clear HB;have HO_8:=n0_;have HO_11:=n1_;have BK982:=n2_;have HB:=n3_;clear n0_ n1_ n2_ n3_;(try clear hb);(try clear hb2);(try clear hk);(try clear hi)))
            have n0_:=aMk (Kd.R_drew HO_8.out)
            have n1_:=aMk (Kd.R_drew HO_11.out)
            have n2_:=aMk (bDr BK982.out)
            have n3_:=aMk (bw1 HB.out)
            clear HO_8
            clear HO_11
            clear BK982
            clear HB
            have HO_8:=n0_
            have HO_11:=n1_
            have BK982:=n2_
            have HB:=n3_
            clear n0_ n1_ n2_ n3_
            refine start_ (n:=11) (S:=fun w' => w'.cell? ⟨gb982,0,none⟩ = some (.int .i64 a1_0) ∧ w'.cell? ⟨gb982,1,none⟩ = some (.string a1_1) ∧ w'.cell? ⟨gb982,2,none⟩ = some (.int .i64 a1_2) ∧ w'.cell? ⟨gb982,3,none⟩ = some (.int .i64 a1_3) ∧ w'.cell? ⟨gb982,4,none⟩ = some (.int .i64 a1_4) ∧ w'.cell? ⟨gb982,5,none⟩ = some (.int .i64 a1_5) ∧ w'.cell? ⟨gb982,6,none⟩ = some (.int .i64 a1_6) ∧ w'.cell? ⟨gb982,7,none⟩ = some (.int .i64 a1_7) ∧ w'.cell? ⟨gb982,8,none⟩ = some (.int .i64 a1_8)) (ds:=[]) #[false,false,false,false,false,false,false,false,false,false,false] (by kernel_rfl) rfl rfl ⟨(bCe BK982.out 0).trans rfl,(bCe BK982.out 1).trans rfl,(bCe BK982.out 2).trans rfl,(bCe BK982.out 3).trans rfl,(bCe BK982.out 4).trans rfl,(bCe BK982.out 5).trans rfl,(bCe BK982.out 6).trans rfl,(bCe BK982.out 7).trans rfl,(bCe BK982.out 8).trans rfl⟩ (fun hHeld => ?_);refine with_tabW laws_FnExactFlowOpen.tab27 laws_FnExactFlowOpen.bits27 (fun HT_ HW_ => ?_)
            generalize w76.drew = w77 at HO_8 HO_11 BK982 HB hHeld ⊢
            refine pure_ (i:=0) (N:=some 89) (v:=?_) (a':=?_) #[true,false,false,false,false,false,false,false,false,false,false] rfl rfl (any_of HT_.out (by kernel_rfl)) (fun _ _ _ h => h) (Or.inl ⟨by rfl,?_⟩) ?_ ?_
            rotate_left
            ·intro w'
             go_simp
             with_reducible rfl
            rotate_left
            ·simp only [Act.put,List.setIfInBounds_toArray,List.set_cons_zero,List.set_cons_succ,i64_w,i32_w]
             rfl
            refine pure_ (i:=4) (N:=some 93) (v:=?_) (a':=?_) #[true,false,false,false,true,false,false,false,false,false,false] rfl rfl (any_of HT_.out (by kernel_rfl)) (fun _ _ _ h => h) (Or.inl ⟨by rfl,?_⟩) ?_ ?_
            rotate_left
            ·intro w'
             go_simp
             with_reducible rfl
            rotate_left
            ·simp only [Act.put,List.setIfInBounds_toArray,List.set_cons_zero,List.set_cons_succ,i64_w,i32_w]
             rfl
            refine take_ (i:=2) (N:=some 91) (v:=?_) (a':=?_) #[true,false,true,false,true,false,false,false,false,false,false] rfl rfl (take_ofW HT_.out HW_.out (by kernel_rfl)) (fun _ _ _ h => h) (Or.inl ⟨by rfl,?_⟩) hHeld ?_ ?_
            rotate_left
            ·rintro w' ⟨s0,s1,s2,s3,s4,s5,s6,s7,s8⟩
             go_simp
             with_reducible rfl
            rotate_left
            ·simp only [Act.put,List.setIfInBounds_toArray,List.set_cons_zero,List.set_cons_succ,i64_w,i32_w]
             rfl
            refine one_ (i:=1) (N:=some 90) #[true,true,true,false,true,false,false,false,false,false,false] rfl rfl (one_of HT_.out (by kernel_rfl)) (by decide) (fun K hK => ?_)
            refine goes_ Try.func28 (by kernel_rfl) rfl #[.slice A0 l0.length c0] (by rfl) rfl rfl (by (try simp only [List.map_toArray,List.map_cons,List.map_nil]);first | done | rfl|(simp only [List.length_drop,List.length_take];rfl)) ?_
            with_reducible refine (laws_toFlowS.calls kj47 _ _ l0 t1028 _ ?side1 ?side2 A70.out).mono ?_
            (case side1 => repeat (first|exact (Kd.C_below HR0.out HB.out)|(with_reducible refine Kd.C_alloc ?_ _)|(with_reducible refine Kd.C_drewN ?_ _)|(with_reducible refine Kd.C_drew ?_)))
            (case side2 => exact HC0.out)
            rintro e w78 ⟨v1029,rfl,ho0,hb⟩
            refine ⟨_,rfl,?_⟩
            have n0_:=aMk (Kd.R_elder' (by (with_reducible repeat (first|apply Kd.R_alloc|apply Kd.R_drewN|apply Kd.R_drew));exact HO_8.out) (Kd.R_base ho0) hb)
            have n1_:=aMk (Kd.R_elder' (by (with_reducible repeat (first|apply Kd.R_alloc|apply Kd.R_drewN|apply Kd.R_drew));exact HO_11.out) (Kd.R_base ho0) hb)
            have n2_:=aMk (Kd.R_lower (Kd.R_new' (Kd.R_new' ho0 (Kd.R_lt (by (with_reducible repeat (first|apply Kd.R_alloc|apply Kd.R_drewN|apply Kd.R_drew));exact HO_8.out))) (Kd.R_lt (by (with_reducible repeat (first|apply Kd.R_alloc|apply Kd.R_drewN|apply Kd.R_drew));exact HO_11.out))) (below_size (by repeat (first|(with_reducible first|exact HB.out|apply bwA|apply bwN|apply bw1|refine below_set ?_ GE982.out)|exact HB.out))))
            have n3_:=aMk (blk_below (g:=gb982) (o:=.cells #[.int .i64 a1_0,.string a1_1,.int .i64 a1_2,.int .i64 a1_3,.int .i64 a1_4,.int .i64 a1_5,.int .i64 a1_6,.int .i64 a1_7,.int .i64 a1_8] 68 (0,0)) (by (with_reducible repeat (first|refine bDn ?_ _|refine bDr ?_|refine bAl ?_ _));exact BK982.out) hb)
            have n4_:=aMk (below_step (by repeat (first|(with_reducible first|exact HB.out|apply bwA|apply bwN|apply bw1|refine below_set ?_ GE982.out)|exact HB.out)) hb)
            clear HO_8
            clear HO_11
            clear BK982
            clear HB
            have HO_8:=n0_
            have HO_11:=n1_
            have HO1030:=n2_
            have BK982:=n3_
            have HB:=n4_
            clear n0_ n1_ n2_ n3_ n4_
            (try clear hb)
            (try clear hb2)
            (try clear hk)
            (try clear hi)
            (try clear ho0)
            refine hK.out _ _ ⟨(bCe BK982.out 0).trans rfl,(bCe BK982.out 1).trans rfl,(bCe BK982.out 2).trans rfl,(bCe BK982.out 3).trans rfl,(bCe BK982.out 4).trans rfl,(bCe BK982.out 5).trans rfl,(bCe BK982.out 6).trans rfl,(bCe BK982.out 7).trans rfl,(bCe BK982.out 8).trans rfl⟩ (fun hHeld => ?_)
            clear hK K
            refine norm_ (a':=?_) ?_ ?_
            rotate_left
            ·show Act.put _ (some 90) _ = _
             simp only [Act.put,List.setIfInBounds_toArray,List.set_cons_zero,List.set_cons_succ,i64_w,i32_w]
             rfl
            refine one_ (i:=3) (N:=some 92) #[true,true,true,true,true,false,false,false,false,false,false] rfl rfl (one_of HT_.out (by kernel_rfl)) (by decide) (fun K hK => ?_)
            refine goes_ Try.func53 (by kernel_rfl) rfl #[.agg #[.int .i64 a1_0,.string a1_1,.int .i64 a1_2,.int .i64 a1_3,.int .i64 a1_4,.int .i64 a1_5,.int .i64 a1_6,.int .i64 a1_7,.int .i64 a1_8]] (by rfl) rfl rfl (by (try simp only [List.map_toArray,List.map_cons,List.map_nil]);first | done | rfl|(simp only [List.length_drop,List.length_take];rfl)) ?_
            with_reducible refine (laws_toFlow.calls a1_0 a1_1 a1_2 a1_3 a1_4 a1_5 a1_6 a1_7 a1_8 t1031 t1032 t1033 t1034 t1035 t1036 t1037 t1038 t1039 _ A71.out).mono ?_
            rintro e w79 ⟨rfl,hb⟩
            refine ⟨_,rfl,?_⟩
            have n0_:=aMk (Kd.R_below (by (with_reducible repeat (first|apply Kd.R_alloc|apply Kd.R_drewN|apply Kd.R_drew));exact HO_8.out) hb)
            have n1_:=aMk (Kd.R_below (by (with_reducible repeat (first|apply Kd.R_alloc|apply Kd.R_drewN|apply Kd.R_drew));exact HO_11.out) hb)
            have n2_:=aMk (Kd.R_below (by (with_reducible repeat (first|apply Kd.R_alloc|apply Kd.R_drewN|apply Kd.R_drew));exact HO1030.out) hb)
            have n3_:=aMk (blk_below (g:=gb982) (o:=.cells #[.int .i64 a1_0,.string a1_1,.int .i64 a1_2,.int .i64 a1_3,.int .i64 a1_4,.int .i64 a1_5,.int .i64 a1_6,.int .i64 a1_7,.int .i64 a1_8] 68 (0,0)) (by (with_reducible repeat (first|refine bDn ?_ _|refine bDr ?_|refine bAl ?_ _));exact BK982.out) hb)
            have n4_:=aMk (below_step (by repeat (first|(with_reducible first|exact HB.out|apply bwA|apply bwN|apply bw1|refine below_set ?_ GE982.out)|exact HB.out)) hb)
            clear HO_8
            clear HO_11
            clear HO1030
            clear BK982
            clear HB
            have HO_8:=n0_
            have HO_11:=n1_
            have HO1030:=n2_
            have BK982:=n3_
            have HB:=n4_
            clear n0_ n1_ n2_ n3_ n4_
            (try clear hb)
            (try clear hb2)
            (try clear hk)
            (try clear hi)
            obtain ⟨Ao80,co80,eo80⟩:=Kd.R_slice HO1030.out
            (first|subst eo80|(injection eo80 with f1_ f2_ f3_;have f4_:=f1_.symm;have f5_:=f3_.symm;clear f1_ f2_ f3_;subst f4_;subst f5_))
            refine hK.out _ _ ⟨(bCe BK982.out 0).trans rfl,(bCe BK982.out 1).trans rfl,(bCe BK982.out 2).trans rfl,(bCe BK982.out 3).trans rfl,(bCe BK982.out 4).trans rfl,(bCe BK982.out 5).trans rfl,(bCe BK982.out 6).trans rfl,(bCe BK982.out 7).trans rfl,(bCe BK982.out 8).trans rfl⟩ (fun hHeld => ?_)
            clear hK K
            refine norm_ (a':=?_) ?_ ?_
            rotate_left
            ·show Act.put _ (some 92) _ = _
             simp only [Act.put,List.setIfInBounds_toArray,List.set_cons_zero,List.set_cons_succ,i64_w,i32_w]
             rfl
            refine one_ (i:=5) (N:=some 94) #[true,true,true,true,true,true,false,false,false,false,false] rfl rfl (one_of HT_.out (by kernel_rfl)) (by decide) (fun K hK => ?_)
            refine goes_ Try.func54 (by kernel_rfl) rfl #[.slice Ao80 t1028.length co80,.agg #[.int .i64 t1031,.string t1032,.int .i64 t1033,.int .i64 t1034,.int .i64 t1035,.int .i64 t1036,.int .i64 t1037,.int .i64 t1038,.int .i64 t1039],.int .i64 a2] (by rfl) rfl rfl (by (try simp only [List.map_toArray,List.map_cons,List.map_nil]);first | done | rfl|(simp only [List.length_drop,List.length_take];rfl)) ?_
            with_reducible refine (impl_FlowOpen.calls kj47 _ _ t1028 t1031 t1032 t1033 t1034 t1035 t1036 t1037 t1038 t1039 a2 t1040 t1043 _ ?side1 ?side2 A72.out).mono ?_
            (case side1 => repeat (first|exact (Kd.R_reads' HO1030.out).2.2|(with_reducible refine Kd.C_alloc ?_ _)|(with_reducible refine Kd.C_drewN ?_ _)|(with_reducible refine Kd.C_drew ?_)))
            (case side2 => exact (Kd.R_reads' HO1030.out).2.1)
            rintro e w81 ⟨v1041,rfl,ho0,hb⟩
            refine ⟨_,rfl,?_⟩
            have n0_:=aMk (Kd.R_elder' (by (with_reducible repeat (first|apply Kd.R_alloc|apply Kd.R_drewN|apply Kd.R_drew));exact HO_8.out) (Kd.R_base ho0) hb)
            have n1_:=aMk (Kd.R_elder' (by (with_reducible repeat (first|apply Kd.R_alloc|apply Kd.R_drewN|apply Kd.R_drew));exact HO_11.out) (Kd.R_base ho0) hb)
            have n2_:=aMk (Kd.R_elder' (by (with_reducible repeat (first|apply Kd.R_alloc|apply Kd.R_drewN|apply Kd.R_drew));exact HO1030.out) (Kd.R_base ho0) hb)
            have n3_:=aMk (Kd.R_lower (Kd.R_new' (Kd.R_new' (Kd.R_new' ho0 (Kd.R_lt (by (with_reducible repeat (first|apply Kd.R_alloc|apply Kd.R_drewN|apply Kd.R_drew));exact HO_8.out))) (Kd.R_lt (by (with_reducible repeat (first|apply Kd.R_alloc|apply Kd.R_drewN|apply Kd.R_drew));exact HO_11.out))) (Kd.R_lt (by (with_reducible repeat (first|apply Kd.R_alloc|apply Kd.R_drewN|apply Kd.R_drew));exact HO1030.out))) (below_size (by repeat (first|(with_reducible first|exact HB.out|apply bwA|apply bwN|apply bw1|refine below_set ?_ GE982.out)|exact HB.out))))
            have n4_:=aMk (blk_below (g:=gb982) (o:=.cells #[.int .i64 a1_0,.string a1_1,.int .i64 a1_2,.int .i64 a1_3,.int .i64 a1_4,.int .i64 a1_5,.int .i64 a1_6,.int .i64 a1_7,.int .i64 a1_8] 68 (0,0)) (by (with_reducible repeat (first|refine bDn ?_ _|refine bDr ?_|refine bAl ?_ _));exact BK982.out) hb)
            have n5_:=aMk (below_step (by repeat (first|(with_reducible first|exact HB.out|apply bwA|apply bwN|apply bw1|refine below_set ?_ GE982.out)|exact HB.out)) hb)
            clear HO_8
            clear HO_11
            clear HO1030
            clear BK982
            clear HB
            have HO_8:=n0_
            have HO_11:=n1_
            have HO1030:=n2_
            have HO1042:=n3_
            have BK982:=n4_
            have HB:=n5_
            clear n0_ n1_ n2_ n3_ n4_ n5_
            (try clear hb)
            (try clear hb2)
            (try clear hk)
            (try clear hi)
            (try clear ho0)
            refine hK.out _ _ ⟨(bCe BK982.out 0).trans rfl,(bCe BK982.out 1).trans rfl,(bCe BK982.out 2).trans rfl,(bCe BK982.out 3).trans rfl,(bCe BK982.out 4).trans rfl,(bCe BK982.out 5).trans rfl,(bCe BK982.out 6).trans rfl,(bCe BK982.out 7).trans rfl,(bCe BK982.out 8).trans rfl⟩ (fun hHeld => ?_)
            clear hK K
            refine norm_ (a':=?_) ?_ ?_
            rotate_left
            ·show Act.put _ (some 94) _ = _
             simp only [Act.put,List.setIfInBounds_toArray,List.set_cons_zero,List.set_cons_succ,i64_w,i32_w]
             rfl
            refine pure_ (i:=6) (N:=some 88) (v:=?_) (a':=?_) #[true,true,true,true,true,true,true,false,false,false,false] rfl rfl (any_of HT_.out (by kernel_rfl)) (fun _ _ _ h => h) (Or.inl ⟨by rfl,?_⟩) ?_ ?_
            rotate_left
            ·intro w'
             go_simp
             with_reducible rfl
            rotate_left
            ·simp only [Act.put,List.setIfInBounds_toArray,List.set_cons_zero,List.set_cons_succ,i64_w,i32_w]
             rfl
            refine pure_ (i:=7) (N:=some 95) (v:=?_) (a':=?_) #[true,true,true,true,true,true,true,true,false,false,false] rfl rfl (any_of HT_.out (by kernel_rfl)) (fun _ _ _ h => h) (Or.inl ⟨by rfl,?_⟩) ?_ ?_
            rotate_left
            ·intro w'
             go_simp
             with_reducible rfl
            rotate_left
            ·simp only [Act.put,List.setIfInBounds_toArray,List.set_cons_zero,List.set_cons_succ,i64_w,i32_w]
             rfl
            refine pure_ (i:=8) (N:=some 96) (v:=?_) (a':=?_) #[true,true,true,true,true,true,true,true,true,false,false] rfl rfl (any_of HT_.out (by kernel_rfl)) (fun _ _ _ h => h) (Or.inl ⟨by rfl,?_⟩) ?_ ?_
            rotate_left
            ·intro w'
             go_simp
             with_reducible rfl
            rotate_left
            ·simp only [Act.put,List.setIfInBounds_toArray,List.set_cons_zero,List.set_cons_succ,i64_w,i32_w]
             rfl
            refine pure_ (i:=9) (N:=some 16) (v:=?_) (a':=?_) #[true,true,true,true,true,true,true,true,true,true,false] rfl rfl (any_of HT_.out (by kernel_rfl)) (fun _ _ _ h => h) (Or.inl ⟨by rfl,?_⟩) ?_ ?_
            rotate_left
            ·intro w'
             go_simp
             with_reducible rfl
            rotate_left
            ·simp only [Act.put,List.setIfInBounds_toArray,List.set_cons_zero,List.set_cons_succ,i64_w,i32_w]
             rfl
            refine pure_ (i:=10) (N:=some 17) (v:=?_) (a':=?_) #[true,true,true,true,true,true,true,true,true,true,true] rfl rfl (any_of HT_.out (by kernel_rfl)) (fun _ _ _ h => h) (Or.inl ⟨by rfl,?_⟩) ?_ ?_
            rotate_left
            ·intro w'
             go_simp
             with_reducible rfl
            rotate_left
            ·simp only [Act.put,List.setIfInBounds_toArray,List.set_cons_zero,List.set_cons_succ,i64_w,i32_w]
             rfl
            refine done_ (done_of HT_.out (by kernel_rfl)) ?_
            go_upto_region 28 with (fail)
            go_cut [105] (fun v105 wc => ∃ (kq : Nat) (x105_72 : Bool),v105 = .bool x105_72 ∧ Aside0 (laws_FnExactFlowOpen.j2 kq t1026 t1025 x105_72 = some r) ∧ Aside0 (kq ≤ kj47) ∧ Aside0 (Kd.R k71 71 wc w.heap.size (fun _ => True) (.slice Ao74 t1013.length co74) t1026) ∧ Aside0 (wc.heap[gb982]? = some (.cells #[.int .i64 a1_0,.string a1_1,.int .i64 a1_2,.int .i64 a1_3,.int .i64 a1_4,.int .i64 a1_5,.int .i64 a1_6,.int .i64 a1_7,.int .i64 a1_8] 68 (0,0))) ∧ Aside0 (Below w.heap.size w wc))
            case first =>
             have H:=HC73.out
             clear HC73
             replace H:=Option.bind_eq_some_iff.mp H
             obtain ⟨t1044,A820,H⟩:=H
             replace H : (if t1044 = true then (laws_FnExactFlowOpen.j2 kj47 t1026 t1025 (t1043 != t1000)) else (laws_FnExactFlowOpen.j2 kj47 t1026 t1025 true)) = some r:=H
             have A82:=aMk A820
             clear A820
             by_cases c83 : t1044 = true
             ·subst c83
              have H1 : (laws_FnExactFlowOpen.j2 kj47 t1026 t1025 (t1043 != t1000)) = some r:=by rw [if_pos rfl] at H;exact H
              clear H
              have H:=H1
              clear H1
              have H':=aMk H
              clear H
              obtain ⟨Ao84,co84,eo84⟩:=Kd.R_slice HO1042.out
              subst eo84
              obtain ⟨Ao85,co85,eo85⟩:=Kd.R_slice HO_8.out
              subst eo85
              go_wp2_with (first|((with_reducible refine gate_callee (f:=30) rfl ?_);refine goesL_ (some 99) rfl rfl Try.func30 (by kernel_rfl) rfl #[.slice Ao84 t1040.length co84,.slice Ao85 t997.length co85] rfl (by (try simp only [List.map_toArray,List.map_cons,List.map_nil]);first | done | rfl|(simp only [List.length_drop,List.length_take];rfl)) ?_;(with_reducible refine (laws_eqFlowS.calls kj47 _ _ t1040 _ _ t997 true _ ?side1 ?side2 ?side3 ?side4 A82.out).mono ?_);(case side1 => repeat (first|exact (Kd.R_reads' HO1042.out).2.2|(with_reducible refine Kd.C_alloc ?_ _)|(with_reducible refine Kd.C_drewN ?_ _)|(with_reducible refine Kd.C_drew ?_)));(case side2 => exact (Kd.R_reads' HO1042.out).2.1);(case side3 => repeat (first|exact (Kd.R_reads' HO_8.out).2.2|(with_reducible refine Kd.C_alloc ?_ _)|(with_reducible refine Kd.C_drewN ?_ _)|(with_reducible refine Kd.C_drew ?_)));(case side4 => exact (Kd.R_reads' HO_8.out).2.1);rintro e w86 ⟨rfl,hb⟩;refine ⟨_,rfl,?_⟩;have n0_:=aMk (Kd.R_below (by (with_reducible repeat (first|apply Kd.R_alloc|apply Kd.R_drewN|apply Kd.R_drew));exact HO_8.out) hb);have n1_:=aMk (Kd.R_below (by (with_reducible repeat (first|apply Kd.R_alloc|apply Kd.R_drewN|apply Kd.R_drew));exact HO_11.out) hb);have n2_:=aMk (Kd.R_below (by (with_reducible repeat (first|apply Kd.R_alloc|apply Kd.R_drewN|apply Kd.R_drew));exact HO1030.out) hb);have n3_:=aMk (Kd.R_below (by (with_reducible repeat (first|apply Kd.R_alloc|apply Kd.R_drewN|apply Kd.R_drew));exact HO1042.out) hb);have n4_:=aMk (blk_below (g:=gb982) (o:=.cells #[.int .i64 a1_0,.string a1_1,.int .i64 a1_2,.int .i64 a1_3,.int .i64 a1_4,.int .i64 a1_5,.int .i64 a1_6,.int .i64 a1_7,.int .i64 a1_8] 68 (0,0)) (by (with_reducible repeat (first|refine bDn ?_ _|refine bDr ?_|refine bAl ?_ _));exact BK982.out) hb);have n5_:=aMk (below_step (by repeat (first|(with_reducible first|exact HB.out|apply bwA|apply bwN|apply bw1|refine below_set ?_ GE982.out)|exact HB.out)) hb);clear HO_8;clear HO_11;clear HO1030;clear HO1042;clear BK982;clear HB;have HO_8:=n0_;have HO_11:=n1_;have HO1030:=n2_;have HO1042:=n3_;have BK982:=n4_;have HB:=n5_;clear n0_ n1_ n2_ n3_ n4_ n5_;(try clear hb);(try clear hb2);(try clear hk);(try clear hi)))
              go_meet
              case rel => exact ⟨_,((t1043 != t1000)),(by first | rfl|(simp;done)|(simp [*];done)|(simp [ne_nil_b];done)|(simp [ne_nil_b, *];done)),H',⟨by have:=HJ19.out;have:=HJ47.out;first | omega|exact Nat.le_refl _⟩,⟨by (with_reducible repeat (first|apply Kd.R_alloc|apply Kd.R_drewN|apply Kd.R_drew));exact Kd.R_mono HO_11.out (fun _ hk => trivial)⟩,⟨by (with_reducible repeat (first|refine bDn ?_ _|refine bDr ?_|refine bAl ?_ _));exact BK982.out⟩,⟨by repeat (first|(with_reducible first|exact HB.out|apply bwA|apply bwN|apply bw1|refine below_set ?_ GE982.out)|exact HB.out)⟩⟩
             ·replace c83:=Bool.eq_false_iff.mpr c83
              subst c83
              have H1 : (laws_FnExactFlowOpen.j2 kj47 t1026 t1025 true) = some r:=by rw [if_neg (show ¬ (false = true) by decide)] at H;exact H
              clear H
              have H:=H1
              clear H1
              have H':=aMk H
              clear H
              obtain ⟨Ao87,co87,eo87⟩:=Kd.R_slice HO1042.out
              subst eo87
              obtain ⟨Ao88,co88,eo88⟩:=Kd.R_slice HO_8.out
              subst eo88
              go_wp2_with (first|((with_reducible refine gate_callee (f:=30) rfl ?_);refine goesL_ (some 99) rfl rfl Try.func30 (by kernel_rfl) rfl #[.slice Ao87 t1040.length co87,.slice Ao88 t997.length co88] rfl (by (try simp only [List.map_toArray,List.map_cons,List.map_nil]);first | done | rfl|(simp only [List.length_drop,List.length_take];rfl)) ?_;(with_reducible refine (laws_eqFlowS.calls kj47 _ _ t1040 _ _ t997 false _ ?side1 ?side2 ?side3 ?side4 A82.out).mono ?_);(case side1 => repeat (first|exact (Kd.R_reads' HO1042.out).2.2|(with_reducible refine Kd.C_alloc ?_ _)|(with_reducible refine Kd.C_drewN ?_ _)|(with_reducible refine Kd.C_drew ?_)));(case side2 => exact (Kd.R_reads' HO1042.out).2.1);(case side3 => repeat (first|exact (Kd.R_reads' HO_8.out).2.2|(with_reducible refine Kd.C_alloc ?_ _)|(with_reducible refine Kd.C_drewN ?_ _)|(with_reducible refine Kd.C_drew ?_)));(case side4 => exact (Kd.R_reads' HO_8.out).2.1);rintro e w89 ⟨rfl,hb⟩;refine ⟨_,rfl,?_⟩;have n0_:=aMk (Kd.R_below (by (with_reducible repeat (first|apply Kd.R_alloc|apply Kd.R_drewN|apply Kd.R_drew));exact HO_8.out) hb);have n1_:=aMk (Kd.R_below (by (with_reducible repeat (first|apply Kd.R_alloc|apply Kd.R_drewN|apply Kd.R_drew));exact HO_11.out) hb);have n2_:=aMk (Kd.R_below (by (with_reducible repeat (first|apply Kd.R_alloc|apply Kd.R_drewN|apply Kd.R_drew));exact HO1030.out) hb);have n3_:=aMk (Kd.R_below (by (with_reducible repeat (first|apply Kd.R_alloc|apply Kd.R_drewN|apply Kd.R_drew));exact HO1042.out) hb);have n4_:=aMk (blk_below (g:=gb982) (o:=.cells #[.int .i64 a1_0,.string a1_1,.int .i64 a1_2,.int .i64 a1_3,.int .i64 a1_4,.int .i64 a1_5,.int .i64 a1_6,.int .i64 a1_7,.int .i64 a1_8] 68 (0,0)) (by (with_reducible repeat (first|refine bDn ?_ _|refine bDr ?_|refine bAl ?_ _));exact BK982.out) hb);have n5_:=aMk (below_step (by repeat (first|(with_reducible first|exact HB.out|apply bwA|apply bwN|apply bw1|refine below_set ?_ GE982.out)|exact HB.out)) hb);clear HO_8;clear HO_11;clear HO1030;clear HO1042;clear BK982;clear HB;have HO_8:=n0_;have HO_11:=n1_;have HO1030:=n2_;have HO1042:=n3_;have BK982:=n4_;have HB:=n5_;clear n0_ n1_ n2_ n3_ n4_ n5_;(try clear hb);(try clear hb2);(try clear hk);(try clear hi)))
              go_meet
              case rel => exact ⟨_,(true),(by first | rfl|(simp;done)|(simp [*];done)|(simp [ne_nil_b];done)|(simp [ne_nil_b, *];done)),H',⟨by have:=HJ19.out;have:=HJ47.out;first | omega|exact Nat.le_refl _⟩,⟨by (with_reducible repeat (first|apply Kd.R_alloc|apply Kd.R_drewN|apply Kd.R_drew));exact Kd.R_mono HO_11.out (fun _ hk => trivial)⟩,⟨by (with_reducible repeat (first|refine bDn ?_ _|refine bDr ?_|refine bAl ?_ _));exact BK982.out⟩,⟨by repeat (first|(with_reducible first|exact HB.out|apply bwA|apply bwN|apply bw1|refine below_set ?_ GE982.out)|exact HB.out)⟩⟩
            case rest =>
             clear HC73
             try clear c1
             try clear c2
             try clear p2
             try clear c3
             try clear c4
             try clear c5
             try clear c5b0
             try clear c6
             try clear c8
             try clear c9
             try clear c9b0
             try clear c14
             try clear c26
             try clear c28
             try clear c30
             try clear c36
             try clear c43
             try clear c46
             try clear c47
             try clear c48
             try clear c51
             try clear c52
             try clear c53
             try clear c53b0
             try clear c54
             try clear c55
             try clear c62
             try clear c65
             try clear c65b0
             try clear c69
             try clear c69b0
             try clear c69b1
             try clear c83
             try clear hcz12_0
             try clear hcz12_1
             try clear hcz12_2
             try clear hcz12_3
             try clear hcz12_4
             try clear hcz12_5
             try clear hcz12_6
             try clear hcz12_7
             try clear hcz12_8
             try clear hcz23_0
             try clear hcz23_1
             try clear hcz23_2
             try clear hcz23_3
             try clear hcz23_4
             try clear hcz23_5
             try clear hcz23_6
             try clear hcz23_7
             try clear hcz23_8
             try clear hcz31_0
             try clear hcz31_1
             try clear hcz31_2
             try clear hcz31_3
             try clear hcz31_4
             try clear hcz31_5
             try clear hcz31_6
             try clear hcz31_7
             try clear hcz31_8
             try clear hfz12_0
             try clear hfz12_1
             try clear hfz12_2
             try clear hfz12_3
             try clear hfz12_4
             try clear hfz12_5
             try clear hfz12_6
             try clear hfz12_7
             try clear hfz12_8
             try clear hfz23_0
             try clear hfz23_1
             try clear hfz23_2
             try clear hfz23_3
             try clear hfz23_4
             try clear hfz23_5
             try clear hfz23_6
             try clear hfz23_7
             try clear hfz23_8
             try clear hfz31_0
             try clear hfz31_1
             try clear hfz31_2
             try clear hfz31_3
             try clear hfz31_4
             try clear hfz31_5
             try clear hfz31_6
             try clear hfz31_7
             try clear hfz31_8
             try clear p2
             obtain ⟨kq,x105_72,rfl,HA,HJ72,HO_11,BK982,HB⟩:=hcut
             have hl11_72:=(Kd.R_reads' HO_11.out).1
             rw [hl11_72] at HO_11
             (try simp only [hl11_72])
             (try simp only [hl11_72] at BK982)
             cases kq with
             | zero => exact absurd HA.out (by simp [laws_FnExactFlowOpen.j2])
             | succ kj72 =>
              have H:=HA.out
              clear HA
              simp only [laws_FnExactFlowOpen.j2] at H
              by_cases c90 : x105_72 = true
              ·subst c90
               have H1 : (some false) = some r:=by rw [if_pos rfl] at H;exact H
               clear H
               have H:=H1
               clear H1
               obtain rfl:=Option.some.inj H
               go_wp2
               go_ret
               exact ⟨by first | rfl|(simp [errW_none,errW_some] <;> rfl)|(simp [*,errW_none,errW_some] <;> rfl),by repeat (first|(with_reducible first|exact HB.out|apply bwA|apply bwN|apply bw1|refine below_set ?_ GE982.out)|exact HB.out)⟩
              ·replace c90:=Bool.eq_false_iff.mpr c90
               subst c90
               have H1 : ((laws_heldFlowS.f kj72 t1026 1).bind fun t1045 => (if t1045 < 0 then (some false) else (if t1045 = t1025 then (some true) else (some false)))) = some r:=by rw [if_neg (show ¬ (false = true) by decide)] at H;exact H
               clear H
               have H:=H1
               clear H1
               replace H:=Option.bind_eq_some_iff.mp H
               obtain ⟨t1045,A910,H⟩:=H
               replace H : (if t1045 < 0 then (some false) else (if t1045 = t1025 then (some true) else (some false))) = some r:=H
               have A91:=aMk A910
               clear A910
               by_cases c92 : t1045 < 0
               ·rw [if_pos c92] at H
                have c92b0 : decide (t1045 < 0) = true:=decide_eq_true c92
                clear c92
                obtain rfl:=Option.some.inj H
                go_wp2_with (first|((with_reducible refine gate_callee (f:=48) rfl ?_);refine goesL_ (some 108) rfl rfl Try.func48 (by kernel_rfl) rfl #[.slice Ao74 t1026.length co74,.int .i64 1] rfl (by (try simp only [List.map_toArray,List.map_cons,List.map_nil]);first | done | rfl|(simp only [List.length_drop,List.length_take];rfl)) ?_;(with_reducible refine (laws_heldFlowS.calls kj72 _ _ t1026 1 t1045 _ ?side1 ?side2 A91.out).mono ?_);(case side1 => repeat (first|exact (Kd.R_reads' HO_11.out).2.2|(with_reducible refine Kd.C_alloc ?_ _)|(with_reducible refine Kd.C_drewN ?_ _)|(with_reducible refine Kd.C_drew ?_)));(case side2 => exact (Kd.R_reads' HO_11.out).2.1);rintro e w93 ⟨rfl,hb⟩;refine ⟨_,rfl,?_⟩;have n0_:=aMk (Kd.R_below (by (with_reducible repeat (first|apply Kd.R_alloc|apply Kd.R_drewN|apply Kd.R_drew));exact HO_11.out) hb);have n1_:=aMk (blk_below (g:=gb982) (o:=.cells #[.int .i64 a1_0,.string a1_1,.int .i64 a1_2,.int .i64 a1_3,.int .i64 a1_4,.int .i64 a1_5,.int .i64 a1_6,.int .i64 a1_7,.int .i64 a1_8] 68 (0,0)) (by (with_reducible repeat (first|refine bDn ?_ _|refine bDr ?_|refine bAl ?_ _));exact BK982.out) hb);have n2_:=aMk (below_step (by repeat (first|(with_reducible first|exact HB.out|apply bwA|apply bwN|apply bw1|refine below_set ?_ GE982.out)|exact HB.out)) hb);clear HO_11;clear BK982;clear HB;have HO_11:=n0_;have BK982:=n1_;have HB:=n2_;clear n0_ n1_ n2_;(try clear hb);(try clear hb2);(try clear hk);(try clear hi)))
                go_ret
                exact ⟨by first | rfl|(simp [errW_none,errW_some] <;> rfl)|(simp [*,errW_none,errW_some] <;> rfl),by repeat (first|(with_reducible first|exact HB.out|apply bwA|apply bwN|apply bw1|refine below_set ?_ GE982.out)|exact HB.out)⟩
               ·rw [if_neg c92] at H
                have c92b0 : decide (t1045 < 0) = false:=decide_eq_false c92
                clear c92
                by_cases c94 : t1045 = t1025
                ·rw [if_pos c94] at H
                 have c94b0 : (t1045 == t1025) = true:=beq_iff_eq.mpr c94
                 have c94b1 : (t1045 != t1025) = false:=bne_eq_false_iff_eq.mpr c94
                 clear c94
                 obtain rfl:=Option.some.inj H
                 go_wp2_with (first|((with_reducible refine gate_callee (f:=48) rfl ?_);refine goesL_ (some 108) rfl rfl Try.func48 (by kernel_rfl) rfl #[.slice Ao74 t1026.length co74,.int .i64 1] rfl (by (try simp only [List.map_toArray,List.map_cons,List.map_nil]);first | done | rfl|(simp only [List.length_drop,List.length_take];rfl)) ?_;(with_reducible refine (laws_heldFlowS.calls kj72 _ _ t1026 1 t1045 _ ?side1 ?side2 A91.out).mono ?_);(case side1 => repeat (first|exact (Kd.R_reads' HO_11.out).2.2|(with_reducible refine Kd.C_alloc ?_ _)|(with_reducible refine Kd.C_drewN ?_ _)|(with_reducible refine Kd.C_drew ?_)));(case side2 => exact (Kd.R_reads' HO_11.out).2.1);rintro e w95 ⟨rfl,hb⟩;refine ⟨_,rfl,?_⟩;have n0_:=aMk (Kd.R_below (by (with_reducible repeat (first|apply Kd.R_alloc|apply Kd.R_drewN|apply Kd.R_drew));exact HO_11.out) hb);have n1_:=aMk (blk_below (g:=gb982) (o:=.cells #[.int .i64 a1_0,.string a1_1,.int .i64 a1_2,.int .i64 a1_3,.int .i64 a1_4,.int .i64 a1_5,.int .i64 a1_6,.int .i64 a1_7,.int .i64 a1_8] 68 (0,0)) (by (with_reducible repeat (first|refine bDn ?_ _|refine bDr ?_|refine bAl ?_ _));exact BK982.out) hb);have n2_:=aMk (below_step (by repeat (first|(with_reducible first|exact HB.out|apply bwA|apply bwN|apply bw1|refine below_set ?_ GE982.out)|exact HB.out)) hb);clear HO_11;clear BK982;clear HB;have HO_11:=n0_;have BK982:=n1_;have HB:=n2_;clear n0_ n1_ n2_;(try clear hb);(try clear hb2);(try clear hk);(try clear hi)))
                 go_ret
                 exact ⟨by first | rfl|(simp [errW_none,errW_some] <;> rfl)|(simp [*,errW_none,errW_some] <;> rfl),by repeat (first|(with_reducible first|exact HB.out|apply bwA|apply bwN|apply bw1|refine below_set ?_ GE982.out)|exact HB.out)⟩
                ·rw [if_neg c94] at H
                 have c94b0 : (t1045 == t1025) = false:=beq_eq_false_iff_ne.mpr c94
                 have c94b1 : (t1045 != t1025) = true:=bne_iff_ne.mpr c94
                 obtain rfl:=Option.some.inj H
                 go_wp2_with (first|((with_reducible refine gate_callee (f:=48) rfl ?_);refine goesL_ (some 108) rfl rfl Try.func48 (by kernel_rfl) rfl #[.slice Ao74 t1026.length co74,.int .i64 1] rfl (by (try simp only [List.map_toArray,List.map_cons,List.map_nil]);first | done | rfl|(simp only [List.length_drop,List.length_take];rfl)) ?_;(with_reducible refine (laws_heldFlowS.calls kj72 _ _ t1026 1 t1045 _ ?side1 ?side2 A91.out).mono ?_);(case side1 => repeat (first|exact (Kd.R_reads' HO_11.out).2.2|(with_reducible refine Kd.C_alloc ?_ _)|(with_reducible refine Kd.C_drewN ?_ _)|(with_reducible refine Kd.C_drew ?_)));(case side2 => exact (Kd.R_reads' HO_11.out).2.1);rintro e w96 ⟨rfl,hb⟩;refine ⟨_,rfl,?_⟩;have n0_:=aMk (Kd.R_below (by (with_reducible repeat (first|apply Kd.R_alloc|apply Kd.R_drewN|apply Kd.R_drew));exact HO_11.out) hb);have n1_:=aMk (blk_below (g:=gb982) (o:=.cells #[.int .i64 a1_0,.string a1_1,.int .i64 a1_2,.int .i64 a1_3,.int .i64 a1_4,.int .i64 a1_5,.int .i64 a1_6,.int .i64 a1_7,.int .i64 a1_8] 68 (0,0)) (by (with_reducible repeat (first|refine bDn ?_ _|refine bDr ?_|refine bAl ?_ _));exact BK982.out) hb);have n2_:=aMk (below_step (by repeat (first|(with_reducible first|exact HB.out|apply bwA|apply bwN|apply bw1|refine below_set ?_ GE982.out)|exact HB.out)) hb);clear HO_11;clear BK982;clear HB;have HO_11:=n0_;have BK982:=n1_;have HB:=n2_;clear n0_ n1_ n2_;(try clear hb);(try clear hb2);(try clear hk);(try clear hi)))
                 go_ret
                 exact ⟨by first | rfl|(simp [errW_none,errW_some] <;> rfl)|(simp [*,errW_none,errW_some] <;> rfl),by repeat (first|(with_reducible first|exact HB.out|apply bwA|apply bwN|apply bw1|refine below_set ?_ GE982.out)|exact HB.out)⟩
           ·rw [if_neg c69] at H
            have c69b0 : (t1027 == t1025) = false:=beq_eq_false_iff_ne.mpr c69
            have c69b1 : (t1027 != t1025) = true:=bne_iff_ne.mpr c69
            obtain rfl:=Option.some.inj H
            obtain ⟨Ao97,co97,eo97⟩:=Kd.R_slice HO_11.out
            subst eo97
            go_wp2_with (first|((with_reducible refine gate_callee (f:=47) rfl ?_);refine goesL_ (some 79) rfl rfl Try.func47 (by kernel_rfl) rfl #[.slice Ao97 t1013.length co97,.int .i64 1] rfl (by (try simp only [List.map_toArray,List.map_cons,List.map_nil]);first | done | rfl|(simp only [List.length_drop,List.length_take];rfl)) ?_;(with_reducible refine (laws_markFlowS.calls kj47 (fun k_ => some k_ = (.slice Ao97 t1013.length co97 : Value).ownBlock) (.slice Ao97 t1013.length co97) t1013 1 t1025 t1026 w _ ?side1 ?side2 A63.out).mono ?_);(case side1 => repeat (first|(with_reducible first|exact HB.out|apply bwA|apply bwN|apply bw1|refine below_set ?_ GE982.out)|exact HB.out));(case side2 => exact Kd.R_tight rfl HO_11.out);rintro e w98 ⟨rfl,hy0,hb,hkp⟩;refine ⟨_,rfl,?_⟩;have n0_:=aMk (Kd.R_mono (ok':=fun k_ => some k_ ≠ (.slice Ao97 t1013.length co97 : Value).ownBlock) (Kd.R_keptB (HO_8.out) hkp (fun k_ hk_ hs_ => (hk_) hs_)) (fun k_ hk_ => hk_.1));have n1_:=aMk (Kd.R_reok rfl hy0 (fun k_ e_ => HO_11.out.1 k_ e_));have n2_:=aMk (blk_kept (by (with_reducible repeat (first|refine bDn ?_ _|refine bDr ?_|refine bAl ?_ _));exact BK982.out) hkp (fun hs_ => (fun e_ => (Kd.R_ne HO_11.out BK982.out (by decide)) e_) hs_));have n3_:=aMk (hb);clear HO_8;clear HO_11;clear BK982;clear HB;have HO_8:=n0_;have HO_11:=n1_;have BK982:=n2_;have HB:=n3_;clear n0_ n1_ n2_ n3_;(try clear hb);(try clear hkp);(try clear hy0))|((with_reducible refine gate_callee (f:=48) rfl ?_);refine goesL_ (some 82) rfl rfl Try.func48 (by kernel_rfl) rfl #[.slice Ao97 t1026.length co97,.int .i64 1] rfl (by (try simp only [List.map_toArray,List.map_cons,List.map_nil]);first | done|(rw [show t1026.length = t1013.length from (Kd.R_reads' HO_11.out).1.symm] <;> rfl) | rfl|(simp only [List.length_drop,List.length_take];rfl)) ?_;(with_reducible refine (laws_heldFlowS.calls kj47 _ _ t1026 1 t1027 _ ?side1 ?side2 A64.out).mono ?_);(case side1 => repeat (first|exact (Kd.R_reads' HO_11.out).2.2|(with_reducible refine Kd.C_alloc ?_ _)|(with_reducible refine Kd.C_drewN ?_ _)|(with_reducible refine Kd.C_drew ?_)));(case side2 => rw [show t1026.length = t1013.length from (Kd.R_reads' HO_11.out).1.symm];exact (Kd.R_reads' HO_11.out).2.1);rintro e w99 ⟨rfl,hb⟩;refine ⟨_,rfl,?_⟩;have n0_:=aMk (Kd.R_below (by (with_reducible repeat (first|apply Kd.R_alloc|apply Kd.R_drewN|apply Kd.R_drew));exact HO_8.out) hb);have n1_:=aMk (Kd.R_below (by (with_reducible repeat (first|apply Kd.R_alloc|apply Kd.R_drewN|apply Kd.R_drew));exact HO_11.out) hb);have n2_:=aMk (blk_below (g:=gb982) (o:=.cells #[.int .i64 a1_0,.string a1_1,.int .i64 a1_2,.int .i64 a1_3,.int .i64 a1_4,.int .i64 a1_5,.int .i64 a1_6,.int .i64 a1_7,.int .i64 a1_8] 68 (0,0)) (by (with_reducible repeat (first|refine bDn ?_ _|refine bDr ?_|refine bAl ?_ _));exact BK982.out) hb);have n3_:=aMk (below_step (by repeat (first|(with_reducible first|exact HB.out|apply bwA|apply bwN|apply bw1|refine below_set ?_ GE982.out)|exact HB.out)) hb);clear HO_8;clear HO_11;clear BK982;clear HB;have HO_8:=n0_;have HO_11:=n1_;have BK982:=n2_;have HB:=n3_;clear n0_ n1_ n2_ n3_;(try clear hb);(try clear hb2);(try clear hk);(try clear hi)))
            go_ret
            exact ⟨by first | rfl|(simp [errW_none,errW_some] <;> rfl)|(simp [*,errW_none,errW_some] <;> rfl),by repeat (first|(with_reducible first|exact HB.out|apply bwA|apply bwN|apply bw1|refine below_set ?_ GE982.out)|exact HB.out)⟩
      ·replace c46:=Bool.eq_false_iff.mpr c46
       subst c46
       have H1 : (some false) = some r:=by rw [if_neg (show ¬ (false = true) by decide)] at H;exact H
       clear H
       have H:=H1
       clear H1
       obtain rfl:=Option.some.inj H
       go_wp2_with (first|((with_reducible refine gate_callee (f:=28) rfl ?_);refine goesL_ (some 58) rfl rfl Try.func28 (by kernel_rfl) rfl #[.slice A0 l0.length c0] rfl (by (try simp only [List.map_toArray,List.map_cons,List.map_nil]);first | done | rfl|(simp only [List.length_drop,List.length_take];rfl)) ?_;(with_reducible refine (laws_toFlowS.calls kj19 _ _ l0 t1018 _ ?side1 ?side2 A44.out).mono ?_);(case side1 => repeat (first|exact (Kd.C_below HR0.out HB.out)|(with_reducible refine Kd.C_alloc ?_ _)|(with_reducible refine Kd.C_drewN ?_ _)|(with_reducible refine Kd.C_drew ?_)));(case side2 => exact HC0.out);rintro e w100 ⟨v1019,rfl,ho0,hb⟩;refine ⟨_,rfl,?_⟩;have n0_:=aMk (Kd.R_elder' (by (with_reducible repeat (first|apply Kd.R_alloc|apply Kd.R_drewN|apply Kd.R_drew));exact HO_8.out) (Kd.R_base ho0) hb);have n1_:=aMk (Kd.R_elder' (by (with_reducible repeat (first|apply Kd.R_alloc|apply Kd.R_drewN|apply Kd.R_drew));exact HO_10.out) (Kd.R_base ho0) hb);have n2_:=aMk (Kd.R_elder' (by (with_reducible repeat (first|apply Kd.R_alloc|apply Kd.R_drewN|apply Kd.R_drew));exact HO_11.out) (Kd.R_base ho0) hb);have n3_:=aMk (Kd.R_lower (Kd.R_new' (Kd.R_new' (Kd.R_new' ho0 (Kd.R_lt (by (with_reducible repeat (first|apply Kd.R_alloc|apply Kd.R_drewN|apply Kd.R_drew));exact HO_8.out))) (Kd.R_lt (by (with_reducible repeat (first|apply Kd.R_alloc|apply Kd.R_drewN|apply Kd.R_drew));exact HO_10.out))) (Kd.R_lt (by (with_reducible repeat (first|apply Kd.R_alloc|apply Kd.R_drewN|apply Kd.R_drew));exact HO_11.out))) (below_size (by repeat (first|(with_reducible first|exact HB.out|apply bwA|apply bwN|apply bw1|refine below_set ?_ GE982.out)|exact HB.out))));have n4_:=aMk (blk_below (g:=gb982) (o:=.cells #[.int .i64 a1_0,.string a1_1,.int .i64 a1_2,.int .i64 a1_3,.int .i64 a1_4,.int .i64 a1_5,.int .i64 a1_6,.int .i64 a1_7,.int .i64 a1_8] 68 (0,0)) (by (with_reducible repeat (first|refine bDn ?_ _|refine bDr ?_|refine bAl ?_ _));exact BK982.out) hb);have n5_:=aMk (below_step (by repeat (first|(with_reducible first|exact HB.out|apply bwA|apply bwN|apply bw1|refine below_set ?_ GE982.out)|exact HB.out)) hb);clear HO_8;clear HO_10;clear HO_11;clear BK982;clear HB;have HO_8:=n0_;have HO_10:=n1_;have HO_11:=n2_;have HO1020:=n3_;have BK982:=n4_;have HB:=n5_;clear n0_ n1_ n2_ n3_ n4_ n5_;(try clear hb);(try clear hb2);(try clear hk);(try clear hi);(try clear ho0);obtain ⟨Ao101,co101,eo101⟩:=Kd.R_slice HO1020.out;subst eo101)|((with_reducible refine gate_callee (f:=30) rfl ?_);refine goesL_ (some 59) rfl rfl Try.func30 (by kernel_rfl) rfl #[.slice Ao33 t1001.length co33,.slice Ao101 t1018.length co101] rfl (by (try simp only [List.map_toArray,List.map_cons,List.map_nil]);first | done | rfl|(simp only [List.length_drop,List.length_take];rfl)) ?_;(with_reducible refine (laws_eqFlowS.calls kj19 _ _ t1001 _ _ t1018 false _ ?side1 ?side2 ?side3 ?side4 A45.out).mono ?_);(case side1 => repeat (first|exact (Kd.R_reads' HO_10.out).2.2|(with_reducible refine Kd.C_alloc ?_ _)|(with_reducible refine Kd.C_drewN ?_ _)|(with_reducible refine Kd.C_drew ?_)));(case side2 => exact (Kd.R_reads' HO_10.out).2.1);(case side3 => repeat (first|exact (Kd.R_reads' HO1020.out).2.2|(with_reducible refine Kd.C_alloc ?_ _)|(with_reducible refine Kd.C_drewN ?_ _)|(with_reducible refine Kd.C_drew ?_)));(case side4 => exact (Kd.R_reads' HO1020.out).2.1);rintro e w102 ⟨rfl,hb⟩;refine ⟨_,rfl,?_⟩;have n0_:=aMk (Kd.R_below (by (with_reducible repeat (first|apply Kd.R_alloc|apply Kd.R_drewN|apply Kd.R_drew));exact HO_8.out) hb);have n1_:=aMk (Kd.R_below (by (with_reducible repeat (first|apply Kd.R_alloc|apply Kd.R_drewN|apply Kd.R_drew));exact HO_10.out) hb);have n2_:=aMk (Kd.R_below (by (with_reducible repeat (first|apply Kd.R_alloc|apply Kd.R_drewN|apply Kd.R_drew));exact HO_11.out) hb);have n3_:=aMk (Kd.R_below (by (with_reducible repeat (first|apply Kd.R_alloc|apply Kd.R_drewN|apply Kd.R_drew));exact HO1020.out) hb);have n4_:=aMk (blk_below (g:=gb982) (o:=.cells #[.int .i64 a1_0,.string a1_1,.int .i64 a1_2,.int .i64 a1_3,.int .i64 a1_4,.int .i64 a1_5,.int .i64 a1_6,.int .i64 a1_7,.int .i64 a1_8] 68 (0,0)) (by (with_reducible repeat (first|refine bDn ?_ _|refine bDr ?_|refine bAl ?_ _));exact BK982.out) hb);have n5_:=aMk (below_step (by repeat (first|(with_reducible first|exact HB.out|apply bwA|apply bwN|apply bw1|refine below_set ?_ GE982.out)|exact HB.out)) hb);clear HO_8;clear HO_10;clear HO_11;clear HO1020;clear BK982;clear HB;have HO_8:=n0_;have HO_10:=n1_;have HO_11:=n2_;have HO1020:=n3_;have BK982:=n4_;have HB:=n5_;clear n0_ n1_ n2_ n3_ n4_ n5_;(try clear hb);(try clear hb2);(try clear hk);(try clear hi)))
       go_ret
       exact ⟨by first | rfl|(simp [errW_none,errW_some] <;> rfl)|(simp [*,errW_none,errW_some] <;> rfl),by repeat (first|(with_reducible first|exact HB.out|apply bwA|apply bwN|apply bw1|refine below_set ?_ GE982.out)|exact HB.out)⟩
end
section
-- IMPORT Derived.SizedLaws
-- IMPORT Derived.ProofKit
-- IMPORT Derived.WalkKit
-- IMPORT Derived.OpenShut
-- IMPORT Derived.ShutString
-- IMPORT Derived.ChangeOld
-- IMPORT Derived.Below
-- IMPORT Derived.Deep.Slices
open Go.ChangeShapes Go.WideShapes Go.ChangeAt Go.Deep
/-- What reads as data of type t is a value of the kind d,and meets wf. -/
structure Opens (P : Program) (t : TypeId) {α : Type} (d : Kd α) (wf : α → Prop) : Prop where
 sz : P.cellsOf t = d.sz
 op : ∀ {H : Type} {enc : TypeId × Value → H} {w : World} {fuel : Nat} {cs : List Value} {y : DataW H × List MemPlace},DataW.trod enc P w 0 (fun _ => true) true fuel t cs = some y → (∀ n ∈ y.1.weights P t,n ≤ reachBytes) → ∃ x,d.K w x cs ∧ wf x
theorem Opens.int {P : Program} {t : TypeId} {k : IntKind} (hu : P.underlying t = some (.int k)) (hc : P.cellsOf t = 1) : Opens P t (Kd.int k) (fun n => (Lit.int k n).wf = true) :=
 ⟨hc,fun h _ => by obtain ⟨n,rfl,rfl,wf⟩:=DataW.trod_int hu h;exact ⟨n,rfl,wf⟩⟩
theorem Opens.bool {P : Program} {t : TypeId} (hu : P.underlying t = some .bool) (hc : P.cellsOf t = 1) : Opens P t Kd.bool (fun _ => True) :=
 ⟨hc,fun h _ => by obtain ⟨n,rfl,rfl⟩:=DataW.trod_bool hu h;exact ⟨n,rfl,trivial⟩⟩
theorem Opens.string {P : Program} {t : TypeId} (hu : P.underlying t = some .string) (hc : P.cellsOf t = 1) : Opens P t Kd.string (fun s => s.size ≤ 140737488351232) :=
 ⟨hc,fun h hw => by
  obtain ⟨s,rfl,rfl,_⟩:=DataW.trod_string hu h
  refine ⟨s,rfl,?_⟩
  have:=hw s.data.toList.length (by simp [DataW.weights])
  simpa [reachBytes] using this⟩
theorem weights_mem_all {H : Type} {P : Program} {e : TypeId} {n : Nat} : ∀ {l : List (DataW H)} {d : DataW H},d ∈ l → n ∈ d.weights P e → n ∈ DataW.weightsAll P e l
 | d0 :: l,d,hd,hn => by
  simp only [DataW.weightsAll,List.mem_append]
  rcases List.mem_cons.1 hd with rfl | hd
  ·exact .inl hn
  ·exact .inr (weights_mem_all hd hn)
 | [],_,hd,_ => by cases hd
theorem list_of_all {α : Type} {Q : Nat → α → Prop} (n : Nat) (h : ∀ i,i < n → ∃ x,Q i x) : ∃ xs : List α,xs.length = n ∧ ∀ j x,xs[j]? = some x → Q j x:=by
 induction n with
 | zero => exact ⟨[],rfl,fun j x h => by simp at h⟩
 | succ n ih =>
  obtain ⟨xs,hl,hx⟩:=ih (fun i hi => h i (by omega))
  obtain ⟨x,hq⟩:=h n (by omega)
  refine ⟨xs ++ [x],by simp [hl],fun j y hj => ?_⟩
  rcases Nat.lt_or_ge j xs.length with hlt | hge
  ·rw [List.getElem?_append_left hlt] at hj
   exact hx j y hj
  ·rw [List.getElem?_append_right hge] at hj
   have : j - xs.length = 0:=by
    rcases Nat.lt_or_ge (j - xs.length) 1 with h1 | h1
    ·omega
    ·rw [List.getElem?_eq_none (by simpa using h1)] at hj;cases hj
   rw [this] at hj
   simp at hj
   subst hj
   have : j = n:=by omega
   subst this
   exact hq
theorem Opens.slice {α : Type} {P : Program} {t e : TypeId} {d : Kd α} {wf : α → Prop} (hu : P.underlying t = some (.slice e)) (hc : P.cellsOf t = 1) (B : Nat) (hB : P.bytesOf e = B) (he : Opens P e d wf) :
  Opens P t (Kd.slice e d) (fun xs => xs.length * B ≤ 140737488351232 ∧ xs.length ≤ maxLen ∧ ∀ x ∈ xs,wf x) :=
 ⟨hc,fun {H enc w fuel cs y} h hw => by
  rcases open_slice hu h with ⟨rfl,rfl⟩ | ⟨a,len,cap,m,n,D,Pl,rfl,_,hl,hm,hmm,rfl,hel⟩
  ·exact ⟨[],⟨none,0,rfl,Nat.le_refl _,Kd.C_nil d w⟩,by simp,by simp,fun x hx => by cases hx⟩
  have hmc : m = cap:=by rw [hmm];rfl
  subst hmc
  have hwt : ∀ i,i < len → ∀ z ∈ (D i).weights P e,z ≤ reachBytes:=fun i hi z hz => hw z (by
   simp only [DataW.weights,hu]
   exact List.mem_cons_of_mem _ (List.mem_append_left _ (weights_mem_all (List.mem_map.2 ⟨i,List.mem_range.2 hi,rfl⟩) hz)))
  have hall : ∀ i,i < len → ∃ x : α,(∃ c,c.length = d.sz ∧ d.K w x c ∧ ∀ j u,c[j]? = some u → w.cell? (a.add (i * d.sz + j)) = some u) ∧ wf x:=by
   intro i hi
   obtain ⟨cs',hcs,htr⟩:=hel i (by omega)
   obtain ⟨x,hk,hx⟩:=he.op htr (hwt i hi)
   obtain ⟨_,hlen,hcell⟩:=World.cells?_some hcs
   refine ⟨x,⟨cs',by rw [hlen,he.sz],hk,fun j u hu' => ?_⟩,hx⟩
   have hj : j < cs'.length:=by
    rcases Nat.lt_or_ge j cs'.length with h1 | h1
    ·exact h1
    ·rw [List.getElem?_eq_none h1] at hu';cases hu'
   rw [hlen] at hj
   have hcj:=hcell j hj
   rw [hu',he.sz,Addr.add_add] at hcj
   exact hcj
  obtain ⟨xs,hxl,hxs⟩:=list_of_all (Q:=fun i x => (∃ c,c.length = d.sz ∧ d.K w x c ∧ ∀ j u,c[j]? = some u → w.cell? (a.add (i * d.sz + j)) = some u) ∧ wf x) len hall
  subst hxl
  refine ⟨xs,⟨some a,m,rfl,hl,rfl,?_,fun _ => ⟨a,rfl,fun j p hp => (hxs j p hp).1⟩⟩,?_,?_,?_⟩
  ·unfold maxLen at hm;omega
  ·have:=hw ((List.map D (List.range xs.length)).length + (List.map (fun j => D (xs.length + j)) (List.range (m - xs.length))).length) |> fun h => h
   have h1:=hw (((List.map D (List.range xs.length)).length + (List.map (fun j => D (xs.length + j)) (List.range (m - xs.length))).length) * P.bytesOf e) (by simp only [DataW.weights,hu];exact List.mem_cons_self)
   rw [hB] at h1
   simp only [List.length_map,List.length_range] at h1
   have h2 : xs.length * B ≤ (xs.length + (m - xs.length)) * B:=Nat.mul_le_mul_right _ (by omega)
   exact Nat.le_trans h2 h1
  ·omega
  ·intro x hx
   obtain ⟨j,hj,rfl⟩:=List.getElem_of_mem hx
   exact (hxs j _ (List.getElem?_eq_getElem hj)).2⟩
/-- Fields in line from cell o on. -/
structure OpensF (P : Program) (fs : List Field) (o : Nat) {α : Type} (d : Kd α) (wf : α → Prop) : Prop where
 op : ∀ {H : Type} {enc : TypeId × Value → H} {w : World} {n : Nat} {cs : List Value} {xs : List (DataW H × List MemPlace)},o + d.sz ≤ cs.length → xs.length = fs.length →
  (∀ (i : Nat) (f : Field),fs[i]? = some f → DataW.trod enc P w 0 (fun _ => true) true n f.type ((cs.drop f.offset).take (P.cellsOf f.type)) = xs[i]?) →
  (∀ z ∈ DataW.weightsEach P (fs.map (·.type)) (xs.map (·.1)),z ≤ reachBytes) → ∃ x,d.K w x ((cs.drop o).take d.sz) ∧ wf x
theorem OpensF.one {α : Type} {P : Program} {f : Field} {o : Nat} {d : Kd α} {wf : α → Prop} (ho : f.offset = o) (h : Opens P f.type d wf) : OpensF P [f] o d wf:=by
 refine ⟨fun {H enc w n cs xs} hlen hxl htr hw => ?_⟩
 match xs,hxl with
 | [y],_ =>
  have h1:=htr 0 f rfl
  rw [ho,h.sz] at h1
  exact h.op (y:=y) h1 (fun z hz => hw z (by simpa [DataW.weightsEach] using hz))
theorem OpensF.cons {α β : Type} {P : Program} {f : Field} {fs : List Field} {o : Nat} {a : Kd α} {b : Kd β} {wa : α → Prop} {wb : β → Prop} (ho : f.offset = o) (h : Opens P f.type a wa) (o' : Nat) (ho' : o + a.sz = o') (hr : OpensF P fs o' b wb) :
  OpensF P (f :: fs) o (Kd.pair a b) (fun x => wa x.1 ∧ wb x.2):=by
 refine ⟨fun {H enc w n cs xs} hlen hxl htr hw => ?_⟩
 match xs,hxl with
 | y :: ys,hxl =>
  have h1:=htr 0 f rfl
  rw [ho,h.sz] at h1
  have hsz : (Kd.pair a b).sz = a.sz + b.sz:=rfl
  rw [hsz] at hlen
  obtain ⟨x0,k0,w0⟩:=h.op (y:=y) h1 (fun z hz => hw z (by simp only [List.map_cons,DataW.weightsEach,List.mem_append];exact .inl hz))
  obtain ⟨x1,k1,w1⟩:=hr.op (n:=n) (cs:=cs) (xs:=ys) (enc:=enc) (w:=w) (by omega) (by simpa using hxl) (fun i g hg => by have:=htr (i + 1) g (by simpa using hg);simpa using this) (fun z hz => hw z (by simp only [List.map_cons,DataW.weightsEach,List.mem_append];exact .inr hz))
  refine ⟨(x0,x1),⟨(cs.drop o).take a.sz,(cs.drop o').take b.sz,?_,k0,k1⟩,w0,w1⟩
  rw [hsz,← ho',List.take_add,List.drop_drop]
theorem Opens.struct {α : Type} {P : Program} {t : TypeId} {fs : Array Field} {d : Kd α} {wf : α → Prop} (hu : P.underlying t = some (.struct fs)) (hc : P.cellsOf t = d.sz) (h : OpensF P fs.toList 0 d wf) : Opens P t d wf :=
 ⟨hc,fun {H enc w fuel cs y} ht hw => by
  obtain ⟨xs,n,rfl,rfl,hlen,hxl,htr⟩:=DataW.trod_struct hu ht
  obtain ⟨x,hk,hx⟩:=h.op (enc:=enc) (w:=w) (n:=n) (cs:=cs) (xs:=xs) (by omega) (by simpa using hxl) (fun i f hf => htr i f (by simpa using hf)) (fun z hz => hw z (by simp only [DataW.weights,hu];exact hz))
  refine ⟨x,?_,hx⟩
  rw [List.drop_zero,List.take_of_length_le (by omega)] at hk
  exact hk⟩
theorem Opens.iso {α β : Type} {P : Program} {t : TypeId} {d : Kd α} {wf : α → Prop} (f : β → α) (g : α → β) (hfg : ∀ x,f (g x) = x) (h : Opens P t d wf) : Opens P t (Kd.iso d f) (fun x => wf (f x)) :=
 ⟨h.sz,fun ht hw => by
  obtain ⟨x,hk,hx⟩:=h.op ht hw
  exact ⟨g x,by show d.K _ (f (g x)) _;rw [hfg];exact hk,by rw [hfg];exact hx⟩⟩
end
section
-- IMPORT Derived.Laws.BitsLemmas
-- IMPORT Derived.OpenShut
theorem wrap_id {n : Int} (h0 : -9223372036854775808 ≤ n) (h1 : n ≤ 9223372036854775807) : wrap64 n = n:=by
 unfold wrap64;omega
end
section
/-! ### spec_l07Ask: function 69 -/
def spec_l07Ask.f (a0 : Int) (a1 : Int) : Option (Bool):=(spec_l01Ip.f a0).bind fun t147 => (if t147 = true then ((spec_l02Port.f a1).bind fun t148 => (some t148)) else (some false))
set_option maxHeartbeats 8000000 in
set_option maxRecDepth 100000 in
theorem spec_l07Ask.calls (a0 : Int) (a1 : Int) (r : Bool) (w : World) (h : spec_l07Ask.f a0 a1 = some r) :
  Calls Try.prog 69 #[.int .i64 a0,.int .i64 a1] w fun e w' => e = .returned (.bool r) ∧ Drawn0 w w':=by
 have H : ((spec_l01Ip.f a0).bind fun t147 => (if t147 = true then ((spec_l02Port.f a1).bind fun t148 => (some t148)) else (some false))) = some r:=h
 clear h
 replace H:=Option.bind_eq_some_iff.mp H
 obtain ⟨t147,A30,H⟩:=H
 replace H : (if t147 = true then ((spec_l02Port.f a1).bind fun t148 => (some t148)) else (some false)) = some r:=H
 have A3:=aMk A30
 clear A30
 by_cases c4 : t147 = true
 ·subst c4
  have H1 : ((spec_l02Port.f a1).bind fun t148 => (some t148)) = some r:=by rw [if_pos rfl] at H;exact H
  clear H
  have H:=H1
  clear H1
  replace H:=Option.bind_eq_some_iff.mp H
  obtain ⟨t148,A50,H⟩:=H
  replace H : (some t148) = some r:=H
  have A5:=aMk A50
  clear A50
  obtain rfl:=Option.some.inj H
  go_enter Try.func69,Try.ntmps69
  go_wp2_with (first|((with_reducible refine gate_callee (f:=59) rfl ?_);refine goesL_ (some 6) rfl rfl Try.func59 (by kernel_rfl) rfl #[.int .i64 a0] rfl (by (try simp only [List.map_toArray,List.map_cons,List.map_nil]);first | done | rfl|(simp only [List.length_drop,List.length_take];rfl)) ?_;(with_reducible refine (spec_l01Ip.calls a0 true _ A3.out).mono ?_);rintro e w' ⟨rfl,⟨nd,rfl⟩⟩;refine ⟨_,rfl,?_⟩)|(go_at_call 105;(with_reducible refine (spec_l02Port.calls a1 t148 _ A5.out).mono ?_);rintro e w' ⟨rfl,⟨nd,rfl⟩⟩))
  go_ret
  exact ⟨by first | rfl|(simp;done)|(simp [*];done)|(simp [ne_nil_b];done)|(simp [ne_nil_b, *];done),by repeat (first|exact Drawn0.refl _|apply Drawn0.step)⟩
 ·replace c4:=Bool.eq_false_iff.mpr c4
  subst c4
  have H1 : (some false) = some r:=by rw [if_neg (show ¬ (false = true) by decide)] at H;exact H
  clear H
  have H:=H1
  clear H1
  obtain rfl:=Option.some.inj H
  go_enter Try.func69,Try.ntmps69
  go_wp2_with (first|((with_reducible refine gate_callee (f:=59) rfl ?_);refine goesL_ (some 6) rfl rfl Try.func59 (by kernel_rfl) rfl #[.int .i64 a0] rfl (by (try simp only [List.map_toArray,List.map_cons,List.map_nil]);first | done | rfl|(simp only [List.length_drop,List.length_take];rfl)) ?_;(with_reducible refine (spec_l01Ip.calls a0 false _ A3.out).mono ?_);rintro e w' ⟨rfl,⟨nd,rfl⟩⟩;refine ⟨_,rfl,?_⟩))
  go_ret
  exact ⟨by first | rfl|(simp;done)|(simp [*];done)|(simp [ne_nil_b];done)|(simp [ne_nil_b, *];done),by repeat (first|exact Drawn0.refl _|apply Drawn0.step)⟩
end
section
/-! ### spec_FlowFind: function 31 -/
def spec_FlowFind.j0 : Nat → List (S71) → Int → Int → Int → Int → Int → Bool → Option (Int × Bool × Int)
 | 0,_,_,_,_,_,_,_ => none
 | k + 1,x0,x1,x2,x3,x4,x5,x37 => if x37 = true then (some (0,false,4)) else ((spec_l09Find.f k x0 x1 x2 x3 x4 x5).bind fun bt304 => (if bt304.1 < 0 then (some (0,false,5)) else (some (bt304.1,bt304.2,0))))
def spec_FlowFind.f (k : Nat) (l0 : List (S71)) (a1 : Int) (a2 : Int) (a3 : Int) (a4 : Int) (a5 : Int) : Option (Int × Bool × Int):=if (l0.length : Int) > 4096 then (some (0,false,2)) else ((spec_FlowsOK.f k l0).bind fun t300 => (if t300 = true then ((spec_l01In.f a1 0 255).bind fun t301 => (if t301 = true then ((spec_l07Ask.f a2 a3).bind fun t302 => (if t302 = true then ((spec_l07Ask.f a4 a5).bind fun t303 => (spec_FlowFind.j0 k l0 a1 a2 a3 a4 a5 (!t303))) else (spec_FlowFind.j0 k l0 a1 a2 a3 a4 a5 true))) else (spec_FlowFind.j0 k l0 a1 a2 a3 a4 a5 true))) else (some (0,false,1))))
theorem spec_FlowFind.mono_l : ∀ k,(∀ y0 y1 y2 y3 y4 y5 y6,LeO (spec_FlowFind.j0 k y0 y1 y2 y3 y4 y5 y6) (spec_FlowFind.j0 (k + 1) y0 y1 y2 y3 y4 y5 y6))
 | 0 => fun _ _ _ _ _ _ _ r h => by simp [spec_FlowFind.j0] at h
 | k + 1 => by
  have ih0:=spec_FlowFind.mono_l k
  ·intro y0 y1 y2 y3 y4 y5 y6
   unfold spec_FlowFind.j0
   repeat' first
   | (with_reducible exact ih0 _ _ _ _ _ _ _)
   | (with_reducible exact spec_FlowsOK.mono ..)
   | (with_reducible exact spec_l09Find.mono ..)
   | (with_reducible exact LeO.refl _)
   | (with_reducible exact LeO.none _)
   | (with_reducible refine LeO.ite ?_ ?_)
   | (with_reducible refine LeO.bind ?_ (fun _ => ?_))
   | exact ih0 _ _ _ _ _ _ _
   | exact spec_FlowsOK.mono ..
   | exact spec_l09Find.mono ..
   | exact LeO.none _
   | refine LeO.ite ?_ ?_
   | refine LeO.bind ?_ (fun _ => ?_)
theorem spec_FlowFind.mono : ∀ a0 a1 a2 a3 a4 a5 k,LeO (spec_FlowFind.f k a0 a1 a2 a3 a4 a5) (spec_FlowFind.f (k + 1) a0 a1 a2 a3 a4 a5):=by
 intro a0 a1 a2 a3 a4 a5 k
 have ih0:=spec_FlowFind.mono_l k
 unfold spec_FlowFind.f
 repeat' first
   | (with_reducible exact ih0 _ _ _ _ _ _ _)
   | (with_reducible exact spec_FlowsOK.mono ..)
   | (with_reducible exact spec_l09Find.mono ..)
   | (with_reducible exact LeO.refl _)
   | (with_reducible exact LeO.none _)
   | (with_reducible refine LeO.ite ?_ ?_)
   | (with_reducible refine LeO.bind ?_ (fun _ => ?_))
   | exact ih0 _ _ _ _ _ _ _
   | exact spec_FlowsOK.mono ..
   | exact spec_l09Find.mono ..
   | exact LeO.none _
   | refine LeO.ite ?_ ?_
   | refine LeO.bind ?_ (fun _ => ?_)
set_option maxHeartbeats 8000000 in
set_option maxRecDepth 100000 in
theorem spec_FlowFind.calls (k : Nat) (A0 : Option Addr) (c0 : Nat) (l0 : List (S71)) (a1 : Int) (a2 : Int) (a3 : Int) (a4 : Int) (a5 : Int) (r1 : Int) (r2 : Bool) (r3 : Int) (w : World) (hr0 : Kd.C k71 w A0 l0.length l0) (hc0 : l0.length ≤ c0) (h : spec_FlowFind.f k l0 a1 a2 a3 a4 a5 = some (r1,r2,r3)) :
  Calls Try.prog 31 #[.slice A0 l0.length c0,.int .i64 a1,.int .i64 a2,.int .i64 a3,.int .i64 a4,.int .i64 a5] w fun e w' => e = .returned (.tuple #[.int .i64 r1,.bool r2,.int .i64 r3]) ∧ Below w.heap.size w w':=by
 have HR0:=aMk hr0
 have HC0:=aMk hc0
 clear hr0 hc0
 have HB:=aMk (Below.refl w.heap.size w)
 have H : (if (l0.length : Int) > 4096 then (some (0,false,2)) else ((spec_FlowsOK.f k l0).bind fun t300 => (if t300 = true then ((spec_l01In.f a1 0 255).bind fun t301 => (if t301 = true then ((spec_l07Ask.f a2 a3).bind fun t302 => (if t302 = true then ((spec_l07Ask.f a4 a5).bind fun t303 => (spec_FlowFind.j0 k l0 a1 a2 a3 a4 a5 (!t303))) else (spec_FlowFind.j0 k l0 a1 a2 a3 a4 a5 true))) else (spec_FlowFind.j0 k l0 a1 a2 a3 a4 a5 true))) else (some (0,false,1))))) = some (r1,r2,r3):=h
 clear h
 by_cases c7 : (l0.length : Int) > 4096
 ·rw [if_pos c7] at H
  have c7b0 : decide (4096 < (l0.length : Int)) = true:=decide_eq_true c7
  have c7b1 : decide (4096 < l0.length) = true:=decide_eq_true (by omega)
  clear c7
  simp only [Option.some.injEq,Prod.mk.injEq] at H
  obtain ⟨rfl,rfl,rfl⟩:=H
  go_enter Try.func31,Try.ntmps31
  go_wp2
  go_ret3
  exact ⟨by first | rfl|(simp [errW_none,errW_some] <;> rfl)|(simp [*,errW_none,errW_some] <;> rfl),by repeat (first|(with_reducible first|exact HB.out|apply bwA|apply bwN|apply bw1)|exact HB.out)⟩
 ·rw [if_neg c7] at H
  have c7b0 : decide (4096 < (l0.length : Int)) = false:=decide_eq_false c7
  have c7b1 : decide (4096 < l0.length) = false:=decide_eq_false (by omega)
  clear c7
  replace H:=Option.bind_eq_some_iff.mp H
  obtain ⟨t300,A80,H⟩:=H
  replace H : (if t300 = true then ((spec_l01In.f a1 0 255).bind fun t301 => (if t301 = true then ((spec_l07Ask.f a2 a3).bind fun t302 => (if t302 = true then ((spec_l07Ask.f a4 a5).bind fun t303 => (spec_FlowFind.j0 k l0 a1 a2 a3 a4 a5 (!t303))) else (spec_FlowFind.j0 k l0 a1 a2 a3 a4 a5 true))) else (spec_FlowFind.j0 k l0 a1 a2 a3 a4 a5 true))) else (some (0,false,1))) = some (r1,r2,r3):=H
  have A8:=aMk A80
  clear A80
  by_cases c9 : t300 = true
  ·subst c9
   have H1 : ((spec_l01In.f a1 0 255).bind fun t301 => (if t301 = true then ((spec_l07Ask.f a2 a3).bind fun t302 => (if t302 = true then ((spec_l07Ask.f a4 a5).bind fun t303 => (spec_FlowFind.j0 k l0 a1 a2 a3 a4 a5 (!t303))) else (spec_FlowFind.j0 k l0 a1 a2 a3 a4 a5 true))) else (spec_FlowFind.j0 k l0 a1 a2 a3 a4 a5 true))) = some (r1,r2,r3):=by rw [if_pos rfl] at H;exact H
   clear H
   have H:=H1
   clear H1
   have HC10:=aMk H
   clear H
   go_enter Try.func31,Try.ntmps31
   go_upto_region 5 with (first|((with_reducible refine gate_callee (f:=27) rfl ?_);refine goesL_ (some 21) rfl rfl Try.func27 (by kernel_rfl) rfl #[.slice A0 l0.length c0] rfl (by (try simp only [List.map_toArray,List.map_cons,List.map_nil]);first | done | rfl|(simp only [List.length_drop,List.length_take];rfl)) ?_;(with_reducible refine (spec_FlowsOK.calls k _ _ l0 true _ ?side1 ?side2 A8.out).mono ?_);(case side1 => repeat (first|exact HR0.out|(with_reducible refine Kd.C_alloc ?_ _)|(with_reducible refine Kd.C_drewN ?_ _)|(with_reducible refine Kd.C_drew ?_)));(case side2 => exact HC0.out);rintro e w11 ⟨rfl,hb⟩;refine ⟨_,rfl,?_⟩;have n0_:=aMk (below_step (by repeat first|exact HB.out|apply bwA|apply bwN|apply bw1) hb);clear HB;have HB:=n0_;clear n0_;(try clear hb);(try clear hb2);(try clear hk);(try clear hi)))
   (try simp only [Act.put,List.setIfInBounds_toArray,List.set_cons_zero,List.set_cons_succ])
   go_cut [37] (fun v37 wc => ∃ (kq : Nat) (x37_9 : Bool),v37 = .bool x37_9 ∧ Aside0 (spec_FlowFind.j0 kq l0 a1 a2 a3 a4 a5 x37_9 = some (r1,r2,r3)) ∧ Aside0 (kq ≤ k) ∧ Aside0 (Below w.heap.size w wc))
   case first =>
    have H:=HC10.out
    clear HC10
    replace H:=Option.bind_eq_some_iff.mp H
    obtain ⟨t301,A120,H⟩:=H
    replace H : (if t301 = true then ((spec_l07Ask.f a2 a3).bind fun t302 => (if t302 = true then ((spec_l07Ask.f a4 a5).bind fun t303 => (spec_FlowFind.j0 k l0 a1 a2 a3 a4 a5 (!t303))) else (spec_FlowFind.j0 k l0 a1 a2 a3 a4 a5 true))) else (spec_FlowFind.j0 k l0 a1 a2 a3 a4 a5 true)) = some (r1,r2,r3):=H
    have A12:=aMk A120
    clear A120
    by_cases c13 : t301 = true
    ·subst c13
     have H1 : ((spec_l07Ask.f a2 a3).bind fun t302 => (if t302 = true then ((spec_l07Ask.f a4 a5).bind fun t303 => (spec_FlowFind.j0 k l0 a1 a2 a3 a4 a5 (!t303))) else (spec_FlowFind.j0 k l0 a1 a2 a3 a4 a5 true))) = some (r1,r2,r3):=by rw [if_pos rfl] at H;exact H
     clear H
     have H:=H1
     clear H1
     replace H:=Option.bind_eq_some_iff.mp H
     obtain ⟨t302,A140,H⟩:=H
     replace H : (if t302 = true then ((spec_l07Ask.f a4 a5).bind fun t303 => (spec_FlowFind.j0 k l0 a1 a2 a3 a4 a5 (!t303))) else (spec_FlowFind.j0 k l0 a1 a2 a3 a4 a5 true)) = some (r1,r2,r3):=H
     have A14:=aMk A140
     clear A140
     by_cases c15 : t302 = true
     ·subst c15
      have H1 : ((spec_l07Ask.f a4 a5).bind fun t303 => (spec_FlowFind.j0 k l0 a1 a2 a3 a4 a5 (!t303))) = some (r1,r2,r3):=by rw [if_pos rfl] at H;exact H
      clear H
      have H:=H1
      clear H1
      replace H:=Option.bind_eq_some_iff.mp H
      obtain ⟨t303,A160,H⟩:=H
      replace H : (spec_FlowFind.j0 k l0 a1 a2 a3 a4 a5 (!t303)) = some (r1,r2,r3):=H
      have A16:=aMk A160
      clear A160
      have H':=aMk H
      clear H
      go_wp2_with (first|((with_reducible refine gate_callee (f:=64) rfl ?_);refine goesL_ (some 24) rfl rfl Try.func64 (by kernel_rfl) rfl #[.int .i64 a1,.int .i64 0,.int .i64 255] rfl (by (try simp only [List.map_toArray,List.map_cons,List.map_nil]);first | done | rfl|(simp only [List.length_drop,List.length_take];rfl)) ?_;(with_reducible refine (spec_l01In.calls a1 0 255 true _ A12.out).mono ?_);rintro e w' ⟨rfl,⟨nd,rfl⟩⟩;refine ⟨_,rfl,?_⟩)|(go_at_call 69;(with_reducible refine (spec_l07Ask.calls a2 a3 true _ A14.out).mono ?_);rintro e w' ⟨rfl,⟨nd,rfl⟩⟩)|(go_at_call 69;(with_reducible refine (spec_l07Ask.calls a4 a5 t303 _ A16.out).mono ?_);rintro e w' ⟨rfl,⟨nd,rfl⟩⟩))
      go_meet
      case rel => exact ⟨_,(!t303),(by first | rfl|(simp;done)|(simp [*];done)|(simp [ne_nil_b];done)|(simp [ne_nil_b, *];done)),H',⟨by first | omega|exact Nat.le_refl _⟩,⟨by repeat (first|(with_reducible first|exact HB.out|apply bwA|apply bwN|apply bw1)|exact HB.out)⟩⟩
     ·replace c15:=Bool.eq_false_iff.mpr c15
      subst c15
      have H1 : (spec_FlowFind.j0 k l0 a1 a2 a3 a4 a5 true) = some (r1,r2,r3):=by rw [if_neg (show ¬ (false = true) by decide)] at H;exact H
      clear H
      have H:=H1
      clear H1
      have H':=aMk H
      clear H
      go_wp2_with (first|((with_reducible refine gate_callee (f:=64) rfl ?_);refine goesL_ (some 24) rfl rfl Try.func64 (by kernel_rfl) rfl #[.int .i64 a1,.int .i64 0,.int .i64 255] rfl (by (try simp only [List.map_toArray,List.map_cons,List.map_nil]);first | done | rfl|(simp only [List.length_drop,List.length_take];rfl)) ?_;(with_reducible refine (spec_l01In.calls a1 0 255 true _ A12.out).mono ?_);rintro e w' ⟨rfl,⟨nd,rfl⟩⟩;refine ⟨_,rfl,?_⟩)|(go_at_call 69;(with_reducible refine (spec_l07Ask.calls a2 a3 false _ A14.out).mono ?_);rintro e w' ⟨rfl,⟨nd,rfl⟩⟩))
      go_meet
      case rel => exact ⟨_,(true),(by first | rfl|(simp;done)|(simp [*];done)|(simp [ne_nil_b];done)|(simp [ne_nil_b, *];done)),H',⟨by first | omega|exact Nat.le_refl _⟩,⟨by repeat (first|(with_reducible first|exact HB.out|apply bwA|apply bwN|apply bw1)|exact HB.out)⟩⟩
    ·replace c13:=Bool.eq_false_iff.mpr c13
     subst c13
     have H1 : (spec_FlowFind.j0 k l0 a1 a2 a3 a4 a5 true) = some (r1,r2,r3):=by rw [if_neg (show ¬ (false = true) by decide)] at H;exact H
     clear H
     have H:=H1
     clear H1
     have H':=aMk H
     clear H
     go_wp2_with (first|((with_reducible refine gate_callee (f:=64) rfl ?_);refine goesL_ (some 24) rfl rfl Try.func64 (by kernel_rfl) rfl #[.int .i64 a1,.int .i64 0,.int .i64 255] rfl (by (try simp only [List.map_toArray,List.map_cons,List.map_nil]);first | done | rfl|(simp only [List.length_drop,List.length_take];rfl)) ?_;(with_reducible refine (spec_l01In.calls a1 0 255 false _ A12.out).mono ?_);rintro e w' ⟨rfl,⟨nd,rfl⟩⟩;refine ⟨_,rfl,?_⟩))
     go_meet
     case rel => exact ⟨_,(true),(by first | rfl|(simp;done)|(simp [*];done)|(simp [ne_nil_b];done)|(simp [ne_nil_b, *];done)),H',⟨by first | omega|exact Nat.le_refl _⟩,⟨by repeat (first|(with_reducible first|exact HB.out|apply bwA|apply bwN|apply bw1)|exact HB.out)⟩⟩
   case rest =>
    clear HC10
    try clear c1
    try clear c2
    try clear p2
    try clear c3
    try clear c6
    try clear c7
    try clear c7b0
    try clear c7b1
    try clear c9
    try clear c13
    try clear c15
    obtain ⟨kq,x37_9,rfl,HA,HJ9,HB⟩:=hcut
    cases kq with
    | zero => exact absurd HA.out (by simp [spec_FlowFind.j0])
    | succ kj9 =>
     have H:=HA.out
     clear HA
     simp only [spec_FlowFind.j0] at H
     by_cases c17 : x37_9 = true
     ·subst c17
      have H1 : (some (0,false,4)) = some (r1,r2,r3):=by rw [if_pos rfl] at H;exact H
      clear H
      have H:=H1
      clear H1
      simp only [Option.some.injEq,Prod.mk.injEq] at H
      obtain ⟨rfl,rfl,rfl⟩:=H
      go_wp2
      go_ret3
      exact ⟨by first | rfl|(simp [errW_none,errW_some] <;> rfl)|(simp [*,errW_none,errW_some] <;> rfl),by repeat (first|(with_reducible first|exact HB.out|apply bwA|apply bwN|apply bw1)|exact HB.out)⟩
     ·replace c17:=Bool.eq_false_iff.mpr c17
      subst c17
      have H1 : ((spec_l09Find.f kj9 l0 a1 a2 a3 a4 a5).bind fun bt304 => (if bt304.1 < 0 then (some (0,false,5)) else (some (bt304.1,bt304.2,0)))) = some (r1,r2,r3):=by rw [if_neg (show ¬ (false = true) by decide)] at H;exact H
      clear H
      have H:=H1
      clear H1
      replace H:=Option.bind_eq_some_iff.mp H
      obtain ⟨⟨t304,t305⟩,A180,H⟩:=H
      replace H : (if t304 < 0 then (some (0,false,5)) else (some (t304,t305,0))) = some (r1,r2,r3):=H
      have A18:=aMk A180
      clear A180
      by_cases c19 : t304 < 0
      ·rw [if_pos c19] at H
       have c19b0 : decide (t304 < 0) = true:=decide_eq_true c19
       clear c19
       simp only [Option.some.injEq,Prod.mk.injEq] at H
       obtain ⟨rfl,rfl,rfl⟩:=H
       go_wp2_with (first|((with_reducible refine gate_callee (f:=80) rfl ?_);refine goesL_ (some 45) rfl rfl Try.func80 (by kernel_rfl) rfl #[.slice A0 l0.length c0,.int .i64 a1,.int .i64 a2,.int .i64 a3,.int .i64 a4,.int .i64 a5] rfl (by (try simp only [List.map_toArray,List.map_cons,List.map_nil]);first | done | rfl|(simp only [List.length_drop,List.length_take];rfl)) ?_;(with_reducible refine (spec_l09Find.calls kj9 _ _ l0 a1 a2 a3 a4 a5 t304 t305 _ ?side1 ?side2 A18.out).mono ?_);(case side1 => repeat (first|exact (Kd.C_below HR0.out HB.out)|(with_reducible refine Kd.C_alloc ?_ _)|(with_reducible refine Kd.C_drewN ?_ _)|(with_reducible refine Kd.C_drew ?_)));(case side2 => exact HC0.out);rintro e w20 ⟨rfl,hb⟩;refine ⟨_,rfl,?_⟩;have n0_:=aMk (below_step (by repeat first|exact HB.out|apply bwA|apply bwN|apply bw1) hb);clear HB;have HB:=n0_;clear n0_;(try clear hb);(try clear hb2);(try clear hk);(try clear hi)))
       go_ret3
       exact ⟨by first | rfl|(simp [errW_none,errW_some] <;> rfl)|(simp [*,errW_none,errW_some] <;> rfl),by repeat (first|(with_reducible first|exact HB.out|apply bwA|apply bwN|apply bw1)|exact HB.out)⟩
      ·rw [if_neg c19] at H
       have c19b0 : decide (t304 < 0) = false:=decide_eq_false c19
       clear c19
       simp only [Option.some.injEq,Prod.mk.injEq] at H
       obtain ⟨rfl,rfl,rfl⟩:=H
       go_wp2_with (first|((with_reducible refine gate_callee (f:=80) rfl ?_);refine goesL_ (some 45) rfl rfl Try.func80 (by kernel_rfl) rfl #[.slice A0 l0.length c0,.int .i64 a1,.int .i64 a2,.int .i64 a3,.int .i64 a4,.int .i64 a5] rfl (by (try simp only [List.map_toArray,List.map_cons,List.map_nil]);first | done | rfl|(simp only [List.length_drop,List.length_take];rfl)) ?_;(with_reducible refine (spec_l09Find.calls kj9 _ _ l0 a1 a2 a3 a4 a5 t304 t305 _ ?side1 ?side2 A18.out).mono ?_);(case side1 => repeat (first|exact (Kd.C_below HR0.out HB.out)|(with_reducible refine Kd.C_alloc ?_ _)|(with_reducible refine Kd.C_drewN ?_ _)|(with_reducible refine Kd.C_drew ?_)));(case side2 => exact HC0.out);rintro e w21 ⟨rfl,hb⟩;refine ⟨_,rfl,?_⟩;have n0_:=aMk (below_step (by repeat first|exact HB.out|apply bwA|apply bwN|apply bw1) hb);clear HB;have HB:=n0_;clear n0_;(try clear hb);(try clear hb2);(try clear hk);(try clear hi)))
       go_ret3
       exact ⟨by first | rfl|(simp [errW_none,errW_some] <;> rfl)|(simp [*,errW_none,errW_some] <;> rfl),by repeat (first|(with_reducible first|exact HB.out|apply bwA|apply bwN|apply bw1)|exact HB.out)⟩
  ·replace c9:=Bool.eq_false_iff.mpr c9
   subst c9
   have H1 : (some (0,false,1)) = some (r1,r2,r3):=by rw [if_neg (show ¬ (false = true) by decide)] at H;exact H
   clear H
   have H:=H1
   clear H1
   simp only [Option.some.injEq,Prod.mk.injEq] at H
   obtain ⟨rfl,rfl,rfl⟩:=H
   go_enter Try.func31,Try.ntmps31
   go_wp2_with (first|((with_reducible refine gate_callee (f:=27) rfl ?_);refine goesL_ (some 21) rfl rfl Try.func27 (by kernel_rfl) rfl #[.slice A0 l0.length c0] rfl (by (try simp only [List.map_toArray,List.map_cons,List.map_nil]);first | done | rfl|(simp only [List.length_drop,List.length_take];rfl)) ?_;(with_reducible refine (spec_FlowsOK.calls k _ _ l0 false _ ?side1 ?side2 A8.out).mono ?_);(case side1 => repeat (first|exact HR0.out|(with_reducible refine Kd.C_alloc ?_ _)|(with_reducible refine Kd.C_drewN ?_ _)|(with_reducible refine Kd.C_drew ?_)));(case side2 => exact HC0.out);rintro e w22 ⟨rfl,hb⟩;refine ⟨_,rfl,?_⟩;have n0_:=aMk (below_step (by repeat first|exact HB.out|apply bwA|apply bwN|apply bw1) hb);clear HB;have HB:=n0_;clear n0_;(try clear hb);(try clear hb2);(try clear hk);(try clear hi)))
   go_ret3
   exact ⟨by first | rfl|(simp [errW_none,errW_some] <;> rfl)|(simp [*,errW_none,errW_some] <;> rfl),by repeat (first|(with_reducible first|exact HB.out|apply bwA|apply bwN|apply bw1)|exact HB.out)⟩
end
section
/-! ### impl_FlowFind: function 32 -/
def impl_FlowFind.j0 : Nat → List (S71) → Int → Int → Int → Int → Int → Bool → Option (Int × Bool × Int)
 | 0,_,_,_,_,_,_,_ => none
 | k + 1,x0,x1,x2,x3,x4,x5,x45 => if x45 = true then (some (0,false,4)) else ((impl_find.f k x0 x1 x2 x3 x4 x5).bind fun bt313 => (if bt313.1 < 0 then (some (0,false,5)) else (some (bt313.1,bt313.2,0))))
def impl_FlowFind.f (k : Nat) (l0 : List (S71)) (a1 : Int) (a2 : Int) (a3 : Int) (a4 : Int) (a5 : Int) : Option (Int × Bool × Int):=(impl_flowsFault.f k l0).bind fun t307 => (if t307 = 0 then ((impl_isProto.f a1).bind fun t308 => (if t308 = true then ((impl_isAddress.f a2).bind fun t309 => (if t309 = true then ((impl_isAddress.f a4).bind fun t310 => (if t310 = true then ((impl_isPort.f a3).bind fun t311 => (if t311 = true then ((impl_isPort.f a5).bind fun t312 => (impl_FlowFind.j0 k l0 a1 a2 a3 a4 a5 (!t312))) else (impl_FlowFind.j0 k l0 a1 a2 a3 a4 a5 true))) else (impl_FlowFind.j0 k l0 a1 a2 a3 a4 a5 true))) else (impl_FlowFind.j0 k l0 a1 a2 a3 a4 a5 true))) else (impl_FlowFind.j0 k l0 a1 a2 a3 a4 a5 true))) else (some (0,false,t307)))
theorem impl_FlowFind.mono_l : ∀ k,(∀ y0 y1 y2 y3 y4 y5 y6,LeO (impl_FlowFind.j0 k y0 y1 y2 y3 y4 y5 y6) (impl_FlowFind.j0 (k + 1) y0 y1 y2 y3 y4 y5 y6))
 | 0 => fun _ _ _ _ _ _ _ r h => by simp [impl_FlowFind.j0] at h
 | k + 1 => by
  have ih0:=impl_FlowFind.mono_l k
  ·intro y0 y1 y2 y3 y4 y5 y6
   unfold impl_FlowFind.j0
   repeat' first
   | (with_reducible exact ih0 _ _ _ _ _ _ _)
   | (with_reducible exact impl_find.mono ..)
   | (with_reducible exact impl_flowsFault.mono ..)
   | (with_reducible exact LeO.refl _)
   | (with_reducible exact LeO.none _)
   | (with_reducible refine LeO.ite ?_ ?_)
   | (with_reducible refine LeO.bind ?_ (fun _ => ?_))
   | exact ih0 _ _ _ _ _ _ _
   | exact impl_find.mono ..
   | exact impl_flowsFault.mono ..
   | exact LeO.none _
   | refine LeO.ite ?_ ?_
   | refine LeO.bind ?_ (fun _ => ?_)
theorem impl_FlowFind.mono : ∀ a0 a1 a2 a3 a4 a5 k,LeO (impl_FlowFind.f k a0 a1 a2 a3 a4 a5) (impl_FlowFind.f (k + 1) a0 a1 a2 a3 a4 a5):=by
 intro a0 a1 a2 a3 a4 a5 k
 have ih0:=impl_FlowFind.mono_l k
 unfold impl_FlowFind.f
 repeat' first
   | (with_reducible exact ih0 _ _ _ _ _ _ _)
   | (with_reducible exact impl_find.mono ..)
   | (with_reducible exact impl_flowsFault.mono ..)
   | (with_reducible exact LeO.refl _)
   | (with_reducible exact LeO.none _)
   | (with_reducible refine LeO.ite ?_ ?_)
   | (with_reducible refine LeO.bind ?_ (fun _ => ?_))
   | exact ih0 _ _ _ _ _ _ _
   | exact impl_find.mono ..
   | exact impl_flowsFault.mono ..
   | exact LeO.none _
   | refine LeO.ite ?_ ?_
   | refine LeO.bind ?_ (fun _ => ?_)
set_option maxHeartbeats 8000000 in
set_option maxRecDepth 100000 in
theorem impl_FlowFind.calls (k : Nat) (A0 : Option Addr) (c0 : Nat) (l0 : List (S71)) (a1 : Int) (a2 : Int) (a3 : Int) (a4 : Int) (a5 : Int) (r1 : Int) (r2 : Bool) (r3 : Int) (w : World) (hr0 : Kd.C k71 w A0 l0.length l0) (hc0 : l0.length ≤ c0) (h : impl_FlowFind.f k l0 a1 a2 a3 a4 a5 = some (r1,r2,r3)) :
  Calls Try.prog 32 #[.slice A0 l0.length c0,.int .i64 a1,.int .i64 a2,.int .i64 a3,.int .i64 a4,.int .i64 a5] w fun e w' => e = .returned (.tuple #[.int .i64 r1,.bool r2,.int .i64 r3]) ∧ Below w.heap.size w w':=by
 have HR0:=aMk hr0
 have HC0:=aMk hc0
 clear hr0 hc0
 have HB:=aMk (Below.refl w.heap.size w)
 have H : ((impl_flowsFault.f k l0).bind fun t307 => (if t307 = 0 then ((impl_isProto.f a1).bind fun t308 => (if t308 = true then ((impl_isAddress.f a2).bind fun t309 => (if t309 = true then ((impl_isAddress.f a4).bind fun t310 => (if t310 = true then ((impl_isPort.f a3).bind fun t311 => (if t311 = true then ((impl_isPort.f a5).bind fun t312 => (impl_FlowFind.j0 k l0 a1 a2 a3 a4 a5 (!t312))) else (impl_FlowFind.j0 k l0 a1 a2 a3 a4 a5 true))) else (impl_FlowFind.j0 k l0 a1 a2 a3 a4 a5 true))) else (impl_FlowFind.j0 k l0 a1 a2 a3 a4 a5 true))) else (impl_FlowFind.j0 k l0 a1 a2 a3 a4 a5 true))) else (some (0,false,t307)))) = some (r1,r2,r3):=h
 clear h
 replace H:=Option.bind_eq_some_iff.mp H
 obtain ⟨t307,A70,H⟩:=H
 replace H : (if t307 = 0 then ((impl_isProto.f a1).bind fun t308 => (if t308 = true then ((impl_isAddress.f a2).bind fun t309 => (if t309 = true then ((impl_isAddress.f a4).bind fun t310 => (if t310 = true then ((impl_isPort.f a3).bind fun t311 => (if t311 = true then ((impl_isPort.f a5).bind fun t312 => (impl_FlowFind.j0 k l0 a1 a2 a3 a4 a5 (!t312))) else (impl_FlowFind.j0 k l0 a1 a2 a3 a4 a5 true))) else (impl_FlowFind.j0 k l0 a1 a2 a3 a4 a5 true))) else (impl_FlowFind.j0 k l0 a1 a2 a3 a4 a5 true))) else (impl_FlowFind.j0 k l0 a1 a2 a3 a4 a5 true))) else (some (0,false,t307))) = some (r1,r2,r3):=H
 have A7:=aMk A70
 clear A70
 by_cases c8 : t307 = 0
 ·rw [if_pos c8] at H
  have c8b0 : (t307 == 0) = true:=beq_iff_eq.mpr c8
  have c8b1 : (t307 != 0) = false:=bne_eq_false_iff_eq.mpr c8
  clear c8
  have HC9:=aMk H
  clear H
  go_enter Try.func32,Try.ntmps32
  go_upto_region 4 with (first|((with_reducible refine gate_callee (f:=81) rfl ?_);refine goesL_ (some 19) rfl rfl Try.func81 (by kernel_rfl) rfl #[.slice A0 l0.length c0] rfl (by (try simp only [List.map_toArray,List.map_cons,List.map_nil]);first | done | rfl|(simp only [List.length_drop,List.length_take];rfl)) ?_;(with_reducible refine (impl_flowsFault.calls k _ _ l0 t307 _ ?side1 ?side2 A7.out).mono ?_);(case side1 => repeat (first|exact HR0.out|(with_reducible refine Kd.C_alloc ?_ _)|(with_reducible refine Kd.C_drewN ?_ _)|(with_reducible refine Kd.C_drew ?_)));(case side2 => exact HC0.out);rintro e w10 ⟨rfl,hb⟩;refine ⟨_,rfl,?_⟩;have n0_:=aMk (below_step (by repeat first|exact HB.out|apply bwA|apply bwN|apply bw1) hb);clear HB;have HB:=n0_;clear n0_;(try clear hb);(try clear hb2);(try clear hk);(try clear hi)))
  (try simp only [Act.put,List.setIfInBounds_toArray,List.set_cons_zero,List.set_cons_succ])
  go_cut [45] (fun v45 wc => ∃ (kq : Nat) (x45_8 : Bool),v45 = .bool x45_8 ∧ Aside0 (impl_FlowFind.j0 kq l0 a1 a2 a3 a4 a5 x45_8 = some (r1,r2,r3)) ∧ Aside0 (kq ≤ k) ∧ Aside0 (Below w.heap.size w wc))
  case first =>
   have H:=HC9.out
   clear HC9
   replace H:=Option.bind_eq_some_iff.mp H
   obtain ⟨t308,A110,H⟩:=H
   replace H : (if t308 = true then ((impl_isAddress.f a2).bind fun t309 => (if t309 = true then ((impl_isAddress.f a4).bind fun t310 => (if t310 = true then ((impl_isPort.f a3).bind fun t311 => (if t311 = true then ((impl_isPort.f a5).bind fun t312 => (impl_FlowFind.j0 k l0 a1 a2 a3 a4 a5 (!t312))) else (impl_FlowFind.j0 k l0 a1 a2 a3 a4 a5 true))) else (impl_FlowFind.j0 k l0 a1 a2 a3 a4 a5 true))) else (impl_FlowFind.j0 k l0 a1 a2 a3 a4 a5 true))) else (impl_FlowFind.j0 k l0 a1 a2 a3 a4 a5 true)) = some (r1,r2,r3):=H
   have A11:=aMk A110
   clear A110
   by_cases c12 : t308 = true
   ·subst c12
    have H1 : ((impl_isAddress.f a2).bind fun t309 => (if t309 = true then ((impl_isAddress.f a4).bind fun t310 => (if t310 = true then ((impl_isPort.f a3).bind fun t311 => (if t311 = true then ((impl_isPort.f a5).bind fun t312 => (impl_FlowFind.j0 k l0 a1 a2 a3 a4 a5 (!t312))) else (impl_FlowFind.j0 k l0 a1 a2 a3 a4 a5 true))) else (impl_FlowFind.j0 k l0 a1 a2 a3 a4 a5 true))) else (impl_FlowFind.j0 k l0 a1 a2 a3 a4 a5 true))) = some (r1,r2,r3):=by rw [if_pos rfl] at H;exact H
    clear H
    have H:=H1
    clear H1
    replace H:=Option.bind_eq_some_iff.mp H
    obtain ⟨t309,A130,H⟩:=H
    replace H : (if t309 = true then ((impl_isAddress.f a4).bind fun t310 => (if t310 = true then ((impl_isPort.f a3).bind fun t311 => (if t311 = true then ((impl_isPort.f a5).bind fun t312 => (impl_FlowFind.j0 k l0 a1 a2 a3 a4 a5 (!t312))) else (impl_FlowFind.j0 k l0 a1 a2 a3 a4 a5 true))) else (impl_FlowFind.j0 k l0 a1 a2 a3 a4 a5 true))) else (impl_FlowFind.j0 k l0 a1 a2 a3 a4 a5 true)) = some (r1,r2,r3):=H
    have A13:=aMk A130
    clear A130
    by_cases c14 : t309 = true
    ·subst c14
     have H1 : ((impl_isAddress.f a4).bind fun t310 => (if t310 = true then ((impl_isPort.f a3).bind fun t311 => (if t311 = true then ((impl_isPort.f a5).bind fun t312 => (impl_FlowFind.j0 k l0 a1 a2 a3 a4 a5 (!t312))) else (impl_FlowFind.j0 k l0 a1 a2 a3 a4 a5 true))) else (impl_FlowFind.j0 k l0 a1 a2 a3 a4 a5 true))) = some (r1,r2,r3):=by rw [if_pos rfl] at H;exact H
     clear H
     have H:=H1
     clear H1
     replace H:=Option.bind_eq_some_iff.mp H
     obtain ⟨t310,A150,H⟩:=H
     replace H : (if t310 = true then ((impl_isPort.f a3).bind fun t311 => (if t311 = true then ((impl_isPort.f a5).bind fun t312 => (impl_FlowFind.j0 k l0 a1 a2 a3 a4 a5 (!t312))) else (impl_FlowFind.j0 k l0 a1 a2 a3 a4 a5 true))) else (impl_FlowFind.j0 k l0 a1 a2 a3 a4 a5 true)) = some (r1,r2,r3):=H
     have A15:=aMk A150
     clear A150
     by_cases c16 : t310 = true
     ·subst c16
      have H1 : ((impl_isPort.f a3).bind fun t311 => (if t311 = true then ((impl_isPort.f a5).bind fun t312 => (impl_FlowFind.j0 k l0 a1 a2 a3 a4 a5 (!t312))) else (impl_FlowFind.j0 k l0 a1 a2 a3 a4 a5 true))) = some (r1,r2,r3):=by rw [if_pos rfl] at H;exact H
      clear H
      have H:=H1
      clear H1
      replace H:=Option.bind_eq_some_iff.mp H
      obtain ⟨t311,A170,H⟩:=H
      replace H : (if t311 = true then ((impl_isPort.f a5).bind fun t312 => (impl_FlowFind.j0 k l0 a1 a2 a3 a4 a5 (!t312))) else (impl_FlowFind.j0 k l0 a1 a2 a3 a4 a5 true)) = some (r1,r2,r3):=H
      have A17:=aMk A170
      clear A170
      by_cases c18 : t311 = true
      ·subst c18
       have H1 : ((impl_isPort.f a5).bind fun t312 => (impl_FlowFind.j0 k l0 a1 a2 a3 a4 a5 (!t312))) = some (r1,r2,r3):=by rw [if_pos rfl] at H;exact H
       clear H
       have H:=H1
       clear H1
       replace H:=Option.bind_eq_some_iff.mp H
       obtain ⟨t312,A190,H⟩:=H
       replace H : (impl_FlowFind.j0 k l0 a1 a2 a3 a4 a5 (!t312)) = some (r1,r2,r3):=H
       have A19:=aMk A190
       clear A190
       have H':=aMk H
       clear H
       go_wp2_with (first|((with_reducible refine gate_callee (f:=66) rfl ?_);refine goesL_ (some 24) rfl rfl Try.func66 (by kernel_rfl) rfl #[.int .i64 a1] rfl (by (try simp only [List.map_toArray,List.map_cons,List.map_nil]);first | done | rfl|(simp only [List.length_drop,List.length_take];rfl)) ?_;(with_reducible refine (impl_isProto.calls a1 true _ A11.out).mono ?_);rintro e w' ⟨rfl,⟨nd,rfl⟩⟩;refine ⟨_,rfl,?_⟩)|(go_at_call 61;(with_reducible refine (impl_isAddress.calls a2 true _ A13.out).mono ?_);rintro e w' ⟨rfl,⟨nd,rfl⟩⟩)|(go_at_call 61;(with_reducible refine (impl_isAddress.calls a4 true _ A15.out).mono ?_);rintro e w' ⟨rfl,⟨nd,rfl⟩⟩)|(go_at_call 73;(with_reducible refine (impl_isPort.calls a3 true _ A17.out).mono ?_);rintro e w' ⟨rfl,⟨nd,rfl⟩⟩)|(go_at_call 73;(with_reducible refine (impl_isPort.calls a5 t312 _ A19.out).mono ?_);rintro e w' ⟨rfl,⟨nd,rfl⟩⟩))
       go_meet
       case rel => exact ⟨_,(!t312),(by first | rfl|(simp;done)|(simp [*];done)|(simp [ne_nil_b];done)|(simp [ne_nil_b, *];done)),H',⟨by first | omega|exact Nat.le_refl _⟩,⟨by repeat (first|(with_reducible first|exact HB.out|apply bwA|apply bwN|apply bw1)|exact HB.out)⟩⟩
      ·replace c18:=Bool.eq_false_iff.mpr c18
       subst c18
       have H1 : (impl_FlowFind.j0 k l0 a1 a2 a3 a4 a5 true) = some (r1,r2,r3):=by rw [if_neg (show ¬ (false = true) by decide)] at H;exact H
       clear H
       have H:=H1
       clear H1
       have H':=aMk H
       clear H
       go_wp2_with (first|((with_reducible refine gate_callee (f:=66) rfl ?_);refine goesL_ (some 24) rfl rfl Try.func66 (by kernel_rfl) rfl #[.int .i64 a1] rfl (by (try simp only [List.map_toArray,List.map_cons,List.map_nil]);first | done | rfl|(simp only [List.length_drop,List.length_take];rfl)) ?_;(with_reducible refine (impl_isProto.calls a1 true _ A11.out).mono ?_);rintro e w' ⟨rfl,⟨nd,rfl⟩⟩;refine ⟨_,rfl,?_⟩)|(go_at_call 61;(with_reducible refine (impl_isAddress.calls a2 true _ A13.out).mono ?_);rintro e w' ⟨rfl,⟨nd,rfl⟩⟩)|(go_at_call 61;(with_reducible refine (impl_isAddress.calls a4 true _ A15.out).mono ?_);rintro e w' ⟨rfl,⟨nd,rfl⟩⟩)|(go_at_call 73;(with_reducible refine (impl_isPort.calls a3 false _ A17.out).mono ?_);rintro e w' ⟨rfl,⟨nd,rfl⟩⟩))
       go_meet
       case rel => exact ⟨_,(true),(by first | rfl|(simp;done)|(simp [*];done)|(simp [ne_nil_b];done)|(simp [ne_nil_b, *];done)),H',⟨by first | omega|exact Nat.le_refl _⟩,⟨by repeat (first|(with_reducible first|exact HB.out|apply bwA|apply bwN|apply bw1)|exact HB.out)⟩⟩
     ·replace c16:=Bool.eq_false_iff.mpr c16
      subst c16
      have H1 : (impl_FlowFind.j0 k l0 a1 a2 a3 a4 a5 true) = some (r1,r2,r3):=by rw [if_neg (show ¬ (false = true) by decide)] at H;exact H
      clear H
      have H:=H1
      clear H1
      have H':=aMk H
      clear H
      go_wp2_with (first|((with_reducible refine gate_callee (f:=66) rfl ?_);refine goesL_ (some 24) rfl rfl Try.func66 (by kernel_rfl) rfl #[.int .i64 a1] rfl (by (try simp only [List.map_toArray,List.map_cons,List.map_nil]);first | done | rfl|(simp only [List.length_drop,List.length_take];rfl)) ?_;(with_reducible refine (impl_isProto.calls a1 true _ A11.out).mono ?_);rintro e w' ⟨rfl,⟨nd,rfl⟩⟩;refine ⟨_,rfl,?_⟩)|(go_at_call 61;(with_reducible refine (impl_isAddress.calls a2 true _ A13.out).mono ?_);rintro e w' ⟨rfl,⟨nd,rfl⟩⟩)|(go_at_call 61;(with_reducible refine (impl_isAddress.calls a4 false _ A15.out).mono ?_);rintro e w' ⟨rfl,⟨nd,rfl⟩⟩))
      go_meet
      case rel => exact ⟨_,(true),(by first | rfl|(simp;done)|(simp [*];done)|(simp [ne_nil_b];done)|(simp [ne_nil_b, *];done)),H',⟨by first | omega|exact Nat.le_refl _⟩,⟨by repeat (first|(with_reducible first|exact HB.out|apply bwA|apply bwN|apply bw1)|exact HB.out)⟩⟩
    ·replace c14:=Bool.eq_false_iff.mpr c14
     subst c14
     have H1 : (impl_FlowFind.j0 k l0 a1 a2 a3 a4 a5 true) = some (r1,r2,r3):=by rw [if_neg (show ¬ (false = true) by decide)] at H;exact H
     clear H
     have H:=H1
     clear H1
     have H':=aMk H
     clear H
     go_wp2_with (first|((with_reducible refine gate_callee (f:=66) rfl ?_);refine goesL_ (some 24) rfl rfl Try.func66 (by kernel_rfl) rfl #[.int .i64 a1] rfl (by (try simp only [List.map_toArray,List.map_cons,List.map_nil]);first | done | rfl|(simp only [List.length_drop,List.length_take];rfl)) ?_;(with_reducible refine (impl_isProto.calls a1 true _ A11.out).mono ?_);rintro e w' ⟨rfl,⟨nd,rfl⟩⟩;refine ⟨_,rfl,?_⟩)|(go_at_call 61;(with_reducible refine (impl_isAddress.calls a2 false _ A13.out).mono ?_);rintro e w' ⟨rfl,⟨nd,rfl⟩⟩))
     go_meet
     case rel => exact ⟨_,(true),(by first | rfl|(simp;done)|(simp [*];done)|(simp [ne_nil_b];done)|(simp [ne_nil_b, *];done)),H',⟨by first | omega|exact Nat.le_refl _⟩,⟨by repeat (first|(with_reducible first|exact HB.out|apply bwA|apply bwN|apply bw1)|exact HB.out)⟩⟩
   ·replace c12:=Bool.eq_false_iff.mpr c12
    subst c12
    have H1 : (impl_FlowFind.j0 k l0 a1 a2 a3 a4 a5 true) = some (r1,r2,r3):=by rw [if_neg (show ¬ (false = true) by decide)] at H;exact H
    clear H
    have H:=H1
    clear H1
    have H':=aMk H
    clear H
    go_wp2_with (first|((with_reducible refine gate_callee (f:=66) rfl ?_);refine goesL_ (some 24) rfl rfl Try.func66 (by kernel_rfl) rfl #[.int .i64 a1] rfl (by (try simp only [List.map_toArray,List.map_cons,List.map_nil]);first | done | rfl|(simp only [List.length_drop,List.length_take];rfl)) ?_;(with_reducible refine (impl_isProto.calls a1 false _ A11.out).mono ?_);rintro e w' ⟨rfl,⟨nd,rfl⟩⟩;refine ⟨_,rfl,?_⟩))
    go_meet
    case rel => exact ⟨_,(true),(by first | rfl|(simp;done)|(simp [*];done)|(simp [ne_nil_b];done)|(simp [ne_nil_b, *];done)),H',⟨by first | omega|exact Nat.le_refl _⟩,⟨by repeat (first|(with_reducible first|exact HB.out|apply bwA|apply bwN|apply bw1)|exact HB.out)⟩⟩
  case rest =>
   clear HC9
   try clear c1
   try clear p2
   try clear c3
   try clear c6
   try clear c8
   try clear c8b0
   try clear c8b1
   try clear c12
   try clear c14
   try clear c16
   try clear c18
   obtain ⟨kq,x45_8,rfl,HA,HJ8,HB⟩:=hcut
   cases kq with
   | zero => exact absurd HA.out (by simp [impl_FlowFind.j0])
   | succ kj8 =>
    have H:=HA.out
    clear HA
    simp only [impl_FlowFind.j0] at H
    by_cases c20 : x45_8 = true
    ·subst c20
     have H1 : (some (0,false,4)) = some (r1,r2,r3):=by rw [if_pos rfl] at H;exact H
     clear H
     have H:=H1
     clear H1
     simp only [Option.some.injEq,Prod.mk.injEq] at H
     obtain ⟨rfl,rfl,rfl⟩:=H
     go_wp2
     go_ret3
     exact ⟨by first | rfl|(simp [errW_none,errW_some] <;> rfl)|(simp [*,errW_none,errW_some] <;> rfl),by repeat (first|(with_reducible first|exact HB.out|apply bwA|apply bwN|apply bw1)|exact HB.out)⟩
    ·replace c20:=Bool.eq_false_iff.mpr c20
     subst c20
     have H1 : ((impl_find.f kj8 l0 a1 a2 a3 a4 a5).bind fun bt313 => (if bt313.1 < 0 then (some (0,false,5)) else (some (bt313.1,bt313.2,0)))) = some (r1,r2,r3):=by rw [if_neg (show ¬ (false = true) by decide)] at H;exact H
     clear H
     have H:=H1
     clear H1
     replace H:=Option.bind_eq_some_iff.mp H
     obtain ⟨⟨t313,t314⟩,A210,H⟩:=H
     replace H : (if t313 < 0 then (some (0,false,5)) else (some (t313,t314,0))) = some (r1,r2,r3):=H
     have A21:=aMk A210
     clear A210
     by_cases c22 : t313 < 0
     ·rw [if_pos c22] at H
      have c22b0 : decide (t313 < 0) = true:=decide_eq_true c22
      clear c22
      simp only [Option.some.injEq,Prod.mk.injEq] at H
      obtain ⟨rfl,rfl,rfl⟩:=H
      go_wp2_with (first|((with_reducible refine gate_callee (f:=78) rfl ?_);refine goesL_ (some 53) rfl rfl Try.func78 (by kernel_rfl) rfl #[.slice A0 l0.length c0,.int .i64 a1,.int .i64 a2,.int .i64 a3,.int .i64 a4,.int .i64 a5] rfl (by (try simp only [List.map_toArray,List.map_cons,List.map_nil]);first | done | rfl|(simp only [List.length_drop,List.length_take];rfl)) ?_;(with_reducible refine (impl_find.calls kj8 _ _ l0 a1 a2 a3 a4 a5 t313 t314 _ ?side1 ?side2 A21.out).mono ?_);(case side1 => repeat (first|exact (Kd.C_below HR0.out HB.out)|(with_reducible refine Kd.C_alloc ?_ _)|(with_reducible refine Kd.C_drewN ?_ _)|(with_reducible refine Kd.C_drew ?_)));(case side2 => exact HC0.out);rintro e w23 ⟨rfl,hb⟩;refine ⟨_,rfl,?_⟩;have n0_:=aMk (below_step (by repeat first|exact HB.out|apply bwA|apply bwN|apply bw1) hb);clear HB;have HB:=n0_;clear n0_;(try clear hb);(try clear hb2);(try clear hk);(try clear hi)))
      go_ret3
      exact ⟨by first | rfl|(simp [errW_none,errW_some] <;> rfl)|(simp [*,errW_none,errW_some] <;> rfl),by repeat (first|(with_reducible first|exact HB.out|apply bwA|apply bwN|apply bw1)|exact HB.out)⟩
     ·rw [if_neg c22] at H
      have c22b0 : decide (t313 < 0) = false:=decide_eq_false c22
      clear c22
      simp only [Option.some.injEq,Prod.mk.injEq] at H
      obtain ⟨rfl,rfl,rfl⟩:=H
      go_wp2_with (first|((with_reducible refine gate_callee (f:=78) rfl ?_);refine goesL_ (some 53) rfl rfl Try.func78 (by kernel_rfl) rfl #[.slice A0 l0.length c0,.int .i64 a1,.int .i64 a2,.int .i64 a3,.int .i64 a4,.int .i64 a5] rfl (by (try simp only [List.map_toArray,List.map_cons,List.map_nil]);first | done | rfl|(simp only [List.length_drop,List.length_take];rfl)) ?_;(with_reducible refine (impl_find.calls kj8 _ _ l0 a1 a2 a3 a4 a5 t313 t314 _ ?side1 ?side2 A21.out).mono ?_);(case side1 => repeat (first|exact (Kd.C_below HR0.out HB.out)|(with_reducible refine Kd.C_alloc ?_ _)|(with_reducible refine Kd.C_drewN ?_ _)|(with_reducible refine Kd.C_drew ?_)));(case side2 => exact HC0.out);rintro e w24 ⟨rfl,hb⟩;refine ⟨_,rfl,?_⟩;have n0_:=aMk (below_step (by repeat first|exact HB.out|apply bwA|apply bwN|apply bw1) hb);clear HB;have HB:=n0_;clear n0_;(try clear hb);(try clear hb2);(try clear hk);(try clear hi)))
      go_ret3
      exact ⟨by first | rfl|(simp [errW_none,errW_some] <;> rfl)|(simp [*,errW_none,errW_some] <;> rfl),by repeat (first|(with_reducible first|exact HB.out|apply bwA|apply bwN|apply bw1)|exact HB.out)⟩
 ·rw [if_neg c8] at H
  have c8b0 : (t307 == 0) = false:=beq_eq_false_iff_ne.mpr c8
  have c8b1 : (t307 != 0) = true:=bne_iff_ne.mpr c8
  simp only [Option.some.injEq,Prod.mk.injEq] at H
  obtain ⟨rfl,rfl,rfl⟩:=H
  go_enter Try.func32,Try.ntmps32
  go_wp2_with (first|((with_reducible refine gate_callee (f:=81) rfl ?_);refine goesL_ (some 19) rfl rfl Try.func81 (by kernel_rfl) rfl #[.slice A0 l0.length c0] rfl (by (try simp only [List.map_toArray,List.map_cons,List.map_nil]);first | done | rfl|(simp only [List.length_drop,List.length_take];rfl)) ?_;(with_reducible refine (impl_flowsFault.calls k _ _ l0 t307 _ ?side1 ?side2 A7.out).mono ?_);(case side1 => repeat (first|exact HR0.out|(with_reducible refine Kd.C_alloc ?_ _)|(with_reducible refine Kd.C_drewN ?_ _)|(with_reducible refine Kd.C_drew ?_)));(case side2 => exact HC0.out);rintro e w25 ⟨rfl,hb⟩;refine ⟨_,rfl,?_⟩;have n0_:=aMk (below_step (by repeat first|exact HB.out|apply bwA|apply bwN|apply bw1) hb);clear HB;have HB:=n0_;clear n0_;(try clear hb);(try clear hb2);(try clear hk);(try clear hi)))
  go_ret3
  exact ⟨by first | rfl|(simp [errW_none,errW_some] <;> rfl)|(simp [*,errW_none,errW_some] <;> rfl),by repeat (first|(with_reducible first|exact HB.out|apply bwA|apply bwN|apply bw1)|exact HB.out)⟩
end
section
def fst_T71 (q : S71 → Bool) (l : List S71) : Nat → Int → Int
 | 0,_ => -1
 | d + 1,i => if q (rd_T71 l i) = true then i else fst_T71 q l d (i + 1)
def any_T71 (q : S71 → Bool) (l : List S71) : Nat → Int → Bool
 | 0,_ => false
 | d + 1,i => q (rd_T71 l i) || any_T71 q l d (i + 1)
theorem fst_any_T71 (q : S71 → Bool) (l : List S71) : ∀ (d : Nat) (i : Int),0 ≤ i → decide (0 ≤ fst_T71 q l d i) = any_T71 q l d i
 | 0,i,_ => by simp [fst_T71,any_T71]
 | d + 1,i,h => by
  rw [fst_T71,any_T71]
  cases e : q (rd_T71 l i)
  ·rw [if_neg (by simp),fst_any_T71 q l d (i + 1) (by omega),Bool.false_or]
  ·rw [if_pos rfl,decide_eq_true h,Bool.true_or]
theorem any_false_T71 (q : S71 → Bool) (l : List S71) : ∀ (d : Nat) (i : Int),any_T71 q l d i = false → ∀ j : Int,i ≤ j → j < i + d → q (rd_T71 l j) = false
 | 0,i,_,j,h1,h2 => by omega
 | d + 1,i,h,j,h1,h2 => by
  rw [any_T71,Bool.or_eq_false_iff] at h
  by_cases e : j = i
  ·rw [e];exact h.1
  ·exact any_false_T71 q l d (i + 1) h.2 j (by omega) (by omega)
theorem idxP71_evr (q : S71 → Bool) (l : List S71) (hx : (l.length : Int) ≤ 1152921504606846976) (p : S71 → Option Bool) : ∀ (d : Nat) (i : Int),0 ≤ i → (l.length : Int) - i = d → (∀ j : Int,i ≤ j → j < l.length → p (rd_T71 l j) = some (q (rd_T71 l j))) → ∀ k,d + 1 ≤ k → idxP71 p l k i = some (fst_T71 q l d i)
 | 0,i,h0,hd,hp,k,hk => by
  obtain ⟨k,rfl⟩ : ∃ z,k = z + 1:=⟨k - 1,by omega⟩
  rw [idxP71,if_neg (by omega)];rfl
 | d + 1,i,h0,hd,hp,k,hk => by
  obtain ⟨k,rfl⟩ : ∃ z,k = z + 1:=⟨k - 1,by omega⟩
  rw [idxP71,if_pos (by omega),if_pos h0,hp i (by omega) (by omega),Option.bind_some,fst_T71,wrap_id (by omega) (by omega),idxP71_evr q l hx p d (i + 1) (by omega) (by omega) (fun j h1 h2 => hp j (by omega) h2) k (by omega)]
  cases q (rd_T71 l i) <;> simp
theorem fst_lt_T71 (q : S71 → Bool) (l : List S71) : ∀ (d : Nat) (i : Int),fst_T71 q l d i = -1 ∨ (i ≤ fst_T71 q l d i ∧ fst_T71 q l d i < i + d)
 | 0,i => Or.inl rfl
 | d + 1,i => by
  rw [fst_T71]
  split
  ·exact Or.inr ⟨by omega,by omega⟩
  ·rcases fst_lt_T71 q l d (i + 1) with h | h
   ·exact Or.inl h
   ·exact Or.inr ⟨by omega,by omega⟩
end
section
-- NEEDS spec.l01In impl.within
theorem l01In_eq (a b c : Int) : spec_l01In.f a b c = some (decide (b ≤ a ∧ a ≤ c)):=by unfold spec_l01In.f;grind
theorem within_eq (a b c : Int) : impl_within.f a b c = some (decide (b ≤ a ∧ a ≤ c)):=by unfold impl_within.f;grind
end
section
-- NEEDS spec.l01Ip impl.isAddress
theorem l01Ip_eq (a : Int) : spec_l01Ip.f a = some (decide (0 ≤ a ∧ a ≤ 4294967295)):=by simp only [spec_l01Ip.f,l01In_eq,Option.bind_some]
theorem isAddress_eq (a : Int) : impl_isAddress.f a = some (decide (0 ≤ a ∧ a ≤ 4294967295)):=by simp only [impl_isAddress.f,within_eq,Option.bind_some]
end
section
-- NEEDS spec.l02Port impl.isPort
theorem l02Port_eq (a : Int) : spec_l02Port.f a = some (decide (0 ≤ a ∧ a ≤ 65535)):=by simp only [spec_l02Port.f,l01In_eq,Option.bind_some]
theorem isPort_eq (a : Int) : impl_isPort.f a = some (decide (0 ≤ a ∧ a ≤ 65535)):=by simp only [impl_isPort.f,within_eq,Option.bind_some]
end
section
-- NEEDS impl.FlowsOK spec.FlowsOK impl.find
def sameb (p a ap b bp : Int) (x : S71) : Bool:=decide (x.f0 = p) && (decide (x.f2 = a) && (decide (x.f3 = ap) && (decide (x.f4 = b) && decide (x.f5 = bp))))
def twin (f x : S71) : Bool:=sameb f.f0 f.f2 f.f3 f.f4 f.f5 x || sameb f.f0 f.f4 f.f5 f.f2 f.f3 x
def flowb (x : S71) : Bool:=decide (0 ≤ x.f0 ∧ x.f0 ≤ 255) && (((x.f1.size : Int) == 6) && (decide (0 ≤ x.f2 ∧ x.f2 ≤ 4294967295) && (decide (0 ≤ x.f4 ∧ x.f4 ≤ 4294967295) && (decide (0 ≤ x.f3 ∧ x.f3 ≤ 65535) && (decide (0 ≤ x.f5 ∧ x.f5 ≤ 65535) && (decide (1 ≤ x.f6 ∧ x.f6 ≤ 3) && (decide (0 ≤ x.f7 ∧ x.f7 ≤ 100100) && decide (0 ≤ x.f8 ∧ x.f8 ≤ 10000))))))))
theorem same_spec (x : S71) (p a ap b bp : Int) : spec_l09Same.f x.f0 x.f1 x.f2 x.f3 x.f4 x.f5 x.f6 x.f7 x.f8 p a ap b bp = some (sameb p a ap b bp x):=by
 unfold spec_l09Same.f sameb
 by_cases c1 : x.f0 = p
 ·rw [if_pos c1,decide_eq_true c1]
  by_cases c2 : x.f2 = a
  ·rw [if_pos c2,decide_eq_true c2]
   by_cases c3 : x.f3 = ap
   ·rw [if_pos c3,decide_eq_true c3]
    by_cases c4 : x.f4 = b
    ·rw [if_pos c4,decide_eq_true c4];by_cases c5 : x.f5 = bp <;> simp [c5]
    ·rw [if_neg c4,decide_eq_false c4];rfl
   ·rw [if_neg c3,decide_eq_false c3];rfl
  ·rw [if_neg c2,decide_eq_false c2];rfl
 ·rw [if_neg c1,decide_eq_false c1];rfl
theorem same_impl (x : S71) (p a ap b bp : Int) : impl_Flow_is.f x.f0 x.f1 x.f2 x.f3 x.f4 x.f5 x.f6 x.f7 x.f8 p a ap b bp = some (sameb p a ap b bp x):=same_spec x p a ap b bp
theorem find1_eq (x : S71) (p a ap b bp : Int) : impl_find_1.f x.f0 x.f1 x.f2 x.f3 x.f4 x.f5 x.f6 x.f7 x.f8 p a ap b bp = some (sameb p a ap b bp x):=by
 simp only [impl_find_1.f,same_impl,Option.bind_some]
theorem find2_eq (x : S71) (p a ap b bp : Int) : impl_find_2.f x.f0 x.f1 x.f2 x.f3 x.f4 x.f5 x.f6 x.f7 x.f8 p a ap b bp = some (sameb p a ap b bp x):=by
 simp only [impl_find_2.f,same_impl,Option.bind_some]
theorem flow_spec (x : S71) : spec_l09Flow.f x.f0 x.f1 x.f2 x.f3 x.f4 x.f5 x.f6 x.f7 x.f8 = some (flowb x):=by
 simp only [spec_l09Flow.f,spec_l01Mac.f,l01Ip_eq,l02Port_eq,l01In_eq,Option.bind_some,flowb]
 cases decide (0 ≤ x.f0 ∧ x.f0 ≤ 255)
 ·rfl
 cases ((x.f1.size : Int) == 6)
 ·rfl
 cases decide (0 ≤ x.f2 ∧ x.f2 ≤ 4294967295)
 ·rfl
 cases decide (0 ≤ x.f4 ∧ x.f4 ≤ 4294967295)
 ·rfl
 cases decide (0 ≤ x.f3 ∧ x.f3 ≤ 65535)
 ·rfl
 cases decide (0 ≤ x.f5 ∧ x.f5 ≤ 65535)
 ·rfl
 cases decide (1 ≤ x.f6 ∧ x.f6 ≤ 3)
 ·rfl
 cases decide (0 ≤ x.f7 ∧ x.f7 ≤ 100100) <;> rfl
/-- What the loops of the two sides say of a flow: its ends,its state,its time. -/
theorem ends_impl (x : S71) : impl_Flow_endsOKAt.f x.f0 x.f1 x.f2 x.f3 x.f4 x.f5 x.f6 x.f7 x.f8 = some (decide (0 ≤ x.f0 ∧ x.f0 ≤ 255) && (((x.f1.size : Int) == 6) && (decide (0 ≤ x.f2 ∧ x.f2 ≤ 4294967295) && (decide (0 ≤ x.f4 ∧ x.f4 ≤ 4294967295) && (decide (0 ≤ x.f3 ∧ x.f3 ≤ 65535) && (decide (0 ≤ x.f5 ∧ x.f5 ≤ 65535) && decide (0 ≤ x.f8 ∧ x.f8 ≤ 10000))))))):=by
 simp only [impl_Flow_endsOKAt.f,impl_isProto.f,impl_macOK.f,isAddress_eq,isPort_eq,within_eq,Option.bind_some]
 cases decide (0 ≤ x.f0 ∧ x.f0 ≤ 255)
 ·rfl
 cases ((x.f1.size : Int) == 6)
 ·rfl
 cases decide (0 ≤ x.f2 ∧ x.f2 ≤ 4294967295)
 ·rfl
 cases decide (0 ≤ x.f4 ∧ x.f4 ≤ 4294967295)
 ·rfl
 cases decide (0 ≤ x.f3 ∧ x.f3 ≤ 65535)
 ·rfl
 cases decide (0 ≤ x.f5 ∧ x.f5 ≤ 65535) <;> rfl
theorem flowb_split (x : S71) : flowb x = ((decide (0 ≤ x.f0 ∧ x.f0 ≤ 255) && (((x.f1.size : Int) == 6) && (decide (0 ≤ x.f2 ∧ x.f2 ≤ 4294967295) && (decide (0 ≤ x.f4 ∧ x.f4 ≤ 4294967295) && (decide (0 ≤ x.f3 ∧ x.f3 ≤ 65535) && (decide (0 ≤ x.f5 ∧ x.f5 ≤ 65535) && decide (0 ≤ x.f8 ∧ x.f8 ≤ 10000))))))) && (decide (1 ≤ x.f6 ∧ x.f6 ≤ 3) && decide (0 ≤ x.f7 ∧ x.f7 ≤ 100100))):=by
 unfold flowb
 cases decide (0 ≤ x.f0 ∧ x.f0 ≤ 255)
 ·rfl
 cases ((x.f1.size : Int) == 6)
 ·rfl
 cases decide (0 ≤ x.f2 ∧ x.f2 ≤ 4294967295)
 ·rfl
 cases decide (0 ≤ x.f4 ∧ x.f4 ≤ 4294967295)
 ·rfl
 cases decide (0 ≤ x.f3 ∧ x.f3 ≤ 65535)
 ·rfl
 cases decide (0 ≤ x.f5 ∧ x.f5 ≤ 65535)
 ·rfl
 cases decide (1 ≤ x.f6 ∧ x.f6 ≤ 3) <;> cases decide (0 ≤ x.f7 ∧ x.f7 ≤ 100100) <;> cases decide (0 ≤ x.f8 ∧ x.f8 ≤ 10000) <;> rfl
theorem any_or (p q : S71 → Bool) (l : List S71) : ∀ (d : Nat) (i : Int),any_T71 (fun x => p x || q x) l d i = (any_T71 p l d i || any_T71 q l d i)
 | 0,_ => rfl
 | d + 1,i => by
  rw [any_T71,any_T71,any_T71,any_or p q l d (i + 1)]
  cases p (rd_T71 l i) <;> cases q (rd_T71 l i) <;> simp
theorem rd_take (l : List S71) (n : Nat) (j : Int) (h0 : 0 ≤ j) (hj : j < n) : rd_T71 (l.take n) j = rd_T71 l j:=by
 unfold rd_T71
 rw [List.getD_eq_getElem?_getD,List.getD_eq_getElem?_getD,List.getElem?_take,if_pos (by omega)]
theorem any_take (q : S71 → Bool) (l : List S71) (n : Nat) : ∀ (d : Nat) (j : Int),0 ≤ j → j + d ≤ n → any_T71 q (l.take n) d j = any_T71 q l d j
 | 0,_,_,_ => rfl
 | d + 1,j,h0,hj => by
  rw [any_T71,any_T71,rd_take l n j h0 (by omega),any_take q l n d (j + 1) (by omega) (by omega)]
def flowsFrom (l : List S71) : Nat → Int → Bool
 | 0,_ => true
 | d + 1,i => flowb (rd_T71 l i) && (!any_T71 (twin (rd_T71 l i)) l i.toNat 0 && flowsFrom l d (i + 1))
theorem spec_twins_run (l : List S71) (hx : (l.length : Int) ≤ 4096) (i : Int) (f : S71) (hi : i < l.length) (R : Bool) (K : Nat) (hR : ∀ k,K ≤ k → spec_FlowsOK.l0 k l (i + 1) = some R) :
  ∀ (e : Nat) (j : Int),0 ≤ j → i - j = e → ∀ k,e + 1 + K ≤ k → spec_FlowsOK.l1 k l i j f.f0 f.f1 f.f2 f.f3 f.f4 f.f5 f.f6 f.f7 f.f8 = some (!any_T71 (twin f) l e j && R)
 | 0,j,h0,he,k,hk => by
  obtain ⟨k,rfl⟩ : ∃ z,k = z + 1:=⟨k - 1,by omega⟩
  rw [spec_FlowsOK.l1,if_neg (by omega),wrap_id (by omega) (by omega),hR k (by omega)];rfl
 | e + 1,j,h0,he,k,hk => by
  obtain ⟨k,rfl⟩ : ∃ z,k = z + 1:=⟨k - 1,by omega⟩
  have ih:=spec_twins_run l hx i f hi R K hR e (j + 1) (by omega) (by omega) k (by omega)
  rw [spec_FlowsOK.l1,if_pos (by omega),if_pos h0,if_pos (by omega),same_spec,same_spec,wrap_id (by omega) (by omega),ih,any_T71,twin]
  simp only [Option.bind_some]
  cases sameb f.f0 f.f2 f.f3 f.f4 f.f5 (rd_T71 l j) <;> cases sameb f.f0 f.f4 f.f5 f.f2 f.f3 (rd_T71 l j) <;> simp
theorem spec_flows_run (l : List S71) (hx : (l.length : Int) ≤ 8) : ∀ (d : Nat) (i : Int),0 ≤ i → (l.length : Int) - i = d → ∀ k,d * 20 + 1 ≤ k → spec_FlowsOK.l0 k l i = some (flowsFrom l d i)
 | 0,i,h0,hd,k,hk => by
  obtain ⟨k,rfl⟩ : ∃ z,k = z + 1:=⟨k - 1,by omega⟩
  rw [spec_FlowsOK.l0,if_neg (by omega)];rfl
 | d + 1,i,h0,hd,k,hk => by
  obtain ⟨k,rfl⟩ : ∃ z,k = z + 1:=⟨k - 1,by omega⟩
  have tr:=spec_twins_run l (by omega) i (rd_T71 l i) (by omega) (flowsFrom l d (i + 1)) (d * 20 + 1) (fun k hk => spec_flows_run l hx d (i + 1) (by omega) (by omega) k hk) i.toNat 0 (by omega) (by omega) k (by omega)
  rw [spec_FlowsOK.l0,if_pos (by omega),if_pos h0,flow_spec,Option.bind_some,tr,flowsFrom]
  cases flowb (rd_T71 l i) <;> simp
def findR (l : List S71) (p a ap b bp : Int) : Int × Bool :=
 if fst_T71 (sameb p a ap b bp) l l.length 0 ≥ 0 then (fst_T71 (sameb p a ap b bp) l l.length 0,false) else (fst_T71 (sameb p b bp a ap) l l.length 0,decide (fst_T71 (sameb p b bp a ap) l l.length 0 ≥ 0))
theorem impl_find_ev (l : List S71) (hx : (l.length : Int) ≤ 1152921504606846976) (p a ap b bp : Int) (k : Nat) (hk : l.length + 1 ≤ k) : impl_find.f k l p a ap b bp = some (findR l p a ap b bp):=by
 unfold impl_find.f findR
 rw [idxP71_evr (sameb p a ap b bp) l hx _ l.length 0 (by omega) (by omega) (fun j _ _ => find1_eq _ p a ap b bp) k hk,Option.bind_some,
  idxP71_evr (sameb p b bp a ap) l hx _ l.length 0 (by omega) (by omega) (fun j _ _ => find2_eq _ p b bp a ap) k hk,Option.bind_some]
 split <;> rfl
theorem find_any (l : List S71) (p a ap b bp : Int) : decide ((findR l p a ap b bp).1 ≥ 0) = any_T71 (fun x => sameb p a ap b bp x || sameb p b bp a ap x) l l.length 0:=by
 rw [any_or,← fst_any_T71 (sameb p a ap b bp) l l.length 0 (by omega),← fst_any_T71 (sameb p b bp a ap) l l.length 0 (by omega)]
 unfold findR
 by_cases c : fst_T71 (sameb p a ap b bp) l l.length 0 ≥ 0
 ·rw [if_pos c,decide_eq_true (show 0 ≤ fst_T71 (sameb p a ap b bp) l l.length 0 from c),Bool.true_or]
 ·rw [if_neg c,decide_eq_false (show ¬ 0 ≤ fst_T71 (sameb p a ap b bp) l l.length 0 from c),Bool.false_or]
theorem impl_flows_run (l : List S71) (hx : (l.length : Int) ≤ 8) : ∀ (d : Nat) (i : Int),0 ≤ i → (l.length : Int) - i = d → ∀ k,d * 20 + 1 ≤ k → impl_FlowsOK.l0 k l (l.length : Int) i = some (flowsFrom l d i)
 | 0,i,h0,hd,k,hk => by
  obtain ⟨k,rfl⟩ : ∃ z,k = z + 1:=⟨k - 1,by omega⟩
  rw [impl_FlowsOK.l0,if_neg (by omega)];rfl
 | d + 1,i,h0,hd,k,hk => by
  obtain ⟨k,rfl⟩ : ∃ z,k = z + 2:=⟨k - 2,by omega⟩
  have ih:=impl_flows_run l hx d (i + 1) (by omega) (by omega) k (by omega)
  have hl : (l.take i.toNat).length = i.toNat:=by rw [List.length_take];omega
  have j1 : ∀ x,impl_FlowsOK.j1 (k + 1) l i (l.length : Int) i x = some (!x && (!any_T71 (twin (rd_T71 l i)) l i.toNat 0 && flowsFrom l d (i + 1))):=by
   intro x
   have fa:=find_any (l.take i.toNat) (rd_T71 l i).f0 (rd_T71 l i).f2 (rd_T71 l i).f3 (rd_T71 l i).f4 (rd_T71 l i).f5
   rw [hl,any_take _ l i.toNat i.toNat 0 (by omega) (by omega)] at fa
   have ft : any_T71 (twin (rd_T71 l i)) l i.toNat 0 = any_T71 (fun x => sameb (rd_T71 l i).f0 (rd_T71 l i).f2 (rd_T71 l i).f3 (rd_T71 l i).f4 (rd_T71 l i).f5 x || sameb (rd_T71 l i).f0 (rd_T71 l i).f4 (rd_T71 l i).f5 (rd_T71 l i).f2 (rd_T71 l i).f3 x) l i.toNat 0:=rfl
   rw [impl_FlowsOK.j1]
   cases x with
   | true => rfl
   | false =>
    have hf:=impl_find_ev (l.take i.toNat) (by rw [hl];omega) (rd_T71 l i).f0 (rd_T71 l i).f2 (rd_T71 l i).f3 (rd_T71 l i).f4 (rd_T71 l i).f5 k (by rw [hl];omega)
    rw [if_neg (by decide),if_pos h0,if_pos (by omega),if_pos (by omega),hf,Option.bind_some,wrap_id (by omega) (by omega),ih,ft,← fa]
    by_cases c : (findR (l.take i.toNat) (rd_T71 l i).f0 (rd_T71 l i).f2 (rd_T71 l i).f3 (rd_T71 l i).f4 (rd_T71 l i).f5).1 ≥ 0
    ·rw [if_pos c,decide_eq_true c];rfl
    ·rw [if_neg c,decide_eq_false c];rfl
  rw [impl_FlowsOK.l0,if_pos (by omega),if_pos h0,if_pos (by omega),ends_impl,Option.bind_some,within_eq,within_eq,flowsFrom,flowb_split]
  simp only [Option.bind_some,j1]
  generalize (decide (0 ≤ (rd_T71 l i).f0 ∧ (rd_T71 l i).f0 ≤ 255) && (((rd_T71 l i).f1.size : Int) == 6 && (decide (0 ≤ (rd_T71 l i).f2 ∧ (rd_T71 l i).f2 ≤ 4294967295) && (decide (0 ≤ (rd_T71 l i).f4 ∧ (rd_T71 l i).f4 ≤ 4294967295) && (decide (0 ≤ (rd_T71 l i).f3 ∧ (rd_T71 l i).f3 ≤ 65535) && (decide (0 ≤ (rd_T71 l i).f5 ∧ (rd_T71 l i).f5 ≤ 65535) && decide (0 ≤ (rd_T71 l i).f8 ∧ (rd_T71 l i).f8 ≤ 10000))))))) = u
  cases u
  ·simp
  ·cases decide (1 ≤ (rd_T71 l i).f6 ∧ (rd_T71 l i).f6 ≤ 3) <;> cases decide (0 ≤ (rd_T71 l i).f7 ∧ (rd_T71 l i).f7 ≤ 100100) <;> simp
def flowsb (l : List S71) : Bool:=decide ((l.length : Int) ≤ 8) && flowsFrom l l.length 0
theorem spec_FlowsOK_ev (l : List S71) (k : Nat) (hk : 200 ≤ k) : spec_FlowsOK.f k l = some (flowsb l):=by
 unfold spec_FlowsOK.f flowsb
 by_cases h : (l.length : Int) ≤ 8
 ·rw [if_neg (by omega),if_neg (by omega),spec_flows_run l h l.length 0 (by omega) (by omega) k (by omega),decide_eq_true h];rfl
 ·rw [decide_eq_false h]
  by_cases c : (l.length : Int) > 4096
  ·rw [if_pos c];rfl
  ·rw [if_neg c,if_pos (by omega)];rfl
theorem impl_FlowsOK_ev (l : List S71) (k : Nat) (hk : 200 ≤ k) : impl_FlowsOK.f k l = some (flowsb l):=by
 unfold impl_FlowsOK.f flowsb
 by_cases h : (l.length : Int) ≤ 8
 ·rw [if_neg (by omega),impl_flows_run l h l.length 0 (by omega) (by omega) k (by omega),decide_eq_true h];rfl
 ·rw [decide_eq_false h,if_pos (by omega)];rfl
end
section
-- NEEDS impl.FlowFind spec.FlowFind
theorem fst_val (q : S71 → Bool) (l : List S71) : ∀ (d : Nat) (i : Int),0 ≤ i → 0 ≤ fst_T71 q l d i → q (rd_T71 l (fst_T71 q l d i)) = true
 | 0,i,_,h => by simp [fst_T71] at h
 | d + 1,i,h0,h => by
  rw [fst_T71] at h ⊢
  by_cases c : q (rd_T71 l i) = true
  ·rw [if_pos c];exact c
  ·rw [if_neg c] at h ⊢;exact fst_val q l d (i + 1) (by omega) h
theorem spec_find_run (l : List S71) (hx : (l.length : Int) ≤ 4096) (p a ap b bp : Int) (H : ∀ x y : Int,0 ≤ x → x < y → y < l.length → sameb p b bp a ap (rd_T71 l x) = true → sameb p a ap b bp (rd_T71 l y) = true → False) :
  ∀ (d : Nat) (i : Int),0 ≤ i → (l.length : Int) - i = d → ∀ k,d + 1 ≤ k → spec_l09Find.l0 k l p a ap b bp i = some (if fst_T71 (sameb p a ap b bp) l d i ≥ 0 then (fst_T71 (sameb p a ap b bp) l d i,false) else (fst_T71 (sameb p b bp a ap) l d i,decide (fst_T71 (sameb p b bp a ap) l d i ≥ 0)))
 | 0,i,h0,hd,k,hk => by
  obtain ⟨k,rfl⟩ : ∃ z,k = z + 1:=⟨k - 1,by omega⟩
  rw [spec_l09Find.l0,if_neg (by omega)];rfl
 | d + 1,i,h0,hd,k,hk => by
  obtain ⟨k,rfl⟩ : ∃ z,k = z + 1:=⟨k - 1,by omega⟩
  have ih:=spec_find_run l hx p a ap b bp H d (i + 1) (by omega) (by omega) k (by omega)
  have hv:=fst_val (sameb p a ap b bp) l d (i + 1) (by omega)
  have hr:=fst_lt_T71 (sameb p a ap b bp) l d (i + 1)
  rw [spec_l09Find.l0,if_pos (by omega),if_pos h0,same_spec,same_spec,wrap_id (by omega) (by omega),ih,fst_T71,fst_T71]
  simp only [Option.bind_some]
  by_cases c1 : sameb p a ap b bp (rd_T71 l i) = true
  ·rw [if_pos c1,if_pos c1,if_pos (by omega)]
  ·rw [if_neg c1,if_neg c1]
   by_cases c2 : sameb p b bp a ap (rd_T71 l i) = true
   ·rw [if_pos c2,if_pos c2]
    have hn : ¬ fst_T71 (sameb p a ap b bp) l d (i + 1) ≥ 0:=fun h => H i _ h0 (by omega) (by omega) c2 (hv h)
    rw [if_neg hn,decide_eq_true (show i ≥ 0 from h0)]
   ·rw [if_neg c2,if_neg c2]
theorem flows_twins (l : List S71) : ∀ (d : Nat) (i : Int),0 ≤ i → (l.length : Int) - i = d → flowsFrom l d i = true → ∀ y : Int,i ≤ y → y < l.length → ∀ x : Int,0 ≤ x → x < y → twin (rd_T71 l y) (rd_T71 l x) = false
 | 0,i,h0,hd,hf,y,h1,h2,x,h3,h4 => by omega
 | d + 1,i,h0,hd,hf,y,h1,h2,x,h3,h4 => by
  rw [flowsFrom,Bool.and_eq_true,Bool.and_eq_true,Bool.not_eq_true'] at hf
  by_cases e : y = i
  ·rw [e];exact any_false_T71 _ l i.toNat 0 hf.2.1 x h3 (by omega)
  ·exact flows_twins l d (i + 1) (by omega) (by omega) hf.2.2 y (by omega) h2 x h3 h4
theorem find_excl (l : List S71) (hf : flowsb l = true) (p a ap b bp : Int) : ∀ x y : Int,0 ≤ x → x < y → y < l.length → sameb p b bp a ap (rd_T71 l x) = true → sameb p a ap b bp (rd_T71 l y) = true → False:=by
 intro x y h0 hxy hy hsx hsy
 rw [flowsb,Bool.and_eq_true] at hf
 have ht:=flows_twins l l.length 0 (by omega) (by omega) hf.2 y (by omega) hy x h0 hxy
 simp only [sameb,Bool.and_eq_true,decide_eq_true_eq] at hsx hsy
 obtain ⟨x0,x2,x3,x4,x5⟩:=hsx
 obtain ⟨y0,y2,y3,y4,y5⟩:=hsy
 simp only [twin,sameb,Bool.or_eq_false_iff] at ht
 have:=ht.2
 rw [decide_eq_true (by rw [x0,y0]),decide_eq_true (by rw [x2,y4]),decide_eq_true (by rw [x3,y5]),decide_eq_true (by rw [x4,y2]),decide_eq_true (by rw [x5,y3])] at this
 simp at this
theorem spec_find_ev (l : List S71) (hf : flowsb l = true) (p a ap b bp : Int) (k : Nat) (hk : l.length + 1 ≤ k) : spec_l09Find.f k l p a ap b bp = some (findR l p a ap b bp):=by
 have h8 : (l.length : Int) ≤ 8:=by
  have:=hf
  rw [flowsb,Bool.and_eq_true,decide_eq_true_eq] at this
  exact this.1
 exact spec_find_run l (by omega) p a ap b bp (find_excl l hf p a ap b bp) l.length 0 (by omega) (by omega) k hk
def findA (l : List S71) (p a ap b bp : Int) : Int × Bool × Int :=
 if (l.length : Int) > 4096 then (0,false,2) else if flowsb l = true then (if (decide (0 ≤ p ∧ p ≤ 255) && ((decide (0 ≤ a ∧ a ≤ 4294967295) && decide (0 ≤ ap ∧ ap ≤ 65535)) && (decide (0 ≤ b ∧ b ≤ 4294967295) && decide (0 ≤ bp ∧ bp ≤ 65535)))) = true then (if (findR l p a ap b bp).1 < 0 then (0,false,5) else ((findR l p a ap b bp).1,(findR l p a ap b bp).2,0)) else (0,false,4)) else (0,false,1)
theorem flows_len {l : List S71} (hf : flowsb l = true) : (l.length : Int) ≤ 8:=by
 rw [flowsb,Bool.and_eq_true,decide_eq_true_eq] at hf
 exact hf.1
end
section
-- NEEDS impl.FlowOpen spec.FlowOpen
def waitI (p : Int) : Int:=if p = 6 then 3 else 5
def openF (f : S71) (now : Int) : S71:=⟨f.f0,f.f1,f.f2,f.f3,f.f4,f.f5,1,wrap64 (now + waitI f.f0),f.f8⟩
def endsb (x : S71) : Bool:=decide (0 ≤ x.f0 ∧ x.f0 ≤ 255) && (((x.f1.size : Int) == 6) && (decide (0 ≤ x.f2 ∧ x.f2 ≤ 4294967295) && (decide (0 ≤ x.f4 ∧ x.f4 ≤ 4294967295) && (decide (0 ≤ x.f3 ∧ x.f3 ≤ 65535) && (decide (0 ≤ x.f5 ∧ x.f5 ≤ 65535) && decide (0 ≤ x.f8 ∧ x.f8 ≤ 10000))))))
theorem ends_ptr (x : S71) : impl_Flow_endsOKAt.f x.f0 x.f1 x.f2 x.f3 x.f4 x.f5 x.f6 x.f7 x.f8 = some (endsb x):=ends_impl x
theorem new_spec (x : S71) : spec_l09Flow.f x.f0 x.f1 x.f2 x.f3 x.f4 x.f5 1 0 x.f8 = some (endsb x):=by
 have e:=flow_spec (⟨x.f0,x.f1,x.f2,x.f3,x.f4,x.f5,1,0,x.f8⟩ : S71)
 rw [flowb_split] at e
 dsimp only at e
 rw [e]
 congr 1
 show (endsb x && _) = endsb x
 cases endsb x <;> rfl
theorem wait_impl (p : Int) : impl_flowWait.f p 1 = some (waitI p):=by
 unfold impl_flowWait.f waitI
 split <;> rfl
theorem wait_spec (p : Int) : spec_l09Wait.f p 1 = some (waitI p):=by
 unfold spec_l09Wait.f waitI
 split <;> rfl
def openR (l : List S71) (f : S71) (now : Int) : List S71 × Int :=
 if (l.length : Int) > 4096 then ([],2) else if flowsb l = true then (if endsb f = true then (if decide (0 ≤ now ∧ now ≤ 100000) = true then (if (findR l f.f0 f.f2 f.f3 f.f4 f.f5).1 ≥ 0 then (l,9) else if (l.length : Int) = 8 then (l,7) else (l ++ [openF f now],0)) else ([],4)) else ([],1)) else ([],1)
theorem openR_len (l : List S71) (f : S71) (now : Int) : (openR l f now).1.length ≤ 9:=by
 unfold openR
 repeat' split
 all_goals first|(simp;done) | skip
 all_goals (rename_i hf _ _ _ <;> have:=flows_len (by assumption) <;> simp <;> omega)
theorem spec_FlowOpen_ev (l : List S71) (f : S71) (now : Int) (k : Nat) (hk : 201 ≤ k) : spec_FlowOpen.f k l f.f0 f.f1 f.f2 f.f3 f.f4 f.f5 f.f6 f.f7 f.f8 now = some (openR l f now):=by
 obtain ⟨k,rfl⟩ : ∃ z,k = z + 1:=⟨k - 1,by omega⟩
 unfold spec_FlowOpen.f openR
 by_cases c : (l.length : Int) > 4096
 ·rw [if_pos c,if_pos c]
 rw [if_neg c,if_neg c,spec_FlowsOK_ev l (k + 1) (by omega),Option.bind_some]
 cases hf : flowsb l
 ·simp [spec_FlowOpen.j0]
 have h8:=flows_len hf
 rw [if_pos rfl,if_pos rfl,new_spec,Option.bind_some]
 cases he : endsb f
 ·simp [spec_FlowOpen.j0]
 simp only [spec_FlowOpen.j0,l01In_eq,Option.bind_some,spec_find_ev l hf f.f0 f.f2 f.f3 f.f4 f.f5 k (by omega),Bool.not_true,Bool.false_eq_true,if_false,if_true]
 cases decide (0 ≤ now ∧ now ≤ 100000)
 ·simp
 simp only [if_true]
 by_cases c1 : (findR l f.f0 f.f2 f.f3 f.f4 f.f5).1 ≥ 0
 ·rw [if_pos c1,if_pos c1,if_pos (by simp;omega)];rfl
 rw [if_neg c1,if_neg c1]
 unfold spec_l09Open.f
 by_cases c2 : (l.length : Int) = 8
 ·rw [if_pos c2,if_pos c2,Option.bind_some,if_pos (by simp;omega)];rfl
 ·rw [if_neg c2,if_neg c2,wait_spec]
  simp only [Option.bind_some]
  rw [if_pos (by simp;omega),if_pos (by simp;omega),Option.bind_some,if_pos (by simp;omega)]
  rfl
theorem impl_FlowOpen_ev (l : List S71) (f : S71) (now : Int) (k : Nat) (hk : 201 ≤ k) : impl_FlowOpen.f k l f.f0 f.f1 f.f2 f.f3 f.f4 f.f5 f.f6 f.f7 f.f8 now = some (openR l f now):=by
 unfold impl_FlowOpen.f impl_flowsFault.f openR
 by_cases c : (l.length : Int) > 4096
 ·rw [if_pos c,if_pos c];rfl
 rw [if_neg c,if_neg c,impl_FlowsOK_ev l k (by omega),Option.bind_some]
 cases hf : flowsb l
 ·simp
 have h8:=flows_len hf
 have hc : impl_Flow_100.f l = some l:=by
  unfold impl_Flow_100.f
  rw [Option.bind_some,if_pos (by simp;omega),List.nil_append]
 simp only [if_true,Option.bind_some,ends_ptr,impl_isTime.f,within_eq,hc,impl_flowOpen.f,impl_find_ev l (by omega) f.f0 f.f2 f.f3 f.f4 f.f5 k (by omega),wait_impl]
 cases he : endsb f
 ·simp
 cases decide (0 ≤ now ∧ now ≤ 100000)
 ·simp
 simp only [if_true]
 by_cases c1 : (findR l f.f0 f.f2 f.f3 f.f4 f.f5).1 ≥ 0
 ·rw [if_pos c1,if_pos c1];rfl
 rw [if_neg c1,if_neg c1]
 by_cases c2 : (l.length : Int) = 8
 ·rw [if_pos c2,if_pos c2];rfl
 ·rw [if_neg c2,if_neg c2,if_pos (by omega)];rfl
end
section
theorem eq_T71_refl (x : S71) : laws_eqFlow.f (x.f0) (x.f1) (x.f2) (x.f3) (x.f4) (x.f5) (x.f6) (x.f7) (x.f8) (x.f0) (x.f1) (x.f2) (x.f3) (x.f4) (x.f5) (x.f6) (x.f7) (x.f8) = some true:=by
 unfold laws_eqFlow.f
 repeat' (first|rw [if_pos rfl] | rfl | rw [if_neg (by simp)])
 all_goals simp
theorem eqS_T71_l0 (xs : List S71) : ∀ (d : Nat) (i : Int),0 ≤ i → (xs.length : Int) - i = d → (xs.length : Int) ≤ 1152921504606846976 → Ev (fun k => laws_eqFlowS.l0 k xs xs i) true:=by
 intro d
 induction d with
 | zero =>
  intro i h0 hd hx
  refine ⟨1,fun k hk => ?_⟩
  obtain ⟨k,rfl⟩ : ∃ q,k = q + 1:=⟨k - 1,by omega⟩
  simp only [laws_eqFlowS.l0]
  rw [if_neg (by omega)]
 | succ d ih =>
  intro i h0 hd hx
  have hlt : i < (xs.length : Int):=by omega
  have ei : wrap64 (i + 1) = i + 1:=wrap_id (by omega) (by omega)
  refine Ev.step (f:=fun k => laws_eqFlowS.l0 k xs xs (i + 1)) (fun k => ?_) (ih (i + 1) (by omega) (by omega) hx)
  simp only [laws_eqFlowS.l0,ei]
  rw [if_pos hlt,if_pos h0,if_pos hlt]
  simp only [eq_T71_refl,Option.bind_some,if_true]
theorem eqS_T71_ev (xs : List S71) (hx : (xs.length : Int) ≤ 1152921504606846976) : Ev (fun k => laws_eqFlowS.f k xs xs) true:=by
 refine Ev.congr (f:=fun k => laws_eqFlowS.l0 k xs xs 0) (fun k => ?_) (eqS_T71_l0 xs xs.length 0 (by omega) (by omega) hx)
 simp only [laws_eqFlowS.f,if_true]
end
section
def wf68 (x : S68) : Prop:=(Lit.int .i64 x.f0).wf = true ∧ (x.f1.size ≤ 140737488351232 ∧ ((Lit.int .i64 x.f2).wf = true ∧ ((Lit.int .i64 x.f3).wf = true ∧ ((Lit.int .i64 x.f4).wf = true ∧ ((Lit.int .i64 x.f5).wf = true ∧ ((Lit.int .i64 x.f6).wf = true ∧ ((Lit.int .i64 x.f7).wf = true ∧ ((Lit.int .i64 x.f8).wf = true))))))))
set_option maxRecDepth 100000 in
theorem opens68 : Opens Try.prog 68 k68 wf68 :=
 Opens.iso (fun x : S68 => (x.f0,x.f1,x.f2,x.f3,x.f4,x.f5,x.f6,x.f7,x.f8)) (fun y => ⟨y.1,y.2.1,y.2.2.1,y.2.2.2.1,y.2.2.2.2.1,y.2.2.2.2.2.1,y.2.2.2.2.2.2.1,y.2.2.2.2.2.2.2.1,y.2.2.2.2.2.2.2.2⟩) (fun _ => rfl) (Opens.struct Try.underlying68 (by kernel_rfl) (OpensF.cons rfl (Opens.int Try.underlying3 (by kernel_rfl)) 1 rfl (OpensF.cons rfl (Opens.string Try.underlying9 (by kernel_rfl)) 2 rfl (OpensF.cons rfl (Opens.int Try.underlying3 (by kernel_rfl)) 3 rfl (OpensF.cons rfl (Opens.int Try.underlying3 (by kernel_rfl)) 4 rfl (OpensF.cons rfl (Opens.int Try.underlying3 (by kernel_rfl)) 5 rfl (OpensF.cons rfl (Opens.int Try.underlying3 (by kernel_rfl)) 6 rfl (OpensF.cons rfl (Opens.int Try.underlying3 (by kernel_rfl)) 7 rfl (OpensF.cons rfl (Opens.int Try.underlying3 (by kernel_rfl)) 8 rfl (OpensF.one rfl (Opens.int Try.underlying3 (by kernel_rfl))))))))))))
end
section
-- NEEDS laws.szFlowS laws.toFlowS
theorem rdmem_T68 {l : List S68} {i : Int} (h : i.toNat < l.length) : rd_T68 l i ∈ l:=by
 unfold rd_T68
 rw [List.getD_eq_getElem?_getD,List.getElem?_eq_getElem h]
 exact List.getElem_mem h
end
section
-- NEEDS laws.FnExactFlowOpen
theorem szFlowsB_l0 (l : List S68) (hw : ∀ y ∈ l,wf68 y) (hx : (l.length : Int) ≤ 1152921504606846976) : ∀ (d : Nat) (i left : Int),0 ≤ i → (l.length : Int) - i = d → 0 ≤ left → left ≤ 1048576 →
  ∃ t,(∀ k,d + 1 ≤ k → laws_szFlowS.l0 k l left i = some t) ∧ t ≤ left
 | 0,i,left,h0,hd,h1,h2 => by
  refine ⟨left,fun k hk => ?_,by omega⟩
  obtain ⟨k,rfl⟩ : ∃ z,k = z + 1:=⟨k - 1,by omega⟩
  rw [laws_szFlowS.l0,if_neg (by omega)]
 | d + 1,i,left,h0,hd,h1,h2 => by
  have hwi:=(hw _ (rdmem_T68 (l:=l) (i:=i) (by omega))).2.1
  by_cases c : left - ((rd_T68 l i).f1.size : Int) < 0
  ·refine ⟨-1,fun k hk => ?_,by omega⟩
   obtain ⟨k,rfl⟩ : ∃ z,k = z + 1:=⟨k - 1,by omega⟩
   rw [laws_szFlowS.l0,if_pos (by omega),if_pos h0]
   simp only [laws_szFlow.f]
   rw [wrap_id (n:=left - ((rd_T68 l i).f1.size : Int)) (by omega) (by omega),if_pos c]
   rfl
  ·obtain ⟨u,e2,hu⟩:=szFlowsB_l0 l hw hx d (i + 1) (left - ((rd_T68 l i).f1.size : Int)) (by omega) (by omega) (by omega) (by omega)
   refine ⟨u,fun k hk => ?_,by omega⟩
   obtain ⟨k,rfl⟩ : ∃ z,k = z + 1:=⟨k - 1,by omega⟩
   rw [laws_szFlowS.l0,if_pos (by omega),if_pos h0]
   simp only [laws_szFlow.f]
   rw [wrap_id (n:=left - ((rd_T68 l i).f1.size : Int)) (by omega) (by omega),if_neg c,Option.bind_some,if_neg c,wrap_id (by omega) (by omega),e2 k (by omega)]
theorem szFlowsB_ev (l : List S68) (hw : ∀ y ∈ l,wf68 y) (hx : l.length ≤ 140737488351232) : ∃ (t : Int) (K : Nat),(∀ k,K ≤ k → laws_szFlowS.f k l 1048576 = some t) ∧ t ≤ 1048576 ∧ (0 ≤ t → l.length ≤ 1048576):=by
 simp only [laws_szFlowS.f]
 rw [wrap_id (n:=1048576 - (l.length : Int)) (by omega) (by omega)]
 by_cases c : 1048576 - (l.length : Int) < 0
 ·exact ⟨-1,0,fun k _ => by rw [if_pos c],by omega,fun h => by omega⟩
 ·simp only [if_neg c]
  obtain ⟨t,e,ht⟩:=szFlowsB_l0 l hw (by omega) l.length 0 (1048576 - (l.length : Int)) (by omega) (by omega) (by omega) (by omega)
  exact ⟨t,l.length + 1,e,by omega,fun _ => by omega⟩
end
section
theorem markText_l0 : ∀ (d : Nat) (n : Int) (s : ByteArray),0 ≤ n → n.toNat ≤ d → s.size + n.toNat ≤ 4611686018427387904 → ∃ t,laws_markText.l0 (d + 1) n s = some t:=by
 intro d
 induction d with
 | zero =>
  intro n s h0 hd hs
  have e : n = 0:=by omega
  subst e
  simp only [laws_markText.l0]
  rw [if_neg (by omega),if_pos (by omega)]
  exact ⟨_,rfl⟩
 | succ d ih =>
  intro n s h0 hd hs
  by_cases hn : n > 0
  ·unfold laws_markText.l0
   rw [if_pos hn]
   simp only [Option.bind_some]
   have hz : (strOfNums [wrap64 (48 + Int.tmod n 10) % 256]).size = 1:=rfl
   rw [if_pos (by rw [hz];omega)]
   have hq : wrap64 (Int.tdiv n 10) = n / 10:=by
    rw [Int.tdiv_eq_ediv_of_nonneg h0]
    exact wrap_id (by omega) (by omega)
   rw [hq]
   refine ih (n / 10) _ (by omega) (by omega) ?_
   rw [ByteArray.size_append,hz]
   omega
  ·unfold laws_markText.l0
   rw [if_neg hn,if_pos (by omega)]
   exact ⟨_,rfl⟩
theorem markText_ev (n : Int) (h : n ≤ 2305843009213693952) : ∃ t,Ev (fun k => laws_markText.f k n) t:=by
 by_cases h0 : n ≤ 0
 ·exact ⟨_,0,fun k _ => by simp only [laws_markText.f];rw [if_pos h0]⟩
 ·obtain ⟨t,ht⟩:=markText_l0 n.toNat n ⟨#[]⟩ (by omega) (Nat.le_refl _) (by show 0 + _ ≤ _;omega)
  refine ⟨t,Ev.of (laws_markText.mono n) (k:=n.toNat + 1) ?_⟩
  simp only [laws_markText.f]
  rw [if_neg h0]
  exact ht
/-- The text that marks a number. -/
noncomputable def mtx (n : Int) : ByteArray:=@Classical.epsilon ByteArray ⟨⟨#[]⟩⟩ (fun t => Ev (fun k => laws_markText.f k n) t)
theorem mtx_ev (n : Int) (h : n ≤ 2305843009213693952) : Ev (fun k => laws_markText.f k n) (mtx n):=Classical.epsilon_spec (p:=fun t => Ev (fun k => laws_markText.f k n) t) (markText_ev n h)
end
section
theorem rdset_T71 {xs : List S71} {i : Int} (h : i.toNat < xs.length) (v : S71) : rd_T71 (xs.set i.toNat v) i = v:=by
 unfold rd_T71
 rw [List.getD_eq_getElem?_getD,List.getElem?_set_self h]
 rfl
theorem rdset_ne_T71 {xs : List S71} {i j : Int} (h0 : 0 ≤ i) (h1 : 0 ≤ j) (h : i ≠ j) (v : S71) : rd_T71 (xs.set i.toNat v) j = rd_T71 xs j:=by
 unfold rd_T71
 rw [List.getD_eq_getElem?_getD,List.getElem?_set_ne (by omega),← List.getD_eq_getElem?_getD]
end
section
noncomputable def mk_T71 (n : Int) : S71:=(⟨n,mtx (n + 1),n + 1 + 1,n + 1 + 1 + 1,n + 1 + 1 + 1 + 1,n + 1 + 1 + 1 + 1 + 1,n + 1 + 1 + 1 + 1 + 1 + 1,n + 1 + 1 + 1 + 1 + 1 + 1 + 1,n + 1 + 1 + 1 + 1 + 1 + 1 + 1 + 1⟩ : S71)
set_option maxHeartbeats 2000000 in
theorem mark_T71_l0 : ∀ (d : Nat) (xs : List S71) (m i : Int),0 ≤ i → (xs.length : Int) - i = d → 0 ≤ m → m + 9 * d ≤ 1152921504606846976 → (xs.length : Int) ≤ 1152921504606846976 →
  ∃ ys : List S71,Ev (fun k => laws_markFlowS.l0 k xs m i) (m + 9 * d,ys) ∧ ys.length = xs.length ∧ (∀ j : Int,0 ≤ j → j < i → rd_T71 ys j = rd_T71 xs j) ∧ (∀ j : Int,i ≤ j → j < xs.length → rd_T71 ys j = mk_T71 (m + 9 * (j - i))):=by
 intro d
 induction d with
 | zero =>
  intro xs m i h0 hd hm hb hx
  refine ⟨xs,⟨1,fun k hk => ?_⟩,rfl,fun _ _ _ => rfl,fun j h1 h2 => by omega⟩
  obtain ⟨k,rfl⟩ : ∃ q,k = q + 1:=⟨k - 1,by omega⟩
  simp only [laws_markFlowS.l0]
  rw [if_neg (by omega)]
  simp
 | succ d ih =>
  intro xs m i h0 hd hm hb hx
  have hlt : i < (xs.length : Int):=by omega
  have hn : i.toNat < xs.length:=by omega
  have e0 : wrap64 (m + 1) = m + 1:=wrap_id (by omega) (by omega)
  have e1 : wrap64 (m + 1 + 1) = m + 1 + 1:=wrap_id (by omega) (by omega)
  have e2 : wrap64 (m + 1 + 1 + 1) = m + 1 + 1 + 1:=wrap_id (by omega) (by omega)
  have e3 : wrap64 (m + 1 + 1 + 1 + 1) = m + 1 + 1 + 1 + 1:=wrap_id (by omega) (by omega)
  have e4 : wrap64 (m + 1 + 1 + 1 + 1 + 1) = m + 1 + 1 + 1 + 1 + 1:=wrap_id (by omega) (by omega)
  have e5 : wrap64 (m + 1 + 1 + 1 + 1 + 1 + 1) = m + 1 + 1 + 1 + 1 + 1 + 1:=wrap_id (by omega) (by omega)
  have e6 : wrap64 (m + 1 + 1 + 1 + 1 + 1 + 1 + 1) = m + 1 + 1 + 1 + 1 + 1 + 1 + 1:=wrap_id (by omega) (by omega)
  have e7 : wrap64 (m + 1 + 1 + 1 + 1 + 1 + 1 + 1 + 1) = m + 1 + 1 + 1 + 1 + 1 + 1 + 1 + 1:=wrap_id (by omega) (by omega)
  have e8 : wrap64 (m + 1 + 1 + 1 + 1 + 1 + 1 + 1 + 1 + 1) = m + 1 + 1 + 1 + 1 + 1 + 1 + 1 + 1 + 1:=wrap_id (by omega) (by omega)
  have ei : wrap64 (i + 1) = i + 1:=wrap_id (by omega) (by omega)
  have hl : (xs.set i.toNat (mk_T71 m)).length = xs.length:=List.length_set
  obtain ⟨ys,hev,hlen,hold,hnew⟩:=ih (xs.set i.toNat (mk_T71 m)) (m + 1 + 1 + 1 + 1 + 1 + 1 + 1 + 1 + 1) (i + 1) (by omega) (by rw [hl];omega) (by omega) (by omega) (by rw [hl];omega)
  rw [hl] at hlen hnew
  refine ⟨ys,?_,hlen,fun j h1 h2 => ?_,fun j h1 h2 => ?_⟩
  ·have hr : m + 9 * ((d + 1 : Nat) : Int) = m + 1 + 1 + 1 + 1 + 1 + 1 + 1 + 1 + 1 + 9 * (d : Int):=by omega
   rw [hr]
   refine Ev.step (f:=fun k => (laws_markText.f k (m + 1)).bind fun t1 => laws_markFlowS.l0 k (xs.set i.toNat (⟨m,t1,m + 1 + 1,m + 1 + 1 + 1,m + 1 + 1 + 1 + 1,m + 1 + 1 + 1 + 1 + 1,m + 1 + 1 + 1 + 1 + 1 + 1,m + 1 + 1 + 1 + 1 + 1 + 1 + 1,m + 1 + 1 + 1 + 1 + 1 + 1 + 1 + 1⟩ : S71)) (m + 1 + 1 + 1 + 1 + 1 + 1 + 1 + 1 + 1) (i + 1)) (fun k => ?_) ?_
   ·simp only [laws_markFlowS.l0]
    rw [if_pos hlt,if_pos h0]
    simp only [Option.bind_some,List.set_set,rdset_T71 hn,e0,e1,e2,e3,e4,e5,e6,e7,e8,ei]
   ·exact Ev.bind (mtx_ev (m + 1) (by omega)) (hev)
  ·rw [hold j h1 (by omega),rdset_ne_T71 h0 h1 (by omega)]
  ·by_cases hji : j = i
   ·subst hji
    rw [hold j h0 (by omega),rdset_T71 hn]
    congr 1
    omega
   ·rw [hnew j (by omega) h2]
    congr 1
    omega
theorem mark_T71_ev (xs : List S71) (m : Int) (hm : 0 ≤ m) (hb : m + 9 * xs.length ≤ 1152921504606846976) :
  ∃ ys : List S71,Ev (fun k => laws_markFlowS.f k xs m) (m + 9 * xs.length,ys) ∧ ys.length = xs.length ∧ ∀ j : Int,0 ≤ j → j < xs.length → rd_T71 ys j = mk_T71 (m + 9 * j):=by
 obtain ⟨ys,hev,hlen,_,hnew⟩:=mark_T71_l0 xs.length xs m 0 (by omega) (by omega) hm hb (by omega)
 exact ⟨ys,hev,hlen,fun j h1 h2 => by have:=hnew j h1 h2;rw [Int.sub_zero] at this;exact this⟩
set_option maxHeartbeats 2000000 in
theorem held_T71_l0 : ∀ (d : Nat) (ys : List S71) (m i : Int),0 ≤ i → (ys.length : Int) - i = d → 0 ≤ m → m + 9 * d ≤ 1152921504606846976 → (ys.length : Int) ≤ 1152921504606846976 →
  (∀ j : Int,i ≤ j → j < ys.length → rd_T71 ys j = mk_T71 (m + 9 * (j - i))) → Ev (fun k => laws_heldFlowS.l0 k ys m i) (m + 9 * d):=by
 intro d
 induction d with
 | zero =>
  intro ys m i h0 hd hm hb hx _
  refine ⟨1,fun k hk => ?_⟩
  obtain ⟨k,rfl⟩ : ∃ q,k = q + 1:=⟨k - 1,by omega⟩
  simp only [laws_heldFlowS.l0]
  rw [if_neg (by omega)]
  simp
 | succ d ih =>
  intro ys m i h0 hd hm hb hx hy
  have hlt : i < (ys.length : Int):=by omega
  have e0 : wrap64 (m + 1) = m + 1:=wrap_id (by omega) (by omega)
  have e1 : wrap64 (m + 1 + 1) = m + 1 + 1:=wrap_id (by omega) (by omega)
  have e2 : wrap64 (m + 1 + 1 + 1) = m + 1 + 1 + 1:=wrap_id (by omega) (by omega)
  have e3 : wrap64 (m + 1 + 1 + 1 + 1) = m + 1 + 1 + 1 + 1:=wrap_id (by omega) (by omega)
  have e4 : wrap64 (m + 1 + 1 + 1 + 1 + 1) = m + 1 + 1 + 1 + 1 + 1:=wrap_id (by omega) (by omega)
  have e5 : wrap64 (m + 1 + 1 + 1 + 1 + 1 + 1) = m + 1 + 1 + 1 + 1 + 1 + 1:=wrap_id (by omega) (by omega)
  have e6 : wrap64 (m + 1 + 1 + 1 + 1 + 1 + 1 + 1) = m + 1 + 1 + 1 + 1 + 1 + 1 + 1:=wrap_id (by omega) (by omega)
  have e7 : wrap64 (m + 1 + 1 + 1 + 1 + 1 + 1 + 1 + 1) = m + 1 + 1 + 1 + 1 + 1 + 1 + 1 + 1:=wrap_id (by omega) (by omega)
  have e8 : wrap64 (m + 1 + 1 + 1 + 1 + 1 + 1 + 1 + 1 + 1) = m + 1 + 1 + 1 + 1 + 1 + 1 + 1 + 1 + 1:=wrap_id (by omega) (by omega)
  have ei : wrap64 (i + 1) = i + 1:=wrap_id (by omega) (by omega)
  have hev:=ih ys (m + 1 + 1 + 1 + 1 + 1 + 1 + 1 + 1 + 1) (i + 1) (by omega) (by omega) (by omega) (by omega) hx (fun j h1 h2 => by rw [hy j (by omega) h2];congr 1;omega)
  have hri : rd_T71 ys i = mk_T71 m:=by rw [hy i (by omega) hlt];congr 1;omega
  have hr : m + 9 * ((d + 1 : Nat) : Int) = m + 1 + 1 + 1 + 1 + 1 + 1 + 1 + 1 + 1 + 9 * (d : Int):=by omega
  rw [hr]
  refine Ev.step (f:=fun k => (laws_markText.f k (m + 1)).bind fun t1 => if (mtx (m + 1)).toList = t1.toList then laws_heldFlowS.l0 k ys (m + 1 + 1 + 1 + 1 + 1 + 1 + 1 + 1 + 1) (i + 1) else some (-1)) (fun k => ?_) ?_
  ·simp only [laws_heldFlowS.l0]
   rw [if_pos hlt,if_pos h0]
   simp only [hri,mk_T71,e0,e1,e2,e3,e4,e5,e6,e7,e8,ei,if_true,bne_self_eq_false,Bool.false_eq_true,if_false]
  ·exact Ev.bind (mtx_ev (m + 1) (by omega)) (Ev.congr (fun k => if_pos rfl) (hev))
theorem held_T71_ev (ys : List S71) (m : Int) (hm : 0 ≤ m) (hb : m + 9 * ys.length ≤ 1152921504606846976) (hy : ∀ j : Int,0 ≤ j → j < ys.length → rd_T71 ys j = mk_T71 (m + 9 * j)) :
  Ev (fun k => laws_heldFlowS.f k ys m) (m + 9 * ys.length) :=
 held_T71_l0 ys.length ys m 0 (by omega) (by omega) hm hb (by omega) (fun j h1 h2 => by rw [Int.sub_zero];exact hy j h1 h2)
end
section
def to_T71 (x : S68) : S71:=(⟨x.f0,x.f1,x.f2,x.f3,x.f4,x.f5,x.f6,x.f7,x.f8⟩ : S71)
theorem to_T71_l0 (l : List S68) : ∀ (d : Nat) (acc : List S71) (i : Int),acc.length = l.length → 0 ≤ i → (l.length : Int) - i = d → (l.length : Int) ≤ 1152921504606846976 →
  ∃ ys : List S71,Ev (fun k => laws_toFlowS.l0 k l acc i) ys ∧ ys.length = l.length ∧ (∀ j : Nat,(j : Int) < i → ys[j]? = acc[j]?) ∧ (∀ j : Nat,i ≤ (j : Int) → ys[j]? = (l.map to_T71)[j]?):=by
 intro d
 induction d with
 | zero =>
  intro acc i ha h0 hd hx
  refine ⟨acc,⟨1,fun k hk => ?_⟩,ha,fun _ _ => rfl,fun j hj => by rw [List.getElem?_eq_none (by omega),List.getElem?_eq_none (by rw [List.length_map];omega)]⟩
  obtain ⟨k,rfl⟩ : ∃ q,k = q + 1:=⟨k - 1,by omega⟩
  simp only [laws_toFlowS.l0]
  rw [if_neg (by omega)]
 | succ d ih =>
  intro acc i ha h0 hd hx
  have hlt : i < (l.length : Int):=by omega
  have hn : i.toNat < l.length:=by omega
  have ei : wrap64 (i + 1) = i + 1:=wrap_id (by omega) (by omega)
  obtain ⟨ys,hev,hlen,hold,hnew⟩:=ih (acc.set i.toNat (to_T71 (rd_T68 l i))) (i + 1) (by rw [List.length_set];exact ha) (by omega) (by omega) hx
  refine ⟨ys,Ev.step (f:=fun k => laws_toFlowS.l0 k l (acc.set i.toNat (to_T71 (rd_T68 l i))) (i + 1)) (fun k => ?_) hev,hlen,fun j hj => ?_,fun j hj => ?_⟩
  ·simp only [laws_toFlowS.l0]
   rw [if_pos hlt,if_pos h0]
   simp only [laws_toFlow.f,Option.bind_some,ei,to_T71]
   rw [if_pos (by omega)]
  ·rw [hold j (by omega),List.getElem?_set_ne (by omega)]
  ·by_cases hji : (j : Int) = i
   ·have e : i.toNat = j:=by omega
    rw [hold j (by omega),e,List.getElem?_set_self (by omega),List.getElem?_map,List.getElem?_eq_getElem (show j < l.length by omega)]
    simp only [Option.map_some,rd_T68,e,List.getD_eq_getElem?_getD,List.getElem?_eq_getElem (show j < l.length by omega),Option.getD_some]
   ·exact hnew j (by omega)
theorem to_T71_ev (l : List S68) (hx : l.length ≤ 1048576) : Ev (fun k => laws_toFlowS.f k l) (l.map to_T71):=by
 obtain ⟨ys,hev,hlen,_,hnew⟩:=to_T71_l0 l l.length (List.replicate l.length z71) 0 (by simp) (by omega) (by omega) (by omega)
 have e : ys = l.map to_T71:=List.ext_getElem? fun j => hnew j (by omega)
 rw [← e]
 refine Ev.congr (fun k => ?_) hev
 simp only [laws_toFlowS.f]
 rw [if_pos (by omega),if_pos (by omega)]
 rfl
end
section
def P_FnExactFlowOpen : Prop:=∀ (a0 : List (S68)) (a1 : S68) (a2 : Int),(a0.length * 80 ≤ 140737488351232 ∧ a0.length ≤ maxLen ∧ ∀ y ∈ a0,wf68 y) → wf68 a1 → (Lit.int .i64 a2).wf = true → ∃ k,laws_FnExactFlowOpen.f k a0 a1.f0 a1.f1 a1.f2 a1.f3 a1.f4 a1.f5 a1.f6 a1.f7 a1.f8 a2 = some true
end
section
-- NEEDS laws.FnExactFlowOpen
theorem pure_FnExactFlowOpen : P_FnExactFlowOpen:=by
 intro l f now hl hf _
 obtain ⟨t,K0,e0,ht1,hh⟩:=szFlowsB_ev l hl.2.2 (by have:=hl.1;omega)
 have hfs : f.f1.size ≤ 140737488351232:=hf.2.1
 by_cases ht : t < 0
 ·refine ⟨K0,?_⟩
  simp only [laws_FnExactFlowOpen.f,e0 K0 (Nat.le_refl _),Option.bind_some,if_pos ht]
 by_cases hs : t - (f.f1.size : Int) < 0
 ·refine ⟨K0,?_⟩
  simp only [laws_FnExactFlowOpen.f,e0 K0 (Nat.le_refl _),Option.bind_some,if_neg ht,laws_szFlow.f]
  rw [wrap_id (n:=t - (f.f1.size : Int)) (by omega) (by omega),if_pos hs]
  rfl
 have hlen:=hh (by omega)
 obtain ⟨K1,h1⟩:=to_T71_ev l hlen
 have hml : (l.map to_T71).length = l.length:=List.length_map ..
 obtain ⟨g,hg⟩ : ∃ g : S71,g = ⟨f.f0,f.f1,f.f2,f.f3,f.f4,f.f5,f.f6,f.f7,f.f8⟩:=⟨_,rfl⟩
 have hr:=openR_len (l.map to_T71) g now
 obtain ⟨r,code,hrc⟩ : ∃ r code,openR (l.map to_T71) g now = (r,code):=⟨_,_,rfl⟩
 have b2:=fun k hk => spec_FlowOpen_ev (l.map to_T71) g now k hk
 have b3:=fun k hk => impl_FlowOpen_ev (l.map to_T71) g now k hk
 rw [hrc] at hr b2 b3
 rw [hg] at b2 b3
 dsimp only at hr b2 b3
 obtain ⟨K2,h2⟩:=eqS_T71_ev r (by omega)
 obtain ⟨K3,h3⟩:=eqS_T71_ev (l.map to_T71) (by omega)
 obtain ⟨ys,⟨K4,h4⟩,hy,hz⟩:=mark_T71_ev r 1 (by omega) (by omega)
 obtain ⟨K5,h5⟩:=held_T71_ev ys 1 (by omega) (by omega) (fun j a b => hz j a (by omega))
 obtain ⟨zs,⟨K6,h6⟩,_,_⟩:=mark_T71_ev (l.map to_T71) 1 (by omega) (by omega)
 obtain ⟨N,hN⟩ : ∃ N,N = K0 + K1 + K2 + K3 + K4 + K5 + K6 + 201:=⟨_,rfl⟩
 rw [hy] at h5
 have e1:=e0 (N + 3) (by omega)
 have t3:=h1 (N + 3) (by omega)
 have t2:=h1 (N + 2) (by omega)
 have t1:=h1 (N + 1) (by omega)
 have q3:=h2 (N + 3) (by omega)
 have q2:=h2 (N + 2) (by omega)
 have q1:=h2 (N + 1) (by omega)
 have a2:=h3 (N + 2) (by omega)
 have m2:=h6 (N + 2) (by omega)
 have m1:=h4 (N + 1) (by omega)
 have w1:=h5 (N + 1) (by omega)
 have w0:=h5 N (by omega)
 dsimp only at t3 t2 t1 q3 q2 q1 a2 m2 m1 w1 w0
 have hneg : ¬ (1 + 9 * ((l.map to_T71).length : Int)) < 0:=by omega
 have hneg2 : ¬ (1 + 9 * (r.length : Int)) < 0:=by omega
 refine ⟨N + 3,?_⟩
 simp only [laws_FnExactFlowOpen.f,e1,Option.bind_some,if_neg ht,laws_szFlow.f]
 rw [wrap_id (n:=t - (f.f1.size : Int)) (by omega) (by omega),if_neg hs]
 simp only [Option.bind_some,if_neg hs,t3,laws_toFlow.f,b2 (N + 3) (by omega),b3 (N + 3) (by omega),q3,if_true,bne_self_eq_false,laws_FnExactFlowOpen.j0,Bool.false_eq_true,if_false,t2,a2,m2,if_neg hneg,q2,laws_FnExactFlowOpen.j1,m1,w1,if_neg hneg2,t1,b3 (N + 1) (by omega),q1,laws_FnExactFlowOpen.j2,w0]
end
section
-- IMPORT Derived.Test.YtlpkldomoniegaaRows
-- IMPORT Derived.WalkKit
-- IMPORT Derived.ProofKit
-- IMPORT Derived.OpenShut
-- IMPORT Derived.ShutString
-- IMPORT Derived.ChangeOld
-- IMPORT Derived.Below
-- IMPORT Derived.SizedLaws
open Go.ChangeShapes Go.WideShapes Go.ChangeAt
open Go.ChangeMaps (open_string shut_string)
theorem own_FnExactFlowOpen : ownKnob Try.prog.godebug = none:=by kernel_rfl
theorem laidOut_FnExactFlowOpen : laidOutB Try.prog = true:=by kernel_rfl
set_option maxHeartbeats 4000000 in
set_option maxRecDepth 100000 in
theorem lifted_FnExactFlowOpen (os : Os) (started : os.Started) (H : Type) (enc : TypeId × Value → H) :
  ReturnsInHanded {} Try.checked os 14 .any (Rows.fnExactFlowOpenSpec.pre6 enc Try.prog Try.f14 Rows.fnExactFlowOpenRow.domain false) (Rows.fnExactFlowOpenSpec.post enc Try.prog Try.f14 false true false false):=by
 refine returnsInHanded_of_change_sized (C:=Try.checked) own_FnExactFlowOpen started (by kernel_rfl) Try.func14
  (ChangeSpec.witness6 (enc:=enc) (C:=Try.checked) false ⟨#[],#[.slice none 0 0,.agg #[.int .i64 0,.string ByteArray.empty,.int .i64 0,.int .i64 0,.int .i64 0,.int .i64 0,.int .i64 0,.int .i64 0,.int .i64 0],.int .i64 0],[]⟩ 8 (by kernel_rfl) (by kernel_rfl) (by kernel_rfl) (by kernel_rfl)) ?_
 intro W base args ds gs before hval0 hW hcnd hsz0 _
 have hsz : (DataW.weightsEach Try.prog (Try.f14.params.toList ++ Rows.fnExactFlowOpenSpec.plain.varTypes Try.prog) (ds ++ gs)).all (· ≤ reachBytes) = true:=hsz0
 have hval : ∀ (j : Nat) t v,Try.f14.params[j]? = some t → args[j]? = some v → Value.okWide Try.prog W .any base t v:=hval0
 have hW':=hW
 obtain ⟨p,q,hA0,hV,rfl,hfz,hnd⟩:=hW
 have hA : DataW.TrodAll enc Try.prog W 0 (fun _ => true) true Try.f14.params.toList args.toList ds p:=hA0
 rw [Try.params14] at hA hval hsz
 obtain ⟨v0,vs0,d0,ds0,p0,q0,hargs,rfl,rfl,h0,r0⟩:=trodAll_cons hA
 obtain ⟨v1,vs1,d1,ds1,p1,q1,rfl,rfl,rfl,h1,r1⟩:=trodAll_cons r0
 obtain ⟨v2,vs2,d2,ds2,p2,q2,rfl,rfl,rfl,h2,r2⟩:=trodAll_cons r1
 obtain ⟨rfl,rfl,rfl⟩:=trodAll_nil r2
 obtain rfl : args = #[v0,v1,v2]:=by cases args;simp_all
 obtain ⟨rfl,rfl⟩:=trodVars_none hV
 have k0:=h0
 have lt0 : ∀ x ∈ p0,x.block < W.heap.size:=by obtain ⟨m,hm⟩:=k0;exact DataW.trod_lt m _ _ _ hm
 obtain ⟨A0,n0,c0,rfl⟩:=okWide_slice Try.underlying37 (hval 0 37 v0 rfl rfl)
 obtain ⟨fuel0,hf0⟩:=h0
 obtain ⟨a0,⟨A0',c0',e0,hl0,hc0⟩,w0⟩:=(Opens.slice Try.underlying37 (by kernel_rfl) 80 (by kernel_rfl) opens68).op hf0 (fun n hn => by have z:=List.all_eq_true.1 hsz _ (DataW.weights_mem_each (j:=0) (t:=37) rfl rfl n hn);simpa using z)
 simp only [Value.cells,List.cons.injEq,Value.slice.injEq,and_true] at e0
 obtain ⟨rfl,rfl,rfl⟩:=e0
 have k1:=h1
 have lt1 : ∀ x ∈ p1,x.block < W.heap.size:=by obtain ⟨m,hm⟩:=k1;exact DataW.trod_lt m _ _ _ hm
 obtain ⟨cs1,rfl,_⟩:=okWide_struct Try.underlying68 (hval 1 68 v1 rfl rfl)
 obtain ⟨fuel1,hf1⟩:=h1
 obtain ⟨a1,kx1,w1⟩:=opens68.op hf1 (fun n hn => by have z:=List.all_eq_true.1 hsz _ (DataW.weights_mem_each (j:=1) (t:=68) rfl rfl n hn);simpa using z)
 have e1:=k68_open kx1
 obtain rfl : cs1 = #[.int .i64 a1.f0,.string a1.f1,.int .i64 a1.f2,.int .i64 a1.f3,.int .i64 a1.f4,.int .i64 a1.f5,.int .i64 a1.f6,.int .i64 a1.f7,.int .i64 a1.f8]:=Array.toList_inj.1 e1
 obtain ⟨a2,rfl,rfl,rfl,w2⟩:=open_int Try.underlying3 (hval 2 3 v2 rfl rfl) h2
 clear hA0 hval0 hsz0 hsz
 obtain ⟨k,hk⟩:=pure_FnExactFlowOpen a0 a1 a2 w0 w1 w2
 refine (laws_FnExactFlowOpen.calls k _ _ a0 a1.f0 a1.f1 a1.f2 a1.f3 a1.f4 a1.f5 a1.f6 a1.f7 a1.f8 a2 true W hc0 hl0 hk).mono fun e W' hh => ?_
 obtain ⟨he,bel0⟩:=hh
 have bel : Below W.heap.size W W':=bel0
 subst he
 exact ⟨_,rfl,_,_,_,[],_,[],hW',trodAll_mk1 (shut_bool Try.underlying4 _),(trodAll_cons_mk (Below.trod laidOut_FnExactFlowOpen (by kernel_rfl) (of_decide_eq_true (by kernel_rfl)) k0 bel lt0) (trodAll_cons_mk (Below.trod laidOut_FnExactFlowOpen (by kernel_rfl) (of_decide_eq_true (by kernel_rfl)) k1 bel lt1) (trodAll_cons_mk (shut_int Try.underlying3 w2) trodAll_mk0))),rfl,bel.frame _,fun h => by cases h⟩
theorem over_FnExactFlowOpen : Rows.fnExactFlowOpenRow.holds Try.pinned (OpenSpec.ofChange Rows.fnExactFlowOpenSpec) :=
 OpenClaim.holds_of_wide 14 Try.f14 rfl rfl rfl rfl rfl rfl rfl ⟨rfl,rfl,rfl,rfl,rfl⟩ rfl rfl rfl rfl rfl (by kernel_rfl) Try.func14 (by kernel_rfl)
  (of_decide_eq_true (by kernel_rfl)) (by unfold Func.isWrapper;first|(rw [if_pos (by decide +kernel)];kernel_rfl)|(rw [if_neg (by decide +kernel)];exact ⟨rfl,rfl⟩))
  (fun os started H enc _ => lifted_FnExactFlowOpen os started H enc)
theorem proved_FnExactFlowOpen : Rows.FnExactFlowOpenSaid:=over_FnExactFlowOpen
#print axioms proved_FnExactFlowOpen
end
end Go.Proofs.Ytlpkldomoniegaa.X
