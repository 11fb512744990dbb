/- Texts that the row of FnExactConnSay stands on: functions of the program and of the reference, each as a Lean function with the same answers, and the plain lemmas. Conditions: none beside those that each theorem names. -/
import Derived.Test.YtlpkldomoniegaaCFnExactConnSay4
namespace Go.Proofs.Ytlpkldomoniegaa.X
open Go.RowKit Go.Proofs.YtlpkldomoniegaaW.PrintWords Go.Proofs.YtlpkldomoniegaaW.PrintLast Go.Proofs.YtlpkldomoniegaaW.PrintMore
attribute [local go_sem] max2_int min2_int max_two min_two max_three min_three max_four min_four   -- for this text's walks alone
set_option linter.unusedVariables false
set_option linter.unusedSimpArgs false
open Go.Proofs.YtlpkldomoniegaaW.PrintWords renaming blk_drewN -> bDn
open Go.Proofs.YtlpkldomoniegaaW.PrintWords renaming blk_drew -> bDr
open Go.Proofs.YtlpkldomoniegaaW.PrintWords renaming blk_alloc -> bAl
open Go.Proofs.YtlpkldomoniegaaW.PrintWords renaming blk_frozen -> bFr
open Go.Proofs.YtlpkldomoniegaaW.PrintWords renaming blk_cell -> bCe
open Go.Proofs.YtlpkldomoniegaaW.PrintWords.Aside0 renaming mk -> aMk
open Go.World renaming block_lt_of_cell? -> wLt
open Go.Proofs.YtlpkldomoniegaaW.PrintWords renaming pw_below_drewN -> bwN
open Go.Proofs.YtlpkldomoniegaaW.PrintWords renaming below_drew1 -> bw1
open Go.Proofs.YtlpkldomoniegaaW.PrintWords renaming below_alloc -> bwA
section
/-! ### laws_FnExactConnSay: function 11 -/
mutual
def laws_FnExactConnSay.j0 : Nat → ByteArray → List (S53) → Int → List (S53) → Bool → ByteArray → Int → Int → Int → Int → Int → Int → Int → ByteArray → ByteArray → Bool → ByteArray → Int → Int → Int → Int → Int → Int → Int → ByteArray → ByteArray → Bool → Option (Bool)
 | 0,_,_,_,_,_,_,_,_,_,_,_,_,_,_,_,_,_,_,_,_,_,_,_,_,_,_,_ => none
 | k + 1,x1,x7,x8,x10,x55,x695000,x695001,x695002,x695003,x695004,x695005,x695006,x695007,x695008,x695009,x695010,x723000,x723001,x723002,x723003,x723004,x723005,x723006,x723007,x723008,x723009,x723010 => if x55 = true then (some false) else ((laws_markSegmentS.f k x10 1).bind fun bt752 => ((laws_heldSegmentS.f k bt752.2 1).bind fun t754 => (if t754 < 0 then (some false) else (if t754 = bt752.1 then ((laws_toConn.f x695000 x695001 x695002 x695003 x695004 x695005 x695006 x695007 x695008 x695009 x695010).bind fun bt755 => ((impl_ConnSay.f k bt755.1 bt755.2.1 bt755.2.2.1 bt755.2.2.2.1 bt755.2.2.2.2.1 bt755.2.2.2.2.2.1 bt755.2.2.2.2.2.2.1 bt755.2.2.2.2.2.2.2.1 bt755.2.2.2.2.2.2.2.2.1 bt755.2.2.2.2.2.2.2.2.2.1 bt755.2.2.2.2.2.2.2.2.2.2 x1).bind fun bt766 => ((laws_eqConn.f bt766.1 bt766.2.1 bt766.2.2.1 bt766.2.2.2.1 bt766.2.2.2.2.1 bt766.2.2.2.2.2.1 bt766.2.2.2.2.2.2.1 bt766.2.2.2.2.2.2.2.1 bt766.2.2.2.2.2.2.2.2.1 bt766.2.2.2.2.2.2.2.2.2.1 bt766.2.2.2.2.2.2.2.2.2.2.1 x723000 x723001 x723002 x723003 x723004 x723005 x723006 x723007 x723008 x723009 x723010).bind fun t782 => (if t782 = true then ((laws_eqSegmentS.f k bt766.2.2.2.2.2.2.2.2.2.2.2.1 x7).bind fun t783 => (if t783 = true then (laws_FnExactConnSay.j1 k bt752.2 bt752.1 (bt766.2.2.2.2.2.2.2.2.2.2.2.2 != x8)) else (laws_FnExactConnSay.j1 k bt752.2 bt752.1 true))) else (laws_FnExactConnSay.j1 k bt752.2 bt752.1 true))))) else (some false)))))
def laws_FnExactConnSay.j1 : Nat → List (S53) → Int → Bool → Option (Bool)
 | 0,_,_,_ => none
 | k + 1,x10,x12,x89 => if x89 = true then (some false) else ((laws_heldSegmentS.f k x10 1).bind fun t784 => (if t784 < 0 then (some false) else (if t784 = x12 then (some true) else (some false))))
end
def laws_FnExactConnSay.f (k : Nat) (a0_0 : ByteArray) (a0_1 : Int) (a0_2 : Int) (a0_3 : Int) (a0_4 : Int) (a0_5 : Int) (a0_6 : Int) (a0_7 : Int) (a0_8 : ByteArray) (a0_9 : ByteArray) (a0_10 : Bool) (a1 : ByteArray) : Option (Bool):=if (a1.size : Int) > 1048576 then (some true) else ((laws_szConn.f a0_0 a0_1 a0_2 a0_3 a0_4 a0_5 a0_6 a0_7 a0_8 a0_9 a0_10 1048576).bind fun t695 => (if t695 < 0 then (some true) else ((laws_toConn.f a0_0 a0_1 a0_2 a0_3 a0_4 a0_5 a0_6 a0_7 a0_8 a0_9 a0_10).bind fun bt696 => ((spec_ConnSay.f k bt696.1 bt696.2.1 bt696.2.2.1 bt696.2.2.2.1 bt696.2.2.2.2.1 bt696.2.2.2.2.2.1 bt696.2.2.2.2.2.2.1 bt696.2.2.2.2.2.2.2.1 bt696.2.2.2.2.2.2.2.2.1 bt696.2.2.2.2.2.2.2.2.2.1 bt696.2.2.2.2.2.2.2.2.2.2 a1).bind fun bt707 => ((laws_toConn.f a0_0 a0_1 a0_2 a0_3 a0_4 a0_5 a0_6 a0_7 a0_8 a0_9 a0_10).bind fun bt723 => ((impl_ConnSay.f k bt723.1 bt723.2.1 bt723.2.2.1 bt723.2.2.2.1 bt723.2.2.2.2.1 bt723.2.2.2.2.2.1 bt723.2.2.2.2.2.2.1 bt723.2.2.2.2.2.2.2.1 bt723.2.2.2.2.2.2.2.2.1 bt723.2.2.2.2.2.2.2.2.2.1 bt723.2.2.2.2.2.2.2.2.2.2 a1).bind fun bt734 => ((laws_eqConn.f bt734.1 bt734.2.1 bt734.2.2.1 bt734.2.2.2.1 bt734.2.2.2.2.1 bt734.2.2.2.2.2.1 bt734.2.2.2.2.2.2.1 bt734.2.2.2.2.2.2.2.1 bt734.2.2.2.2.2.2.2.2.1 bt734.2.2.2.2.2.2.2.2.2.1 bt734.2.2.2.2.2.2.2.2.2.2.1 bt707.1 bt707.2.1 bt707.2.2.1 bt707.2.2.2.1 bt707.2.2.2.2.1 bt707.2.2.2.2.2.1 bt707.2.2.2.2.2.2.1 bt707.2.2.2.2.2.2.2.1 bt707.2.2.2.2.2.2.2.2.1 bt707.2.2.2.2.2.2.2.2.2.1 bt707.2.2.2.2.2.2.2.2.2.2.1).bind fun t750 => (if t750 = true then ((laws_eqSegmentS.f k bt734.2.2.2.2.2.2.2.2.2.2.2.1 bt707.2.2.2.2.2.2.2.2.2.2.2.1).bind fun t751 => (if t751 = true then (laws_FnExactConnSay.j0 k a1 bt707.2.2.2.2.2.2.2.2.2.2.2.1 bt707.2.2.2.2.2.2.2.2.2.2.2.2 bt734.2.2.2.2.2.2.2.2.2.2.2.1 (bt734.2.2.2.2.2.2.2.2.2.2.2.2 != bt707.2.2.2.2.2.2.2.2.2.2.2.2) a0_0 a0_1 a0_2 a0_3 a0_4 a0_5 a0_6 a0_7 a0_8 a0_9 a0_10 bt707.1 bt707.2.1 bt707.2.2.1 bt707.2.2.2.1 bt707.2.2.2.2.1 bt707.2.2.2.2.2.1 bt707.2.2.2.2.2.2.1 bt707.2.2.2.2.2.2.2.1 bt707.2.2.2.2.2.2.2.2.1 bt707.2.2.2.2.2.2.2.2.2.1 bt707.2.2.2.2.2.2.2.2.2.2.1) else (laws_FnExactConnSay.j0 k a1 bt707.2.2.2.2.2.2.2.2.2.2.2.1 bt707.2.2.2.2.2.2.2.2.2.2.2.2 bt734.2.2.2.2.2.2.2.2.2.2.2.1 true a0_0 a0_1 a0_2 a0_3 a0_4 a0_5 a0_6 a0_7 a0_8 a0_9 a0_10 bt707.1 bt707.2.1 bt707.2.2.1 bt707.2.2.2.1 bt707.2.2.2.2.1 bt707.2.2.2.2.2.1 bt707.2.2.2.2.2.2.1 bt707.2.2.2.2.2.2.2.1 bt707.2.2.2.2.2.2.2.2.1 bt707.2.2.2.2.2.2.2.2.2.1 bt707.2.2.2.2.2.2.2.2.2.2.1))) else (laws_FnExactConnSay.j0 k a1 bt707.2.2.2.2.2.2.2.2.2.2.2.1 bt707.2.2.2.2.2.2.2.2.2.2.2.2 bt734.2.2.2.2.2.2.2.2.2.2.2.1 true a0_0 a0_1 a0_2 a0_3 a0_4 a0_5 a0_6 a0_7 a0_8 a0_9 a0_10 bt707.1 bt707.2.1 bt707.2.2.1 bt707.2.2.2.1 bt707.2.2.2.2.1 bt707.2.2.2.2.2.1 bt707.2.2.2.2.2.2.1 bt707.2.2.2.2.2.2.2.1 bt707.2.2.2.2.2.2.2.2.1 bt707.2.2.2.2.2.2.2.2.2.1 bt707.2.2.2.2.2.2.2.2.2.2.1)))))))))
theorem laws_FnExactConnSay.mono_l : ∀ k,(∀ y0 y1 y2 y3 y4 y5 y6 y7 y8 y9 y10 y11 y12 y13 y14 y15 y16 y17 y18 y19 y20 y21 y22 y23 y24 y25 y26,LeO (laws_FnExactConnSay.j0 k y0 y1 y2 y3 y4 y5 y6 y7 y8 y9 y10 y11 y12 y13 y14 y15 y16 y17 y18 y19 y20 y21 y22 y23 y24 y25 y26) (laws_FnExactConnSay.j0 (k + 1) y0 y1 y2 y3 y4 y5 y6 y7 y8 y9 y10 y11 y12 y13 y14 y15 y16 y17 y18 y19 y20 y21 y22 y23 y24 y25 y26)) ∧ (∀ y0 y1 y2,LeO (laws_FnExactConnSay.j1 k y0 y1 y2) (laws_FnExactConnSay.j1 (k + 1) y0 y1 y2))
 | 0 => ⟨fun _ _ _ _ _ _ _ _ _ _ _ _ _ _ _ _ _ _ _ _ _ _ _ _ _ _ _ r h => by simp [laws_FnExactConnSay.j0] at h,fun _ _ _ r h => by simp [laws_FnExactConnSay.j1] at h⟩
 | k + 1 => by
  obtain ⟨ih0,ih1⟩:=laws_FnExactConnSay.mono_l k
  refine ⟨?_,?_⟩
  ·intro y0 y1 y2 y3 y4 y5 y6 y7 y8 y9 y10 y11 y12 y13 y14 y15 y16 y17 y18 y19 y20 y21 y22 y23 y24 y25 y26
   unfold laws_FnExactConnSay.j0
   repeat' first
   | (with_reducible exact ih0 _ _ _ _ _ _ _ _ _ _ _ _ _ _ _ _ _ _ _ _ _ _ _ _ _ _ _)
   | (with_reducible exact ih1 _ _ _)
   | (with_reducible exact impl_ConnSay.mono ..)
   | (with_reducible exact laws_eqSegmentS.mono ..)
   | (with_reducible exact laws_heldSegmentS.mono ..)
   | (with_reducible exact laws_markSegmentS.mono ..)
   | (with_reducible exact spec_ConnSay.mono ..)
   | (with_reducible exact LeO.refl _)
   | (with_reducible exact LeO.none _)
   | (with_reducible refine LeO.ite ?_ ?_)
   | (with_reducible refine LeO.bind ?_ (fun _ => ?_))
   | exact ih0 _ _ _ _ _ _ _ _ _ _ _ _ _ _ _ _ _ _ _ _ _ _ _ _ _ _ _
   | exact ih1 _ _ _
   | exact impl_ConnSay.mono ..
   | exact laws_eqSegmentS.mono ..
   | exact laws_heldSegmentS.mono ..
   | exact laws_markSegmentS.mono ..
   | exact spec_ConnSay.mono ..
   | exact LeO.none _
   | refine LeO.ite ?_ ?_
   | refine LeO.bind ?_ (fun _ => ?_)
  ·intro y0 y1 y2
   unfold laws_FnExactConnSay.j1
   repeat' first
   | (with_reducible exact ih0 _ _ _ _ _ _ _ _ _ _ _ _ _ _ _ _ _ _ _ _ _ _ _ _ _ _ _)
   | (with_reducible exact ih1 _ _ _)
   | (with_reducible exact impl_ConnSay.mono ..)
   | (with_reducible exact laws_eqSegmentS.mono ..)
   | (with_reducible exact laws_heldSegmentS.mono ..)
   | (with_reducible exact laws_markSegmentS.mono ..)
   | (with_reducible exact spec_ConnSay.mono ..)
   | (with_reducible exact LeO.refl _)
   | (with_reducible exact LeO.none _)
   | (with_reducible refine LeO.ite ?_ ?_)
   | (with_reducible refine LeO.bind ?_ (fun _ => ?_))
   | exact ih0 _ _ _ _ _ _ _ _ _ _ _ _ _ _ _ _ _ _ _ _ _ _ _ _ _ _ _
   | exact ih1 _ _ _
   | exact impl_ConnSay.mono ..
   | exact laws_eqSegmentS.mono ..
   | exact laws_heldSegmentS.mono ..
   | exact laws_markSegmentS.mono ..
   | exact spec_ConnSay.mono ..
   | exact LeO.none _
   | refine LeO.ite ?_ ?_
   | refine LeO.bind ?_ (fun _ => ?_)
theorem laws_FnExactConnSay.mono : ∀ a0 a1 a2 a3 a4 a5 a6 a7 a8 a9 a10 a11 k,LeO (laws_FnExactConnSay.f k a0 a1 a2 a3 a4 a5 a6 a7 a8 a9 a10 a11) (laws_FnExactConnSay.f (k + 1) a0 a1 a2 a3 a4 a5 a6 a7 a8 a9 a10 a11):=by
 intro a0 a1 a2 a3 a4 a5 a6 a7 a8 a9 a10 a11 k
 obtain ⟨ih0,ih1⟩:=laws_FnExactConnSay.mono_l k
 unfold laws_FnExactConnSay.f
 repeat' first
   | (with_reducible exact ih0 _ _ _ _ _ _ _ _ _ _ _ _ _ _ _ _ _ _ _ _ _ _ _ _ _ _ _)
   | (with_reducible exact ih1 _ _ _)
   | (with_reducible exact impl_ConnSay.mono ..)
   | (with_reducible exact laws_eqSegmentS.mono ..)
   | (with_reducible exact laws_heldSegmentS.mono ..)
   | (with_reducible exact laws_markSegmentS.mono ..)
   | (with_reducible exact spec_ConnSay.mono ..)
   | (with_reducible exact LeO.refl _)
   | (with_reducible exact LeO.none _)
   | (with_reducible refine LeO.ite ?_ ?_)
   | (with_reducible refine LeO.bind ?_ (fun _ => ?_))
   | exact ih0 _ _ _ _ _ _ _ _ _ _ _ _ _ _ _ _ _ _ _ _ _ _ _ _ _ _ _
   | exact ih1 _ _ _
   | exact impl_ConnSay.mono ..
   | exact laws_eqSegmentS.mono ..
   | exact laws_heldSegmentS.mono ..
   | exact laws_markSegmentS.mono ..
   | exact spec_ConnSay.mono ..
   | exact LeO.none _
   | refine LeO.ite ?_ ?_
   | refine LeO.bind ?_ (fun _ => ?_)
set_option maxHeartbeats 8000000 in
set_option maxRecDepth 100000 in
theorem laws_FnExactConnSay.calls (k : Nat) (a0_0 : ByteArray) (a0_1 : Int) (a0_2 : Int) (a0_3 : Int) (a0_4 : Int) (a0_5 : Int) (a0_6 : Int) (a0_7 : Int) (a0_8 : ByteArray) (a0_9 : ByteArray) (a0_10 : Bool) (a1 : ByteArray) (r : Bool) (w : World) (h : laws_FnExactConnSay.f k a0_0 a0_1 a0_2 a0_3 a0_4 a0_5 a0_6 a0_7 a0_8 a0_9 a0_10 a1 = some r) :
  Calls Try.prog 11 #[.agg #[.string a0_0,.int .i64 a0_1,.int .i64 a0_2,.int .i64 a0_3,.int .i64 a0_4,.int .i64 a0_5,.int .i64 a0_6,.int .i64 a0_7,.string a0_8,.string a0_9,.bool a0_10],.string a1] w fun e w' => e = .returned (.bool r) ∧ Below w.heap.size w w':=by
 have hu31:=Try.underlying31
 have hu34:=Try.underlying34
 have HB:=aMk (Below.refl w.heap.size w)
 have H : (if (a1.size : Int) > 1048576 then (some true) else ((laws_szConn.f a0_0 a0_1 a0_2 a0_3 a0_4 a0_5 a0_6 a0_7 a0_8 a0_9 a0_10 1048576).bind fun t695 => (if t695 < 0 then (some true) else ((laws_toConn.f a0_0 a0_1 a0_2 a0_3 a0_4 a0_5 a0_6 a0_7 a0_8 a0_9 a0_10).bind fun bt696 => ((spec_ConnSay.f k bt696.1 bt696.2.1 bt696.2.2.1 bt696.2.2.2.1 bt696.2.2.2.2.1 bt696.2.2.2.2.2.1 bt696.2.2.2.2.2.2.1 bt696.2.2.2.2.2.2.2.1 bt696.2.2.2.2.2.2.2.2.1 bt696.2.2.2.2.2.2.2.2.2.1 bt696.2.2.2.2.2.2.2.2.2.2 a1).bind fun bt707 => ((laws_toConn.f a0_0 a0_1 a0_2 a0_3 a0_4 a0_5 a0_6 a0_7 a0_8 a0_9 a0_10).bind fun bt723 => ((impl_ConnSay.f k bt723.1 bt723.2.1 bt723.2.2.1 bt723.2.2.2.1 bt723.2.2.2.2.1 bt723.2.2.2.2.2.1 bt723.2.2.2.2.2.2.1 bt723.2.2.2.2.2.2.2.1 bt723.2.2.2.2.2.2.2.2.1 bt723.2.2.2.2.2.2.2.2.2.1 bt723.2.2.2.2.2.2.2.2.2.2 a1).bind fun bt734 => ((laws_eqConn.f bt734.1 bt734.2.1 bt734.2.2.1 bt734.2.2.2.1 bt734.2.2.2.2.1 bt734.2.2.2.2.2.1 bt734.2.2.2.2.2.2.1 bt734.2.2.2.2.2.2.2.1 bt734.2.2.2.2.2.2.2.2.1 bt734.2.2.2.2.2.2.2.2.2.1 bt734.2.2.2.2.2.2.2.2.2.2.1 bt707.1 bt707.2.1 bt707.2.2.1 bt707.2.2.2.1 bt707.2.2.2.2.1 bt707.2.2.2.2.2.1 bt707.2.2.2.2.2.2.1 bt707.2.2.2.2.2.2.2.1 bt707.2.2.2.2.2.2.2.2.1 bt707.2.2.2.2.2.2.2.2.2.1 bt707.2.2.2.2.2.2.2.2.2.2.1).bind fun t750 => (if t750 = true then ((laws_eqSegmentS.f k bt734.2.2.2.2.2.2.2.2.2.2.2.1 bt707.2.2.2.2.2.2.2.2.2.2.2.1).bind fun t751 => (if t751 = true then (laws_FnExactConnSay.j0 k a1 bt707.2.2.2.2.2.2.2.2.2.2.2.1 bt707.2.2.2.2.2.2.2.2.2.2.2.2 bt734.2.2.2.2.2.2.2.2.2.2.2.1 (bt734.2.2.2.2.2.2.2.2.2.2.2.2 != bt707.2.2.2.2.2.2.2.2.2.2.2.2) a0_0 a0_1 a0_2 a0_3 a0_4 a0_5 a0_6 a0_7 a0_8 a0_9 a0_10 bt707.1 bt707.2.1 bt707.2.2.1 bt707.2.2.2.1 bt707.2.2.2.2.1 bt707.2.2.2.2.2.1 bt707.2.2.2.2.2.2.1 bt707.2.2.2.2.2.2.2.1 bt707.2.2.2.2.2.2.2.2.1 bt707.2.2.2.2.2.2.2.2.2.1 bt707.2.2.2.2.2.2.2.2.2.2.1) else (laws_FnExactConnSay.j0 k a1 bt707.2.2.2.2.2.2.2.2.2.2.2.1 bt707.2.2.2.2.2.2.2.2.2.2.2.2 bt734.2.2.2.2.2.2.2.2.2.2.2.1 true a0_0 a0_1 a0_2 a0_3 a0_4 a0_5 a0_6 a0_7 a0_8 a0_9 a0_10 bt707.1 bt707.2.1 bt707.2.2.1 bt707.2.2.2.1 bt707.2.2.2.2.1 bt707.2.2.2.2.2.1 bt707.2.2.2.2.2.2.1 bt707.2.2.2.2.2.2.2.1 bt707.2.2.2.2.2.2.2.2.1 bt707.2.2.2.2.2.2.2.2.2.1 bt707.2.2.2.2.2.2.2.2.2.2.1))) else (laws_FnExactConnSay.j0 k a1 bt707.2.2.2.2.2.2.2.2.2.2.2.1 bt707.2.2.2.2.2.2.2.2.2.2.2.2 bt734.2.2.2.2.2.2.2.2.2.2.2.1 true a0_0 a0_1 a0_2 a0_3 a0_4 a0_5 a0_6 a0_7 a0_8 a0_9 a0_10 bt707.1 bt707.2.1 bt707.2.2.1 bt707.2.2.2.1 bt707.2.2.2.2.1 bt707.2.2.2.2.2.1 bt707.2.2.2.2.2.2.1 bt707.2.2.2.2.2.2.2.1 bt707.2.2.2.2.2.2.2.2.1 bt707.2.2.2.2.2.2.2.2.2.1 bt707.2.2.2.2.2.2.2.2.2.2.1)))))))))) = some r:=h
 clear h
 by_cases c3 : (a1.size : Int) > 1048576
 ·rw [if_pos c3] at H
  have c3b0 : decide (1048576 < (a1.size : Int)) = true:=decide_eq_true c3
  have c3b1 : decide (1048576 < a1.size) = true:=decide_eq_true (by omega)
  clear c3
  obtain rfl:=Option.some.inj H
  go_enter Try.func11,Try.ntmps11
  go_wp2_with (first|((with_reducible refine gate_dst (N:=2) rfl ?_);refine box_event ?hg (N:=2) ?hd (cs:=#[.string a0_0,.int .i64 a0_1,.int .i64 a0_2,.int .i64 a0_3,.int .i64 a0_4,.int .i64 a0_5,.int .i64 a0_6,.int .i64 a0_7,.string a0_8,.string a0_9,.bool a0_10]) (t:=31) ?hr ?_;(case hd => rfl);(case hg => rfl);(case hr => first|(go_simp;done)|(go_simp;rfl));intro gb694 hg w4 hbox hb;have n0_:=aMk (below_step (by repeat first|exact HB.out|apply bwA|apply bwN|apply bw1) hb);have n1_:=aMk (hbox);have n2_:=aMk ((by rw [hg];exact (below_size (by repeat first|exact HB.out|apply bwA|apply bwN|apply bw1)) : w.heap.size ≤ gb694));have n3_:=aMk ((by rw [hg];exact (below_size (by repeat first|exact HB.out|apply bwA|apply bwN|apply bw1)) : w.heap.size ≤ gb694));clear HB;have HB:=n0_;have BK694:=n1_;have GW694:=n2_;have GE694:=n3_;clear n0_ n1_ n2_ n3_;clear hb hbox hg))
  go_ret
  exact ⟨by first | rfl|(simp [errW_none,errW_some] <;> rfl)|(simp [*,errW_none,errW_some] <;> rfl),by repeat (first|(with_reducible first|exact HB.out|apply bwA|apply bwN|apply bw1|refine below_set ?_ GE694.out)|exact HB.out)⟩
 ·rw [if_neg c3] at H
  have c3b0 : decide (1048576 < (a1.size : Int)) = false:=decide_eq_false c3
  have c3b1 : decide (1048576 < a1.size) = false:=decide_eq_false (by omega)
  clear c3
  replace H:=Option.bind_eq_some_iff.mp H
  obtain ⟨t695,A50,H⟩:=H
  replace H : (if t695 < 0 then (some true) else ((laws_toConn.f a0_0 a0_1 a0_2 a0_3 a0_4 a0_5 a0_6 a0_7 a0_8 a0_9 a0_10).bind fun bt696 => ((spec_ConnSay.f k bt696.1 bt696.2.1 bt696.2.2.1 bt696.2.2.2.1 bt696.2.2.2.2.1 bt696.2.2.2.2.2.1 bt696.2.2.2.2.2.2.1 bt696.2.2.2.2.2.2.2.1 bt696.2.2.2.2.2.2.2.2.1 bt696.2.2.2.2.2.2.2.2.2.1 bt696.2.2.2.2.2.2.2.2.2.2 a1).bind fun bt707 => ((laws_toConn.f a0_0 a0_1 a0_2 a0_3 a0_4 a0_5 a0_6 a0_7 a0_8 a0_9 a0_10).bind fun bt723 => ((impl_ConnSay.f k bt723.1 bt723.2.1 bt723.2.2.1 bt723.2.2.2.1 bt723.2.2.2.2.1 bt723.2.2.2.2.2.1 bt723.2.2.2.2.2.2.1 bt723.2.2.2.2.2.2.2.1 bt723.2.2.2.2.2.2.2.2.1 bt723.2.2.2.2.2.2.2.2.2.1 bt723.2.2.2.2.2.2.2.2.2.2 a1).bind fun bt734 => ((laws_eqConn.f bt734.1 bt734.2.1 bt734.2.2.1 bt734.2.2.2.1 bt734.2.2.2.2.1 bt734.2.2.2.2.2.1 bt734.2.2.2.2.2.2.1 bt734.2.2.2.2.2.2.2.1 bt734.2.2.2.2.2.2.2.2.1 bt734.2.2.2.2.2.2.2.2.2.1 bt734.2.2.2.2.2.2.2.2.2.2.1 bt707.1 bt707.2.1 bt707.2.2.1 bt707.2.2.2.1 bt707.2.2.2.2.1 bt707.2.2.2.2.2.1 bt707.2.2.2.2.2.2.1 bt707.2.2.2.2.2.2.2.1 bt707.2.2.2.2.2.2.2.2.1 bt707.2.2.2.2.2.2.2.2.2.1 bt707.2.2.2.2.2.2.2.2.2.2.1).bind fun t750 => (if t750 = true then ((laws_eqSegmentS.f k bt734.2.2.2.2.2.2.2.2.2.2.2.1 bt707.2.2.2.2.2.2.2.2.2.2.2.1).bind fun t751 => (if t751 = true then (laws_FnExactConnSay.j0 k a1 bt707.2.2.2.2.2.2.2.2.2.2.2.1 bt707.2.2.2.2.2.2.2.2.2.2.2.2 bt734.2.2.2.2.2.2.2.2.2.2.2.1 (bt734.2.2.2.2.2.2.2.2.2.2.2.2 != bt707.2.2.2.2.2.2.2.2.2.2.2.2) a0_0 a0_1 a0_2 a0_3 a0_4 a0_5 a0_6 a0_7 a0_8 a0_9 a0_10 bt707.1 bt707.2.1 bt707.2.2.1 bt707.2.2.2.1 bt707.2.2.2.2.1 bt707.2.2.2.2.2.1 bt707.2.2.2.2.2.2.1 bt707.2.2.2.2.2.2.2.1 bt707.2.2.2.2.2.2.2.2.1 bt707.2.2.2.2.2.2.2.2.2.1 bt707.2.2.2.2.2.2.2.2.2.2.1) else (laws_FnExactConnSay.j0 k a1 bt707.2.2.2.2.2.2.2.2.2.2.2.1 bt707.2.2.2.2.2.2.2.2.2.2.2.2 bt734.2.2.2.2.2.2.2.2.2.2.2.1 true a0_0 a0_1 a0_2 a0_3 a0_4 a0_5 a0_6 a0_7 a0_8 a0_9 a0_10 bt707.1 bt707.2.1 bt707.2.2.1 bt707.2.2.2.1 bt707.2.2.2.2.1 bt707.2.2.2.2.2.1 bt707.2.2.2.2.2.2.1 bt707.2.2.2.2.2.2.2.1 bt707.2.2.2.2.2.2.2.2.1 bt707.2.2.2.2.2.2.2.2.2.1 bt707.2.2.2.2.2.2.2.2.2.2.1))) else (laws_FnExactConnSay.j0 k a1 bt707.2.2.2.2.2.2.2.2.2.2.2.1 bt707.2.2.2.2.2.2.2.2.2.2.2.2 bt734.2.2.2.2.2.2.2.2.2.2.2.1 true a0_0 a0_1 a0_2 a0_3 a0_4 a0_5 a0_6 a0_7 a0_8 a0_9 a0_10 bt707.1 bt707.2.1 bt707.2.2.1 bt707.2.2.2.1 bt707.2.2.2.2.1 bt707.2.2.2.2.2.1 bt707.2.2.2.2.2.2.1 bt707.2.2.2.2.2.2.2.1 bt707.2.2.2.2.2.2.2.2.1 bt707.2.2.2.2.2.2.2.2.2.1 bt707.2.2.2.2.2.2.2.2.2.2.1)))))))) = some r:=H
  have A5:=aMk A50
  clear A50
  by_cases c6 : t695 < 0
  ·rw [if_pos c6] at H
   have c6b0 : decide (t695 < 0) = true:=decide_eq_true c6
   clear c6
   obtain rfl:=Option.some.inj H
   go_enter Try.func11,Try.ntmps11
   go_wp2_with (first|((with_reducible refine gate_dst (N:=2) rfl ?_);refine box_event ?hg (N:=2) ?hd (cs:=#[.string a0_0,.int .i64 a0_1,.int .i64 a0_2,.int .i64 a0_3,.int .i64 a0_4,.int .i64 a0_5,.int .i64 a0_6,.int .i64 a0_7,.string a0_8,.string a0_9,.bool a0_10]) (t:=31) ?hr ?_;(case hd => rfl);(case hg => rfl);(case hr => first|(go_simp;done)|(go_simp;rfl));intro gb694 hg w7 hbox hb;have n0_:=aMk (below_step (by repeat first|exact HB.out|apply bwA|apply bwN|apply bw1) hb);have n1_:=aMk (hbox);have n2_:=aMk ((by rw [hg];exact (below_size (by repeat first|exact HB.out|apply bwA|apply bwN|apply bw1)) : w.heap.size ≤ gb694));have n3_:=aMk ((by rw [hg];exact (below_size (by repeat first|exact HB.out|apply bwA|apply bwN|apply bw1)) : w.heap.size ≤ gb694));clear HB;have HB:=n0_;have BK694:=n1_;have GW694:=n2_;have GE694:=n3_;clear n0_ n1_ n2_ n3_;clear hb hbox hg;have hcz8_0 : w7.cell? ⟨gb694,0,none⟩ = some (.string a0_0):=(bCe BK694.out 0).trans rfl;have hcz8_1 : w7.cell? ⟨gb694,1,none⟩ = some (.int .i64 a0_1):=(bCe BK694.out 1).trans rfl;have hcz8_2 : w7.cell? ⟨gb694,2,none⟩ = some (.int .i64 a0_2):=(bCe BK694.out 2).trans rfl;have hcz8_3 : w7.cell? ⟨gb694,3,none⟩ = some (.int .i64 a0_3):=(bCe BK694.out 3).trans rfl;have hcz8_4 : w7.cell? ⟨gb694,4,none⟩ = some (.int .i64 a0_4):=(bCe BK694.out 4).trans rfl;have hcz8_5 : w7.cell? ⟨gb694,5,none⟩ = some (.int .i64 a0_5):=(bCe BK694.out 5).trans rfl;have hcz8_6 : w7.cell? ⟨gb694,6,none⟩ = some (.int .i64 a0_6):=(bCe BK694.out 6).trans rfl;have hcz8_7 : w7.cell? ⟨gb694,7,none⟩ = some (.int .i64 a0_7):=(bCe BK694.out 7).trans rfl;have hcz8_8 : w7.cell? ⟨gb694,8,none⟩ = some (.string a0_8):=(bCe BK694.out 8).trans rfl;have hcz8_9 : w7.cell? ⟨gb694,9,none⟩ = some (.string a0_9):=(bCe BK694.out 9).trans rfl;have hcz8_10 : w7.cell? ⟨gb694,10,none⟩ = some (.bool a0_10):=(bCe BK694.out 10).trans rfl;have hfz8_0:=bFr BK694.out 0;have hfz8_1:=bFr BK694.out 1;have hfz8_2:=bFr BK694.out 2;have hfz8_3:=bFr BK694.out 3;have hfz8_4:=bFr BK694.out 4;have hfz8_5:=bFr BK694.out 5;have hfz8_6:=bFr BK694.out 6;have hfz8_7:=bFr BK694.out 7;have hfz8_8:=bFr BK694.out 8;have hfz8_9:=bFr BK694.out 9;have hfz8_10:=bFr BK694.out 10)|((with_reducible refine gate_callee (f:=22) rfl ?_);refine goesL_ (some 22) rfl rfl Try.func22 (by kernel_rfl) rfl #[.agg #[.string a0_0,.int .i64 a0_1,.int .i64 a0_2,.int .i64 a0_3,.int .i64 a0_4,.int .i64 a0_5,.int .i64 a0_6,.int .i64 a0_7,.string a0_8,.string a0_9,.bool a0_10],.int .i64 1048576] rfl (by (try simp only [List.map_toArray,List.map_cons,List.map_nil]);first | done | rfl|(simp only [List.length_drop,List.length_take];rfl)) ?_;(with_reducible refine (laws_szConn.calls a0_0 a0_1 a0_2 a0_3 a0_4 a0_5 a0_6 a0_7 a0_8 a0_9 a0_10 1048576 t695 _ A5.out).mono ?_);rintro e w9 ⟨rfl,hb⟩;refine ⟨_,rfl,?_⟩;have n0_:=aMk (blk_below (g:=gb694) (o:=.cells #[.string a0_0,.int .i64 a0_1,.int .i64 a0_2,.int .i64 a0_3,.int .i64 a0_4,.int .i64 a0_5,.int .i64 a0_6,.int .i64 a0_7,.string a0_8,.string a0_9,.bool a0_10] 31 (0,0)) (by (with_reducible repeat (first|refine bDn ?_ _|refine bDr ?_|refine bAl ?_ _));exact BK694.out) hb);have n1_:=aMk (below_step (by repeat (first|(with_reducible first|exact HB.out|apply bwA|apply bwN|apply bw1|refine below_set ?_ GE694.out)|exact HB.out)) hb);clear BK694;clear HB;have BK694:=n0_;have HB:=n1_;clear n0_ n1_;(try clear hb);(try clear hb2);(try clear hk);(try clear hi)))
   go_ret
   exact ⟨by first | rfl|(simp [errW_none,errW_some] <;> rfl)|(simp [*,errW_none,errW_some] <;> rfl),by repeat (first|(with_reducible first|exact HB.out|apply bwA|apply bwN|apply bw1|refine below_set ?_ GE694.out)|exact HB.out)⟩
  ·rw [if_neg c6] at H
   have c6b0 : decide (t695 < 0) = false:=decide_eq_false c6
   clear c6
   replace H:=Option.bind_eq_some_iff.mp H
   obtain ⟨⟨t696,t697,t698,t699,t700,t701,t702,t703,t704,t705,t706⟩,A100,H⟩:=H
   replace H : ((spec_ConnSay.f k t696 t697 t698 t699 t700 t701 t702 t703 t704 t705 t706 a1).bind fun bt707 => ((laws_toConn.f a0_0 a0_1 a0_2 a0_3 a0_4 a0_5 a0_6 a0_7 a0_8 a0_9 a0_10).bind fun bt723 => ((impl_ConnSay.f k bt723.1 bt723.2.1 bt723.2.2.1 bt723.2.2.2.1 bt723.2.2.2.2.1 bt723.2.2.2.2.2.1 bt723.2.2.2.2.2.2.1 bt723.2.2.2.2.2.2.2.1 bt723.2.2.2.2.2.2.2.2.1 bt723.2.2.2.2.2.2.2.2.2.1 bt723.2.2.2.2.2.2.2.2.2.2 a1).bind fun bt734 => ((laws_eqConn.f bt734.1 bt734.2.1 bt734.2.2.1 bt734.2.2.2.1 bt734.2.2.2.2.1 bt734.2.2.2.2.2.1 bt734.2.2.2.2.2.2.1 bt734.2.2.2.2.2.2.2.1 bt734.2.2.2.2.2.2.2.2.1 bt734.2.2.2.2.2.2.2.2.2.1 bt734.2.2.2.2.2.2.2.2.2.2.1 bt707.1 bt707.2.1 bt707.2.2.1 bt707.2.2.2.1 bt707.2.2.2.2.1 bt707.2.2.2.2.2.1 bt707.2.2.2.2.2.2.1 bt707.2.2.2.2.2.2.2.1 bt707.2.2.2.2.2.2.2.2.1 bt707.2.2.2.2.2.2.2.2.2.1 bt707.2.2.2.2.2.2.2.2.2.2.1).bind fun t750 => (if t750 = true then ((laws_eqSegmentS.f k bt734.2.2.2.2.2.2.2.2.2.2.2.1 bt707.2.2.2.2.2.2.2.2.2.2.2.1).bind fun t751 => (if t751 = true then (laws_FnExactConnSay.j0 k a1 bt707.2.2.2.2.2.2.2.2.2.2.2.1 bt707.2.2.2.2.2.2.2.2.2.2.2.2 bt734.2.2.2.2.2.2.2.2.2.2.2.1 (bt734.2.2.2.2.2.2.2.2.2.2.2.2 != bt707.2.2.2.2.2.2.2.2.2.2.2.2) a0_0 a0_1 a0_2 a0_3 a0_4 a0_5 a0_6 a0_7 a0_8 a0_9 a0_10 bt707.1 bt707.2.1 bt707.2.2.1 bt707.2.2.2.1 bt707.2.2.2.2.1 bt707.2.2.2.2.2.1 bt707.2.2.2.2.2.2.1 bt707.2.2.2.2.2.2.2.1 bt707.2.2.2.2.2.2.2.2.1 bt707.2.2.2.2.2.2.2.2.2.1 bt707.2.2.2.2.2.2.2.2.2.2.1) else (laws_FnExactConnSay.j0 k a1 bt707.2.2.2.2.2.2.2.2.2.2.2.1 bt707.2.2.2.2.2.2.2.2.2.2.2.2 bt734.2.2.2.2.2.2.2.2.2.2.2.1 true a0_0 a0_1 a0_2 a0_3 a0_4 a0_5 a0_6 a0_7 a0_8 a0_9 a0_10 bt707.1 bt707.2.1 bt707.2.2.1 bt707.2.2.2.1 bt707.2.2.2.2.1 bt707.2.2.2.2.2.1 bt707.2.2.2.2.2.2.1 bt707.2.2.2.2.2.2.2.1 bt707.2.2.2.2.2.2.2.2.1 bt707.2.2.2.2.2.2.2.2.2.1 bt707.2.2.2.2.2.2.2.2.2.2.1))) else (laws_FnExactConnSay.j0 k a1 bt707.2.2.2.2.2.2.2.2.2.2.2.1 bt707.2.2.2.2.2.2.2.2.2.2.2.2 bt734.2.2.2.2.2.2.2.2.2.2.2.1 true a0_0 a0_1 a0_2 a0_3 a0_4 a0_5 a0_6 a0_7 a0_8 a0_9 a0_10 bt707.1 bt707.2.1 bt707.2.2.1 bt707.2.2.2.1 bt707.2.2.2.2.1 bt707.2.2.2.2.2.1 bt707.2.2.2.2.2.2.1 bt707.2.2.2.2.2.2.2.1 bt707.2.2.2.2.2.2.2.2.1 bt707.2.2.2.2.2.2.2.2.2.1 bt707.2.2.2.2.2.2.2.2.2.2.1)))))) = some r:=H
   have A10:=aMk A100
   clear A100
   replace H:=Option.bind_eq_some_iff.mp H
   obtain ⟨⟨t707,t708,t709,t710,t711,t712,t713,t714,t715,t716,t717,t718,t721⟩,A110,H⟩:=H
   replace H : ((laws_toConn.f a0_0 a0_1 a0_2 a0_3 a0_4 a0_5 a0_6 a0_7 a0_8 a0_9 a0_10).bind fun bt723 => ((impl_ConnSay.f k bt723.1 bt723.2.1 bt723.2.2.1 bt723.2.2.2.1 bt723.2.2.2.2.1 bt723.2.2.2.2.2.1 bt723.2.2.2.2.2.2.1 bt723.2.2.2.2.2.2.2.1 bt723.2.2.2.2.2.2.2.2.1 bt723.2.2.2.2.2.2.2.2.2.1 bt723.2.2.2.2.2.2.2.2.2.2 a1).bind fun bt734 => ((laws_eqConn.f bt734.1 bt734.2.1 bt734.2.2.1 bt734.2.2.2.1 bt734.2.2.2.2.1 bt734.2.2.2.2.2.1 bt734.2.2.2.2.2.2.1 bt734.2.2.2.2.2.2.2.1 bt734.2.2.2.2.2.2.2.2.1 bt734.2.2.2.2.2.2.2.2.2.1 bt734.2.2.2.2.2.2.2.2.2.2.1 t707 t708 t709 t710 t711 t712 t713 t714 t715 t716 t717).bind fun t750 => (if t750 = true then ((laws_eqSegmentS.f k bt734.2.2.2.2.2.2.2.2.2.2.2.1 t718).bind fun t751 => (if t751 = true then (laws_FnExactConnSay.j0 k a1 t718 t721 bt734.2.2.2.2.2.2.2.2.2.2.2.1 (bt734.2.2.2.2.2.2.2.2.2.2.2.2 != t721) a0_0 a0_1 a0_2 a0_3 a0_4 a0_5 a0_6 a0_7 a0_8 a0_9 a0_10 t707 t708 t709 t710 t711 t712 t713 t714 t715 t716 t717) else (laws_FnExactConnSay.j0 k a1 t718 t721 bt734.2.2.2.2.2.2.2.2.2.2.2.1 true a0_0 a0_1 a0_2 a0_3 a0_4 a0_5 a0_6 a0_7 a0_8 a0_9 a0_10 t707 t708 t709 t710 t711 t712 t713 t714 t715 t716 t717))) else (laws_FnExactConnSay.j0 k a1 t718 t721 bt734.2.2.2.2.2.2.2.2.2.2.2.1 true a0_0 a0_1 a0_2 a0_3 a0_4 a0_5 a0_6 a0_7 a0_8 a0_9 a0_10 t707 t708 t709 t710 t711 t712 t713 t714 t715 t716 t717))))) = some r:=H
   have A11:=aMk A110
   clear A110
   replace H:=Option.bind_eq_some_iff.mp H
   obtain ⟨⟨t723,t724,t725,t726,t727,t728,t729,t730,t731,t732,t733⟩,A120,H⟩:=H
   replace H : ((impl_ConnSay.f k t723 t724 t725 t726 t727 t728 t729 t730 t731 t732 t733 a1).bind fun bt734 => ((laws_eqConn.f bt734.1 bt734.2.1 bt734.2.2.1 bt734.2.2.2.1 bt734.2.2.2.2.1 bt734.2.2.2.2.2.1 bt734.2.2.2.2.2.2.1 bt734.2.2.2.2.2.2.2.1 bt734.2.2.2.2.2.2.2.2.1 bt734.2.2.2.2.2.2.2.2.2.1 bt734.2.2.2.2.2.2.2.2.2.2.1 t707 t708 t709 t710 t711 t712 t713 t714 t715 t716 t717).bind fun t750 => (if t750 = true then ((laws_eqSegmentS.f k bt734.2.2.2.2.2.2.2.2.2.2.2.1 t718).bind fun t751 => (if t751 = true then (laws_FnExactConnSay.j0 k a1 t718 t721 bt734.2.2.2.2.2.2.2.2.2.2.2.1 (bt734.2.2.2.2.2.2.2.2.2.2.2.2 != t721) a0_0 a0_1 a0_2 a0_3 a0_4 a0_5 a0_6 a0_7 a0_8 a0_9 a0_10 t707 t708 t709 t710 t711 t712 t713 t714 t715 t716 t717) else (laws_FnExactConnSay.j0 k a1 t718 t721 bt734.2.2.2.2.2.2.2.2.2.2.2.1 true a0_0 a0_1 a0_2 a0_3 a0_4 a0_5 a0_6 a0_7 a0_8 a0_9 a0_10 t707 t708 t709 t710 t711 t712 t713 t714 t715 t716 t717))) else (laws_FnExactConnSay.j0 k a1 t718 t721 bt734.2.2.2.2.2.2.2.2.2.2.2.1 true a0_0 a0_1 a0_2 a0_3 a0_4 a0_5 a0_6 a0_7 a0_8 a0_9 a0_10 t707 t708 t709 t710 t711 t712 t713 t714 t715 t716 t717)))) = some r:=H
   have A12:=aMk A120
   clear A120
   replace H:=Option.bind_eq_some_iff.mp H
   obtain ⟨⟨t734,t735,t736,t737,t738,t739,t740,t741,t742,t743,t744,t745,t748⟩,A130,H⟩:=H
   replace H : ((laws_eqConn.f t734 t735 t736 t737 t738 t739 t740 t741 t742 t743 t744 t707 t708 t709 t710 t711 t712 t713 t714 t715 t716 t717).bind fun t750 => (if t750 = true then ((laws_eqSegmentS.f k t745 t718).bind fun t751 => (if t751 = true then (laws_FnExactConnSay.j0 k a1 t718 t721 t745 (t748 != t721) a0_0 a0_1 a0_2 a0_3 a0_4 a0_5 a0_6 a0_7 a0_8 a0_9 a0_10 t707 t708 t709 t710 t711 t712 t713 t714 t715 t716 t717) else (laws_FnExactConnSay.j0 k a1 t718 t721 t745 true a0_0 a0_1 a0_2 a0_3 a0_4 a0_5 a0_6 a0_7 a0_8 a0_9 a0_10 t707 t708 t709 t710 t711 t712 t713 t714 t715 t716 t717))) else (laws_FnExactConnSay.j0 k a1 t718 t721 t745 true a0_0 a0_1 a0_2 a0_3 a0_4 a0_5 a0_6 a0_7 a0_8 a0_9 a0_10 t707 t708 t709 t710 t711 t712 t713 t714 t715 t716 t717))) = some r:=H
   have A13:=aMk A130
   clear A130
   have HC14:=aMk H
   clear H
   go_enter Try.func11,Try.ntmps11
   go_upto_region 9 with (first|((with_reducible refine gate_dst (N:=2) rfl ?_);refine box_event ?hg (N:=2) ?hd (cs:=#[.string a0_0,.int .i64 a0_1,.int .i64 a0_2,.int .i64 a0_3,.int .i64 a0_4,.int .i64 a0_5,.int .i64 a0_6,.int .i64 a0_7,.string a0_8,.string a0_9,.bool a0_10]) (t:=31) ?hr ?_;(case hd => rfl);(case hg => rfl);(case hr => first|(go_simp;done)|(go_simp;rfl));intro gb694 hg w15 hbox hb;have n0_:=aMk (below_step (by repeat first|exact HB.out|apply bwA|apply bwN|apply bw1) hb);have n1_:=aMk (hbox);have n2_:=aMk ((by rw [hg];exact (below_size (by repeat first|exact HB.out|apply bwA|apply bwN|apply bw1)) : w.heap.size ≤ gb694));have n3_:=aMk ((by rw [hg];exact (below_size (by repeat first|exact HB.out|apply bwA|apply bwN|apply bw1)) : w.heap.size ≤ gb694));clear HB;have HB:=n0_;have BK694:=n1_;have GW694:=n2_;have GE694:=n3_;clear n0_ n1_ n2_ n3_;clear hb hbox hg;have hcz16_0 : w15.cell? ⟨gb694,0,none⟩ = some (.string a0_0):=(bCe BK694.out 0).trans rfl;have hcz16_1 : w15.cell? ⟨gb694,1,none⟩ = some (.int .i64 a0_1):=(bCe BK694.out 1).trans rfl;have hcz16_2 : w15.cell? ⟨gb694,2,none⟩ = some (.int .i64 a0_2):=(bCe BK694.out 2).trans rfl;have hcz16_3 : w15.cell? ⟨gb694,3,none⟩ = some (.int .i64 a0_3):=(bCe BK694.out 3).trans rfl;have hcz16_4 : w15.cell? ⟨gb694,4,none⟩ = some (.int .i64 a0_4):=(bCe BK694.out 4).trans rfl;have hcz16_5 : w15.cell? ⟨gb694,5,none⟩ = some (.int .i64 a0_5):=(bCe BK694.out 5).trans rfl;have hcz16_6 : w15.cell? ⟨gb694,6,none⟩ = some (.int .i64 a0_6):=(bCe BK694.out 6).trans rfl;have hcz16_7 : w15.cell? ⟨gb694,7,none⟩ = some (.int .i64 a0_7):=(bCe BK694.out 7).trans rfl;have hcz16_8 : w15.cell? ⟨gb694,8,none⟩ = some (.string a0_8):=(bCe BK694.out 8).trans rfl;have hcz16_9 : w15.cell? ⟨gb694,9,none⟩ = some (.string a0_9):=(bCe BK694.out 9).trans rfl;have hcz16_10 : w15.cell? ⟨gb694,10,none⟩ = some (.bool a0_10):=(bCe BK694.out 10).trans rfl;have hfz16_0:=bFr BK694.out 0;have hfz16_1:=bFr BK694.out 1;have hfz16_2:=bFr BK694.out 2;have hfz16_3:=bFr BK694.out 3;have hfz16_4:=bFr BK694.out 4;have hfz16_5:=bFr BK694.out 5;have hfz16_6:=bFr BK694.out 6;have hfz16_7:=bFr BK694.out 7;have hfz16_8:=bFr BK694.out 8;have hfz16_9:=bFr BK694.out 9;have hfz16_10:=bFr BK694.out 10)|((with_reducible refine gate_callee (f:=22) rfl ?_);refine goesL_ (some 22) rfl rfl Try.func22 (by kernel_rfl) rfl #[.agg #[.string a0_0,.int .i64 a0_1,.int .i64 a0_2,.int .i64 a0_3,.int .i64 a0_4,.int .i64 a0_5,.int .i64 a0_6,.int .i64 a0_7,.string a0_8,.string a0_9,.bool a0_10],.int .i64 1048576] rfl (by (try simp only [List.map_toArray,List.map_cons,List.map_nil]);first | done | rfl|(simp only [List.length_drop,List.length_take];rfl)) ?_;(with_reducible refine (laws_szConn.calls a0_0 a0_1 a0_2 a0_3 a0_4 a0_5 a0_6 a0_7 a0_8 a0_9 a0_10 1048576 t695 _ A5.out).mono ?_);rintro e w17 ⟨rfl,hb⟩;refine ⟨_,rfl,?_⟩;have n0_:=aMk (blk_below (g:=gb694) (o:=.cells #[.string a0_0,.int .i64 a0_1,.int .i64 a0_2,.int .i64 a0_3,.int .i64 a0_4,.int .i64 a0_5,.int .i64 a0_6,.int .i64 a0_7,.string a0_8,.string a0_9,.bool a0_10] 31 (0,0)) (by (with_reducible repeat (first|refine bDn ?_ _|refine bDr ?_|refine bAl ?_ _));exact BK694.out) hb);have n1_:=aMk (below_step (by repeat (first|(with_reducible first|exact HB.out|apply bwA|apply bwN|apply bw1|refine below_set ?_ GE694.out)|exact HB.out)) hb);clear BK694;clear HB;have BK694:=n0_;have HB:=n1_;clear n0_ n1_;(try clear hb);(try clear hb2);(try clear hk);(try clear hi);have hcz18_0 : w17.cell? ⟨gb694,0,none⟩ = some (.string a0_0):=(bCe BK694.out 0).trans rfl;have hcz18_1 : w17.cell? ⟨gb694,1,none⟩ = some (.int .i64 a0_1):=(bCe BK694.out 1).trans rfl;have hcz18_2 : w17.cell? ⟨gb694,2,none⟩ = some (.int .i64 a0_2):=(bCe BK694.out 2).trans rfl;have hcz18_3 : w17.cell? ⟨gb694,3,none⟩ = some (.int .i64 a0_3):=(bCe BK694.out 3).trans rfl;have hcz18_4 : w17.cell? ⟨gb694,4,none⟩ = some (.int .i64 a0_4):=(bCe BK694.out 4).trans rfl;have hcz18_5 : w17.cell? ⟨gb694,5,none⟩ = some (.int .i64 a0_5):=(bCe BK694.out 5).trans rfl;have hcz18_6 : w17.cell? ⟨gb694,6,none⟩ = some (.int .i64 a0_6):=(bCe BK694.out 6).trans rfl;have hcz18_7 : w17.cell? ⟨gb694,7,none⟩ = some (.int .i64 a0_7):=(bCe BK694.out 7).trans rfl;have hcz18_8 : w17.cell? ⟨gb694,8,none⟩ = some (.string a0_8):=(bCe BK694.out 8).trans rfl;have hcz18_9 : w17.cell? ⟨gb694,9,none⟩ = some (.string a0_9):=(bCe BK694.out 9).trans rfl;have hcz18_10 : w17.cell? ⟨gb694,10,none⟩ = some (.bool a0_10):=(bCe BK694.out 10).trans rfl;have hfz18_0:=bFr BK694.out 0;have hfz18_1:=bFr BK694.out 1;have hfz18_2:=bFr BK694.out 2;have hfz18_3:=bFr BK694.out 3;have hfz18_4:=bFr BK694.out 4;have hfz18_5:=bFr BK694.out 5;have hfz18_6:=bFr BK694.out 6;have hfz18_7:=bFr BK694.out 7;have hfz18_8:=bFr BK694.out 8;have hfz18_9:=bFr BK694.out 9;have hfz18_10:=bFr BK694.out 10)|((with_reducible refine gate_callee (f:=24) rfl ?_);refine goesL_ (some 27) rfl rfl Try.func24 (by kernel_rfl) rfl #[.agg #[.string a0_0,.int .i64 a0_1,.int .i64 a0_2,.int .i64 a0_3,.int .i64 a0_4,.int .i64 a0_5,.int .i64 a0_6,.int .i64 a0_7,.string a0_8,.string a0_9,.bool a0_10]] rfl (by (try simp only [List.map_toArray,List.map_cons,List.map_nil]);first | done | rfl|(simp only [List.length_drop,List.length_take];rfl)) ?_;(with_reducible refine (laws_toConn.calls a0_0 a0_1 a0_2 a0_3 a0_4 a0_5 a0_6 a0_7 a0_8 a0_9 a0_10 t696 t697 t698 t699 t700 t701 t702 t703 t704 t705 t706 _ A10.out).mono ?_);rintro e w19 ⟨rfl,hb⟩;refine ⟨_,rfl,?_⟩;have n0_:=aMk (blk_below (g:=gb694) (o:=.cells #[.string a0_0,.int .i64 a0_1,.int .i64 a0_2,.int .i64 a0_3,.int .i64 a0_4,.int .i64 a0_5,.int .i64 a0_6,.int .i64 a0_7,.string a0_8,.string a0_9,.bool a0_10] 31 (0,0)) (by (with_reducible repeat (first|refine bDn ?_ _|refine bDr ?_|refine bAl ?_ _));exact BK694.out) hb);have n1_:=aMk (below_step (by repeat (first|(with_reducible first|exact HB.out|apply bwA|apply bwN|apply bw1|refine below_set ?_ GE694.out)|exact HB.out)) hb);clear BK694;clear HB;have BK694:=n0_;have HB:=n1_;clear n0_ n1_;(try clear hb);(try clear hb2);(try clear hk);(try clear hi))|((with_reducible refine gate_callee (f:=43) rfl ?_);refine goesL_ (some 29) rfl rfl Try.func43 (by kernel_rfl) rfl #[.agg #[.string t696,.int .i64 t697,.int .i64 t698,.int .i64 t699,.int .i64 t700,.int .i64 t701,.int .i64 t702,.int .i64 t703,.string t704,.string t705,.bool t706],.string a1] rfl (by (try simp only [List.map_toArray,List.map_cons,List.map_nil]);first | done | rfl|(simp only [List.length_drop,List.length_take];rfl)) ?_;(with_reducible refine (spec_ConnSay.calls k t696 t697 t698 t699 t700 t701 t702 t703 t704 t705 t706 a1 t707 t708 t709 t710 t711 t712 t713 t714 t715 t716 t717 t718 t721 _ A11.out).mono ?_);rintro e w20 ⟨v719,rfl,ho0,hb⟩;refine ⟨_,rfl,?_⟩;have n0_:=aMk (Kd.R_lower ho0 (below_size (by repeat (first|(with_reducible first|exact HB.out|apply bwA|apply bwN|apply bw1|refine below_set ?_ GE694.out)|exact HB.out))));have n1_:=aMk (blk_below (g:=gb694) (o:=.cells #[.string a0_0,.int .i64 a0_1,.int .i64 a0_2,.int .i64 a0_3,.int .i64 a0_4,.int .i64 a0_5,.int .i64 a0_6,.int .i64 a0_7,.string a0_8,.string a0_9,.bool a0_10] 31 (0,0)) (by (with_reducible repeat (first|refine bDn ?_ _|refine bDr ?_|refine bAl ?_ _));exact BK694.out) hb);have n2_:=aMk (below_step (by repeat (first|(with_reducible first|exact HB.out|apply bwA|apply bwN|apply bw1|refine below_set ?_ GE694.out)|exact HB.out)) hb);clear BK694;clear HB;have HO720:=n0_;have BK694:=n1_;have HB:=n2_;clear n0_ n1_ n2_;(try clear hb);(try clear hb2);(try clear hk);(try clear hi);(try clear ho0))|((with_reducible refine gate_dst (N:=6) rfl ?_);refine box_event ?hg (N:=6) ?hd (cs:=#[.string (⟨#[]⟩ : ByteArray),.int .i64 0,.int .i64 0,.int .i64 0,.int .i64 0,.int .i64 0,.int .i64 0,.int .i64 0,.string (⟨#[]⟩ : ByteArray),.string (⟨#[]⟩ : ByteArray),.bool false]) (t:=34) ?hr ?_;(case hd => rfl);(case hg => rfl);(case hr => first|(go_simp;done)|(go_simp;rfl));intro gb722 hg w21 hbox hb;have n0_:=aMk (Kd.R_below (by (with_reducible repeat (first|apply Kd.R_alloc|apply Kd.R_drewN|apply Kd.R_drew));exact HO720.out) hb);have n1_:=aMk (blk_below (g:=gb694) (o:=.cells #[.string a0_0,.int .i64 a0_1,.int .i64 a0_2,.int .i64 a0_3,.int .i64 a0_4,.int .i64 a0_5,.int .i64 a0_6,.int .i64 a0_7,.string a0_8,.string a0_9,.bool a0_10] 31 (0,0)) (by (with_reducible repeat (first|refine bDn ?_ _|refine bDr ?_|refine bAl ?_ _));exact BK694.out) hb);have n2_:=aMk (below_step (by repeat (first|(with_reducible first|exact HB.out|apply bwA|apply bwN|apply bw1|refine below_set ?_ GE694.out)|exact HB.out)) hb);have n3_:=aMk (hbox);have n4_:=aMk ((by rw [hg];exact (below_size (by repeat (first|(with_reducible first|exact HB.out|apply bwA|apply bwN|apply bw1|refine below_set ?_ GE694.out)|exact HB.out))) : w.heap.size ≤ gb722));have n5_:=aMk ((by rw [hg];exact (below_size (by repeat (first|(with_reducible first|exact HB.out|apply bwA|apply bwN|apply bw1|refine below_set ?_ GE694.out)|exact HB.out))) : w.heap.size ≤ gb722));have n6_:=aMk ((by rw [hg];exact Nat.ne_of_lt (blk_lt (g:=gb694) (o:=.cells #[.string a0_0,.int .i64 a0_1,.int .i64 a0_2,.int .i64 a0_3,.int .i64 a0_4,.int .i64 a0_5,.int .i64 a0_6,.int .i64 a0_7,.string a0_8,.string a0_9,.bool a0_10] 31 (0,0)) (by (with_reducible repeat (first|refine bDn ?_ _|refine bDr ?_|refine bAl ?_ _));exact BK694.out)) : gb694 ≠ gb722));have n7_:=aMk ((by rw [hg];exact Nat.ne_of_gt (blk_lt (g:=gb694) (o:=.cells #[.string a0_0,.int .i64 a0_1,.int .i64 a0_2,.int .i64 a0_3,.int .i64 a0_4,.int .i64 a0_5,.int .i64 a0_6,.int .i64 a0_7,.string a0_8,.string a0_9,.bool a0_10] 31 (0,0)) (by (with_reducible repeat (first|refine bDn ?_ _|refine bDr ?_|refine bAl ?_ _));exact BK694.out)) : gb722 ≠ gb694));clear HO720;clear BK694;clear HB;have HO720:=n0_;have BK694:=n1_;have HB:=n2_;have BK722:=n3_;have GW722:=n4_;have GE722:=n5_;have NB694_722:=n6_;have NB722_694:=n7_;clear n0_ n1_ n2_ n3_ n4_ n5_ n6_ n7_;clear hb hbox hg;have hnb22:=NB722_694.out;have hnc22:=NB694_722.out;have hcz23_0 : w21.cell? ⟨gb722,0,none⟩ = some (.string (⟨#[]⟩ : ByteArray)):=(bCe BK722.out 0).trans rfl;have hcz23_1 : w21.cell? ⟨gb722,1,none⟩ = some (.int .i64 0):=(bCe BK722.out 1).trans rfl;have hcz23_2 : w21.cell? ⟨gb722,2,none⟩ = some (.int .i64 0):=(bCe BK722.out 2).trans rfl;have hcz23_3 : w21.cell? ⟨gb722,3,none⟩ = some (.int .i64 0):=(bCe BK722.out 3).trans rfl;have hcz23_4 : w21.cell? ⟨gb722,4,none⟩ = some (.int .i64 0):=(bCe BK722.out 4).trans rfl;have hcz23_5 : w21.cell? ⟨gb722,5,none⟩ = some (.int .i64 0):=(bCe BK722.out 5).trans rfl;have hcz23_6 : w21.cell? ⟨gb722,6,none⟩ = some (.int .i64 0):=(bCe BK722.out 6).trans rfl;have hcz23_7 : w21.cell? ⟨gb722,7,none⟩ = some (.int .i64 0):=(bCe BK722.out 7).trans rfl;have hcz23_8 : w21.cell? ⟨gb722,8,none⟩ = some (.string (⟨#[]⟩ : ByteArray)):=(bCe BK722.out 8).trans rfl;have hcz23_9 : w21.cell? ⟨gb722,9,none⟩ = some (.string (⟨#[]⟩ : ByteArray)):=(bCe BK722.out 9).trans rfl;have hcz23_10 : w21.cell? ⟨gb722,10,none⟩ = some (.bool false):=(bCe BK722.out 10).trans rfl;have hfz23_0:=bFr BK722.out 0;have hfz23_1:=bFr BK722.out 1;have hfz23_2:=bFr BK722.out 2;have hfz23_3:=bFr BK722.out 3;have hfz23_4:=bFr BK722.out 4;have hfz23_5:=bFr BK722.out 5;have hfz23_6:=bFr BK722.out 6;have hfz23_7:=bFr BK722.out 7;have hfz23_8:=bFr BK722.out 8;have hfz23_9:=bFr BK722.out 9;have hfz23_10:=bFr BK722.out 10;have hcz24_0 : w21.cell? ⟨gb694,0,none⟩ = some (.string a0_0):=(bCe BK694.out 0).trans rfl;have hcz24_1 : w21.cell? ⟨gb694,1,none⟩ = some (.int .i64 a0_1):=(bCe BK694.out 1).trans rfl;have hcz24_2 : w21.cell? ⟨gb694,2,none⟩ = some (.int .i64 a0_2):=(bCe BK694.out 2).trans rfl;have hcz24_3 : w21.cell? ⟨gb694,3,none⟩ = some (.int .i64 a0_3):=(bCe BK694.out 3).trans rfl;have hcz24_4 : w21.cell? ⟨gb694,4,none⟩ = some (.int .i64 a0_4):=(bCe BK694.out 4).trans rfl;have hcz24_5 : w21.cell? ⟨gb694,5,none⟩ = some (.int .i64 a0_5):=(bCe BK694.out 5).trans rfl;have hcz24_6 : w21.cell? ⟨gb694,6,none⟩ = some (.int .i64 a0_6):=(bCe BK694.out 6).trans rfl;have hcz24_7 : w21.cell? ⟨gb694,7,none⟩ = some (.int .i64 a0_7):=(bCe BK694.out 7).trans rfl;have hcz24_8 : w21.cell? ⟨gb694,8,none⟩ = some (.string a0_8):=(bCe BK694.out 8).trans rfl;have hcz24_9 : w21.cell? ⟨gb694,9,none⟩ = some (.string a0_9):=(bCe BK694.out 9).trans rfl;have hcz24_10 : w21.cell? ⟨gb694,10,none⟩ = some (.bool a0_10):=(bCe BK694.out 10).trans rfl;have hfz24_0:=bFr BK694.out 0;have hfz24_1:=bFr BK694.out 1;have hfz24_2:=bFr BK694.out 2;have hfz24_3:=bFr BK694.out 3;have hfz24_4:=bFr BK694.out 4;have hfz24_5:=bFr BK694.out 5;have hfz24_6:=bFr BK694.out 6;have hfz24_7:=bFr BK694.out 7;have hfz24_8:=bFr BK694.out 8;have hfz24_9:=bFr BK694.out 9;have hfz24_10:=bFr BK694.out 10)|((with_reducible refine gate_callee (f:=24) rfl ?_);refine goesL_ (some 35) rfl rfl Try.func24 (by kernel_rfl) rfl #[.agg #[.string a0_0,.int .i64 a0_1,.int .i64 a0_2,.int .i64 a0_3,.int .i64 a0_4,.int .i64 a0_5,.int .i64 a0_6,.int .i64 a0_7,.string a0_8,.string a0_9,.bool a0_10]] rfl (by (try simp only [List.map_toArray,List.map_cons,List.map_nil]);first | done | rfl|(simp only [List.length_drop,List.length_take];rfl)) ?_;(with_reducible refine (laws_toConn.calls a0_0 a0_1 a0_2 a0_3 a0_4 a0_5 a0_6 a0_7 a0_8 a0_9 a0_10 t723 t724 t725 t726 t727 t728 t729 t730 t731 t732 t733 _ A12.out).mono ?_);rintro e w25 ⟨rfl,hb⟩;refine ⟨_,rfl,?_⟩;have n0_:=aMk (Kd.R_below (by (with_reducible repeat (first|apply Kd.R_alloc|apply Kd.R_drewN|apply Kd.R_drew));exact (Kd.R_mono (Kd.R_far (p:=⟨gb722,10,none⟩) (Kd.R_far (p:=⟨gb722,9,none⟩) (Kd.R_far (p:=⟨gb722,8,none⟩) (Kd.R_far (p:=⟨gb722,7,none⟩) (Kd.R_far (p:=⟨gb722,6,none⟩) (Kd.R_far (p:=⟨gb722,5,none⟩) (Kd.R_far (p:=⟨gb722,4,none⟩) (Kd.R_far (p:=⟨gb722,3,none⟩) (Kd.R_far (p:=⟨gb722,2,none⟩) (Kd.R_far (p:=⟨gb722,1,none⟩) (Kd.R_far (p:=⟨gb722,0,none⟩) (Kd.R_types HO720.out BK722.out (by decide)) (fun _ hk => hk.2) (.string t707)) (fun _ hk => hk.2) (.int .i64 t708)) (fun _ hk => hk.2) (.int .i64 t709)) (fun _ hk => hk.2) (.int .i64 t710)) (fun _ hk => hk.2) (.int .i64 t711)) (fun _ hk => hk.2) (.int .i64 t712)) (fun _ hk => hk.2) (.int .i64 t713)) (fun _ hk => hk.2) (.int .i64 t714)) (fun _ hk => hk.2) (.string t715)) (fun _ hk => hk.2) (.string t716)) (fun _ hk => hk.2) (.bool t717)) (fun _ h_ => h_.1))) hb);have n1_:=aMk (blk_below (g:=gb694) (o:=.cells #[.string a0_0,.int .i64 a0_1,.int .i64 a0_2,.int .i64 a0_3,.int .i64 a0_4,.int .i64 a0_5,.int .i64 a0_6,.int .i64 a0_7,.string a0_8,.string a0_9,.bool a0_10] 31 (0,0)) (by (with_reducible repeat (first|refine bDn ?_ _|refine bDr ?_|refine bAl ?_ _));refine blk_far ?_ NB694_722.out _;(with_reducible repeat (first|refine bDn ?_ _|refine bDr ?_|refine bAl ?_ _));refine blk_far ?_ NB694_722.out _;(with_reducible repeat (first|refine bDn ?_ _|refine bDr ?_|refine bAl ?_ _));refine blk_far ?_ NB694_722.out _;(with_reducible repeat (first|refine bDn ?_ _|refine bDr ?_|refine bAl ?_ _));refine blk_far ?_ NB694_722.out _;(with_reducible repeat (first|refine bDn ?_ _|refine bDr ?_|refine bAl ?_ _));refine blk_far ?_ NB694_722.out _;(with_reducible repeat (first|refine bDn ?_ _|refine bDr ?_|refine bAl ?_ _));refine blk_far ?_ NB694_722.out _;(with_reducible repeat (first|refine bDn ?_ _|refine bDr ?_|refine bAl ?_ _));refine blk_far ?_ NB694_722.out _;(with_reducible repeat (first|refine bDn ?_ _|refine bDr ?_|refine bAl ?_ _));refine blk_far ?_ NB694_722.out _;(with_reducible repeat (first|refine bDn ?_ _|refine bDr ?_|refine bAl ?_ _));refine blk_far ?_ NB694_722.out _;(with_reducible repeat (first|refine bDn ?_ _|refine bDr ?_|refine bAl ?_ _));refine blk_far ?_ NB694_722.out _;(with_reducible repeat (first|refine bDn ?_ _|refine bDr ?_|refine bAl ?_ _));refine blk_far ?_ NB694_722.out _;(with_reducible repeat (first|refine bDn ?_ _|refine bDr ?_|refine bAl ?_ _));exact BK694.out) hb);have n2_:=aMk (blk_below (g:=gb722) (o:=.cells #[.string t707,.int .i64 t708,.int .i64 t709,.int .i64 t710,.int .i64 t711,.int .i64 t712,.int .i64 t713,.int .i64 t714,.string t715,.string t716,.bool t717] 34 (0,0)) (by (with_reducible repeat (first|refine bDn ?_ _|refine bDr ?_|refine bAl ?_ _));refine blk_put (cs:=#[.string t707,.int .i64 t708,.int .i64 t709,.int .i64 t710,.int .i64 t711,.int .i64 t712,.int .i64 t713,.int .i64 t714,.string t715,.string t716,.bool false]) ?_ 10 _ rfl;(with_reducible repeat (first|refine bDn ?_ _|refine bDr ?_|refine bAl ?_ _));refine blk_put (cs:=#[.string t707,.int .i64 t708,.int .i64 t709,.int .i64 t710,.int .i64 t711,.int .i64 t712,.int .i64 t713,.int .i64 t714,.string t715,.string (⟨#[]⟩ : ByteArray),.bool false]) ?_ 9 _ rfl;(with_reducible repeat (first|refine bDn ?_ _|refine bDr ?_|refine bAl ?_ _));refine blk_put (cs:=#[.string t707,.int .i64 t708,.int .i64 t709,.int .i64 t710,.int .i64 t711,.int .i64 t712,.int .i64 t713,.int .i64 t714,.string (⟨#[]⟩ : ByteArray),.string (⟨#[]⟩ : ByteArray),.bool false]) ?_ 8 _ rfl;(with_reducible repeat (first|refine bDn ?_ _|refine bDr ?_|refine bAl ?_ _));refine blk_put (cs:=#[.string t707,.int .i64 t708,.int .i64 t709,.int .i64 t710,.int .i64 t711,.int .i64 t712,.int .i64 t713,.int .i64 0,.string (⟨#[]⟩ : ByteArray),.string (⟨#[]⟩ : ByteArray),.bool false]) ?_ 7 _ rfl;(with_reducible repeat (first|refine bDn ?_ _|refine bDr ?_|refine bAl ?_ _));refine blk_put (cs:=#[.string t707,.int .i64 t708,.int .i64 t709,.int .i64 t710,.int .i64 t711,.int .i64 t712,.int .i64 0,.int .i64 0,.string (⟨#[]⟩ : ByteArray),.string (⟨#[]⟩ : ByteArray),.bool false]) ?_ 6 _ rfl;(with_reducible repeat (first|refine bDn ?_ _|refine bDr ?_|refine bAl ?_ _));refine blk_put (cs:=#[.string t707,.int .i64 t708,.int .i64 t709,.int .i64 t710,.int .i64 t711,.int .i64 0,.int .i64 0,.int .i64 0,.string (⟨#[]⟩ : ByteArray),.string (⟨#[]⟩ : ByteArray),.bool false]) ?_ 5 _ rfl;(with_reducible repeat (first|refine bDn ?_ _|refine bDr ?_|refine bAl ?_ _));refine blk_put (cs:=#[.string t707,.int .i64 t708,.int .i64 t709,.int .i64 t710,.int .i64 0,.int .i64 0,.int .i64 0,.int .i64 0,.string (⟨#[]⟩ : ByteArray),.string (⟨#[]⟩ : ByteArray),.bool false]) ?_ 4 _ rfl;(with_reducible repeat (first|refine bDn ?_ _|refine bDr ?_|refine bAl ?_ _));refine blk_put (cs:=#[.string t707,.int .i64 t708,.int .i64 t709,.int .i64 0,.int .i64 0,.int .i64 0,.int .i64 0,.int .i64 0,.string (⟨#[]⟩ : ByteArray),.string (⟨#[]⟩ : ByteArray),.bool false]) ?_ 3 _ rfl;(with_reducible repeat (first|refine bDn ?_ _|refine bDr ?_|refine bAl ?_ _));refine blk_put (cs:=#[.string t707,.int .i64 t708,.int .i64 0,.int .i64 0,.int .i64 0,.int .i64 0,.int .i64 0,.int .i64 0,.string (⟨#[]⟩ : ByteArray),.string (⟨#[]⟩ : ByteArray),.bool false]) ?_ 2 _ rfl;(with_reducible repeat (first|refine bDn ?_ _|refine bDr ?_|refine bAl ?_ _));refine blk_put (cs:=#[.string t707,.int .i64 0,.int .i64 0,.int .i64 0,.int .i64 0,.int .i64 0,.int .i64 0,.int .i64 0,.string (⟨#[]⟩ : ByteArray),.string (⟨#[]⟩ : ByteArray),.bool false]) ?_ 1 _ rfl;(with_reducible repeat (first|refine bDn ?_ _|refine bDr ?_|refine bAl ?_ _));refine blk_put (cs:=#[.string (⟨#[]⟩ : ByteArray),.int .i64 0,.int .i64 0,.int .i64 0,.int .i64 0,.int .i64 0,.int .i64 0,.int .i64 0,.string (⟨#[]⟩ : ByteArray),.string (⟨#[]⟩ : ByteArray),.bool false]) ?_ 0 _ rfl;(with_reducible repeat (first|refine bDn ?_ _|refine bDr ?_|refine bAl ?_ _));exact BK722.out) hb);have n3_:=aMk (below_step (by repeat (first|(with_reducible first|exact HB.out|apply bwA|apply bwN|apply bw1|refine below_set ?_ GE694.out|refine below_set ?_ GE722.out)|exact HB.out)) hb);clear HO720;clear BK694;clear BK722;clear HB;have HO720:=n0_;have BK694:=n1_;have BK722:=n2_;have HB:=n3_;clear n0_ n1_ n2_ n3_;(try clear hb);(try clear hb2);(try clear hk);(try clear hi))|((with_reducible refine gate_callee (f:=44) rfl ?_);refine goesL_ (some 37) rfl rfl Try.func44 (by kernel_rfl) rfl #[.agg #[.string t723,.int .i64 t724,.int .i64 t725,.int .i64 t726,.int .i64 t727,.int .i64 t728,.int .i64 t729,.int .i64 t730,.string t731,.string t732,.bool t733],.string a1] rfl (by (try simp only [List.map_toArray,List.map_cons,List.map_nil]);first | done | rfl|(simp only [List.length_drop,List.length_take];rfl)) ?_;(with_reducible refine (impl_ConnSay.calls k t723 t724 t725 t726 t727 t728 t729 t730 t731 t732 t733 a1 t734 t735 t736 t737 t738 t739 t740 t741 t742 t743 t744 t745 t748 _ A13.out).mono ?_);rintro e w26 ⟨v746,rfl,ho0,hb⟩;refine ⟨_,rfl,?_⟩;have n0_:=aMk (Kd.R_elder' (by (with_reducible repeat (first|apply Kd.R_alloc|apply Kd.R_drewN|apply Kd.R_drew));exact HO720.out) (Kd.R_base ho0) hb);have n1_:=aMk (Kd.R_lower (Kd.R_new' ho0 (Kd.R_lt (by (with_reducible repeat (first|apply Kd.R_alloc|apply Kd.R_drewN|apply Kd.R_drew));exact HO720.out))) (below_size (by repeat (first|(with_reducible first|exact HB.out|apply bwA|apply bwN|apply bw1|refine below_set ?_ GE694.out|refine below_set ?_ GE722.out)|exact HB.out))));have n2_:=aMk (blk_below (g:=gb694) (o:=.cells #[.string a0_0,.int .i64 a0_1,.int .i64 a0_2,.int .i64 a0_3,.int .i64 a0_4,.int .i64 a0_5,.int .i64 a0_6,.int .i64 a0_7,.string a0_8,.string a0_9,.bool a0_10] 31 (0,0)) (by (with_reducible repeat (first|refine bDn ?_ _|refine bDr ?_|refine bAl ?_ _));exact BK694.out) hb);have n3_:=aMk (blk_below (g:=gb722) (o:=.cells #[.string t707,.int .i64 t708,.int .i64 t709,.int .i64 t710,.int .i64 t711,.int .i64 t712,.int .i64 t713,.int .i64 t714,.string t715,.string t716,.bool t717] 34 (0,0)) (by (with_reducible repeat (first|refine bDn ?_ _|refine bDr ?_|refine bAl ?_ _));exact BK722.out) hb);have n4_:=aMk (below_step (by repeat (first|(with_reducible first|exact HB.out|apply bwA|apply bwN|apply bw1|refine below_set ?_ GE694.out|refine below_set ?_ GE722.out)|exact HB.out)) hb);clear HO720;clear BK694;clear BK722;clear HB;have HO720:=n0_;have HO747:=n1_;have BK694:=n2_;have BK722:=n3_;have HB:=n4_;clear n0_ n1_ n2_ n3_ n4_;(try clear hb);(try clear hb2);(try clear hk);(try clear hi);(try clear ho0))|((with_reducible refine gate_dst (N:=9) rfl ?_);refine box_event ?hg (N:=9) ?hd (cs:=#[.string (⟨#[]⟩ : ByteArray),.int .i64 0,.int .i64 0,.int .i64 0,.int .i64 0,.int .i64 0,.int .i64 0,.int .i64 0,.string (⟨#[]⟩ : ByteArray),.string (⟨#[]⟩ : ByteArray),.bool false]) (t:=34) ?hr ?_;(case hd => rfl);(case hg => rfl);(case hr => first|(go_simp;done)|(go_simp;rfl));intro gb749 hg w27 hbox hb;have n0_:=aMk (Kd.R_below (by (with_reducible repeat (first|apply Kd.R_alloc|apply Kd.R_drewN|apply Kd.R_drew));exact HO720.out) hb);have n1_:=aMk (Kd.R_below (by (with_reducible repeat (first|apply Kd.R_alloc|apply Kd.R_drewN|apply Kd.R_drew));exact HO747.out) hb);have n2_:=aMk (blk_below (g:=gb694) (o:=.cells #[.string a0_0,.int .i64 a0_1,.int .i64 a0_2,.int .i64 a0_3,.int .i64 a0_4,.int .i64 a0_5,.int .i64 a0_6,.int .i64 a0_7,.string a0_8,.string a0_9,.bool a0_10] 31 (0,0)) (by (with_reducible repeat (first|refine bDn ?_ _|refine bDr ?_|refine bAl ?_ _));exact BK694.out) hb);have n3_:=aMk (blk_below (g:=gb722) (o:=.cells #[.string t707,.int .i64 t708,.int .i64 t709,.int .i64 t710,.int .i64 t711,.int .i64 t712,.int .i64 t713,.int .i64 t714,.string t715,.string t716,.bool t717] 34 (0,0)) (by (with_reducible repeat (first|refine bDn ?_ _|refine bDr ?_|refine bAl ?_ _));exact BK722.out) hb);have n4_:=aMk (below_step (by repeat (first|(with_reducible first|exact HB.out|apply bwA|apply bwN|apply bw1|refine below_set ?_ GE694.out|refine below_set ?_ GE722.out)|exact HB.out)) hb);have n5_:=aMk (hbox);have n6_:=aMk ((by rw [hg];exact (below_size (by repeat (first|(with_reducible first|exact HB.out|apply bwA|apply bwN|apply bw1|refine below_set ?_ GE694.out|refine below_set ?_ GE722.out)|exact HB.out))) : w.heap.size ≤ gb749));have n7_:=aMk ((by rw [hg];exact (below_size (by repeat (first|(with_reducible first|exact HB.out|apply bwA|apply bwN|apply bw1|refine below_set ?_ GE694.out|refine below_set ?_ GE722.out)|exact HB.out))) : w.heap.size ≤ gb749));have n8_:=aMk ((by rw [hg];exact Nat.ne_of_lt (blk_lt (g:=gb694) (o:=.cells #[.string a0_0,.int .i64 a0_1,.int .i64 a0_2,.int .i64 a0_3,.int .i64 a0_4,.int .i64 a0_5,.int .i64 a0_6,.int .i64 a0_7,.string a0_8,.string a0_9,.bool a0_10] 31 (0,0)) (by (with_reducible repeat (first|refine bDn ?_ _|refine bDr ?_|refine bAl ?_ _));exact BK694.out)) : gb694 ≠ gb749));have n9_:=aMk ((by rw [hg];exact Nat.ne_of_gt (blk_lt (g:=gb694) (o:=.cells #[.string a0_0,.int .i64 a0_1,.int .i64 a0_2,.int .i64 a0_3,.int .i64 a0_4,.int .i64 a0_5,.int .i64 a0_6,.int .i64 a0_7,.string a0_8,.string a0_9,.bool a0_10] 31 (0,0)) (by (with_reducible repeat (first|refine bDn ?_ _|refine bDr ?_|refine bAl ?_ _));exact BK694.out)) : gb749 ≠ gb694));have n10_:=aMk ((by rw [hg];exact Nat.ne_of_lt (blk_lt (g:=gb722) (o:=.cells #[.string t707,.int .i64 t708,.int .i64 t709,.int .i64 t710,.int .i64 t711,.int .i64 t712,.int .i64 t713,.int .i64 t714,.string t715,.string t716,.bool t717] 34 (0,0)) (by (with_reducible repeat (first|refine bDn ?_ _|refine bDr ?_|refine bAl ?_ _));exact BK722.out)) : gb722 ≠ gb749));have n11_:=aMk ((by rw [hg];exact Nat.ne_of_gt (blk_lt (g:=gb722) (o:=.cells #[.string t707,.int .i64 t708,.int .i64 t709,.int .i64 t710,.int .i64 t711,.int .i64 t712,.int .i64 t713,.int .i64 t714,.string t715,.string t716,.bool t717] 34 (0,0)) (by (with_reducible repeat (first|refine bDn ?_ _|refine bDr ?_|refine bAl ?_ _));exact BK722.out)) : gb749 ≠ gb722));clear HO720;clear HO747;clear BK694;clear BK722;clear HB;have HO720:=n0_;have HO747:=n1_;have BK694:=n2_;have BK722:=n3_;have HB:=n4_;have BK749:=n5_;have GW749:=n6_;have GE749:=n7_;have NB694_749:=n8_;have NB749_694:=n9_;have NB722_749:=n10_;have NB749_722:=n11_;clear n0_ n1_ n2_ n3_ n4_ n5_ n6_ n7_ n8_ n9_ n10_ n11_;clear hb hbox hg;have hnb28:=NB749_694.out;have hnc28:=NB694_749.out;have hnb29:=NB749_722.out;have hnc29:=NB722_749.out;have hcz30_0 : w27.cell? ⟨gb749,0,none⟩ = some (.string (⟨#[]⟩ : ByteArray)):=(bCe BK749.out 0).trans rfl;have hcz30_1 : w27.cell? ⟨gb749,1,none⟩ = some (.int .i64 0):=(bCe BK749.out 1).trans rfl;have hcz30_2 : w27.cell? ⟨gb749,2,none⟩ = some (.int .i64 0):=(bCe BK749.out 2).trans rfl;have hcz30_3 : w27.cell? ⟨gb749,3,none⟩ = some (.int .i64 0):=(bCe BK749.out 3).trans rfl;have hcz30_4 : w27.cell? ⟨gb749,4,none⟩ = some (.int .i64 0):=(bCe BK749.out 4).trans rfl;have hcz30_5 : w27.cell? ⟨gb749,5,none⟩ = some (.int .i64 0):=(bCe BK749.out 5).trans rfl;have hcz30_6 : w27.cell? ⟨gb749,6,none⟩ = some (.int .i64 0):=(bCe BK749.out 6).trans rfl;have hcz30_7 : w27.cell? ⟨gb749,7,none⟩ = some (.int .i64 0):=(bCe BK749.out 7).trans rfl;have hcz30_8 : w27.cell? ⟨gb749,8,none⟩ = some (.string (⟨#[]⟩ : ByteArray)):=(bCe BK749.out 8).trans rfl;have hcz30_9 : w27.cell? ⟨gb749,9,none⟩ = some (.string (⟨#[]⟩ : ByteArray)):=(bCe BK749.out 9).trans rfl;have hcz30_10 : w27.cell? ⟨gb749,10,none⟩ = some (.bool false):=(bCe BK749.out 10).trans rfl;have hfz30_0:=bFr BK749.out 0;have hfz30_1:=bFr BK749.out 1;have hfz30_2:=bFr BK749.out 2;have hfz30_3:=bFr BK749.out 3;have hfz30_4:=bFr BK749.out 4;have hfz30_5:=bFr BK749.out 5;have hfz30_6:=bFr BK749.out 6;have hfz30_7:=bFr BK749.out 7;have hfz30_8:=bFr BK749.out 8;have hfz30_9:=bFr BK749.out 9;have hfz30_10:=bFr BK749.out 10))
   (try simp only [Act.put,List.setIfInBounds_toArray,List.set_cons_zero,List.set_cons_succ])
   go_cut [55] (fun v55 wc => ∃ (kq : Nat) (x55_13 : Bool),v55 = .bool x55_13 ∧ Aside0 (laws_FnExactConnSay.j0 kq a1 t718 t721 t745 x55_13 a0_0 a0_1 a0_2 a0_3 a0_4 a0_5 a0_6 a0_7 a0_8 a0_9 a0_10 t707 t708 t709 t710 t711 t712 t713 t714 t715 t716 t717 = some r) ∧ Aside0 (kq ≤ k) ∧ Aside0 (Kd.R k53 53 wc w.heap.size (fun k_ => some k_ ≠ (v746 : Value).ownBlock) v719 t718) ∧ Aside0 (Kd.R k53 53 wc w.heap.size (fun k_ => some k_ ≠ (v719 : Value).ownBlock) v746 t745) ∧ Aside0 (wc.heap[gb694]? = some (.cells #[.string a0_0,.int .i64 a0_1,.int .i64 a0_2,.int .i64 a0_3,.int .i64 a0_4,.int .i64 a0_5,.int .i64 a0_6,.int .i64 a0_7,.string a0_8,.string a0_9,.bool a0_10] 31 (0,0))) ∧ Aside0 (wc.heap[gb722]? = some (.cells #[.string t707,.int .i64 t708,.int .i64 t709,.int .i64 t710,.int .i64 t711,.int .i64 t712,.int .i64 t713,.int .i64 t714,.string t715,.string t716,.bool t717] 34 (0,0))) ∧ Aside0 (wc.heap[gb749]? = some (.cells #[.string t734,.int .i64 t735,.int .i64 t736,.int .i64 t737,.int .i64 t738,.int .i64 t739,.int .i64 t740,.int .i64 t741,.string t742,.string t743,.bool t744] 34 (0,0))) ∧ Aside0 (Below w.heap.size w wc))
   case first =>
    have H:=HC14.out
    clear HC14
    replace H:=Option.bind_eq_some_iff.mp H
    obtain ⟨t750,A310,H⟩:=H
    replace H : (if t750 = true then ((laws_eqSegmentS.f k t745 t718).bind fun t751 => (if t751 = true then (laws_FnExactConnSay.j0 k a1 t718 t721 t745 (t748 != t721) a0_0 a0_1 a0_2 a0_3 a0_4 a0_5 a0_6 a0_7 a0_8 a0_9 a0_10 t707 t708 t709 t710 t711 t712 t713 t714 t715 t716 t717) else (laws_FnExactConnSay.j0 k a1 t718 t721 t745 true a0_0 a0_1 a0_2 a0_3 a0_4 a0_5 a0_6 a0_7 a0_8 a0_9 a0_10 t707 t708 t709 t710 t711 t712 t713 t714 t715 t716 t717))) else (laws_FnExactConnSay.j0 k a1 t718 t721 t745 true a0_0 a0_1 a0_2 a0_3 a0_4 a0_5 a0_6 a0_7 a0_8 a0_9 a0_10 t707 t708 t709 t710 t711 t712 t713 t714 t715 t716 t717)) = some r:=H
    have A31:=aMk A310
    clear A310
    by_cases c32 : t750 = true
    ·subst c32
     have H1 : ((laws_eqSegmentS.f k t745 t718).bind fun t751 => (if t751 = true then (laws_FnExactConnSay.j0 k a1 t718 t721 t745 (t748 != t721) a0_0 a0_1 a0_2 a0_3 a0_4 a0_5 a0_6 a0_7 a0_8 a0_9 a0_10 t707 t708 t709 t710 t711 t712 t713 t714 t715 t716 t717) else (laws_FnExactConnSay.j0 k a1 t718 t721 t745 true a0_0 a0_1 a0_2 a0_3 a0_4 a0_5 a0_6 a0_7 a0_8 a0_9 a0_10 t707 t708 t709 t710 t711 t712 t713 t714 t715 t716 t717))) = some r:=by rw [if_pos rfl] at H;exact H
     clear H
     have H:=H1
     clear H1
     replace H:=Option.bind_eq_some_iff.mp H
     obtain ⟨t751,A330,H⟩:=H
     replace H : (if t751 = true then (laws_FnExactConnSay.j0 k a1 t718 t721 t745 (t748 != t721) a0_0 a0_1 a0_2 a0_3 a0_4 a0_5 a0_6 a0_7 a0_8 a0_9 a0_10 t707 t708 t709 t710 t711 t712 t713 t714 t715 t716 t717) else (laws_FnExactConnSay.j0 k a1 t718 t721 t745 true a0_0 a0_1 a0_2 a0_3 a0_4 a0_5 a0_6 a0_7 a0_8 a0_9 a0_10 t707 t708 t709 t710 t711 t712 t713 t714 t715 t716 t717)) = some r:=H
     have A33:=aMk A330
     clear A330
     by_cases c34 : t751 = true
     ·subst c34
      have H1 : (laws_FnExactConnSay.j0 k a1 t718 t721 t745 (t748 != t721) a0_0 a0_1 a0_2 a0_3 a0_4 a0_5 a0_6 a0_7 a0_8 a0_9 a0_10 t707 t708 t709 t710 t711 t712 t713 t714 t715 t716 t717) = some r:=by rw [if_pos rfl] at H;exact H
      clear H
      have H:=H1
      clear H1
      have H':=aMk H
      clear H
      have hnb35:=NB749_694.out
      have hnc35:=NB694_749.out
      have hnb36:=NB749_722.out
      have hnc36:=NB722_749.out
      have hcz37_0 : w27.cell? ⟨gb749,0,none⟩ = some (.string (⟨#[]⟩ : ByteArray)):=(bCe BK749.out 0).trans rfl
      have hcz37_1 : w27.cell? ⟨gb749,1,none⟩ = some (.int .i64 0):=(bCe BK749.out 1).trans rfl
      have hcz37_2 : w27.cell? ⟨gb749,2,none⟩ = some (.int .i64 0):=(bCe BK749.out 2).trans rfl
      have hcz37_3 : w27.cell? ⟨gb749,3,none⟩ = some (.int .i64 0):=(bCe BK749.out 3).trans rfl
      have hcz37_4 : w27.cell? ⟨gb749,4,none⟩ = some (.int .i64 0):=(bCe BK749.out 4).trans rfl
      have hcz37_5 : w27.cell? ⟨gb749,5,none⟩ = some (.int .i64 0):=(bCe BK749.out 5).trans rfl
      have hcz37_6 : w27.cell? ⟨gb749,6,none⟩ = some (.int .i64 0):=(bCe BK749.out 6).trans rfl
      have hcz37_7 : w27.cell? ⟨gb749,7,none⟩ = some (.int .i64 0):=(bCe BK749.out 7).trans rfl
      have hcz37_8 : w27.cell? ⟨gb749,8,none⟩ = some (.string (⟨#[]⟩ : ByteArray)):=(bCe BK749.out 8).trans rfl
      have hcz37_9 : w27.cell? ⟨gb749,9,none⟩ = some (.string (⟨#[]⟩ : ByteArray)):=(bCe BK749.out 9).trans rfl
      have hcz37_10 : w27.cell? ⟨gb749,10,none⟩ = some (.bool false):=(bCe BK749.out 10).trans rfl
      have hfz37_0:=bFr BK749.out 0
      have hfz37_1:=bFr BK749.out 1
      have hfz37_2:=bFr BK749.out 2
      have hfz37_3:=bFr BK749.out 3
      have hfz37_4:=bFr BK749.out 4
      have hfz37_5:=bFr BK749.out 5
      have hfz37_6:=bFr BK749.out 6
      have hfz37_7:=bFr BK749.out 7
      have hfz37_8:=bFr BK749.out 8
      have hfz37_9:=bFr BK749.out 9
      have hfz37_10:=bFr BK749.out 10
      have hnb38:=NB722_694.out
      have hnc38:=NB694_722.out
      have hcz39_0 : w27.cell? ⟨gb722,0,none⟩ = some (.string t707):=(bCe BK722.out 0).trans rfl
      have hcz39_1 : w27.cell? ⟨gb722,1,none⟩ = some (.int .i64 t708):=(bCe BK722.out 1).trans rfl
      have hcz39_2 : w27.cell? ⟨gb722,2,none⟩ = some (.int .i64 t709):=(bCe BK722.out 2).trans rfl
      have hcz39_3 : w27.cell? ⟨gb722,3,none⟩ = some (.int .i64 t710):=(bCe BK722.out 3).trans rfl
      have hcz39_4 : w27.cell? ⟨gb722,4,none⟩ = some (.int .i64 t711):=(bCe BK722.out 4).trans rfl
      have hcz39_5 : w27.cell? ⟨gb722,5,none⟩ = some (.int .i64 t712):=(bCe BK722.out 5).trans rfl
      have hcz39_6 : w27.cell? ⟨gb722,6,none⟩ = some (.int .i64 t713):=(bCe BK722.out 6).trans rfl
      have hcz39_7 : w27.cell? ⟨gb722,7,none⟩ = some (.int .i64 t714):=(bCe BK722.out 7).trans rfl
      have hcz39_8 : w27.cell? ⟨gb722,8,none⟩ = some (.string t715):=(bCe BK722.out 8).trans rfl
      have hcz39_9 : w27.cell? ⟨gb722,9,none⟩ = some (.string t716):=(bCe BK722.out 9).trans rfl
      have hcz39_10 : w27.cell? ⟨gb722,10,none⟩ = some (.bool t717):=(bCe BK722.out 10).trans rfl
      have hfz39_0:=bFr BK722.out 0
      have hfz39_1:=bFr BK722.out 1
      have hfz39_2:=bFr BK722.out 2
      have hfz39_3:=bFr BK722.out 3
      have hfz39_4:=bFr BK722.out 4
      have hfz39_5:=bFr BK722.out 5
      have hfz39_6:=bFr BK722.out 6
      have hfz39_7:=bFr BK722.out 7
      have hfz39_8:=bFr BK722.out 8
      have hfz39_9:=bFr BK722.out 9
      have hfz39_10:=bFr BK722.out 10
      go_wp2_with (first|((with_reducible refine gate_callee (f:=37) rfl ?_);refine goesL_ (some 43) rfl rfl Try.func37 (by kernel_rfl) rfl #[.agg #[.string t734,.int .i64 t735,.int .i64 t736,.int .i64 t737,.int .i64 t738,.int .i64 t739,.int .i64 t740,.int .i64 t741,.string t742,.string t743,.bool t744],.agg #[.string t707,.int .i64 t708,.int .i64 t709,.int .i64 t710,.int .i64 t711,.int .i64 t712,.int .i64 t713,.int .i64 t714,.string t715,.string t716,.bool t717]] rfl (by (try simp only [List.map_toArray,List.map_cons,List.map_nil]);first | done | rfl|(simp only [List.length_drop,List.length_take];rfl)) ?_;(with_reducible refine (laws_eqConn.calls t734 t735 t736 t737 t738 t739 t740 t741 t742 t743 t744 t707 t708 t709 t710 t711 t712 t713 t714 t715 t716 t717 true _ A31.out).mono ?_);rintro e w40 ⟨rfl,hb⟩;refine ⟨_,rfl,?_⟩;have n0_:=aMk (Kd.R_below (by (with_reducible repeat (first|apply Kd.R_alloc|apply Kd.R_drewN|apply Kd.R_drew));exact (Kd.R_mono (Kd.R_far (p:=⟨gb749,10,none⟩) (Kd.R_far (p:=⟨gb749,9,none⟩) (Kd.R_far (p:=⟨gb749,8,none⟩) (Kd.R_far (p:=⟨gb749,7,none⟩) (Kd.R_far (p:=⟨gb749,6,none⟩) (Kd.R_far (p:=⟨gb749,5,none⟩) (Kd.R_far (p:=⟨gb749,4,none⟩) (Kd.R_far (p:=⟨gb749,3,none⟩) (Kd.R_far (p:=⟨gb749,2,none⟩) (Kd.R_far (p:=⟨gb749,1,none⟩) (Kd.R_far (p:=⟨gb749,0,none⟩) (Kd.R_types HO720.out BK749.out (by decide)) (fun _ hk => hk.2) (.string t734)) (fun _ hk => hk.2) (.int .i64 t735)) (fun _ hk => hk.2) (.int .i64 t736)) (fun _ hk => hk.2) (.int .i64 t737)) (fun _ hk => hk.2) (.int .i64 t738)) (fun _ hk => hk.2) (.int .i64 t739)) (fun _ hk => hk.2) (.int .i64 t740)) (fun _ hk => hk.2) (.int .i64 t741)) (fun _ hk => hk.2) (.string t742)) (fun _ hk => hk.2) (.string t743)) (fun _ hk => hk.2) (.bool t744)) (fun _ h_ => h_.1))) hb);have n1_:=aMk (Kd.R_below (by (with_reducible repeat (first|apply Kd.R_alloc|apply Kd.R_drewN|apply Kd.R_drew));exact (Kd.R_mono (Kd.R_far (p:=⟨gb749,10,none⟩) (Kd.R_far (p:=⟨gb749,9,none⟩) (Kd.R_far (p:=⟨gb749,8,none⟩) (Kd.R_far (p:=⟨gb749,7,none⟩) (Kd.R_far (p:=⟨gb749,6,none⟩) (Kd.R_far (p:=⟨gb749,5,none⟩) (Kd.R_far (p:=⟨gb749,4,none⟩) (Kd.R_far (p:=⟨gb749,3,none⟩) (Kd.R_far (p:=⟨gb749,2,none⟩) (Kd.R_far (p:=⟨gb749,1,none⟩) (Kd.R_far (p:=⟨gb749,0,none⟩) (Kd.R_types HO747.out BK749.out (by decide)) (fun _ hk => hk.2) (.string t734)) (fun _ hk => hk.2) (.int .i64 t735)) (fun _ hk => hk.2) (.int .i64 t736)) (fun _ hk => hk.2) (.int .i64 t737)) (fun _ hk => hk.2) (.int .i64 t738)) (fun _ hk => hk.2) (.int .i64 t739)) (fun _ hk => hk.2) (.int .i64 t740)) (fun _ hk => hk.2) (.int .i64 t741)) (fun _ hk => hk.2) (.string t742)) (fun _ hk => hk.2) (.string t743)) (fun _ hk => hk.2) (.bool t744)) (fun _ h_ => h_.1))) hb);have n2_:=aMk (blk_below (g:=gb694) (o:=.cells #[.string a0_0,.int .i64 a0_1,.int .i64 a0_2,.int .i64 a0_3,.int .i64 a0_4,.int .i64 a0_5,.int .i64 a0_6,.int .i64 a0_7,.string a0_8,.string a0_9,.bool a0_10] 31 (0,0)) (by (with_reducible repeat (first|refine bDn ?_ _|refine bDr ?_|refine bAl ?_ _));refine blk_far ?_ NB694_749.out _;(with_reducible repeat (first|refine bDn ?_ _|refine bDr ?_|refine bAl ?_ _));refine blk_far ?_ NB694_749.out _;(with_reducible repeat (first|refine bDn ?_ _|refine bDr ?_|refine bAl ?_ _));refine blk_far ?_ NB694_749.out _;(with_reducible repeat (first|refine bDn ?_ _|refine bDr ?_|refine bAl ?_ _));refine blk_far ?_ NB694_749.out _;(with_reducible repeat (first|refine bDn ?_ _|refine bDr ?_|refine bAl ?_ _));refine blk_far ?_ NB694_749.out _;(with_reducible repeat (first|refine bDn ?_ _|refine bDr ?_|refine bAl ?_ _));refine blk_far ?_ NB694_749.out _;(with_reducible repeat (first|refine bDn ?_ _|refine bDr ?_|refine bAl ?_ _));refine blk_far ?_ NB694_749.out _;(with_reducible repeat (first|refine bDn ?_ _|refine bDr ?_|refine bAl ?_ _));refine blk_far ?_ NB694_749.out _;(with_reducible repeat (first|refine bDn ?_ _|refine bDr ?_|refine bAl ?_ _));refine blk_far ?_ NB694_749.out _;(with_reducible repeat (first|refine bDn ?_ _|refine bDr ?_|refine bAl ?_ _));refine blk_far ?_ NB694_749.out _;(with_reducible repeat (first|refine bDn ?_ _|refine bDr ?_|refine bAl ?_ _));refine blk_far ?_ NB694_749.out _;(with_reducible repeat (first|refine bDn ?_ _|refine bDr ?_|refine bAl ?_ _));exact BK694.out) hb);have n3_:=aMk (blk_below (g:=gb722) (o:=.cells #[.string t707,.int .i64 t708,.int .i64 t709,.int .i64 t710,.int .i64 t711,.int .i64 t712,.int .i64 t713,.int .i64 t714,.string t715,.string t716,.bool t717] 34 (0,0)) (by (with_reducible repeat (first|refine bDn ?_ _|refine bDr ?_|refine bAl ?_ _));refine blk_far ?_ NB722_749.out _;(with_reducible repeat (first|refine bDn ?_ _|refine bDr ?_|refine bAl ?_ _));refine blk_far ?_ NB722_749.out _;(with_reducible repeat (first|refine bDn ?_ _|refine bDr ?_|refine bAl ?_ _));refine blk_far ?_ NB722_749.out _;(with_reducible repeat (first|refine bDn ?_ _|refine bDr ?_|refine bAl ?_ _));refine blk_far ?_ NB722_749.out _;(with_reducible repeat (first|refine bDn ?_ _|refine bDr ?_|refine bAl ?_ _));refine blk_far ?_ NB722_749.out _;(with_reducible repeat (first|refine bDn ?_ _|refine bDr ?_|refine bAl ?_ _));refine blk_far ?_ NB722_749.out _;(with_reducible repeat (first|refine bDn ?_ _|refine bDr ?_|refine bAl ?_ _));refine blk_far ?_ NB722_749.out _;(with_reducible repeat (first|refine bDn ?_ _|refine bDr ?_|refine bAl ?_ _));refine blk_far ?_ NB722_749.out _;(with_reducible repeat (first|refine bDn ?_ _|refine bDr ?_|refine bAl ?_ _));refine blk_far ?_ NB722_749.out _;(with_reducible repeat (first|refine bDn ?_ _|refine bDr ?_|refine bAl ?_ _));refine blk_far ?_ NB722_749.out _;(with_reducible repeat (first|refine bDn ?_ _|refine bDr ?_|refine bAl ?_ _));refine blk_far ?_ NB722_749.out _;(with_reducible repeat (first|refine bDn ?_ _|refine bDr ?_|refine bAl ?_ _));exact BK722.out) hb);have n4_:=aMk (blk_below (g:=gb749) (o:=.cells #[.string t734,.int .i64 t735,.int .i64 t736,.int .i64 t737,.int .i64 t738,.int .i64 t739,.int .i64 t740,.int .i64 t741,.string t742,.string t743,.bool t744] 34 (0,0)) (by (with_reducible repeat (first|refine bDn ?_ _|refine bDr ?_|refine bAl ?_ _));refine blk_put (cs:=#[.string t734,.int .i64 t735,.int .i64 t736,.int .i64 t737,.int .i64 t738,.int .i64 t739,.int .i64 t740,.int .i64 t741,.string t742,.string t743,.bool false]) ?_ 10 _ rfl;(with_reducible repeat (first|refine bDn ?_ _|refine bDr ?_|refine bAl ?_ _));refine blk_put (cs:=#[.string t734,.int .i64 t735,.int .i64 t736,.int .i64 t737,.int .i64 t738,.int .i64 t739,.int .i64 t740,.int .i64 t741,.string t742,.string (⟨#[]⟩ : ByteArray),.bool false]) ?_ 9 _ rfl;(with_reducible repeat (first|refine bDn ?_ _|refine bDr ?_|refine bAl ?_ _));refine blk_put (cs:=#[.string t734,.int .i64 t735,.int .i64 t736,.int .i64 t737,.int .i64 t738,.int .i64 t739,.int .i64 t740,.int .i64 t741,.string (⟨#[]⟩ : ByteArray),.string (⟨#[]⟩ : ByteArray),.bool false]) ?_ 8 _ rfl;(with_reducible repeat (first|refine bDn ?_ _|refine bDr ?_|refine bAl ?_ _));refine blk_put (cs:=#[.string t734,.int .i64 t735,.int .i64 t736,.int .i64 t737,.int .i64 t738,.int .i64 t739,.int .i64 t740,.int .i64 0,.string (⟨#[]⟩ : ByteArray),.string (⟨#[]⟩ : ByteArray),.bool false]) ?_ 7 _ rfl;(with_reducible repeat (first|refine bDn ?_ _|refine bDr ?_|refine bAl ?_ _));refine blk_put (cs:=#[.string t734,.int .i64 t735,.int .i64 t736,.int .i64 t737,.int .i64 t738,.int .i64 t739,.int .i64 0,.int .i64 0,.string (⟨#[]⟩ : ByteArray),.string (⟨#[]⟩ : ByteArray),.bool false]) ?_ 6 _ rfl;(with_reducible repeat (first|refine bDn ?_ _|refine bDr ?_|refine bAl ?_ _));refine blk_put (cs:=#[.string t734,.int .i64 t735,.int .i64 t736,.int .i64 t737,.int .i64 t738,.int .i64 0,.int .i64 0,.int .i64 0,.string (⟨#[]⟩ : ByteArray),.string (⟨#[]⟩ : ByteArray),.bool false]) ?_ 5 _ rfl;(with_reducible repeat (first|refine bDn ?_ _|refine bDr ?_|refine bAl ?_ _));refine blk_put (cs:=#[.string t734,.int .i64 t735,.int .i64 t736,.int .i64 t737,.int .i64 0,.int .i64 0,.int .i64 0,.int .i64 0,.string (⟨#[]⟩ : ByteArray),.string (⟨#[]⟩ : ByteArray),.bool false]) ?_ 4 _ rfl;(with_reducible repeat (first|refine bDn ?_ _|refine bDr ?_|refine bAl ?_ _));refine blk_put (cs:=#[.string t734,.int .i64 t735,.int .i64 t736,.int .i64 0,.int .i64 0,.int .i64 0,.int .i64 0,.int .i64 0,.string (⟨#[]⟩ : ByteArray),.string (⟨#[]⟩ : ByteArray),.bool false]) ?_ 3 _ rfl;(with_reducible repeat (first|refine bDn ?_ _|refine bDr ?_|refine bAl ?_ _));refine blk_put (cs:=#[.string t734,.int .i64 t735,.int .i64 0,.int .i64 0,.int .i64 0,.int .i64 0,.int .i64 0,.int .i64 0,.string (⟨#[]⟩ : ByteArray),.string (⟨#[]⟩ : ByteArray),.bool false]) ?_ 2 _ rfl;(with_reducible repeat (first|refine bDn ?_ _|refine bDr ?_|refine bAl ?_ _));refine blk_put (cs:=#[.string t734,.int .i64 0,.int .i64 0,.int .i64 0,.int .i64 0,.int .i64 0,.int .i64 0,.int .i64 0,.string (⟨#[]⟩ : ByteArray),.string (⟨#[]⟩ : ByteArray),.bool false]) ?_ 1 _ rfl;(with_reducible repeat (first|refine bDn ?_ _|refine bDr ?_|refine bAl ?_ _));refine blk_put (cs:=#[.string (⟨#[]⟩ : ByteArray),.int .i64 0,.int .i64 0,.int .i64 0,.int .i64 0,.int .i64 0,.int .i64 0,.int .i64 0,.string (⟨#[]⟩ : ByteArray),.string (⟨#[]⟩ : ByteArray),.bool false]) ?_ 0 _ rfl;(with_reducible repeat (first|refine bDn ?_ _|refine bDr ?_|refine bAl ?_ _));exact BK749.out) hb);have n5_:=aMk (below_step (by repeat (first|(with_reducible first|exact HB.out|apply bwA|apply bwN|apply bw1|refine below_set ?_ GE694.out|refine below_set ?_ GE722.out|refine below_set ?_ GE749.out)|exact HB.out)) hb);clear HO720;clear HO747;clear BK694;clear BK722;clear BK749;clear HB;have HO720:=n0_;have HO747:=n1_;have BK694:=n2_;have BK722:=n3_;have BK749:=n4_;have HB:=n5_;clear n0_ n1_ n2_ n3_ n4_ n5_;(try clear hb);(try clear hb2);(try clear hk);(try clear hi);obtain ⟨Ao41,co41,eo41⟩:=Kd.R_slice HO747.out;subst eo41;obtain ⟨Ao42,co42,eo42⟩:=Kd.R_slice HO720.out;subst eo42)|(go_at_call 38;(with_reducible refine (laws_eqSegmentS.calls k _ _ t745 _ _ t718 true _ ?side1 ?side2 ?side3 ?side4 A33.out).mono ?_);(case side1 => repeat (first|exact (Kd.R_reads' HO747.out).2.2|(with_reducible refine Kd.C_alloc ?_ _)|(with_reducible refine Kd.C_drewN ?_ _)|(with_reducible refine Kd.C_drew ?_)));(case side2 => exact (Kd.R_reads' HO747.out).2.1);(case side3 => repeat (first|exact (Kd.R_reads' HO720.out).2.2|(with_reducible refine Kd.C_alloc ?_ _)|(with_reducible refine Kd.C_drewN ?_ _)|(with_reducible refine Kd.C_drew ?_)));(case side4 => exact (Kd.R_reads' HO720.out).2.1);rintro e w43 ⟨rfl,hb⟩;have n0_:=aMk (Kd.R_below (by (with_reducible repeat (first|apply Kd.R_alloc|apply Kd.R_drewN|apply Kd.R_drew));exact HO720.out) hb);have n1_:=aMk (Kd.R_below (by (with_reducible repeat (first|apply Kd.R_alloc|apply Kd.R_drewN|apply Kd.R_drew));exact HO747.out) hb);have n2_:=aMk (blk_below (g:=gb694) (o:=.cells #[.string a0_0,.int .i64 a0_1,.int .i64 a0_2,.int .i64 a0_3,.int .i64 a0_4,.int .i64 a0_5,.int .i64 a0_6,.int .i64 a0_7,.string a0_8,.string a0_9,.bool a0_10] 31 (0,0)) (by (with_reducible repeat (first|refine bDn ?_ _|refine bDr ?_|refine bAl ?_ _));exact BK694.out) hb);have n3_:=aMk (blk_below (g:=gb722) (o:=.cells #[.string t707,.int .i64 t708,.int .i64 t709,.int .i64 t710,.int .i64 t711,.int .i64 t712,.int .i64 t713,.int .i64 t714,.string t715,.string t716,.bool t717] 34 (0,0)) (by (with_reducible repeat (first|refine bDn ?_ _|refine bDr ?_|refine bAl ?_ _));exact BK722.out) hb);have n4_:=aMk (blk_below (g:=gb749) (o:=.cells #[.string t734,.int .i64 t735,.int .i64 t736,.int .i64 t737,.int .i64 t738,.int .i64 t739,.int .i64 t740,.int .i64 t741,.string t742,.string t743,.bool t744] 34 (0,0)) (by (with_reducible repeat (first|refine bDn ?_ _|refine bDr ?_|refine bAl ?_ _));exact BK749.out) hb);have n5_:=aMk (below_step (by repeat (first|(with_reducible first|exact HB.out|apply bwA|apply bwN|apply bw1|refine below_set ?_ GE694.out|refine below_set ?_ GE722.out|refine below_set ?_ GE749.out)|exact HB.out)) hb);clear HO720;clear HO747;clear BK694;clear BK722;clear BK749;clear HB;have HO720:=n0_;have HO747:=n1_;have BK694:=n2_;have BK722:=n3_;have BK749:=n4_;have HB:=n5_;clear n0_ n1_ n2_ n3_ n4_ n5_;(try clear hb);(try clear hb2);(try clear hk);(try clear hi)))
      go_meet
      case rel => exact ⟨_,((t748 != t721)),(by first | rfl|(simp;done)|(simp [*];done)|(simp [ne_nil_b];done)|(simp [ne_nil_b, *];done)),H',⟨by first | omega|exact Nat.le_refl _⟩,⟨by (with_reducible repeat (first|apply Kd.R_alloc|apply Kd.R_drewN|apply Kd.R_drew));exact Kd.R_mono HO720.out (fun _ hk => hk.2)⟩,⟨by (with_reducible repeat (first|apply Kd.R_alloc|apply Kd.R_drewN|apply Kd.R_drew));exact Kd.R_mono HO747.out (fun _ hk => hk.2)⟩,⟨by (with_reducible repeat (first|refine bDn ?_ _|refine bDr ?_|refine bAl ?_ _));exact BK694.out⟩,⟨by (with_reducible repeat (first|refine bDn ?_ _|refine bDr ?_|refine bAl ?_ _));exact BK722.out⟩,⟨by (with_reducible repeat (first|refine bDn ?_ _|refine bDr ?_|refine bAl ?_ _));exact BK749.out⟩,⟨by repeat (first|(with_reducible first|exact HB.out|apply bwA|apply bwN|apply bw1|refine below_set ?_ GE694.out|refine below_set ?_ GE722.out|refine below_set ?_ GE749.out)|exact HB.out)⟩⟩
     ·replace c34:=Bool.eq_false_iff.mpr c34
      subst c34
      have H1 : (laws_FnExactConnSay.j0 k a1 t718 t721 t745 true a0_0 a0_1 a0_2 a0_3 a0_4 a0_5 a0_6 a0_7 a0_8 a0_9 a0_10 t707 t708 t709 t710 t711 t712 t713 t714 t715 t716 t717) = some r:=by rw [if_neg (show ¬ (false = true) by decide)] at H;exact H
      clear H
      have H:=H1
      clear H1
      have H':=aMk H
      clear H
      have hnb44:=NB749_694.out
      have hnc44:=NB694_749.out
      have hnb45:=NB749_722.out
      have hnc45:=NB722_749.out
      have hcz46_0 : w27.cell? ⟨gb749,0,none⟩ = some (.string (⟨#[]⟩ : ByteArray)):=(bCe BK749.out 0).trans rfl
      have hcz46_1 : w27.cell? ⟨gb749,1,none⟩ = some (.int .i64 0):=(bCe BK749.out 1).trans rfl
      have hcz46_2 : w27.cell? ⟨gb749,2,none⟩ = some (.int .i64 0):=(bCe BK749.out 2).trans rfl
      have hcz46_3 : w27.cell? ⟨gb749,3,none⟩ = some (.int .i64 0):=(bCe BK749.out 3).trans rfl
      have hcz46_4 : w27.cell? ⟨gb749,4,none⟩ = some (.int .i64 0):=(bCe BK749.out 4).trans rfl
      have hcz46_5 : w27.cell? ⟨gb749,5,none⟩ = some (.int .i64 0):=(bCe BK749.out 5).trans rfl
      have hcz46_6 : w27.cell? ⟨gb749,6,none⟩ = some (.int .i64 0):=(bCe BK749.out 6).trans rfl
      have hcz46_7 : w27.cell? ⟨gb749,7,none⟩ = some (.int .i64 0):=(bCe BK749.out 7).trans rfl
      have hcz46_8 : w27.cell? ⟨gb749,8,none⟩ = some (.string (⟨#[]⟩ : ByteArray)):=(bCe BK749.out 8).trans rfl
      have hcz46_9 : w27.cell? ⟨gb749,9,none⟩ = some (.string (⟨#[]⟩ : ByteArray)):=(bCe BK749.out 9).trans rfl
      have hcz46_10 : w27.cell? ⟨gb749,10,none⟩ = some (.bool false):=(bCe BK749.out 10).trans rfl
      have hfz46_0:=bFr BK749.out 0
      have hfz46_1:=bFr BK749.out 1
      have hfz46_2:=bFr BK749.out 2
      have hfz46_3:=bFr BK749.out 3
      have hfz46_4:=bFr BK749.out 4
      have hfz46_5:=bFr BK749.out 5
      have hfz46_6:=bFr BK749.out 6
      have hfz46_7:=bFr BK749.out 7
      have hfz46_8:=bFr BK749.out 8
      have hfz46_9:=bFr BK749.out 9
      have hfz46_10:=bFr BK749.out 10
      have hnb47:=NB722_694.out
      have hnc47:=NB694_722.out
      have hcz48_0 : w27.cell? ⟨gb722,0,none⟩ = some (.string t707):=(bCe BK722.out 0).trans rfl
      have hcz48_1 : w27.cell? ⟨gb722,1,none⟩ = some (.int .i64 t708):=(bCe BK722.out 1).trans rfl
      have hcz48_2 : w27.cell? ⟨gb722,2,none⟩ = some (.int .i64 t709):=(bCe BK722.out 2).trans rfl
      have hcz48_3 : w27.cell? ⟨gb722,3,none⟩ = some (.int .i64 t710):=(bCe BK722.out 3).trans rfl
      have hcz48_4 : w27.cell? ⟨gb722,4,none⟩ = some (.int .i64 t711):=(bCe BK722.out 4).trans rfl
      have hcz48_5 : w27.cell? ⟨gb722,5,none⟩ = some (.int .i64 t712):=(bCe BK722.out 5).trans rfl
      have hcz48_6 : w27.cell? ⟨gb722,6,none⟩ = some (.int .i64 t713):=(bCe BK722.out 6).trans rfl
      have hcz48_7 : w27.cell? ⟨gb722,7,none⟩ = some (.int .i64 t714):=(bCe BK722.out 7).trans rfl
      have hcz48_8 : w27.cell? ⟨gb722,8,none⟩ = some (.string t715):=(bCe BK722.out 8).trans rfl
      have hcz48_9 : w27.cell? ⟨gb722,9,none⟩ = some (.string t716):=(bCe BK722.out 9).trans rfl
      have hcz48_10 : w27.cell? ⟨gb722,10,none⟩ = some (.bool t717):=(bCe BK722.out 10).trans rfl
      have hfz48_0:=bFr BK722.out 0
      have hfz48_1:=bFr BK722.out 1
      have hfz48_2:=bFr BK722.out 2
      have hfz48_3:=bFr BK722.out 3
      have hfz48_4:=bFr BK722.out 4
      have hfz48_5:=bFr BK722.out 5
      have hfz48_6:=bFr BK722.out 6
      have hfz48_7:=bFr BK722.out 7
      have hfz48_8:=bFr BK722.out 8
      have hfz48_9:=bFr BK722.out 9
      have hfz48_10:=bFr BK722.out 10
      go_wp2_with (first|((with_reducible refine gate_callee (f:=37) rfl ?_);refine goesL_ (some 43) rfl rfl Try.func37 (by kernel_rfl) rfl #[.agg #[.string t734,.int .i64 t735,.int .i64 t736,.int .i64 t737,.int .i64 t738,.int .i64 t739,.int .i64 t740,.int .i64 t741,.string t742,.string t743,.bool t744],.agg #[.string t707,.int .i64 t708,.int .i64 t709,.int .i64 t710,.int .i64 t711,.int .i64 t712,.int .i64 t713,.int .i64 t714,.string t715,.string t716,.bool t717]] rfl (by (try simp only [List.map_toArray,List.map_cons,List.map_nil]);first | done | rfl|(simp only [List.length_drop,List.length_take];rfl)) ?_;(with_reducible refine (laws_eqConn.calls t734 t735 t736 t737 t738 t739 t740 t741 t742 t743 t744 t707 t708 t709 t710 t711 t712 t713 t714 t715 t716 t717 true _ A31.out).mono ?_);rintro e w49 ⟨rfl,hb⟩;refine ⟨_,rfl,?_⟩;have n0_:=aMk (Kd.R_below (by (with_reducible repeat (first|apply Kd.R_alloc|apply Kd.R_drewN|apply Kd.R_drew));exact (Kd.R_mono (Kd.R_far (p:=⟨gb749,10,none⟩) (Kd.R_far (p:=⟨gb749,9,none⟩) (Kd.R_far (p:=⟨gb749,8,none⟩) (Kd.R_far (p:=⟨gb749,7,none⟩) (Kd.R_far (p:=⟨gb749,6,none⟩) (Kd.R_far (p:=⟨gb749,5,none⟩) (Kd.R_far (p:=⟨gb749,4,none⟩) (Kd.R_far (p:=⟨gb749,3,none⟩) (Kd.R_far (p:=⟨gb749,2,none⟩) (Kd.R_far (p:=⟨gb749,1,none⟩) (Kd.R_far (p:=⟨gb749,0,none⟩) (Kd.R_types HO720.out BK749.out (by decide)) (fun _ hk => hk.2) (.string t734)) (fun _ hk => hk.2) (.int .i64 t735)) (fun _ hk => hk.2) (.int .i64 t736)) (fun _ hk => hk.2) (.int .i64 t737)) (fun _ hk => hk.2) (.int .i64 t738)) (fun _ hk => hk.2) (.int .i64 t739)) (fun _ hk => hk.2) (.int .i64 t740)) (fun _ hk => hk.2) (.int .i64 t741)) (fun _ hk => hk.2) (.string t742)) (fun _ hk => hk.2) (.string t743)) (fun _ hk => hk.2) (.bool t744)) (fun _ h_ => h_.1))) hb);have n1_:=aMk (Kd.R_below (by (with_reducible repeat (first|apply Kd.R_alloc|apply Kd.R_drewN|apply Kd.R_drew));exact (Kd.R_mono (Kd.R_far (p:=⟨gb749,10,none⟩) (Kd.R_far (p:=⟨gb749,9,none⟩) (Kd.R_far (p:=⟨gb749,8,none⟩) (Kd.R_far (p:=⟨gb749,7,none⟩) (Kd.R_far (p:=⟨gb749,6,none⟩) (Kd.R_far (p:=⟨gb749,5,none⟩) (Kd.R_far (p:=⟨gb749,4,none⟩) (Kd.R_far (p:=⟨gb749,3,none⟩) (Kd.R_far (p:=⟨gb749,2,none⟩) (Kd.R_far (p:=⟨gb749,1,none⟩) (Kd.R_far (p:=⟨gb749,0,none⟩) (Kd.R_types HO747.out BK749.out (by decide)) (fun _ hk => hk.2) (.string t734)) (fun _ hk => hk.2) (.int .i64 t735)) (fun _ hk => hk.2) (.int .i64 t736)) (fun _ hk => hk.2) (.int .i64 t737)) (fun _ hk => hk.2) (.int .i64 t738)) (fun _ hk => hk.2) (.int .i64 t739)) (fun _ hk => hk.2) (.int .i64 t740)) (fun _ hk => hk.2) (.int .i64 t741)) (fun _ hk => hk.2) (.string t742)) (fun _ hk => hk.2) (.string t743)) (fun _ hk => hk.2) (.bool t744)) (fun _ h_ => h_.1))) hb);have n2_:=aMk (blk_below (g:=gb694) (o:=.cells #[.string a0_0,.int .i64 a0_1,.int .i64 a0_2,.int .i64 a0_3,.int .i64 a0_4,.int .i64 a0_5,.int .i64 a0_6,.int .i64 a0_7,.string a0_8,.string a0_9,.bool a0_10] 31 (0,0)) (by (with_reducible repeat (first|refine bDn ?_ _|refine bDr ?_|refine bAl ?_ _));refine blk_far ?_ NB694_749.out _;(with_reducible repeat (first|refine bDn ?_ _|refine bDr ?_|refine bAl ?_ _));refine blk_far ?_ NB694_749.out _;(with_reducible repeat (first|refine bDn ?_ _|refine bDr ?_|refine bAl ?_ _));refine blk_far ?_ NB694_749.out _;(with_reducible repeat (first|refine bDn ?_ _|refine bDr ?_|refine bAl ?_ _));refine blk_far ?_ NB694_749.out _;(with_reducible repeat (first|refine bDn ?_ _|refine bDr ?_|refine bAl ?_ _));refine blk_far ?_ NB694_749.out _;(with_reducible repeat (first|refine bDn ?_ _|refine bDr ?_|refine bAl ?_ _));refine blk_far ?_ NB694_749.out _;(with_reducible repeat (first|refine bDn ?_ _|refine bDr ?_|refine bAl ?_ _));refine blk_far ?_ NB694_749.out _;(with_reducible repeat (first|refine bDn ?_ _|refine bDr ?_|refine bAl ?_ _));refine blk_far ?_ NB694_749.out _;(with_reducible repeat (first|refine bDn ?_ _|refine bDr ?_|refine bAl ?_ _));refine blk_far ?_ NB694_749.out _;(with_reducible repeat (first|refine bDn ?_ _|refine bDr ?_|refine bAl ?_ _));refine blk_far ?_ NB694_749.out _;(with_reducible repeat (first|refine bDn ?_ _|refine bDr ?_|refine bAl ?_ _));refine blk_far ?_ NB694_749.out _;(with_reducible repeat (first|refine bDn ?_ _|refine bDr ?_|refine bAl ?_ _));exact BK694.out) hb);have n3_:=aMk (blk_below (g:=gb722) (o:=.cells #[.string t707,.int .i64 t708,.int .i64 t709,.int .i64 t710,.int .i64 t711,.int .i64 t712,.int .i64 t713,.int .i64 t714,.string t715,.string t716,.bool t717] 34 (0,0)) (by (with_reducible repeat (first|refine bDn ?_ _|refine bDr ?_|refine bAl ?_ _));refine blk_far ?_ NB722_749.out _;(with_reducible repeat (first|refine bDn ?_ _|refine bDr ?_|refine bAl ?_ _));refine blk_far ?_ NB722_749.out _;(with_reducible repeat (first|refine bDn ?_ _|refine bDr ?_|refine bAl ?_ _));refine blk_far ?_ NB722_749.out _;(with_reducible repeat (first|refine bDn ?_ _|refine bDr ?_|refine bAl ?_ _));refine blk_far ?_ NB722_749.out _;(with_reducible repeat (first|refine bDn ?_ _|refine bDr ?_|refine bAl ?_ _));refine blk_far ?_ NB722_749.out _;(with_reducible repeat (first|refine bDn ?_ _|refine bDr ?_|refine bAl ?_ _));refine blk_far ?_ NB722_749.out _;(with_reducible repeat (first|refine bDn ?_ _|refine bDr ?_|refine bAl ?_ _));refine blk_far ?_ NB722_749.out _;(with_reducible repeat (first|refine bDn ?_ _|refine bDr ?_|refine bAl ?_ _));refine blk_far ?_ NB722_749.out _;(with_reducible repeat (first|refine bDn ?_ _|refine bDr ?_|refine bAl ?_ _));refine blk_far ?_ NB722_749.out _;(with_reducible repeat (first|refine bDn ?_ _|refine bDr ?_|refine bAl ?_ _));refine blk_far ?_ NB722_749.out _;(with_reducible repeat (first|refine bDn ?_ _|refine bDr ?_|refine bAl ?_ _));refine blk_far ?_ NB722_749.out _;(with_reducible repeat (first|refine bDn ?_ _|refine bDr ?_|refine bAl ?_ _));exact BK722.out) hb);have n4_:=aMk (blk_below (g:=gb749) (o:=.cells #[.string t734,.int .i64 t735,.int .i64 t736,.int .i64 t737,.int .i64 t738,.int .i64 t739,.int .i64 t740,.int .i64 t741,.string t742,.string t743,.bool t744] 34 (0,0)) (by (with_reducible repeat (first|refine bDn ?_ _|refine bDr ?_|refine bAl ?_ _));refine blk_put (cs:=#[.string t734,.int .i64 t735,.int .i64 t736,.int .i64 t737,.int .i64 t738,.int .i64 t739,.int .i64 t740,.int .i64 t741,.string t742,.string t743,.bool false]) ?_ 10 _ rfl;(with_reducible repeat (first|refine bDn ?_ _|refine bDr ?_|refine bAl ?_ _));refine blk_put (cs:=#[.string t734,.int .i64 t735,.int .i64 t736,.int .i64 t737,.int .i64 t738,.int .i64 t739,.int .i64 t740,.int .i64 t741,.string t742,.string (⟨#[]⟩ : ByteArray),.bool false]) ?_ 9 _ rfl;(with_reducible repeat (first|refine bDn ?_ _|refine bDr ?_|refine bAl ?_ _));refine blk_put (cs:=#[.string t734,.int .i64 t735,.int .i64 t736,.int .i64 t737,.int .i64 t738,.int .i64 t739,.int .i64 t740,.int .i64 t741,.string (⟨#[]⟩ : ByteArray),.string (⟨#[]⟩ : ByteArray),.bool false]) ?_ 8 _ rfl;(with_reducible repeat (first|refine bDn ?_ _|refine bDr ?_|refine bAl ?_ _));refine blk_put (cs:=#[.string t734,.int .i64 t735,.int .i64 t736,.int .i64 t737,.int .i64 t738,.int .i64 t739,.int .i64 t740,.int .i64 0,.string (⟨#[]⟩ : ByteArray),.string (⟨#[]⟩ : ByteArray),.bool false]) ?_ 7 _ rfl;(with_reducible repeat (first|refine bDn ?_ _|refine bDr ?_|refine bAl ?_ _));refine blk_put (cs:=#[.string t734,.int .i64 t735,.int .i64 t736,.int .i64 t737,.int .i64 t738,.int .i64 t739,.int .i64 0,.int .i64 0,.string (⟨#[]⟩ : ByteArray),.string (⟨#[]⟩ : ByteArray),.bool false]) ?_ 6 _ rfl;(with_reducible repeat (first|refine bDn ?_ _|refine bDr ?_|refine bAl ?_ _));refine blk_put (cs:=#[.string t734,.int .i64 t735,.int .i64 t736,.int .i64 t737,.int .i64 t738,.int .i64 0,.int .i64 0,.int .i64 0,.string (⟨#[]⟩ : ByteArray),.string (⟨#[]⟩ : ByteArray),.bool false]) ?_ 5 _ rfl;(with_reducible repeat (first|refine bDn ?_ _|refine bDr ?_|refine bAl ?_ _));refine blk_put (cs:=#[.string t734,.int .i64 t735,.int .i64 t736,.int .i64 t737,.int .i64 0,.int .i64 0,.int .i64 0,.int .i64 0,.string (⟨#[]⟩ : ByteArray),.string (⟨#[]⟩ : ByteArray),.bool false]) ?_ 4 _ rfl;(with_reducible repeat (first|refine bDn ?_ _|refine bDr ?_|refine bAl ?_ _));refine blk_put (cs:=#[.string t734,.int .i64 t735,.int .i64 t736,.int .i64 0,.int .i64 0,.int .i64 0,.int .i64 0,.int .i64 0,.string (⟨#[]⟩ : ByteArray),.string (⟨#[]⟩ : ByteArray),.bool false]) ?_ 3 _ rfl;(with_reducible repeat (first|refine bDn ?_ _|refine bDr ?_|refine bAl ?_ _));refine blk_put (cs:=#[.string t734,.int .i64 t735,.int .i64 0,.int .i64 0,.int .i64 0,.int .i64 0,.int .i64 0,.int .i64 0,.string (⟨#[]⟩ : ByteArray),.string (⟨#[]⟩ : ByteArray),.bool false]) ?_ 2 _ rfl;(with_reducible repeat (first|refine bDn ?_ _|refine bDr ?_|refine bAl ?_ _));refine blk_put (cs:=#[.string t734,.int .i64 0,.int .i64 0,.int .i64 0,.int .i64 0,.int .i64 0,.int .i64 0,.int .i64 0,.string (⟨#[]⟩ : ByteArray),.string (⟨#[]⟩ : ByteArray),.bool false]) ?_ 1 _ rfl;(with_reducible repeat (first|refine bDn ?_ _|refine bDr ?_|refine bAl ?_ _));refine blk_put (cs:=#[.string (⟨#[]⟩ : ByteArray),.int .i64 0,.int .i64 0,.int .i64 0,.int .i64 0,.int .i64 0,.int .i64 0,.int .i64 0,.string (⟨#[]⟩ : ByteArray),.string (⟨#[]⟩ : ByteArray),.bool false]) ?_ 0 _ rfl;(with_reducible repeat (first|refine bDn ?_ _|refine bDr ?_|refine bAl ?_ _));exact BK749.out) hb);have n5_:=aMk (below_step (by repeat (first|(with_reducible first|exact HB.out|apply bwA|apply bwN|apply bw1|refine below_set ?_ GE694.out|refine below_set ?_ GE722.out|refine below_set ?_ GE749.out)|exact HB.out)) hb);clear HO720;clear HO747;clear BK694;clear BK722;clear BK749;clear HB;have HO720:=n0_;have HO747:=n1_;have BK694:=n2_;have BK722:=n3_;have BK749:=n4_;have HB:=n5_;clear n0_ n1_ n2_ n3_ n4_ n5_;(try clear hb);(try clear hb2);(try clear hk);(try clear hi);obtain ⟨Ao50,co50,eo50⟩:=Kd.R_slice HO747.out;subst eo50;obtain ⟨Ao51,co51,eo51⟩:=Kd.R_slice HO720.out;subst eo51)|(go_at_call 38;(with_reducible refine (laws_eqSegmentS.calls k _ _ t745 _ _ t718 false _ ?side1 ?side2 ?side3 ?side4 A33.out).mono ?_);(case side1 => repeat (first|exact (Kd.R_reads' HO747.out).2.2|(with_reducible refine Kd.C_alloc ?_ _)|(with_reducible refine Kd.C_drewN ?_ _)|(with_reducible refine Kd.C_drew ?_)));(case side2 => exact (Kd.R_reads' HO747.out).2.1);(case side3 => repeat (first|exact (Kd.R_reads' HO720.out).2.2|(with_reducible refine Kd.C_alloc ?_ _)|(with_reducible refine Kd.C_drewN ?_ _)|(with_reducible refine Kd.C_drew ?_)));(case side4 => exact (Kd.R_reads' HO720.out).2.1);rintro e w52 ⟨rfl,hb⟩;have n0_:=aMk (Kd.R_below (by (with_reducible repeat (first|apply Kd.R_alloc|apply Kd.R_drewN|apply Kd.R_drew));exact HO720.out) hb);have n1_:=aMk (Kd.R_below (by (with_reducible repeat (first|apply Kd.R_alloc|apply Kd.R_drewN|apply Kd.R_drew));exact HO747.out) hb);have n2_:=aMk (blk_below (g:=gb694) (o:=.cells #[.string a0_0,.int .i64 a0_1,.int .i64 a0_2,.int .i64 a0_3,.int .i64 a0_4,.int .i64 a0_5,.int .i64 a0_6,.int .i64 a0_7,.string a0_8,.string a0_9,.bool a0_10] 31 (0,0)) (by (with_reducible repeat (first|refine bDn ?_ _|refine bDr ?_|refine bAl ?_ _));exact BK694.out) hb);have n3_:=aMk (blk_below (g:=gb722) (o:=.cells #[.string t707,.int .i64 t708,.int .i64 t709,.int .i64 t710,.int .i64 t711,.int .i64 t712,.int .i64 t713,.int .i64 t714,.string t715,.string t716,.bool t717] 34 (0,0)) (by (with_reducible repeat (first|refine bDn ?_ _|refine bDr ?_|refine bAl ?_ _));exact BK722.out) hb);have n4_:=aMk (blk_below (g:=gb749) (o:=.cells #[.string t734,.int .i64 t735,.int .i64 t736,.int .i64 t737,.int .i64 t738,.int .i64 t739,.int .i64 t740,.int .i64 t741,.string t742,.string t743,.bool t744] 34 (0,0)) (by (with_reducible repeat (first|refine bDn ?_ _|refine bDr ?_|refine bAl ?_ _));exact BK749.out) hb);have n5_:=aMk (below_step (by repeat (first|(with_reducible first|exact HB.out|apply bwA|apply bwN|apply bw1|refine below_set ?_ GE694.out|refine below_set ?_ GE722.out|refine below_set ?_ GE749.out)|exact HB.out)) hb);clear HO720;clear HO747;clear BK694;clear BK722;clear BK749;clear HB;have HO720:=n0_;have HO747:=n1_;have BK694:=n2_;have BK722:=n3_;have BK749:=n4_;have HB:=n5_;clear n0_ n1_ n2_ n3_ n4_ n5_;(try clear hb);(try clear hb2);(try clear hk);(try clear hi)))
      go_meet
      case rel => exact ⟨_,(true),(by first | rfl|(simp;done)|(simp [*];done)|(simp [ne_nil_b];done)|(simp [ne_nil_b, *];done)),H',⟨by first | omega|exact Nat.le_refl _⟩,⟨by (with_reducible repeat (first|apply Kd.R_alloc|apply Kd.R_drewN|apply Kd.R_drew));exact Kd.R_mono HO720.out (fun _ hk => hk.2)⟩,⟨by (with_reducible repeat (first|apply Kd.R_alloc|apply Kd.R_drewN|apply Kd.R_drew));exact Kd.R_mono HO747.out (fun _ hk => hk.2)⟩,⟨by (with_reducible repeat (first|refine bDn ?_ _|refine bDr ?_|refine bAl ?_ _));exact BK694.out⟩,⟨by (with_reducible repeat (first|refine bDn ?_ _|refine bDr ?_|refine bAl ?_ _));exact BK722.out⟩,⟨by (with_reducible repeat (first|refine bDn ?_ _|refine bDr ?_|refine bAl ?_ _));exact BK749.out⟩,⟨by repeat (first|(with_reducible first|exact HB.out|apply bwA|apply bwN|apply bw1|refine below_set ?_ GE694.out|refine below_set ?_ GE722.out|refine below_set ?_ GE749.out)|exact HB.out)⟩⟩
    ·replace c32:=Bool.eq_false_iff.mpr c32
     subst c32
     have H1 : (laws_FnExactConnSay.j0 k a1 t718 t721 t745 true a0_0 a0_1 a0_2 a0_3 a0_4 a0_5 a0_6 a0_7 a0_8 a0_9 a0_10 t707 t708 t709 t710 t711 t712 t713 t714 t715 t716 t717) = some r:=by rw [if_neg (show ¬ (false = true) by decide)] at H;exact H
     clear H
     have H:=H1
     clear H1
     have H':=aMk H
     clear H
     have hnb53:=NB749_694.out
     have hnc53:=NB694_749.out
     have hnb54:=NB749_722.out
     have hnc54:=NB722_749.out
     have hcz55_0 : w27.cell? ⟨gb749,0,none⟩ = some (.string (⟨#[]⟩ : ByteArray)):=(bCe BK749.out 0).trans rfl
     have hcz55_1 : w27.cell? ⟨gb749,1,none⟩ = some (.int .i64 0):=(bCe BK749.out 1).trans rfl
     have hcz55_2 : w27.cell? ⟨gb749,2,none⟩ = some (.int .i64 0):=(bCe BK749.out 2).trans rfl
     have hcz55_3 : w27.cell? ⟨gb749,3,none⟩ = some (.int .i64 0):=(bCe BK749.out 3).trans rfl
     have hcz55_4 : w27.cell? ⟨gb749,4,none⟩ = some (.int .i64 0):=(bCe BK749.out 4).trans rfl
     have hcz55_5 : w27.cell? ⟨gb749,5,none⟩ = some (.int .i64 0):=(bCe BK749.out 5).trans rfl
     have hcz55_6 : w27.cell? ⟨gb749,6,none⟩ = some (.int .i64 0):=(bCe BK749.out 6).trans rfl
     have hcz55_7 : w27.cell? ⟨gb749,7,none⟩ = some (.int .i64 0):=(bCe BK749.out 7).trans rfl
     have hcz55_8 : w27.cell? ⟨gb749,8,none⟩ = some (.string (⟨#[]⟩ : ByteArray)):=(bCe BK749.out 8).trans rfl
     have hcz55_9 : w27.cell? ⟨gb749,9,none⟩ = some (.string (⟨#[]⟩ : ByteArray)):=(bCe BK749.out 9).trans rfl
     have hcz55_10 : w27.cell? ⟨gb749,10,none⟩ = some (.bool false):=(bCe BK749.out 10).trans rfl
     have hfz55_0:=bFr BK749.out 0
     have hfz55_1:=bFr BK749.out 1
     have hfz55_2:=bFr BK749.out 2
     have hfz55_3:=bFr BK749.out 3
     have hfz55_4:=bFr BK749.out 4
     have hfz55_5:=bFr BK749.out 5
     have hfz55_6:=bFr BK749.out 6
     have hfz55_7:=bFr BK749.out 7
     have hfz55_8:=bFr BK749.out 8
     have hfz55_9:=bFr BK749.out 9
     have hfz55_10:=bFr BK749.out 10
     have hnb56:=NB722_694.out
     have hnc56:=NB694_722.out
     have hcz57_0 : w27.cell? ⟨gb722,0,none⟩ = some (.string t707):=(bCe BK722.out 0).trans rfl
     have hcz57_1 : w27.cell? ⟨gb722,1,none⟩ = some (.int .i64 t708):=(bCe BK722.out 1).trans rfl
     have hcz57_2 : w27.cell? ⟨gb722,2,none⟩ = some (.int .i64 t709):=(bCe BK722.out 2).trans rfl
     have hcz57_3 : w27.cell? ⟨gb722,3,none⟩ = some (.int .i64 t710):=(bCe BK722.out 3).trans rfl
     have hcz57_4 : w27.cell? ⟨gb722,4,none⟩ = some (.int .i64 t711):=(bCe BK722.out 4).trans rfl
     have hcz57_5 : w27.cell? ⟨gb722,5,none⟩ = some (.int .i64 t712):=(bCe BK722.out 5).trans rfl
     have hcz57_6 : w27.cell? ⟨gb722,6,none⟩ = some (.int .i64 t713):=(bCe BK722.out 6).trans rfl
     have hcz57_7 : w27.cell? ⟨gb722,7,none⟩ = some (.int .i64 t714):=(bCe BK722.out 7).trans rfl
     have hcz57_8 : w27.cell? ⟨gb722,8,none⟩ = some (.string t715):=(bCe BK722.out 8).trans rfl
     have hcz57_9 : w27.cell? ⟨gb722,9,none⟩ = some (.string t716):=(bCe BK722.out 9).trans rfl
     have hcz57_10 : w27.cell? ⟨gb722,10,none⟩ = some (.bool t717):=(bCe BK722.out 10).trans rfl
     have hfz57_0:=bFr BK722.out 0
     have hfz57_1:=bFr BK722.out 1
     have hfz57_2:=bFr BK722.out 2
     have hfz57_3:=bFr BK722.out 3
     have hfz57_4:=bFr BK722.out 4
     have hfz57_5:=bFr BK722.out 5
     have hfz57_6:=bFr BK722.out 6
     have hfz57_7:=bFr BK722.out 7
     have hfz57_8:=bFr BK722.out 8
     have hfz57_9:=bFr BK722.out 9
     have hfz57_10:=bFr BK722.out 10
     go_wp2_with (first|((with_reducible refine gate_callee (f:=37) rfl ?_);refine goesL_ (some 43) rfl rfl Try.func37 (by kernel_rfl) rfl #[.agg #[.string t734,.int .i64 t735,.int .i64 t736,.int .i64 t737,.int .i64 t738,.int .i64 t739,.int .i64 t740,.int .i64 t741,.string t742,.string t743,.bool t744],.agg #[.string t707,.int .i64 t708,.int .i64 t709,.int .i64 t710,.int .i64 t711,.int .i64 t712,.int .i64 t713,.int .i64 t714,.string t715,.string t716,.bool t717]] rfl (by (try simp only [List.map_toArray,List.map_cons,List.map_nil]);first | done | rfl|(simp only [List.length_drop,List.length_take];rfl)) ?_;(with_reducible refine (laws_eqConn.calls t734 t735 t736 t737 t738 t739 t740 t741 t742 t743 t744 t707 t708 t709 t710 t711 t712 t713 t714 t715 t716 t717 false _ A31.out).mono ?_);rintro e w58 ⟨rfl,hb⟩;refine ⟨_,rfl,?_⟩;have n0_:=aMk (Kd.R_below (by (with_reducible repeat (first|apply Kd.R_alloc|apply Kd.R_drewN|apply Kd.R_drew));exact (Kd.R_mono (Kd.R_far (p:=⟨gb749,10,none⟩) (Kd.R_far (p:=⟨gb749,9,none⟩) (Kd.R_far (p:=⟨gb749,8,none⟩) (Kd.R_far (p:=⟨gb749,7,none⟩) (Kd.R_far (p:=⟨gb749,6,none⟩) (Kd.R_far (p:=⟨gb749,5,none⟩) (Kd.R_far (p:=⟨gb749,4,none⟩) (Kd.R_far (p:=⟨gb749,3,none⟩) (Kd.R_far (p:=⟨gb749,2,none⟩) (Kd.R_far (p:=⟨gb749,1,none⟩) (Kd.R_far (p:=⟨gb749,0,none⟩) (Kd.R_types HO720.out BK749.out (by decide)) (fun _ hk => hk.2) (.string t734)) (fun _ hk => hk.2) (.int .i64 t735)) (fun _ hk => hk.2) (.int .i64 t736)) (fun _ hk => hk.2) (.int .i64 t737)) (fun _ hk => hk.2) (.int .i64 t738)) (fun _ hk => hk.2) (.int .i64 t739)) (fun _ hk => hk.2) (.int .i64 t740)) (fun _ hk => hk.2) (.int .i64 t741)) (fun _ hk => hk.2) (.string t742)) (fun _ hk => hk.2) (.string t743)) (fun _ hk => hk.2) (.bool t744)) (fun _ h_ => h_.1))) hb);have n1_:=aMk (Kd.R_below (by (with_reducible repeat (first|apply Kd.R_alloc|apply Kd.R_drewN|apply Kd.R_drew));exact (Kd.R_mono (Kd.R_far (p:=⟨gb749,10,none⟩) (Kd.R_far (p:=⟨gb749,9,none⟩) (Kd.R_far (p:=⟨gb749,8,none⟩) (Kd.R_far (p:=⟨gb749,7,none⟩) (Kd.R_far (p:=⟨gb749,6,none⟩) (Kd.R_far (p:=⟨gb749,5,none⟩) (Kd.R_far (p:=⟨gb749,4,none⟩) (Kd.R_far (p:=⟨gb749,3,none⟩) (Kd.R_far (p:=⟨gb749,2,none⟩) (Kd.R_far (p:=⟨gb749,1,none⟩) (Kd.R_far (p:=⟨gb749,0,none⟩) (Kd.R_types HO747.out BK749.out (by decide)) (fun _ hk => hk.2) (.string t734)) (fun _ hk => hk.2) (.int .i64 t735)) (fun _ hk => hk.2) (.int .i64 t736)) (fun _ hk => hk.2) (.int .i64 t737)) (fun _ hk => hk.2) (.int .i64 t738)) (fun _ hk => hk.2) (.int .i64 t739)) (fun _ hk => hk.2) (.int .i64 t740)) (fun _ hk => hk.2) (.int .i64 t741)) (fun _ hk => hk.2) (.string t742)) (fun _ hk => hk.2) (.string t743)) (fun _ hk => hk.2) (.bool t744)) (fun _ h_ => h_.1))) hb);have n2_:=aMk (blk_below (g:=gb694) (o:=.cells #[.string a0_0,.int .i64 a0_1,.int .i64 a0_2,.int .i64 a0_3,.int .i64 a0_4,.int .i64 a0_5,.int .i64 a0_6,.int .i64 a0_7,.string a0_8,.string a0_9,.bool a0_10] 31 (0,0)) (by (with_reducible repeat (first|refine bDn ?_ _|refine bDr ?_|refine bAl ?_ _));refine blk_far ?_ NB694_749.out _;(with_reducible repeat (first|refine bDn ?_ _|refine bDr ?_|refine bAl ?_ _));refine blk_far ?_ NB694_749.out _;(with_reducible repeat (first|refine bDn ?_ _|refine bDr ?_|refine bAl ?_ _));refine blk_far ?_ NB694_749.out _;(with_reducible repeat (first|refine bDn ?_ _|refine bDr ?_|refine bAl ?_ _));refine blk_far ?_ NB694_749.out _;(with_reducible repeat (first|refine bDn ?_ _|refine bDr ?_|refine bAl ?_ _));refine blk_far ?_ NB694_749.out _;(with_reducible repeat (first|refine bDn ?_ _|refine bDr ?_|refine bAl ?_ _));refine blk_far ?_ NB694_749.out _;(with_reducible repeat (first|refine bDn ?_ _|refine bDr ?_|refine bAl ?_ _));refine blk_far ?_ NB694_749.out _;(with_reducible repeat (first|refine bDn ?_ _|refine bDr ?_|refine bAl ?_ _));refine blk_far ?_ NB694_749.out _;(with_reducible repeat (first|refine bDn ?_ _|refine bDr ?_|refine bAl ?_ _));refine blk_far ?_ NB694_749.out _;(with_reducible repeat (first|refine bDn ?_ _|refine bDr ?_|refine bAl ?_ _));refine blk_far ?_ NB694_749.out _;(with_reducible repeat (first|refine bDn ?_ _|refine bDr ?_|refine bAl ?_ _));refine blk_far ?_ NB694_749.out _;(with_reducible repeat (first|refine bDn ?_ _|refine bDr ?_|refine bAl ?_ _));exact BK694.out) hb);have n3_:=aMk (blk_below (g:=gb722) (o:=.cells #[.string t707,.int .i64 t708,.int .i64 t709,.int .i64 t710,.int .i64 t711,.int .i64 t712,.int .i64 t713,.int .i64 t714,.string t715,.string t716,.bool t717] 34 (0,0)) (by (with_reducible repeat (first|refine bDn ?_ _|refine bDr ?_|refine bAl ?_ _));refine blk_far ?_ NB722_749.out _;(with_reducible repeat (first|refine bDn ?_ _|refine bDr ?_|refine bAl ?_ _));refine blk_far ?_ NB722_749.out _;(with_reducible repeat (first|refine bDn ?_ _|refine bDr ?_|refine bAl ?_ _));refine blk_far ?_ NB722_749.out _;(with_reducible repeat (first|refine bDn ?_ _|refine bDr ?_|refine bAl ?_ _));refine blk_far ?_ NB722_749.out _;(with_reducible repeat (first|refine bDn ?_ _|refine bDr ?_|refine bAl ?_ _));refine blk_far ?_ NB722_749.out _;(with_reducible repeat (first|refine bDn ?_ _|refine bDr ?_|refine bAl ?_ _));refine blk_far ?_ NB722_749.out _;(with_reducible repeat (first|refine bDn ?_ _|refine bDr ?_|refine bAl ?_ _));refine blk_far ?_ NB722_749.out _;(with_reducible repeat (first|refine bDn ?_ _|refine bDr ?_|refine bAl ?_ _));refine blk_far ?_ NB722_749.out _;(with_reducible repeat (first|refine bDn ?_ _|refine bDr ?_|refine bAl ?_ _));refine blk_far ?_ NB722_749.out _;(with_reducible repeat (first|refine bDn ?_ _|refine bDr ?_|refine bAl ?_ _));refine blk_far ?_ NB722_749.out _;(with_reducible repeat (first|refine bDn ?_ _|refine bDr ?_|refine bAl ?_ _));refine blk_far ?_ NB722_749.out _;(with_reducible repeat (first|refine bDn ?_ _|refine bDr ?_|refine bAl ?_ _));exact BK722.out) hb);have n4_:=aMk (blk_below (g:=gb749) (o:=.cells #[.string t734,.int .i64 t735,.int .i64 t736,.int .i64 t737,.int .i64 t738,.int .i64 t739,.int .i64 t740,.int .i64 t741,.string t742,.string t743,.bool t744] 34 (0,0)) (by (with_reducible repeat (first|refine bDn ?_ _|refine bDr ?_|refine bAl ?_ _));refine blk_put (cs:=#[.string t734,.int .i64 t735,.int .i64 t736,.int .i64 t737,.int .i64 t738,.int .i64 t739,.int .i64 t740,.int .i64 t741,.string t742,.string t743,.bool false]) ?_ 10 _ rfl;(with_reducible repeat (first|refine bDn ?_ _|refine bDr ?_|refine bAl ?_ _));refine blk_put (cs:=#[.string t734,.int .i64 t735,.int .i64 t736,.int .i64 t737,.int .i64 t738,.int .i64 t739,.int .i64 t740,.int .i64 t741,.string t742,.string (⟨#[]⟩ : ByteArray),.bool false]) ?_ 9 _ rfl;(with_reducible repeat (first|refine bDn ?_ _|refine bDr ?_|refine bAl ?_ _));refine blk_put (cs:=#[.string t734,.int .i64 t735,.int .i64 t736,.int .i64 t737,.int .i64 t738,.int .i64 t739,.int .i64 t740,.int .i64 t741,.string (⟨#[]⟩ : ByteArray),.string (⟨#[]⟩ : ByteArray),.bool false]) ?_ 8 _ rfl;(with_reducible repeat (first|refine bDn ?_ _|refine bDr ?_|refine bAl ?_ _));refine blk_put (cs:=#[.string t734,.int .i64 t735,.int .i64 t736,.int .i64 t737,.int .i64 t738,.int .i64 t739,.int .i64 t740,.int .i64 0,.string (⟨#[]⟩ : ByteArray),.string (⟨#[]⟩ : ByteArray),.bool false]) ?_ 7 _ rfl;(with_reducible repeat (first|refine bDn ?_ _|refine bDr ?_|refine bAl ?_ _));refine blk_put (cs:=#[.string t734,.int .i64 t735,.int .i64 t736,.int .i64 t737,.int .i64 t738,.int .i64 t739,.int .i64 0,.int .i64 0,.string (⟨#[]⟩ : ByteArray),.string (⟨#[]⟩ : ByteArray),.bool false]) ?_ 6 _ rfl;(with_reducible repeat (first|refine bDn ?_ _|refine bDr ?_|refine bAl ?_ _));refine blk_put (cs:=#[.string t734,.int .i64 t735,.int .i64 t736,.int .i64 t737,.int .i64 t738,.int .i64 0,.int .i64 0,.int .i64 0,.string (⟨#[]⟩ : ByteArray),.string (⟨#[]⟩ : ByteArray),.bool false]) ?_ 5 _ rfl;(with_reducible repeat (first|refine bDn ?_ _|refine bDr ?_|refine bAl ?_ _));refine blk_put (cs:=#[.string t734,.int .i64 t735,.int .i64 t736,.int .i64 t737,.int .i64 0,.int .i64 0,.int .i64 0,.int .i64 0,.string (⟨#[]⟩ : ByteArray),.string (⟨#[]⟩ : ByteArray),.bool false]) ?_ 4 _ rfl;(with_reducible repeat (first|refine bDn ?_ _|refine bDr ?_|refine bAl ?_ _));refine blk_put (cs:=#[.string t734,.int .i64 t735,.int .i64 t736,.int .i64 0,.int .i64 0,.int .i64 0,.int .i64 0,.int .i64 0,.string (⟨#[]⟩ : ByteArray),.string (⟨#[]⟩ : ByteArray),.bool false]) ?_ 3 _ rfl;(with_reducible repeat (first|refine bDn ?_ _|refine bDr ?_|refine bAl ?_ _));refine blk_put (cs:=#[.string t734,.int .i64 t735,.int .i64 0,.int .i64 0,.int .i64 0,.int .i64 0,.int .i64 0,.int .i64 0,.string (⟨#[]⟩ : ByteArray),.string (⟨#[]⟩ : ByteArray),.bool false]) ?_ 2 _ rfl;(with_reducible repeat (first|refine bDn ?_ _|refine bDr ?_|refine bAl ?_ _));refine blk_put (cs:=#[.string t734,.int .i64 0,.int .i64 0,.int .i64 0,.int .i64 0,.int .i64 0,.int .i64 0,.int .i64 0,.string (⟨#[]⟩ : ByteArray),.string (⟨#[]⟩ : ByteArray),.bool false]) ?_ 1 _ rfl;(with_reducible repeat (first|refine bDn ?_ _|refine bDr ?_|refine bAl ?_ _));refine blk_put (cs:=#[.string (⟨#[]⟩ : ByteArray),.int .i64 0,.int .i64 0,.int .i64 0,.int .i64 0,.int .i64 0,.int .i64 0,.int .i64 0,.string (⟨#[]⟩ : ByteArray),.string (⟨#[]⟩ : ByteArray),.bool false]) ?_ 0 _ rfl;(with_reducible repeat (first|refine bDn ?_ _|refine bDr ?_|refine bAl ?_ _));exact BK749.out) hb);have n5_:=aMk (below_step (by repeat (first|(with_reducible first|exact HB.out|apply bwA|apply bwN|apply bw1|refine below_set ?_ GE694.out|refine below_set ?_ GE722.out|refine below_set ?_ GE749.out)|exact HB.out)) hb);clear HO720;clear HO747;clear BK694;clear BK722;clear BK749;clear HB;have HO720:=n0_;have HO747:=n1_;have BK694:=n2_;have BK722:=n3_;have BK749:=n4_;have HB:=n5_;clear n0_ n1_ n2_ n3_ n4_ n5_;(try clear hb);(try clear hb2);(try clear hk);(try clear hi)))
     go_meet
     case rel => exact ⟨_,(true),(by first | rfl|(simp;done)|(simp [*];done)|(simp [ne_nil_b];done)|(simp [ne_nil_b, *];done)),H',⟨by first | omega|exact Nat.le_refl _⟩,⟨by (with_reducible repeat (first|apply Kd.R_alloc|apply Kd.R_drewN|apply Kd.R_drew));exact Kd.R_mono HO720.out (fun _ hk => hk.2)⟩,⟨by (with_reducible repeat (first|apply Kd.R_alloc|apply Kd.R_drewN|apply Kd.R_drew));exact Kd.R_mono HO747.out (fun _ hk => hk.2)⟩,⟨by (with_reducible repeat (first|refine bDn ?_ _|refine bDr ?_|refine bAl ?_ _));exact BK694.out⟩,⟨by (with_reducible repeat (first|refine bDn ?_ _|refine bDr ?_|refine bAl ?_ _));exact BK722.out⟩,⟨by (with_reducible repeat (first|refine bDn ?_ _|refine bDr ?_|refine bAl ?_ _));exact BK749.out⟩,⟨by repeat (first|(with_reducible first|exact HB.out|apply bwA|apply bwN|apply bw1|refine below_set ?_ GE694.out|refine below_set ?_ GE722.out|refine below_set ?_ GE749.out)|exact HB.out)⟩⟩
   case rest =>
    clear HC14
    try clear c1
    try clear c2
    try clear p2
    try clear c3
    try clear c3b0
    try clear c3b1
    try clear c4
    try clear c5
    try clear c6
    try clear c6b0
    try clear c11
    try clear c22
    try clear c24
    try clear c28
    try clear c29
    try clear c32
    try clear c34
    try clear c35
    try clear c36
    try clear c37
    try clear c38
    try clear c43
    try clear c44
    try clear c45
    try clear c47
    try clear c53
    try clear c54
    try clear c56
    try clear hcz16_0
    try clear hcz16_1
    try clear hcz16_10
    try clear hcz16_2
    try clear hcz16_3
    try clear hcz16_4
    try clear hcz16_5
    try clear hcz16_6
    try clear hcz16_7
    try clear hcz16_8
    try clear hcz16_9
    try clear hcz18_0
    try clear hcz18_1
    try clear hcz18_10
    try clear hcz18_2
    try clear hcz18_3
    try clear hcz18_4
    try clear hcz18_5
    try clear hcz18_6
    try clear hcz18_7
    try clear hcz18_8
    try clear hcz18_9
    try clear hcz23_0
    try clear hcz23_1
    try clear hcz23_10
    try clear hcz23_2
    try clear hcz23_3
    try clear hcz23_4
    try clear hcz23_5
    try clear hcz23_6
    try clear hcz23_7
    try clear hcz23_8
    try clear hcz23_9
    try clear hcz24_0
    try clear hcz24_1
    try clear hcz24_10
    try clear hcz24_2
    try clear hcz24_3
    try clear hcz24_4
    try clear hcz24_5
    try clear hcz24_6
    try clear hcz24_7
    try clear hcz24_8
    try clear hcz24_9
    try clear hcz30_0
    try clear hcz30_1
    try clear hcz30_10
    try clear hcz30_2
    try clear hcz30_3
    try clear hcz30_4
    try clear hcz30_5
    try clear hcz30_6
    try clear hcz30_7
    try clear hcz30_8
    try clear hcz30_9
    try clear hcz37_0
    try clear hcz37_1
    try clear hcz37_10
    try clear hcz37_2
    try clear hcz37_3
    try clear hcz37_4
    try clear hcz37_5
    try clear hcz37_6
    try clear hcz37_7
    try clear hcz37_8
    try clear hcz37_9
    try clear hcz39_0
    try clear hcz39_1
    try clear hcz39_10
    try clear hcz39_2
    try clear hcz39_3
    try clear hcz39_4
    try clear hcz39_5
    try clear hcz39_6
    try clear hcz39_7
    try clear hcz39_8
    try clear hcz39_9
    try clear hcz46_0
    try clear hcz46_1
    try clear hcz46_10
    try clear hcz46_2
    try clear hcz46_3
    try clear hcz46_4
    try clear hcz46_5
    try clear hcz46_6
    try clear hcz46_7
    try clear hcz46_8
    try clear hcz46_9
    try clear hcz48_0
    try clear hcz48_1
    try clear hcz48_10
    try clear hcz48_2
    try clear hcz48_3
    try clear hcz48_4
    try clear hcz48_5
    try clear hcz48_6
    try clear hcz48_7
    try clear hcz48_8
    try clear hcz48_9
    try clear hcz55_0
    try clear hcz55_1
    try clear hcz55_10
    try clear hcz55_2
    try clear hcz55_3
    try clear hcz55_4
    try clear hcz55_5
    try clear hcz55_6
    try clear hcz55_7
    try clear hcz55_8
    try clear hcz55_9
    try clear hcz57_0
    try clear hcz57_1
    try clear hcz57_10
    try clear hcz57_2
    try clear hcz57_3
    try clear hcz57_4
    try clear hcz57_5
    try clear hcz57_6
    try clear hcz57_7
    try clear hcz57_8
    try clear hcz57_9
    try clear hcz8_0
    try clear hcz8_1
    try clear hcz8_10
    try clear hcz8_2
    try clear hcz8_3
    try clear hcz8_4
    try clear hcz8_5
    try clear hcz8_6
    try clear hcz8_7
    try clear hcz8_8
    try clear hcz8_9
    try clear hfz16_0
    try clear hfz16_1
    try clear hfz16_10
    try clear hfz16_2
    try clear hfz16_3
    try clear hfz16_4
    try clear hfz16_5
    try clear hfz16_6
    try clear hfz16_7
    try clear hfz16_8
    try clear hfz16_9
    try clear hfz18_0
    try clear hfz18_1
    try clear hfz18_10
    try clear hfz18_2
    try clear hfz18_3
    try clear hfz18_4
    try clear hfz18_5
    try clear hfz18_6
    try clear hfz18_7
    try clear hfz18_8
    try clear hfz18_9
    try clear hfz23_0
    try clear hfz23_1
    try clear hfz23_10
    try clear hfz23_2
    try clear hfz23_3
    try clear hfz23_4
    try clear hfz23_5
    try clear hfz23_6
    try clear hfz23_7
    try clear hfz23_8
    try clear hfz23_9
    try clear hfz24_0
    try clear hfz24_1
    try clear hfz24_10
    try clear hfz24_2
    try clear hfz24_3
    try clear hfz24_4
    try clear hfz24_5
    try clear hfz24_6
    try clear hfz24_7
    try clear hfz24_8
    try clear hfz24_9
    try clear hfz30_0
    try clear hfz30_1
    try clear hfz30_10
    try clear hfz30_2
    try clear hfz30_3
    try clear hfz30_4
    try clear hfz30_5
    try clear hfz30_6
    try clear hfz30_7
    try clear hfz30_8
    try clear hfz30_9
    try clear hfz37_0
    try clear hfz37_1
    try clear hfz37_10
    try clear hfz37_2
    try clear hfz37_3
    try clear hfz37_4
    try clear hfz37_5
    try clear hfz37_6
    try clear hfz37_7
    try clear hfz37_8
    try clear hfz37_9
    try clear hfz39_0
    try clear hfz39_1
    try clear hfz39_10
    try clear hfz39_2
    try clear hfz39_3
    try clear hfz39_4
    try clear hfz39_5
    try clear hfz39_6
    try clear hfz39_7
    try clear hfz39_8
    try clear hfz39_9
    try clear hfz46_0
    try clear hfz46_1
    try clear hfz46_10
    try clear hfz46_2
    try clear hfz46_3
    try clear hfz46_4
    try clear hfz46_5
    try clear hfz46_6
    try clear hfz46_7
    try clear hfz46_8
    try clear hfz46_9
    try clear hfz48_0
    try clear hfz48_1
    try clear hfz48_10
    try clear hfz48_2
    try clear hfz48_3
    try clear hfz48_4
    try clear hfz48_5
    try clear hfz48_6
    try clear hfz48_7
    try clear hfz48_8
    try clear hfz48_9
    try clear hfz55_0
    try clear hfz55_1
    try clear hfz55_10
    try clear hfz55_2
    try clear hfz55_3
    try clear hfz55_4
    try clear hfz55_5
    try clear hfz55_6
    try clear hfz55_7
    try clear hfz55_8
    try clear hfz55_9
    try clear hfz57_0
    try clear hfz57_1
    try clear hfz57_10
    try clear hfz57_2
    try clear hfz57_3
    try clear hfz57_4
    try clear hfz57_5
    try clear hfz57_6
    try clear hfz57_7
    try clear hfz57_8
    try clear hfz57_9
    try clear hfz8_0
    try clear hfz8_1
    try clear hfz8_10
    try clear hfz8_2
    try clear hfz8_3
    try clear hfz8_4
    try clear hfz8_5
    try clear hfz8_6
    try clear hfz8_7
    try clear hfz8_8
    try clear hfz8_9
    obtain ⟨kq,x55_13,rfl,HA,HJ13,HO_7,HO_10,BK694,BK722,BK749,HB⟩:=hcut
    cases kq with
    | zero => exact absurd HA.out (by simp [laws_FnExactConnSay.j0])
    | succ kj13 =>
     have H:=HA.out
     clear HA
     simp only [laws_FnExactConnSay.j0] at H
     by_cases c59 : x55_13 = true
     ·subst c59
      have H1 : (some false) = some r:=by rw [if_pos rfl] at H;exact H
      clear H
      have H:=H1
      clear H1
      obtain rfl:=Option.some.inj H
      go_wp2
      go_ret
      exact ⟨by first | rfl|(simp [errW_none,errW_some] <;> rfl)|(simp [*,errW_none,errW_some] <;> rfl),by repeat (first|(with_reducible first|exact HB.out|apply bwA|apply bwN|apply bw1|refine below_set ?_ GE694.out|refine below_set ?_ GE722.out|refine below_set ?_ GE749.out)|exact HB.out)⟩
     ·replace c59:=Bool.eq_false_iff.mpr c59
      subst c59
      have H1 : ((laws_markSegmentS.f kj13 t745 1).bind fun bt752 => ((laws_heldSegmentS.f kj13 bt752.2 1).bind fun t754 => (if t754 < 0 then (some false) else (if t754 = bt752.1 then ((laws_toConn.f a0_0 a0_1 a0_2 a0_3 a0_4 a0_5 a0_6 a0_7 a0_8 a0_9 a0_10).bind fun bt755 => ((impl_ConnSay.f kj13 bt755.1 bt755.2.1 bt755.2.2.1 bt755.2.2.2.1 bt755.2.2.2.2.1 bt755.2.2.2.2.2.1 bt755.2.2.2.2.2.2.1 bt755.2.2.2.2.2.2.2.1 bt755.2.2.2.2.2.2.2.2.1 bt755.2.2.2.2.2.2.2.2.2.1 bt755.2.2.2.2.2.2.2.2.2.2 a1).bind fun bt766 => ((laws_eqConn.f bt766.1 bt766.2.1 bt766.2.2.1 bt766.2.2.2.1 bt766.2.2.2.2.1 bt766.2.2.2.2.2.1 bt766.2.2.2.2.2.2.1 bt766.2.2.2.2.2.2.2.1 bt766.2.2.2.2.2.2.2.2.1 bt766.2.2.2.2.2.2.2.2.2.1 bt766.2.2.2.2.2.2.2.2.2.2.1 t707 t708 t709 t710 t711 t712 t713 t714 t715 t716 t717).bind fun t782 => (if t782 = true then ((laws_eqSegmentS.f kj13 bt766.2.2.2.2.2.2.2.2.2.2.2.1 t718).bind fun t783 => (if t783 = true then (laws_FnExactConnSay.j1 kj13 bt752.2 bt752.1 (bt766.2.2.2.2.2.2.2.2.2.2.2.2 != t721)) else (laws_FnExactConnSay.j1 kj13 bt752.2 bt752.1 true))) else (laws_FnExactConnSay.j1 kj13 bt752.2 bt752.1 true))))) else (some false))))) = some r:=by rw [if_neg (show ¬ (false = true) by decide)] at H;exact H
      clear H
      have H:=H1
      clear H1
      replace H:=Option.bind_eq_some_iff.mp H
      obtain ⟨⟨t752,t753⟩,A600,H⟩:=H
      replace H : ((laws_heldSegmentS.f kj13 t753 1).bind fun t754 => (if t754 < 0 then (some false) else (if t754 = t752 then ((laws_toConn.f a0_0 a0_1 a0_2 a0_3 a0_4 a0_5 a0_6 a0_7 a0_8 a0_9 a0_10).bind fun bt755 => ((impl_ConnSay.f kj13 bt755.1 bt755.2.1 bt755.2.2.1 bt755.2.2.2.1 bt755.2.2.2.2.1 bt755.2.2.2.2.2.1 bt755.2.2.2.2.2.2.1 bt755.2.2.2.2.2.2.2.1 bt755.2.2.2.2.2.2.2.2.1 bt755.2.2.2.2.2.2.2.2.2.1 bt755.2.2.2.2.2.2.2.2.2.2 a1).bind fun bt766 => ((laws_eqConn.f bt766.1 bt766.2.1 bt766.2.2.1 bt766.2.2.2.1 bt766.2.2.2.2.1 bt766.2.2.2.2.2.1 bt766.2.2.2.2.2.2.1 bt766.2.2.2.2.2.2.2.1 bt766.2.2.2.2.2.2.2.2.1 bt766.2.2.2.2.2.2.2.2.2.1 bt766.2.2.2.2.2.2.2.2.2.2.1 t707 t708 t709 t710 t711 t712 t713 t714 t715 t716 t717).bind fun t782 => (if t782 = true then ((laws_eqSegmentS.f kj13 bt766.2.2.2.2.2.2.2.2.2.2.2.1 t718).bind fun t783 => (if t783 = true then (laws_FnExactConnSay.j1 kj13 t753 t752 (bt766.2.2.2.2.2.2.2.2.2.2.2.2 != t721)) else (laws_FnExactConnSay.j1 kj13 t753 t752 true))) else (laws_FnExactConnSay.j1 kj13 t753 t752 true))))) else (some false)))) = some r:=H
      have A60:=aMk A600
      clear A600
      replace H:=Option.bind_eq_some_iff.mp H
      obtain ⟨t754,A610,H⟩:=H
      replace H : (if t754 < 0 then (some false) else (if t754 = t752 then ((laws_toConn.f a0_0 a0_1 a0_2 a0_3 a0_4 a0_5 a0_6 a0_7 a0_8 a0_9 a0_10).bind fun bt755 => ((impl_ConnSay.f kj13 bt755.1 bt755.2.1 bt755.2.2.1 bt755.2.2.2.1 bt755.2.2.2.2.1 bt755.2.2.2.2.2.1 bt755.2.2.2.2.2.2.1 bt755.2.2.2.2.2.2.2.1 bt755.2.2.2.2.2.2.2.2.1 bt755.2.2.2.2.2.2.2.2.2.1 bt755.2.2.2.2.2.2.2.2.2.2 a1).bind fun bt766 => ((laws_eqConn.f bt766.1 bt766.2.1 bt766.2.2.1 bt766.2.2.2.1 bt766.2.2.2.2.1 bt766.2.2.2.2.2.1 bt766.2.2.2.2.2.2.1 bt766.2.2.2.2.2.2.2.1 bt766.2.2.2.2.2.2.2.2.1 bt766.2.2.2.2.2.2.2.2.2.1 bt766.2.2.2.2.2.2.2.2.2.2.1 t707 t708 t709 t710 t711 t712 t713 t714 t715 t716 t717).bind fun t782 => (if t782 = true then ((laws_eqSegmentS.f kj13 bt766.2.2.2.2.2.2.2.2.2.2.2.1 t718).bind fun t783 => (if t783 = true then (laws_FnExactConnSay.j1 kj13 t753 t752 (bt766.2.2.2.2.2.2.2.2.2.2.2.2 != t721)) else (laws_FnExactConnSay.j1 kj13 t753 t752 true))) else (laws_FnExactConnSay.j1 kj13 t753 t752 true))))) else (some false))) = some r:=H
      have A61:=aMk A610
      clear A610
      by_cases c62 : t754 < 0
      ·rw [if_pos c62] at H
       have c62b0 : decide (t754 < 0) = true:=decide_eq_true c62
       clear c62
       obtain rfl:=Option.some.inj H
       obtain ⟨Ao63,co63,eo63⟩:=Kd.R_slice HO_10.out
       subst eo63
       go_wp2_with (first|((with_reducible refine gate_callee (f:=39) rfl ?_);refine goesL_ (some 58) rfl rfl Try.func39 (by kernel_rfl) rfl #[.slice Ao63 t745.length co63,.int .i64 1] rfl (by (try simp only [List.map_toArray,List.map_cons,List.map_nil]);first | done | rfl|(simp only [List.length_drop,List.length_take];rfl)) ?_;(with_reducible refine (laws_markSegmentS.calls kj13 (fun k_ => some k_ = (.slice Ao63 t745.length co63 : Value).ownBlock) (.slice Ao63 t745.length co63) t745 1 t752 t753 w _ ?side1 ?side2 A60.out).mono ?_);(case side1 => repeat (first|(with_reducible first|exact HB.out|apply bwA|apply bwN|apply bw1|refine below_set ?_ GE694.out|refine below_set ?_ GE722.out|refine below_set ?_ GE749.out)|exact HB.out));(case side2 => exact Kd.R_tight rfl HO_10.out);rintro e w64 ⟨rfl,hy0,hb,hkp⟩;refine ⟨_,rfl,?_⟩;have n0_:=aMk (Kd.R_mono (ok':=fun k_ => some k_ ≠ (.slice Ao63 t745.length co63 : Value).ownBlock) (Kd.R_keptB (HO_7.out) hkp (fun k_ hk_ hs_ => (hk_) hs_)) (fun k_ hk_ => hk_.1));have n1_:=aMk (Kd.R_reok rfl hy0 (fun k_ e_ => HO_10.out.1 k_ e_));have n2_:=aMk (blk_kept (by (with_reducible repeat (first|refine bDn ?_ _|refine bDr ?_|refine bAl ?_ _));exact BK694.out) hkp (fun hs_ => (fun e_ => (Kd.R_ne HO_10.out BK694.out (by decide)) e_) hs_));have n3_:=aMk (blk_kept (by (with_reducible repeat (first|refine bDn ?_ _|refine bDr ?_|refine bAl ?_ _));exact BK722.out) hkp (fun hs_ => (fun e_ => (Kd.R_ne HO_10.out BK722.out (by decide)) e_) hs_));have n4_:=aMk (blk_kept (by (with_reducible repeat (first|refine bDn ?_ _|refine bDr ?_|refine bAl ?_ _));exact BK749.out) hkp (fun hs_ => (fun e_ => (Kd.R_ne HO_10.out BK749.out (by decide)) e_) hs_));have n5_:=aMk (hb);clear HO_7;clear HO_10;clear BK694;clear BK722;clear BK749;clear HB;have HO_7:=n0_;have HO_10:=n1_;have BK694:=n2_;have BK722:=n3_;have BK749:=n4_;have HB:=n5_;clear n0_ n1_ n2_ n3_ n4_ n5_;(try clear hb);(try clear hkp);(try clear hy0))|((with_reducible refine gate_callee (f:=40) rfl ?_);refine goesL_ (some 61) rfl rfl Try.func40 (by kernel_rfl) rfl #[.slice Ao63 t753.length co63,.int .i64 1] rfl (by (try simp only [List.map_toArray,List.map_cons,List.map_nil]);first | done|(rw [show t753.length = t745.length from (Kd.R_reads' HO_10.out).1.symm] <;> rfl) | rfl|(simp only [List.length_drop,List.length_take];rfl)) ?_;(with_reducible refine (laws_heldSegmentS.calls kj13 _ _ t753 1 t754 _ ?side1 ?side2 A61.out).mono ?_);(case side1 => repeat (first|exact (Kd.R_reads' HO_10.out).2.2|(with_reducible refine Kd.C_alloc ?_ _)|(with_reducible refine Kd.C_drewN ?_ _)|(with_reducible refine Kd.C_drew ?_)));(case side2 => rw [show t753.length = t745.length from (Kd.R_reads' HO_10.out).1.symm];exact (Kd.R_reads' HO_10.out).2.1);rintro e w65 ⟨rfl,hb⟩;refine ⟨_,rfl,?_⟩;have n0_:=aMk (Kd.R_below (by (with_reducible repeat (first|apply Kd.R_alloc|apply Kd.R_drewN|apply Kd.R_drew));exact HO_7.out) hb);have n1_:=aMk (Kd.R_below (by (with_reducible repeat (first|apply Kd.R_alloc|apply Kd.R_drewN|apply Kd.R_drew));exact HO_10.out) hb);have n2_:=aMk (blk_below (g:=gb694) (o:=.cells #[.string a0_0,.int .i64 a0_1,.int .i64 a0_2,.int .i64 a0_3,.int .i64 a0_4,.int .i64 a0_5,.int .i64 a0_6,.int .i64 a0_7,.string a0_8,.string a0_9,.bool a0_10] 31 (0,0)) (by (with_reducible repeat (first|refine bDn ?_ _|refine bDr ?_|refine bAl ?_ _));exact BK694.out) hb);have n3_:=aMk (blk_below (g:=gb722) (o:=.cells #[.string t707,.int .i64 t708,.int .i64 t709,.int .i64 t710,.int .i64 t711,.int .i64 t712,.int .i64 t713,.int .i64 t714,.string t715,.string t716,.bool t717] 34 (0,0)) (by (with_reducible repeat (first|refine bDn ?_ _|refine bDr ?_|refine bAl ?_ _));exact BK722.out) hb);have n4_:=aMk (blk_below (g:=gb749) (o:=.cells #[.string t734,.int .i64 t735,.int .i64 t736,.int .i64 t737,.int .i64 t738,.int .i64 t739,.int .i64 t740,.int .i64 t741,.string t742,.string t743,.bool t744] 34 (0,0)) (by (with_reducible repeat (first|refine bDn ?_ _|refine bDr ?_|refine bAl ?_ _));exact BK749.out) hb);have n5_:=aMk (below_step (by repeat (first|(with_reducible first|exact HB.out|apply bwA|apply bwN|apply bw1|refine below_set ?_ GE694.out|refine below_set ?_ GE722.out|refine below_set ?_ GE749.out)|exact HB.out)) hb);clear HO_7;clear HO_10;clear BK694;clear BK722;clear BK749;clear HB;have HO_7:=n0_;have HO_10:=n1_;have BK694:=n2_;have BK722:=n3_;have BK749:=n4_;have HB:=n5_;clear n0_ n1_ n2_ n3_ n4_ n5_;(try clear hb);(try clear hb2);(try clear hk);(try clear hi)))
       go_ret
       exact ⟨by first | rfl|(simp [errW_none,errW_some] <;> rfl)|(simp [*,errW_none,errW_some] <;> rfl),by repeat (first|(with_reducible first|exact HB.out|apply bwA|apply bwN|apply bw1|refine below_set ?_ GE694.out|refine below_set ?_ GE722.out|refine below_set ?_ GE749.out)|exact HB.out)⟩
      ·rw [if_neg c62] at H
       have c62b0 : decide (t754 < 0) = false:=decide_eq_false c62
       clear c62
       by_cases c66 : t754 = t752
       ·rw [if_pos c66] at H
        have c66b0 : (t754 == t752) = true:=beq_iff_eq.mpr c66
        have c66b1 : (t754 != t752) = false:=bne_eq_false_iff_eq.mpr c66
        clear c66
        replace H:=Option.bind_eq_some_iff.mp H
        obtain ⟨⟨t755,t756,t757,t758,t759,t760,t761,t762,t763,t764,t765⟩,A670,H⟩:=H
        replace H : ((impl_ConnSay.f kj13 t755 t756 t757 t758 t759 t760 t761 t762 t763 t764 t765 a1).bind fun bt766 => ((laws_eqConn.f bt766.1 bt766.2.1 bt766.2.2.1 bt766.2.2.2.1 bt766.2.2.2.2.1 bt766.2.2.2.2.2.1 bt766.2.2.2.2.2.2.1 bt766.2.2.2.2.2.2.2.1 bt766.2.2.2.2.2.2.2.2.1 bt766.2.2.2.2.2.2.2.2.2.1 bt766.2.2.2.2.2.2.2.2.2.2.1 t707 t708 t709 t710 t711 t712 t713 t714 t715 t716 t717).bind fun t782 => (if t782 = true then ((laws_eqSegmentS.f kj13 bt766.2.2.2.2.2.2.2.2.2.2.2.1 t718).bind fun t783 => (if t783 = true then (laws_FnExactConnSay.j1 kj13 t753 t752 (bt766.2.2.2.2.2.2.2.2.2.2.2.2 != t721)) else (laws_FnExactConnSay.j1 kj13 t753 t752 true))) else (laws_FnExactConnSay.j1 kj13 t753 t752 true)))) = some r:=H
        have A67:=aMk A670
        clear A670
        replace H:=Option.bind_eq_some_iff.mp H
        obtain ⟨⟨t766,t767,t768,t769,t770,t771,t772,t773,t774,t775,t776,t777,t780⟩,A680,H⟩:=H
        replace H : ((laws_eqConn.f t766 t767 t768 t769 t770 t771 t772 t773 t774 t775 t776 t707 t708 t709 t710 t711 t712 t713 t714 t715 t716 t717).bind fun t782 => (if t782 = true then ((laws_eqSegmentS.f kj13 t777 t718).bind fun t783 => (if t783 = true then (laws_FnExactConnSay.j1 kj13 t753 t752 (t780 != t721)) else (laws_FnExactConnSay.j1 kj13 t753 t752 true))) else (laws_FnExactConnSay.j1 kj13 t753 t752 true))) = some r:=H
        have A68:=aMk A680
        clear A680
        have HC69:=aMk H
        clear H
        obtain ⟨Ao70,co70,eo70⟩:=Kd.R_slice HO_10.out
        subst eo70
        go_upto_region 20 with (first|((with_reducible refine gate_callee (f:=39) rfl ?_);refine goesL_ (some 58) rfl rfl Try.func39 (by kernel_rfl) rfl #[.slice Ao70 t745.length co70,.int .i64 1] rfl (by (try simp only [List.map_toArray,List.map_cons,List.map_nil]);first | done | rfl|(simp only [List.length_drop,List.length_take];rfl)) ?_;(with_reducible refine (laws_markSegmentS.calls kj13 (fun k_ => some k_ = (.slice Ao70 t745.length co70 : Value).ownBlock) (.slice Ao70 t745.length co70) t745 1 t752 t753 w _ ?side1 ?side2 A60.out).mono ?_);(case side1 => repeat (first|(with_reducible first|exact HB.out|apply bwA|apply bwN|apply bw1|refine below_set ?_ GE694.out|refine below_set ?_ GE722.out|refine below_set ?_ GE749.out)|exact HB.out));(case side2 => exact Kd.R_tight rfl HO_10.out);rintro e w71 ⟨rfl,hy0,hb,hkp⟩;refine ⟨_,rfl,?_⟩;have n0_:=aMk (Kd.R_mono (ok':=fun k_ => some k_ ≠ (.slice Ao70 t745.length co70 : Value).ownBlock) (Kd.R_keptB (HO_7.out) hkp (fun k_ hk_ hs_ => (hk_) hs_)) (fun k_ hk_ => hk_.1));have n1_:=aMk (Kd.R_reok rfl hy0 (fun k_ e_ => HO_10.out.1 k_ e_));have n2_:=aMk (blk_kept (by (with_reducible repeat (first|refine bDn ?_ _|refine bDr ?_|refine bAl ?_ _));exact BK694.out) hkp (fun hs_ => (fun e_ => (Kd.R_ne HO_10.out BK694.out (by decide)) e_) hs_));have n3_:=aMk (blk_kept (by (with_reducible repeat (first|refine bDn ?_ _|refine bDr ?_|refine bAl ?_ _));exact BK722.out) hkp (fun hs_ => (fun e_ => (Kd.R_ne HO_10.out BK722.out (by decide)) e_) hs_));have n4_:=aMk (blk_kept (by (with_reducible repeat (first|refine bDn ?_ _|refine bDr ?_|refine bAl ?_ _));exact BK749.out) hkp (fun hs_ => (fun e_ => (Kd.R_ne HO_10.out BK749.out (by decide)) e_) hs_));have n5_:=aMk (hb);clear HO_7;clear HO_10;clear BK694;clear BK722;clear BK749;clear HB;have HO_7:=n0_;have HO_10:=n1_;have BK694:=n2_;have BK722:=n3_;have BK749:=n4_;have HB:=n5_;clear n0_ n1_ n2_ n3_ n4_ n5_;(try clear hb);(try clear hkp);(try clear hy0))|((with_reducible refine gate_callee (f:=40) rfl ?_);refine goesL_ (some 61) rfl rfl Try.func40 (by kernel_rfl) rfl #[.slice Ao70 t753.length co70,.int .i64 1] rfl (by (try simp only [List.map_toArray,List.map_cons,List.map_nil]);first | done|(rw [show t753.length = t745.length from (Kd.R_reads' HO_10.out).1.symm] <;> rfl) | rfl|(simp only [List.length_drop,List.length_take];rfl)) ?_;(with_reducible refine (laws_heldSegmentS.calls kj13 _ _ t753 1 t754 _ ?side1 ?side2 A61.out).mono ?_);(case side1 => repeat (first|exact (Kd.R_reads' HO_10.out).2.2|(with_reducible refine Kd.C_alloc ?_ _)|(with_reducible refine Kd.C_drewN ?_ _)|(with_reducible refine Kd.C_drew ?_)));(case side2 => rw [show t753.length = t745.length from (Kd.R_reads' HO_10.out).1.symm];exact (Kd.R_reads' HO_10.out).2.1);rintro e w72 ⟨rfl,hb⟩;refine ⟨_,rfl,?_⟩;have n0_:=aMk (Kd.R_below (by (with_reducible repeat (first|apply Kd.R_alloc|apply Kd.R_drewN|apply Kd.R_drew));exact HO_7.out) hb);have n1_:=aMk (Kd.R_below (by (with_reducible repeat (first|apply Kd.R_alloc|apply Kd.R_drewN|apply Kd.R_drew));exact HO_10.out) hb);have n2_:=aMk (blk_below (g:=gb694) (o:=.cells #[.string a0_0,.int .i64 a0_1,.int .i64 a0_2,.int .i64 a0_3,.int .i64 a0_4,.int .i64 a0_5,.int .i64 a0_6,.int .i64 a0_7,.string a0_8,.string a0_9,.bool a0_10] 31 (0,0)) (by (with_reducible repeat (first|refine bDn ?_ _|refine bDr ?_|refine bAl ?_ _));exact BK694.out) hb);have n3_:=aMk (blk_below (g:=gb722) (o:=.cells #[.string t707,.int .i64 t708,.int .i64 t709,.int .i64 t710,.int .i64 t711,.int .i64 t712,.int .i64 t713,.int .i64 t714,.string t715,.string t716,.bool t717] 34 (0,0)) (by (with_reducible repeat (first|refine bDn ?_ _|refine bDr ?_|refine bAl ?_ _));exact BK722.out) hb);have n4_:=aMk (blk_below (g:=gb749) (o:=.cells #[.string t734,.int .i64 t735,.int .i64 t736,.int .i64 t737,.int .i64 t738,.int .i64 t739,.int .i64 t740,.int .i64 t741,.string t742,.string t743,.bool t744] 34 (0,0)) (by (with_reducible repeat (first|refine bDn ?_ _|refine bDr ?_|refine bAl ?_ _));exact BK749.out) hb);have n5_:=aMk (below_step (by repeat (first|(with_reducible first|exact HB.out|apply bwA|apply bwN|apply bw1|refine below_set ?_ GE694.out|refine below_set ?_ GE722.out|refine below_set ?_ GE749.out)|exact HB.out)) hb);clear HO_7;clear HO_10;clear BK694;clear BK722;clear BK749;clear HB;have HO_7:=n0_;have HO_10:=n1_;have BK694:=n2_;have BK722:=n3_;have BK749:=n4_;have HB:=n5_;clear n0_ n1_ n2_ n3_ n4_ n5_;(try clear hb);(try clear hb2);(try clear hk);(try clear hi);have hnb73:=NB694_722.out;have hnc73:=NB722_694.out;have hnb74:=NB694_749.out;have hnc74:=NB749_694.out;have hcz75_0 : w72.cell? ⟨gb694,0,none⟩ = some (.string a0_0):=(bCe BK694.out 0).trans rfl;have hcz75_1 : w72.cell? ⟨gb694,1,none⟩ = some (.int .i64 a0_1):=(bCe BK694.out 1).trans rfl;have hcz75_2 : w72.cell? ⟨gb694,2,none⟩ = some (.int .i64 a0_2):=(bCe BK694.out 2).trans rfl;have hcz75_3 : w72.cell? ⟨gb694,3,none⟩ = some (.int .i64 a0_3):=(bCe BK694.out 3).trans rfl;have hcz75_4 : w72.cell? ⟨gb694,4,none⟩ = some (.int .i64 a0_4):=(bCe BK694.out 4).trans rfl;have hcz75_5 : w72.cell? ⟨gb694,5,none⟩ = some (.int .i64 a0_5):=(bCe BK694.out 5).trans rfl;have hcz75_6 : w72.cell? ⟨gb694,6,none⟩ = some (.int .i64 a0_6):=(bCe BK694.out 6).trans rfl;have hcz75_7 : w72.cell? ⟨gb694,7,none⟩ = some (.int .i64 a0_7):=(bCe BK694.out 7).trans rfl;have hcz75_8 : w72.cell? ⟨gb694,8,none⟩ = some (.string a0_8):=(bCe BK694.out 8).trans rfl;have hcz75_9 : w72.cell? ⟨gb694,9,none⟩ = some (.string a0_9):=(bCe BK694.out 9).trans rfl;have hcz75_10 : w72.cell? ⟨gb694,10,none⟩ = some (.bool a0_10):=(bCe BK694.out 10).trans rfl;have hfz75_0:=bFr BK694.out 0;have hfz75_1:=bFr BK694.out 1;have hfz75_2:=bFr BK694.out 2;have hfz75_3:=bFr BK694.out 3;have hfz75_4:=bFr BK694.out 4;have hfz75_5:=bFr BK694.out 5;have hfz75_6:=bFr BK694.out 6;have hfz75_7:=bFr BK694.out 7;have hfz75_8:=bFr BK694.out 8;have hfz75_9:=bFr BK694.out 9;have hfz75_10:=bFr BK694.out 10)|((with_reducible refine gate_callee (f:=24) rfl ?_);refine goesL_ (some 69) rfl rfl Try.func24 (by kernel_rfl) rfl #[.agg #[.string a0_0,.int .i64 a0_1,.int .i64 a0_2,.int .i64 a0_3,.int .i64 a0_4,.int .i64 a0_5,.int .i64 a0_6,.int .i64 a0_7,.string a0_8,.string a0_9,.bool a0_10]] rfl (by (try simp only [List.map_toArray,List.map_cons,List.map_nil]);first | done | rfl|(simp only [List.length_drop,List.length_take];rfl)) ?_;(with_reducible refine (laws_toConn.calls a0_0 a0_1 a0_2 a0_3 a0_4 a0_5 a0_6 a0_7 a0_8 a0_9 a0_10 t755 t756 t757 t758 t759 t760 t761 t762 t763 t764 t765 _ A67.out).mono ?_);rintro e w76 ⟨rfl,hb⟩;refine ⟨_,rfl,?_⟩;have n0_:=aMk (Kd.R_below (by (with_reducible repeat (first|apply Kd.R_alloc|apply Kd.R_drewN|apply Kd.R_drew));exact HO_7.out) hb);have n1_:=aMk (Kd.R_below (by (with_reducible repeat (first|apply Kd.R_alloc|apply Kd.R_drewN|apply Kd.R_drew));exact HO_10.out) hb);have n2_:=aMk (blk_below (g:=gb694) (o:=.cells #[.string a0_0,.int .i64 a0_1,.int .i64 a0_2,.int .i64 a0_3,.int .i64 a0_4,.int .i64 a0_5,.int .i64 a0_6,.int .i64 a0_7,.string a0_8,.string a0_9,.bool a0_10] 31 (0,0)) (by (with_reducible repeat (first|refine bDn ?_ _|refine bDr ?_|refine bAl ?_ _));exact BK694.out) hb);have n3_:=aMk (blk_below (g:=gb722) (o:=.cells #[.string t707,.int .i64 t708,.int .i64 t709,.int .i64 t710,.int .i64 t711,.int .i64 t712,.int .i64 t713,.int .i64 t714,.string t715,.string t716,.bool t717] 34 (0,0)) (by (with_reducible repeat (first|refine bDn ?_ _|refine bDr ?_|refine bAl ?_ _));exact BK722.out) hb);have n4_:=aMk (blk_below (g:=gb749) (o:=.cells #[.string t734,.int .i64 t735,.int .i64 t736,.int .i64 t737,.int .i64 t738,.int .i64 t739,.int .i64 t740,.int .i64 t741,.string t742,.string t743,.bool t744] 34 (0,0)) (by (with_reducible repeat (first|refine bDn ?_ _|refine bDr ?_|refine bAl ?_ _));exact BK749.out) hb);have n5_:=aMk (below_step (by repeat (first|(with_reducible first|exact HB.out|apply bwA|apply bwN|apply bw1|refine below_set ?_ GE694.out|refine below_set ?_ GE722.out|refine below_set ?_ GE749.out)|exact HB.out)) hb);clear HO_7;clear HO_10;clear BK694;clear BK722;clear BK749;clear HB;have HO_7:=n0_;have HO_10:=n1_;have BK694:=n2_;have BK722:=n3_;have BK749:=n4_;have HB:=n5_;clear n0_ n1_ n2_ n3_ n4_ n5_;(try clear hb);(try clear hb2);(try clear hk);(try clear hi))|((with_reducible refine gate_callee (f:=44) rfl ?_);refine goesL_ (some 71) rfl rfl Try.func44 (by kernel_rfl) rfl #[.agg #[.string t755,.int .i64 t756,.int .i64 t757,.int .i64 t758,.int .i64 t759,.int .i64 t760,.int .i64 t761,.int .i64 t762,.string t763,.string t764,.bool t765],.string a1] rfl (by (try simp only [List.map_toArray,List.map_cons,List.map_nil]);first | done | rfl|(simp only [List.length_drop,List.length_take];rfl)) ?_;(with_reducible refine (impl_ConnSay.calls kj13 t755 t756 t757 t758 t759 t760 t761 t762 t763 t764 t765 a1 t766 t767 t768 t769 t770 t771 t772 t773 t774 t775 t776 t777 t780 _ A68.out).mono ?_);rintro e w77 ⟨v778,rfl,ho0,hb⟩;refine ⟨_,rfl,?_⟩;have n0_:=aMk (Kd.R_elder' (by (with_reducible repeat (first|apply Kd.R_alloc|apply Kd.R_drewN|apply Kd.R_drew));exact HO_7.out) (Kd.R_base ho0) hb);have n1_:=aMk (Kd.R_elder' (by (with_reducible repeat (first|apply Kd.R_alloc|apply Kd.R_drewN|apply Kd.R_drew));exact HO_10.out) (Kd.R_base ho0) hb);have n2_:=aMk (Kd.R_lower (Kd.R_new' (Kd.R_new' ho0 (Kd.R_lt (by (with_reducible repeat (first|apply Kd.R_alloc|apply Kd.R_drewN|apply Kd.R_drew));exact HO_7.out))) (Kd.R_lt (by (with_reducible repeat (first|apply Kd.R_alloc|apply Kd.R_drewN|apply Kd.R_drew));exact HO_10.out))) (below_size (by repeat (first|(with_reducible first|exact HB.out|apply bwA|apply bwN|apply bw1|refine below_set ?_ GE694.out|refine below_set ?_ GE722.out|refine below_set ?_ GE749.out)|exact HB.out))));have n3_:=aMk (blk_below (g:=gb694) (o:=.cells #[.string a0_0,.int .i64 a0_1,.int .i64 a0_2,.int .i64 a0_3,.int .i64 a0_4,.int .i64 a0_5,.int .i64 a0_6,.int .i64 a0_7,.string a0_8,.string a0_9,.bool a0_10] 31 (0,0)) (by (with_reducible repeat (first|refine bDn ?_ _|refine bDr ?_|refine bAl ?_ _));exact BK694.out) hb);have n4_:=aMk (blk_below (g:=gb722) (o:=.cells #[.string t707,.int .i64 t708,.int .i64 t709,.int .i64 t710,.int .i64 t711,.int .i64 t712,.int .i64 t713,.int .i64 t714,.string t715,.string t716,.bool t717] 34 (0,0)) (by (with_reducible repeat (first|refine bDn ?_ _|refine bDr ?_|refine bAl ?_ _));exact BK722.out) hb);have n5_:=aMk (blk_below (g:=gb749) (o:=.cells #[.string t734,.int .i64 t735,.int .i64 t736,.int .i64 t737,.int .i64 t738,.int .i64 t739,.int .i64 t740,.int .i64 t741,.string t742,.string t743,.bool t744] 34 (0,0)) (by (with_reducible repeat (first|refine bDn ?_ _|refine bDr ?_|refine bAl ?_ _));exact BK749.out) hb);have n6_:=aMk (below_step (by repeat (first|(with_reducible first|exact HB.out|apply bwA|apply bwN|apply bw1|refine below_set ?_ GE694.out|refine below_set ?_ GE722.out|refine below_set ?_ GE749.out)|exact HB.out)) hb);clear HO_7;clear HO_10;clear BK694;clear BK722;clear BK749;clear HB;have HO_7:=n0_;have HO_10:=n1_;have HO779:=n2_;have BK694:=n3_;have BK722:=n4_;have BK749:=n5_;have HB:=n6_;clear n0_ n1_ n2_ n3_ n4_ n5_ n6_;(try clear hb);(try clear hb2);(try clear hk);(try clear hi);(try clear ho0))|((with_reducible refine gate_dst (N:=14) rfl ?_);refine box_event ?hg (N:=14) ?hd (cs:=#[.string (⟨#[]⟩ : ByteArray),.int .i64 0,.int .i64 0,.int .i64 0,.int .i64 0,.int .i64 0,.int .i64 0,.int .i64 0,.string (⟨#[]⟩ : ByteArray),.string (⟨#[]⟩ : ByteArray),.bool false]) (t:=34) ?hr ?_;(case hd => rfl);(case hg => rfl);(case hr => first|(go_simp;done)|(go_simp;rfl));intro gb781 hg w78 hbox hb;have n0_:=aMk (Kd.R_below (by (with_reducible repeat (first|apply Kd.R_alloc|apply Kd.R_drewN|apply Kd.R_drew));exact HO_7.out) hb);have n1_:=aMk (Kd.R_below (by (with_reducible repeat (first|apply Kd.R_alloc|apply Kd.R_drewN|apply Kd.R_drew));exact HO_10.out) hb);have n2_:=aMk (Kd.R_below (by (with_reducible repeat (first|apply Kd.R_alloc|apply Kd.R_drewN|apply Kd.R_drew));exact HO779.out) hb);have n3_:=aMk (blk_below (g:=gb694) (o:=.cells #[.string a0_0,.int .i64 a0_1,.int .i64 a0_2,.int .i64 a0_3,.int .i64 a0_4,.int .i64 a0_5,.int .i64 a0_6,.int .i64 a0_7,.string a0_8,.string a0_9,.bool a0_10] 31 (0,0)) (by (with_reducible repeat (first|refine bDn ?_ _|refine bDr ?_|refine bAl ?_ _));exact BK694.out) hb);have n4_:=aMk (blk_below (g:=gb722) (o:=.cells #[.string t707,.int .i64 t708,.int .i64 t709,.int .i64 t710,.int .i64 t711,.int .i64 t712,.int .i64 t713,.int .i64 t714,.string t715,.string t716,.bool t717] 34 (0,0)) (by (with_reducible repeat (first|refine bDn ?_ _|refine bDr ?_|refine bAl ?_ _));exact BK722.out) hb);have n5_:=aMk (blk_below (g:=gb749) (o:=.cells #[.string t734,.int .i64 t735,.int .i64 t736,.int .i64 t737,.int .i64 t738,.int .i64 t739,.int .i64 t740,.int .i64 t741,.string t742,.string t743,.bool t744] 34 (0,0)) (by (with_reducible repeat (first|refine bDn ?_ _|refine bDr ?_|refine bAl ?_ _));exact BK749.out) hb);have n6_:=aMk (below_step (by repeat (first|(with_reducible first|exact HB.out|apply bwA|apply bwN|apply bw1|refine below_set ?_ GE694.out|refine below_set ?_ GE722.out|refine below_set ?_ GE749.out)|exact HB.out)) hb);have n7_:=aMk (hbox);have n8_:=aMk ((by rw [hg];exact (below_size (by repeat (first|(with_reducible first|exact HB.out|apply bwA|apply bwN|apply bw1|refine below_set ?_ GE694.out|refine below_set ?_ GE722.out|refine below_set ?_ GE749.out)|exact HB.out))) : w.heap.size ≤ gb781));have n9_:=aMk ((by rw [hg];exact (below_size (by repeat (first|(with_reducible first|exact HB.out|apply bwA|apply bwN|apply bw1|refine below_set ?_ GE694.out|refine below_set ?_ GE722.out|refine below_set ?_ GE749.out)|exact HB.out))) : w.heap.size ≤ gb781));have n10_:=aMk ((by rw [hg];exact Nat.ne_of_lt (blk_lt (g:=gb694) (o:=.cells #[.string a0_0,.int .i64 a0_1,.int .i64 a0_2,.int .i64 a0_3,.int .i64 a0_4,.int .i64 a0_5,.int .i64 a0_6,.int .i64 a0_7,.string a0_8,.string a0_9,.bool a0_10] 31 (0,0)) (by (with_reducible repeat (first|refine bDn ?_ _|refine bDr ?_|refine bAl ?_ _));exact BK694.out)) : gb694 ≠ gb781));have n11_:=aMk ((by rw [hg];exact Nat.ne_of_gt (blk_lt (g:=gb694) (o:=.cells #[.string a0_0,.int .i64 a0_1,.int .i64 a0_2,.int .i64 a0_3,.int .i64 a0_4,.int .i64 a0_5,.int .i64 a0_6,.int .i64 a0_7,.string a0_8,.string a0_9,.bool a0_10] 31 (0,0)) (by (with_reducible repeat (first|refine bDn ?_ _|refine bDr ?_|refine bAl ?_ _));exact BK694.out)) : gb781 ≠ gb694));have n12_:=aMk ((by rw [hg];exact Nat.ne_of_lt (blk_lt (g:=gb722) (o:=.cells #[.string t707,.int .i64 t708,.int .i64 t709,.int .i64 t710,.int .i64 t711,.int .i64 t712,.int .i64 t713,.int .i64 t714,.string t715,.string t716,.bool t717] 34 (0,0)) (by (with_reducible repeat (first|refine bDn ?_ _|refine bDr ?_|refine bAl ?_ _));exact BK722.out)) : gb722 ≠ gb781));have n13_:=aMk ((by rw [hg];exact Nat.ne_of_gt (blk_lt (g:=gb722) (o:=.cells #[.string t707,.int .i64 t708,.int .i64 t709,.int .i64 t710,.int .i64 t711,.int .i64 t712,.int .i64 t713,.int .i64 t714,.string t715,.string t716,.bool t717] 34 (0,0)) (by (with_reducible repeat (first|refine bDn ?_ _|refine bDr ?_|refine bAl ?_ _));exact BK722.out)) : gb781 ≠ gb722));have n14_:=aMk ((by rw [hg];exact Nat.ne_of_lt (blk_lt (g:=gb749) (o:=.cells #[.string t734,.int .i64 t735,.int .i64 t736,.int .i64 t737,.int .i64 t738,.int .i64 t739,.int .i64 t740,.int .i64 t741,.string t742,.string t743,.bool t744] 34 (0,0)) (by (with_reducible repeat (first|refine bDn ?_ _|refine bDr ?_|refine bAl ?_ _));exact BK749.out)) : gb749 ≠ gb781));have n15_:=aMk ((by rw [hg];exact Nat.ne_of_gt (blk_lt (g:=gb749) (o:=.cells #[.string t734,.int .i64 t735,.int .i64 t736,.int .i64 t737,.int .i64 t738,.int .i64 t739,.int .i64 t740,.int .i64 t741,.string t742,.string t743,.bool t744] 34 (0,0)) (by (with_reducible repeat (first|refine bDn ?_ _|refine bDr ?_|refine bAl ?_ _));exact BK749.out)) : gb781 ≠ gb749));clear HO_7;clear HO_10;clear HO779;clear BK694;clear BK722;clear BK749;clear HB;have HO_7:=n0_;have HO_10:=n1_;have HO779:=n2_;have BK694:=n3_;have BK722:=n4_;have BK749:=n5_;have HB:=n6_;have BK781:=n7_;have GW781:=n8_;have GE781:=n9_;have NB694_781:=n10_;have NB781_694:=n11_;have NB722_781:=n12_;have NB781_722:=n13_;have NB749_781:=n14_;have NB781_749:=n15_;clear n0_ n1_ n2_ n3_ n4_ n5_ n6_ n7_ n8_ n9_ n10_ n11_ n12_ n13_ n14_ n15_;clear hb hbox hg;have hnb79:=NB781_694.out;have hnc79:=NB694_781.out;have hnb80:=NB781_722.out;have hnc80:=NB722_781.out;have hnb81:=NB781_749.out;have hnc81:=NB749_781.out;have hcz82_0 : w78.cell? ⟨gb781,0,none⟩ = some (.string (⟨#[]⟩ : ByteArray)):=(bCe BK781.out 0).trans rfl;have hcz82_1 : w78.cell? ⟨gb781,1,none⟩ = some (.int .i64 0):=(bCe BK781.out 1).trans rfl;have hcz82_2 : w78.cell? ⟨gb781,2,none⟩ = some (.int .i64 0):=(bCe BK781.out 2).trans rfl;have hcz82_3 : w78.cell? ⟨gb781,3,none⟩ = some (.int .i64 0):=(bCe BK781.out 3).trans rfl;have hcz82_4 : w78.cell? ⟨gb781,4,none⟩ = some (.int .i64 0):=(bCe BK781.out 4).trans rfl;have hcz82_5 : w78.cell? ⟨gb781,5,none⟩ = some (.int .i64 0):=(bCe BK781.out 5).trans rfl;have hcz82_6 : w78.cell? ⟨gb781,6,none⟩ = some (.int .i64 0):=(bCe BK781.out 6).trans rfl;have hcz82_7 : w78.cell? ⟨gb781,7,none⟩ = some (.int .i64 0):=(bCe BK781.out 7).trans rfl;have hcz82_8 : w78.cell? ⟨gb781,8,none⟩ = some (.string (⟨#[]⟩ : ByteArray)):=(bCe BK781.out 8).trans rfl;have hcz82_9 : w78.cell? ⟨gb781,9,none⟩ = some (.string (⟨#[]⟩ : ByteArray)):=(bCe BK781.out 9).trans rfl;have hcz82_10 : w78.cell? ⟨gb781,10,none⟩ = some (.bool false):=(bCe BK781.out 10).trans rfl;have hfz82_0:=bFr BK781.out 0;have hfz82_1:=bFr BK781.out 1;have hfz82_2:=bFr BK781.out 2;have hfz82_3:=bFr BK781.out 3;have hfz82_4:=bFr BK781.out 4;have hfz82_5:=bFr BK781.out 5;have hfz82_6:=bFr BK781.out 6;have hfz82_7:=bFr BK781.out 7;have hfz82_8:=bFr BK781.out 8;have hfz82_9:=bFr BK781.out 9;have hfz82_10:=bFr BK781.out 10))
        (try simp only [Act.put,List.setIfInBounds_toArray,List.set_cons_zero,List.set_cons_succ])
        go_cut [89] (fun v89 wc => ∃ (kq : Nat) (x89_68 : Bool),v89 = .bool x89_68 ∧ Aside0 (laws_FnExactConnSay.j1 kq t753 t752 x89_68 = some r) ∧ Aside0 (kq ≤ kj13) ∧ Aside0 (Kd.R k53 53 wc w.heap.size (fun _ => True) (.slice Ao70 t745.length co70) t753) ∧ Aside0 (wc.heap[gb694]? = some (.cells #[.string a0_0,.int .i64 a0_1,.int .i64 a0_2,.int .i64 a0_3,.int .i64 a0_4,.int .i64 a0_5,.int .i64 a0_6,.int .i64 a0_7,.string a0_8,.string a0_9,.bool a0_10] 31 (0,0))) ∧ Aside0 (wc.heap[gb722]? = some (.cells #[.string t707,.int .i64 t708,.int .i64 t709,.int .i64 t710,.int .i64 t711,.int .i64 t712,.int .i64 t713,.int .i64 t714,.string t715,.string t716,.bool t717] 34 (0,0))) ∧ Aside0 (wc.heap[gb749]? = some (.cells #[.string t734,.int .i64 t735,.int .i64 t736,.int .i64 t737,.int .i64 t738,.int .i64 t739,.int .i64 t740,.int .i64 t741,.string t742,.string t743,.bool t744] 34 (0,0))) ∧ Aside0 (wc.heap[gb781]? = some (.cells #[.string t766,.int .i64 t767,.int .i64 t768,.int .i64 t769,.int .i64 t770,.int .i64 t771,.int .i64 t772,.int .i64 t773,.string t774,.string t775,.bool t776] 34 (0,0))) ∧ Aside0 (Below w.heap.size w wc))
        case first =>
         have H:=HC69.out
         clear HC69
         replace H:=Option.bind_eq_some_iff.mp H
         obtain ⟨t782,A830,H⟩:=H
         replace H : (if t782 = true then ((laws_eqSegmentS.f kj13 t777 t718).bind fun t783 => (if t783 = true then (laws_FnExactConnSay.j1 kj13 t753 t752 (t780 != t721)) else (laws_FnExactConnSay.j1 kj13 t753 t752 true))) else (laws_FnExactConnSay.j1 kj13 t753 t752 true)) = some r:=H
         have A83:=aMk A830
         clear A830
         by_cases c84 : t782 = true
         ·subst c84
          have H1 : ((laws_eqSegmentS.f kj13 t777 t718).bind fun t783 => (if t783 = true then (laws_FnExactConnSay.j1 kj13 t753 t752 (t780 != t721)) else (laws_FnExactConnSay.j1 kj13 t753 t752 true))) = some r:=by rw [if_pos rfl] at H;exact H
          clear H
          have H:=H1
          clear H1
          replace H:=Option.bind_eq_some_iff.mp H
          obtain ⟨t783,A850,H⟩:=H
          replace H : (if t783 = true then (laws_FnExactConnSay.j1 kj13 t753 t752 (t780 != t721)) else (laws_FnExactConnSay.j1 kj13 t753 t752 true)) = some r:=H
          have A85:=aMk A850
          clear A850
          by_cases c86 : t783 = true
          ·subst c86
           have H1 : (laws_FnExactConnSay.j1 kj13 t753 t752 (t780 != t721)) = some r:=by rw [if_pos rfl] at H;exact H
           clear H
           have H:=H1
           clear H1
           have H':=aMk H
           clear H
           have hnb87:=NB781_694.out
           have hnc87:=NB694_781.out
           have hnb88:=NB781_722.out
           have hnc88:=NB722_781.out
           have hnb89:=NB781_749.out
           have hnc89:=NB749_781.out
           have hcz90_0 : w78.cell? ⟨gb781,0,none⟩ = some (.string (⟨#[]⟩ : ByteArray)):=(bCe BK781.out 0).trans rfl
           have hcz90_1 : w78.cell? ⟨gb781,1,none⟩ = some (.int .i64 0):=(bCe BK781.out 1).trans rfl
           have hcz90_2 : w78.cell? ⟨gb781,2,none⟩ = some (.int .i64 0):=(bCe BK781.out 2).trans rfl
           have hcz90_3 : w78.cell? ⟨gb781,3,none⟩ = some (.int .i64 0):=(bCe BK781.out 3).trans rfl
           have hcz90_4 : w78.cell? ⟨gb781,4,none⟩ = some (.int .i64 0):=(bCe BK781.out 4).trans rfl
           have hcz90_5 : w78.cell? ⟨gb781,5,none⟩ = some (.int .i64 0):=(bCe BK781.out 5).trans rfl
           have hcz90_6 : w78.cell? ⟨gb781,6,none⟩ = some (.int .i64 0):=(bCe BK781.out 6).trans rfl
           have hcz90_7 : w78.cell? ⟨gb781,7,none⟩ = some (.int .i64 0):=(bCe BK781.out 7).trans rfl
           have hcz90_8 : w78.cell? ⟨gb781,8,none⟩ = some (.string (⟨#[]⟩ : ByteArray)):=(bCe BK781.out 8).trans rfl
           have hcz90_9 : w78.cell? ⟨gb781,9,none⟩ = some (.string (⟨#[]⟩ : ByteArray)):=(bCe BK781.out 9).trans rfl
           have hcz90_10 : w78.cell? ⟨gb781,10,none⟩ = some (.bool false):=(bCe BK781.out 10).trans rfl
           have hfz90_0:=bFr BK781.out 0
           have hfz90_1:=bFr BK781.out 1
           have hfz90_2:=bFr BK781.out 2
           have hfz90_3:=bFr BK781.out 3
           have hfz90_4:=bFr BK781.out 4
           have hfz90_5:=bFr BK781.out 5
           have hfz90_6:=bFr BK781.out 6
           have hfz90_7:=bFr BK781.out 7
           have hfz90_8:=bFr BK781.out 8
           have hfz90_9:=bFr BK781.out 9
           have hfz90_10:=bFr BK781.out 10
           have hnb91:=NB722_694.out
           have hnc91:=NB694_722.out
           have hnb92:=NB722_749.out
           have hnc92:=NB749_722.out
           have hcz93_0 : w78.cell? ⟨gb722,0,none⟩ = some (.string t707):=(bCe BK722.out 0).trans rfl
           have hcz93_1 : w78.cell? ⟨gb722,1,none⟩ = some (.int .i64 t708):=(bCe BK722.out 1).trans rfl
           have hcz93_2 : w78.cell? ⟨gb722,2,none⟩ = some (.int .i64 t709):=(bCe BK722.out 2).trans rfl
           have hcz93_3 : w78.cell? ⟨gb722,3,none⟩ = some (.int .i64 t710):=(bCe BK722.out 3).trans rfl
           have hcz93_4 : w78.cell? ⟨gb722,4,none⟩ = some (.int .i64 t711):=(bCe BK722.out 4).trans rfl
           have hcz93_5 : w78.cell? ⟨gb722,5,none⟩ = some (.int .i64 t712):=(bCe BK722.out 5).trans rfl
           have hcz93_6 : w78.cell? ⟨gb722,6,none⟩ = some (.int .i64 t713):=(bCe BK722.out 6).trans rfl
           have hcz93_7 : w78.cell? ⟨gb722,7,none⟩ = some (.int .i64 t714):=(bCe BK722.out 7).trans rfl
           have hcz93_8 : w78.cell? ⟨gb722,8,none⟩ = some (.string t715):=(bCe BK722.out 8).trans rfl
           have hcz93_9 : w78.cell? ⟨gb722,9,none⟩ = some (.string t716):=(bCe BK722.out 9).trans rfl
           have hcz93_10 : w78.cell? ⟨gb722,10,none⟩ = some (.bool t717):=(bCe BK722.out 10).trans rfl
           have hfz93_0:=bFr BK722.out 0
           have hfz93_1:=bFr BK722.out 1
           have hfz93_2:=bFr BK722.out 2
           have hfz93_3:=bFr BK722.out 3
           have hfz93_4:=bFr BK722.out 4
           have hfz93_5:=bFr BK722.out 5
           have hfz93_6:=bFr BK722.out 6
           have hfz93_7:=bFr BK722.out 7
           have hfz93_8:=bFr BK722.out 8
           have hfz93_9:=bFr BK722.out 9
           have hfz93_10:=bFr BK722.out 10
           go_wp2_with (first|((with_reducible refine gate_callee (f:=37) rfl ?_);refine goesL_ (some 77) rfl rfl Try.func37 (by kernel_rfl) rfl #[.agg #[.string t766,.int .i64 t767,.int .i64 t768,.int .i64 t769,.int .i64 t770,.int .i64 t771,.int .i64 t772,.int .i64 t773,.string t774,.string t775,.bool t776],.agg #[.string t707,.int .i64 t708,.int .i64 t709,.int .i64 t710,.int .i64 t711,.int .i64 t712,.int .i64 t713,.int .i64 t714,.string t715,.string t716,.bool t717]] rfl (by (try simp only [List.map_toArray,List.map_cons,List.map_nil]);first | done | rfl|(simp only [List.length_drop,List.length_take];rfl)) ?_;(with_reducible refine (laws_eqConn.calls t766 t767 t768 t769 t770 t771 t772 t773 t774 t775 t776 t707 t708 t709 t710 t711 t712 t713 t714 t715 t716 t717 true _ A83.out).mono ?_);rintro e w94 ⟨rfl,hb⟩;refine ⟨_,rfl,?_⟩;have n0_:=aMk (Kd.R_below (by (with_reducible repeat (first|apply Kd.R_alloc|apply Kd.R_drewN|apply Kd.R_drew));exact (Kd.R_mono (Kd.R_far (p:=⟨gb781,10,none⟩) (Kd.R_far (p:=⟨gb781,9,none⟩) (Kd.R_far (p:=⟨gb781,8,none⟩) (Kd.R_far (p:=⟨gb781,7,none⟩) (Kd.R_far (p:=⟨gb781,6,none⟩) (Kd.R_far (p:=⟨gb781,5,none⟩) (Kd.R_far (p:=⟨gb781,4,none⟩) (Kd.R_far (p:=⟨gb781,3,none⟩) (Kd.R_far (p:=⟨gb781,2,none⟩) (Kd.R_far (p:=⟨gb781,1,none⟩) (Kd.R_far (p:=⟨gb781,0,none⟩) (Kd.R_types HO_7.out BK781.out (by decide)) (fun _ hk => hk.2) (.string t766)) (fun _ hk => hk.2) (.int .i64 t767)) (fun _ hk => hk.2) (.int .i64 t768)) (fun _ hk => hk.2) (.int .i64 t769)) (fun _ hk => hk.2) (.int .i64 t770)) (fun _ hk => hk.2) (.int .i64 t771)) (fun _ hk => hk.2) (.int .i64 t772)) (fun _ hk => hk.2) (.int .i64 t773)) (fun _ hk => hk.2) (.string t774)) (fun _ hk => hk.2) (.string t775)) (fun _ hk => hk.2) (.bool t776)) (fun _ h_ => h_.1))) hb);have n1_:=aMk (Kd.R_below (by (with_reducible repeat (first|apply Kd.R_alloc|apply Kd.R_drewN|apply Kd.R_drew));exact (Kd.R_mono (Kd.R_far (p:=⟨gb781,10,none⟩) (Kd.R_far (p:=⟨gb781,9,none⟩) (Kd.R_far (p:=⟨gb781,8,none⟩) (Kd.R_far (p:=⟨gb781,7,none⟩) (Kd.R_far (p:=⟨gb781,6,none⟩) (Kd.R_far (p:=⟨gb781,5,none⟩) (Kd.R_far (p:=⟨gb781,4,none⟩) (Kd.R_far (p:=⟨gb781,3,none⟩) (Kd.R_far (p:=⟨gb781,2,none⟩) (Kd.R_far (p:=⟨gb781,1,none⟩) (Kd.R_far (p:=⟨gb781,0,none⟩) (Kd.R_types HO_10.out BK781.out (by decide)) (fun _ hk => hk.2) (.string t766)) (fun _ hk => hk.2) (.int .i64 t767)) (fun _ hk => hk.2) (.int .i64 t768)) (fun _ hk => hk.2) (.int .i64 t769)) (fun _ hk => hk.2) (.int .i64 t770)) (fun _ hk => hk.2) (.int .i64 t771)) (fun _ hk => hk.2) (.int .i64 t772)) (fun _ hk => hk.2) (.int .i64 t773)) (fun _ hk => hk.2) (.string t774)) (fun _ hk => hk.2) (.string t775)) (fun _ hk => hk.2) (.bool t776)) (fun _ h_ => h_.1))) hb);have n2_:=aMk (Kd.R_below (by (with_reducible repeat (first|apply Kd.R_alloc|apply Kd.R_drewN|apply Kd.R_drew));exact (Kd.R_mono (Kd.R_far (p:=⟨gb781,10,none⟩) (Kd.R_far (p:=⟨gb781,9,none⟩) (Kd.R_far (p:=⟨gb781,8,none⟩) (Kd.R_far (p:=⟨gb781,7,none⟩) (Kd.R_far (p:=⟨gb781,6,none⟩) (Kd.R_far (p:=⟨gb781,5,none⟩) (Kd.R_far (p:=⟨gb781,4,none⟩) (Kd.R_far (p:=⟨gb781,3,none⟩) (Kd.R_far (p:=⟨gb781,2,none⟩) (Kd.R_far (p:=⟨gb781,1,none⟩) (Kd.R_far (p:=⟨gb781,0,none⟩) (Kd.R_types HO779.out BK781.out (by decide)) (fun _ hk => hk.2) (.string t766)) (fun _ hk => hk.2) (.int .i64 t767)) (fun _ hk => hk.2) (.int .i64 t768)) (fun _ hk => hk.2) (.int .i64 t769)) (fun _ hk => hk.2) (.int .i64 t770)) (fun _ hk => hk.2) (.int .i64 t771)) (fun _ hk => hk.2) (.int .i64 t772)) (fun _ hk => hk.2) (.int .i64 t773)) (fun _ hk => hk.2) (.string t774)) (fun _ hk => hk.2) (.string t775)) (fun _ hk => hk.2) (.bool t776)) (fun _ h_ => h_.1))) hb);have n3_:=aMk (blk_below (g:=gb694) (o:=.cells #[.string a0_0,.int .i64 a0_1,.int .i64 a0_2,.int .i64 a0_3,.int .i64 a0_4,.int .i64 a0_5,.int .i64 a0_6,.int .i64 a0_7,.string a0_8,.string a0_9,.bool a0_10] 31 (0,0)) (by (with_reducible repeat (first|refine bDn ?_ _|refine bDr ?_|refine bAl ?_ _));refine blk_far ?_ NB694_781.out _;(with_reducible repeat (first|refine bDn ?_ _|refine bDr ?_|refine bAl ?_ _));refine blk_far ?_ NB694_781.out _;(with_reducible repeat (first|refine bDn ?_ _|refine bDr ?_|refine bAl ?_ _));refine blk_far ?_ NB694_781.out _;(with_reducible repeat (first|refine bDn ?_ _|refine bDr ?_|refine bAl ?_ _));refine blk_far ?_ NB694_781.out _;(with_reducible repeat (first|refine bDn ?_ _|refine bDr ?_|refine bAl ?_ _));refine blk_far ?_ NB694_781.out _;(with_reducible repeat (first|refine bDn ?_ _|refine bDr ?_|refine bAl ?_ _));refine blk_far ?_ NB694_781.out _;(with_reducible repeat (first|refine bDn ?_ _|refine bDr ?_|refine bAl ?_ _));refine blk_far ?_ NB694_781.out _;(with_reducible repeat (first|refine bDn ?_ _|refine bDr ?_|refine bAl ?_ _));refine blk_far ?_ NB694_781.out _;(with_reducible repeat (first|refine bDn ?_ _|refine bDr ?_|refine bAl ?_ _));refine blk_far ?_ NB694_781.out _;(with_reducible repeat (first|refine bDn ?_ _|refine bDr ?_|refine bAl ?_ _));refine blk_far ?_ NB694_781.out _;(with_reducible repeat (first|refine bDn ?_ _|refine bDr ?_|refine bAl ?_ _));refine blk_far ?_ NB694_781.out _;(with_reducible repeat (first|refine bDn ?_ _|refine bDr ?_|refine bAl ?_ _));exact BK694.out) hb);have n4_:=aMk (blk_below (g:=gb722) (o:=.cells #[.string t707,.int .i64 t708,.int .i64 t709,.int .i64 t710,.int .i64 t711,.int .i64 t712,.int .i64 t713,.int .i64 t714,.string t715,.string t716,.bool t717] 34 (0,0)) (by (with_reducible repeat (first|refine bDn ?_ _|refine bDr ?_|refine bAl ?_ _));refine blk_far ?_ NB722_781.out _;(with_reducible repeat (first|refine bDn ?_ _|refine bDr ?_|refine bAl ?_ _));refine blk_far ?_ NB722_781.out _;(with_reducible repeat (first|refine bDn ?_ _|refine bDr ?_|refine bAl ?_ _));refine blk_far ?_ NB722_781.out _;(with_reducible repeat (first|refine bDn ?_ _|refine bDr ?_|refine bAl ?_ _));refine blk_far ?_ NB722_781.out _;(with_reducible repeat (first|refine bDn ?_ _|refine bDr ?_|refine bAl ?_ _));refine blk_far ?_ NB722_781.out _;(with_reducible repeat (first|refine bDn ?_ _|refine bDr ?_|refine bAl ?_ _));refine blk_far ?_ NB722_781.out _;(with_reducible repeat (first|refine bDn ?_ _|refine bDr ?_|refine bAl ?_ _));refine blk_far ?_ NB722_781.out _;(with_reducible repeat (first|refine bDn ?_ _|refine bDr ?_|refine bAl ?_ _));refine blk_far ?_ NB722_781.out _;(with_reducible repeat (first|refine bDn ?_ _|refine bDr ?_|refine bAl ?_ _));refine blk_far ?_ NB722_781.out _;(with_reducible repeat (first|refine bDn ?_ _|refine bDr ?_|refine bAl ?_ _));refine blk_far ?_ NB722_781.out _;(with_reducible repeat (first|refine bDn ?_ _|refine bDr ?_|refine bAl ?_ _));refine blk_far ?_ NB722_781.out _;(with_reducible repeat (first|refine bDn ?_ _|refine bDr ?_|refine bAl ?_ _));exact BK722.out) hb);have n5_:=aMk (blk_below (g:=gb749) (o:=.cells #[.string t734,.int .i64 t735,.int .i64 t736,.int .i64 t737,.int .i64 t738,.int .i64 t739,.int .i64 t740,.int .i64 t741,.string t742,.string t743,.bool t744] 34 (0,0)) (by (with_reducible repeat (first|refine bDn ?_ _|refine bDr ?_|refine bAl ?_ _));refine blk_far ?_ NB749_781.out _;(with_reducible repeat (first|refine bDn ?_ _|refine bDr ?_|refine bAl ?_ _));refine blk_far ?_ NB749_781.out _;(with_reducible repeat (first|refine bDn ?_ _|refine bDr ?_|refine bAl ?_ _));refine blk_far ?_ NB749_781.out _;(with_reducible repeat (first|refine bDn ?_ _|refine bDr ?_|refine bAl ?_ _));refine blk_far ?_ NB749_781.out _;(with_reducible repeat (first|refine bDn ?_ _|refine bDr ?_|refine bAl ?_ _));refine blk_far ?_ NB749_781.out _;(with_reducible repeat (first|refine bDn ?_ _|refine bDr ?_|refine bAl ?_ _));refine blk_far ?_ NB749_781.out _;(with_reducible repeat (first|refine bDn ?_ _|refine bDr ?_|refine bAl ?_ _));refine blk_far ?_ NB749_781.out _;(with_reducible repeat (first|refine bDn ?_ _|refine bDr ?_|refine bAl ?_ _));refine blk_far ?_ NB749_781.out _;(with_reducible repeat (first|refine bDn ?_ _|refine bDr ?_|refine bAl ?_ _));refine blk_far ?_ NB749_781.out _;(with_reducible repeat (first|refine bDn ?_ _|refine bDr ?_|refine bAl ?_ _));refine blk_far ?_ NB749_781.out _;(with_reducible repeat (first|refine bDn ?_ _|refine bDr ?_|refine bAl ?_ _));refine blk_far ?_ NB749_781.out _;(with_reducible repeat (first|refine bDn ?_ _|refine bDr ?_|refine bAl ?_ _));exact BK749.out) hb);have n6_:=aMk (blk_below (g:=gb781) (o:=.cells #[.string t766,.int .i64 t767,.int .i64 t768,.int .i64 t769,.int .i64 t770,.int .i64 t771,.int .i64 t772,.int .i64 t773,.string t774,.string t775,.bool t776] 34 (0,0)) (by (with_reducible repeat (first|refine bDn ?_ _|refine bDr ?_|refine bAl ?_ _));refine blk_put (cs:=#[.string t766,.int .i64 t767,.int .i64 t768,.int .i64 t769,.int .i64 t770,.int .i64 t771,.int .i64 t772,.int .i64 t773,.string t774,.string t775,.bool false]) ?_ 10 _ rfl;(with_reducible repeat (first|refine bDn ?_ _|refine bDr ?_|refine bAl ?_ _));refine blk_put (cs:=#[.string t766,.int .i64 t767,.int .i64 t768,.int .i64 t769,.int .i64 t770,.int .i64 t771,.int .i64 t772,.int .i64 t773,.string t774,.string (⟨#[]⟩ : ByteArray),.bool false]) ?_ 9 _ rfl;(with_reducible repeat (first|refine bDn ?_ _|refine bDr ?_|refine bAl ?_ _));refine blk_put (cs:=#[.string t766,.int .i64 t767,.int .i64 t768,.int .i64 t769,.int .i64 t770,.int .i64 t771,.int .i64 t772,.int .i64 t773,.string (⟨#[]⟩ : ByteArray),.string (⟨#[]⟩ : ByteArray),.bool false]) ?_ 8 _ rfl;(with_reducible repeat (first|refine bDn ?_ _|refine bDr ?_|refine bAl ?_ _));refine blk_put (cs:=#[.string t766,.int .i64 t767,.int .i64 t768,.int .i64 t769,.int .i64 t770,.int .i64 t771,.int .i64 t772,.int .i64 0,.string (⟨#[]⟩ : ByteArray),.string (⟨#[]⟩ : ByteArray),.bool false]) ?_ 7 _ rfl;(with_reducible repeat (first|refine bDn ?_ _|refine bDr ?_|refine bAl ?_ _));refine blk_put (cs:=#[.string t766,.int .i64 t767,.int .i64 t768,.int .i64 t769,.int .i64 t770,.int .i64 t771,.int .i64 0,.int .i64 0,.string (⟨#[]⟩ : ByteArray),.string (⟨#[]⟩ : ByteArray),.bool false]) ?_ 6 _ rfl;(with_reducible repeat (first|refine bDn ?_ _|refine bDr ?_|refine bAl ?_ _));refine blk_put (cs:=#[.string t766,.int .i64 t767,.int .i64 t768,.int .i64 t769,.int .i64 t770,.int .i64 0,.int .i64 0,.int .i64 0,.string (⟨#[]⟩ : ByteArray),.string (⟨#[]⟩ : ByteArray),.bool false]) ?_ 5 _ rfl;(with_reducible repeat (first|refine bDn ?_ _|refine bDr ?_|refine bAl ?_ _));refine blk_put (cs:=#[.string t766,.int .i64 t767,.int .i64 t768,.int .i64 t769,.int .i64 0,.int .i64 0,.int .i64 0,.int .i64 0,.string (⟨#[]⟩ : ByteArray),.string (⟨#[]⟩ : ByteArray),.bool false]) ?_ 4 _ rfl;(with_reducible repeat (first|refine bDn ?_ _|refine bDr ?_|refine bAl ?_ _));refine blk_put (cs:=#[.string t766,.int .i64 t767,.int .i64 t768,.int .i64 0,.int .i64 0,.int .i64 0,.int .i64 0,.int .i64 0,.string (⟨#[]⟩ : ByteArray),.string (⟨#[]⟩ : ByteArray),.bool false]) ?_ 3 _ rfl;(with_reducible repeat (first|refine bDn ?_ _|refine bDr ?_|refine bAl ?_ _));refine blk_put (cs:=#[.string t766,.int .i64 t767,.int .i64 0,.int .i64 0,.int .i64 0,.int .i64 0,.int .i64 0,.int .i64 0,.string (⟨#[]⟩ : ByteArray),.string (⟨#[]⟩ : ByteArray),.bool false]) ?_ 2 _ rfl;(with_reducible repeat (first|refine bDn ?_ _|refine bDr ?_|refine bAl ?_ _));refine blk_put (cs:=#[.string t766,.int .i64 0,.int .i64 0,.int .i64 0,.int .i64 0,.int .i64 0,.int .i64 0,.int .i64 0,.string (⟨#[]⟩ : ByteArray),.string (⟨#[]⟩ : ByteArray),.bool false]) ?_ 1 _ rfl;(with_reducible repeat (first|refine bDn ?_ _|refine bDr ?_|refine bAl ?_ _));refine blk_put (cs:=#[.string (⟨#[]⟩ : ByteArray),.int .i64 0,.int .i64 0,.int .i64 0,.int .i64 0,.int .i64 0,.int .i64 0,.int .i64 0,.string (⟨#[]⟩ : ByteArray),.string (⟨#[]⟩ : ByteArray),.bool false]) ?_ 0 _ rfl;(with_reducible repeat (first|refine bDn ?_ _|refine bDr ?_|refine bAl ?_ _));exact BK781.out) hb);have n7_:=aMk (below_step (by repeat (first|(with_reducible first|exact HB.out|apply bwA|apply bwN|apply bw1|refine below_set ?_ GE694.out|refine below_set ?_ GE722.out|refine below_set ?_ GE749.out|refine below_set ?_ GE781.out)|exact HB.out)) hb);clear HO_7;clear HO_10;clear HO779;clear BK694;clear BK722;clear BK749;clear BK781;clear HB;have HO_7:=n0_;have HO_10:=n1_;have HO779:=n2_;have BK694:=n3_;have BK722:=n4_;have BK749:=n5_;have BK781:=n6_;have HB:=n7_;clear n0_ n1_ n2_ n3_ n4_ n5_ n6_ n7_;(try clear hb);(try clear hb2);(try clear hk);(try clear hi);obtain ⟨Ao95,co95,eo95⟩:=Kd.R_slice HO779.out;subst eo95;obtain ⟨Ao96,co96,eo96⟩:=Kd.R_slice HO_7.out;subst eo96)|(go_at_call 38;(with_reducible refine (laws_eqSegmentS.calls kj13 _ _ t777 _ _ t718 true _ ?side1 ?side2 ?side3 ?side4 A85.out).mono ?_);(case side1 => repeat (first|exact (Kd.R_reads' HO779.out).2.2|(with_reducible refine Kd.C_alloc ?_ _)|(with_reducible refine Kd.C_drewN ?_ _)|(with_reducible refine Kd.C_drew ?_)));(case side2 => exact (Kd.R_reads' HO779.out).2.1);(case side3 => repeat (first|exact (Kd.R_reads' HO_7.out).2.2|(with_reducible refine Kd.C_alloc ?_ _)|(with_reducible refine Kd.C_drewN ?_ _)|(with_reducible refine Kd.C_drew ?_)));(case side4 => exact (Kd.R_reads' HO_7.out).2.1);rintro e w97 ⟨rfl,hb⟩;have n0_:=aMk (Kd.R_below (by (with_reducible repeat (first|apply Kd.R_alloc|apply Kd.R_drewN|apply Kd.R_drew));exact HO_7.out) hb);have n1_:=aMk (Kd.R_below (by (with_reducible repeat (first|apply Kd.R_alloc|apply Kd.R_drewN|apply Kd.R_drew));exact HO_10.out) hb);have n2_:=aMk (Kd.R_below (by (with_reducible repeat (first|apply Kd.R_alloc|apply Kd.R_drewN|apply Kd.R_drew));exact HO779.out) hb);have n3_:=aMk (blk_below (g:=gb694) (o:=.cells #[.string a0_0,.int .i64 a0_1,.int .i64 a0_2,.int .i64 a0_3,.int .i64 a0_4,.int .i64 a0_5,.int .i64 a0_6,.int .i64 a0_7,.string a0_8,.string a0_9,.bool a0_10] 31 (0,0)) (by (with_reducible repeat (first|refine bDn ?_ _|refine bDr ?_|refine bAl ?_ _));exact BK694.out) hb);have n4_:=aMk (blk_below (g:=gb722) (o:=.cells #[.string t707,.int .i64 t708,.int .i64 t709,.int .i64 t710,.int .i64 t711,.int .i64 t712,.int .i64 t713,.int .i64 t714,.string t715,.string t716,.bool t717] 34 (0,0)) (by (with_reducible repeat (first|refine bDn ?_ _|refine bDr ?_|refine bAl ?_ _));exact BK722.out) hb);have n5_:=aMk (blk_below (g:=gb749) (o:=.cells #[.string t734,.int .i64 t735,.int .i64 t736,.int .i64 t737,.int .i64 t738,.int .i64 t739,.int .i64 t740,.int .i64 t741,.string t742,.string t743,.bool t744] 34 (0,0)) (by (with_reducible repeat (first|refine bDn ?_ _|refine bDr ?_|refine bAl ?_ _));exact BK749.out) hb);have n6_:=aMk (blk_below (g:=gb781) (o:=.cells #[.string t766,.int .i64 t767,.int .i64 t768,.int .i64 t769,.int .i64 t770,.int .i64 t771,.int .i64 t772,.int .i64 t773,.string t774,.string t775,.bool t776] 34 (0,0)) (by (with_reducible repeat (first|refine bDn ?_ _|refine bDr ?_|refine bAl ?_ _));exact BK781.out) hb);have n7_:=aMk (below_step (by repeat (first|(with_reducible first|exact HB.out|apply bwA|apply bwN|apply bw1|refine below_set ?_ GE694.out|refine below_set ?_ GE722.out|refine below_set ?_ GE749.out|refine below_set ?_ GE781.out)|exact HB.out)) hb);clear HO_7;clear HO_10;clear HO779;clear BK694;clear BK722;clear BK749;clear BK781;clear HB;have HO_7:=n0_;have HO_10:=n1_;have HO779:=n2_;have BK694:=n3_;have BK722:=n4_;have BK749:=n5_;have BK781:=n6_;have HB:=n7_;clear n0_ n1_ n2_ n3_ n4_ n5_ n6_ n7_;(try clear hb);(try clear hb2);(try clear hk);(try clear hi)))
           go_meet
           case rel => exact ⟨_,((t780 != t721)),(by first | rfl|(simp;done)|(simp [*];done)|(simp [ne_nil_b];done)|(simp [ne_nil_b, *];done)),H',⟨by have:=HJ13.out;first | omega|exact Nat.le_refl _⟩,⟨by (with_reducible repeat (first|apply Kd.R_alloc|apply Kd.R_drewN|apply Kd.R_drew));exact Kd.R_mono HO_10.out (fun _ hk => trivial)⟩,⟨by (with_reducible repeat (first|refine bDn ?_ _|refine bDr ?_|refine bAl ?_ _));exact BK694.out⟩,⟨by (with_reducible repeat (first|refine bDn ?_ _|refine bDr ?_|refine bAl ?_ _));exact BK722.out⟩,⟨by (with_reducible repeat (first|refine bDn ?_ _|refine bDr ?_|refine bAl ?_ _));exact BK749.out⟩,⟨by (with_reducible repeat (first|refine bDn ?_ _|refine bDr ?_|refine bAl ?_ _));exact BK781.out⟩,⟨by repeat (first|(with_reducible first|exact HB.out|apply bwA|apply bwN|apply bw1|refine below_set ?_ GE694.out|refine below_set ?_ GE722.out|refine below_set ?_ GE749.out|refine below_set ?_ GE781.out)|exact HB.out)⟩⟩
          ·replace c86:=Bool.eq_false_iff.mpr c86
           subst c86
           have H1 : (laws_FnExactConnSay.j1 kj13 t753 t752 true) = some r:=by rw [if_neg (show ¬ (false = true) by decide)] at H;exact H
           clear H
           have H:=H1
           clear H1
           have H':=aMk H
           clear H
           have hnb98:=NB781_694.out
           have hnc98:=NB694_781.out
           have hnb99:=NB781_722.out
           have hnc99:=NB722_781.out
           have hnb100:=NB781_749.out
           have hnc100:=NB749_781.out
           have hcz101_0 : w78.cell? ⟨gb781,0,none⟩ = some (.string (⟨#[]⟩ : ByteArray)):=(bCe BK781.out 0).trans rfl
           have hcz101_1 : w78.cell? ⟨gb781,1,none⟩ = some (.int .i64 0):=(bCe BK781.out 1).trans rfl
           have hcz101_2 : w78.cell? ⟨gb781,2,none⟩ = some (.int .i64 0):=(bCe BK781.out 2).trans rfl
           have hcz101_3 : w78.cell? ⟨gb781,3,none⟩ = some (.int .i64 0):=(bCe BK781.out 3).trans rfl
           have hcz101_4 : w78.cell? ⟨gb781,4,none⟩ = some (.int .i64 0):=(bCe BK781.out 4).trans rfl
           have hcz101_5 : w78.cell? ⟨gb781,5,none⟩ = some (.int .i64 0):=(bCe BK781.out 5).trans rfl
           have hcz101_6 : w78.cell? ⟨gb781,6,none⟩ = some (.int .i64 0):=(bCe BK781.out 6).trans rfl
           have hcz101_7 : w78.cell? ⟨gb781,7,none⟩ = some (.int .i64 0):=(bCe BK781.out 7).trans rfl
           have hcz101_8 : w78.cell? ⟨gb781,8,none⟩ = some (.string (⟨#[]⟩ : ByteArray)):=(bCe BK781.out 8).trans rfl
           have hcz101_9 : w78.cell? ⟨gb781,9,none⟩ = some (.string (⟨#[]⟩ : ByteArray)):=(bCe BK781.out 9).trans rfl
           have hcz101_10 : w78.cell? ⟨gb781,10,none⟩ = some (.bool false):=(bCe BK781.out 10).trans rfl
           have hfz101_0:=bFr BK781.out 0
           have hfz101_1:=bFr BK781.out 1
           have hfz101_2:=bFr BK781.out 2
           have hfz101_3:=bFr BK781.out 3
           have hfz101_4:=bFr BK781.out 4
           have hfz101_5:=bFr BK781.out 5
           have hfz101_6:=bFr BK781.out 6
           have hfz101_7:=bFr BK781.out 7
           have hfz101_8:=bFr BK781.out 8
           have hfz101_9:=bFr BK781.out 9
           have hfz101_10:=bFr BK781.out 10
           have hnb102:=NB722_694.out
           have hnc102:=NB694_722.out
           have hnb103:=NB722_749.out
           have hnc103:=NB749_722.out
           have hcz104_0 : w78.cell? ⟨gb722,0,none⟩ = some (.string t707):=(bCe BK722.out 0).trans rfl
           have hcz104_1 : w78.cell? ⟨gb722,1,none⟩ = some (.int .i64 t708):=(bCe BK722.out 1).trans rfl
           have hcz104_2 : w78.cell? ⟨gb722,2,none⟩ = some (.int .i64 t709):=(bCe BK722.out 2).trans rfl
           have hcz104_3 : w78.cell? ⟨gb722,3,none⟩ = some (.int .i64 t710):=(bCe BK722.out 3).trans rfl
           have hcz104_4 : w78.cell? ⟨gb722,4,none⟩ = some (.int .i64 t711):=(bCe BK722.out 4).trans rfl
           have hcz104_5 : w78.cell? ⟨gb722,5,none⟩ = some (.int .i64 t712):=(bCe BK722.out 5).trans rfl
           have hcz104_6 : w78.cell? ⟨gb722,6,none⟩ = some (.int .i64 t713):=(bCe BK722.out 6).trans rfl
           have hcz104_7 : w78.cell? ⟨gb722,7,none⟩ = some (.int .i64 t714):=(bCe BK722.out 7).trans rfl
           have hcz104_8 : w78.cell? ⟨gb722,8,none⟩ = some (.string t715):=(bCe BK722.out 8).trans rfl
           have hcz104_9 : w78.cell? ⟨gb722,9,none⟩ = some (.string t716):=(bCe BK722.out 9).trans rfl
           have hcz104_10 : w78.cell? ⟨gb722,10,none⟩ = some (.bool t717):=(bCe BK722.out 10).trans rfl
           have hfz104_0:=bFr BK722.out 0
           have hfz104_1:=bFr BK722.out 1
           have hfz104_2:=bFr BK722.out 2
           have hfz104_3:=bFr BK722.out 3
           have hfz104_4:=bFr BK722.out 4
           have hfz104_5:=bFr BK722.out 5
           have hfz104_6:=bFr BK722.out 6
           have hfz104_7:=bFr BK722.out 7
           have hfz104_8:=bFr BK722.out 8
           have hfz104_9:=bFr BK722.out 9
           have hfz104_10:=bFr BK722.out 10
           go_wp2_with (first|((with_reducible refine gate_callee (f:=37) rfl ?_);refine goesL_ (some 77) rfl rfl Try.func37 (by kernel_rfl) rfl #[.agg #[.string t766,.int .i64 t767,.int .i64 t768,.int .i64 t769,.int .i64 t770,.int .i64 t771,.int .i64 t772,.int .i64 t773,.string t774,.string t775,.bool t776],.agg #[.string t707,.int .i64 t708,.int .i64 t709,.int .i64 t710,.int .i64 t711,.int .i64 t712,.int .i64 t713,.int .i64 t714,.string t715,.string t716,.bool t717]] rfl (by (try simp only [List.map_toArray,List.map_cons,List.map_nil]);first | done | rfl|(simp only [List.length_drop,List.length_take];rfl)) ?_;(with_reducible refine (laws_eqConn.calls t766 t767 t768 t769 t770 t771 t772 t773 t774 t775 t776 t707 t708 t709 t710 t711 t712 t713 t714 t715 t716 t717 true _ A83.out).mono ?_);rintro e w105 ⟨rfl,hb⟩;refine ⟨_,rfl,?_⟩;have n0_:=aMk (Kd.R_below (by (with_reducible repeat (first|apply Kd.R_alloc|apply Kd.R_drewN|apply Kd.R_drew));exact (Kd.R_mono (Kd.R_far (p:=⟨gb781,10,none⟩) (Kd.R_far (p:=⟨gb781,9,none⟩) (Kd.R_far (p:=⟨gb781,8,none⟩) (Kd.R_far (p:=⟨gb781,7,none⟩) (Kd.R_far (p:=⟨gb781,6,none⟩) (Kd.R_far (p:=⟨gb781,5,none⟩) (Kd.R_far (p:=⟨gb781,4,none⟩) (Kd.R_far (p:=⟨gb781,3,none⟩) (Kd.R_far (p:=⟨gb781,2,none⟩) (Kd.R_far (p:=⟨gb781,1,none⟩) (Kd.R_far (p:=⟨gb781,0,none⟩) (Kd.R_types HO_7.out BK781.out (by decide)) (fun _ hk => hk.2) (.string t766)) (fun _ hk => hk.2) (.int .i64 t767)) (fun _ hk => hk.2) (.int .i64 t768)) (fun _ hk => hk.2) (.int .i64 t769)) (fun _ hk => hk.2) (.int .i64 t770)) (fun _ hk => hk.2) (.int .i64 t771)) (fun _ hk => hk.2) (.int .i64 t772)) (fun _ hk => hk.2) (.int .i64 t773)) (fun _ hk => hk.2) (.string t774)) (fun _ hk => hk.2) (.string t775)) (fun _ hk => hk.2) (.bool t776)) (fun _ h_ => h_.1))) hb);have n1_:=aMk (Kd.R_below (by (with_reducible repeat (first|apply Kd.R_alloc|apply Kd.R_drewN|apply Kd.R_drew));exact (Kd.R_mono (Kd.R_far (p:=⟨gb781,10,none⟩) (Kd.R_far (p:=⟨gb781,9,none⟩) (Kd.R_far (p:=⟨gb781,8,none⟩) (Kd.R_far (p:=⟨gb781,7,none⟩) (Kd.R_far (p:=⟨gb781,6,none⟩) (Kd.R_far (p:=⟨gb781,5,none⟩) (Kd.R_far (p:=⟨gb781,4,none⟩) (Kd.R_far (p:=⟨gb781,3,none⟩) (Kd.R_far (p:=⟨gb781,2,none⟩) (Kd.R_far (p:=⟨gb781,1,none⟩) (Kd.R_far (p:=⟨gb781,0,none⟩) (Kd.R_types HO_10.out BK781.out (by decide)) (fun _ hk => hk.2) (.string t766)) (fun _ hk => hk.2) (.int .i64 t767)) (fun _ hk => hk.2) (.int .i64 t768)) (fun _ hk => hk.2) (.int .i64 t769)) (fun _ hk => hk.2) (.int .i64 t770)) (fun _ hk => hk.2) (.int .i64 t771)) (fun _ hk => hk.2) (.int .i64 t772)) (fun _ hk => hk.2) (.int .i64 t773)) (fun _ hk => hk.2) (.string t774)) (fun _ hk => hk.2) (.string t775)) (fun _ hk => hk.2) (.bool t776)) (fun _ h_ => h_.1))) hb);have n2_:=aMk (Kd.R_below (by (with_reducible repeat (first|apply Kd.R_alloc|apply Kd.R_drewN|apply Kd.R_drew));exact (Kd.R_mono (Kd.R_far (p:=⟨gb781,10,none⟩) (Kd.R_far (p:=⟨gb781,9,none⟩) (Kd.R_far (p:=⟨gb781,8,none⟩) (Kd.R_far (p:=⟨gb781,7,none⟩) (Kd.R_far (p:=⟨gb781,6,none⟩) (Kd.R_far (p:=⟨gb781,5,none⟩) (Kd.R_far (p:=⟨gb781,4,none⟩) (Kd.R_far (p:=⟨gb781,3,none⟩) (Kd.R_far (p:=⟨gb781,2,none⟩) (Kd.R_far (p:=⟨gb781,1,none⟩) (Kd.R_far (p:=⟨gb781,0,none⟩) (Kd.R_types HO779.out BK781.out (by decide)) (fun _ hk => hk.2) (.string t766)) (fun _ hk => hk.2) (.int .i64 t767)) (fun _ hk => hk.2) (.int .i64 t768)) (fun _ hk => hk.2) (.int .i64 t769)) (fun _ hk => hk.2) (.int .i64 t770)) (fun _ hk => hk.2) (.int .i64 t771)) (fun _ hk => hk.2) (.int .i64 t772)) (fun _ hk => hk.2) (.int .i64 t773)) (fun _ hk => hk.2) (.string t774)) (fun _ hk => hk.2) (.string t775)) (fun _ hk => hk.2) (.bool t776)) (fun _ h_ => h_.1))) hb);have n3_:=aMk (blk_below (g:=gb694) (o:=.cells #[.string a0_0,.int .i64 a0_1,.int .i64 a0_2,.int .i64 a0_3,.int .i64 a0_4,.int .i64 a0_5,.int .i64 a0_6,.int .i64 a0_7,.string a0_8,.string a0_9,.bool a0_10] 31 (0,0)) (by (with_reducible repeat (first|refine bDn ?_ _|refine bDr ?_|refine bAl ?_ _));refine blk_far ?_ NB694_781.out _;(with_reducible repeat (first|refine bDn ?_ _|refine bDr ?_|refine bAl ?_ _));refine blk_far ?_ NB694_781.out _;(with_reducible repeat (first|refine bDn ?_ _|refine bDr ?_|refine bAl ?_ _));refine blk_far ?_ NB694_781.out _;(with_reducible repeat (first|refine bDn ?_ _|refine bDr ?_|refine bAl ?_ _));refine blk_far ?_ NB694_781.out _;(with_reducible repeat (first|refine bDn ?_ _|refine bDr ?_|refine bAl ?_ _));refine blk_far ?_ NB694_781.out _;(with_reducible repeat (first|refine bDn ?_ _|refine bDr ?_|refine bAl ?_ _));refine blk_far ?_ NB694_781.out _;(with_reducible repeat (first|refine bDn ?_ _|refine bDr ?_|refine bAl ?_ _));refine blk_far ?_ NB694_781.out _;(with_reducible repeat (first|refine bDn ?_ _|refine bDr ?_|refine bAl ?_ _));refine blk_far ?_ NB694_781.out _;(with_reducible repeat (first|refine bDn ?_ _|refine bDr ?_|refine bAl ?_ _));refine blk_far ?_ NB694_781.out _;(with_reducible repeat (first|refine bDn ?_ _|refine bDr ?_|refine bAl ?_ _));refine blk_far ?_ NB694_781.out _;(with_reducible repeat (first|refine bDn ?_ _|refine bDr ?_|refine bAl ?_ _));refine blk_far ?_ NB694_781.out _;(with_reducible repeat (first|refine bDn ?_ _|refine bDr ?_|refine bAl ?_ _));exact BK694.out) hb);have n4_:=aMk (blk_below (g:=gb722) (o:=.cells #[.string t707,.int .i64 t708,.int .i64 t709,.int .i64 t710,.int .i64 t711,.int .i64 t712,.int .i64 t713,.int .i64 t714,.string t715,.string t716,.bool t717] 34 (0,0)) (by (with_reducible repeat (first|refine bDn ?_ _|refine bDr ?_|refine bAl ?_ _));refine blk_far ?_ NB722_781.out _;(with_reducible repeat (first|refine bDn ?_ _|refine bDr ?_|refine bAl ?_ _));refine blk_far ?_ NB722_781.out _;(with_reducible repeat (first|refine bDn ?_ _|refine bDr ?_|refine bAl ?_ _));refine blk_far ?_ NB722_781.out _;(with_reducible repeat (first|refine bDn ?_ _|refine bDr ?_|refine bAl ?_ _));refine blk_far ?_ NB722_781.out _;(with_reducible repeat (first|refine bDn ?_ _|refine bDr ?_|refine bAl ?_ _));refine blk_far ?_ NB722_781.out _;(with_reducible repeat (first|refine bDn ?_ _|refine bDr ?_|refine bAl ?_ _));refine blk_far ?_ NB722_781.out _;(with_reducible repeat (first|refine bDn ?_ _|refine bDr ?_|refine bAl ?_ _));refine blk_far ?_ NB722_781.out _;(with_reducible repeat (first|refine bDn ?_ _|refine bDr ?_|refine bAl ?_ _));refine blk_far ?_ NB722_781.out _;(with_reducible repeat (first|refine bDn ?_ _|refine bDr ?_|refine bAl ?_ _));refine blk_far ?_ NB722_781.out _;(with_reducible repeat (first|refine bDn ?_ _|refine bDr ?_|refine bAl ?_ _));refine blk_far ?_ NB722_781.out _;(with_reducible repeat (first|refine bDn ?_ _|refine bDr ?_|refine bAl ?_ _));refine blk_far ?_ NB722_781.out _;(with_reducible repeat (first|refine bDn ?_ _|refine bDr ?_|refine bAl ?_ _));exact BK722.out) hb);have n5_:=aMk (blk_below (g:=gb749) (o:=.cells #[.string t734,.int .i64 t735,.int .i64 t736,.int .i64 t737,.int .i64 t738,.int .i64 t739,.int .i64 t740,.int .i64 t741,.string t742,.string t743,.bool t744] 34 (0,0)) (by (with_reducible repeat (first|refine bDn ?_ _|refine bDr ?_|refine bAl ?_ _));refine blk_far ?_ NB749_781.out _;(with_reducible repeat (first|refine bDn ?_ _|refine bDr ?_|refine bAl ?_ _));refine blk_far ?_ NB749_781.out _;(with_reducible repeat (first|refine bDn ?_ _|refine bDr ?_|refine bAl ?_ _));refine blk_far ?_ NB749_781.out _;(with_reducible repeat (first|refine bDn ?_ _|refine bDr ?_|refine bAl ?_ _));refine blk_far ?_ NB749_781.out _;(with_reducible repeat (first|refine bDn ?_ _|refine bDr ?_|refine bAl ?_ _));refine blk_far ?_ NB749_781.out _;(with_reducible repeat (first|refine bDn ?_ _|refine bDr ?_|refine bAl ?_ _));refine blk_far ?_ NB749_781.out _;(with_reducible repeat (first|refine bDn ?_ _|refine bDr ?_|refine bAl ?_ _));refine blk_far ?_ NB749_781.out _;(with_reducible repeat (first|refine bDn ?_ _|refine bDr ?_|refine bAl ?_ _));refine blk_far ?_ NB749_781.out _;(with_reducible repeat (first|refine bDn ?_ _|refine bDr ?_|refine bAl ?_ _));refine blk_far ?_ NB749_781.out _;(with_reducible repeat (first|refine bDn ?_ _|refine bDr ?_|refine bAl ?_ _));refine blk_far ?_ NB749_781.out _;(with_reducible repeat (first|refine bDn ?_ _|refine bDr ?_|refine bAl ?_ _));refine blk_far ?_ NB749_781.out _;(with_reducible repeat (first|refine bDn ?_ _|refine bDr ?_|refine bAl ?_ _));exact BK749.out) hb);have n6_:=aMk (blk_below (g:=gb781) (o:=.cells #[.string t766,.int .i64 t767,.int .i64 t768,.int .i64 t769,.int .i64 t770,.int .i64 t771,.int .i64 t772,.int .i64 t773,.string t774,.string t775,.bool t776] 34 (0,0)) (by (with_reducible repeat (first|refine bDn ?_ _|refine bDr ?_|refine bAl ?_ _));refine blk_put (cs:=#[.string t766,.int .i64 t767,.int .i64 t768,.int .i64 t769,.int .i64 t770,.int .i64 t771,.int .i64 t772,.int .i64 t773,.string t774,.string t775,.bool false]) ?_ 10 _ rfl;(with_reducible repeat (first|refine bDn ?_ _|refine bDr ?_|refine bAl ?_ _));refine blk_put (cs:=#[.string t766,.int .i64 t767,.int .i64 t768,.int .i64 t769,.int .i64 t770,.int .i64 t771,.int .i64 t772,.int .i64 t773,.string t774,.string (⟨#[]⟩ : ByteArray),.bool false]) ?_ 9 _ rfl;(with_reducible repeat (first|refine bDn ?_ _|refine bDr ?_|refine bAl ?_ _));refine blk_put (cs:=#[.string t766,.int .i64 t767,.int .i64 t768,.int .i64 t769,.int .i64 t770,.int .i64 t771,.int .i64 t772,.int .i64 t773,.string (⟨#[]⟩ : ByteArray),.string (⟨#[]⟩ : ByteArray),.bool false]) ?_ 8 _ rfl;(with_reducible repeat (first|refine bDn ?_ _|refine bDr ?_|refine bAl ?_ _));refine blk_put (cs:=#[.string t766,.int .i64 t767,.int .i64 t768,.int .i64 t769,.int .i64 t770,.int .i64 t771,.int .i64 t772,.int .i64 0,.string (⟨#[]⟩ : ByteArray),.string (⟨#[]⟩ : ByteArray),.bool false]) ?_ 7 _ rfl;(with_reducible repeat (first|refine bDn ?_ _|refine bDr ?_|refine bAl ?_ _));refine blk_put (cs:=#[.string t766,.int .i64 t767,.int .i64 t768,.int .i64 t769,.int .i64 t770,.int .i64 t771,.int .i64 0,.int .i64 0,.string (⟨#[]⟩ : ByteArray),.string (⟨#[]⟩ : ByteArray),.bool false]) ?_ 6 _ rfl;(with_reducible repeat (first|refine bDn ?_ _|refine bDr ?_|refine bAl ?_ _));refine blk_put (cs:=#[.string t766,.int .i64 t767,.int .i64 t768,.int .i64 t769,.int .i64 t770,.int .i64 0,.int .i64 0,.int .i64 0,.string (⟨#[]⟩ : ByteArray),.string (⟨#[]⟩ : ByteArray),.bool false]) ?_ 5 _ rfl;(with_reducible repeat (first|refine bDn ?_ _|refine bDr ?_|refine bAl ?_ _));refine blk_put (cs:=#[.string t766,.int .i64 t767,.int .i64 t768,.int .i64 t769,.int .i64 0,.int .i64 0,.int .i64 0,.int .i64 0,.string (⟨#[]⟩ : ByteArray),.string (⟨#[]⟩ : ByteArray),.bool false]) ?_ 4 _ rfl;(with_reducible repeat (first|refine bDn ?_ _|refine bDr ?_|refine bAl ?_ _));refine blk_put (cs:=#[.string t766,.int .i64 t767,.int .i64 t768,.int .i64 0,.int .i64 0,.int .i64 0,.int .i64 0,.int .i64 0,.string (⟨#[]⟩ : ByteArray),.string (⟨#[]⟩ : ByteArray),.bool false]) ?_ 3 _ rfl;(with_reducible repeat (first|refine bDn ?_ _|refine bDr ?_|refine bAl ?_ _));refine blk_put (cs:=#[.string t766,.int .i64 t767,.int .i64 0,.int .i64 0,.int .i64 0,.int .i64 0,.int .i64 0,.int .i64 0,.string (⟨#[]⟩ : ByteArray),.string (⟨#[]⟩ : ByteArray),.bool false]) ?_ 2 _ rfl;(with_reducible repeat (first|refine bDn ?_ _|refine bDr ?_|refine bAl ?_ _));refine blk_put (cs:=#[.string t766,.int .i64 0,.int .i64 0,.int .i64 0,.int .i64 0,.int .i64 0,.int .i64 0,.int .i64 0,.string (⟨#[]⟩ : ByteArray),.string (⟨#[]⟩ : ByteArray),.bool false]) ?_ 1 _ rfl;(with_reducible repeat (first|refine bDn ?_ _|refine bDr ?_|refine bAl ?_ _));refine blk_put (cs:=#[.string (⟨#[]⟩ : ByteArray),.int .i64 0,.int .i64 0,.int .i64 0,.int .i64 0,.int .i64 0,.int .i64 0,.int .i64 0,.string (⟨#[]⟩ : ByteArray),.string (⟨#[]⟩ : ByteArray),.bool false]) ?_ 0 _ rfl;(with_reducible repeat (first|refine bDn ?_ _|refine bDr ?_|refine bAl ?_ _));exact BK781.out) hb);have n7_:=aMk (below_step (by repeat (first|(with_reducible first|exact HB.out|apply bwA|apply bwN|apply bw1|refine below_set ?_ GE694.out|refine below_set ?_ GE722.out|refine below_set ?_ GE749.out|refine below_set ?_ GE781.out)|exact HB.out)) hb);clear HO_7;clear HO_10;clear HO779;clear BK694;clear BK722;clear BK749;clear BK781;clear HB;have HO_7:=n0_;have HO_10:=n1_;have HO779:=n2_;have BK694:=n3_;have BK722:=n4_;have BK749:=n5_;have BK781:=n6_;have HB:=n7_;clear n0_ n1_ n2_ n3_ n4_ n5_ n6_ n7_;(try clear hb);(try clear hb2);(try clear hk);(try clear hi);obtain ⟨Ao106,co106,eo106⟩:=Kd.R_slice HO779.out;subst eo106;obtain ⟨Ao107,co107,eo107⟩:=Kd.R_slice HO_7.out;subst eo107)|(go_at_call 38;(with_reducible refine (laws_eqSegmentS.calls kj13 _ _ t777 _ _ t718 false _ ?side1 ?side2 ?side3 ?side4 A85.out).mono ?_);(case side1 => repeat (first|exact (Kd.R_reads' HO779.out).2.2|(with_reducible refine Kd.C_alloc ?_ _)|(with_reducible refine Kd.C_drewN ?_ _)|(with_reducible refine Kd.C_drew ?_)));(case side2 => exact (Kd.R_reads' HO779.out).2.1);(case side3 => repeat (first|exact (Kd.R_reads' HO_7.out).2.2|(with_reducible refine Kd.C_alloc ?_ _)|(with_reducible refine Kd.C_drewN ?_ _)|(with_reducible refine Kd.C_drew ?_)));(case side4 => exact (Kd.R_reads' HO_7.out).2.1);rintro e w108 ⟨rfl,hb⟩;have n0_:=aMk (Kd.R_below (by (with_reducible repeat (first|apply Kd.R_alloc|apply Kd.R_drewN|apply Kd.R_drew));exact HO_7.out) hb);have n1_:=aMk (Kd.R_below (by (with_reducible repeat (first|apply Kd.R_alloc|apply Kd.R_drewN|apply Kd.R_drew));exact HO_10.out) hb);have n2_:=aMk (Kd.R_below (by (with_reducible repeat (first|apply Kd.R_alloc|apply Kd.R_drewN|apply Kd.R_drew));exact HO779.out) hb);have n3_:=aMk (blk_below (g:=gb694) (o:=.cells #[.string a0_0,.int .i64 a0_1,.int .i64 a0_2,.int .i64 a0_3,.int .i64 a0_4,.int .i64 a0_5,.int .i64 a0_6,.int .i64 a0_7,.string a0_8,.string a0_9,.bool a0_10] 31 (0,0)) (by (with_reducible repeat (first|refine bDn ?_ _|refine bDr ?_|refine bAl ?_ _));exact BK694.out) hb);have n4_:=aMk (blk_below (g:=gb722) (o:=.cells #[.string t707,.int .i64 t708,.int .i64 t709,.int .i64 t710,.int .i64 t711,.int .i64 t712,.int .i64 t713,.int .i64 t714,.string t715,.string t716,.bool t717] 34 (0,0)) (by (with_reducible repeat (first|refine bDn ?_ _|refine bDr ?_|refine bAl ?_ _));exact BK722.out) hb);have n5_:=aMk (blk_below (g:=gb749) (o:=.cells #[.string t734,.int .i64 t735,.int .i64 t736,.int .i64 t737,.int .i64 t738,.int .i64 t739,.int .i64 t740,.int .i64 t741,.string t742,.string t743,.bool t744] 34 (0,0)) (by (with_reducible repeat (first|refine bDn ?_ _|refine bDr ?_|refine bAl ?_ _));exact BK749.out) hb);have n6_:=aMk (blk_below (g:=gb781) (o:=.cells #[.string t766,.int .i64 t767,.int .i64 t768,.int .i64 t769,.int .i64 t770,.int .i64 t771,.int .i64 t772,.int .i64 t773,.string t774,.string t775,.bool t776] 34 (0,0)) (by (with_reducible repeat (first|refine bDn ?_ _|refine bDr ?_|refine bAl ?_ _));exact BK781.out) hb);have n7_:=aMk (below_step (by repeat (first|(with_reducible first|exact HB.out|apply bwA|apply bwN|apply bw1|refine below_set ?_ GE694.out|refine below_set ?_ GE722.out|refine below_set ?_ GE749.out|refine below_set ?_ GE781.out)|exact HB.out)) hb);clear HO_7;clear HO_10;clear HO779;clear BK694;clear BK722;clear BK749;clear BK781;clear HB;have HO_7:=n0_;have HO_10:=n1_;have HO779:=n2_;have BK694:=n3_;have BK722:=n4_;have BK749:=n5_;have BK781:=n6_;have HB:=n7_;clear n0_ n1_ n2_ n3_ n4_ n5_ n6_ n7_;(try clear hb);(try clear hb2);(try clear hk);(try clear hi)))
           go_meet
           case rel => exact ⟨_,(true),(by first | rfl|(simp;done)|(simp [*];done)|(simp [ne_nil_b];done)|(simp [ne_nil_b, *];done)),H',⟨by have:=HJ13.out;first | omega|exact Nat.le_refl _⟩,⟨by (with_reducible repeat (first|apply Kd.R_alloc|apply Kd.R_drewN|apply Kd.R_drew));exact Kd.R_mono HO_10.out (fun _ hk => trivial)⟩,⟨by (with_reducible repeat (first|refine bDn ?_ _|refine bDr ?_|refine bAl ?_ _));exact BK694.out⟩,⟨by (with_reducible repeat (first|refine bDn ?_ _|refine bDr ?_|refine bAl ?_ _));exact BK722.out⟩,⟨by (with_reducible repeat (first|refine bDn ?_ _|refine bDr ?_|refine bAl ?_ _));exact BK749.out⟩,⟨by (with_reducible repeat (first|refine bDn ?_ _|refine bDr ?_|refine bAl ?_ _));exact BK781.out⟩,⟨by repeat (first|(with_reducible first|exact HB.out|apply bwA|apply bwN|apply bw1|refine below_set ?_ GE694.out|refine below_set ?_ GE722.out|refine below_set ?_ GE749.out|refine below_set ?_ GE781.out)|exact HB.out)⟩⟩
         ·replace c84:=Bool.eq_false_iff.mpr c84
          subst c84
          have H1 : (laws_FnExactConnSay.j1 kj13 t753 t752 true) = some r:=by rw [if_neg (show ¬ (false = true) by decide)] at H;exact H
          clear H
          have H:=H1
          clear H1
          have H':=aMk H
          clear H
          have hnb109:=NB781_694.out
          have hnc109:=NB694_781.out
          have hnb110:=NB781_722.out
          have hnc110:=NB722_781.out
          have hnb111:=NB781_749.out
          have hnc111:=NB749_781.out
          have hcz112_0 : w78.cell? ⟨gb781,0,none⟩ = some (.string (⟨#[]⟩ : ByteArray)):=(bCe BK781.out 0).trans rfl
          have hcz112_1 : w78.cell? ⟨gb781,1,none⟩ = some (.int .i64 0):=(bCe BK781.out 1).trans rfl
          have hcz112_2 : w78.cell? ⟨gb781,2,none⟩ = some (.int .i64 0):=(bCe BK781.out 2).trans rfl
          have hcz112_3 : w78.cell? ⟨gb781,3,none⟩ = some (.int .i64 0):=(bCe BK781.out 3).trans rfl
          have hcz112_4 : w78.cell? ⟨gb781,4,none⟩ = some (.int .i64 0):=(bCe BK781.out 4).trans rfl
          have hcz112_5 : w78.cell? ⟨gb781,5,none⟩ = some (.int .i64 0):=(bCe BK781.out 5).trans rfl
          have hcz112_6 : w78.cell? ⟨gb781,6,none⟩ = some (.int .i64 0):=(bCe BK781.out 6).trans rfl
          have hcz112_7 : w78.cell? ⟨gb781,7,none⟩ = some (.int .i64 0):=(bCe BK781.out 7).trans rfl
          have hcz112_8 : w78.cell? ⟨gb781,8,none⟩ = some (.string (⟨#[]⟩ : ByteArray)):=(bCe BK781.out 8).trans rfl
          have hcz112_9 : w78.cell? ⟨gb781,9,none⟩ = some (.string (⟨#[]⟩ : ByteArray)):=(bCe BK781.out 9).trans rfl
          have hcz112_10 : w78.cell? ⟨gb781,10,none⟩ = some (.bool false):=(bCe BK781.out 10).trans rfl
          have hfz112_0:=bFr BK781.out 0
          have hfz112_1:=bFr BK781.out 1
          have hfz112_2:=bFr BK781.out 2
          have hfz112_3:=bFr BK781.out 3
          have hfz112_4:=bFr BK781.out 4
          have hfz112_5:=bFr BK781.out 5
          have hfz112_6:=bFr BK781.out 6
          have hfz112_7:=bFr BK781.out 7
          have hfz112_8:=bFr BK781.out 8
          have hfz112_9:=bFr BK781.out 9
          have hfz112_10:=bFr BK781.out 10
          have hnb113:=NB722_694.out
          have hnc113:=NB694_722.out
          have hnb114:=NB722_749.out
          have hnc114:=NB749_722.out
          have hcz115_0 : w78.cell? ⟨gb722,0,none⟩ = some (.string t707):=(bCe BK722.out 0).trans rfl
          have hcz115_1 : w78.cell? ⟨gb722,1,none⟩ = some (.int .i64 t708):=(bCe BK722.out 1).trans rfl
          have hcz115_2 : w78.cell? ⟨gb722,2,none⟩ = some (.int .i64 t709):=(bCe BK722.out 2).trans rfl
          have hcz115_3 : w78.cell? ⟨gb722,3,none⟩ = some (.int .i64 t710):=(bCe BK722.out 3).trans rfl
          have hcz115_4 : w78.cell? ⟨gb722,4,none⟩ = some (.int .i64 t711):=(bCe BK722.out 4).trans rfl
          have hcz115_5 : w78.cell? ⟨gb722,5,none⟩ = some (.int .i64 t712):=(bCe BK722.out 5).trans rfl
          have hcz115_6 : w78.cell? ⟨gb722,6,none⟩ = some (.int .i64 t713):=(bCe BK722.out 6).trans rfl
          have hcz115_7 : w78.cell? ⟨gb722,7,none⟩ = some (.int .i64 t714):=(bCe BK722.out 7).trans rfl
          have hcz115_8 : w78.cell? ⟨gb722,8,none⟩ = some (.string t715):=(bCe BK722.out 8).trans rfl
          have hcz115_9 : w78.cell? ⟨gb722,9,none⟩ = some (.string t716):=(bCe BK722.out 9).trans rfl
          have hcz115_10 : w78.cell? ⟨gb722,10,none⟩ = some (.bool t717):=(bCe BK722.out 10).trans rfl
          have hfz115_0:=bFr BK722.out 0
          have hfz115_1:=bFr BK722.out 1
          have hfz115_2:=bFr BK722.out 2
          have hfz115_3:=bFr BK722.out 3
          have hfz115_4:=bFr BK722.out 4
          have hfz115_5:=bFr BK722.out 5
          have hfz115_6:=bFr BK722.out 6
          have hfz115_7:=bFr BK722.out 7
          have hfz115_8:=bFr BK722.out 8
          have hfz115_9:=bFr BK722.out 9
          have hfz115_10:=bFr BK722.out 10
          go_wp2_with (first|((with_reducible refine gate_callee (f:=37) rfl ?_);refine goesL_ (some 77) rfl rfl Try.func37 (by kernel_rfl) rfl #[.agg #[.string t766,.int .i64 t767,.int .i64 t768,.int .i64 t769,.int .i64 t770,.int .i64 t771,.int .i64 t772,.int .i64 t773,.string t774,.string t775,.bool t776],.agg #[.string t707,.int .i64 t708,.int .i64 t709,.int .i64 t710,.int .i64 t711,.int .i64 t712,.int .i64 t713,.int .i64 t714,.string t715,.string t716,.bool t717]] rfl (by (try simp only [List.map_toArray,List.map_cons,List.map_nil]);first | done | rfl|(simp only [List.length_drop,List.length_take];rfl)) ?_;(with_reducible refine (laws_eqConn.calls t766 t767 t768 t769 t770 t771 t772 t773 t774 t775 t776 t707 t708 t709 t710 t711 t712 t713 t714 t715 t716 t717 false _ A83.out).mono ?_);rintro e w116 ⟨rfl,hb⟩;refine ⟨_,rfl,?_⟩;have n0_:=aMk (Kd.R_below (by (with_reducible repeat (first|apply Kd.R_alloc|apply Kd.R_drewN|apply Kd.R_drew));exact (Kd.R_mono (Kd.R_far (p:=⟨gb781,10,none⟩) (Kd.R_far (p:=⟨gb781,9,none⟩) (Kd.R_far (p:=⟨gb781,8,none⟩) (Kd.R_far (p:=⟨gb781,7,none⟩) (Kd.R_far (p:=⟨gb781,6,none⟩) (Kd.R_far (p:=⟨gb781,5,none⟩) (Kd.R_far (p:=⟨gb781,4,none⟩) (Kd.R_far (p:=⟨gb781,3,none⟩) (Kd.R_far (p:=⟨gb781,2,none⟩) (Kd.R_far (p:=⟨gb781,1,none⟩) (Kd.R_far (p:=⟨gb781,0,none⟩) (Kd.R_types HO_7.out BK781.out (by decide)) (fun _ hk => hk.2) (.string t766)) (fun _ hk => hk.2) (.int .i64 t767)) (fun _ hk => hk.2) (.int .i64 t768)) (fun _ hk => hk.2) (.int .i64 t769)) (fun _ hk => hk.2) (.int .i64 t770)) (fun _ hk => hk.2) (.int .i64 t771)) (fun _ hk => hk.2) (.int .i64 t772)) (fun _ hk => hk.2) (.int .i64 t773)) (fun _ hk => hk.2) (.string t774)) (fun _ hk => hk.2) (.string t775)) (fun _ hk => hk.2) (.bool t776)) (fun _ h_ => h_.1))) hb);have n1_:=aMk (Kd.R_below (by (with_reducible repeat (first|apply Kd.R_alloc|apply Kd.R_drewN|apply Kd.R_drew));exact (Kd.R_mono (Kd.R_far (p:=⟨gb781,10,none⟩) (Kd.R_far (p:=⟨gb781,9,none⟩) (Kd.R_far (p:=⟨gb781,8,none⟩) (Kd.R_far (p:=⟨gb781,7,none⟩) (Kd.R_far (p:=⟨gb781,6,none⟩) (Kd.R_far (p:=⟨gb781,5,none⟩) (Kd.R_far (p:=⟨gb781,4,none⟩) (Kd.R_far (p:=⟨gb781,3,none⟩) (Kd.R_far (p:=⟨gb781,2,none⟩) (Kd.R_far (p:=⟨gb781,1,none⟩) (Kd.R_far (p:=⟨gb781,0,none⟩) (Kd.R_types HO_10.out BK781.out (by decide)) (fun _ hk => hk.2) (.string t766)) (fun _ hk => hk.2) (.int .i64 t767)) (fun _ hk => hk.2) (.int .i64 t768)) (fun _ hk => hk.2) (.int .i64 t769)) (fun _ hk => hk.2) (.int .i64 t770)) (fun _ hk => hk.2) (.int .i64 t771)) (fun _ hk => hk.2) (.int .i64 t772)) (fun _ hk => hk.2) (.int .i64 t773)) (fun _ hk => hk.2) (.string t774)) (fun _ hk => hk.2) (.string t775)) (fun _ hk => hk.2) (.bool t776)) (fun _ h_ => h_.1))) hb);have n2_:=aMk (Kd.R_below (by (with_reducible repeat (first|apply Kd.R_alloc|apply Kd.R_drewN|apply Kd.R_drew));exact (Kd.R_mono (Kd.R_far (p:=⟨gb781,10,none⟩) (Kd.R_far (p:=⟨gb781,9,none⟩) (Kd.R_far (p:=⟨gb781,8,none⟩) (Kd.R_far (p:=⟨gb781,7,none⟩) (Kd.R_far (p:=⟨gb781,6,none⟩) (Kd.R_far (p:=⟨gb781,5,none⟩) (Kd.R_far (p:=⟨gb781,4,none⟩) (Kd.R_far (p:=⟨gb781,3,none⟩) (Kd.R_far (p:=⟨gb781,2,none⟩) (Kd.R_far (p:=⟨gb781,1,none⟩) (Kd.R_far (p:=⟨gb781,0,none⟩) (Kd.R_types HO779.out BK781.out (by decide)) (fun _ hk => hk.2) (.string t766)) (fun _ hk => hk.2) (.int .i64 t767)) (fun _ hk => hk.2) (.int .i64 t768)) (fun _ hk => hk.2) (.int .i64 t769)) (fun _ hk => hk.2) (.int .i64 t770)) (fun _ hk => hk.2) (.int .i64 t771)) (fun _ hk => hk.2) (.int .i64 t772)) (fun _ hk => hk.2) (.int .i64 t773)) (fun _ hk => hk.2) (.string t774)) (fun _ hk => hk.2) (.string t775)) (fun _ hk => hk.2) (.bool t776)) (fun _ h_ => h_.1))) hb);have n3_:=aMk (blk_below (g:=gb694) (o:=.cells #[.string a0_0,.int .i64 a0_1,.int .i64 a0_2,.int .i64 a0_3,.int .i64 a0_4,.int .i64 a0_5,.int .i64 a0_6,.int .i64 a0_7,.string a0_8,.string a0_9,.bool a0_10] 31 (0,0)) (by (with_reducible repeat (first|refine bDn ?_ _|refine bDr ?_|refine bAl ?_ _));refine blk_far ?_ NB694_781.out _;(with_reducible repeat (first|refine bDn ?_ _|refine bDr ?_|refine bAl ?_ _));refine blk_far ?_ NB694_781.out _;(with_reducible repeat (first|refine bDn ?_ _|refine bDr ?_|refine bAl ?_ _));refine blk_far ?_ NB694_781.out _;(with_reducible repeat (first|refine bDn ?_ _|refine bDr ?_|refine bAl ?_ _));refine blk_far ?_ NB694_781.out _;(with_reducible repeat (first|refine bDn ?_ _|refine bDr ?_|refine bAl ?_ _));refine blk_far ?_ NB694_781.out _;(with_reducible repeat (first|refine bDn ?_ _|refine bDr ?_|refine bAl ?_ _));refine blk_far ?_ NB694_781.out _;(with_reducible repeat (first|refine bDn ?_ _|refine bDr ?_|refine bAl ?_ _));refine blk_far ?_ NB694_781.out _;(with_reducible repeat (first|refine bDn ?_ _|refine bDr ?_|refine bAl ?_ _));refine blk_far ?_ NB694_781.out _;(with_reducible repeat (first|refine bDn ?_ _|refine bDr ?_|refine bAl ?_ _));refine blk_far ?_ NB694_781.out _;(with_reducible repeat (first|refine bDn ?_ _|refine bDr ?_|refine bAl ?_ _));refine blk_far ?_ NB694_781.out _;(with_reducible repeat (first|refine bDn ?_ _|refine bDr ?_|refine bAl ?_ _));refine blk_far ?_ NB694_781.out _;(with_reducible repeat (first|refine bDn ?_ _|refine bDr ?_|refine bAl ?_ _));exact BK694.out) hb);have n4_:=aMk (blk_below (g:=gb722) (o:=.cells #[.string t707,.int .i64 t708,.int .i64 t709,.int .i64 t710,.int .i64 t711,.int .i64 t712,.int .i64 t713,.int .i64 t714,.string t715,.string t716,.bool t717] 34 (0,0)) (by (with_reducible repeat (first|refine bDn ?_ _|refine bDr ?_|refine bAl ?_ _));refine blk_far ?_ NB722_781.out _;(with_reducible repeat (first|refine bDn ?_ _|refine bDr ?_|refine bAl ?_ _));refine blk_far ?_ NB722_781.out _;(with_reducible repeat (first|refine bDn ?_ _|refine bDr ?_|refine bAl ?_ _));refine blk_far ?_ NB722_781.out _;(with_reducible repeat (first|refine bDn ?_ _|refine bDr ?_|refine bAl ?_ _));refine blk_far ?_ NB722_781.out _;(with_reducible repeat (first|refine bDn ?_ _|refine bDr ?_|refine bAl ?_ _));refine blk_far ?_ NB722_781.out _;(with_reducible repeat (first|refine bDn ?_ _|refine bDr ?_|refine bAl ?_ _));refine blk_far ?_ NB722_781.out _;(with_reducible repeat (first|refine bDn ?_ _|refine bDr ?_|refine bAl ?_ _));refine blk_far ?_ NB722_781.out _;(with_reducible repeat (first|refine bDn ?_ _|refine bDr ?_|refine bAl ?_ _));refine blk_far ?_ NB722_781.out _;(with_reducible repeat (first|refine bDn ?_ _|refine bDr ?_|refine bAl ?_ _));refine blk_far ?_ NB722_781.out _;(with_reducible repeat (first|refine bDn ?_ _|refine bDr ?_|refine bAl ?_ _));refine blk_far ?_ NB722_781.out _;(with_reducible repeat (first|refine bDn ?_ _|refine bDr ?_|refine bAl ?_ _));refine blk_far ?_ NB722_781.out _;(with_reducible repeat (first|refine bDn ?_ _|refine bDr ?_|refine bAl ?_ _));exact BK722.out) hb);have n5_:=aMk (blk_below (g:=gb749) (o:=.cells #[.string t734,.int .i64 t735,.int .i64 t736,.int .i64 t737,.int .i64 t738,.int .i64 t739,.int .i64 t740,.int .i64 t741,.string t742,.string t743,.bool t744] 34 (0,0)) (by (with_reducible repeat (first|refine bDn ?_ _|refine bDr ?_|refine bAl ?_ _));refine blk_far ?_ NB749_781.out _;(with_reducible repeat (first|refine bDn ?_ _|refine bDr ?_|refine bAl ?_ _));refine blk_far ?_ NB749_781.out _;(with_reducible repeat (first|refine bDn ?_ _|refine bDr ?_|refine bAl ?_ _));refine blk_far ?_ NB749_781.out _;(with_reducible repeat (first|refine bDn ?_ _|refine bDr ?_|refine bAl ?_ _));refine blk_far ?_ NB749_781.out _;(with_reducible repeat (first|refine bDn ?_ _|refine bDr ?_|refine bAl ?_ _));refine blk_far ?_ NB749_781.out _;(with_reducible repeat (first|refine bDn ?_ _|refine bDr ?_|refine bAl ?_ _));refine blk_far ?_ NB749_781.out _;(with_reducible repeat (first|refine bDn ?_ _|refine bDr ?_|refine bAl ?_ _));refine blk_far ?_ NB749_781.out _;(with_reducible repeat (first|refine bDn ?_ _|refine bDr ?_|refine bAl ?_ _));refine blk_far ?_ NB749_781.out _;(with_reducible repeat (first|refine bDn ?_ _|refine bDr ?_|refine bAl ?_ _));refine blk_far ?_ NB749_781.out _;(with_reducible repeat (first|refine bDn ?_ _|refine bDr ?_|refine bAl ?_ _));refine blk_far ?_ NB749_781.out _;(with_reducible repeat (first|refine bDn ?_ _|refine bDr ?_|refine bAl ?_ _));refine blk_far ?_ NB749_781.out _;(with_reducible repeat (first|refine bDn ?_ _|refine bDr ?_|refine bAl ?_ _));exact BK749.out) hb);have n6_:=aMk (blk_below (g:=gb781) (o:=.cells #[.string t766,.int .i64 t767,.int .i64 t768,.int .i64 t769,.int .i64 t770,.int .i64 t771,.int .i64 t772,.int .i64 t773,.string t774,.string t775,.bool t776] 34 (0,0)) (by (with_reducible repeat (first|refine bDn ?_ _|refine bDr ?_|refine bAl ?_ _));refine blk_put (cs:=#[.string t766,.int .i64 t767,.int .i64 t768,.int .i64 t769,.int .i64 t770,.int .i64 t771,.int .i64 t772,.int .i64 t773,.string t774,.string t775,.bool false]) ?_ 10 _ rfl;(with_reducible repeat (first|refine bDn ?_ _|refine bDr ?_|refine bAl ?_ _));refine blk_put (cs:=#[.string t766,.int .i64 t767,.int .i64 t768,.int .i64 t769,.int .i64 t770,.int .i64 t771,.int .i64 t772,.int .i64 t773,.string t774,.string (⟨#[]⟩ : ByteArray),.bool false]) ?_ 9 _ rfl;(with_reducible repeat (first|refine bDn ?_ _|refine bDr ?_|refine bAl ?_ _));refine blk_put (cs:=#[.string t766,.int .i64 t767,.int .i64 t768,.int .i64 t769,.int .i64 t770,.int .i64 t771,.int .i64 t772,.int .i64 t773,.string (⟨#[]⟩ : ByteArray),.string (⟨#[]⟩ : ByteArray),.bool false]) ?_ 8 _ rfl;(with_reducible repeat (first|refine bDn ?_ _|refine bDr ?_|refine bAl ?_ _));refine blk_put (cs:=#[.string t766,.int .i64 t767,.int .i64 t768,.int .i64 t769,.int .i64 t770,.int .i64 t771,.int .i64 t772,.int .i64 0,.string (⟨#[]⟩ : ByteArray),.string (⟨#[]⟩ : ByteArray),.bool false]) ?_ 7 _ rfl;(with_reducible repeat (first|refine bDn ?_ _|refine bDr ?_|refine bAl ?_ _));refine blk_put (cs:=#[.string t766,.int .i64 t767,.int .i64 t768,.int .i64 t769,.int .i64 t770,.int .i64 t771,.int .i64 0,.int .i64 0,.string (⟨#[]⟩ : ByteArray),.string (⟨#[]⟩ : ByteArray),.bool false]) ?_ 6 _ rfl;(with_reducible repeat (first|refine bDn ?_ _|refine bDr ?_|refine bAl ?_ _));refine blk_put (cs:=#[.string t766,.int .i64 t767,.int .i64 t768,.int .i64 t769,.int .i64 t770,.int .i64 0,.int .i64 0,.int .i64 0,.string (⟨#[]⟩ : ByteArray),.string (⟨#[]⟩ : ByteArray),.bool false]) ?_ 5 _ rfl;(with_reducible repeat (first|refine bDn ?_ _|refine bDr ?_|refine bAl ?_ _));refine blk_put (cs:=#[.string t766,.int .i64 t767,.int .i64 t768,.int .i64 t769,.int .i64 0,.int .i64 0,.int .i64 0,.int .i64 0,.string (⟨#[]⟩ : ByteArray),.string (⟨#[]⟩ : ByteArray),.bool false]) ?_ 4 _ rfl;(with_reducible repeat (first|refine bDn ?_ _|refine bDr ?_|refine bAl ?_ _));refine blk_put (cs:=#[.string t766,.int .i64 t767,.int .i64 t768,.int .i64 0,.int .i64 0,.int .i64 0,.int .i64 0,.int .i64 0,.string (⟨#[]⟩ : ByteArray),.string (⟨#[]⟩ : ByteArray),.bool false]) ?_ 3 _ rfl;(with_reducible repeat (first|refine bDn ?_ _|refine bDr ?_|refine bAl ?_ _));refine blk_put (cs:=#[.string t766,.int .i64 t767,.int .i64 0,.int .i64 0,.int .i64 0,.int .i64 0,.int .i64 0,.int .i64 0,.string (⟨#[]⟩ : ByteArray),.string (⟨#[]⟩ : ByteArray),.bool false]) ?_ 2 _ rfl;(with_reducible repeat (first|refine bDn ?_ _|refine bDr ?_|refine bAl ?_ _));refine blk_put (cs:=#[.string t766,.int .i64 0,.int .i64 0,.int .i64 0,.int .i64 0,.int .i64 0,.int .i64 0,.int .i64 0,.string (⟨#[]⟩ : ByteArray),.string (⟨#[]⟩ : ByteArray),.bool false]) ?_ 1 _ rfl;(with_reducible repeat (first|refine bDn ?_ _|refine bDr ?_|refine bAl ?_ _));refine blk_put (cs:=#[.string (⟨#[]⟩ : ByteArray),.int .i64 0,.int .i64 0,.int .i64 0,.int .i64 0,.int .i64 0,.int .i64 0,.int .i64 0,.string (⟨#[]⟩ : ByteArray),.string (⟨#[]⟩ : ByteArray),.bool false]) ?_ 0 _ rfl;(with_reducible repeat (first|refine bDn ?_ _|refine bDr ?_|refine bAl ?_ _));exact BK781.out) hb);have n7_:=aMk (below_step (by repeat (first|(with_reducible first|exact HB.out|apply bwA|apply bwN|apply bw1|refine below_set ?_ GE694.out|refine below_set ?_ GE722.out|refine below_set ?_ GE749.out|refine below_set ?_ GE781.out)|exact HB.out)) hb);clear HO_7;clear HO_10;clear HO779;clear BK694;clear BK722;clear BK749;clear BK781;clear HB;have HO_7:=n0_;have HO_10:=n1_;have HO779:=n2_;have BK694:=n3_;have BK722:=n4_;have BK749:=n5_;have BK781:=n6_;have HB:=n7_;clear n0_ n1_ n2_ n3_ n4_ n5_ n6_ n7_;(try clear hb);(try clear hb2);(try clear hk);(try clear hi)))
          go_meet
          case rel => exact ⟨_,(true),(by first | rfl|(simp;done)|(simp [*];done)|(simp [ne_nil_b];done)|(simp [ne_nil_b, *];done)),H',⟨by have:=HJ13.out;first | omega|exact Nat.le_refl _⟩,⟨by (with_reducible repeat (first|apply Kd.R_alloc|apply Kd.R_drewN|apply Kd.R_drew));exact Kd.R_mono HO_10.out (fun _ hk => trivial)⟩,⟨by (with_reducible repeat (first|refine bDn ?_ _|refine bDr ?_|refine bAl ?_ _));exact BK694.out⟩,⟨by (with_reducible repeat (first|refine bDn ?_ _|refine bDr ?_|refine bAl ?_ _));exact BK722.out⟩,⟨by (with_reducible repeat (first|refine bDn ?_ _|refine bDr ?_|refine bAl ?_ _));exact BK749.out⟩,⟨by (with_reducible repeat (first|refine bDn ?_ _|refine bDr ?_|refine bAl ?_ _));exact BK781.out⟩,⟨by repeat (first|(with_reducible first|exact HB.out|apply bwA|apply bwN|apply bw1|refine below_set ?_ GE694.out|refine below_set ?_ GE722.out|refine below_set ?_ GE749.out|refine below_set ?_ GE781.out)|exact HB.out)⟩⟩
        case rest =>
         clear HC69
         try clear c1
         try clear c2
         try clear p2
         try clear c3
         try clear c3b0
         try clear c3b1
         try clear c4
         try clear c5
         try clear c6
         try clear c6b0
         try clear c7
         try clear c8
         try clear c9
         try clear c10
         try clear c11
         try clear c22
         try clear c24
         try clear c28
         try clear c29
         try clear c32
         try clear c34
         try clear c35
         try clear c36
         try clear c37
         try clear c38
         try clear c39
         try clear c40
         try clear c43
         try clear c44
         try clear c45
         try clear c47
         try clear c53
         try clear c54
         try clear c56
         try clear c59
         try clear c62
         try clear c62b0
         try clear c66
         try clear c66b0
         try clear c66b1
         try clear c73
         try clear c74
         try clear c79
         try clear c80
         try clear c81
         try clear c84
         try clear c86
         try clear c87
         try clear c88
         try clear c89
         try clear c91
         try clear c92
         try clear c98
         try clear c99
         try clear c100
         try clear c102
         try clear c103
         try clear c109
         try clear c110
         try clear c111
         try clear c113
         try clear c114
         try clear hcz101_0
         try clear hcz101_1
         try clear hcz101_10
         try clear hcz101_2
         try clear hcz101_3
         try clear hcz101_4
         try clear hcz101_5
         try clear hcz101_6
         try clear hcz101_7
         try clear hcz101_8
         try clear hcz101_9
         try clear hcz104_0
         try clear hcz104_1
         try clear hcz104_10
         try clear hcz104_2
         try clear hcz104_3
         try clear hcz104_4
         try clear hcz104_5
         try clear hcz104_6
         try clear hcz104_7
         try clear hcz104_8
         try clear hcz104_9
         try clear hcz112_0
         try clear hcz112_1
         try clear hcz112_10
         try clear hcz112_2
         try clear hcz112_3
         try clear hcz112_4
         try clear hcz112_5
         try clear hcz112_6
         try clear hcz112_7
         try clear hcz112_8
         try clear hcz112_9
         try clear hcz115_0
         try clear hcz115_1
         try clear hcz115_10
         try clear hcz115_2
         try clear hcz115_3
         try clear hcz115_4
         try clear hcz115_5
         try clear hcz115_6
         try clear hcz115_7
         try clear hcz115_8
         try clear hcz115_9
         try clear hcz16_0
         try clear hcz16_1
         try clear hcz16_10
         try clear hcz16_2
         try clear hcz16_3
         try clear hcz16_4
         try clear hcz16_5
         try clear hcz16_6
         try clear hcz16_7
         try clear hcz16_8
         try clear hcz16_9
         try clear hcz18_0
         try clear hcz18_1
         try clear hcz18_10
         try clear hcz18_2
         try clear hcz18_3
         try clear hcz18_4
         try clear hcz18_5
         try clear hcz18_6
         try clear hcz18_7
         try clear hcz18_8
         try clear hcz18_9
         try clear hcz23_0
         try clear hcz23_1
         try clear hcz23_10
         try clear hcz23_2
         try clear hcz23_3
         try clear hcz23_4
         try clear hcz23_5
         try clear hcz23_6
         try clear hcz23_7
         try clear hcz23_8
         try clear hcz23_9
         try clear hcz24_0
         try clear hcz24_1
         try clear hcz24_10
         try clear hcz24_2
         try clear hcz24_3
         try clear hcz24_4
         try clear hcz24_5
         try clear hcz24_6
         try clear hcz24_7
         try clear hcz24_8
         try clear hcz24_9
         try clear hcz30_0
         try clear hcz30_1
         try clear hcz30_10
         try clear hcz30_2
         try clear hcz30_3
         try clear hcz30_4
         try clear hcz30_5
         try clear hcz30_6
         try clear hcz30_7
         try clear hcz30_8
         try clear hcz30_9
         try clear hcz37_0
         try clear hcz37_1
         try clear hcz37_10
         try clear hcz37_2
         try clear hcz37_3
         try clear hcz37_4
         try clear hcz37_5
         try clear hcz37_6
         try clear hcz37_7
         try clear hcz37_8
         try clear hcz37_9
         try clear hcz39_0
         try clear hcz39_1
         try clear hcz39_10
         try clear hcz39_2
         try clear hcz39_3
         try clear hcz39_4
         try clear hcz39_5
         try clear hcz39_6
         try clear hcz39_7
         try clear hcz39_8
         try clear hcz39_9
         try clear hcz46_0
         try clear hcz46_1
         try clear hcz46_10
         try clear hcz46_2
         try clear hcz46_3
         try clear hcz46_4
         try clear hcz46_5
         try clear hcz46_6
         try clear hcz46_7
         try clear hcz46_8
         try clear hcz46_9
         try clear hcz48_0
         try clear hcz48_1
         try clear hcz48_10
         try clear hcz48_2
         try clear hcz48_3
         try clear hcz48_4
         try clear hcz48_5
         try clear hcz48_6
         try clear hcz48_7
         try clear hcz48_8
         try clear hcz48_9
         try clear hcz55_0
         try clear hcz55_1
         try clear hcz55_10
         try clear hcz55_2
         try clear hcz55_3
         try clear hcz55_4
         try clear hcz55_5
         try clear hcz55_6
         try clear hcz55_7
         try clear hcz55_8
         try clear hcz55_9
         try clear hcz57_0
         try clear hcz57_1
         try clear hcz57_10
         try clear hcz57_2
         try clear hcz57_3
         try clear hcz57_4
         try clear hcz57_5
         try clear hcz57_6
         try clear hcz57_7
         try clear hcz57_8
         try clear hcz57_9
         try clear hcz75_0
         try clear hcz75_1
         try clear hcz75_10
         try clear hcz75_2
         try clear hcz75_3
         try clear hcz75_4
         try clear hcz75_5
         try clear hcz75_6
         try clear hcz75_7
         try clear hcz75_8
         try clear hcz75_9
         try clear hcz82_0
         try clear hcz82_1
         try clear hcz82_10
         try clear hcz82_2
         try clear hcz82_3
         try clear hcz82_4
         try clear hcz82_5
         try clear hcz82_6
         try clear hcz82_7
         try clear hcz82_8
         try clear hcz82_9
         try clear hcz8_0
         try clear hcz8_1
         try clear hcz8_10
         try clear hcz8_2
         try clear hcz8_3
         try clear hcz8_4
         try clear hcz8_5
         try clear hcz8_6
         try clear hcz8_7
         try clear hcz8_8
         try clear hcz8_9
         try clear hcz90_0
         try clear hcz90_1
         try clear hcz90_10
         try clear hcz90_2
         try clear hcz90_3
         try clear hcz90_4
         try clear hcz90_5
         try clear hcz90_6
         try clear hcz90_7
         try clear hcz90_8
         try clear hcz90_9
         try clear hcz93_0
         try clear hcz93_1
         try clear hcz93_10
         try clear hcz93_2
         try clear hcz93_3
         try clear hcz93_4
         try clear hcz93_5
         try clear hcz93_6
         try clear hcz93_7
         try clear hcz93_8
         try clear hcz93_9
         try clear hfz101_0
         try clear hfz101_1
         try clear hfz101_10
         try clear hfz101_2
         try clear hfz101_3
         try clear hfz101_4
         try clear hfz101_5
         try clear hfz101_6
         try clear hfz101_7
         try clear hfz101_8
         try clear hfz101_9
         try clear hfz104_0
         try clear hfz104_1
         try clear hfz104_10
         try clear hfz104_2
         try clear hfz104_3
         try clear hfz104_4
         try clear hfz104_5
         try clear hfz104_6
         try clear hfz104_7
         try clear hfz104_8
         try clear hfz104_9
         try clear hfz112_0
         try clear hfz112_1
         try clear hfz112_10
         try clear hfz112_2
         try clear hfz112_3
         try clear hfz112_4
         try clear hfz112_5
         try clear hfz112_6
         try clear hfz112_7
         try clear hfz112_8
         try clear hfz112_9
         try clear hfz115_0
         try clear hfz115_1
         try clear hfz115_10
         try clear hfz115_2
         try clear hfz115_3
         try clear hfz115_4
         try clear hfz115_5
         try clear hfz115_6
         try clear hfz115_7
         try clear hfz115_8
         try clear hfz115_9
         try clear hfz16_0
         try clear hfz16_1
         try clear hfz16_10
         try clear hfz16_2
         try clear hfz16_3
         try clear hfz16_4
         try clear hfz16_5
         try clear hfz16_6
         try clear hfz16_7
         try clear hfz16_8
         try clear hfz16_9
         try clear hfz18_0
         try clear hfz18_1
         try clear hfz18_10
         try clear hfz18_2
         try clear hfz18_3
         try clear hfz18_4
         try clear hfz18_5
         try clear hfz18_6
         try clear hfz18_7
         try clear hfz18_8
         try clear hfz18_9
         try clear hfz23_0
         try clear hfz23_1
         try clear hfz23_10
         try clear hfz23_2
         try clear hfz23_3
         try clear hfz23_4
         try clear hfz23_5
         try clear hfz23_6
         try clear hfz23_7
         try clear hfz23_8
         try clear hfz23_9
         try clear hfz24_0
         try clear hfz24_1
         try clear hfz24_10
         try clear hfz24_2
         try clear hfz24_3
         try clear hfz24_4
         try clear hfz24_5
         try clear hfz24_6
         try clear hfz24_7
         try clear hfz24_8
         try clear hfz24_9
         try clear hfz30_0
         try clear hfz30_1
         try clear hfz30_10
         try clear hfz30_2
         try clear hfz30_3
         try clear hfz30_4
         try clear hfz30_5
         try clear hfz30_6
         try clear hfz30_7
         try clear hfz30_8
         try clear hfz30_9
         try clear hfz37_0
         try clear hfz37_1
         try clear hfz37_10
         try clear hfz37_2
         try clear hfz37_3
         try clear hfz37_4
         try clear hfz37_5
         try clear hfz37_6
         try clear hfz37_7
         try clear hfz37_8
         try clear hfz37_9
         try clear hfz39_0
         try clear hfz39_1
         try clear hfz39_10
         try clear hfz39_2
         try clear hfz39_3
         try clear hfz39_4
         try clear hfz39_5
         try clear hfz39_6
         try clear hfz39_7
         try clear hfz39_8
         try clear hfz39_9
         try clear hfz46_0
         try clear hfz46_1
         try clear hfz46_10
         try clear hfz46_2
         try clear hfz46_3
         try clear hfz46_4
         try clear hfz46_5
         try clear hfz46_6
         try clear hfz46_7
         try clear hfz46_8
         try clear hfz46_9
         try clear hfz48_0
         try clear hfz48_1
         try clear hfz48_10
         try clear hfz48_2
         try clear hfz48_3
         try clear hfz48_4
         try clear hfz48_5
         try clear hfz48_6
         try clear hfz48_7
         try clear hfz48_8
         try clear hfz48_9
         try clear hfz55_0
         try clear hfz55_1
         try clear hfz55_10
         try clear hfz55_2
         try clear hfz55_3
         try clear hfz55_4
         try clear hfz55_5
         try clear hfz55_6
         try clear hfz55_7
         try clear hfz55_8
         try clear hfz55_9
         try clear hfz57_0
         try clear hfz57_1
         try clear hfz57_10
         try clear hfz57_2
         try clear hfz57_3
         try clear hfz57_4
         try clear hfz57_5
         try clear hfz57_6
         try clear hfz57_7
         try clear hfz57_8
         try clear hfz57_9
         try clear hfz75_0
         try clear hfz75_1
         try clear hfz75_10
         try clear hfz75_2
         try clear hfz75_3
         try clear hfz75_4
         try clear hfz75_5
         try clear hfz75_6
         try clear hfz75_7
         try clear hfz75_8
         try clear hfz75_9
         try clear hfz82_0
         try clear hfz82_1
         try clear hfz82_10
         try clear hfz82_2
         try clear hfz82_3
         try clear hfz82_4
         try clear hfz82_5
         try clear hfz82_6
         try clear hfz82_7
         try clear hfz82_8
         try clear hfz82_9
         try clear hfz8_0
         try clear hfz8_1
         try clear hfz8_10
         try clear hfz8_2
         try clear hfz8_3
         try clear hfz8_4
         try clear hfz8_5
         try clear hfz8_6
         try clear hfz8_7
         try clear hfz8_8
         try clear hfz8_9
         try clear hfz90_0
         try clear hfz90_1
         try clear hfz90_10
         try clear hfz90_2
         try clear hfz90_3
         try clear hfz90_4
         try clear hfz90_5
         try clear hfz90_6
         try clear hfz90_7
         try clear hfz90_8
         try clear hfz90_9
         try clear hfz93_0
         try clear hfz93_1
         try clear hfz93_10
         try clear hfz93_2
         try clear hfz93_3
         try clear hfz93_4
         try clear hfz93_5
         try clear hfz93_6
         try clear hfz93_7
         try clear hfz93_8
         try clear hfz93_9
         try clear p2
         obtain ⟨kq,x89_68,rfl,HA,HJ68,HO_10,BK694,BK722,BK749,BK781,HB⟩:=hcut
         have hl10_68:=(Kd.R_reads' HO_10.out).1
         rw [hl10_68] at HO_10
         (try simp only [hl10_68])
         (try simp only [hl10_68] at BK694)
         (try simp only [hl10_68] at BK722)
         (try simp only [hl10_68] at BK749)
         (try simp only [hl10_68] at BK781)
         cases kq with
         | zero => exact absurd HA.out (by simp [laws_FnExactConnSay.j1])
         | succ kj68 =>
          have H:=HA.out
          clear HA
          simp only [laws_FnExactConnSay.j1] at H
          by_cases c117 : x89_68 = true
          ·subst c117
           have H1 : (some false) = some r:=by rw [if_pos rfl] at H;exact H
           clear H
           have H:=H1
           clear H1
           obtain rfl:=Option.some.inj H
           go_wp2
           go_ret
           exact ⟨by first | rfl|(simp [errW_none,errW_some] <;> rfl)|(simp [*,errW_none,errW_some] <;> rfl),by repeat (first|(with_reducible first|exact HB.out|apply bwA|apply bwN|apply bw1|refine below_set ?_ GE694.out|refine below_set ?_ GE722.out|refine below_set ?_ GE749.out|refine below_set ?_ GE781.out)|exact HB.out)⟩
          ·replace c117:=Bool.eq_false_iff.mpr c117
           subst c117
           have H1 : ((laws_heldSegmentS.f kj68 t753 1).bind fun t784 => (if t784 < 0 then (some false) else (if t784 = t752 then (some true) else (some false)))) = some r:=by rw [if_neg (show ¬ (false = true) by decide)] at H;exact H
           clear H
           have H:=H1
           clear H1
           replace H:=Option.bind_eq_some_iff.mp H
           obtain ⟨t784,A1180,H⟩:=H
           replace H : (if t784 < 0 then (some false) else (if t784 = t752 then (some true) else (some false))) = some r:=H
           have A118:=aMk A1180
           clear A1180
           by_cases c119 : t784 < 0
           ·rw [if_pos c119] at H
            have c119b0 : decide (t784 < 0) = true:=decide_eq_true c119
            clear c119
            obtain rfl:=Option.some.inj H
            go_wp2_with (first|((with_reducible refine gate_callee (f:=40) rfl ?_);refine goesL_ (some 92) rfl rfl Try.func40 (by kernel_rfl) rfl #[.slice Ao70 t753.length co70,.int .i64 1] rfl (by (try simp only [List.map_toArray,List.map_cons,List.map_nil]);first | done | rfl|(simp only [List.length_drop,List.length_take];rfl)) ?_;(with_reducible refine (laws_heldSegmentS.calls kj68 _ _ t753 1 t784 _ ?side1 ?side2 A118.out).mono ?_);(case side1 => repeat (first|exact (Kd.R_reads' HO_10.out).2.2|(with_reducible refine Kd.C_alloc ?_ _)|(with_reducible refine Kd.C_drewN ?_ _)|(with_reducible refine Kd.C_drew ?_)));(case side2 => exact (Kd.R_reads' HO_10.out).2.1);rintro e w120 ⟨rfl,hb⟩;refine ⟨_,rfl,?_⟩;have n0_:=aMk (Kd.R_below (by (with_reducible repeat (first|apply Kd.R_alloc|apply Kd.R_drewN|apply Kd.R_drew));exact HO_10.out) hb);have n1_:=aMk (blk_below (g:=gb694) (o:=.cells #[.string a0_0,.int .i64 a0_1,.int .i64 a0_2,.int .i64 a0_3,.int .i64 a0_4,.int .i64 a0_5,.int .i64 a0_6,.int .i64 a0_7,.string a0_8,.string a0_9,.bool a0_10] 31 (0,0)) (by (with_reducible repeat (first|refine bDn ?_ _|refine bDr ?_|refine bAl ?_ _));exact BK694.out) hb);have n2_:=aMk (blk_below (g:=gb722) (o:=.cells #[.string t707,.int .i64 t708,.int .i64 t709,.int .i64 t710,.int .i64 t711,.int .i64 t712,.int .i64 t713,.int .i64 t714,.string t715,.string t716,.bool t717] 34 (0,0)) (by (with_reducible repeat (first|refine bDn ?_ _|refine bDr ?_|refine bAl ?_ _));exact BK722.out) hb);have n3_:=aMk (blk_below (g:=gb749) (o:=.cells #[.string t734,.int .i64 t735,.int .i64 t736,.int .i64 t737,.int .i64 t738,.int .i64 t739,.int .i64 t740,.int .i64 t741,.string t742,.string t743,.bool t744] 34 (0,0)) (by (with_reducible repeat (first|refine bDn ?_ _|refine bDr ?_|refine bAl ?_ _));exact BK749.out) hb);have n4_:=aMk (blk_below (g:=gb781) (o:=.cells #[.string t766,.int .i64 t767,.int .i64 t768,.int .i64 t769,.int .i64 t770,.int .i64 t771,.int .i64 t772,.int .i64 t773,.string t774,.string t775,.bool t776] 34 (0,0)) (by (with_reducible repeat (first|refine bDn ?_ _|refine bDr ?_|refine bAl ?_ _));exact BK781.out) hb);have n5_:=aMk (below_step (by repeat (first|(with_reducible first|exact HB.out|apply bwA|apply bwN|apply bw1|refine below_set ?_ GE694.out|refine below_set ?_ GE722.out|refine below_set ?_ GE749.out|refine below_set ?_ GE781.out)|exact HB.out)) hb);clear HO_10;clear BK694;clear BK722;clear BK749;clear BK781;clear HB;have HO_10:=n0_;have BK694:=n1_;have BK722:=n2_;have BK749:=n3_;have BK781:=n4_;have HB:=n5_;clear n0_ n1_ n2_ n3_ n4_ n5_;(try clear hb);(try clear hb2);(try clear hk);(try clear hi)))
            go_ret
            exact ⟨by first | rfl|(simp [errW_none,errW_some] <;> rfl)|(simp [*,errW_none,errW_some] <;> rfl),by repeat (first|(with_reducible first|exact HB.out|apply bwA|apply bwN|apply bw1|refine below_set ?_ GE694.out|refine below_set ?_ GE722.out|refine below_set ?_ GE749.out|refine below_set ?_ GE781.out)|exact HB.out)⟩
           ·rw [if_neg c119] at H
            have c119b0 : decide (t784 < 0) = false:=decide_eq_false c119
            clear c119
            by_cases c121 : t784 = t752
            ·rw [if_pos c121] at H
             have c121b0 : (t784 == t752) = true:=beq_iff_eq.mpr c121
             have c121b1 : (t784 != t752) = false:=bne_eq_false_iff_eq.mpr c121
             clear c121
             obtain rfl:=Option.some.inj H
             go_wp2_with (first|((with_reducible refine gate_callee (f:=40) rfl ?_);refine goesL_ (some 92) rfl rfl Try.func40 (by kernel_rfl) rfl #[.slice Ao70 t753.length co70,.int .i64 1] rfl (by (try simp only [List.map_toArray,List.map_cons,List.map_nil]);first | done | rfl|(simp only [List.length_drop,List.length_take];rfl)) ?_;(with_reducible refine (laws_heldSegmentS.calls kj68 _ _ t753 1 t784 _ ?side1 ?side2 A118.out).mono ?_);(case side1 => repeat (first|exact (Kd.R_reads' HO_10.out).2.2|(with_reducible refine Kd.C_alloc ?_ _)|(with_reducible refine Kd.C_drewN ?_ _)|(with_reducible refine Kd.C_drew ?_)));(case side2 => exact (Kd.R_reads' HO_10.out).2.1);rintro e w122 ⟨rfl,hb⟩;refine ⟨_,rfl,?_⟩;have n0_:=aMk (Kd.R_below (by (with_reducible repeat (first|apply Kd.R_alloc|apply Kd.R_drewN|apply Kd.R_drew));exact HO_10.out) hb);have n1_:=aMk (blk_below (g:=gb694) (o:=.cells #[.string a0_0,.int .i64 a0_1,.int .i64 a0_2,.int .i64 a0_3,.int .i64 a0_4,.int .i64 a0_5,.int .i64 a0_6,.int .i64 a0_7,.string a0_8,.string a0_9,.bool a0_10] 31 (0,0)) (by (with_reducible repeat (first|refine bDn ?_ _|refine bDr ?_|refine bAl ?_ _));exact BK694.out) hb);have n2_:=aMk (blk_below (g:=gb722) (o:=.cells #[.string t707,.int .i64 t708,.int .i64 t709,.int .i64 t710,.int .i64 t711,.int .i64 t712,.int .i64 t713,.int .i64 t714,.string t715,.string t716,.bool t717] 34 (0,0)) (by (with_reducible repeat (first|refine bDn ?_ _|refine bDr ?_|refine bAl ?_ _));exact BK722.out) hb);have n3_:=aMk (blk_below (g:=gb749) (o:=.cells #[.string t734,.int .i64 t735,.int .i64 t736,.int .i64 t737,.int .i64 t738,.int .i64 t739,.int .i64 t740,.int .i64 t741,.string t742,.string t743,.bool t744] 34 (0,0)) (by (with_reducible repeat (first|refine bDn ?_ _|refine bDr ?_|refine bAl ?_ _));exact BK749.out) hb);have n4_:=aMk (blk_below (g:=gb781) (o:=.cells #[.string t766,.int .i64 t767,.int .i64 t768,.int .i64 t769,.int .i64 t770,.int .i64 t771,.int .i64 t772,.int .i64 t773,.string t774,.string t775,.bool t776] 34 (0,0)) (by (with_reducible repeat (first|refine bDn ?_ _|refine bDr ?_|refine bAl ?_ _));exact BK781.out) hb);have n5_:=aMk (below_step (by repeat (first|(with_reducible first|exact HB.out|apply bwA|apply bwN|apply bw1|refine below_set ?_ GE694.out|refine below_set ?_ GE722.out|refine below_set ?_ GE749.out|refine below_set ?_ GE781.out)|exact HB.out)) hb);clear HO_10;clear BK694;clear BK722;clear BK749;clear BK781;clear HB;have HO_10:=n0_;have BK694:=n1_;have BK722:=n2_;have BK749:=n3_;have BK781:=n4_;have HB:=n5_;clear n0_ n1_ n2_ n3_ n4_ n5_;(try clear hb);(try clear hb2);(try clear hk);(try clear hi)))
             go_ret
             exact ⟨by first | rfl|(simp [errW_none,errW_some] <;> rfl)|(simp [*,errW_none,errW_some] <;> rfl),by repeat (first|(with_reducible first|exact HB.out|apply bwA|apply bwN|apply bw1|refine below_set ?_ GE694.out|refine below_set ?_ GE722.out|refine below_set ?_ GE749.out|refine below_set ?_ GE781.out)|exact HB.out)⟩
            ·rw [if_neg c121] at H
             have c121b0 : (t784 == t752) = false:=beq_eq_false_iff_ne.mpr c121
             have c121b1 : (t784 != t752) = true:=bne_iff_ne.mpr c121
             obtain rfl:=Option.some.inj H
             go_wp2_with (first|((with_reducible refine gate_callee (f:=40) rfl ?_);refine goesL_ (some 92) rfl rfl Try.func40 (by kernel_rfl) rfl #[.slice Ao70 t753.length co70,.int .i64 1] rfl (by (try simp only [List.map_toArray,List.map_cons,List.map_nil]);first | done | rfl|(simp only [List.length_drop,List.length_take];rfl)) ?_;(with_reducible refine (laws_heldSegmentS.calls kj68 _ _ t753 1 t784 _ ?side1 ?side2 A118.out).mono ?_);(case side1 => repeat (first|exact (Kd.R_reads' HO_10.out).2.2|(with_reducible refine Kd.C_alloc ?_ _)|(with_reducible refine Kd.C_drewN ?_ _)|(with_reducible refine Kd.C_drew ?_)));(case side2 => exact (Kd.R_reads' HO_10.out).2.1);rintro e w123 ⟨rfl,hb⟩;refine ⟨_,rfl,?_⟩;have n0_:=aMk (Kd.R_below (by (with_reducible repeat (first|apply Kd.R_alloc|apply Kd.R_drewN|apply Kd.R_drew));exact HO_10.out) hb);have n1_:=aMk (blk_below (g:=gb694) (o:=.cells #[.string a0_0,.int .i64 a0_1,.int .i64 a0_2,.int .i64 a0_3,.int .i64 a0_4,.int .i64 a0_5,.int .i64 a0_6,.int .i64 a0_7,.string a0_8,.string a0_9,.bool a0_10] 31 (0,0)) (by (with_reducible repeat (first|refine bDn ?_ _|refine bDr ?_|refine bAl ?_ _));exact BK694.out) hb);have n2_:=aMk (blk_below (g:=gb722) (o:=.cells #[.string t707,.int .i64 t708,.int .i64 t709,.int .i64 t710,.int .i64 t711,.int .i64 t712,.int .i64 t713,.int .i64 t714,.string t715,.string t716,.bool t717] 34 (0,0)) (by (with_reducible repeat (first|refine bDn ?_ _|refine bDr ?_|refine bAl ?_ _));exact BK722.out) hb);have n3_:=aMk (blk_below (g:=gb749) (o:=.cells #[.string t734,.int .i64 t735,.int .i64 t736,.int .i64 t737,.int .i64 t738,.int .i64 t739,.int .i64 t740,.int .i64 t741,.string t742,.string t743,.bool t744] 34 (0,0)) (by (with_reducible repeat (first|refine bDn ?_ _|refine bDr ?_|refine bAl ?_ _));exact BK749.out) hb);have n4_:=aMk (blk_below (g:=gb781) (o:=.cells #[.string t766,.int .i64 t767,.int .i64 t768,.int .i64 t769,.int .i64 t770,.int .i64 t771,.int .i64 t772,.int .i64 t773,.string t774,.string t775,.bool t776] 34 (0,0)) (by (with_reducible repeat (first|refine bDn ?_ _|refine bDr ?_|refine bAl ?_ _));exact BK781.out) hb);have n5_:=aMk (below_step (by repeat (first|(with_reducible first|exact HB.out|apply bwA|apply bwN|apply bw1|refine below_set ?_ GE694.out|refine below_set ?_ GE722.out|refine below_set ?_ GE749.out|refine below_set ?_ GE781.out)|exact HB.out)) hb);clear HO_10;clear BK694;clear BK722;clear BK749;clear BK781;clear HB;have HO_10:=n0_;have BK694:=n1_;have BK722:=n2_;have BK749:=n3_;have BK781:=n4_;have HB:=n5_;clear n0_ n1_ n2_ n3_ n4_ n5_;(try clear hb);(try clear hb2);(try clear hk);(try clear hi)))
             go_ret
             exact ⟨by first | rfl|(simp [errW_none,errW_some] <;> rfl)|(simp [*,errW_none,errW_some] <;> rfl),by repeat (first|(with_reducible first|exact HB.out|apply bwA|apply bwN|apply bw1|refine below_set ?_ GE694.out|refine below_set ?_ GE722.out|refine below_set ?_ GE749.out|refine below_set ?_ GE781.out)|exact HB.out)⟩
       ·rw [if_neg c66] at H
        have c66b0 : (t754 == t752) = false:=beq_eq_false_iff_ne.mpr c66
        have c66b1 : (t754 != t752) = true:=bne_iff_ne.mpr c66
        obtain rfl:=Option.some.inj H
        obtain ⟨Ao124,co124,eo124⟩:=Kd.R_slice HO_10.out
        subst eo124
        go_wp2_with (first|((with_reducible refine gate_callee (f:=39) rfl ?_);refine goesL_ (some 58) rfl rfl Try.func39 (by kernel_rfl) rfl #[.slice Ao124 t745.length co124,.int .i64 1] rfl (by (try simp only [List.map_toArray,List.map_cons,List.map_nil]);first | done | rfl|(simp only [List.length_drop,List.length_take];rfl)) ?_;(with_reducible refine (laws_markSegmentS.calls kj13 (fun k_ => some k_ = (.slice Ao124 t745.length co124 : Value).ownBlock) (.slice Ao124 t745.length co124) t745 1 t752 t753 w _ ?side1 ?side2 A60.out).mono ?_);(case side1 => repeat (first|(with_reducible first|exact HB.out|apply bwA|apply bwN|apply bw1|refine below_set ?_ GE694.out|refine below_set ?_ GE722.out|refine below_set ?_ GE749.out)|exact HB.out));(case side2 => exact Kd.R_tight rfl HO_10.out);rintro e w125 ⟨rfl,hy0,hb,hkp⟩;refine ⟨_,rfl,?_⟩;have n0_:=aMk (Kd.R_mono (ok':=fun k_ => some k_ ≠ (.slice Ao124 t745.length co124 : Value).ownBlock) (Kd.R_keptB (HO_7.out) hkp (fun k_ hk_ hs_ => (hk_) hs_)) (fun k_ hk_ => hk_.1));have n1_:=aMk (Kd.R_reok rfl hy0 (fun k_ e_ => HO_10.out.1 k_ e_));have n2_:=aMk (blk_kept (by (with_reducible repeat (first|refine bDn ?_ _|refine bDr ?_|refine bAl ?_ _));exact BK694.out) hkp (fun hs_ => (fun e_ => (Kd.R_ne HO_10.out BK694.out (by decide)) e_) hs_));have n3_:=aMk (blk_kept (by (with_reducible repeat (first|refine bDn ?_ _|refine bDr ?_|refine bAl ?_ _));exact BK722.out) hkp (fun hs_ => (fun e_ => (Kd.R_ne HO_10.out BK722.out (by decide)) e_) hs_));have n4_:=aMk (blk_kept (by (with_reducible repeat (first|refine bDn ?_ _|refine bDr ?_|refine bAl ?_ _));exact BK749.out) hkp (fun hs_ => (fun e_ => (Kd.R_ne HO_10.out BK749.out (by decide)) e_) hs_));have n5_:=aMk (hb);clear HO_7;clear HO_10;clear BK694;clear BK722;clear BK749;clear HB;have HO_7:=n0_;have HO_10:=n1_;have BK694:=n2_;have BK722:=n3_;have BK749:=n4_;have HB:=n5_;clear n0_ n1_ n2_ n3_ n4_ n5_;(try clear hb);(try clear hkp);(try clear hy0))|((with_reducible refine gate_callee (f:=40) rfl ?_);refine goesL_ (some 61) rfl rfl Try.func40 (by kernel_rfl) rfl #[.slice Ao124 t753.length co124,.int .i64 1] rfl (by (try simp only [List.map_toArray,List.map_cons,List.map_nil]);first | done|(rw [show t753.length = t745.length from (Kd.R_reads' HO_10.out).1.symm] <;> rfl) | rfl|(simp only [List.length_drop,List.length_take];rfl)) ?_;(with_reducible refine (laws_heldSegmentS.calls kj13 _ _ t753 1 t754 _ ?side1 ?side2 A61.out).mono ?_);(case side1 => repeat (first|exact (Kd.R_reads' HO_10.out).2.2|(with_reducible refine Kd.C_alloc ?_ _)|(with_reducible refine Kd.C_drewN ?_ _)|(with_reducible refine Kd.C_drew ?_)));(case side2 => rw [show t753.length = t745.length from (Kd.R_reads' HO_10.out).1.symm];exact (Kd.R_reads' HO_10.out).2.1);rintro e w126 ⟨rfl,hb⟩;refine ⟨_,rfl,?_⟩;have n0_:=aMk (Kd.R_below (by (with_reducible repeat (first|apply Kd.R_alloc|apply Kd.R_drewN|apply Kd.R_drew));exact HO_7.out) hb);have n1_:=aMk (Kd.R_below (by (with_reducible repeat (first|apply Kd.R_alloc|apply Kd.R_drewN|apply Kd.R_drew));exact HO_10.out) hb);have n2_:=aMk (blk_below (g:=gb694) (o:=.cells #[.string a0_0,.int .i64 a0_1,.int .i64 a0_2,.int .i64 a0_3,.int .i64 a0_4,.int .i64 a0_5,.int .i64 a0_6,.int .i64 a0_7,.string a0_8,.string a0_9,.bool a0_10] 31 (0,0)) (by (with_reducible repeat (first|refine bDn ?_ _|refine bDr ?_|refine bAl ?_ _));exact BK694.out) hb);have n3_:=aMk (blk_below (g:=gb722) (o:=.cells #[.string t707,.int .i64 t708,.int .i64 t709,.int .i64 t710,.int .i64 t711,.int .i64 t712,.int .i64 t713,.int .i64 t714,.string t715,.string t716,.bool t717] 34 (0,0)) (by (with_reducible repeat (first|refine bDn ?_ _|refine bDr ?_|refine bAl ?_ _));exact BK722.out) hb);have n4_:=aMk (blk_below (g:=gb749) (o:=.cells #[.string t734,.int .i64 t735,.int .i64 t736,.int .i64 t737,.int .i64 t738,.int .i64 t739,.int .i64 t740,.int .i64 t741,.string t742,.string t743,.bool t744] 34 (0,0)) (by (with_reducible repeat (first|refine bDn ?_ _|refine bDr ?_|refine bAl ?_ _));exact BK749.out) hb);have n5_:=aMk (below_step (by repeat (first|(with_reducible first|exact HB.out|apply bwA|apply bwN|apply bw1|refine below_set ?_ GE694.out|refine below_set ?_ GE722.out|refine below_set ?_ GE749.out)|exact HB.out)) hb);clear HO_7;clear HO_10;clear BK694;clear BK722;clear BK749;clear HB;have HO_7:=n0_;have HO_10:=n1_;have BK694:=n2_;have BK722:=n3_;have BK749:=n4_;have HB:=n5_;clear n0_ n1_ n2_ n3_ n4_ n5_;(try clear hb);(try clear hb2);(try clear hk);(try clear hi)))
        go_ret
        exact ⟨by first | rfl|(simp [errW_none,errW_some] <;> rfl)|(simp [*,errW_none,errW_some] <;> rfl),by repeat (first|(with_reducible first|exact HB.out|apply bwA|apply bwN|apply bw1|refine below_set ?_ GE694.out|refine below_set ?_ GE722.out|refine below_set ?_ GE749.out)|exact HB.out)⟩
end
section
-- IMPORT Derived.Laws.BitsLemmas
-- IMPORT Derived.OpenShut
/-- A mask of low bits is a remainder,of whatever number. -/
theorem and_low (x : Int) (j : Nat) (hj : j ≤ 62) : Go.bits .and .i64 x (2 ^ j - 1) = x % 2 ^ j:=by
 have hm : ((2 : Int) ^ j - 1) = ((2 ^ j - 1 : Nat) : Int):=by
  rw [Int.natCast_sub (Nat.two_pow_pos j),Int.natCast_pow];rfl
 have hlt : 2 ^ j - 1 < 2 ^ 64:=Nat.lt_of_lt_of_le (Nat.sub_lt (Nat.two_pow_pos j) (by decide)) (Nat.pow_le_pow_right (by decide) (by omega))
 have hle : (2 : Nat) ^ j ≤ 2 ^ 62:=Nat.pow_le_pow_right (by decide) hj
 have hd : (2 : Nat) ^ j ∣ 2 ^ 64:=Nat.pow_dvd_pow 2 (by omega)
 rw [hm]
 have hb : Go.bits .and .i64 x ((2 ^ j - 1 : Nat) : Int) = IntKind.i64.wrap (((BitVec.ofInt 64 x &&& BitVec.ofInt 64 ((2 ^ j - 1 : Nat) : Int)).toNat : Nat) : Int):=rfl
 rw [hb,BitVec.toNat_and,BitVec.ofInt_natCast,BitVec.toNat_ofNat,BitVec.toNat_ofInt,Nat.mod_eq_of_lt hlt,Nat.and_two_pow_sub_one_eq_mod,IntKind.wrap_i64]
 have e : (((x % ((2 ^ 64 : Nat) : Int)).toNat % 2 ^ j : Nat) : Int) = x % ((2 ^ j : Nat) : Int):=by
  rw [Int.natCast_emod,Int.toNat_of_nonneg (Int.emod_nonneg _ (by decide)),Int.emod_emod_of_dvd]
  exact Int.natCast_dvd_natCast.2 hd
 rw [e]
 have hp : (0 : Int) < ((2 ^ j : Nat) : Int):=by exact_mod_cast Nat.two_pow_pos j
 have h0:=Int.emod_nonneg x (Int.ne_of_gt hp)
 have h1:=Int.emod_lt_of_pos x hp
 have h2 : ((2 ^ j : Nat) : Int) ≤ ((4611686018427387904 : Nat) : Int):=Int.ofNat_le.2 (Nat.le_trans hle (by decide))
 have h3 : ((2 : Int) ^ j) = ((2 ^ j : Nat) : Int):=by rw [Int.natCast_pow];rfl
 rw [h3,Int.emod_eq_of_lt (by omega) (by omega)]
 omega
theorem and32 (x : Int) : Go.bits .and .i64 x 4294967295 = x % 4294967296:=and_low x 32 (by decide)
theorem wrap_id {n : Int} (h0 : -9223372036854775808 ≤ n) (h1 : n ≤ 9223372036854775807) : wrap64 n = n:=by
 unfold wrap64;omega
end
section
-- IMPORT Derived.Lib.Strings
theorem toList_nil_iff (s : ByteArray) : s.toList = [] ↔ s.size = 0:=by
 rw [Lib.toList_data,Lib.size_eq,List.length_eq_zero_iff]
theorem eq_empty {s : ByteArray} (h : s.size = 0) : s = ⟨#[]⟩:=by
 have h1:=(toList_nil_iff s).2 h
 rw [Lib.toList_data] at h1
 rw [← Lib.mk_data s,h1]
theorem empty_app (s : ByteArray) : (⟨#[]⟩ : ByteArray) ++ s = s:=by
 apply ByteArray.ext
 rw [ByteArray.data_append]
 simp
theorem size_extract_le (s : ByteArray) (a b : Nat) (h : b ≤ s.size) : (s.extract a b).size = b - a:=by
 rw [Lib.size_eq,Lib.extract_data,List.length_take,List.length_drop,← Lib.size_eq]
 omega
end
section
/-! ### spec_l10Again: function 90 -/
def spec_l10Again.f (k : Nat) (a0_0 : ByteArray) (a0_1 : Int) (a0_2 : Int) (a0_3 : Int) (a0_4 : Int) (a0_5 : Int) (a0_6 : Int) (a0_7 : Int) (a0_8 : ByteArray) (a0_9 : ByteArray) (a0_10 : Bool) : Option ((List (S53))):=if a0_4 = 1 then ((spec_l10Reply.f a0_0 a0_1 a0_2 a0_3 a0_4 a0_5 a0_6 a0_7 a0_8 a0_9 a0_10 a0_5 18 (⟨#[]⟩ : ByteArray)).bind fun bt524 => (some (([(⟨bt524.1,bt524.2.1,bt524.2.2.1,bt524.2.2.2.1,bt524.2.2.2.2.1,bt524.2.2.2.2.2.1,bt524.2.2.2.2.2.2⟩ : S53)] : List (S53))))) else (if a0_4 = 4 then (some (([] : List (S53)))) else ((spec_l10Pieces.f k a0_0 a0_1 a0_2 a0_3 a0_4 a0_5 a0_6 a0_7 a0_8 a0_9 a0_10 a0_5 a0_9 a0_10).bind fun t537 => (some t537)))
theorem spec_l10Again.mono : ∀ a0 a1 a2 a3 a4 a5 a6 a7 a8 a9 a10 k,LeO (spec_l10Again.f k a0 a1 a2 a3 a4 a5 a6 a7 a8 a9 a10) (spec_l10Again.f (k + 1) a0 a1 a2 a3 a4 a5 a6 a7 a8 a9 a10):=by
 intro a0 a1 a2 a3 a4 a5 a6 a7 a8 a9 a10 k
 unfold spec_l10Again.f
 repeat' first
   | (with_reducible exact spec_l10Pieces.mono ..)
   | (with_reducible exact LeO.refl _)
   | (with_reducible exact LeO.none _)
   | (with_reducible refine LeO.ite ?_ ?_)
   | (with_reducible refine LeO.bind ?_ (fun _ => ?_))
   | exact spec_l10Pieces.mono ..
   | exact LeO.none _
   | refine LeO.ite ?_ ?_
   | refine LeO.bind ?_ (fun _ => ?_)
set_option maxHeartbeats 8000000 in
set_option maxRecDepth 100000 in
theorem spec_l10Again.calls (k : Nat) (a0_0 : ByteArray) (a0_1 : Int) (a0_2 : Int) (a0_3 : Int) (a0_4 : Int) (a0_5 : Int) (a0_6 : Int) (a0_7 : Int) (a0_8 : ByteArray) (a0_9 : ByteArray) (a0_10 : Bool) (r : List (S53)) (w : World) (h : spec_l10Again.f k a0_0 a0_1 a0_2 a0_3 a0_4 a0_5 a0_6 a0_7 a0_8 a0_9 a0_10 = some r) :
  Calls Try.prog 90 #[.agg #[.string a0_0,.int .i64 a0_1,.int .i64 a0_2,.int .i64 a0_3,.int .i64 a0_4,.int .i64 a0_5,.int .i64 a0_6,.int .i64 a0_7,.string a0_8,.string a0_9,.bool a0_10]] w fun e w' => ∃ v0_ : Value,e = .returned (v0_) ∧ Kd.R k53 53 w' w.heap.size (fun _ => True) v0_ r ∧ Below w.heap.size w w':=by
 have hu34:=Try.underlying34
 have HB:=aMk (Below.refl w.heap.size w)
 have H : (if a0_4 = 1 then ((spec_l10Reply.f a0_0 a0_1 a0_2 a0_3 a0_4 a0_5 a0_6 a0_7 a0_8 a0_9 a0_10 a0_5 18 (⟨#[]⟩ : ByteArray)).bind fun bt524 => (some (([(⟨bt524.1,bt524.2.1,bt524.2.2.1,bt524.2.2.2.1,bt524.2.2.2.2.1,bt524.2.2.2.2.2.1,bt524.2.2.2.2.2.2⟩ : S53)] : List (S53))))) else (if a0_4 = 4 then (some (([] : List (S53)))) else ((spec_l10Pieces.f k a0_0 a0_1 a0_2 a0_3 a0_4 a0_5 a0_6 a0_7 a0_8 a0_9 a0_10 a0_5 a0_9 a0_10).bind fun t537 => (some t537)))) = some r:=h
 clear h
 by_cases c2 : a0_4 = 1
 ·rw [if_pos c2] at H
  have c2b0 : (a0_4 == 1) = true:=beq_iff_eq.mpr c2
  have c2b1 : (a0_4 != 1) = false:=bne_eq_false_iff_eq.mpr c2
  clear c2
  replace H:=Option.bind_eq_some_iff.mp H
  obtain ⟨⟨t524,t525,t526,t527,t528,t529,t530⟩,A30,H⟩:=H
  replace H : (some (([(⟨t524,t525,t526,t527,t528,t529,t530⟩ : S53)] : List (S53)))) = some r:=H
  have A3:=aMk A30
  clear A30
  obtain ⟨y531,hy531⟩ : ∃ y_ : List (S53),y_ = (([(⟨t524,t525,t526,t527,t528,t529,t530⟩ : S53)] : List (S53))):=⟨_,rfl⟩
  replace H : (some y531) = some r:=by first|(rw [hy531];with_reducible exact H)|(have H2_:=(Option.bind_some _ _).symm.trans H;rw [hy531];with_reducible exact H2_)|(have H2_:=(Option.bind_some _ _).symm.trans H;with_reducible exact H2_) | with_reducible exact H|(rw [hy531];exact H)|exact H
  have Ny531:=aMk hy531
  clear hy531
  obtain rfl:=Option.some.inj H
  go_enter Try.func90,Try.ntmps90
  go_wp2_with (first|((with_reducible refine gate_dst (N:=1) rfl ?_);refine box_event ?hg (N:=1) ?hd (cs:=#[.string a0_0,.int .i64 a0_1,.int .i64 a0_2,.int .i64 a0_3,.int .i64 a0_4,.int .i64 a0_5,.int .i64 a0_6,.int .i64 a0_7,.string a0_8,.string a0_9,.bool a0_10]) (t:=34) ?hr ?_;(case hd => rfl);(case hg => rfl);(case hr => first|(go_simp;done)|(go_simp;rfl));intro gb523 hg w4 hbox hb;have n0_:=aMk (below_step (by repeat first|exact HB.out|apply bwA|apply bwN|apply bw1) hb);have n1_:=aMk (hbox);have n2_:=aMk ((by rw [hg];exact (below_size (by repeat first|exact HB.out|apply bwA|apply bwN|apply bw1)) : w.heap.size ≤ gb523));have n3_:=aMk ((by rw [hg];exact (below_size (by repeat first|exact HB.out|apply bwA|apply bwN|apply bw1)) : w.heap.size ≤ gb523));clear HB;have HB:=n0_;have BK523:=n1_;have GW523:=n2_;have GE523:=n3_;clear n0_ n1_ n2_ n3_;clear hb hbox hg;have hcz5_0 : w4.cell? ⟨gb523,0,none⟩ = some (.string a0_0):=(bCe BK523.out 0).trans rfl;have hcz5_1 : w4.cell? ⟨gb523,1,none⟩ = some (.int .i64 a0_1):=(bCe BK523.out 1).trans rfl;have hcz5_2 : w4.cell? ⟨gb523,2,none⟩ = some (.int .i64 a0_2):=(bCe BK523.out 2).trans rfl;have hcz5_3 : w4.cell? ⟨gb523,3,none⟩ = some (.int .i64 a0_3):=(bCe BK523.out 3).trans rfl;have hcz5_4 : w4.cell? ⟨gb523,4,none⟩ = some (.int .i64 a0_4):=(bCe BK523.out 4).trans rfl;have hcz5_5 : w4.cell? ⟨gb523,5,none⟩ = some (.int .i64 a0_5):=(bCe BK523.out 5).trans rfl;have hcz5_6 : w4.cell? ⟨gb523,6,none⟩ = some (.int .i64 a0_6):=(bCe BK523.out 6).trans rfl;have hcz5_7 : w4.cell? ⟨gb523,7,none⟩ = some (.int .i64 a0_7):=(bCe BK523.out 7).trans rfl;have hcz5_8 : w4.cell? ⟨gb523,8,none⟩ = some (.string a0_8):=(bCe BK523.out 8).trans rfl;have hcz5_9 : w4.cell? ⟨gb523,9,none⟩ = some (.string a0_9):=(bCe BK523.out 9).trans rfl;have hcz5_10 : w4.cell? ⟨gb523,10,none⟩ = some (.bool a0_10):=(bCe BK523.out 10).trans rfl;have hfz5_0:=bFr BK523.out 0;have hfz5_1:=bFr BK523.out 1;have hfz5_2:=bFr BK523.out 2;have hfz5_3:=bFr BK523.out 3;have hfz5_4:=bFr BK523.out 4;have hfz5_5:=bFr BK523.out 5;have hfz5_6:=bFr BK523.out 6;have hfz5_7:=bFr BK523.out 7;have hfz5_8:=bFr BK523.out 8;have hfz5_9:=bFr BK523.out 9;have hfz5_10:=bFr BK523.out 10)|((with_reducible refine gate_callee (f:=111) rfl ?_);refine goesL_ (some 10) rfl rfl Try.func111 (by kernel_rfl) rfl #[.agg #[.string a0_0,.int .i64 a0_1,.int .i64 a0_2,.int .i64 a0_3,.int .i64 a0_4,.int .i64 a0_5,.int .i64 a0_6,.int .i64 a0_7,.string a0_8,.string a0_9,.bool a0_10],.int .i64 a0_5,.int .i64 18,.string (⟨#[]⟩ : ByteArray)] rfl (by (try simp only [List.map_toArray,List.map_cons,List.map_nil]);first | done | rfl|(simp only [List.length_drop,List.length_take];rfl)) ?_;(with_reducible refine (spec_l10Reply.calls a0_0 a0_1 a0_2 a0_3 a0_4 a0_5 a0_6 a0_7 a0_8 a0_9 a0_10 a0_5 18 (⟨#[]⟩ : ByteArray) t524 t525 t526 t527 t528 t529 t530 _ A3.out).mono ?_);rintro e w6 ⟨rfl,hb⟩;refine ⟨_,rfl,?_⟩;have n0_:=aMk (blk_below (g:=gb523) (o:=.cells #[.string a0_0,.int .i64 a0_1,.int .i64 a0_2,.int .i64 a0_3,.int .i64 a0_4,.int .i64 a0_5,.int .i64 a0_6,.int .i64 a0_7,.string a0_8,.string a0_9,.bool a0_10] 34 (0,0)) (by (with_reducible repeat (first|refine bDn ?_ _|refine bDr ?_|refine bAl ?_ _));exact BK523.out) hb);have n1_:=aMk (below_step (by repeat (first|(with_reducible first|exact HB.out|apply bwA|apply bwN|apply bw1|refine below_set ?_ GE523.out)|exact HB.out)) hb);clear BK523;clear HB;have BK523:=n0_;have HB:=n1_;clear n0_ n1_;(try clear hb);(try clear hb2);(try clear hk);(try clear hi))|((with_reducible refine gate_dst (N:=11) rfl ?_);refine Kd.R_lit k53 _ 53 ?hg (N:=11) ?hd (xs:=([(⟨t524,t525,t526,t527,t528,t529,t530⟩ : S53)] : List (S53))) (inner:=[.int .i64 t524,.int .i64 t525,.int .i64 t526,.int .i64 t527,.int .i64 t528,.int .i64 t529,.string t530]) (ok:=fun _ => True) (okp:=fun _ => True) ?hr ?hp (fun _ hk => hk) trivial (Below.refl _ _) (Nat.le_refl _) (by simp) ?_;(case hd => rfl);(case hg => rfl);(case hr => first|(go_simp;done)|(go_simp;rfl));(case hp => exact (Reps.c7 (show Kd.M k53 _ _ _ (⟨t524,t525,t526,t527,t528,t529,t530⟩ : S53) [.int .i64 t524,.int .i64 t525,.int .i64 t526,.int .i64 t527,.int .i64 t528,.int .i64 t529,.string t530] from (k53_mkM _ _ _ (⟨t524,t525,t526,t527,t528,t529,t530⟩ : S53) )) (Reps.none _ _)));intro v532 w7 ho8 hb hg_ hnew_;clear hg_ hnew_;(first|rw [← Ny531.out] at ho8|(simp only [Int.reduceToNat] at ho8;rw [← Ny531.out] at ho8));have n0_:=aMk (Kd.R_lower ho8 (below_size (by repeat (first|(with_reducible first|exact HB.out|apply bwA|apply bwN|apply bw1|refine below_set ?_ GE523.out)|exact HB.out))));have n1_:=aMk (blk_below (g:=gb523) (o:=.cells #[.string a0_0,.int .i64 a0_1,.int .i64 a0_2,.int .i64 a0_3,.int .i64 a0_4,.int .i64 a0_5,.int .i64 a0_6,.int .i64 a0_7,.string a0_8,.string a0_9,.bool a0_10] 34 (0,0)) (by (with_reducible repeat (first|refine bDn ?_ _|refine bDr ?_|refine bAl ?_ _));exact BK523.out) hb);have n2_:=aMk (below_step (by repeat (first|(with_reducible first|exact HB.out|apply bwA|apply bwN|apply bw1|refine below_set ?_ GE523.out)|exact HB.out)) hb);clear BK523;clear HB;have HO533:=n0_;have BK523:=n1_;have HB:=n2_;clear n0_ n1_ n2_;clear hb ho8))
  go_ret
  exact ⟨_,by first | rfl|(simp [errW_none,errW_some] <;> rfl)|(simp [*,errW_none,errW_some] <;> rfl),by (with_reducible repeat (first|apply Kd.R_alloc|apply Kd.R_drewN|apply Kd.R_drew));exact HO533.out,by repeat (first|(with_reducible first|exact HB.out|apply bwA|apply bwN|apply bw1|refine below_set ?_ GE523.out)|exact HB.out)⟩
 ·rw [if_neg c2] at H
  have c2b0 : (a0_4 == 1) = false:=beq_eq_false_iff_ne.mpr c2
  have c2b1 : (a0_4 != 1) = true:=bne_iff_ne.mpr c2
  by_cases c9 : a0_4 = 4
  ·rw [if_pos c9] at H
   have c9b0 : (a0_4 == 4) = true:=beq_iff_eq.mpr c9
   have c9b1 : (a0_4 != 4) = false:=bne_eq_false_iff_eq.mpr c9
   clear c9
   obtain ⟨y534,hy534⟩ : ∃ y_ : List (S53),y_ = (([] : List (S53))):=⟨_,rfl⟩
   replace H : (some y534) = some r:=by first|(rw [hy534];with_reducible exact H)|(have H2_:=(Option.bind_some _ _).symm.trans H;rw [hy534];with_reducible exact H2_)|(have H2_:=(Option.bind_some _ _).symm.trans H;with_reducible exact H2_) | with_reducible exact H|(rw [hy534];exact H)|exact H
   have Ny534:=aMk hy534
   clear hy534
   obtain rfl:=Option.some.inj H
   go_enter Try.func90,Try.ntmps90
   go_wp2_with (first|((with_reducible refine gate_dst (N:=1) rfl ?_);refine box_event ?hg (N:=1) ?hd (cs:=#[.string a0_0,.int .i64 a0_1,.int .i64 a0_2,.int .i64 a0_3,.int .i64 a0_4,.int .i64 a0_5,.int .i64 a0_6,.int .i64 a0_7,.string a0_8,.string a0_9,.bool a0_10]) (t:=34) ?hr ?_;(case hd => rfl);(case hg => rfl);(case hr => first|(go_simp;done)|(go_simp;rfl));intro gb523 hg w10 hbox hb;have n0_:=aMk (below_step (by repeat first|exact HB.out|apply bwA|apply bwN|apply bw1) hb);have n1_:=aMk (hbox);have n2_:=aMk ((by rw [hg];exact (below_size (by repeat first|exact HB.out|apply bwA|apply bwN|apply bw1)) : w.heap.size ≤ gb523));have n3_:=aMk ((by rw [hg];exact (below_size (by repeat first|exact HB.out|apply bwA|apply bwN|apply bw1)) : w.heap.size ≤ gb523));clear HB;have HB:=n0_;have BK523:=n1_;have GW523:=n2_;have GE523:=n3_;clear n0_ n1_ n2_ n3_;clear hb hbox hg;have hcz11_0 : w10.cell? ⟨gb523,0,none⟩ = some (.string a0_0):=(bCe BK523.out 0).trans rfl;have hcz11_1 : w10.cell? ⟨gb523,1,none⟩ = some (.int .i64 a0_1):=(bCe BK523.out 1).trans rfl;have hcz11_2 : w10.cell? ⟨gb523,2,none⟩ = some (.int .i64 a0_2):=(bCe BK523.out 2).trans rfl;have hcz11_3 : w10.cell? ⟨gb523,3,none⟩ = some (.int .i64 a0_3):=(bCe BK523.out 3).trans rfl;have hcz11_4 : w10.cell? ⟨gb523,4,none⟩ = some (.int .i64 a0_4):=(bCe BK523.out 4).trans rfl;have hcz11_5 : w10.cell? ⟨gb523,5,none⟩ = some (.int .i64 a0_5):=(bCe BK523.out 5).trans rfl;have hcz11_6 : w10.cell? ⟨gb523,6,none⟩ = some (.int .i64 a0_6):=(bCe BK523.out 6).trans rfl;have hcz11_7 : w10.cell? ⟨gb523,7,none⟩ = some (.int .i64 a0_7):=(bCe BK523.out 7).trans rfl;have hcz11_8 : w10.cell? ⟨gb523,8,none⟩ = some (.string a0_8):=(bCe BK523.out 8).trans rfl;have hcz11_9 : w10.cell? ⟨gb523,9,none⟩ = some (.string a0_9):=(bCe BK523.out 9).trans rfl;have hcz11_10 : w10.cell? ⟨gb523,10,none⟩ = some (.bool a0_10):=(bCe BK523.out 10).trans rfl;have hfz11_0:=bFr BK523.out 0;have hfz11_1:=bFr BK523.out 1;have hfz11_2:=bFr BK523.out 2;have hfz11_3:=bFr BK523.out 3;have hfz11_4:=bFr BK523.out 4;have hfz11_5:=bFr BK523.out 5;have hfz11_6:=bFr BK523.out 6;have hfz11_7:=bFr BK523.out 7;have hfz11_8:=bFr BK523.out 8;have hfz11_9:=bFr BK523.out 9;have hfz11_10:=bFr BK523.out 10)|((with_reducible refine gate_dst (N:=14) rfl ?_);refine Kd.R_lit k53 _ 53 ?hg (N:=14) ?hd (xs:=([] : List (S53))) (inner:=[]) (ok:=fun _ => True) (okp:=fun _ => True) ?hr ?hp (fun _ hk => hk) trivial (Below.refl _ _) (Nat.le_refl _) (by simp) ?_;(case hd => rfl);(case hg => rfl);(case hr => first|(go_simp;done)|(go_simp;rfl));(case hp => exact (Reps.none _ _));intro v535 w12 ho13 hb hg_ hnew_;clear hg_ hnew_;(first|rw [← Ny534.out] at ho13|(simp only [Int.reduceToNat] at ho13;rw [← Ny534.out] at ho13));have n0_:=aMk (Kd.R_lower ho13 (below_size (by repeat (first|(with_reducible first|exact HB.out|apply bwA|apply bwN|apply bw1|refine below_set ?_ GE523.out)|exact HB.out))));have n1_:=aMk (blk_below (g:=gb523) (o:=.cells #[.string a0_0,.int .i64 a0_1,.int .i64 a0_2,.int .i64 a0_3,.int .i64 a0_4,.int .i64 a0_5,.int .i64 a0_6,.int .i64 a0_7,.string a0_8,.string a0_9,.bool a0_10] 34 (0,0)) (by (with_reducible repeat (first|refine bDn ?_ _|refine bDr ?_|refine bAl ?_ _));exact BK523.out) hb);have n2_:=aMk (below_step (by repeat (first|(with_reducible first|exact HB.out|apply bwA|apply bwN|apply bw1|refine below_set ?_ GE523.out)|exact HB.out)) hb);clear BK523;clear HB;have HO536:=n0_;have BK523:=n1_;have HB:=n2_;clear n0_ n1_ n2_;clear hb ho13))
   go_ret
   exact ⟨_,by first | rfl|(simp [errW_none,errW_some] <;> rfl)|(simp [*,errW_none,errW_some] <;> rfl),by (with_reducible repeat (first|apply Kd.R_alloc|apply Kd.R_drewN|apply Kd.R_drew));exact HO536.out,by repeat (first|(with_reducible first|exact HB.out|apply bwA|apply bwN|apply bw1|refine below_set ?_ GE523.out)|exact HB.out)⟩
  ·rw [if_neg c9] at H
   have c9b0 : (a0_4 == 4) = false:=beq_eq_false_iff_ne.mpr c9
   have c9b1 : (a0_4 != 4) = true:=bne_iff_ne.mpr c9
   replace H:=Option.bind_eq_some_iff.mp H
   obtain ⟨t537,A140,H⟩:=H
   replace H : (some t537) = some r:=H
   have A14:=aMk A140
   clear A140
   obtain rfl:=Option.some.inj H
   go_enter Try.func90,Try.ntmps90
   go_wp2_with (first|((with_reducible refine gate_dst (N:=1) rfl ?_);refine box_event ?hg (N:=1) ?hd (cs:=#[.string a0_0,.int .i64 a0_1,.int .i64 a0_2,.int .i64 a0_3,.int .i64 a0_4,.int .i64 a0_5,.int .i64 a0_6,.int .i64 a0_7,.string a0_8,.string a0_9,.bool a0_10]) (t:=34) ?hr ?_;(case hd => rfl);(case hg => rfl);(case hr => first|(go_simp;done)|(go_simp;rfl));intro gb523 hg w15 hbox hb;have n0_:=aMk (below_step (by repeat first|exact HB.out|apply bwA|apply bwN|apply bw1) hb);have n1_:=aMk (hbox);have n2_:=aMk ((by rw [hg];exact (below_size (by repeat first|exact HB.out|apply bwA|apply bwN|apply bw1)) : w.heap.size ≤ gb523));have n3_:=aMk ((by rw [hg];exact (below_size (by repeat first|exact HB.out|apply bwA|apply bwN|apply bw1)) : w.heap.size ≤ gb523));clear HB;have HB:=n0_;have BK523:=n1_;have GW523:=n2_;have GE523:=n3_;clear n0_ n1_ n2_ n3_;clear hb hbox hg;have hcz16_0 : w15.cell? ⟨gb523,0,none⟩ = some (.string a0_0):=(bCe BK523.out 0).trans rfl;have hcz16_1 : w15.cell? ⟨gb523,1,none⟩ = some (.int .i64 a0_1):=(bCe BK523.out 1).trans rfl;have hcz16_2 : w15.cell? ⟨gb523,2,none⟩ = some (.int .i64 a0_2):=(bCe BK523.out 2).trans rfl;have hcz16_3 : w15.cell? ⟨gb523,3,none⟩ = some (.int .i64 a0_3):=(bCe BK523.out 3).trans rfl;have hcz16_4 : w15.cell? ⟨gb523,4,none⟩ = some (.int .i64 a0_4):=(bCe BK523.out 4).trans rfl;have hcz16_5 : w15.cell? ⟨gb523,5,none⟩ = some (.int .i64 a0_5):=(bCe BK523.out 5).trans rfl;have hcz16_6 : w15.cell? ⟨gb523,6,none⟩ = some (.int .i64 a0_6):=(bCe BK523.out 6).trans rfl;have hcz16_7 : w15.cell? ⟨gb523,7,none⟩ = some (.int .i64 a0_7):=(bCe BK523.out 7).trans rfl;have hcz16_8 : w15.cell? ⟨gb523,8,none⟩ = some (.string a0_8):=(bCe BK523.out 8).trans rfl;have hcz16_9 : w15.cell? ⟨gb523,9,none⟩ = some (.string a0_9):=(bCe BK523.out 9).trans rfl;have hcz16_10 : w15.cell? ⟨gb523,10,none⟩ = some (.bool a0_10):=(bCe BK523.out 10).trans rfl;have hfz16_0:=bFr BK523.out 0;have hfz16_1:=bFr BK523.out 1;have hfz16_2:=bFr BK523.out 2;have hfz16_3:=bFr BK523.out 3;have hfz16_4:=bFr BK523.out 4;have hfz16_5:=bFr BK523.out 5;have hfz16_6:=bFr BK523.out 6;have hfz16_7:=bFr BK523.out 7;have hfz16_8:=bFr BK523.out 8;have hfz16_9:=bFr BK523.out 9;have hfz16_10:=bFr BK523.out 10)|((with_reducible refine gate_callee (f:=114) rfl ?_);refine goesL_ (some 22) rfl rfl Try.func114 (by kernel_rfl) rfl #[.agg #[.string a0_0,.int .i64 a0_1,.int .i64 a0_2,.int .i64 a0_3,.int .i64 a0_4,.int .i64 a0_5,.int .i64 a0_6,.int .i64 a0_7,.string a0_8,.string a0_9,.bool a0_10],.int .i64 a0_5,.string a0_9,.bool a0_10] rfl (by (try simp only [List.map_toArray,List.map_cons,List.map_nil]);first | done | rfl|(simp only [List.length_drop,List.length_take];rfl)) ?_;(with_reducible refine (spec_l10Pieces.calls k a0_0 a0_1 a0_2 a0_3 a0_4 a0_5 a0_6 a0_7 a0_8 a0_9 a0_10 a0_5 a0_9 a0_10 t537 _ A14.out).mono ?_);rintro e w17 ⟨v538,rfl,ho0,hb⟩;refine ⟨_,rfl,?_⟩;have n0_:=aMk (Kd.R_lower ho0 (below_size (by repeat (first|(with_reducible first|exact HB.out|apply bwA|apply bwN|apply bw1|refine below_set ?_ GE523.out)|exact HB.out))));have n1_:=aMk (blk_below (g:=gb523) (o:=.cells #[.string a0_0,.int .i64 a0_1,.int .i64 a0_2,.int .i64 a0_3,.int .i64 a0_4,.int .i64 a0_5,.int .i64 a0_6,.int .i64 a0_7,.string a0_8,.string a0_9,.bool a0_10] 34 (0,0)) (by (with_reducible repeat (first|refine bDn ?_ _|refine bDr ?_|refine bAl ?_ _));exact BK523.out) hb);have n2_:=aMk (below_step (by repeat (first|(with_reducible first|exact HB.out|apply bwA|apply bwN|apply bw1|refine below_set ?_ GE523.out)|exact HB.out)) hb);clear BK523;clear HB;have HO539:=n0_;have BK523:=n1_;have HB:=n2_;clear n0_ n1_ n2_;(try clear hb);(try clear hb2);(try clear hk);(try clear hi);(try clear ho0)))
   go_ret
   exact ⟨_,by first | rfl|(simp [errW_none,errW_some] <;> rfl)|(simp [*,errW_none,errW_some] <;> rfl),by (with_reducible repeat (first|apply Kd.R_alloc|apply Kd.R_drewN|apply Kd.R_drew));exact HO539.out,by repeat (first|(with_reducible first|exact HB.out|apply bwA|apply bwN|apply bw1|refine below_set ?_ GE523.out)|exact HB.out)⟩
end
section
/-! ### spec_ConnAgain: function 41 -/
def spec_ConnAgain.f (k : Nat) (a0_0 : ByteArray) (a0_1 : Int) (a0_2 : Int) (a0_3 : Int) (a0_4 : Int) (a0_5 : Int) (a0_6 : Int) (a0_7 : Int) (a0_8 : ByteArray) (a0_9 : ByteArray) (a0_10 : Bool) : Option ((List (S53)) × Int):=(spec_ConnOK.f k a0_0 a0_1 a0_2 a0_3 a0_4 a0_5 a0_6 a0_7 a0_8 a0_9 a0_10).bind fun t541 => (if t541 = true then ((spec_l10Again.f k a0_0 a0_1 a0_2 a0_3 a0_4 a0_5 a0_6 a0_7 a0_8 a0_9 a0_10).bind fun t542 => (some (t542,0))) else (some ((([] : List (S53))),1)))
theorem spec_ConnAgain.mono : ∀ a0 a1 a2 a3 a4 a5 a6 a7 a8 a9 a10 k,LeO (spec_ConnAgain.f k a0 a1 a2 a3 a4 a5 a6 a7 a8 a9 a10) (spec_ConnAgain.f (k + 1) a0 a1 a2 a3 a4 a5 a6 a7 a8 a9 a10):=by
 intro a0 a1 a2 a3 a4 a5 a6 a7 a8 a9 a10 k
 unfold spec_ConnAgain.f
 repeat' first
   | (with_reducible exact spec_ConnOK.mono ..)
   | (with_reducible exact spec_l10Again.mono ..)
   | (with_reducible exact LeO.refl _)
   | (with_reducible exact LeO.none _)
   | (with_reducible refine LeO.ite ?_ ?_)
   | (with_reducible refine LeO.bind ?_ (fun _ => ?_))
   | exact spec_ConnOK.mono ..
   | exact spec_l10Again.mono ..
   | exact LeO.none _
   | refine LeO.ite ?_ ?_
   | refine LeO.bind ?_ (fun _ => ?_)
set_option maxHeartbeats 8000000 in
set_option maxRecDepth 100000 in
theorem spec_ConnAgain.calls (k : Nat) (a0_0 : ByteArray) (a0_1 : Int) (a0_2 : Int) (a0_3 : Int) (a0_4 : Int) (a0_5 : Int) (a0_6 : Int) (a0_7 : Int) (a0_8 : ByteArray) (a0_9 : ByteArray) (a0_10 : Bool) (r1 : List (S53)) (r2 : Int) (w : World) (h : spec_ConnAgain.f k a0_0 a0_1 a0_2 a0_3 a0_4 a0_5 a0_6 a0_7 a0_8 a0_9 a0_10 = some (r1,r2)) :
  Calls Try.prog 41 #[.agg #[.string a0_0,.int .i64 a0_1,.int .i64 a0_2,.int .i64 a0_3,.int .i64 a0_4,.int .i64 a0_5,.int .i64 a0_6,.int .i64 a0_7,.string a0_8,.string a0_9,.bool a0_10]] w fun e w' => ∃ v0_ : Value,e = .returned (.tuple #[v0_,.int .i64 r2]) ∧ Kd.R k53 53 w' w.heap.size (fun _ => True) v0_ r1 ∧ Below w.heap.size w w':=by
 have hu34:=Try.underlying34
 have HB:=aMk (Below.refl w.heap.size w)
 have H : ((spec_ConnOK.f k a0_0 a0_1 a0_2 a0_3 a0_4 a0_5 a0_6 a0_7 a0_8 a0_9 a0_10).bind fun t541 => (if t541 = true then ((spec_l10Again.f k a0_0 a0_1 a0_2 a0_3 a0_4 a0_5 a0_6 a0_7 a0_8 a0_9 a0_10).bind fun t542 => (some (t542,0))) else (some ((([] : List (S53))),1)))) = some (r1,r2):=h
 clear h
 replace H:=Option.bind_eq_some_iff.mp H
 obtain ⟨t541,A20,H⟩:=H
 replace H : (if t541 = true then ((spec_l10Again.f k a0_0 a0_1 a0_2 a0_3 a0_4 a0_5 a0_6 a0_7 a0_8 a0_9 a0_10).bind fun t542 => (some (t542,0))) else (some ((([] : List (S53))),1))) = some (r1,r2):=H
 have A2:=aMk A20
 clear A20
 by_cases c3 : t541 = true
 ·subst c3
  have H1 : ((spec_l10Again.f k a0_0 a0_1 a0_2 a0_3 a0_4 a0_5 a0_6 a0_7 a0_8 a0_9 a0_10).bind fun t542 => (some (t542,0))) = some (r1,r2):=by rw [if_pos rfl] at H;exact H
  clear H
  have H:=H1
  clear H1
  replace H:=Option.bind_eq_some_iff.mp H
  obtain ⟨t542,A40,H⟩:=H
  replace H : (some (t542,0)) = some (r1,r2):=H
  have A4:=aMk A40
  clear A40
  simp only [Option.some.injEq,Prod.mk.injEq] at H
  obtain ⟨rfl,rfl⟩:=H
  go_enter Try.func41,Try.ntmps41
  go_wp2_with (first|((with_reducible refine gate_dst (N:=1) rfl ?_);refine box_event ?hg (N:=1) ?hd (cs:=#[.string a0_0,.int .i64 a0_1,.int .i64 a0_2,.int .i64 a0_3,.int .i64 a0_4,.int .i64 a0_5,.int .i64 a0_6,.int .i64 a0_7,.string a0_8,.string a0_9,.bool a0_10]) (t:=34) ?hr ?_;(case hd => rfl);(case hg => rfl);(case hr => first|(go_simp;done)|(go_simp;rfl));intro gb540 hg w5 hbox hb;have n0_:=aMk (below_step (by repeat first|exact HB.out|apply bwA|apply bwN|apply bw1) hb);have n1_:=aMk (hbox);have n2_:=aMk ((by rw [hg];exact (below_size (by repeat first|exact HB.out|apply bwA|apply bwN|apply bw1)) : w.heap.size ≤ gb540));have n3_:=aMk ((by rw [hg];exact (below_size (by repeat first|exact HB.out|apply bwA|apply bwN|apply bw1)) : w.heap.size ≤ gb540));clear HB;have HB:=n0_;have BK540:=n1_;have GW540:=n2_;have GE540:=n3_;clear n0_ n1_ n2_ n3_;clear hb hbox hg;have hcz6_0 : w5.cell? ⟨gb540,0,none⟩ = some (.string a0_0):=(bCe BK540.out 0).trans rfl;have hcz6_1 : w5.cell? ⟨gb540,1,none⟩ = some (.int .i64 a0_1):=(bCe BK540.out 1).trans rfl;have hcz6_2 : w5.cell? ⟨gb540,2,none⟩ = some (.int .i64 a0_2):=(bCe BK540.out 2).trans rfl;have hcz6_3 : w5.cell? ⟨gb540,3,none⟩ = some (.int .i64 a0_3):=(bCe BK540.out 3).trans rfl;have hcz6_4 : w5.cell? ⟨gb540,4,none⟩ = some (.int .i64 a0_4):=(bCe BK540.out 4).trans rfl;have hcz6_5 : w5.cell? ⟨gb540,5,none⟩ = some (.int .i64 a0_5):=(bCe BK540.out 5).trans rfl;have hcz6_6 : w5.cell? ⟨gb540,6,none⟩ = some (.int .i64 a0_6):=(bCe BK540.out 6).trans rfl;have hcz6_7 : w5.cell? ⟨gb540,7,none⟩ = some (.int .i64 a0_7):=(bCe BK540.out 7).trans rfl;have hcz6_8 : w5.cell? ⟨gb540,8,none⟩ = some (.string a0_8):=(bCe BK540.out 8).trans rfl;have hcz6_9 : w5.cell? ⟨gb540,9,none⟩ = some (.string a0_9):=(bCe BK540.out 9).trans rfl;have hcz6_10 : w5.cell? ⟨gb540,10,none⟩ = some (.bool a0_10):=(bCe BK540.out 10).trans rfl;have hfz6_0:=bFr BK540.out 0;have hfz6_1:=bFr BK540.out 1;have hfz6_2:=bFr BK540.out 2;have hfz6_3:=bFr BK540.out 3;have hfz6_4:=bFr BK540.out 4;have hfz6_5:=bFr BK540.out 5;have hfz6_6:=bFr BK540.out 6;have hfz6_7:=bFr BK540.out 7;have hfz6_8:=bFr BK540.out 8;have hfz6_9:=bFr BK540.out 9;have hfz6_10:=bFr BK540.out 10)|((with_reducible refine gate_callee (f:=23) rfl ?_);refine goesL_ (some 5) rfl rfl Try.func23 (by kernel_rfl) rfl #[.agg #[.string a0_0,.int .i64 a0_1,.int .i64 a0_2,.int .i64 a0_3,.int .i64 a0_4,.int .i64 a0_5,.int .i64 a0_6,.int .i64 a0_7,.string a0_8,.string a0_9,.bool a0_10]] rfl (by (try simp only [List.map_toArray,List.map_cons,List.map_nil]);first | done | rfl|(simp only [List.length_drop,List.length_take];rfl)) ?_;(with_reducible refine (spec_ConnOK.calls k a0_0 a0_1 a0_2 a0_3 a0_4 a0_5 a0_6 a0_7 a0_8 a0_9 a0_10 true _ A2.out).mono ?_);rintro e w7 ⟨rfl,hb⟩;refine ⟨_,rfl,?_⟩;have n0_:=aMk (blk_below (g:=gb540) (o:=.cells #[.string a0_0,.int .i64 a0_1,.int .i64 a0_2,.int .i64 a0_3,.int .i64 a0_4,.int .i64 a0_5,.int .i64 a0_6,.int .i64 a0_7,.string a0_8,.string a0_9,.bool a0_10] 34 (0,0)) (by (with_reducible repeat (first|refine bDn ?_ _|refine bDr ?_|refine bAl ?_ _));exact BK540.out) hb);have n1_:=aMk (below_step (by repeat (first|(with_reducible first|exact HB.out|apply bwA|apply bwN|apply bw1|refine below_set ?_ GE540.out)|exact HB.out)) hb);clear BK540;clear HB;have BK540:=n0_;have HB:=n1_;clear n0_ n1_;(try clear hb);(try clear hb2);(try clear hk);(try clear hi);have hcz8_0 : w7.cell? ⟨gb540,0,none⟩ = some (.string a0_0):=(bCe BK540.out 0).trans rfl;have hcz8_1 : w7.cell? ⟨gb540,1,none⟩ = some (.int .i64 a0_1):=(bCe BK540.out 1).trans rfl;have hcz8_2 : w7.cell? ⟨gb540,2,none⟩ = some (.int .i64 a0_2):=(bCe BK540.out 2).trans rfl;have hcz8_3 : w7.cell? ⟨gb540,3,none⟩ = some (.int .i64 a0_3):=(bCe BK540.out 3).trans rfl;have hcz8_4 : w7.cell? ⟨gb540,4,none⟩ = some (.int .i64 a0_4):=(bCe BK540.out 4).trans rfl;have hcz8_5 : w7.cell? ⟨gb540,5,none⟩ = some (.int .i64 a0_5):=(bCe BK540.out 5).trans rfl;have hcz8_6 : w7.cell? ⟨gb540,6,none⟩ = some (.int .i64 a0_6):=(bCe BK540.out 6).trans rfl;have hcz8_7 : w7.cell? ⟨gb540,7,none⟩ = some (.int .i64 a0_7):=(bCe BK540.out 7).trans rfl;have hcz8_8 : w7.cell? ⟨gb540,8,none⟩ = some (.string a0_8):=(bCe BK540.out 8).trans rfl;have hcz8_9 : w7.cell? ⟨gb540,9,none⟩ = some (.string a0_9):=(bCe BK540.out 9).trans rfl;have hcz8_10 : w7.cell? ⟨gb540,10,none⟩ = some (.bool a0_10):=(bCe BK540.out 10).trans rfl;have hfz8_0:=bFr BK540.out 0;have hfz8_1:=bFr BK540.out 1;have hfz8_2:=bFr BK540.out 2;have hfz8_3:=bFr BK540.out 3;have hfz8_4:=bFr BK540.out 4;have hfz8_5:=bFr BK540.out 5;have hfz8_6:=bFr BK540.out 6;have hfz8_7:=bFr BK540.out 7;have hfz8_8:=bFr BK540.out 8;have hfz8_9:=bFr BK540.out 9;have hfz8_10:=bFr BK540.out 10)|((with_reducible refine gate_callee (f:=90) rfl ?_);refine goesL_ (some 9) rfl rfl Try.func90 (by kernel_rfl) rfl #[.agg #[.string a0_0,.int .i64 a0_1,.int .i64 a0_2,.int .i64 a0_3,.int .i64 a0_4,.int .i64 a0_5,.int .i64 a0_6,.int .i64 a0_7,.string a0_8,.string a0_9,.bool a0_10]] rfl (by (try simp only [List.map_toArray,List.map_cons,List.map_nil]);first | done | rfl|(simp only [List.length_drop,List.length_take];rfl)) ?_;(with_reducible refine (spec_l10Again.calls k a0_0 a0_1 a0_2 a0_3 a0_4 a0_5 a0_6 a0_7 a0_8 a0_9 a0_10 t542 _ A4.out).mono ?_);rintro e w9 ⟨v543,rfl,ho0,hb⟩;refine ⟨_,rfl,?_⟩;have n0_:=aMk (Kd.R_lower ho0 (below_size (by repeat (first|(with_reducible first|exact HB.out|apply bwA|apply bwN|apply bw1|refine below_set ?_ GE540.out)|exact HB.out))));have n1_:=aMk (blk_below (g:=gb540) (o:=.cells #[.string a0_0,.int .i64 a0_1,.int .i64 a0_2,.int .i64 a0_3,.int .i64 a0_4,.int .i64 a0_5,.int .i64 a0_6,.int .i64 a0_7,.string a0_8,.string a0_9,.bool a0_10] 34 (0,0)) (by (with_reducible repeat (first|refine bDn ?_ _|refine bDr ?_|refine bAl ?_ _));exact BK540.out) hb);have n2_:=aMk (below_step (by repeat (first|(with_reducible first|exact HB.out|apply bwA|apply bwN|apply bw1|refine below_set ?_ GE540.out)|exact HB.out)) hb);clear BK540;clear HB;have HO544:=n0_;have BK540:=n1_;have HB:=n2_;clear n0_ n1_ n2_;(try clear hb);(try clear hb2);(try clear hk);(try clear hi);(try clear ho0)))
  go_ret2
  exact ⟨_,by first | rfl|(simp [errW_none,errW_some] <;> rfl)|(simp [*,errW_none,errW_some] <;> rfl),by (with_reducible repeat (first|apply Kd.R_alloc|apply Kd.R_drewN|apply Kd.R_drew));exact HO544.out,by repeat (first|(with_reducible first|exact HB.out|apply bwA|apply bwN|apply bw1|refine below_set ?_ GE540.out)|exact HB.out)⟩
 ·replace c3:=Bool.eq_false_iff.mpr c3
  subst c3
  have H1 : (some ((([] : List (S53))),1)) = some (r1,r2):=by rw [if_neg (show ¬ (false = true) by decide)] at H;exact H
  clear H
  have H:=H1
  clear H1
  obtain ⟨y545,hy545⟩ : ∃ y_ : List (S53),y_ = (([] : List (S53))):=⟨_,rfl⟩
  replace H : (some (y545,1)) = some (r1,r2):=by first|(rw [hy545];with_reducible exact H)|(have H2_:=(Option.bind_some _ _).symm.trans H;rw [hy545];with_reducible exact H2_)|(have H2_:=(Option.bind_some _ _).symm.trans H;with_reducible exact H2_) | with_reducible exact H|(rw [hy545];exact H)|exact H
  have Ny545:=aMk hy545
  clear hy545
  simp only [Option.some.injEq,Prod.mk.injEq] at H
  obtain ⟨rfl,rfl⟩:=H
  go_enter Try.func41,Try.ntmps41
  go_wp2_with (first|((with_reducible refine gate_dst (N:=1) rfl ?_);refine box_event ?hg (N:=1) ?hd (cs:=#[.string a0_0,.int .i64 a0_1,.int .i64 a0_2,.int .i64 a0_3,.int .i64 a0_4,.int .i64 a0_5,.int .i64 a0_6,.int .i64 a0_7,.string a0_8,.string a0_9,.bool a0_10]) (t:=34) ?hr ?_;(case hd => rfl);(case hg => rfl);(case hr => first|(go_simp;done)|(go_simp;rfl));intro gb540 hg w10 hbox hb;have n0_:=aMk (below_step (by repeat first|exact HB.out|apply bwA|apply bwN|apply bw1) hb);have n1_:=aMk (hbox);have n2_:=aMk ((by rw [hg];exact (below_size (by repeat first|exact HB.out|apply bwA|apply bwN|apply bw1)) : w.heap.size ≤ gb540));have n3_:=aMk ((by rw [hg];exact (below_size (by repeat first|exact HB.out|apply bwA|apply bwN|apply bw1)) : w.heap.size ≤ gb540));clear HB;have HB:=n0_;have BK540:=n1_;have GW540:=n2_;have GE540:=n3_;clear n0_ n1_ n2_ n3_;clear hb hbox hg;have hcz11_0 : w10.cell? ⟨gb540,0,none⟩ = some (.string a0_0):=(bCe BK540.out 0).trans rfl;have hcz11_1 : w10.cell? ⟨gb540,1,none⟩ = some (.int .i64 a0_1):=(bCe BK540.out 1).trans rfl;have hcz11_2 : w10.cell? ⟨gb540,2,none⟩ = some (.int .i64 a0_2):=(bCe BK540.out 2).trans rfl;have hcz11_3 : w10.cell? ⟨gb540,3,none⟩ = some (.int .i64 a0_3):=(bCe BK540.out 3).trans rfl;have hcz11_4 : w10.cell? ⟨gb540,4,none⟩ = some (.int .i64 a0_4):=(bCe BK540.out 4).trans rfl;have hcz11_5 : w10.cell? ⟨gb540,5,none⟩ = some (.int .i64 a0_5):=(bCe BK540.out 5).trans rfl;have hcz11_6 : w10.cell? ⟨gb540,6,none⟩ = some (.int .i64 a0_6):=(bCe BK540.out 6).trans rfl;have hcz11_7 : w10.cell? ⟨gb540,7,none⟩ = some (.int .i64 a0_7):=(bCe BK540.out 7).trans rfl;have hcz11_8 : w10.cell? ⟨gb540,8,none⟩ = some (.string a0_8):=(bCe BK540.out 8).trans rfl;have hcz11_9 : w10.cell? ⟨gb540,9,none⟩ = some (.string a0_9):=(bCe BK540.out 9).trans rfl;have hcz11_10 : w10.cell? ⟨gb540,10,none⟩ = some (.bool a0_10):=(bCe BK540.out 10).trans rfl;have hfz11_0:=bFr BK540.out 0;have hfz11_1:=bFr BK540.out 1;have hfz11_2:=bFr BK540.out 2;have hfz11_3:=bFr BK540.out 3;have hfz11_4:=bFr BK540.out 4;have hfz11_5:=bFr BK540.out 5;have hfz11_6:=bFr BK540.out 6;have hfz11_7:=bFr BK540.out 7;have hfz11_8:=bFr BK540.out 8;have hfz11_9:=bFr BK540.out 9;have hfz11_10:=bFr BK540.out 10)|((with_reducible refine gate_callee (f:=23) rfl ?_);refine goesL_ (some 5) rfl rfl Try.func23 (by kernel_rfl) rfl #[.agg #[.string a0_0,.int .i64 a0_1,.int .i64 a0_2,.int .i64 a0_3,.int .i64 a0_4,.int .i64 a0_5,.int .i64 a0_6,.int .i64 a0_7,.string a0_8,.string a0_9,.bool a0_10]] rfl (by (try simp only [List.map_toArray,List.map_cons,List.map_nil]);first | done | rfl|(simp only [List.length_drop,List.length_take];rfl)) ?_;(with_reducible refine (spec_ConnOK.calls k a0_0 a0_1 a0_2 a0_3 a0_4 a0_5 a0_6 a0_7 a0_8 a0_9 a0_10 false _ A2.out).mono ?_);rintro e w12 ⟨rfl,hb⟩;refine ⟨_,rfl,?_⟩;have n0_:=aMk (blk_below (g:=gb540) (o:=.cells #[.string a0_0,.int .i64 a0_1,.int .i64 a0_2,.int .i64 a0_3,.int .i64 a0_4,.int .i64 a0_5,.int .i64 a0_6,.int .i64 a0_7,.string a0_8,.string a0_9,.bool a0_10] 34 (0,0)) (by (with_reducible repeat (first|refine bDn ?_ _|refine bDr ?_|refine bAl ?_ _));exact BK540.out) hb);have n1_:=aMk (below_step (by repeat (first|(with_reducible first|exact HB.out|apply bwA|apply bwN|apply bw1|refine below_set ?_ GE540.out)|exact HB.out)) hb);clear BK540;clear HB;have BK540:=n0_;have HB:=n1_;clear n0_ n1_;(try clear hb);(try clear hb2);(try clear hk);(try clear hi))|((with_reducible refine gate_dst (N:=7) rfl ?_);refine Kd.R_lit k53 _ 53 ?hg (N:=7) ?hd (xs:=([] : List (S53))) (inner:=[]) (ok:=fun _ => True) (okp:=fun _ => True) ?hr ?hp (fun _ hk => hk) trivial (Below.refl _ _) (Nat.le_refl _) (by simp) ?_;(case hd => rfl);(case hg => rfl);(case hr => first|(go_simp;done)|(go_simp;rfl));(case hp => exact (Reps.none _ _));intro v546 w13 ho14 hb hg_ hnew_;clear hg_ hnew_;(first|rw [← Ny545.out] at ho14|(simp only [Int.reduceToNat] at ho14;rw [← Ny545.out] at ho14));have n0_:=aMk (Kd.R_lower ho14 (below_size (by repeat (first|(with_reducible first|exact HB.out|apply bwA|apply bwN|apply bw1|refine below_set ?_ GE540.out)|exact HB.out))));have n1_:=aMk (blk_below (g:=gb540) (o:=.cells #[.string a0_0,.int .i64 a0_1,.int .i64 a0_2,.int .i64 a0_3,.int .i64 a0_4,.int .i64 a0_5,.int .i64 a0_6,.int .i64 a0_7,.string a0_8,.string a0_9,.bool a0_10] 34 (0,0)) (by (with_reducible repeat (first|refine bDn ?_ _|refine bDr ?_|refine bAl ?_ _));exact BK540.out) hb);have n2_:=aMk (below_step (by repeat (first|(with_reducible first|exact HB.out|apply bwA|apply bwN|apply bw1|refine below_set ?_ GE540.out)|exact HB.out)) hb);clear BK540;clear HB;have HO547:=n0_;have BK540:=n1_;have HB:=n2_;clear n0_ n1_ n2_;clear hb ho14))
  go_ret2
  exact ⟨_,by first | rfl|(simp [errW_none,errW_some] <;> rfl)|(simp [*,errW_none,errW_some] <;> rfl),by (with_reducible repeat (first|apply Kd.R_alloc|apply Kd.R_drewN|apply Kd.R_drew));exact HO547.out,by repeat (first|(with_reducible first|exact HB.out|apply bwA|apply bwN|apply bw1|refine below_set ?_ GE540.out)|exact HB.out)⟩
end
section
/-! ### impl_Conn_opened: function 87 -/
def impl_Conn_opened.f (s0_0 : ByteArray) (s0_1 : Int) (s0_2 : Int) (s0_3 : Int) (s0_4 : Int) (s0_5 : Int) (s0_6 : Int) (s0_7 : Int) (s0_8 : ByteArray) (s0_9 : ByteArray) (s0_10 : Bool) : Option ((List (S53))):=(impl_Conn_tell.f s0_0 s0_1 s0_2 s0_3 s0_4 s0_5 s0_6 s0_7 s0_8 s0_9 s0_10 s0_5 18 (⟨#[]⟩ : ByteArray)).bind fun bt360 => (some (([(⟨bt360.1,bt360.2.1,bt360.2.2.1,bt360.2.2.2.1,bt360.2.2.2.2.1,bt360.2.2.2.2.2.1,bt360.2.2.2.2.2.2⟩ : S53)] : List (S53))))
set_option maxHeartbeats 8000000 in
set_option maxRecDepth 100000 in
theorem impl_Conn_opened.calls (g : Nat) (s0_0 : ByteArray) (s0_1 : Int) (s0_2 : Int) (s0_3 : Int) (s0_4 : Int) (s0_5 : Int) (s0_6 : Int) (s0_7 : Int) (s0_8 : ByteArray) (s0_9 : ByteArray) (s0_10 : Bool) (r : List (S53)) (w0 w : World) (hI : IsS34 w0 w g s0_0 s0_1 s0_2 s0_3 s0_4 s0_5 s0_6 s0_7 s0_8 s0_9 s0_10) (hB : Below w0.heap.size w0 w) (h : impl_Conn_opened.f s0_0 s0_1 s0_2 s0_3 s0_4 s0_5 s0_6 s0_7 s0_8 s0_9 s0_10 = some r) :
  Calls Try.prog 87 #[.pointer (some ⟨g,0,none⟩)] w fun e w' => ∃ v0_ : Value,e = .returned (v0_) ∧ Kd.R k53 53 w' w.heap.size (fun _ => True) v0_ r ∧ IsS34 w0 w' g s0_0 s0_1 s0_2 s0_3 s0_4 s0_5 s0_6 s0_7 s0_8 s0_9 s0_10 ∧ Below w0.heap.size w0 w' ∧ KeepBut w w' g none:=by
 have HI0:=aMk hI
 have HK:=aMk (KeepBut.refl w g none)
 have HL:=aMk hB.size
 clear hI
 have HW0:=aMk hB.size
 have HB:=aMk hB
 clear hB
 have H : ((impl_Conn_tell.f s0_0 s0_1 s0_2 s0_3 s0_4 s0_5 s0_6 s0_7 s0_8 s0_9 s0_10 s0_5 18 (⟨#[]⟩ : ByteArray)).bind fun bt360 => (some (([(⟨bt360.1,bt360.2.1,bt360.2.2.1,bt360.2.2.2.1,bt360.2.2.2.2.1,bt360.2.2.2.2.2.1,bt360.2.2.2.2.2.2⟩ : S53)] : List (S53))))) = some r:=h
 clear h
 replace H:=Option.bind_eq_some_iff.mp H
 obtain ⟨⟨t360,t361,t362,t363,t364,t365,t366⟩,A20,H⟩:=H
 replace H : (some (([(⟨t360,t361,t362,t363,t364,t365,t366⟩ : S53)] : List (S53)))) = some r:=H
 have A2:=aMk A20
 clear A20
 obtain ⟨y367,hy367⟩ : ∃ y_ : List (S53),y_ = (([(⟨t360,t361,t362,t363,t364,t365,t366⟩ : S53)] : List (S53))):=⟨_,rfl⟩
 replace H : (some y367) = some r:=by first|(rw [hy367];with_reducible exact H)|(have H2_:=(Option.bind_some _ _).symm.trans H;rw [hy367];with_reducible exact H2_)|(have H2_:=(Option.bind_some _ _).symm.trans H;with_reducible exact H2_) | with_reducible exact H|(rw [hy367];exact H)|exact H
 have Ny367:=aMk hy367
 clear hy367
 obtain rfl:=Option.some.inj H
 obtain ⟨HGz3,hgz3⟩:=HI0.out
 have hcz3_0:=cellS34_0 HGz3
 have hcz3_1:=cellS34_1 HGz3
 have hcz3_2:=cellS34_2 HGz3
 have hcz3_3:=cellS34_3 HGz3
 have hcz3_4:=cellS34_4 HGz3
 have hcz3_5:=cellS34_5 HGz3
 have hcz3_6:=cellS34_6 HGz3
 have hcz3_7:=cellS34_7 HGz3
 have hcz3_8:=cellS34_8 HGz3
 have hcz3_9:=cellS34_9 HGz3
 have hcz3_10:=cellS34_10 HGz3
 have hfz3_0:=bFr HGz3 0
 have hfz3_1:=bFr HGz3 1
 have hfz3_2:=bFr HGz3 2
 have hfz3_3:=bFr HGz3 3
 have hfz3_4:=bFr HGz3 4
 have hfz3_5:=bFr HGz3 5
 have hfz3_6:=bFr HGz3 6
 have hfz3_7:=bFr HGz3 7
 have hfz3_8:=bFr HGz3 8
 have hfz3_9:=bFr HGz3 9
 have hfz3_10:=bFr HGz3 10
 clear HGz3 hgz3
 go_enter Try.func87,Try.ntmps87
 go_wp2_with (first|((with_reducible refine gate_callee (f:=113) rfl ?_);refine goesL_ (some 8) rfl rfl Try.func113 (by kernel_rfl) rfl #[.pointer (some ⟨g,0,none⟩),.int .i64 s0_5,.int .i64 18,.string (⟨#[]⟩ : ByteArray)] rfl (by (try simp only [List.map_toArray,List.map_cons,List.map_nil]);first | done | rfl|(simp only [List.length_drop,List.length_take];rfl)) ?_;(with_reducible refine (impl_Conn_tell.calls g s0_0 s0_1 s0_2 s0_3 s0_4 s0_5 s0_6 s0_7 s0_8 s0_9 s0_10 s0_5 18 (⟨#[]⟩ : ByteArray) t360 t361 t362 t363 t364 t365 t366 w0 _ ?side1 ?side2 A2.out).mono ?_);(case side1 => repeat (first|(with_reducible first|exact HI0.out|apply IsS34.alloc|apply IsS34.drewN|apply IsS34.drew|apply IsS34.set_0|apply IsS34.set_1|apply IsS34.set_2|apply IsS34.set_3|apply IsS34.set_4|apply IsS34.set_5|apply IsS34.set_6|apply IsS34.set_7|apply IsS34.set_8|apply IsS34.set_9|apply IsS34.set_10)|exact HI0.out));(case side2 => repeat (first|(with_reducible first|exact HB.out|apply bwA|apply bwN|apply bw1|refine below_set ?_ (IsS34.ge HI0.out))|exact HB.out));rintro e w4 ⟨rfl,hi,hb,hk⟩;refine ⟨_,rfl,?_⟩;have n0_:=aMk (KeepBut.trans (by repeat (first|(with_reducible first|exact HK.out|apply KeepBut.set_|apply keep_drewN|apply keep_drew|apply keep_alloc)|exact HK.out)) hk (.inl rfl));have n1_:=aMk (hb);have n2_:=aMk (hi);clear HK;clear HB;clear HI0;have HK:=n0_;have HB:=n1_;have HI0:=n2_;clear n0_ n1_ n2_;(try clear hb);(try clear hb2);(try clear hk);(try clear hi))|((with_reducible refine gate_dst (N:=9) rfl ?_);refine Kd.R_lit k53 _ 53 ?hg (N:=9) ?hd (xs:=([(⟨t360,t361,t362,t363,t364,t365,t366⟩ : S53)] : List (S53))) (inner:=[.int .i64 t360,.int .i64 t361,.int .i64 t362,.int .i64 t363,.int .i64 t364,.int .i64 t365,.string t366]) (ok:=fun _ => True) (okp:=fun _ => True) ?hr ?hp (fun _ hk => hk) trivial (Below.refl _ _) (Nat.le_refl _) (by simp) ?_;(case hd => rfl);(case hg => rfl);(case hr => first|(go_simp;done)|(go_simp;rfl));(case hp => exact (Reps.c7 (show Kd.M k53 _ _ _ (⟨t360,t361,t362,t363,t364,t365,t366⟩ : S53) [.int .i64 t360,.int .i64 t361,.int .i64 t362,.int .i64 t363,.int .i64 t364,.int .i64 t365,.string t366] from (k53_mkM _ _ _ (⟨t360,t361,t362,t363,t364,t365,t366⟩ : S53) )) (Reps.none _ _)));intro v368 w5 ho6 hb hg_ hnew_;clear hg_ hnew_;(first|rw [← Ny367.out] at ho6|(simp only [Int.reduceToNat] at ho6;rw [← Ny367.out] at ho6));have n0_:=aMk (Kd.R_lower ho6 (keep_size (w:=w) (g:=g) (row:=none) (by repeat (first|(with_reducible first|exact HK.out|apply KeepBut.set_|apply keep_drewN|apply keep_drew|apply keep_alloc)|exact HK.out))));have n1_:=aMk (IsS34.below (by repeat (first|(with_reducible first|exact HI0.out|apply IsS34.alloc|apply IsS34.drewN|apply IsS34.drew|apply IsS34.set_0|apply IsS34.set_1|apply IsS34.set_2|apply IsS34.set_3|apply IsS34.set_4|apply IsS34.set_5|apply IsS34.set_6|apply IsS34.set_7|apply IsS34.set_8|apply IsS34.set_9|apply IsS34.set_10)|exact HI0.out)) hb);have n2_:=aMk (KeepBut.trans (by repeat (first|(with_reducible first|exact HK.out|apply KeepBut.set_|apply keep_drewN|apply keep_drew|apply keep_alloc)|exact HK.out)) (KeepBut.of_below hb g none) (.inl rfl));have n3_:=aMk (below_step (by repeat (first|(with_reducible first|exact HB.out|apply bwA|apply bwN|apply bw1|refine below_set ?_ (IsS34.ge HI0.out))|exact HB.out)) hb);clear HI0;clear HK;clear HB;have HO369:=n0_;have HI0:=n1_;have HK:=n2_;have HB:=n3_;clear n0_ n1_ n2_ n3_;clear hb ho6))
 go_ret
 exact ⟨_,by first | rfl|(simp [errW_none,errW_some] <;> rfl)|(simp [*,errW_none,errW_some] <;> rfl),by (with_reducible repeat (first|apply Kd.R_alloc|apply Kd.R_drewN|apply Kd.R_drew));exact HO369.out,by repeat (first|(with_reducible first|exact HI0.out|apply IsS34.alloc|apply IsS34.drewN|apply IsS34.drew|apply IsS34.set_0|apply IsS34.set_1|apply IsS34.set_2|apply IsS34.set_3|apply IsS34.set_4|apply IsS34.set_5|apply IsS34.set_6|apply IsS34.set_7|apply IsS34.set_8|apply IsS34.set_9|apply IsS34.set_10)|exact HI0.out),by repeat (first|(with_reducible first|exact HB.out|apply bwA|apply bwN|apply bw1|refine below_set ?_ (IsS34.ge HI0.out))|exact HB.out),by repeat (first|(with_reducible first|exact HK.out|apply KeepBut.set_|apply keep_drewN|apply keep_drew|apply keep_alloc)|exact HK.out)⟩
end
end Go.Proofs.Ytlpkldomoniegaa.X
