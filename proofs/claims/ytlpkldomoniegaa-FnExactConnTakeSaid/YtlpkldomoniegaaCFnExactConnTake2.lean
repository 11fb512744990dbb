/- Texts that the row of FnExactConnTake stands on: functions of the program and of the reference, each as a Lean function with the same answers, and the plain lemmas. Conditions: none beside those that each theorem names. -/
import Derived.Test.YtlpkldomoniegaaCFnExactConnTake1
namespace Go.Proofs.Ytlpkldomoniegaa.X
open Go.RowKit Go.Proofs.YtlpkldomoniegaaW.PrintWords Go.Proofs.YtlpkldomoniegaaW.PrintLast Go.Proofs.YtlpkldomoniegaaW.PrintMore
attribute [local go_sem] max2_int min2_int max_two min_two max_three min_three max_four min_four   -- for this text's walks alone
set_option linter.unusedVariables false
set_option linter.unusedSimpArgs false
open Go.Proofs.YtlpkldomoniegaaW.PrintWords renaming blk_drewN -> bDn
open Go.Proofs.YtlpkldomoniegaaW.PrintWords renaming blk_drew -> bDr
open Go.Proofs.YtlpkldomoniegaaW.PrintWords renaming blk_alloc -> bAl
open Go.Proofs.YtlpkldomoniegaaW.PrintWords renaming blk_frozen -> bFr
open Go.Proofs.YtlpkldomoniegaaW.PrintWords renaming blk_cell -> bCe
open Go.Proofs.YtlpkldomoniegaaW.PrintWords.Aside0 renaming mk -> aMk
open Go.World renaming block_lt_of_cell? -> wLt
open Go.Proofs.YtlpkldomoniegaaW.PrintWords renaming pw_below_drewN -> bwN
open Go.Proofs.YtlpkldomoniegaaW.PrintWords renaming below_drew1 -> bw1
open Go.Proofs.YtlpkldomoniegaaW.PrintWords renaming below_alloc -> bwA
section
/-! ### spec_l10Take: function 103 -/
mutual
def spec_l10Take.j1:Nat→List (S53)→Bool→ByteArray→Int→Int→Int→Int→Int→Int→Int→ByteArray→ByteArray→Bool→Int→Int→Int→Int→Int→Int→ByteArray→Option (ByteArray × Int × Int × Int × Int × Int × Int × Int × ByteArray × ByteArray × Bool × (List (S53)))
 | 0,_,_,_,_,_,_,_,_,_,_,_,_,_,_,_,_,_,_,_,_ => none
 | k + 1,x6,x76,x1144000,x1144001,x1144002,x1144003,x1144004,x1144005,x1144006,x1144007,x1144008,x1144009,x1144010,x1145000,x1145001,x1145002,x1145003,x1145004,x1145005,x1145006 => if x76 = true then (some (x1144000,x1144001,x1144002,x1144003,x1144004,x1144005,x1144006,x1144007,x1144008,x1144009,x1144010,x6)) else (if x1145006.toList = ([]:List UInt8) then (spec_l10Take.j2 k x6 ((Go.bits .and .i64 x1145004 1) == 0) x1144000 x1144001 x1144002 x1144003 x1144004 x1144005 x1144006 x1144007 x1144008 x1144009 x1144010 x1145000 x1145001 x1145002 x1145003 x1145004 x1145005 x1145006) else (spec_l10Take.j2 k x6 false x1144000 x1144001 x1144002 x1144003 x1144004 x1144005 x1144006 x1144007 x1144008 x1144009 x1144010 x1145000 x1145001 x1145002 x1145003 x1145004 x1145005 x1145006))
def spec_l10Take.j2:Nat→List (S53)→Bool→ByteArray→Int→Int→Int→Int→Int→Int→Int→ByteArray→ByteArray→Bool→Int→Int→Int→Int→Int→Int→ByteArray→Option (ByteArray × Int × Int × Int × Int × Int × Int × Int × ByteArray × ByteArray × Bool × (List (S53)))
 | 0,_,_,_,_,_,_,_,_,_,_,_,_,_,_,_,_,_,_,_,_ => none
 | k + 1,x6,x87,x1144000,x1144001,x1144002,x1144003,x1144004,x1144005,x1144006,x1144007,x1144008,x1144009,x1144010,x1145000,x1145001,x1145002,x1145003,x1145004,x1145005,x1145006 => if x87 = true then (some (x1144000,x1144001,x1144002,x1144003,x1144004,x1144005,x1144006,x1144007,x1144008,x1144009,x1144010,x6)) else (if x1145002 = x1144007 then (spec_l10Take.j3 k (decide ((wrap64 ((x1144008.size:Int) + (x1145006.size:Int)))≤300)) x1144000 x1144001 x1144002 x1144003 x1144004 x1144005 x1144006 x1144007 x1144008 x1144009 x1144010 x1145000 x1145001 x1145002 x1145003 x1145004 x1145005 x1145006) else (spec_l10Take.j3 k false x1144000 x1144001 x1144002 x1144003 x1144004 x1144005 x1144006 x1144007 x1144008 x1144009 x1144010 x1145000 x1145001 x1145002 x1145003 x1145004 x1145005 x1145006))
def spec_l10Take.j3:Nat→Bool→ByteArray→Int→Int→Int→Int→Int→Int→Int→ByteArray→ByteArray→Bool→Int→Int→Int→Int→Int→Int→ByteArray→Option (ByteArray × Int × Int × Int × Int × Int × Int × Int × ByteArray × ByteArray × Bool × (List (S53)))
 | 0,_,_,_,_,_,_,_,_,_,_,_,_,_,_,_,_,_,_,_ => none
 | k + 1,x104,x1144000,x1144001,x1144002,x1144003,x1144004,x1144005,x1144006,x1144007,x1144008,x1144009,x1144010,x1145000,x1145001,x1145002,x1145003,x1145004,x1145005,x1145006 => if x104 = true then (if x1144008.size + x1145006.size≤9223372036854775807 then ((spec_l10Seq.f (wrap64 (x1144007 + (x1145006.size:Int)))).bind fun t1181 => (if (Go.bits .and .i64 x1145004 1) = 0 then ((spec_l10Reply.f x1144000 x1144001 x1144002 x1144003 x1144004 x1144005 x1144006 t1181 (x1144008 ++ x1145006) x1144009 x1144010 x1144006 16 (⟨#[]⟩:ByteArray)).bind fun bt1182 => (some (x1144000,x1144001,x1144002,x1144003,x1144004,x1144005,x1144006,t1181,x1144008 ++ x1145006,x1144009,x1144010,(([(⟨bt1182.1,bt1182.2.1,bt1182.2.2.1,bt1182.2.2.2.1,bt1182.2.2.2.2.1,bt1182.2.2.2.2.2.1,bt1182.2.2.2.2.2.2⟩:S53)]:List (S53)))))) else ((spec_l10Seq.f (wrap64 (t1181 + 1))).bind fun t1192 => ((spec_l10Reply.f x1144000 x1144001 x1144002 x1144003 x1144004 x1144005 x1144006 t1192 (x1144008 ++ x1145006) x1144009 x1144010 x1144006 16 (⟨#[]⟩:ByteArray)).bind fun bt1193 => (some (x1144000,x1144001,x1144002,x1144003,x1144004,x1144005,x1144006,t1192,x1144008 ++ x1145006,x1144009,x1144010,(([(⟨bt1193.1,bt1193.2.1,bt1193.2.2.1,bt1193.2.2.2.1,bt1193.2.2.2.2.1,bt1193.2.2.2.2.2.1,bt1193.2.2.2.2.2.2⟩:S53)]:List (S53))))))))) else (none)) else ((spec_l10Reply.f x1144000 x1144001 x1144002 x1144003 x1144004 x1144005 x1144006 x1144007 x1144008 x1144009 x1144010 x1144006 16 (⟨#[]⟩:ByteArray)).bind fun bt1203 => (some (x1144000,x1144001,x1144002,x1144003,x1144004,x1144005,x1144006,x1144007,x1144008,x1144009,x1144010,(([(⟨bt1203.1,bt1203.2.1,bt1203.2.2.1,bt1203.2.2.2.1,bt1203.2.2.2.2.1,bt1203.2.2.2.2.2.1,bt1203.2.2.2.2.2.2⟩:S53)]:List (S53))))))
def spec_l10Take.j0:Nat→Bool→ByteArray→Int→Int→Int→Int→Int→Int→Int→ByteArray→ByteArray→Bool→Option (ByteArray × Int × Int × Int × Int × Int × Int × Int × ByteArray × ByteArray × Bool × (List (S53)))
 | 0,_,_,_,_,_,_,_,_,_,_,_,_ => none
 | k + 1,x46,x1144000,x1144001,x1144002,x1144003,x1144004,x1144005,x1144006,x1144007,x1144008,x1144009,x1144010 => if x46 = true then ((spec_l10Reply.f x1144000 x1144001 x1144002 x1144003 x1144004 x1144005 x1144006 x1144007 x1144008 x1144009 x1144010 x1144005 18 (⟨#[]⟩:ByteArray)).bind fun bt1150 => (some (x1144000,x1144001,x1144002,x1144003,x1144004,x1144005,x1144006,x1144007,x1144008,x1144009,x1144010,(([(⟨bt1150.1,bt1150.2.1,bt1150.2.2.1,bt1150.2.2.2.1,bt1150.2.2.2.2.1,bt1150.2.2.2.2.2.1,bt1150.2.2.2.2.2.2⟩:S53)]:List (S53)))))) else ((spec_l10Reply.f x1144000 x1144001 x1144002 x1144003 x1144004 x1144005 x1144006 x1144007 x1144008 x1144009 x1144010 x1144006 16 (⟨#[]⟩:ByteArray)).bind fun bt1160 => (some (x1144000,x1144001,x1144002,x1144003,x1144004,x1144005,x1144006,x1144007,x1144008,x1144009,x1144010,(([(⟨bt1160.1,bt1160.2.1,bt1160.2.2.1,bt1160.2.2.2.1,bt1160.2.2.2.2.1,bt1160.2.2.2.2.2.1,bt1160.2.2.2.2.2.2⟩:S53)]:List (S53))))))
end
def spec_l10Take.f (k:Nat) (a0_0:ByteArray) (a0_1 a0_2:Int) (a0_3 a0_4:Int) (a0_5 a0_6 a0_7:Int) (a0_8 a0_9:ByteArray) (a0_10:Bool) (a1_0 a1_1:Int) (a1_2 a1_3:Int) (a1_4 a1_5:Int) (a1_6:ByteArray):Option (ByteArray × Int × Int × Int × Int × Int × Int × Int × ByteArray × ByteArray × Bool × (List (S53))):=(some (([]:List (S53)):List (S53))).bind fun y1146 => (if a0_4 = 4 then (some (a0_0,a0_1,a0_2,a0_3,a0_4,a0_5,a0_6,a0_7,a0_8,a0_9,a0_10,y1146)) else (if (Go.bits .and .i64 a1_4 4) = 0 then (if (Go.bits .and .i64 a1_4 2) = 0 then (if (Go.bits .and .i64 a1_4 16) = 0 then (some (a0_0,a0_1,a0_2,a0_3,a0_4,a0_5,a0_6,a0_7,a0_8,a0_9,a0_10,y1146)) else ((spec_l10Acked.f k a0_0 a0_1 a0_2 a0_3 a0_4 a0_5 a0_6 a0_7 a0_8 a0_9 a0_10 a1_3).bind fun bt1170 => (if bt1170.2.2.2.2.1 = 1 then (spec_l10Take.j1 k y1146 true bt1170.1 bt1170.2.1 bt1170.2.2.1 bt1170.2.2.2.1 bt1170.2.2.2.2.1 bt1170.2.2.2.2.2.1 bt1170.2.2.2.2.2.2.1 bt1170.2.2.2.2.2.2.2.1 bt1170.2.2.2.2.2.2.2.2.1 bt1170.2.2.2.2.2.2.2.2.2.1 bt1170.2.2.2.2.2.2.2.2.2.2 a1_0 a1_1 a1_2 a1_3 a1_4 a1_5 a1_6) else (spec_l10Take.j1 k y1146 (bt1170.2.2.2.2.1 == 4) bt1170.1 bt1170.2.1 bt1170.2.2.1 bt1170.2.2.2.1 bt1170.2.2.2.2.1 bt1170.2.2.2.2.2.1 bt1170.2.2.2.2.2.2.1 bt1170.2.2.2.2.2.2.2.1 bt1170.2.2.2.2.2.2.2.2.1 bt1170.2.2.2.2.2.2.2.2.2.1 bt1170.2.2.2.2.2.2.2.2.2.2 a1_0 a1_1 a1_2 a1_3 a1_4 a1_5 a1_6)))) else (if a0_4 = 1 then ((spec_l10Seq.f (wrap64 (a1_2 + 1))).bind fun t1149 => (spec_l10Take.j0 k (t1149 == a0_7) a0_0 a0_1 a0_2 a0_3 a0_4 a0_5 a0_6 a0_7 a0_8 a0_9 a0_10)) else (spec_l10Take.j0 k false a0_0 a0_1 a0_2 a0_3 a0_4 a0_5 a0_6 a0_7 a0_8 a0_9 a0_10))) else (if a1_2 = a0_7 then (some (a0_0,a0_1,a0_2,a0_3,4,a0_6,a0_6,a0_7,(⟨#[]⟩:ByteArray),(⟨#[]⟩:ByteArray),false,y1146)) else (some (a0_0,a0_1,a0_2,a0_3,a0_4,a0_5,a0_6,a0_7,a0_8,a0_9,a0_10,y1146)))))
theorem spec_l10Take.mono_l:∀ k,(∀ y0 y1 y2 y3 y4 y5 y6 y7 y8 y9 y10 y11 y12 y13 y14 y15 y16 y17 y18 y19,LeO (spec_l10Take.j1 k y0 y1 y2 y3 y4 y5 y6 y7 y8 y9 y10 y11 y12 y13 y14 y15 y16 y17 y18 y19) (spec_l10Take.j1 (k + 1) y0 y1 y2 y3 y4 y5 y6 y7 y8 y9 y10 y11 y12 y13 y14 y15 y16 y17 y18 y19))∧(∀ y0 y1 y2 y3 y4 y5 y6 y7 y8 y9 y10 y11 y12 y13 y14 y15 y16 y17 y18 y19,LeO (spec_l10Take.j2 k y0 y1 y2 y3 y4 y5 y6 y7 y8 y9 y10 y11 y12 y13 y14 y15 y16 y17 y18 y19) (spec_l10Take.j2 (k + 1) y0 y1 y2 y3 y4 y5 y6 y7 y8 y9 y10 y11 y12 y13 y14 y15 y16 y17 y18 y19))∧(∀ y0 y1 y2 y3 y4 y5 y6 y7 y8 y9 y10 y11 y12 y13 y14 y15 y16 y17 y18,LeO (spec_l10Take.j3 k y0 y1 y2 y3 y4 y5 y6 y7 y8 y9 y10 y11 y12 y13 y14 y15 y16 y17 y18) (spec_l10Take.j3 (k + 1) y0 y1 y2 y3 y4 y5 y6 y7 y8 y9 y10 y11 y12 y13 y14 y15 y16 y17 y18))∧(∀ y0 y1 y2 y3 y4 y5 y6 y7 y8 y9 y10 y11,LeO (spec_l10Take.j0 k y0 y1 y2 y3 y4 y5 y6 y7 y8 y9 y10 y11) (spec_l10Take.j0 (k + 1) y0 y1 y2 y3 y4 y5 y6 y7 y8 y9 y10 y11))
 | 0 => ⟨fun _ _ _ _ _ _ _ _ _ _ _ _ _ _ _ _ _ _ _ _ r h => by simp [spec_l10Take.j1] at h,fun _ _ _ _ _ _ _ _ _ _ _ _ _ _ _ _ _ _ _ _ r h => by simp [spec_l10Take.j2] at h,fun _ _ _ _ _ _ _ _ _ _ _ _ _ _ _ _ _ _ _ r h => by simp [spec_l10Take.j3] at h,fun _ _ _ _ _ _ _ _ _ _ _ _ r h => by simp [spec_l10Take.j0] at h⟩
 | k + 1 => by
  obtain ⟨ih0,ih1,ih2,ih3⟩:=spec_l10Take.mono_l k
  refine ⟨?_,?_,?_,?_⟩
  ·intro y0 y1 y2 y3 y4 y5 y6 y7 y8 y9 y10 y11 y12 y13 y14 y15 y16 y17 y18 y19
   unfold spec_l10Take.j1
   repeat' first
   | (with_reducible exact ih0 _ _ _ _ _ _ _ _ _ _ _ _ _ _ _ _ _ _ _ _)
   | (with_reducible exact ih1 _ _ _ _ _ _ _ _ _ _ _ _ _ _ _ _ _ _ _ _)
   | (with_reducible exact ih2 _ _ _ _ _ _ _ _ _ _ _ _ _ _ _ _ _ _ _)
   | (with_reducible exact ih3 _ _ _ _ _ _ _ _ _ _ _ _)
   | (with_reducible exact spec_l10Acked.mono ..)
   | (with_reducible exact LeO.refl _)
   | (with_reducible exact LeO.none _)
   | (with_reducible refine LeO.ite ?_ ?_)
   | (with_reducible refine LeO.bind ?_ (fun _ => ?_))
   | exact ih0 _ _ _ _ _ _ _ _ _ _ _ _ _ _ _ _ _ _ _ _
   | exact ih1 _ _ _ _ _ _ _ _ _ _ _ _ _ _ _ _ _ _ _ _
   | exact ih2 _ _ _ _ _ _ _ _ _ _ _ _ _ _ _ _ _ _ _
   | exact ih3 _ _ _ _ _ _ _ _ _ _ _ _
   | exact spec_l10Acked.mono ..
   | exact LeO.none _
   | refine LeO.ite ?_ ?_
   | refine LeO.bind ?_ (fun _ => ?_)
  ·intro y0 y1 y2 y3 y4 y5 y6 y7 y8 y9 y10 y11 y12 y13 y14 y15 y16 y17 y18 y19
   unfold spec_l10Take.j2
   repeat' first
   | (with_reducible exact ih0 _ _ _ _ _ _ _ _ _ _ _ _ _ _ _ _ _ _ _ _)
   | (with_reducible exact ih1 _ _ _ _ _ _ _ _ _ _ _ _ _ _ _ _ _ _ _ _)
   | (with_reducible exact ih2 _ _ _ _ _ _ _ _ _ _ _ _ _ _ _ _ _ _ _)
   | (with_reducible exact ih3 _ _ _ _ _ _ _ _ _ _ _ _)
   | (with_reducible exact spec_l10Acked.mono ..)
   | (with_reducible exact LeO.refl _)
   | (with_reducible exact LeO.none _)
   | (with_reducible refine LeO.ite ?_ ?_)
   | (with_reducible refine LeO.bind ?_ (fun _ => ?_))
   | exact ih0 _ _ _ _ _ _ _ _ _ _ _ _ _ _ _ _ _ _ _ _
   | exact ih1 _ _ _ _ _ _ _ _ _ _ _ _ _ _ _ _ _ _ _ _
   | exact ih2 _ _ _ _ _ _ _ _ _ _ _ _ _ _ _ _ _ _ _
   | exact ih3 _ _ _ _ _ _ _ _ _ _ _ _
   | exact spec_l10Acked.mono ..
   | exact LeO.none _
   | refine LeO.ite ?_ ?_
   | refine LeO.bind ?_ (fun _ => ?_)
  ·intro y0 y1 y2 y3 y4 y5 y6 y7 y8 y9 y10 y11 y12 y13 y14 y15 y16 y17 y18
   unfold spec_l10Take.j3
   repeat' first
   | (with_reducible exact ih0 _ _ _ _ _ _ _ _ _ _ _ _ _ _ _ _ _ _ _ _)
   | (with_reducible exact ih1 _ _ _ _ _ _ _ _ _ _ _ _ _ _ _ _ _ _ _ _)
   | (with_reducible exact ih2 _ _ _ _ _ _ _ _ _ _ _ _ _ _ _ _ _ _ _)
   | (with_reducible exact ih3 _ _ _ _ _ _ _ _ _ _ _ _)
   | (with_reducible exact spec_l10Acked.mono ..)
   | (with_reducible exact LeO.refl _)
   | (with_reducible exact LeO.none _)
   | (with_reducible refine LeO.ite ?_ ?_)
   | (with_reducible refine LeO.bind ?_ (fun _ => ?_))
   | exact ih0 _ _ _ _ _ _ _ _ _ _ _ _ _ _ _ _ _ _ _ _
   | exact ih1 _ _ _ _ _ _ _ _ _ _ _ _ _ _ _ _ _ _ _ _
   | exact ih2 _ _ _ _ _ _ _ _ _ _ _ _ _ _ _ _ _ _ _
   | exact ih3 _ _ _ _ _ _ _ _ _ _ _ _
   | exact spec_l10Acked.mono ..
   | exact LeO.none _
   | refine LeO.ite ?_ ?_
   | refine LeO.bind ?_ (fun _ => ?_)
  ·intro y0 y1 y2 y3 y4 y5 y6 y7 y8 y9 y10 y11
   unfold spec_l10Take.j0
   repeat' first
   | (with_reducible exact ih0 _ _ _ _ _ _ _ _ _ _ _ _ _ _ _ _ _ _ _ _)
   | (with_reducible exact ih1 _ _ _ _ _ _ _ _ _ _ _ _ _ _ _ _ _ _ _ _)
   | (with_reducible exact ih2 _ _ _ _ _ _ _ _ _ _ _ _ _ _ _ _ _ _ _)
   | (with_reducible exact ih3 _ _ _ _ _ _ _ _ _ _ _ _)
   | (with_reducible exact spec_l10Acked.mono ..)
   | (with_reducible exact LeO.refl _)
   | (with_reducible exact LeO.none _)
   | (with_reducible refine LeO.ite ?_ ?_)
   | (with_reducible refine LeO.bind ?_ (fun _ => ?_))
   | exact ih0 _ _ _ _ _ _ _ _ _ _ _ _ _ _ _ _ _ _ _ _
   | exact ih1 _ _ _ _ _ _ _ _ _ _ _ _ _ _ _ _ _ _ _ _
   | exact ih2 _ _ _ _ _ _ _ _ _ _ _ _ _ _ _ _ _ _ _
   | exact ih3 _ _ _ _ _ _ _ _ _ _ _ _
   | exact spec_l10Acked.mono ..
   | exact LeO.none _
   | refine LeO.ite ?_ ?_
   | refine LeO.bind ?_ (fun _ => ?_)
theorem spec_l10Take.mono:∀ a0 a1 a2 a3 a4 a5 a6 a7 a8 a9 a10 a11 a12 a13 a14 a15 a16 a17 k,LeO (spec_l10Take.f k a0 a1 a2 a3 a4 a5 a6 a7 a8 a9 a10 a11 a12 a13 a14 a15 a16 a17) (spec_l10Take.f (k + 1) a0 a1 a2 a3 a4 a5 a6 a7 a8 a9 a10 a11 a12 a13 a14 a15 a16 a17):=by
 intro a0 a1 a2 a3 a4 a5 a6 a7 a8 a9 a10 a11 a12 a13 a14 a15 a16 a17 k
 obtain ⟨ih0,ih1,ih2,ih3⟩:=spec_l10Take.mono_l k
 unfold spec_l10Take.f
 repeat' first
   | (with_reducible exact ih0 _ _ _ _ _ _ _ _ _ _ _ _ _ _ _ _ _ _ _ _)
   | (with_reducible exact ih1 _ _ _ _ _ _ _ _ _ _ _ _ _ _ _ _ _ _ _ _)
   | (with_reducible exact ih2 _ _ _ _ _ _ _ _ _ _ _ _ _ _ _ _ _ _ _)
   | (with_reducible exact ih3 _ _ _ _ _ _ _ _ _ _ _ _)
   | (with_reducible exact spec_l10Acked.mono ..)
   | (with_reducible exact LeO.refl _)
   | (with_reducible exact LeO.none _)
   | (with_reducible refine LeO.ite ?_ ?_)
   | (with_reducible refine LeO.bind ?_ (fun _ => ?_))
   | exact ih0 _ _ _ _ _ _ _ _ _ _ _ _ _ _ _ _ _ _ _ _
   | exact ih1 _ _ _ _ _ _ _ _ _ _ _ _ _ _ _ _ _ _ _ _
   | exact ih2 _ _ _ _ _ _ _ _ _ _ _ _ _ _ _ _ _ _ _
   | exact ih3 _ _ _ _ _ _ _ _ _ _ _ _
   | exact spec_l10Acked.mono ..
   | exact LeO.none _
   | refine LeO.ite ?_ ?_
   | refine LeO.bind ?_ (fun _ => ?_)
def spec_l10Take.T13:Bool × List (List Nat × List Nat):=(true,[([],[]),([0],[0]),([1],[1]),([2],[2]),([3],[3]),([4,3],[3,4]),([5,3],[3,5]),([6,3,3],[3,6]),([3],[3]),([8,3],[3,8]),([7,9,3],[3,7,9]),([3,10],[3,10])])
def spec_l10Take.B13:List Nat:=[0,1,3,7,15,31,63,127,15,271,1023,2047]
theorem spec_l10Take.tab13:rtab .any (opsOf Try.f103 13) = spec_l10Take.T13:=by kernel_rfl
theorem spec_l10Take.bits13:waitsOk spec_l10Take.T13.2 spec_l10Take.B13 = true:=by kernel_rfl
def spec_l10Take.T14:Bool × List (List Nat × List Nat):=(true,[([],[]),([],[]),([],[]),([2],[2]),([1,3],[1,3]),([4],[4]),([0,4,0],[0]),([5,6,0,1,2,3,4,5,6],[5])])
def spec_l10Take.B14:List Nat:=[0,0,0,4,14,30,31,127]
theorem spec_l10Take.tab14:rtab .any (opsOf Try.f103 14) = spec_l10Take.T14:=by kernel_rfl
theorem spec_l10Take.bits14:waitsOk spec_l10Take.T14.2 spec_l10Take.B14 = true:=by kernel_rfl
def spec_l10Take.T15:Bool × List (List Nat × List Nat):=(true,[([],[]),([],[]),([],[]),([2],[2]),([1,3],[1,3]),([4],[4]),([0,4,0],[0]),([5,6,0,1,2,3,4,5,6],[5])])
def spec_l10Take.B15:List Nat:=[0,0,0,4,14,30,31,127]
theorem spec_l10Take.tab15:rtab .any (opsOf Try.f103 15) = spec_l10Take.T15:=by kernel_rfl
theorem spec_l10Take.bits15:waitsOk spec_l10Take.T15.2 spec_l10Take.B15 = true:=by kernel_rfl
def spec_l10Take.T28:Bool × List (List Nat × List Nat):=(true,[([],[]),([],[]),([],[]),([2],[2]),([1,3],[1,3]),([4],[4]),([0,4,0],[0]),([5,6,0,1,2,3,4,5,6],[5])])
def spec_l10Take.B28:List Nat:=[0,0,0,4,14,30,31,127]
theorem spec_l10Take.tab28:rtab .any (opsOf Try.f103 28) = spec_l10Take.T28:=by kernel_rfl
theorem spec_l10Take.bits28:waitsOk spec_l10Take.T28.2 spec_l10Take.B28 = true:=by kernel_rfl
set_option maxHeartbeats 8000000 in
set_option maxRecDepth 100000 in
theorem spec_l10Take.calls (k:Nat) (a0_0:ByteArray) (a0_1 a0_2:Int) (a0_3 a0_4:Int) (a0_5 a0_6 a0_7:Int) (a0_8 a0_9:ByteArray) (a0_10:Bool) (a1_0 a1_1:Int) (a1_2 a1_3:Int) (a1_4 a1_5:Int) (a1_6 r1:ByteArray) (r2 r3:Int) (r4 r5:Int) (r6 r7 r8:Int) (r9 r10:ByteArray) (r11:Bool) (r12:List (S53)) (w:World) (h:spec_l10Take.f k a0_0 a0_1 a0_2 a0_3 a0_4 a0_5 a0_6 a0_7 a0_8 a0_9 a0_10 a1_0 a1_1 a1_2 a1_3 a1_4 a1_5 a1_6 = some (r1,r2,r3,r4,r5,r6,r7,r8,r9,r10,r11,r12)) :
  Calls Try.prog 103 #[.agg #[.string a0_0,.int .i64 a0_1,.int .i64 a0_2,.int .i64 a0_3,.int .i64 a0_4,.int .i64 a0_5,.int .i64 a0_6,.int .i64 a0_7,.string a0_8,.string a0_9,.bool a0_10],.agg #[.int .i64 a1_0,.int .i64 a1_1,.int .i64 a1_2,.int .i64 a1_3,.int .i64 a1_4,.int .i64 a1_5,.string a1_6]] w fun e w' => ∃ v11_:Value,e = .returned (.tuple #[.agg #[.string r1,.int .i64 r2,.int .i64 r3,.int .i64 r4,.int .i64 r5,.int .i64 r6,.int .i64 r7,.int .i64 r8,.string r9,.string r10,.bool r11],v11_])∧Kd.R k53 53 w' w.heap.size (fun _ => True) v11_ r12∧Below w.heap.size w w':=by
 have hu34:=Try.underlying34
 have hu53:=Try.underlying53
 have HB:=aMk (Below.refl w.heap.size w)
 have H:=h
 unfold spec_l10Take.f at H
 clear h
 obtain ⟨y1146,hy1146⟩:∃ y_:List (S53),y_ = (([]:List (S53))):=⟨_,rfl⟩
 replace H:(if a0_4 = 4 then (some (a0_0,a0_1,a0_2,a0_3,a0_4,a0_5,a0_6,a0_7,a0_8,a0_9,a0_10,y1146)) else (if (Go.bits .and .i64 a1_4 4) = 0 then (if (Go.bits .and .i64 a1_4 2) = 0 then (if (Go.bits .and .i64 a1_4 16) = 0 then (some (a0_0,a0_1,a0_2,a0_3,a0_4,a0_5,a0_6,a0_7,a0_8,a0_9,a0_10,y1146)) else ((spec_l10Acked.f k a0_0 a0_1 a0_2 a0_3 a0_4 a0_5 a0_6 a0_7 a0_8 a0_9 a0_10 a1_3).bind fun bt1170 => (if bt1170.2.2.2.2.1 = 1 then (spec_l10Take.j1 k y1146 true bt1170.1 bt1170.2.1 bt1170.2.2.1 bt1170.2.2.2.1 bt1170.2.2.2.2.1 bt1170.2.2.2.2.2.1 bt1170.2.2.2.2.2.2.1 bt1170.2.2.2.2.2.2.2.1 bt1170.2.2.2.2.2.2.2.2.1 bt1170.2.2.2.2.2.2.2.2.2.1 bt1170.2.2.2.2.2.2.2.2.2.2 a1_0 a1_1 a1_2 a1_3 a1_4 a1_5 a1_6) else (spec_l10Take.j1 k y1146 (bt1170.2.2.2.2.1 == 4) bt1170.1 bt1170.2.1 bt1170.2.2.1 bt1170.2.2.2.1 bt1170.2.2.2.2.1 bt1170.2.2.2.2.2.1 bt1170.2.2.2.2.2.2.1 bt1170.2.2.2.2.2.2.2.1 bt1170.2.2.2.2.2.2.2.2.1 bt1170.2.2.2.2.2.2.2.2.2.1 bt1170.2.2.2.2.2.2.2.2.2.2 a1_0 a1_1 a1_2 a1_3 a1_4 a1_5 a1_6)))) else (if a0_4 = 1 then ((spec_l10Seq.f (wrap64 (a1_2 + 1))).bind fun t1149 => (spec_l10Take.j0 k (t1149 == a0_7) a0_0 a0_1 a0_2 a0_3 a0_4 a0_5 a0_6 a0_7 a0_8 a0_9 a0_10)) else (spec_l10Take.j0 k false a0_0 a0_1 a0_2 a0_3 a0_4 a0_5 a0_6 a0_7 a0_8 a0_9 a0_10))) else (if a1_2 = a0_7 then (some (a0_0,a0_1,a0_2,a0_3,4,a0_6,a0_6,a0_7,(⟨#[]⟩:ByteArray),(⟨#[]⟩:ByteArray),false,y1146)) else (some (a0_0,a0_1,a0_2,a0_3,a0_4,a0_5,a0_6,a0_7,a0_8,a0_9,a0_10,y1146))))) = some (r1,r2,r3,r4,r5,r6,r7,r8,r9,r10,r11,r12):=by first|(rw [hy1146];with_reducible exact H)|(have H2_:=(Option.bind_some _ _).symm.trans H;rw [hy1146];with_reducible exact H2_)|(have H2_:=(Option.bind_some _ _).symm.trans H;with_reducible exact H2_) | with_reducible exact H|(rw [hy1146];exact H)|exact H
 have Ny1146:=aMk hy1146
 clear hy1146
 by_cases c3:a0_4 = 4
 ·rw [if_pos c3] at H
  have c3b0:(a0_4 == 4) = true:=beq_iff_eq.mpr c3
  have c3b1:(a0_4 != 4) = false:=bne_eq_false_iff_eq.mpr c3
  clear c3
  simp only [Option.some.injEq,Prod.mk.injEq] at H
  obtain ⟨rfl,rfl,rfl,rfl,rfl,rfl,rfl,rfl,rfl,rfl,rfl,rfl⟩:=H
  go_enter Try.func103,Try.ntmps103
  go_wp2_with (first|((with_reducible refine gate_dst (N:=2) rfl ?_);(try (refine gate_guard (by rfl) ?_;dsimp only));refine bxE (N:=2) (cs:=#[.string a0_0,.int .i64 a0_1,.int .i64 a0_2,.int .i64 a0_3,.int .i64 a0_4,.int .i64 a0_5,.int .i64 a0_6,.int .i64 a0_7,.string a0_8,.string a0_9,.bool a0_10]) (t:=34) ?_;intro gb1143 hg w4 hbox hb;have BK1143:=aMk (hbox);have GW1143:=aMk (bZ hg);have GE1143:=aMk (bZ hg);replace HB:=aMk (bSt hb);clear hb hbox hg)|((with_reducible refine gate_dst (N:=3) rfl ?_);(try (refine gate_guard (by rfl) ?_;dsimp only));refine bxE (N:=3) (cs:=#[.int .i64 a1_0,.int .i64 a1_1,.int .i64 a1_2,.int .i64 a1_3,.int .i64 a1_4,.int .i64 a1_5,.string a1_6]) (t:=53) ?_;intro gb1144 hg w5 hbox hb;have BK1144:=aMk (hbox);have GW1144:=aMk (bG bW hg);have GE1144:=aMk (bG bW hg);replace HB:=aMk (bU hb);have NB1143_1144:=aMk ((bkL BK1143.out hg:gb1143 ≠ gb1144));have NB1144_1143:=aMk ((bkG BK1143.out hg:gb1144 ≠ gb1143));replace BK1143:=aMk (bkB BK1143.out hb);clear hb hbox hg)|((with_reducible refine gate_dst (N:=4) rfl ?_);(try (refine gate_guard (by rfl) ?_;dsimp only));refine bxE (N:=4) (cs:=#[.string (⟨#[]⟩:ByteArray),.int .i64 0,.int .i64 0,.int .i64 0,.int .i64 0,.int .i64 0,.int .i64 0,.int .i64 0,.string (⟨#[]⟩:ByteArray),.string (⟨#[]⟩:ByteArray),.bool false]) (t:=34) ?_;intro gb1145 hg w6 hbox hb;have BK1145:=aMk (hbox);have GW1145:=aMk (bG bW hg);have GE1145:=aMk (bG bW hg);replace HB:=aMk (bU hb);have NB1143_1145:=aMk ((bkL BK1143.out hg:gb1143 ≠ gb1145));have NB1145_1143:=aMk ((bkG BK1143.out hg:gb1145 ≠ gb1143));replace BK1143:=aMk (bkB BK1143.out hb);have NB1144_1145:=aMk ((bkL BK1144.out hg:gb1144 ≠ gb1145));have NB1145_1144:=aMk ((bkG BK1144.out hg:gb1145 ≠ gb1144));replace BK1144:=aMk (bkB BK1144.out hb);clear hb hbox hg)|((with_reducible refine gate_dst (N:=7) rfl ?_);(try (refine gate_guard (by rfl) ?_;dsimp only));refine Kd.R_lit k53 _ 53 ?hg (N:=7) ?hd (xs:=([]:List (S53))) (inner:=[]) (ok:=fun _ => True) (okp:=fun _ => True) ?hr ?hp (fun _ hk => hk) trivial (Below.refl _ _) (Nat.le_refl _) (by simp) ?_;(case hd => rfl);(case hg => rfl);(case hr => first|(go_simp;done)|(go_simp;rfl));(case hp => exact (Reps.none _ _));intro v1147 w7 ho8 hb hg_ hnew_;clear hg_ hnew_;(first|rw [← Ny1146.out] at ho8|(simp only [Int.reduceToNat] at ho8;rw [← Ny1146.out] at ho8));have HO1148:=aMk (Kd.R_lower (Kd.R_newB ho8 (g:=gb1144) (o:=.cells #[.int .i64 a1_0,.int .i64 a1_1,.int .i64 a1_2,.int .i64 a1_3,.int .i64 a1_4,.int .i64 a1_5,.string a1_6] 53 (0,0)) (pB BK1144.out)) (below_size bW));replace BK1143:=aMk (bkB BK1143.out hb);replace BK1144:=aMk (bkB BK1144.out hb);replace BK1145:=aMk (bkB BK1145.out hb);replace HB:=aMk (bU hb);clear hb ho8;have hnb9:=NB1143_1144.out;have hnc9:=NB1144_1143.out;have hnb10:=NB1143_1145.out;have hnc10:=NB1145_1143.out;obtain ⟨Z11_0,Z11_1,Z11_2,Z11_3,Z11_4,Z11_5,Z11_6,Z11_7,Z11_8,Z11_9,Z11_10,Y11_0,Y11_1,Y11_2,Y11_3,Y11_4,Y11_5,Y11_6,Y11_7,Y11_8,Y11_9,Y11_10⟩:=bC11 BK1143.out;have hnb12:=NB1145_1144.out;have hnc12:=NB1144_1145.out;obtain ⟨Z13_0,Z13_1,Z13_2,Z13_3,Z13_4,Z13_5,Z13_6,Z13_7,Z13_8,Z13_9,Z13_10,Y13_0,Y13_1,Y13_2,Y13_3,Y13_4,Y13_5,Y13_6,Y13_7,Y13_8,Y13_9,Y13_10⟩:=bC11 BK1145.out))
  refine bodyPost_ret (results_ct rfl _ _ gb1145 34 #[.string a0_0,.int .i64 a0_1,.int .i64 a0_2,.int .i64 a0_3,.int .i64 a0_4,.int .i64 a0_5,.int .i64 a0_6,.int .i64 a0_7,.string a0_8,.string a0_9,.bool a0_10] (0,0) _ rfl (by refine pB ?_;refine blk_put (cs:=#[.string a0_0,.int .i64 a0_1,.int .i64 a0_2,.int .i64 a0_3,.int .i64 a0_4,.int .i64 a0_5,.int .i64 a0_6,.int .i64 a0_7,.string a0_8,.string a0_9,.bool false]) ?_ 10 _ rfl;refine pB ?_;refine blk_put (cs:=#[.string a0_0,.int .i64 a0_1,.int .i64 a0_2,.int .i64 a0_3,.int .i64 a0_4,.int .i64 a0_5,.int .i64 a0_6,.int .i64 a0_7,.string a0_8,.string (⟨#[]⟩:ByteArray),.bool false]) ?_ 9 _ rfl;refine pB ?_;refine blk_put (cs:=#[.string a0_0,.int .i64 a0_1,.int .i64 a0_2,.int .i64 a0_3,.int .i64 a0_4,.int .i64 a0_5,.int .i64 a0_6,.int .i64 a0_7,.string (⟨#[]⟩:ByteArray),.string (⟨#[]⟩:ByteArray),.bool false]) ?_ 8 _ rfl;refine pB ?_;refine blk_put (cs:=#[.string a0_0,.int .i64 a0_1,.int .i64 a0_2,.int .i64 a0_3,.int .i64 a0_4,.int .i64 a0_5,.int .i64 a0_6,.int .i64 0,.string (⟨#[]⟩:ByteArray),.string (⟨#[]⟩:ByteArray),.bool false]) ?_ 7 _ rfl;refine pB ?_;refine blk_put (cs:=#[.string a0_0,.int .i64 a0_1,.int .i64 a0_2,.int .i64 a0_3,.int .i64 a0_4,.int .i64 a0_5,.int .i64 0,.int .i64 0,.string (⟨#[]⟩:ByteArray),.string (⟨#[]⟩:ByteArray),.bool false]) ?_ 6 _ rfl;refine pB ?_;refine blk_put (cs:=#[.string a0_0,.int .i64 a0_1,.int .i64 a0_2,.int .i64 a0_3,.int .i64 a0_4,.int .i64 0,.int .i64 0,.int .i64 0,.string (⟨#[]⟩:ByteArray),.string (⟨#[]⟩:ByteArray),.bool false]) ?_ 5 _ rfl;refine pB ?_;refine blk_put (cs:=#[.string a0_0,.int .i64 a0_1,.int .i64 a0_2,.int .i64 a0_3,.int .i64 0,.int .i64 0,.int .i64 0,.int .i64 0,.string (⟨#[]⟩:ByteArray),.string (⟨#[]⟩:ByteArray),.bool false]) ?_ 4 _ rfl;refine pB ?_;refine blk_put (cs:=#[.string a0_0,.int .i64 a0_1,.int .i64 a0_2,.int .i64 0,.int .i64 0,.int .i64 0,.int .i64 0,.int .i64 0,.string (⟨#[]⟩:ByteArray),.string (⟨#[]⟩:ByteArray),.bool false]) ?_ 3 _ rfl;refine pB ?_;refine blk_put (cs:=#[.string a0_0,.int .i64 a0_1,.int .i64 0,.int .i64 0,.int .i64 0,.int .i64 0,.int .i64 0,.int .i64 0,.string (⟨#[]⟩:ByteArray),.string (⟨#[]⟩:ByteArray),.bool false]) ?_ 2 _ rfl;refine pB ?_;refine blk_put (cs:=#[.string a0_0,.int .i64 0,.int .i64 0,.int .i64 0,.int .i64 0,.int .i64 0,.int .i64 0,.int .i64 0,.string (⟨#[]⟩:ByteArray),.string (⟨#[]⟩:ByteArray),.bool false]) ?_ 1 _ rfl;refine pB ?_;refine blk_put (cs:=#[.string (⟨#[]⟩:ByteArray),.int .i64 0,.int .i64 0,.int .i64 0,.int .i64 0,.int .i64 0,.int .i64 0,.int .i64 0,.string (⟨#[]⟩:ByteArray),.string (⟨#[]⟩:ByteArray),.bool false]) ?_ 0 _ rfl;refine pB ?_;exact BK1145.out) Try.underlying34 rfl (by kernel_rfl)) rfl ?_
  exact ⟨_,eRf,kR (Kd.R_mono (Kd.R_far (p:=⟨gb1145,10,none⟩) (Kd.R_far (p:=⟨gb1145,9,none⟩) (Kd.R_far (p:=⟨gb1145,8,none⟩) (Kd.R_far (p:=⟨gb1145,7,none⟩) (Kd.R_far (p:=⟨gb1145,6,none⟩) (Kd.R_far (p:=⟨gb1145,5,none⟩) (Kd.R_far (p:=⟨gb1145,4,none⟩) (Kd.R_far (p:=⟨gb1145,3,none⟩) (Kd.R_far (p:=⟨gb1145,2,none⟩) (Kd.R_far (p:=⟨gb1145,1,none⟩) (Kd.R_far (p:=⟨gb1145,0,none⟩) (Kd.R_types HO1148.out BK1145.out (by decide)) (fun _ hk => hk.2) (.string a0_0)) (fun _ hk => hk.2) (.int .i64 a0_1)) (fun _ hk => hk.2) (.int .i64 a0_2)) (fun _ hk => hk.2) (.int .i64 a0_3)) (fun _ hk => hk.2) (.int .i64 a0_4)) (fun _ hk => hk.2) (.int .i64 a0_5)) (fun _ hk => hk.2) (.int .i64 a0_6)) (fun _ hk => hk.2) (.int .i64 a0_7)) (fun _ hk => hk.2) (.string a0_8)) (fun _ hk => hk.2) (.string a0_9)) (fun _ hk => hk.2) (.bool a0_10)) (fun _ hk => trivial)),bW⟩
 ·rw [if_neg c3] at H
  have c3b0:(a0_4 == 4) = false:=beq_eq_false_iff_ne.mpr c3
  have c3b1:(a0_4 != 4) = true:=bne_iff_ne.mpr c3
  by_cases c14:(Go.bits .and .i64 a1_4 4) = 0
  ·rw [if_pos c14] at H
   have c14b0:((Go.bits .and .i64 a1_4 4) == 0) = true:=beq_iff_eq.mpr c14
   have c14b1:((Go.bits .and .i64 a1_4 4) != 0) = false:=bne_eq_false_iff_eq.mpr c14
   clear c14
   by_cases c15:(Go.bits .and .i64 a1_4 2) = 0
   ·rw [if_pos c15] at H
    have c15b0:((Go.bits .and .i64 a1_4 2) == 0) = true:=beq_iff_eq.mpr c15
    have c15b1:((Go.bits .and .i64 a1_4 2) != 0) = false:=bne_eq_false_iff_eq.mpr c15
    clear c15
    by_cases c16:(Go.bits .and .i64 a1_4 16) = 0
    ·rw [if_pos c16] at H
     have c16b0:((Go.bits .and .i64 a1_4 16) == 0) = true:=beq_iff_eq.mpr c16
     have c16b1:((Go.bits .and .i64 a1_4 16) != 0) = false:=bne_eq_false_iff_eq.mpr c16
     clear c16
     simp only [Option.some.injEq,Prod.mk.injEq] at H
     obtain ⟨rfl,rfl,rfl,rfl,rfl,rfl,rfl,rfl,rfl,rfl,rfl,rfl⟩:=H
     go_enter Try.func103,Try.ntmps103
     go_wp2_with (first|((with_reducible refine gate_dst (N:=2) rfl ?_);(try (refine gate_guard (by rfl) ?_;dsimp only));refine bxE (N:=2) (cs:=#[.string a0_0,.int .i64 a0_1,.int .i64 a0_2,.int .i64 a0_3,.int .i64 a0_4,.int .i64 a0_5,.int .i64 a0_6,.int .i64 a0_7,.string a0_8,.string a0_9,.bool a0_10]) (t:=34) ?_;intro gb1143 hg w17 hbox hb;have BK1143:=aMk (hbox);have GW1143:=aMk (bZ hg);have GE1143:=aMk (bZ hg);replace HB:=aMk (bSt hb);clear hb hbox hg)|((with_reducible refine gate_dst (N:=3) rfl ?_);(try (refine gate_guard (by rfl) ?_;dsimp only));refine bxE (N:=3) (cs:=#[.int .i64 a1_0,.int .i64 a1_1,.int .i64 a1_2,.int .i64 a1_3,.int .i64 a1_4,.int .i64 a1_5,.string a1_6]) (t:=53) ?_;intro gb1144 hg w18 hbox hb;have BK1144:=aMk (hbox);have GW1144:=aMk (bG bW hg);have GE1144:=aMk (bG bW hg);replace HB:=aMk (bU hb);have NB1143_1144:=aMk ((bkL BK1143.out hg:gb1143 ≠ gb1144));have NB1144_1143:=aMk ((bkG BK1143.out hg:gb1144 ≠ gb1143));replace BK1143:=aMk (bkB BK1143.out hb);clear hb hbox hg)|((with_reducible refine gate_dst (N:=4) rfl ?_);(try (refine gate_guard (by rfl) ?_;dsimp only));refine bxE (N:=4) (cs:=#[.string (⟨#[]⟩:ByteArray),.int .i64 0,.int .i64 0,.int .i64 0,.int .i64 0,.int .i64 0,.int .i64 0,.int .i64 0,.string (⟨#[]⟩:ByteArray),.string (⟨#[]⟩:ByteArray),.bool false]) (t:=34) ?_;intro gb1145 hg w19 hbox hb;have BK1145:=aMk (hbox);have GW1145:=aMk (bG bW hg);have GE1145:=aMk (bG bW hg);replace HB:=aMk (bU hb);have NB1143_1145:=aMk ((bkL BK1143.out hg:gb1143 ≠ gb1145));have NB1145_1143:=aMk ((bkG BK1143.out hg:gb1145 ≠ gb1143));replace BK1143:=aMk (bkB BK1143.out hb);have NB1144_1145:=aMk ((bkL BK1144.out hg:gb1144 ≠ gb1145));have NB1145_1144:=aMk ((bkG BK1144.out hg:gb1145 ≠ gb1144));replace BK1144:=aMk (bkB BK1144.out hb);clear hb hbox hg)|((with_reducible refine gate_dst (N:=7) rfl ?_);(try (refine gate_guard (by rfl) ?_;dsimp only));refine Kd.R_lit k53 _ 53 ?hg (N:=7) ?hd (xs:=([]:List (S53))) (inner:=[]) (ok:=fun _ => True) (okp:=fun _ => True) ?hr ?hp (fun _ hk => hk) trivial (Below.refl _ _) (Nat.le_refl _) (by simp) ?_;(case hd => rfl);(case hg => rfl);(case hr => first|(go_simp;done)|(go_simp;rfl));(case hp => exact (Reps.none _ _));intro v1147 w20 ho21 hb hg_ hnew_;clear hg_ hnew_;(first|rw [← Ny1146.out] at ho21|(simp only [Int.reduceToNat] at ho21;rw [← Ny1146.out] at ho21));have HO1148:=aMk (Kd.R_lower (Kd.R_newB ho21 (g:=gb1144) (o:=.cells #[.int .i64 a1_0,.int .i64 a1_1,.int .i64 a1_2,.int .i64 a1_3,.int .i64 a1_4,.int .i64 a1_5,.string a1_6] 53 (0,0)) (pB BK1144.out)) (below_size bW));replace BK1143:=aMk (bkB BK1143.out hb);replace BK1144:=aMk (bkB BK1144.out hb);replace BK1145:=aMk (bkB BK1145.out hb);replace HB:=aMk (bU hb);clear hb ho21;have hnb22:=NB1143_1144.out;have hnc22:=NB1144_1143.out;have hnb23:=NB1143_1145.out;have hnc23:=NB1145_1143.out;obtain ⟨Z24_0,Z24_1,Z24_2,Z24_3,Z24_4,Z24_5,Z24_6,Z24_7,Z24_8,Z24_9,Z24_10,Y24_0,Y24_1,Y24_2,Y24_3,Y24_4,Y24_5,Y24_6,Y24_7,Y24_8,Y24_9,Y24_10⟩:=bC11 BK1143.out;have hnb25:=NB1144_1145.out;have hnc25:=NB1145_1144.out;obtain ⟨Z26_0,Z26_1,Z26_2,Z26_3,Z26_4,Z26_5,Z26_6,Y26_0,Y26_1,Y26_2,Y26_3,Y26_4,Y26_5,Y26_6⟩:=bC7 BK1144.out;obtain ⟨Z27_0,Z27_1,Z27_2,Z27_3,Z27_4,Z27_5,Z27_6,Z27_7,Z27_8,Z27_9,Z27_10,Y27_0,Y27_1,Y27_2,Y27_3,Y27_4,Y27_5,Y27_6,Y27_7,Y27_8,Y27_9,Y27_10⟩:=bC11 BK1145.out))
     refine bodyPost_ret (results_ct rfl _ _ gb1145 34 #[.string a0_0,.int .i64 a0_1,.int .i64 a0_2,.int .i64 a0_3,.int .i64 a0_4,.int .i64 a0_5,.int .i64 a0_6,.int .i64 a0_7,.string a0_8,.string a0_9,.bool a0_10] (0,0) _ rfl (by refine pB ?_;refine blk_put (cs:=#[.string a0_0,.int .i64 a0_1,.int .i64 a0_2,.int .i64 a0_3,.int .i64 a0_4,.int .i64 a0_5,.int .i64 a0_6,.int .i64 a0_7,.string a0_8,.string a0_9,.bool false]) ?_ 10 _ rfl;refine pB ?_;refine blk_put (cs:=#[.string a0_0,.int .i64 a0_1,.int .i64 a0_2,.int .i64 a0_3,.int .i64 a0_4,.int .i64 a0_5,.int .i64 a0_6,.int .i64 a0_7,.string a0_8,.string (⟨#[]⟩:ByteArray),.bool false]) ?_ 9 _ rfl;refine pB ?_;refine blk_put (cs:=#[.string a0_0,.int .i64 a0_1,.int .i64 a0_2,.int .i64 a0_3,.int .i64 a0_4,.int .i64 a0_5,.int .i64 a0_6,.int .i64 a0_7,.string (⟨#[]⟩:ByteArray),.string (⟨#[]⟩:ByteArray),.bool false]) ?_ 8 _ rfl;refine pB ?_;refine blk_put (cs:=#[.string a0_0,.int .i64 a0_1,.int .i64 a0_2,.int .i64 a0_3,.int .i64 a0_4,.int .i64 a0_5,.int .i64 a0_6,.int .i64 0,.string (⟨#[]⟩:ByteArray),.string (⟨#[]⟩:ByteArray),.bool false]) ?_ 7 _ rfl;refine pB ?_;refine blk_put (cs:=#[.string a0_0,.int .i64 a0_1,.int .i64 a0_2,.int .i64 a0_3,.int .i64 a0_4,.int .i64 a0_5,.int .i64 0,.int .i64 0,.string (⟨#[]⟩:ByteArray),.string (⟨#[]⟩:ByteArray),.bool false]) ?_ 6 _ rfl;refine pB ?_;refine blk_put (cs:=#[.string a0_0,.int .i64 a0_1,.int .i64 a0_2,.int .i64 a0_3,.int .i64 a0_4,.int .i64 0,.int .i64 0,.int .i64 0,.string (⟨#[]⟩:ByteArray),.string (⟨#[]⟩:ByteArray),.bool false]) ?_ 5 _ rfl;refine pB ?_;refine blk_put (cs:=#[.string a0_0,.int .i64 a0_1,.int .i64 a0_2,.int .i64 a0_3,.int .i64 0,.int .i64 0,.int .i64 0,.int .i64 0,.string (⟨#[]⟩:ByteArray),.string (⟨#[]⟩:ByteArray),.bool false]) ?_ 4 _ rfl;refine pB ?_;refine blk_put (cs:=#[.string a0_0,.int .i64 a0_1,.int .i64 a0_2,.int .i64 0,.int .i64 0,.int .i64 0,.int .i64 0,.int .i64 0,.string (⟨#[]⟩:ByteArray),.string (⟨#[]⟩:ByteArray),.bool false]) ?_ 3 _ rfl;refine pB ?_;refine blk_put (cs:=#[.string a0_0,.int .i64 a0_1,.int .i64 0,.int .i64 0,.int .i64 0,.int .i64 0,.int .i64 0,.int .i64 0,.string (⟨#[]⟩:ByteArray),.string (⟨#[]⟩:ByteArray),.bool false]) ?_ 2 _ rfl;refine pB ?_;refine blk_put (cs:=#[.string a0_0,.int .i64 0,.int .i64 0,.int .i64 0,.int .i64 0,.int .i64 0,.int .i64 0,.int .i64 0,.string (⟨#[]⟩:ByteArray),.string (⟨#[]⟩:ByteArray),.bool false]) ?_ 1 _ rfl;refine pB ?_;refine blk_put (cs:=#[.string (⟨#[]⟩:ByteArray),.int .i64 0,.int .i64 0,.int .i64 0,.int .i64 0,.int .i64 0,.int .i64 0,.int .i64 0,.string (⟨#[]⟩:ByteArray),.string (⟨#[]⟩:ByteArray),.bool false]) ?_ 0 _ rfl;refine pB ?_;exact BK1145.out) Try.underlying34 rfl (by kernel_rfl)) rfl ?_
     exact ⟨_,eRf,kR (Kd.R_mono (Kd.R_far (p:=⟨gb1145,10,none⟩) (Kd.R_far (p:=⟨gb1145,9,none⟩) (Kd.R_far (p:=⟨gb1145,8,none⟩) (Kd.R_far (p:=⟨gb1145,7,none⟩) (Kd.R_far (p:=⟨gb1145,6,none⟩) (Kd.R_far (p:=⟨gb1145,5,none⟩) (Kd.R_far (p:=⟨gb1145,4,none⟩) (Kd.R_far (p:=⟨gb1145,3,none⟩) (Kd.R_far (p:=⟨gb1145,2,none⟩) (Kd.R_far (p:=⟨gb1145,1,none⟩) (Kd.R_far (p:=⟨gb1145,0,none⟩) (Kd.R_types HO1148.out BK1145.out (by decide)) (fun _ hk => hk.2) (.string a0_0)) (fun _ hk => hk.2) (.int .i64 a0_1)) (fun _ hk => hk.2) (.int .i64 a0_2)) (fun _ hk => hk.2) (.int .i64 a0_3)) (fun _ hk => hk.2) (.int .i64 a0_4)) (fun _ hk => hk.2) (.int .i64 a0_5)) (fun _ hk => hk.2) (.int .i64 a0_6)) (fun _ hk => hk.2) (.int .i64 a0_7)) (fun _ hk => hk.2) (.string a0_8)) (fun _ hk => hk.2) (.string a0_9)) (fun _ hk => hk.2) (.bool a0_10)) (fun _ hk => trivial)),bW⟩
    ·rw [if_neg c16] at H
     have c16b0:((Go.bits .and .i64 a1_4 16) == 0) = false:=beq_eq_false_iff_ne.mpr c16
     have c16b1:((Go.bits .and .i64 a1_4 16) != 0) = true:=bne_iff_ne.mpr c16
     replace H:=Option.bind_eq_some_iff.mp H
     obtain ⟨⟨t1170,t1171,t1172,t1173,t1174,t1175,t1176,t1177,t1178,t1179,t1180⟩,A280,H⟩:=H
     try dsimp only at H
     have A28:=aMk A280
     clear A280
     have HC29:=aMk H
     clear H
     go_enter Try.func103,Try.ntmps103
     go_upto_region 19 with (first|((with_reducible refine gate_dst (N:=2) rfl ?_);(try (refine gate_guard (by rfl) ?_;dsimp only));refine bxE (N:=2) (cs:=#[.string a0_0,.int .i64 a0_1,.int .i64 a0_2,.int .i64 a0_3,.int .i64 a0_4,.int .i64 a0_5,.int .i64 a0_6,.int .i64 a0_7,.string a0_8,.string a0_9,.bool a0_10]) (t:=34) ?_;intro gb1143 hg w30 hbox hb;have BK1143:=aMk (hbox);have GW1143:=aMk (bZ hg);have GE1143:=aMk (bZ hg);replace HB:=aMk (bSt hb);clear hb hbox hg)|((with_reducible refine gate_dst (N:=3) rfl ?_);(try (refine gate_guard (by rfl) ?_;dsimp only));refine bxE (N:=3) (cs:=#[.int .i64 a1_0,.int .i64 a1_1,.int .i64 a1_2,.int .i64 a1_3,.int .i64 a1_4,.int .i64 a1_5,.string a1_6]) (t:=53) ?_;intro gb1144 hg w31 hbox hb;have BK1144:=aMk (hbox);have GW1144:=aMk (bG bW hg);have GE1144:=aMk (bG bW hg);replace HB:=aMk (bU hb);have NB1143_1144:=aMk ((bkL BK1143.out hg:gb1143 ≠ gb1144));have NB1144_1143:=aMk ((bkG BK1143.out hg:gb1144 ≠ gb1143));replace BK1143:=aMk (bkB BK1143.out hb);clear hb hbox hg)|((with_reducible refine gate_dst (N:=4) rfl ?_);(try (refine gate_guard (by rfl) ?_;dsimp only));refine bxE (N:=4) (cs:=#[.string (⟨#[]⟩:ByteArray),.int .i64 0,.int .i64 0,.int .i64 0,.int .i64 0,.int .i64 0,.int .i64 0,.int .i64 0,.string (⟨#[]⟩:ByteArray),.string (⟨#[]⟩:ByteArray),.bool false]) (t:=34) ?_;intro gb1145 hg w32 hbox hb;have BK1145:=aMk (hbox);have GW1145:=aMk (bG bW hg);have GE1145:=aMk (bG bW hg);replace HB:=aMk (bU hb);have NB1143_1145:=aMk ((bkL BK1143.out hg:gb1143 ≠ gb1145));have NB1145_1143:=aMk ((bkG BK1143.out hg:gb1145 ≠ gb1143));replace BK1143:=aMk (bkB BK1143.out hb);have NB1144_1145:=aMk ((bkL BK1144.out hg:gb1144 ≠ gb1145));have NB1145_1144:=aMk ((bkG BK1144.out hg:gb1145 ≠ gb1144));replace BK1144:=aMk (bkB BK1144.out hb);clear hb hbox hg)|((with_reducible refine gate_dst (N:=7) rfl ?_);(try (refine gate_guard (by rfl) ?_;dsimp only));refine Kd.R_lit k53 _ 53 ?hg (N:=7) ?hd (xs:=([]:List (S53))) (inner:=[]) (ok:=fun _ => True) (okp:=fun _ => True) ?hr ?hp (fun _ hk => hk) trivial (Below.refl _ _) (Nat.le_refl _) (by simp) ?_;(case hd => rfl);(case hg => rfl);(case hr => first|(go_simp;done)|(go_simp;rfl));(case hp => exact (Reps.none _ _));intro v1147 w33 ho34 hb hg_ hnew_;clear hg_ hnew_;(first|rw [← Ny1146.out] at ho34|(simp only [Int.reduceToNat] at ho34;rw [← Ny1146.out] at ho34));have HO1148:=aMk (Kd.R_lower (Kd.R_newB ho34 (g:=gb1144) (o:=.cells #[.int .i64 a1_0,.int .i64 a1_1,.int .i64 a1_2,.int .i64 a1_3,.int .i64 a1_4,.int .i64 a1_5,.string a1_6] 53 (0,0)) (pB BK1144.out)) (below_size bW));replace BK1143:=aMk (bkB BK1143.out hb);replace BK1144:=aMk (bkB BK1144.out hb);replace BK1145:=aMk (bkB BK1145.out hb);replace HB:=aMk (bU hb);clear hb ho34;have hnb35:=NB1143_1144.out;have hnc35:=NB1144_1143.out;have hnb36:=NB1143_1145.out;have hnc36:=NB1145_1143.out;obtain ⟨Z37_0,Z37_1,Z37_2,Z37_3,Z37_4,Z37_5,Z37_6,Z37_7,Z37_8,Z37_9,Z37_10,Y37_0,Y37_1,Y37_2,Y37_3,Y37_4,Y37_5,Y37_6,Y37_7,Y37_8,Y37_9,Y37_10⟩:=bC11 BK1143.out;have hnb38:=NB1144_1145.out;have hnc38:=NB1145_1144.out;obtain ⟨Z39_0,Z39_1,Z39_2,Z39_3,Z39_4,Z39_5,Z39_6,Y39_0,Y39_1,Y39_2,Y39_3,Y39_4,Y39_5,Y39_6⟩:=bC7 BK1144.out)|((with_reducible refine gate_callee (f:=120) rfl ?_);refine gLs 68 Try.func120 #[.agg #[.string a0_0,.int .i64 a0_1,.int .i64 a0_2,.int .i64 a0_3,.int .i64 a0_4,.int .i64 a0_5,.int .i64 a0_6,.int .i64 a0_7,.string a0_8,.string a0_9,.bool a0_10],.int .i64 a1_3] ?_;(with_reducible refine (spec_l10Acked.calls k a0_0 a0_1 a0_2 a0_3 a0_4 a0_5 a0_6 a0_7 a0_8 a0_9 a0_10 a1_3 t1170 t1171 t1172 t1173 t1174 t1175 t1176 t1177 t1178 t1179 t1180 _ A28.out).mono ?_);rintro e w40 ⟨rfl,hb⟩;refine ⟨_,rfl,?_⟩;replace HO1148:=aMk (Kd.R_below (kR (HO1148.out)) hb);replace BK1143:=aMk (bkB BK1143.out hb);replace BK1144:=aMk (bkB BK1144.out hb);replace BK1145:=aMk (bkB BK1145.out hb);replace HB:=aMk (bU hb);obtain ⟨Z41_0,Z41_1,Z41_2,Z41_3,Z41_4,Z41_5,Z41_6,Z41_7,Z41_8,Z41_9,Z41_10,Y41_0,Y41_1,Y41_2,Y41_3,Y41_4,Y41_5,Y41_6,Y41_7,Y41_8,Y41_9,Y41_10⟩:=bC11 BK1143.out))
     (try simp only [Act.put,List.setIfInBounds_toArray,List.set_cons_zero,List.set_cons_succ])
     go_cut [76] (fun v76 wc => ∃ (kq:Nat) (x76_28:Bool),v76 = .bool x76_28∧Aside0 (spec_l10Take.j1 kq y1146 x76_28 t1170 t1171 t1172 t1173 t1174 t1175 t1176 t1177 t1178 t1179 t1180 a1_0 a1_1 a1_2 a1_3 a1_4 a1_5 a1_6 = some (r1,r2,r3,r4,r5,r6,r7,r8,r9,r10,r11,r12))∧Aside0 (kq≤k)∧Aside0 (Kd.R k53 53 wc w.heap.size (fun k_ => k_ ≠ gb1144) v1147 y1146)∧Aside0 (wc.heap[gb1143]? = some (.cells #[.string t1170,.int .i64 t1171,.int .i64 t1172,.int .i64 t1173,.int .i64 t1174,.int .i64 t1175,.int .i64 t1176,.int .i64 t1177,.string t1178,.string t1179,.bool t1180] 34 (0,0)))∧Aside0 (wc.heap[gb1144]? = some (.cells #[.int .i64 a1_0,.int .i64 a1_1,.int .i64 a1_2,.int .i64 a1_3,.int .i64 a1_4,.int .i64 a1_5,.string a1_6] 53 (0,0)))∧Aside0 (wc.heap[gb1145]? = some (.cells #[.string (⟨#[]⟩:ByteArray),.int .i64 0,.int .i64 0,.int .i64 0,.int .i64 0,.int .i64 0,.int .i64 0,.int .i64 0,.string (⟨#[]⟩:ByteArray),.string (⟨#[]⟩:ByteArray),.bool false] 34 (0,0)))∧Aside0 (Below w.heap.size w wc))
     case first =>
      have H:=HC29.out
      clear HC29
      by_cases c42:t1174 = 1
      ·rw [if_pos c42] at H
       have c42b0:(t1174 == 1) = true:=beq_iff_eq.mpr c42
       have c42b1:(t1174 != 1) = false:=bne_eq_false_iff_eq.mpr c42
       clear c42
       (first|rw [c42b0]|(simp only [i64_w,i32_w];rw [c42b0]) | skip)
       have H':=aMk H
       clear H
       have hnb43:=NB1143_1144.out
       have hnc43:=NB1144_1143.out
       have hnb44:=NB1143_1145.out
       have hnc44:=NB1145_1143.out
       obtain ⟨Z45_0,Z45_1,Z45_2,Z45_3,Z45_4,Z45_5,Z45_6,Z45_7,Z45_8,Z45_9,Z45_10,Y45_0,Y45_1,Y45_2,Y45_3,Y45_4,Y45_5,Y45_6,Y45_7,Y45_8,Y45_9,Y45_10⟩:=bC11 BK1143.out
       go_wp2
       go_meet
       case rel => exact ⟨_,(true),rfS,H',⟨by first | omega|exact Nat.le_refl _⟩,⟨kR (Kd.R_mono (Kd.R_far (p:=⟨gb1143,10,none⟩) (Kd.R_far (p:=⟨gb1143,9,none⟩) (Kd.R_far (p:=⟨gb1143,8,none⟩) (Kd.R_far (p:=⟨gb1143,7,none⟩) (Kd.R_far (p:=⟨gb1143,6,none⟩) (Kd.R_far (p:=⟨gb1143,5,none⟩) (Kd.R_far (p:=⟨gb1143,4,none⟩) (Kd.R_far (p:=⟨gb1143,3,none⟩) (Kd.R_far (p:=⟨gb1143,2,none⟩) (Kd.R_far (p:=⟨gb1143,1,none⟩) (Kd.R_far (p:=⟨gb1143,0,none⟩) (Kd.R_types HO1148.out BK1143.out (by decide)) (fun _ hk => hk.2) (.string t1170)) (fun _ hk => hk.2) (.int .i64 t1171)) (fun _ hk => hk.2) (.int .i64 t1172)) (fun _ hk => hk.2) (.int .i64 t1173)) (fun _ hk => hk.2) (.int .i64 t1174)) (fun _ hk => hk.2) (.int .i64 t1175)) (fun _ hk => hk.2) (.int .i64 t1176)) (fun _ hk => hk.2) (.int .i64 t1177)) (fun _ hk => hk.2) (.string t1178)) (fun _ hk => hk.2) (.string t1179)) (fun _ hk => hk.2) (.bool t1180)) (fun _ hk => hk.1.2))⟩,⟨by refine pB ?_;refine blk_put (cs:=#[.string t1170,.int .i64 t1171,.int .i64 t1172,.int .i64 t1173,.int .i64 t1174,.int .i64 t1175,.int .i64 t1176,.int .i64 t1177,.string t1178,.string t1179,.bool a0_10]) ?_ 10 _ rfl;refine pB ?_;refine blk_put (cs:=#[.string t1170,.int .i64 t1171,.int .i64 t1172,.int .i64 t1173,.int .i64 t1174,.int .i64 t1175,.int .i64 t1176,.int .i64 t1177,.string t1178,.string a0_9,.bool a0_10]) ?_ 9 _ rfl;refine pB ?_;refine blk_put (cs:=#[.string t1170,.int .i64 t1171,.int .i64 t1172,.int .i64 t1173,.int .i64 t1174,.int .i64 t1175,.int .i64 t1176,.int .i64 t1177,.string a0_8,.string a0_9,.bool a0_10]) ?_ 8 _ rfl;refine pB ?_;refine blk_put (cs:=#[.string t1170,.int .i64 t1171,.int .i64 t1172,.int .i64 t1173,.int .i64 t1174,.int .i64 t1175,.int .i64 t1176,.int .i64 a0_7,.string a0_8,.string a0_9,.bool a0_10]) ?_ 7 _ rfl;refine pB ?_;refine blk_put (cs:=#[.string t1170,.int .i64 t1171,.int .i64 t1172,.int .i64 t1173,.int .i64 t1174,.int .i64 t1175,.int .i64 a0_6,.int .i64 a0_7,.string a0_8,.string a0_9,.bool a0_10]) ?_ 6 _ rfl;refine pB ?_;refine blk_put (cs:=#[.string t1170,.int .i64 t1171,.int .i64 t1172,.int .i64 t1173,.int .i64 t1174,.int .i64 a0_5,.int .i64 a0_6,.int .i64 a0_7,.string a0_8,.string a0_9,.bool a0_10]) ?_ 5 _ rfl;refine pB ?_;refine blk_put (cs:=#[.string t1170,.int .i64 t1171,.int .i64 t1172,.int .i64 t1173,.int .i64 a0_4,.int .i64 a0_5,.int .i64 a0_6,.int .i64 a0_7,.string a0_8,.string a0_9,.bool a0_10]) ?_ 4 _ rfl;refine pB ?_;refine blk_put (cs:=#[.string t1170,.int .i64 t1171,.int .i64 t1172,.int .i64 a0_3,.int .i64 a0_4,.int .i64 a0_5,.int .i64 a0_6,.int .i64 a0_7,.string a0_8,.string a0_9,.bool a0_10]) ?_ 3 _ rfl;refine pB ?_;refine blk_put (cs:=#[.string t1170,.int .i64 t1171,.int .i64 a0_2,.int .i64 a0_3,.int .i64 a0_4,.int .i64 a0_5,.int .i64 a0_6,.int .i64 a0_7,.string a0_8,.string a0_9,.bool a0_10]) ?_ 2 _ rfl;refine pB ?_;refine blk_put (cs:=#[.string t1170,.int .i64 a0_1,.int .i64 a0_2,.int .i64 a0_3,.int .i64 a0_4,.int .i64 a0_5,.int .i64 a0_6,.int .i64 a0_7,.string a0_8,.string a0_9,.bool a0_10]) ?_ 1 _ rfl;refine pB ?_;refine blk_put (cs:=#[.string a0_0,.int .i64 a0_1,.int .i64 a0_2,.int .i64 a0_3,.int .i64 a0_4,.int .i64 a0_5,.int .i64 a0_6,.int .i64 a0_7,.string a0_8,.string a0_9,.bool a0_10]) ?_ 0 _ rfl;refine pB ?_;exact BK1143.out⟩,⟨by refine pB ?_;refine blk_far ?_ NB1144_1143.out _;refine pB ?_;refine blk_far ?_ NB1144_1143.out _;refine pB ?_;refine blk_far ?_ NB1144_1143.out _;refine pB ?_;refine blk_far ?_ NB1144_1143.out _;refine pB ?_;refine blk_far ?_ NB1144_1143.out _;refine pB ?_;refine blk_far ?_ NB1144_1143.out _;refine pB ?_;refine blk_far ?_ NB1144_1143.out _;refine pB ?_;refine blk_far ?_ NB1144_1143.out _;refine pB ?_;refine blk_far ?_ NB1144_1143.out _;refine pB ?_;refine blk_far ?_ NB1144_1143.out _;refine pB ?_;refine blk_far ?_ NB1144_1143.out _;refine pB ?_;exact BK1144.out⟩,⟨by refine pB ?_;refine blk_far ?_ NB1145_1143.out _;refine pB ?_;refine blk_far ?_ NB1145_1143.out _;refine pB ?_;refine blk_far ?_ NB1145_1143.out _;refine pB ?_;refine blk_far ?_ NB1145_1143.out _;refine pB ?_;refine blk_far ?_ NB1145_1143.out _;refine pB ?_;refine blk_far ?_ NB1145_1143.out _;refine pB ?_;refine blk_far ?_ NB1145_1143.out _;refine pB ?_;refine blk_far ?_ NB1145_1143.out _;refine pB ?_;refine blk_far ?_ NB1145_1143.out _;refine pB ?_;refine blk_far ?_ NB1145_1143.out _;refine pB ?_;refine blk_far ?_ NB1145_1143.out _;refine pB ?_;exact BK1145.out⟩,⟨bW⟩⟩
      ·rw [if_neg c42] at H
       have c42b0:(t1174 == 1) = false:=beq_eq_false_iff_ne.mpr c42
       have c42b1:(t1174 != 1) = true:=bne_iff_ne.mpr c42
       (first|rw [c42b0]|(simp only [i64_w,i32_w];rw [c42b0]) | skip)
       have H':=aMk H
       clear H
       have hnb46:=NB1143_1144.out
       have hnc46:=NB1144_1143.out
       have hnb47:=NB1143_1145.out
       have hnc47:=NB1145_1143.out
       obtain ⟨Z48_0,Z48_1,Z48_2,Z48_3,Z48_4,Z48_5,Z48_6,Z48_7,Z48_8,Z48_9,Z48_10,Y48_0,Y48_1,Y48_2,Y48_3,Y48_4,Y48_5,Y48_6,Y48_7,Y48_8,Y48_9,Y48_10⟩:=bC11 BK1143.out
       go_wp2
       go_meet
       case rel => exact ⟨_,((t1174 == 4)),rfS,H',⟨by first | omega|exact Nat.le_refl _⟩,⟨kR (Kd.R_mono (Kd.R_far (p:=⟨gb1143,10,none⟩) (Kd.R_far (p:=⟨gb1143,9,none⟩) (Kd.R_far (p:=⟨gb1143,8,none⟩) (Kd.R_far (p:=⟨gb1143,7,none⟩) (Kd.R_far (p:=⟨gb1143,6,none⟩) (Kd.R_far (p:=⟨gb1143,5,none⟩) (Kd.R_far (p:=⟨gb1143,4,none⟩) (Kd.R_far (p:=⟨gb1143,3,none⟩) (Kd.R_far (p:=⟨gb1143,2,none⟩) (Kd.R_far (p:=⟨gb1143,1,none⟩) (Kd.R_far (p:=⟨gb1143,0,none⟩) (Kd.R_types HO1148.out BK1143.out (by decide)) (fun _ hk => hk.2) (.string t1170)) (fun _ hk => hk.2) (.int .i64 t1171)) (fun _ hk => hk.2) (.int .i64 t1172)) (fun _ hk => hk.2) (.int .i64 t1173)) (fun _ hk => hk.2) (.int .i64 t1174)) (fun _ hk => hk.2) (.int .i64 t1175)) (fun _ hk => hk.2) (.int .i64 t1176)) (fun _ hk => hk.2) (.int .i64 t1177)) (fun _ hk => hk.2) (.string t1178)) (fun _ hk => hk.2) (.string t1179)) (fun _ hk => hk.2) (.bool t1180)) (fun _ hk => hk.1.2))⟩,⟨by refine pB ?_;refine blk_put (cs:=#[.string t1170,.int .i64 t1171,.int .i64 t1172,.int .i64 t1173,.int .i64 t1174,.int .i64 t1175,.int .i64 t1176,.int .i64 t1177,.string t1178,.string t1179,.bool a0_10]) ?_ 10 _ rfl;refine pB ?_;refine blk_put (cs:=#[.string t1170,.int .i64 t1171,.int .i64 t1172,.int .i64 t1173,.int .i64 t1174,.int .i64 t1175,.int .i64 t1176,.int .i64 t1177,.string t1178,.string a0_9,.bool a0_10]) ?_ 9 _ rfl;refine pB ?_;refine blk_put (cs:=#[.string t1170,.int .i64 t1171,.int .i64 t1172,.int .i64 t1173,.int .i64 t1174,.int .i64 t1175,.int .i64 t1176,.int .i64 t1177,.string a0_8,.string a0_9,.bool a0_10]) ?_ 8 _ rfl;refine pB ?_;refine blk_put (cs:=#[.string t1170,.int .i64 t1171,.int .i64 t1172,.int .i64 t1173,.int .i64 t1174,.int .i64 t1175,.int .i64 t1176,.int .i64 a0_7,.string a0_8,.string a0_9,.bool a0_10]) ?_ 7 _ rfl;refine pB ?_;refine blk_put (cs:=#[.string t1170,.int .i64 t1171,.int .i64 t1172,.int .i64 t1173,.int .i64 t1174,.int .i64 t1175,.int .i64 a0_6,.int .i64 a0_7,.string a0_8,.string a0_9,.bool a0_10]) ?_ 6 _ rfl;refine pB ?_;refine blk_put (cs:=#[.string t1170,.int .i64 t1171,.int .i64 t1172,.int .i64 t1173,.int .i64 t1174,.int .i64 a0_5,.int .i64 a0_6,.int .i64 a0_7,.string a0_8,.string a0_9,.bool a0_10]) ?_ 5 _ rfl;refine pB ?_;refine blk_put (cs:=#[.string t1170,.int .i64 t1171,.int .i64 t1172,.int .i64 t1173,.int .i64 a0_4,.int .i64 a0_5,.int .i64 a0_6,.int .i64 a0_7,.string a0_8,.string a0_9,.bool a0_10]) ?_ 4 _ rfl;refine pB ?_;refine blk_put (cs:=#[.string t1170,.int .i64 t1171,.int .i64 t1172,.int .i64 a0_3,.int .i64 a0_4,.int .i64 a0_5,.int .i64 a0_6,.int .i64 a0_7,.string a0_8,.string a0_9,.bool a0_10]) ?_ 3 _ rfl;refine pB ?_;refine blk_put (cs:=#[.string t1170,.int .i64 t1171,.int .i64 a0_2,.int .i64 a0_3,.int .i64 a0_4,.int .i64 a0_5,.int .i64 a0_6,.int .i64 a0_7,.string a0_8,.string a0_9,.bool a0_10]) ?_ 2 _ rfl;refine pB ?_;refine blk_put (cs:=#[.string t1170,.int .i64 a0_1,.int .i64 a0_2,.int .i64 a0_3,.int .i64 a0_4,.int .i64 a0_5,.int .i64 a0_6,.int .i64 a0_7,.string a0_8,.string a0_9,.bool a0_10]) ?_ 1 _ rfl;refine pB ?_;refine blk_put (cs:=#[.string a0_0,.int .i64 a0_1,.int .i64 a0_2,.int .i64 a0_3,.int .i64 a0_4,.int .i64 a0_5,.int .i64 a0_6,.int .i64 a0_7,.string a0_8,.string a0_9,.bool a0_10]) ?_ 0 _ rfl;refine pB ?_;exact BK1143.out⟩,⟨by refine pB ?_;refine blk_far ?_ NB1144_1143.out _;refine pB ?_;refine blk_far ?_ NB1144_1143.out _;refine pB ?_;refine blk_far ?_ NB1144_1143.out _;refine pB ?_;refine blk_far ?_ NB1144_1143.out _;refine pB ?_;refine blk_far ?_ NB1144_1143.out _;refine pB ?_;refine blk_far ?_ NB1144_1143.out _;refine pB ?_;refine blk_far ?_ NB1144_1143.out _;refine pB ?_;refine blk_far ?_ NB1144_1143.out _;refine pB ?_;refine blk_far ?_ NB1144_1143.out _;refine pB ?_;refine blk_far ?_ NB1144_1143.out _;refine pB ?_;refine blk_far ?_ NB1144_1143.out _;refine pB ?_;exact BK1144.out⟩,⟨by refine pB ?_;refine blk_far ?_ NB1145_1143.out _;refine pB ?_;refine blk_far ?_ NB1145_1143.out _;refine pB ?_;refine blk_far ?_ NB1145_1143.out _;refine pB ?_;refine blk_far ?_ NB1145_1143.out _;refine pB ?_;refine blk_far ?_ NB1145_1143.out _;refine pB ?_;refine blk_far ?_ NB1145_1143.out _;refine pB ?_;refine blk_far ?_ NB1145_1143.out _;refine pB ?_;refine blk_far ?_ NB1145_1143.out _;refine pB ?_;refine blk_far ?_ NB1145_1143.out _;refine pB ?_;refine blk_far ?_ NB1145_1143.out _;refine pB ?_;refine blk_far ?_ NB1145_1143.out _;refine pB ?_;exact BK1145.out⟩,⟨bW⟩⟩
     case rest =>
      clear HC29
      try clear Z11_0 Z11_1 Z11_10 Z11_2 Z11_3 Z11_4 Z11_5 Z11_6 Z11_7 Z11_8 Z11_9
      try clear Z13_0 Z13_1 Z13_10 Z13_2 Z13_3 Z13_4 Z13_5 Z13_6 Z13_7 Z13_8 Z13_9
      try clear Z24_0 Z24_1 Z24_10 Z24_2 Z24_3 Z24_4 Z24_5 Z24_6 Z24_7 Z24_8 Z24_9
      try clear Z26_0 Z26_1 Z26_2 Z26_3 Z26_4 Z26_5 Z26_6
      try clear Z27_0 Z27_1 Z27_10 Z27_2 Z27_3 Z27_4 Z27_5 Z27_6 Z27_7 Z27_8 Z27_9
      try clear Z37_0 Z37_1 Z37_10 Z37_2 Z37_3 Z37_4 Z37_5 Z37_6 Z37_7 Z37_8 Z37_9
      try clear Z39_0 Z39_1 Z39_2 Z39_3 Z39_4 Z39_5 Z39_6
      try clear Z41_0 Z41_1 Z41_10 Z41_2 Z41_3 Z41_4 Z41_5 Z41_6 Z41_7 Z41_8 Z41_9
      try clear Z45_0 Z45_1 Z45_10 Z45_2 Z45_3 Z45_4 Z45_5 Z45_6 Z45_7 Z45_8 Z45_9
      try clear Z48_0 Z48_1 Z48_10 Z48_2 Z48_3 Z48_4 Z48_5 Z48_6 Z48_7 Z48_8 Z48_9
      try clear Y11_0 Y11_1 Y11_10 Y11_2 Y11_3 Y11_4 Y11_5 Y11_6 Y11_7 Y11_8 Y11_9
      try clear Y13_0 Y13_1 Y13_10 Y13_2 Y13_3 Y13_4 Y13_5 Y13_6 Y13_7 Y13_8 Y13_9
      try clear Y24_0 Y24_1 Y24_10 Y24_2 Y24_3 Y24_4 Y24_5 Y24_6 Y24_7 Y24_8 Y24_9
      try clear Y26_0 Y26_1 Y26_2 Y26_3 Y26_4 Y26_5 Y26_6
      try clear Y27_0 Y27_1 Y27_10 Y27_2 Y27_3 Y27_4 Y27_5 Y27_6 Y27_7 Y27_8 Y27_9
      try clear Y37_0 Y37_1 Y37_10 Y37_2 Y37_3 Y37_4 Y37_5 Y37_6 Y37_7 Y37_8 Y37_9
      try clear Y39_0 Y39_1 Y39_2 Y39_3 Y39_4 Y39_5 Y39_6
      try clear Y41_0 Y41_1 Y41_10 Y41_2 Y41_3 Y41_4 Y41_5 Y41_6 Y41_7 Y41_8 Y41_9
      try clear Y45_0 Y45_1 Y45_10 Y45_2 Y45_3 Y45_4 Y45_5 Y45_6 Y45_7 Y45_8 Y45_9
      try clear Y48_0 Y48_1 Y48_10 Y48_2 Y48_3 Y48_4 Y48_5 Y48_6 Y48_7 Y48_8 Y48_9
      obtain ⟨kq,x76_28,rfl,HA,HJ28,HO_6,BK1143,BK1144,BK1145,HB⟩:=hcut
      cases kq with
      | zero => exact absurd HA.out (by simp [spec_l10Take.j1])
      | succ kj28 =>
       have H:=HA.out
       clear HA
       simp only [spec_l10Take.j1] at H
       by_cases c49:x76_28 = true
       ·subst c49
        have H1:=H
        rw [if_pos rfl] at H1
        clear H
        have H:=H1
        clear H1
        simp only [Option.some.injEq,Prod.mk.injEq] at H
        obtain ⟨rfl,rfl,rfl,rfl,rfl,rfl,rfl,rfl,rfl,rfl,rfl,rfl⟩:=H
        have hnb50:=NB1143_1144.out
        have hnc50:=NB1144_1143.out
        have hnb51:=NB1143_1145.out
        have hnc51:=NB1145_1143.out
        obtain ⟨Z52_0,Z52_1,Z52_2,Z52_3,Z52_4,Z52_5,Z52_6,Z52_7,Z52_8,Z52_9,Z52_10,Y52_0,Y52_1,Y52_2,Y52_3,Y52_4,Y52_5,Y52_6,Y52_7,Y52_8,Y52_9,Y52_10⟩:=bC11 BK1143.out
        have hnb53:=NB1145_1144.out
        have hnc53:=NB1144_1145.out
        obtain ⟨Z54_0,Z54_1,Z54_2,Z54_3,Z54_4,Z54_5,Z54_6,Z54_7,Z54_8,Z54_9,Z54_10,Y54_0,Y54_1,Y54_2,Y54_3,Y54_4,Y54_5,Y54_6,Y54_7,Y54_8,Y54_9,Y54_10⟩:=bC11 BK1145.out
        go_wp2
        refine bodyPost_ret (results_ct rfl _ _ gb1145 34 #[.string t1170,.int .i64 t1171,.int .i64 t1172,.int .i64 t1173,.int .i64 t1174,.int .i64 t1175,.int .i64 t1176,.int .i64 t1177,.string t1178,.string t1179,.bool t1180] (0,0) _ rfl (by refine pB ?_;refine blk_put (cs:=#[.string t1170,.int .i64 t1171,.int .i64 t1172,.int .i64 t1173,.int .i64 t1174,.int .i64 t1175,.int .i64 t1176,.int .i64 t1177,.string t1178,.string t1179,.bool false]) ?_ 10 _ rfl;refine pB ?_;refine blk_put (cs:=#[.string t1170,.int .i64 t1171,.int .i64 t1172,.int .i64 t1173,.int .i64 t1174,.int .i64 t1175,.int .i64 t1176,.int .i64 t1177,.string t1178,.string (⟨#[]⟩:ByteArray),.bool false]) ?_ 9 _ rfl;refine pB ?_;refine blk_put (cs:=#[.string t1170,.int .i64 t1171,.int .i64 t1172,.int .i64 t1173,.int .i64 t1174,.int .i64 t1175,.int .i64 t1176,.int .i64 t1177,.string (⟨#[]⟩:ByteArray),.string (⟨#[]⟩:ByteArray),.bool false]) ?_ 8 _ rfl;refine pB ?_;refine blk_put (cs:=#[.string t1170,.int .i64 t1171,.int .i64 t1172,.int .i64 t1173,.int .i64 t1174,.int .i64 t1175,.int .i64 t1176,.int .i64 0,.string (⟨#[]⟩:ByteArray),.string (⟨#[]⟩:ByteArray),.bool false]) ?_ 7 _ rfl;refine pB ?_;refine blk_put (cs:=#[.string t1170,.int .i64 t1171,.int .i64 t1172,.int .i64 t1173,.int .i64 t1174,.int .i64 t1175,.int .i64 0,.int .i64 0,.string (⟨#[]⟩:ByteArray),.string (⟨#[]⟩:ByteArray),.bool false]) ?_ 6 _ rfl;refine pB ?_;refine blk_put (cs:=#[.string t1170,.int .i64 t1171,.int .i64 t1172,.int .i64 t1173,.int .i64 t1174,.int .i64 0,.int .i64 0,.int .i64 0,.string (⟨#[]⟩:ByteArray),.string (⟨#[]⟩:ByteArray),.bool false]) ?_ 5 _ rfl;refine pB ?_;refine blk_put (cs:=#[.string t1170,.int .i64 t1171,.int .i64 t1172,.int .i64 t1173,.int .i64 0,.int .i64 0,.int .i64 0,.int .i64 0,.string (⟨#[]⟩:ByteArray),.string (⟨#[]⟩:ByteArray),.bool false]) ?_ 4 _ rfl;refine pB ?_;refine blk_put (cs:=#[.string t1170,.int .i64 t1171,.int .i64 t1172,.int .i64 0,.int .i64 0,.int .i64 0,.int .i64 0,.int .i64 0,.string (⟨#[]⟩:ByteArray),.string (⟨#[]⟩:ByteArray),.bool false]) ?_ 3 _ rfl;refine pB ?_;refine blk_put (cs:=#[.string t1170,.int .i64 t1171,.int .i64 0,.int .i64 0,.int .i64 0,.int .i64 0,.int .i64 0,.int .i64 0,.string (⟨#[]⟩:ByteArray),.string (⟨#[]⟩:ByteArray),.bool false]) ?_ 2 _ rfl;refine pB ?_;refine blk_put (cs:=#[.string t1170,.int .i64 0,.int .i64 0,.int .i64 0,.int .i64 0,.int .i64 0,.int .i64 0,.int .i64 0,.string (⟨#[]⟩:ByteArray),.string (⟨#[]⟩:ByteArray),.bool false]) ?_ 1 _ rfl;refine pB ?_;refine blk_put (cs:=#[.string (⟨#[]⟩:ByteArray),.int .i64 0,.int .i64 0,.int .i64 0,.int .i64 0,.int .i64 0,.int .i64 0,.int .i64 0,.string (⟨#[]⟩:ByteArray),.string (⟨#[]⟩:ByteArray),.bool false]) ?_ 0 _ rfl;refine pB ?_;exact BK1145.out) Try.underlying34 rfl (by kernel_rfl)) rfl ?_
        exact ⟨_,eRf,kR (Kd.R_mono (Kd.R_far (p:=⟨gb1145,10,none⟩) (Kd.R_far (p:=⟨gb1145,9,none⟩) (Kd.R_far (p:=⟨gb1145,8,none⟩) (Kd.R_far (p:=⟨gb1145,7,none⟩) (Kd.R_far (p:=⟨gb1145,6,none⟩) (Kd.R_far (p:=⟨gb1145,5,none⟩) (Kd.R_far (p:=⟨gb1145,4,none⟩) (Kd.R_far (p:=⟨gb1145,3,none⟩) (Kd.R_far (p:=⟨gb1145,2,none⟩) (Kd.R_far (p:=⟨gb1145,1,none⟩) (Kd.R_far (p:=⟨gb1145,0,none⟩) (Kd.R_types HO_6.out BK1145.out (by decide)) (fun _ hk => hk.2) (.string t1170)) (fun _ hk => hk.2) (.int .i64 t1171)) (fun _ hk => hk.2) (.int .i64 t1172)) (fun _ hk => hk.2) (.int .i64 t1173)) (fun _ hk => hk.2) (.int .i64 t1174)) (fun _ hk => hk.2) (.int .i64 t1175)) (fun _ hk => hk.2) (.int .i64 t1176)) (fun _ hk => hk.2) (.int .i64 t1177)) (fun _ hk => hk.2) (.string t1178)) (fun _ hk => hk.2) (.string t1179)) (fun _ hk => hk.2) (.bool t1180)) (fun _ hk => trivial)),bW⟩
       ·replace c49:=Bool.eq_false_iff.mpr c49
        subst c49
        have H1:=H
        rw [if_neg (show ¬ (false = true) by decide)] at H1
        clear H
        have H:=H1
        clear H1
        have HC55:=aMk H
        clear H
        go_upto_region 21 with (fail)
        go_cut [87] (fun v87 wc => ∃ (kq:Nat) (x87_54:Bool),v87 = .bool x87_54∧Aside0 (spec_l10Take.j2 kq y1146 x87_54 t1170 t1171 t1172 t1173 t1174 t1175 t1176 t1177 t1178 t1179 t1180 a1_0 a1_1 a1_2 a1_3 a1_4 a1_5 a1_6 = some (r1,r2,r3,r4,r5,r6,r7,r8,r9,r10,r11,r12))∧Aside0 (kq≤kj28)∧Aside0 (Kd.R k53 53 wc w.heap.size (fun k_ => k_ ≠ gb1144) v1147 y1146)∧Aside0 (wc.heap[gb1143]? = some (.cells #[.string t1170,.int .i64 t1171,.int .i64 t1172,.int .i64 t1173,.int .i64 t1174,.int .i64 t1175,.int .i64 t1176,.int .i64 t1177,.string t1178,.string t1179,.bool t1180] 34 (0,0)))∧Aside0 (wc.heap[gb1144]? = some (.cells #[.int .i64 a1_0,.int .i64 a1_1,.int .i64 a1_2,.int .i64 a1_3,.int .i64 a1_4,.int .i64 a1_5,.string a1_6] 53 (0,0)))∧Aside0 (wc.heap[gb1145]? = some (.cells #[.string (⟨#[]⟩:ByteArray),.int .i64 0,.int .i64 0,.int .i64 0,.int .i64 0,.int .i64 0,.int .i64 0,.int .i64 0,.string (⟨#[]⟩:ByteArray),.string (⟨#[]⟩:ByteArray),.bool false] 34 (0,0)))∧Aside0 (Below w.heap.size w wc))
        case first =>
         have H:=HC55.out
         clear HC55
         by_cases c56:a1_6.toList = ([]:List UInt8)
         ·rw [if_pos c56] at H
          have c56b0:(a1_6.toList == ([]:List UInt8)) = true:=beq_iff_eq.mpr c56
          have c56b1:(a1_6.toList != ([]:List UInt8)) = false:=bne_eq_false_iff_eq.mpr c56
          clear c56
          (first|rw [c56b0]|(simp only [i64_w,i32_w];rw [c56b0]) | skip)
          have H':=aMk H
          clear H
          have hnb57:=NB1144_1143.out
          have hnc57:=NB1143_1144.out
          have hnb58:=NB1144_1145.out
          have hnc58:=NB1145_1144.out
          obtain ⟨Z59_0,Z59_1,Z59_2,Z59_3,Z59_4,Z59_5,Z59_6,Y59_0,Y59_1,Y59_2,Y59_3,Y59_4,Y59_5,Y59_6⟩:=bC7 BK1144.out
          go_wp2
          go_meet
          case rel => exact ⟨_,(((Go.bits .and .i64 a1_4 1) == 0)),rfS,H',⟨by have:=HJ28.out;first | omega|exact Nat.le_refl _⟩,⟨kR (HO_6.out)⟩,⟨by refine pB ?_;exact BK1143.out⟩,⟨by refine pB ?_;exact BK1144.out⟩,⟨by refine pB ?_;exact BK1145.out⟩,⟨bW⟩⟩
         ·rw [if_neg c56] at H
          have c56b0:(a1_6.toList == ([]:List UInt8)) = false:=beq_eq_false_iff_ne.mpr c56
          have c56b1:(a1_6.toList != ([]:List UInt8)) = true:=bne_iff_ne.mpr c56
          (first|rw [c56b0]|(simp only [i64_w,i32_w];rw [c56b0]) | skip)
          have H':=aMk H
          clear H
          have hnb60:=NB1144_1143.out
          have hnc60:=NB1143_1144.out
          have hnb61:=NB1144_1145.out
          have hnc61:=NB1145_1144.out
          obtain ⟨Z62_0,Z62_1,Z62_2,Z62_3,Z62_4,Z62_5,Z62_6,Y62_0,Y62_1,Y62_2,Y62_3,Y62_4,Y62_5,Y62_6⟩:=bC7 BK1144.out
          go_wp2
          go_meet
          case rel => exact ⟨_,(false),rfS,H',⟨by have:=HJ28.out;first | omega|exact Nat.le_refl _⟩,⟨kR (HO_6.out)⟩,⟨by refine pB ?_;exact BK1143.out⟩,⟨by refine pB ?_;exact BK1144.out⟩,⟨by refine pB ?_;exact BK1145.out⟩,⟨bW⟩⟩
        case rest =>
         clear HC55
         try clear Z11_0 Z11_1 Z11_10 Z11_2 Z11_3 Z11_4 Z11_5 Z11_6 Z11_7 Z11_8 Z11_9
         try clear Z13_0 Z13_1 Z13_10 Z13_2 Z13_3 Z13_4 Z13_5 Z13_6 Z13_7 Z13_8 Z13_9
         try clear Z24_0 Z24_1 Z24_10 Z24_2 Z24_3 Z24_4 Z24_5 Z24_6 Z24_7 Z24_8 Z24_9
         try clear Z26_0 Z26_1 Z26_2 Z26_3 Z26_4 Z26_5 Z26_6
         try clear Z27_0 Z27_1 Z27_10 Z27_2 Z27_3 Z27_4 Z27_5 Z27_6 Z27_7 Z27_8 Z27_9
         try clear Z37_0 Z37_1 Z37_10 Z37_2 Z37_3 Z37_4 Z37_5 Z37_6 Z37_7 Z37_8 Z37_9
         try clear Z39_0 Z39_1 Z39_2 Z39_3 Z39_4 Z39_5 Z39_6
         try clear Z41_0 Z41_1 Z41_10 Z41_2 Z41_3 Z41_4 Z41_5 Z41_6 Z41_7 Z41_8 Z41_9
         try clear Z45_0 Z45_1 Z45_10 Z45_2 Z45_3 Z45_4 Z45_5 Z45_6 Z45_7 Z45_8 Z45_9
         try clear Z48_0 Z48_1 Z48_10 Z48_2 Z48_3 Z48_4 Z48_5 Z48_6 Z48_7 Z48_8 Z48_9
         try clear Z52_0 Z52_1 Z52_10 Z52_2 Z52_3 Z52_4 Z52_5 Z52_6 Z52_7 Z52_8 Z52_9
         try clear Z54_0 Z54_1 Z54_10 Z54_2 Z54_3 Z54_4 Z54_5 Z54_6 Z54_7 Z54_8 Z54_9
         try clear Z59_0 Z59_1 Z59_2 Z59_3 Z59_4 Z59_5 Z59_6
         try clear Z62_0 Z62_1 Z62_2 Z62_3 Z62_4 Z62_5 Z62_6
         try clear Y11_0 Y11_1 Y11_10 Y11_2 Y11_3 Y11_4 Y11_5 Y11_6 Y11_7 Y11_8 Y11_9
         try clear Y13_0 Y13_1 Y13_10 Y13_2 Y13_3 Y13_4 Y13_5 Y13_6 Y13_7 Y13_8 Y13_9
         try clear Y24_0 Y24_1 Y24_10 Y24_2 Y24_3 Y24_4 Y24_5 Y24_6 Y24_7 Y24_8 Y24_9
         try clear Y26_0 Y26_1 Y26_2 Y26_3 Y26_4 Y26_5 Y26_6
         try clear Y27_0 Y27_1 Y27_10 Y27_2 Y27_3 Y27_4 Y27_5 Y27_6 Y27_7 Y27_8 Y27_9
         try clear Y37_0 Y37_1 Y37_10 Y37_2 Y37_3 Y37_4 Y37_5 Y37_6 Y37_7 Y37_8 Y37_9
         try clear Y39_0 Y39_1 Y39_2 Y39_3 Y39_4 Y39_5 Y39_6
         try clear Y41_0 Y41_1 Y41_10 Y41_2 Y41_3 Y41_4 Y41_5 Y41_6 Y41_7 Y41_8 Y41_9
         try clear Y45_0 Y45_1 Y45_10 Y45_2 Y45_3 Y45_4 Y45_5 Y45_6 Y45_7 Y45_8 Y45_9
         try clear Y48_0 Y48_1 Y48_10 Y48_2 Y48_3 Y48_4 Y48_5 Y48_6 Y48_7 Y48_8 Y48_9
         try clear Y52_0 Y52_1 Y52_10 Y52_2 Y52_3 Y52_4 Y52_5 Y52_6 Y52_7 Y52_8 Y52_9
         try clear Y54_0 Y54_1 Y54_10 Y54_2 Y54_3 Y54_4 Y54_5 Y54_6 Y54_7 Y54_8 Y54_9
         try clear Y59_0 Y59_1 Y59_2 Y59_3 Y59_4 Y59_5 Y59_6
         try clear Y62_0 Y62_1 Y62_2 Y62_3 Y62_4 Y62_5 Y62_6
         obtain ⟨kq,x87_54,rfl,HA,HJ54,HO_6,BK1143,BK1144,BK1145,HB⟩:=hcut
         cases kq with
         | zero => exact absurd HA.out (by simp [spec_l10Take.j2])
         | succ kj54 =>
          have H:=HA.out
          clear HA
          simp only [spec_l10Take.j2] at H
          by_cases c63:x87_54 = true
          ·subst c63
           have H1:=H
           rw [if_pos rfl] at H1
           clear H
           have H:=H1
           clear H1
           simp only [Option.some.injEq,Prod.mk.injEq] at H
           obtain ⟨rfl,rfl,rfl,rfl,rfl,rfl,rfl,rfl,rfl,rfl,rfl,rfl⟩:=H
           have hnb64:=NB1143_1144.out
           have hnc64:=NB1144_1143.out
           have hnb65:=NB1143_1145.out
           have hnc65:=NB1145_1143.out
           obtain ⟨Z66_0,Z66_1,Z66_2,Z66_3,Z66_4,Z66_5,Z66_6,Z66_7,Z66_8,Z66_9,Z66_10,Y66_0,Y66_1,Y66_2,Y66_3,Y66_4,Y66_5,Y66_6,Y66_7,Y66_8,Y66_9,Y66_10⟩:=bC11 BK1143.out
           have hnb67:=NB1145_1144.out
           have hnc67:=NB1144_1145.out
           obtain ⟨Z68_0,Z68_1,Z68_2,Z68_3,Z68_4,Z68_5,Z68_6,Z68_7,Z68_8,Z68_9,Z68_10,Y68_0,Y68_1,Y68_2,Y68_3,Y68_4,Y68_5,Y68_6,Y68_7,Y68_8,Y68_9,Y68_10⟩:=bC11 BK1145.out
           go_wp2
           refine bodyPost_ret (results_ct rfl _ _ gb1145 34 #[.string t1170,.int .i64 t1171,.int .i64 t1172,.int .i64 t1173,.int .i64 t1174,.int .i64 t1175,.int .i64 t1176,.int .i64 t1177,.string t1178,.string t1179,.bool t1180] (0,0) _ rfl (by refine pB ?_;refine blk_put (cs:=#[.string t1170,.int .i64 t1171,.int .i64 t1172,.int .i64 t1173,.int .i64 t1174,.int .i64 t1175,.int .i64 t1176,.int .i64 t1177,.string t1178,.string t1179,.bool false]) ?_ 10 _ rfl;refine pB ?_;refine blk_put (cs:=#[.string t1170,.int .i64 t1171,.int .i64 t1172,.int .i64 t1173,.int .i64 t1174,.int .i64 t1175,.int .i64 t1176,.int .i64 t1177,.string t1178,.string (⟨#[]⟩:ByteArray),.bool false]) ?_ 9 _ rfl;refine pB ?_;refine blk_put (cs:=#[.string t1170,.int .i64 t1171,.int .i64 t1172,.int .i64 t1173,.int .i64 t1174,.int .i64 t1175,.int .i64 t1176,.int .i64 t1177,.string (⟨#[]⟩:ByteArray),.string (⟨#[]⟩:ByteArray),.bool false]) ?_ 8 _ rfl;refine pB ?_;refine blk_put (cs:=#[.string t1170,.int .i64 t1171,.int .i64 t1172,.int .i64 t1173,.int .i64 t1174,.int .i64 t1175,.int .i64 t1176,.int .i64 0,.string (⟨#[]⟩:ByteArray),.string (⟨#[]⟩:ByteArray),.bool false]) ?_ 7 _ rfl;refine pB ?_;refine blk_put (cs:=#[.string t1170,.int .i64 t1171,.int .i64 t1172,.int .i64 t1173,.int .i64 t1174,.int .i64 t1175,.int .i64 0,.int .i64 0,.string (⟨#[]⟩:ByteArray),.string (⟨#[]⟩:ByteArray),.bool false]) ?_ 6 _ rfl;refine pB ?_;refine blk_put (cs:=#[.string t1170,.int .i64 t1171,.int .i64 t1172,.int .i64 t1173,.int .i64 t1174,.int .i64 0,.int .i64 0,.int .i64 0,.string (⟨#[]⟩:ByteArray),.string (⟨#[]⟩:ByteArray),.bool false]) ?_ 5 _ rfl;refine pB ?_;refine blk_put (cs:=#[.string t1170,.int .i64 t1171,.int .i64 t1172,.int .i64 t1173,.int .i64 0,.int .i64 0,.int .i64 0,.int .i64 0,.string (⟨#[]⟩:ByteArray),.string (⟨#[]⟩:ByteArray),.bool false]) ?_ 4 _ rfl;refine pB ?_;refine blk_put (cs:=#[.string t1170,.int .i64 t1171,.int .i64 t1172,.int .i64 0,.int .i64 0,.int .i64 0,.int .i64 0,.int .i64 0,.string (⟨#[]⟩:ByteArray),.string (⟨#[]⟩:ByteArray),.bool false]) ?_ 3 _ rfl;refine pB ?_;refine blk_put (cs:=#[.string t1170,.int .i64 t1171,.int .i64 0,.int .i64 0,.int .i64 0,.int .i64 0,.int .i64 0,.int .i64 0,.string (⟨#[]⟩:ByteArray),.string (⟨#[]⟩:ByteArray),.bool false]) ?_ 2 _ rfl;refine pB ?_;refine blk_put (cs:=#[.string t1170,.int .i64 0,.int .i64 0,.int .i64 0,.int .i64 0,.int .i64 0,.int .i64 0,.int .i64 0,.string (⟨#[]⟩:ByteArray),.string (⟨#[]⟩:ByteArray),.bool false]) ?_ 1 _ rfl;refine pB ?_;refine blk_put (cs:=#[.string (⟨#[]⟩:ByteArray),.int .i64 0,.int .i64 0,.int .i64 0,.int .i64 0,.int .i64 0,.int .i64 0,.int .i64 0,.string (⟨#[]⟩:ByteArray),.string (⟨#[]⟩:ByteArray),.bool false]) ?_ 0 _ rfl;refine pB ?_;exact BK1145.out) Try.underlying34 rfl (by kernel_rfl)) rfl ?_
           exact ⟨_,eRf,kR (Kd.R_mono (Kd.R_far (p:=⟨gb1145,10,none⟩) (Kd.R_far (p:=⟨gb1145,9,none⟩) (Kd.R_far (p:=⟨gb1145,8,none⟩) (Kd.R_far (p:=⟨gb1145,7,none⟩) (Kd.R_far (p:=⟨gb1145,6,none⟩) (Kd.R_far (p:=⟨gb1145,5,none⟩) (Kd.R_far (p:=⟨gb1145,4,none⟩) (Kd.R_far (p:=⟨gb1145,3,none⟩) (Kd.R_far (p:=⟨gb1145,2,none⟩) (Kd.R_far (p:=⟨gb1145,1,none⟩) (Kd.R_far (p:=⟨gb1145,0,none⟩) (Kd.R_types HO_6.out BK1145.out (by decide)) (fun _ hk => hk.2) (.string t1170)) (fun _ hk => hk.2) (.int .i64 t1171)) (fun _ hk => hk.2) (.int .i64 t1172)) (fun _ hk => hk.2) (.int .i64 t1173)) (fun _ hk => hk.2) (.int .i64 t1174)) (fun _ hk => hk.2) (.int .i64 t1175)) (fun _ hk => hk.2) (.int .i64 t1176)) (fun _ hk => hk.2) (.int .i64 t1177)) (fun _ hk => hk.2) (.string t1178)) (fun _ hk => hk.2) (.string t1179)) (fun _ hk => hk.2) (.bool t1180)) (fun _ hk => trivial)),bW⟩
          ·replace c63:=Bool.eq_false_iff.mpr c63
           subst c63
           have H1:=H
           rw [if_neg (show ¬ (false = true) by decide)] at H1
           clear H
           have H:=H1
           clear H1
           have HC69:=aMk H
           clear H
           go_upto_region 23 with (fail)
           go_cut [104] (fun v104 wc => ∃ (kq:Nat) (x104_68:Bool),v104 = .bool x104_68∧Aside0 (spec_l10Take.j3 kq x104_68 t1170 t1171 t1172 t1173 t1174 t1175 t1176 t1177 t1178 t1179 t1180 a1_0 a1_1 a1_2 a1_3 a1_4 a1_5 a1_6 = some (r1,r2,r3,r4,r5,r6,r7,r8,r9,r10,r11,r12))∧Aside0 (kq≤kj54)∧Aside0 (wc.heap[gb1143]? = some (.cells #[.string t1170,.int .i64 t1171,.int .i64 t1172,.int .i64 t1173,.int .i64 t1174,.int .i64 t1175,.int .i64 t1176,.int .i64 t1177,.string t1178,.string t1179,.bool t1180] 34 (0,0)))∧Aside0 (wc.heap[gb1144]? = some (.cells #[.int .i64 a1_0,.int .i64 a1_1,.int .i64 a1_2,.int .i64 a1_3,.int .i64 a1_4,.int .i64 a1_5,.string a1_6] 53 (0,0)))∧Aside0 (wc.heap[gb1145]? = some (.cells #[.string (⟨#[]⟩:ByteArray),.int .i64 0,.int .i64 0,.int .i64 0,.int .i64 0,.int .i64 0,.int .i64 0,.int .i64 0,.string (⟨#[]⟩:ByteArray),.string (⟨#[]⟩:ByteArray),.bool false] 34 (0,0)))∧Aside0 (Below w.heap.size w wc))
           case first =>
            have H:=HC69.out
            clear HC69
            by_cases c70:a1_2 = t1177
            ·rw [if_pos c70] at H
             have c70b0:(a1_2 == t1177) = true:=beq_iff_eq.mpr c70
             have c70b1:(a1_2 != t1177) = false:=bne_eq_false_iff_eq.mpr c70
             clear c70
             (first|rw [c70b0]|(simp only [i64_w,i32_w];rw [c70b0]) | skip)
             have H':=aMk H
             clear H
             have hnb71:=NB1144_1143.out
             have hnc71:=NB1143_1144.out
             have hnb72:=NB1144_1145.out
             have hnc72:=NB1145_1144.out
             obtain ⟨Z73_0,Z73_1,Z73_2,Z73_3,Z73_4,Z73_5,Z73_6,Y73_0,Y73_1,Y73_2,Y73_3,Y73_4,Y73_5,Y73_6⟩:=bC7 BK1144.out
             have hnb74:=NB1143_1145.out
             have hnc74:=NB1145_1143.out
             obtain ⟨Z75_0,Z75_1,Z75_2,Z75_3,Z75_4,Z75_5,Z75_6,Z75_7,Z75_8,Z75_9,Z75_10,Y75_0,Y75_1,Y75_2,Y75_3,Y75_4,Y75_5,Y75_6,Y75_7,Y75_8,Y75_9,Y75_10⟩:=bC11 BK1143.out
             go_wp2
             go_meet
             case rel => exact ⟨_,(decide ((wrap64 ((t1178.size:Int) + (a1_6.size:Int)))≤300)),rfS,H',⟨by have:=HJ28.out;have:=HJ54.out;first | omega|exact Nat.le_refl _⟩,⟨by refine pB ?_;exact BK1143.out⟩,⟨by refine pB ?_;exact BK1144.out⟩,⟨by refine pB ?_;exact BK1145.out⟩,⟨bW⟩⟩
            ·rw [if_neg c70] at H
             have c70b0:(a1_2 == t1177) = false:=beq_eq_false_iff_ne.mpr c70
             have c70b1:(a1_2 != t1177) = true:=bne_iff_ne.mpr c70
             (first|rw [c70b0]|(simp only [i64_w,i32_w];rw [c70b0]) | skip)
             have H':=aMk H
             clear H
             have hnb76:=NB1144_1143.out
             have hnc76:=NB1143_1144.out
             have hnb77:=NB1144_1145.out
             have hnc77:=NB1145_1144.out
             obtain ⟨Z78_0,Z78_1,Z78_2,Z78_3,Z78_4,Z78_5,Z78_6,Y78_0,Y78_1,Y78_2,Y78_3,Y78_4,Y78_5,Y78_6⟩:=bC7 BK1144.out
             have hnb79:=NB1143_1145.out
             have hnc79:=NB1145_1143.out
             obtain ⟨Z80_0,Z80_1,Z80_2,Z80_3,Z80_4,Z80_5,Z80_6,Z80_7,Z80_8,Z80_9,Z80_10,Y80_0,Y80_1,Y80_2,Y80_3,Y80_4,Y80_5,Y80_6,Y80_7,Y80_8,Y80_9,Y80_10⟩:=bC11 BK1143.out
             go_wp2
             go_meet
             case rel => exact ⟨_,(false),rfS,H',⟨by have:=HJ28.out;have:=HJ54.out;first | omega|exact Nat.le_refl _⟩,⟨by refine pB ?_;exact BK1143.out⟩,⟨by refine pB ?_;exact BK1144.out⟩,⟨by refine pB ?_;exact BK1145.out⟩,⟨bW⟩⟩
           case rest =>
            clear HC69
            try clear Z11_0 Z11_1 Z11_10 Z11_2 Z11_3 Z11_4 Z11_5 Z11_6 Z11_7 Z11_8 Z11_9
            try clear Z13_0 Z13_1 Z13_10 Z13_2 Z13_3 Z13_4 Z13_5 Z13_6 Z13_7 Z13_8 Z13_9
            try clear Z24_0 Z24_1 Z24_10 Z24_2 Z24_3 Z24_4 Z24_5 Z24_6 Z24_7 Z24_8 Z24_9
            try clear Z26_0 Z26_1 Z26_2 Z26_3 Z26_4 Z26_5 Z26_6
            try clear Z27_0 Z27_1 Z27_10 Z27_2 Z27_3 Z27_4 Z27_5 Z27_6 Z27_7 Z27_8 Z27_9
            try clear Z37_0 Z37_1 Z37_10 Z37_2 Z37_3 Z37_4 Z37_5 Z37_6 Z37_7 Z37_8 Z37_9
            try clear Z39_0 Z39_1 Z39_2 Z39_3 Z39_4 Z39_5 Z39_6
            try clear Z41_0 Z41_1 Z41_10 Z41_2 Z41_3 Z41_4 Z41_5 Z41_6 Z41_7 Z41_8 Z41_9
            try clear Z45_0 Z45_1 Z45_10 Z45_2 Z45_3 Z45_4 Z45_5 Z45_6 Z45_7 Z45_8 Z45_9
            try clear Z48_0 Z48_1 Z48_10 Z48_2 Z48_3 Z48_4 Z48_5 Z48_6 Z48_7 Z48_8 Z48_9
            try clear Z52_0 Z52_1 Z52_10 Z52_2 Z52_3 Z52_4 Z52_5 Z52_6 Z52_7 Z52_8 Z52_9
            try clear Z54_0 Z54_1 Z54_10 Z54_2 Z54_3 Z54_4 Z54_5 Z54_6 Z54_7 Z54_8 Z54_9
            try clear Z59_0 Z59_1 Z59_2 Z59_3 Z59_4 Z59_5 Z59_6
            try clear Z62_0 Z62_1 Z62_2 Z62_3 Z62_4 Z62_5 Z62_6
            try clear Z66_0 Z66_1 Z66_10 Z66_2 Z66_3 Z66_4 Z66_5 Z66_6 Z66_7 Z66_8 Z66_9
            try clear Z68_0 Z68_1 Z68_10 Z68_2 Z68_3 Z68_4 Z68_5 Z68_6 Z68_7 Z68_8 Z68_9
            try clear Z73_0 Z73_1 Z73_2 Z73_3 Z73_4 Z73_5 Z73_6
            try clear Z75_0 Z75_1 Z75_10 Z75_2 Z75_3 Z75_4 Z75_5 Z75_6 Z75_7 Z75_8 Z75_9
            try clear Z78_0 Z78_1 Z78_2 Z78_3 Z78_4 Z78_5 Z78_6
            try clear Z80_0 Z80_1 Z80_10 Z80_2 Z80_3 Z80_4 Z80_5 Z80_6 Z80_7 Z80_8 Z80_9
            try clear Y11_0 Y11_1 Y11_10 Y11_2 Y11_3 Y11_4 Y11_5 Y11_6 Y11_7 Y11_8 Y11_9
            try clear Y13_0 Y13_1 Y13_10 Y13_2 Y13_3 Y13_4 Y13_5 Y13_6 Y13_7 Y13_8 Y13_9
            try clear Y24_0 Y24_1 Y24_10 Y24_2 Y24_3 Y24_4 Y24_5 Y24_6 Y24_7 Y24_8 Y24_9
            try clear Y26_0 Y26_1 Y26_2 Y26_3 Y26_4 Y26_5 Y26_6
            try clear Y27_0 Y27_1 Y27_10 Y27_2 Y27_3 Y27_4 Y27_5 Y27_6 Y27_7 Y27_8 Y27_9
            try clear Y37_0 Y37_1 Y37_10 Y37_2 Y37_3 Y37_4 Y37_5 Y37_6 Y37_7 Y37_8 Y37_9
            try clear Y39_0 Y39_1 Y39_2 Y39_3 Y39_4 Y39_5 Y39_6
            try clear Y41_0 Y41_1 Y41_10 Y41_2 Y41_3 Y41_4 Y41_5 Y41_6 Y41_7 Y41_8 Y41_9
            try clear Y45_0 Y45_1 Y45_10 Y45_2 Y45_3 Y45_4 Y45_5 Y45_6 Y45_7 Y45_8 Y45_9
            try clear Y48_0 Y48_1 Y48_10 Y48_2 Y48_3 Y48_4 Y48_5 Y48_6 Y48_7 Y48_8 Y48_9
            try clear Y52_0 Y52_1 Y52_10 Y52_2 Y52_3 Y52_4 Y52_5 Y52_6 Y52_7 Y52_8 Y52_9
            try clear Y54_0 Y54_1 Y54_10 Y54_2 Y54_3 Y54_4 Y54_5 Y54_6 Y54_7 Y54_8 Y54_9
            try clear Y59_0 Y59_1 Y59_2 Y59_3 Y59_4 Y59_5 Y59_6
            try clear Y62_0 Y62_1 Y62_2 Y62_3 Y62_4 Y62_5 Y62_6
            try clear Y66_0 Y66_1 Y66_10 Y66_2 Y66_3 Y66_4 Y66_5 Y66_6 Y66_7 Y66_8 Y66_9
            try clear Y68_0 Y68_1 Y68_10 Y68_2 Y68_3 Y68_4 Y68_5 Y68_6 Y68_7 Y68_8 Y68_9
            try clear Y73_0 Y73_1 Y73_2 Y73_3 Y73_4 Y73_5 Y73_6
            try clear Y75_0 Y75_1 Y75_10 Y75_2 Y75_3 Y75_4 Y75_5 Y75_6 Y75_7 Y75_8 Y75_9
            try clear Y78_0 Y78_1 Y78_2 Y78_3 Y78_4 Y78_5 Y78_6
            try clear Y80_0 Y80_1 Y80_10 Y80_2 Y80_3 Y80_4 Y80_5 Y80_6 Y80_7 Y80_8 Y80_9
            obtain ⟨kq,x104_68,rfl,HA,HJ68,BK1143,BK1144,BK1145,HB⟩:=hcut
            cases kq with
            | zero => exact absurd HA.out (by simp [spec_l10Take.j3])
            | succ kj68 =>
             have H:=HA.out
             clear HA
             simp only [spec_l10Take.j3] at H
             by_cases c81:x104_68 = true
             ·subst c81
              have H1:=H
              rw [if_pos rfl] at H1
              clear H
              have H:=H1
              clear H1
              by_cases c82:t1178.size + a1_6.size≤9223372036854775807
              ·rw [if_pos c82] at H
               have c82b0:=eq_true c82
               have c82b1:decide (t1178.size + a1_6.size≤9223372036854775807) = true:=decide_eq_true c82
               try have c82b2:(9223372036854775807 < t1178.size + a1_6.size) = False:=eq_false (Nat.not_lt.2 c82)
               replace H:=Option.bind_eq_some_iff.mp H
               obtain ⟨t1181,A830,H⟩:=H
               try dsimp only at H
               have A83:=aMk A830
               clear A830
               by_cases c84:(Go.bits .and .i64 a1_4 1) = 0
               ·rw [if_pos c84] at H
                have c84b0:((Go.bits .and .i64 a1_4 1) == 0) = true:=beq_iff_eq.mpr c84
                have c84b1:((Go.bits .and .i64 a1_4 1) != 0) = false:=bne_eq_false_iff_eq.mpr c84
                clear c84
                replace H:=Option.bind_eq_some_iff.mp H
                obtain ⟨⟨t1182,t1183,t1184,t1185,t1186,t1187,t1188⟩,A850,H⟩:=H
                try dsimp only at H
                have A85:=aMk A850
                clear A850
                obtain ⟨y1189,hy1189⟩:∃ y_:List (S53),y_ = (([(⟨t1182,t1183,t1184,t1185,t1186,t1187,t1188⟩:S53)]:List (S53))):=⟨_,rfl⟩
                replace H:(some (t1170,t1171,t1172,t1173,t1174,t1175,t1176,t1181,t1178 ++ a1_6,t1179,t1180,y1189)) = some (r1,r2,r3,r4,r5,r6,r7,r8,r9,r10,r11,r12):=by first|(rw [hy1189];with_reducible exact H)|(have H2_:=(Option.bind_some _ _).symm.trans H;rw [hy1189];with_reducible exact H2_)|(have H2_:=(Option.bind_some _ _).symm.trans H;with_reducible exact H2_) | with_reducible exact H|(rw [hy1189];exact H)|exact H
                have Ny1189:=aMk hy1189
                clear hy1189
                simp only [Option.some.injEq,Prod.mk.injEq] at H
                obtain ⟨rfl,rfl,rfl,rfl,rfl,rfl,rfl,rfl,rfl,rfl,rfl,rfl⟩:=H
                have hnb86:=NB1143_1144.out
                have hnc86:=NB1144_1143.out
                have hnb87:=NB1143_1145.out
                have hnc87:=NB1145_1143.out
                obtain ⟨Z88_0,Z88_1,Z88_2,Z88_3,Z88_4,Z88_5,Z88_6,Z88_7,Z88_8,Z88_9,Z88_10,Y88_0,Y88_1,Y88_2,Y88_3,Y88_4,Y88_5,Y88_6,Y88_7,Y88_8,Y88_9,Y88_10⟩:=bC11 BK1143.out
                have hnb89:=NB1144_1145.out
                have hnc89:=NB1145_1144.out
                obtain ⟨Z90_0,Z90_1,Z90_2,Z90_3,Z90_4,Z90_5,Z90_6,Y90_0,Y90_1,Y90_2,Y90_3,Y90_4,Y90_5,Y90_6⟩:=bC7 BK1144.out
                try go_wp2_with (first|((with_reducible refine gate_callee (f:=70) rfl ?_);refine gLs 117 Try.func70 #[.int .i64 (wrap64 (t1177 + (a1_6.size:Int)))] ?_;(with_reducible refine (spec_l10Seq.calls (wrap64 (t1177 + (a1_6.size:Int))) t1181 _ A83.out).mono ?_);rintro e w' ⟨rfl,⟨nd,rfl⟩⟩;refine ⟨_,rfl,?_⟩))
                (try (repeat rw [show ∀ (w_:World) (n_:Nat) (a_:Addr) (v_:Value),(w_.drewN n_).setCell a_ v_ = (w_.setCell a_ v_).drewN n_ from fun _ _ _ _ => rfl]));(try (repeat rw [World.drewN_drewN]))
                have n0_:Aside0 (((wc.setCell ⟨gb1143,8,none⟩ (.string (t1178 ++ a1_6))).setCell ⟨gb1143,7,none⟩ (.int .i64 t1181)).heap[gb1143]? = some (.cells #[.string t1170,.int .i64 t1171,.int .i64 t1172,.int .i64 t1173,.int .i64 t1174,.int .i64 t1175,.int .i64 t1176,.int .i64 t1181,.string (t1178 ++ a1_6),.string t1179,.bool t1180] 34 (0,0))):=⟨by refine pB ?_;refine blk_put (cs:=#[.string t1170,.int .i64 t1171,.int .i64 t1172,.int .i64 t1173,.int .i64 t1174,.int .i64 t1175,.int .i64 t1176,.int .i64 t1177,.string (t1178 ++ a1_6),.string t1179,.bool t1180]) ?_ 7 _ rfl;refine pB ?_;refine blk_put (cs:=#[.string t1170,.int .i64 t1171,.int .i64 t1172,.int .i64 t1173,.int .i64 t1174,.int .i64 t1175,.int .i64 t1176,.int .i64 t1177,.string t1178,.string t1179,.bool t1180]) ?_ 8 _ rfl;refine pB ?_;exact BK1143.out⟩
                have n1_:Aside0 (((wc.setCell ⟨gb1143,8,none⟩ (.string (t1178 ++ a1_6))).setCell ⟨gb1143,7,none⟩ (.int .i64 t1181)).heap[gb1144]? = some (.cells #[.int .i64 a1_0,.int .i64 a1_1,.int .i64 a1_2,.int .i64 a1_3,.int .i64 a1_4,.int .i64 a1_5,.string a1_6] 53 (0,0))):=⟨by refine pB ?_;refine blk_far ?_ NB1144_1143.out _;refine pB ?_;refine blk_far ?_ NB1144_1143.out _;refine pB ?_;exact BK1144.out⟩
                have n2_:Aside0 (((wc.setCell ⟨gb1143,8,none⟩ (.string (t1178 ++ a1_6))).setCell ⟨gb1143,7,none⟩ (.int .i64 t1181)).heap[gb1145]? = some (.cells #[.string (⟨#[]⟩:ByteArray),.int .i64 0,.int .i64 0,.int .i64 0,.int .i64 0,.int .i64 0,.int .i64 0,.int .i64 0,.string (⟨#[]⟩:ByteArray),.string (⟨#[]⟩:ByteArray),.bool false] 34 (0,0))):=⟨by refine pB ?_;refine blk_far ?_ NB1145_1143.out _;refine pB ?_;refine blk_far ?_ NB1145_1143.out _;refine pB ?_;exact BK1145.out⟩
                have n3_:Aside0 (Below w.heap.size w ((wc.setCell ⟨gb1143,8,none⟩ (.string (t1178 ++ a1_6))).setCell ⟨gb1143,7,none⟩ (.int .i64 t1181))):=⟨bW⟩
                (try clear BK1143)
                (try clear BK1144)
                (try clear BK1145)
                (try clear HB)
                generalize ((wc.setCell ⟨gb1143,8,none⟩ (.string (t1178 ++ a1_6))).setCell ⟨gb1143,7,none⟩ (.int .i64 t1181)) = w91 at n0_ n1_ n2_ n3_ ⊢
                have BK1143:=n0_
                have BK1144:=n1_
                have BK1145:=n2_
                have HB:=n3_
                clear n0_ n1_ n2_ n3_
                (try (rw [drewN_self w91];generalize hq_:World.drewN w91 _ = w91;have n0_:Aside0 (w91.heap[gb1143]? = some (.cells #[.string t1170,.int .i64 t1171,.int .i64 t1172,.int .i64 t1173,.int .i64 t1174,.int .i64 t1175,.int .i64 t1176,.int .i64 t1181,.string (t1178 ++ a1_6),.string t1179,.bool t1180] 34 (0,0))):=⟨by rw [← hq_];exact (pB BK1143.out)⟩;have n1_:Aside0 (w91.heap[gb1144]? = some (.cells #[.int .i64 a1_0,.int .i64 a1_1,.int .i64 a1_2,.int .i64 a1_3,.int .i64 a1_4,.int .i64 a1_5,.string a1_6] 53 (0,0))):=⟨by rw [← hq_];exact (pB BK1144.out)⟩;have n2_:Aside0 (w91.heap[gb1145]? = some (.cells #[.string (⟨#[]⟩:ByteArray),.int .i64 0,.int .i64 0,.int .i64 0,.int .i64 0,.int .i64 0,.int .i64 0,.int .i64 0,.string (⟨#[]⟩:ByteArray),.string (⟨#[]⟩:ByteArray),.bool false] 34 (0,0))):=⟨by rw [← hq_];exact (pB BK1145.out)⟩;have n3_:Aside0 (Below w.heap.size w w91):=⟨by rw [← hq_];exact bW⟩;clear BK1143 BK1144 BK1145 HB hq_;have BK1143:=n0_;have BK1144:=n1_;have BK1145:=n2_;have HB:=n3_;clear n0_ n1_ n2_ n3_))
                replace BK1143:=aMk (bDr BK1143.out)
                replace BK1144:=aMk (bDr BK1144.out)
                replace BK1145:=aMk (bDr BK1145.out)
                replace HB:=aMk (bw1 HB.out)
                refine start_ (n:=8) (S:=fun w' => True) (ds:=[]) #[false,false,false,false,false,false,false,false] (by kernel_rfl) rfl rfl trivial (fun hHeld => ?_);refine with_tabW spec_l10Take.tab28 spec_l10Take.bits28 (fun HT_ HW_ => ?_)
                generalize w91.drew = w92 at BK1143 BK1144 BK1145 HB hHeld ⊢
                refine pU (i:=2) (N:=some 130) #[false,false,true,false,false,false,false,false] (any_of HT_.out (by kernel_rfl)) ?_
                refine inv_at [0,1,3,4,5,6,7] (fun a0_ b a w' => ∃ (v1190:Value) (m7_:Value),a = putSel a0_ b [(0,128,.agg #[.string t1170,.int .i64 t1171,.int .i64 t1172,.int .i64 t1173,.int .i64 t1174,.int .i64 t1175,.int .i64 t1176,.int .i64 t1181,.string (t1178 ++ a1_6),.string t1179,.bool t1180]),(1,129,.agg #[.string t1170,.int .i64 t1171,.int .i64 t1172,.int .i64 t1173,.int .i64 t1174,.int .i64 t1175,.int .i64 t1176,.int .i64 t1181,.string (t1178 ++ a1_6),.string t1179,.bool t1180]),(3,131,.int .i64 t1176),(4,132,.agg #[.int .i64 t1182,.int .i64 t1183,.int .i64 t1184,.int .i64 t1185,.int .i64 t1186,.int .i64 t1187,.string t1188]),(5,133,v1190),(7,5,m7_)]∧(w'.heap[gb1143]? = some (.cells #[.string t1170,.int .i64 t1171,.int .i64 t1172,.int .i64 t1173,.int .i64 t1174,.int .i64 t1175,.int .i64 t1176,.int .i64 t1181,.string (t1178 ++ a1_6),.string t1179,.bool t1180] 34 (0,0)))∧(w'.heap[gb1144]? = some (.cells #[.int .i64 a1_0,.int .i64 a1_1,.int .i64 a1_2,.int .i64 a1_3,.int .i64 a1_4,.int .i64 a1_5,.string a1_6] 53 (0,0)))∧(b 6 = false→w'.heap[gb1145]? = some (.cells #[.string (⟨#[]⟩:ByteArray),.int .i64 0,.int .i64 0,.int .i64 0,.int .i64 0,.int .i64 0,.int .i64 0,.int .i64 0,.string (⟨#[]⟩:ByteArray),.string (⟨#[]⟩:ByteArray),.bool false] 34 (0,0)))∧(Below w.heap.size w w')∧(b 5 = true→Kd.R k53 53 w' w.heap.size (fun k_ => k_ ≠ gb1144) v1190 y1189)∧(b 6 = true→w'.heap[gb1145]? = some (.cells #[.string t1170,.int .i64 t1171,.int .i64 t1172,.int .i64 t1173,.int .i64 t1174,.int .i64 t1175,.int .i64 t1176,.int .i64 t1181,.string (t1178 ++ a1_6),.string t1179,.bool t1180] 34 (0,0)))∧(b 7 = true→(m7_:Value) = v1190)) HT_.out HW_.out (by kernel_rfl) (by kernel_rfl) ?_ ?_ ?_
                ·exact ⟨.bool false,.bool false,by simp only [putSel,Bool.false_eq_true,if_false],BK1143.out,BK1144.out,fun _ => BK1145.out,HB.out,fun h_ => absurd h_ (by decide),fun h_ => absurd h_ (by decide),fun h_ => absurd h_ (by decide)⟩
                ·skip
                 clear BK1143 BK1144 BK1145 HB
                 refine steps_cons ?_ ?_
                 ·rintro b a w' ⟨v1190,m7_,ha,Q_BK1143,Q_BK1144,Q_BK1145,Q_HB,Q_HO1191,Q_BK1145_e6,Q_X7_⟩ hb_ hon hoff
                  refine ⟨_,rfl,fun K hK => ?_⟩
                  have e2:a.tmps[2]? = some (.pointer (some ⟨gb1143,0,none⟩)):=by rw [ha];exact (putSel_off rfl).trans rfl
                  replace ha:=aMk ha
                  have BK1143:=aMk Q_BK1143
                  have BK1144:=aMk Q_BK1144
                  have BK1145:=aMk (Q_BK1145 (hoff 6 (by kernel_rfl)))
                  have HB:=aMk Q_HB
                  have hc0_:w'.cell? ⟨gb1143,0,none⟩ = some (.string t1170):=(bCe BK1143.out 0).trans rfl
                  have hc1_:w'.cell? ⟨gb1143,1,none⟩ = some (.int .i64 t1171):=(bCe BK1143.out 1).trans rfl
                  have hc2_:w'.cell? ⟨gb1143,2,none⟩ = some (.int .i64 t1172):=(bCe BK1143.out 2).trans rfl
                  have hc3_:w'.cell? ⟨gb1143,3,none⟩ = some (.int .i64 t1173):=(bCe BK1143.out 3).trans rfl
                  have hc4_:w'.cell? ⟨gb1143,4,none⟩ = some (.int .i64 t1174):=(bCe BK1143.out 4).trans rfl
                  have hc5_:w'.cell? ⟨gb1143,5,none⟩ = some (.int .i64 t1175):=(bCe BK1143.out 5).trans rfl
                  have hc6_:w'.cell? ⟨gb1143,6,none⟩ = some (.int .i64 t1176):=(bCe BK1143.out 6).trans rfl
                  have hc7_:w'.cell? ⟨gb1143,7,none⟩ = some (.int .i64 t1181):=(bCe BK1143.out 7).trans rfl
                  have hc8_:w'.cell? ⟨gb1143,8,none⟩ = some (.string (t1178 ++ a1_6)):=(bCe BK1143.out 8).trans rfl
                  have hc9_:w'.cell? ⟨gb1143,9,none⟩ = some (.string t1179):=(bCe BK1143.out 9).trans rfl
                  have hc10_:w'.cell? ⟨gb1143,10,none⟩ = some (.bool t1180):=(bCe BK1143.out 10).trans rfl
                  refine value_ (w1:=w') (v:=.agg #[.string t1170,.int .i64 t1171,.int .i64 t1172,.int .i64 t1173,.int .i64 t1174,.int .i64 t1175,.int .i64 t1176,.int .i64 t1181,.string (t1178 ++ a1_6),.string t1179,.bool t1180]) (by rfl) rfl ?_ ?_
                  ·go_simp
                   (try simp only [i64_w])
                   try rfl
                  refine hK.out _ _ ⟨v1190,m7_,(by rw [ha.out];exact putSel_upk 0 hb_ rfl rfl rfl),Q_BK1143,Q_BK1144,Q_BK1145,Q_HB,Q_HO1191,fun h0_ => absurd ((hoff 6 (by kernel_rfl)).symm.trans h0_) (by decide),fun h0_ => absurd ((hoff 7 (by kernel_rfl)).symm.trans h0_) (by decide)⟩
                 refine steps_cons ?_ ?_
                 ·rintro b a w' ⟨v1190,m7_,ha,Q_BK1143,Q_BK1144,Q_BK1145,Q_HB,Q_HO1191,Q_BK1145_e6,Q_X7_⟩ hb_ hon hoff
                  refine ⟨_,rfl,fun K hK => ?_⟩
                  have e2:a.tmps[2]? = some (.pointer (some ⟨gb1143,0,none⟩)):=by rw [ha];exact (putSel_off rfl).trans rfl
                  replace ha:=aMk ha
                  have BK1143:=aMk Q_BK1143
                  have BK1144:=aMk Q_BK1144
                  have BK1145:=aMk (Q_BK1145 (hoff 6 (by kernel_rfl)))
                  have HB:=aMk Q_HB
                  have hc0_:w'.cell? ⟨gb1143,0,none⟩ = some (.string t1170):=(bCe BK1143.out 0).trans rfl
                  have hc1_:w'.cell? ⟨gb1143,1,none⟩ = some (.int .i64 t1171):=(bCe BK1143.out 1).trans rfl
                  have hc2_:w'.cell? ⟨gb1143,2,none⟩ = some (.int .i64 t1172):=(bCe BK1143.out 2).trans rfl
                  have hc3_:w'.cell? ⟨gb1143,3,none⟩ = some (.int .i64 t1173):=(bCe BK1143.out 3).trans rfl
                  have hc4_:w'.cell? ⟨gb1143,4,none⟩ = some (.int .i64 t1174):=(bCe BK1143.out 4).trans rfl
                  have hc5_:w'.cell? ⟨gb1143,5,none⟩ = some (.int .i64 t1175):=(bCe BK1143.out 5).trans rfl
                  have hc6_:w'.cell? ⟨gb1143,6,none⟩ = some (.int .i64 t1176):=(bCe BK1143.out 6).trans rfl
                  have hc7_:w'.cell? ⟨gb1143,7,none⟩ = some (.int .i64 t1181):=(bCe BK1143.out 7).trans rfl
                  have hc8_:w'.cell? ⟨gb1143,8,none⟩ = some (.string (t1178 ++ a1_6)):=(bCe BK1143.out 8).trans rfl
                  have hc9_:w'.cell? ⟨gb1143,9,none⟩ = some (.string t1179):=(bCe BK1143.out 9).trans rfl
                  have hc10_:w'.cell? ⟨gb1143,10,none⟩ = some (.bool t1180):=(bCe BK1143.out 10).trans rfl
                  refine value_ (w1:=w') (v:=.agg #[.string t1170,.int .i64 t1171,.int .i64 t1172,.int .i64 t1173,.int .i64 t1174,.int .i64 t1175,.int .i64 t1176,.int .i64 t1181,.string (t1178 ++ a1_6),.string t1179,.bool t1180]) (by rfl) rfl ?_ ?_
                  ·go_simp
                   (try simp only [i64_w])
                   try rfl
                  refine hK.out _ _ ⟨v1190,m7_,(by rw [ha.out];exact putSel_upk 1 hb_ rfl rfl rfl),Q_BK1143,Q_BK1144,Q_BK1145,Q_HB,fun h0_ => absurd ((hoff 5 (by kernel_rfl)).symm.trans h0_) (by decide),fun h0_ => absurd ((hoff 6 (by kernel_rfl)).symm.trans h0_) (by decide),fun h0_ => absurd ((hoff 7 (by kernel_rfl)).symm.trans h0_) (by decide)⟩
                 refine steps_cons ?_ ?_
                 ·rintro b a w' ⟨v1190,m7_,ha,Q_BK1143,Q_BK1144,Q_BK1145,Q_HB,Q_HO1191,Q_BK1145_e6,Q_X7_⟩ hb_ hon hoff
                  refine ⟨_,rfl,fun K hK => ?_⟩
                  have e130:a.tmps[130]? = some (.pointer (some ⟨gb1143,6,none⟩)):=by rw [ha];exact (putSel_off rfl).trans rfl
                  replace ha:=aMk ha
                  have BK1143:=aMk Q_BK1143
                  have BK1144:=aMk Q_BK1144
                  have BK1145:=aMk (Q_BK1145 (hoff 6 (by kernel_rfl)))
                  have HB:=aMk Q_HB
                  have hc0_:w'.cell? ⟨gb1143,0,none⟩ = some (.string t1170):=(bCe BK1143.out 0).trans rfl
                  have hc1_:w'.cell? ⟨gb1143,1,none⟩ = some (.int .i64 t1171):=(bCe BK1143.out 1).trans rfl
                  have hc2_:w'.cell? ⟨gb1143,2,none⟩ = some (.int .i64 t1172):=(bCe BK1143.out 2).trans rfl
                  have hc3_:w'.cell? ⟨gb1143,3,none⟩ = some (.int .i64 t1173):=(bCe BK1143.out 3).trans rfl
                  have hc4_:w'.cell? ⟨gb1143,4,none⟩ = some (.int .i64 t1174):=(bCe BK1143.out 4).trans rfl
                  have hc5_:w'.cell? ⟨gb1143,5,none⟩ = some (.int .i64 t1175):=(bCe BK1143.out 5).trans rfl
                  have hc6_:w'.cell? ⟨gb1143,6,none⟩ = some (.int .i64 t1176):=(bCe BK1143.out 6).trans rfl
                  have hc7_:w'.cell? ⟨gb1143,7,none⟩ = some (.int .i64 t1181):=(bCe BK1143.out 7).trans rfl
                  have hc8_:w'.cell? ⟨gb1143,8,none⟩ = some (.string (t1178 ++ a1_6)):=(bCe BK1143.out 8).trans rfl
                  have hc9_:w'.cell? ⟨gb1143,9,none⟩ = some (.string t1179):=(bCe BK1143.out 9).trans rfl
                  have hc10_:w'.cell? ⟨gb1143,10,none⟩ = some (.bool t1180):=(bCe BK1143.out 10).trans rfl
                  refine value_ (w1:=w') (v:=.int .i64 t1176) (by rfl) rfl ?_ ?_
                  ·go_simp
                   (try simp only [i64_w])
                   try rfl
                  refine hK.out _ _ ⟨v1190,m7_,(by rw [ha.out];exact putSel_upk 2 hb_ rfl rfl rfl),Q_BK1143,Q_BK1144,Q_BK1145,Q_HB,fun h0_ => absurd ((hoff 5 (by kernel_rfl)).symm.trans h0_) (by decide),fun h0_ => absurd ((hoff 6 (by kernel_rfl)).symm.trans h0_) (by decide),fun h0_ => absurd ((hoff 7 (by kernel_rfl)).symm.trans h0_) (by decide)⟩
                 refine steps_cons ?_ ?_
                 ·rintro b a w' ⟨v1190,m7_,ha,Q_BK1143,Q_BK1144,Q_BK1145,Q_HB,Q_HO1191,Q_BK1145_e6,Q_X7_⟩ hb_ hon hoff
                  refine ⟨_,rfl,fun K hK => ?_⟩
                  have e129:a.tmps[129]? = some (.agg #[.string t1170,.int .i64 t1171,.int .i64 t1172,.int .i64 t1173,.int .i64 t1174,.int .i64 t1175,.int .i64 t1176,.int .i64 t1181,.string (t1178 ++ a1_6),.string t1179,.bool t1180]):=by rw [ha];exact putSel_on (e:=(1,129,.agg #[.string t1170,.int .i64 t1171,.int .i64 t1172,.int .i64 t1173,.int .i64 t1174,.int .i64 t1175,.int .i64 t1176,.int .i64 t1181,.string (t1178 ++ a1_6),.string t1179,.bool t1180])) 1 rfl rfl (hon 1 (by kernel_rfl)) rfl
                  have e131:a.tmps[131]? = some (.int .i64 t1176):=by rw [ha];exact putSel_on (e:=(3,131,.int .i64 t1176)) 2 rfl rfl (hon 3 (by kernel_rfl)) rfl
                  replace ha:=aMk ha
                  have BK1143:=aMk Q_BK1143
                  have BK1144:=aMk Q_BK1144
                  have BK1145:=aMk (Q_BK1145 (hoff 6 (by kernel_rfl)))
                  have HB:=aMk Q_HB
                  refine goes_ Try.func111 (by kernel_rfl) rfl #[.agg #[.string t1170,.int .i64 t1171,.int .i64 t1172,.int .i64 t1173,.int .i64 t1174,.int .i64 t1175,.int .i64 t1176,.int .i64 t1181,.string (t1178 ++ a1_6),.string t1179,.bool t1180],.int .i64 t1176,.int .i64 16,.string (⟨#[]⟩:ByteArray)] (by rfl) rfl rfl (by first|(simp only [List.map_toArray,List.map_cons,List.map_nil,Act.eval,Array.getD_eq_getD_getElem?,Option.getD_some,e129,e131];done)|(simp only [List.map_toArray,List.map_cons,List.map_nil,Act.eval,Array.getD_eq_getD_getElem?,Option.getD_some,e129,e131];rfl)) ?_
                  with_reducible refine (spec_l10Reply.calls t1170 t1171 t1172 t1173 t1174 t1175 t1176 t1181 (t1178 ++ a1_6) t1179 t1180 t1176 16 (⟨#[]⟩:ByteArray) t1182 t1183 t1184 t1185 t1186 t1187 t1188 _ A85.out).mono ?_
                  rintro e w93 ⟨rfl,hb⟩
                  refine ⟨_,rfl,?_⟩
                  replace BK1143:=aMk (bkB BK1143.out hb)
                  replace BK1144:=aMk (bkB BK1144.out hb)
                  replace BK1145:=aMk (bkB BK1145.out hb)
                  replace HB:=aMk (bU hb)
                  (try clear hb)
                  (try clear hb2)
                  (try clear hk)
                  (try clear hi)
                  refine hK.out _ _ ⟨v1190,m7_,(by rw [ha.out];exact putSel_upk 3 hb_ rfl rfl rfl),(pB BK1143.out),(pB BK1144.out),fun _ => (pB BK1145.out),bW,fun h0_ => absurd ((hoff 5 (by kernel_rfl)).symm.trans h0_) (by decide),fun h0_ => absurd ((hoff 6 (by kernel_rfl)).symm.trans h0_) (by decide),fun h0_ => absurd ((hoff 7 (by kernel_rfl)).symm.trans h0_) (by decide)⟩
                 refine steps_cons ?_ ?_
                 ·rintro b a w' ⟨v1190,m7_,ha,Q_BK1143,Q_BK1144,Q_BK1145,Q_HB,Q_HO1191,Q_BK1145_e6,Q_X7_⟩ hb_ hon hoff
                  refine ⟨_,rfl,fun K hK => ?_⟩
                  have e132:a.tmps[132]? = some (.agg #[.int .i64 t1182,.int .i64 t1183,.int .i64 t1184,.int .i64 t1185,.int .i64 t1186,.int .i64 t1187,.string t1188]):=by rw [ha];exact putSel_on (e:=(4,132,.agg #[.int .i64 t1182,.int .i64 t1183,.int .i64 t1184,.int .i64 t1185,.int .i64 t1186,.int .i64 t1187,.string t1188])) 3 rfl rfl (hon 4 (by kernel_rfl)) rfl
                  replace ha:=aMk ha
                  have BK1143:=aMk Q_BK1143
                  have BK1144:=aMk Q_BK1144
                  have HB:=aMk Q_HB
                  refine Kd.R_lit_step k53 _ 53 ?hg (N:=133) ?hd (xs:=([(⟨t1182,t1183,t1184,t1185,t1186,t1187,t1188⟩:S53)]:List (S53))) (inner:=[.int .i64 t1182,.int .i64 t1183,.int .i64 t1184,.int .i64 t1185,.int .i64 t1186,.int .i64 t1187,.string t1188]) (ok:=fun _ => True) (okp:=fun _ => True) ?hr ?hp (fun _ hk => hk) trivial (Below.refl _ _) (Nat.le_refl _) (by simp) ?_;(case hd => rfl);(case hg => rfl);(case hr => first|(go_simp;done)|(go_simp;rfl));(case hp => exact (Reps.c7 (show Kd.M k53 _ _ _ (⟨t1182,t1183,t1184,t1185,t1186,t1187,t1188⟩:S53) [.int .i64 t1182,.int .i64 t1183,.int .i64 t1184,.int .i64 t1185,.int .i64 t1186,.int .i64 t1187,.string t1188] from (k53_mkM _ _ _ (⟨t1182,t1183,t1184,t1185,t1186,t1187,t1188⟩:S53) )) (Reps.none _ _)))
                  intro v1190 w95 ho96 hb hg_ hnew_
                  clear hg_ hnew_
                  (first|rw [← Ny1189.out] at ho96|(simp only [Int.reduceToNat] at ho96;rw [← Ny1189.out] at ho96))
                  have n0_:=aMk (Kd.R_lower (Kd.R_newB ho96 (g:=gb1144) (o:=.cells #[.int .i64 a1_0,.int .i64 a1_1,.int .i64 a1_2,.int .i64 a1_3,.int .i64 a1_4,.int .i64 a1_5,.string a1_6] 53 (0,0)) (pB BK1144.out)) (below_size bW))
                  have n1_:=aMk (bkB BK1143.out hb)
                  have n2_:=aMk (bkB BK1144.out hb)
                  have n4_:=aMk (bU hb)
                  have z_BK1145:=fun (h0_:b 6 = false) => (show w95.heap[gb1145]? = some (.cells #[.string (⟨#[]⟩:ByteArray),.int .i64 0,.int .i64 0,.int .i64 0,.int .i64 0,.int .i64 0,.int .i64 0,.int .i64 0,.string (⟨#[]⟩:ByteArray),.string (⟨#[]⟩:ByteArray),.bool false] 34 (0,0)) from by first|exact (blk_below (g:=gb1145) (o:=.cells #[.string (⟨#[]⟩:ByteArray),.int .i64 0,.int .i64 0,.int .i64 0,.int .i64 0,.int .i64 0,.int .i64 0,.int .i64 0,.string (⟨#[]⟩:ByteArray),.string (⟨#[]⟩:ByteArray),.bool false] 34 (0,0)) (by refine pB ?_;exact (Q_BK1145 h0_)) hb))
                  have z_BK1145_e6:=fun (h0_:b 6 = true) => (show w95.heap[gb1145]? = some (.cells #[.string t1170,.int .i64 t1171,.int .i64 t1172,.int .i64 t1173,.int .i64 t1174,.int .i64 t1175,.int .i64 t1176,.int .i64 t1181,.string (t1178 ++ a1_6),.string t1179,.bool t1180] 34 (0,0)) from by first|exact (blk_below (g:=gb1145) (o:=.cells #[.string t1170,.int .i64 t1171,.int .i64 t1172,.int .i64 t1173,.int .i64 t1174,.int .i64 t1175,.int .i64 t1176,.int .i64 t1181,.string (t1178 ++ a1_6),.string t1179,.bool t1180] 34 (0,0)) (by refine pB ?_;exact (Q_BK1145_e6 h0_)) hb))
                  clear BK1143
                  clear BK1144
                  clear HB
                  have HO1191:=n0_
                  have BK1143:=n1_
                  have BK1144:=n2_
                  have HB:=n4_
                  clear n0_ n1_ n2_ n4_
                  clear hb ho96
                  refine hK.out _ _ ⟨v1190,m7_,(by rw [ha.out];exact putSel_upk 4 hb_ rfl rfl rfl),(pB BK1143.out),(pB BK1144.out),z_BK1145,bW,fun _ => (kR (Kd.R_mono HO1191.out (fun _ hk => hk.2))),z_BK1145_e6,fun h0_ => absurd ((hoff 7 (by kernel_rfl)).symm.trans h0_) (by decide)⟩
                 refine steps_cons ?_ ?_
                 ·rintro b a w' ⟨v1190,m7_,ha,Q_BK1143,Q_BK1144,Q_BK1145,Q_HB,Q_HO1191,Q_BK1145_e6,Q_X7_⟩ hb_ hon hoff
                  refine ⟨_,rfl,fun K hK => ?_⟩
                  have e4:a.tmps[4]? = some (.pointer (some ⟨gb1145,0,none⟩)):=by rw [ha];exact (putSel_off rfl).trans rfl
                  have e128:a.tmps[128]? = some (.agg #[.string t1170,.int .i64 t1171,.int .i64 t1172,.int .i64 t1173,.int .i64 t1174,.int .i64 t1175,.int .i64 t1176,.int .i64 t1181,.string (t1178 ++ a1_6),.string t1179,.bool t1180]):=by rw [ha];exact putSel_on (e:=(0,128,.agg #[.string t1170,.int .i64 t1171,.int .i64 t1172,.int .i64 t1173,.int .i64 t1174,.int .i64 t1175,.int .i64 t1176,.int .i64 t1181,.string (t1178 ++ a1_6),.string t1179,.bool t1180])) 0 rfl rfl (hon 0 (by kernel_rfl)) rfl
                  replace ha:=aMk ha
                  have BK1143:=aMk Q_BK1143
                  have BK1144:=aMk Q_BK1144
                  have BK1145:=aMk (Q_BK1145 hb_)
                  have HB:=aMk Q_HB
                  have hs95:w'.cell? ⟨gb1145,0,none⟩ = some (.string (⟨#[]⟩:ByteArray)):=(bCe BK1145.out 0).trans rfl
                  have hfs95:=bFr BK1145.out 0
                  have hns95_0:=NB1143_1145.out
                  have hns95_1:=NB1144_1145.out
                  have hms95_0:=NB1145_1143.out
                  have hms95_1:=NB1145_1144.out
                  have hs96:w'.cell? ⟨gb1145,1,none⟩ = some (.int .i64 0):=(bCe BK1145.out 1).trans rfl
                  have hfs96:=bFr BK1145.out 1
                  have hns96_0:=NB1143_1145.out
                  have hns96_1:=NB1144_1145.out
                  have hms96_0:=NB1145_1143.out
                  have hms96_1:=NB1145_1144.out
                  have hs97:w'.cell? ⟨gb1145,2,none⟩ = some (.int .i64 0):=(bCe BK1145.out 2).trans rfl
                  have hfs97:=bFr BK1145.out 2
                  have hns97_0:=NB1143_1145.out
                  have hns97_1:=NB1144_1145.out
                  have hms97_0:=NB1145_1143.out
                  have hms97_1:=NB1145_1144.out
                  have hs98:w'.cell? ⟨gb1145,3,none⟩ = some (.int .i64 0):=(bCe BK1145.out 3).trans rfl
                  have hfs98:=bFr BK1145.out 3
                  have hns98_0:=NB1143_1145.out
                  have hns98_1:=NB1144_1145.out
                  have hms98_0:=NB1145_1143.out
                  have hms98_1:=NB1145_1144.out
                  have hs99:w'.cell? ⟨gb1145,4,none⟩ = some (.int .i64 0):=(bCe BK1145.out 4).trans rfl
                  have hfs99:=bFr BK1145.out 4
                  have hns99_0:=NB1143_1145.out
                  have hns99_1:=NB1144_1145.out
                  have hms99_0:=NB1145_1143.out
                  have hms99_1:=NB1145_1144.out
                  have hs100:w'.cell? ⟨gb1145,5,none⟩ = some (.int .i64 0):=(bCe BK1145.out 5).trans rfl
                  have hfs100:=bFr BK1145.out 5
                  have hns100_0:=NB1143_1145.out
                  have hns100_1:=NB1144_1145.out
                  have hms100_0:=NB1145_1143.out
                  have hms100_1:=NB1145_1144.out
                  have hs101:w'.cell? ⟨gb1145,6,none⟩ = some (.int .i64 0):=(bCe BK1145.out 6).trans rfl
                  have hfs101:=bFr BK1145.out 6
                  have hns101_0:=NB1143_1145.out
                  have hns101_1:=NB1144_1145.out
                  have hms101_0:=NB1145_1143.out
                  have hms101_1:=NB1145_1144.out
                  have hs102:w'.cell? ⟨gb1145,7,none⟩ = some (.int .i64 0):=(bCe BK1145.out 7).trans rfl
                  have hfs102:=bFr BK1145.out 7
                  have hns102_0:=NB1143_1145.out
                  have hns102_1:=NB1144_1145.out
                  have hms102_0:=NB1145_1143.out
                  have hms102_1:=NB1145_1144.out
                  have hs103:w'.cell? ⟨gb1145,8,none⟩ = some (.string (⟨#[]⟩:ByteArray)):=(bCe BK1145.out 8).trans rfl
                  have hfs103:=bFr BK1145.out 8
                  have hns103_0:=NB1143_1145.out
                  have hns103_1:=NB1144_1145.out
                  have hms103_0:=NB1145_1143.out
                  have hms103_1:=NB1145_1144.out
                  have hs104:w'.cell? ⟨gb1145,9,none⟩ = some (.string (⟨#[]⟩:ByteArray)):=(bCe BK1145.out 9).trans rfl
                  have hfs104:=bFr BK1145.out 9
                  have hns104_0:=NB1143_1145.out
                  have hns104_1:=NB1144_1145.out
                  have hms104_0:=NB1145_1143.out
                  have hms104_1:=NB1145_1144.out
                  have hs105:w'.cell? ⟨gb1145,10,none⟩ = some (.bool false):=(bCe BK1145.out 10).trans rfl
                  have hfs105:=bFr BK1145.out 10
                  have hns105_0:=NB1143_1145.out
                  have hns105_1:=NB1144_1145.out
                  have hms105_0:=NB1145_1143.out
                  have hms105_1:=NB1145_1144.out
                  refine skip_ (w1:=?_) (by rfl) rfl ?_ ?_
                  rotate_left
                  ·go_simp
                   rfl
                  refine hK.out _ _ ⟨v1190,m7_,(by rw [ha.out];exact putSel_none (v:=undef) rfl),(fB BK1143.out),(fB BK1144.out),fun h0_ => absurd ((up_self b 6).symm.trans h0_) (by decide),bW,fun h0_ => (kR (Kd.R_mono (Kd.R_far (p:=⟨gb1145,10,none⟩) (Kd.R_far (p:=⟨gb1145,9,none⟩) (Kd.R_far (p:=⟨gb1145,8,none⟩) (Kd.R_far (p:=⟨gb1145,7,none⟩) (Kd.R_far (p:=⟨gb1145,6,none⟩) (Kd.R_far (p:=⟨gb1145,5,none⟩) (Kd.R_far (p:=⟨gb1145,4,none⟩) (Kd.R_far (p:=⟨gb1145,3,none⟩) (Kd.R_far (p:=⟨gb1145,2,none⟩) (Kd.R_far (p:=⟨gb1145,1,none⟩) (Kd.R_far (p:=⟨gb1145,0,none⟩) (Kd.R_types (Q_HO1191 h0_) BK1145.out (by decide)) (fun _ hk => hk.2) (.string t1170)) (fun _ hk => hk.2) (.int .i64 t1171)) (fun _ hk => hk.2) (.int .i64 t1172)) (fun _ hk => hk.2) (.int .i64 t1173)) (fun _ hk => hk.2) (.int .i64 t1174)) (fun _ hk => hk.2) (.int .i64 t1175)) (fun _ hk => hk.2) (.int .i64 t1176)) (fun _ hk => hk.2) (.int .i64 t1181)) (fun _ hk => hk.2) (.string (t1178 ++ a1_6))) (fun _ hk => hk.2) (.string t1179)) (fun _ hk => hk.2) (.bool t1180)) (fun _ hk => hk.1))),fun _ => (by refine pB ?_;refine blk_put (cs:=#[.string t1170,.int .i64 t1171,.int .i64 t1172,.int .i64 t1173,.int .i64 t1174,.int .i64 t1175,.int .i64 t1176,.int .i64 t1181,.string (t1178 ++ a1_6),.string t1179,.bool false]) ?_ 10 _ rfl;refine pB ?_;refine blk_put (cs:=#[.string t1170,.int .i64 t1171,.int .i64 t1172,.int .i64 t1173,.int .i64 t1174,.int .i64 t1175,.int .i64 t1176,.int .i64 t1181,.string (t1178 ++ a1_6),.string (⟨#[]⟩:ByteArray),.bool false]) ?_ 9 _ rfl;refine pB ?_;refine blk_put (cs:=#[.string t1170,.int .i64 t1171,.int .i64 t1172,.int .i64 t1173,.int .i64 t1174,.int .i64 t1175,.int .i64 t1176,.int .i64 t1181,.string (⟨#[]⟩:ByteArray),.string (⟨#[]⟩:ByteArray),.bool false]) ?_ 8 _ rfl;refine pB ?_;refine blk_put (cs:=#[.string t1170,.int .i64 t1171,.int .i64 t1172,.int .i64 t1173,.int .i64 t1174,.int .i64 t1175,.int .i64 t1176,.int .i64 0,.string (⟨#[]⟩:ByteArray),.string (⟨#[]⟩:ByteArray),.bool false]) ?_ 7 _ rfl;refine pB ?_;refine blk_put (cs:=#[.string t1170,.int .i64 t1171,.int .i64 t1172,.int .i64 t1173,.int .i64 t1174,.int .i64 t1175,.int .i64 0,.int .i64 0,.string (⟨#[]⟩:ByteArray),.string (⟨#[]⟩:ByteArray),.bool false]) ?_ 6 _ rfl;refine pB ?_;refine blk_put (cs:=#[.string t1170,.int .i64 t1171,.int .i64 t1172,.int .i64 t1173,.int .i64 t1174,.int .i64 0,.int .i64 0,.int .i64 0,.string (⟨#[]⟩:ByteArray),.string (⟨#[]⟩:ByteArray),.bool false]) ?_ 5 _ rfl;refine pB ?_;refine blk_put (cs:=#[.string t1170,.int .i64 t1171,.int .i64 t1172,.int .i64 t1173,.int .i64 0,.int .i64 0,.int .i64 0,.int .i64 0,.string (⟨#[]⟩:ByteArray),.string (⟨#[]⟩:ByteArray),.bool false]) ?_ 4 _ rfl;refine pB ?_;refine blk_put (cs:=#[.string t1170,.int .i64 t1171,.int .i64 t1172,.int .i64 0,.int .i64 0,.int .i64 0,.int .i64 0,.int .i64 0,.string (⟨#[]⟩:ByteArray),.string (⟨#[]⟩:ByteArray),.bool false]) ?_ 3 _ rfl;refine pB ?_;refine blk_put (cs:=#[.string t1170,.int .i64 t1171,.int .i64 0,.int .i64 0,.int .i64 0,.int .i64 0,.int .i64 0,.int .i64 0,.string (⟨#[]⟩:ByteArray),.string (⟨#[]⟩:ByteArray),.bool false]) ?_ 2 _ rfl;refine pB ?_;refine blk_put (cs:=#[.string t1170,.int .i64 0,.int .i64 0,.int .i64 0,.int .i64 0,.int .i64 0,.int .i64 0,.int .i64 0,.string (⟨#[]⟩:ByteArray),.string (⟨#[]⟩:ByteArray),.bool false]) ?_ 1 _ rfl;refine pB ?_;refine blk_put (cs:=#[.string (⟨#[]⟩:ByteArray),.int .i64 0,.int .i64 0,.int .i64 0,.int .i64 0,.int .i64 0,.int .i64 0,.int .i64 0,.string (⟨#[]⟩:ByteArray),.string (⟨#[]⟩:ByteArray),.bool false]) ?_ 0 _ rfl;refine pB ?_;exact BK1145.out),fun h0_ => absurd ((hoff 7 (by kernel_rfl)).symm.trans h0_) (by decide)⟩
                 refine steps_cons ?_ ?_
                 ·rintro b a w' ⟨v1190,m7_,ha,Q_BK1143,Q_BK1144,Q_BK1145,Q_HB,Q_HO1191,Q_BK1145_e6,Q_X7_⟩ hb_ hon hoff
                  refine ⟨_,rfl,fun K hK => ?_⟩
                  have e133:a.tmps[133]? = some (v1190):=by rw [ha];exact putSel_on (e:=(5,133,v1190)) 4 rfl rfl (hon 5 (by kernel_rfl)) rfl
                  replace ha:=aMk ha
                  have BK1143:=aMk Q_BK1143
                  have BK1144:=aMk Q_BK1144
                  have HB:=aMk Q_HB
                  have HO1191:=aMk (Q_HO1191 (hon 5 (by kernel_rfl)))
                  have BK1145:=aMk (Q_BK1145_e6 (hon 6 (by kernel_rfl)))
                  refine value_ (w1:=w') (v:=v1190) (by rfl) rfl ?_ ?_
                  ·go_simp
                   (try simp only [i64_w])
                   try rfl
                  refine hK.out _ _ ⟨v1190,(v1190),(by rw [ha.out];exact putSel_upk 5 hb_ rfl rfl rfl),Q_BK1143,Q_BK1144,fun h0_ => absurd ((hon 6 (by kernel_rfl)).symm.trans h0_) (by decide),Q_HB,Q_HO1191,Q_BK1145_e6,fun _ => rfl⟩
                 exact steps_nil
                rintro b a w107 hall ⟨v1190,m7_,ha,Q_BK1143,Q_BK1144,Q_BK1145,Q_HB,Q_HO1191,Q_BK1145_e6,Q_X7_⟩
                clear BK1143 BK1144 BK1145 HB
                have hb0_:=hall 0 (by kernel_rfl)
                have hb1_:=hall 1 (by kernel_rfl)
                have hb3_:=hall 3 (by kernel_rfl)
                have hb4_:=hall 4 (by kernel_rfl)
                have hb5_:=hall 5 (by kernel_rfl)
                have hb6_:=hall 6 (by kernel_rfl)
                have hb7_:=hall 7 (by kernel_rfl)
                subst ha
                obtain rfl:=Q_X7_ hb7_
                simp only [putSel,hb0_,hb1_,hb3_,hb4_,hb5_,hb6_,hb7_,if_true,Act.put,List.setIfInBounds_toArray,List.set_cons_zero,List.set_cons_succ]
                have BK1143:=aMk Q_BK1143
                clear Q_BK1143
                have BK1144:=aMk Q_BK1144
                clear Q_BK1144
                clear Q_BK1145
                have HB:=aMk Q_HB
                clear Q_HB
                have HO1191:=aMk (Q_HO1191 hb5_)
                clear Q_HO1191
                have BK1145:=aMk (Q_BK1145_e6 hb6_)
                clear Q_BK1145_e6
                clear hall hb0_ hb1_ hb3_ hb4_ hb5_ hb6_ hb7_
                try go_wp2
                refine bodyPost_ret (results_ct rfl _ _ gb1145 34 #[.string t1170,.int .i64 t1171,.int .i64 t1172,.int .i64 t1173,.int .i64 t1174,.int .i64 t1175,.int .i64 t1176,.int .i64 t1181,.string (t1178 ++ a1_6),.string t1179,.bool t1180] (0,0) _ rfl (pB BK1145.out) Try.underlying34 rfl (by kernel_rfl)) rfl ?_
                exact ⟨_,eRf,kR (Kd.R_mono HO1191.out (fun _ hk => trivial)),bW⟩
               ·rw [if_neg c84] at H
                have c84b0:((Go.bits .and .i64 a1_4 1) == 0) = false:=beq_eq_false_iff_ne.mpr c84
                have c84b1:((Go.bits .and .i64 a1_4 1) != 0) = true:=bne_iff_ne.mpr c84
                replace H:=Option.bind_eq_some_iff.mp H
                obtain ⟨t1192,A1080,H⟩:=H
                try dsimp only at H
                have A108:=aMk A1080
                clear A1080
                replace H:=Option.bind_eq_some_iff.mp H
                obtain ⟨⟨t1193,t1194,t1195,t1196,t1197,t1198,t1199⟩,A1090,H⟩:=H
                try dsimp only at H
                have A109:=aMk A1090
                clear A1090
                obtain ⟨y1200,hy1200⟩:∃ y_:List (S53),y_ = (([(⟨t1193,t1194,t1195,t1196,t1197,t1198,t1199⟩:S53)]:List (S53))):=⟨_,rfl⟩
                replace H:(some (t1170,t1171,t1172,t1173,t1174,t1175,t1176,t1192,t1178 ++ a1_6,t1179,t1180,y1200)) = some (r1,r2,r3,r4,r5,r6,r7,r8,r9,r10,r11,r12):=by first|(rw [hy1200];with_reducible exact H)|(have H2_:=(Option.bind_some _ _).symm.trans H;rw [hy1200];with_reducible exact H2_)|(have H2_:=(Option.bind_some _ _).symm.trans H;with_reducible exact H2_) | with_reducible exact H|(rw [hy1200];exact H)|exact H
                have Ny1200:=aMk hy1200
                clear hy1200
                simp only [Option.some.injEq,Prod.mk.injEq] at H
                obtain ⟨rfl,rfl,rfl,rfl,rfl,rfl,rfl,rfl,rfl,rfl,rfl,rfl⟩:=H
                have hnb110:=NB1143_1144.out
                have hnc110:=NB1144_1143.out
                have hnb111:=NB1143_1145.out
                have hnc111:=NB1145_1143.out
                obtain ⟨Z112_0,Z112_1,Z112_2,Z112_3,Z112_4,Z112_5,Z112_6,Z112_7,Z112_8,Z112_9,Z112_10,Y112_0,Y112_1,Y112_2,Y112_3,Y112_4,Y112_5,Y112_6,Y112_7,Y112_8,Y112_9,Y112_10⟩:=bC11 BK1143.out
                have hnb113:=NB1144_1145.out
                have hnc113:=NB1145_1144.out
                obtain ⟨Z114_0,Z114_1,Z114_2,Z114_3,Z114_4,Z114_5,Z114_6,Y114_0,Y114_1,Y114_2,Y114_3,Y114_4,Y114_5,Y114_6⟩:=bC7 BK1144.out
                try go_wp2_with (first|((with_reducible refine gate_callee (f:=70) rfl ?_);refine gLs 117 Try.func70 #[.int .i64 (wrap64 (t1177 + (a1_6.size:Int)))] ?_;(with_reducible refine (spec_l10Seq.calls (wrap64 (t1177 + (a1_6.size:Int))) t1181 _ A83.out).mono ?_);rintro e w' ⟨rfl,⟨nd,rfl⟩⟩;refine ⟨_,rfl,?_⟩)|((with_reducible refine gate_callee (f:=70) rfl ?_);refine gLs 126 Try.func70 #[.int .i64 (wrap64 (t1181 + 1))] ?_;(with_reducible refine (spec_l10Seq.calls (wrap64 (t1181 + 1)) t1192 _ A108.out).mono ?_);rintro e w' ⟨rfl,⟨nd,rfl⟩⟩;refine ⟨_,rfl,?_⟩))
                (try (repeat rw [show ∀ (w_:World) (n_:Nat) (a_:Addr) (v_:Value),(w_.drewN n_).setCell a_ v_ = (w_.setCell a_ v_).drewN n_ from fun _ _ _ _ => rfl]));(try (repeat rw [World.drewN_drewN]))
                have n0_:Aside0 ((((wc.setCell ⟨gb1143,8,none⟩ (.string (t1178 ++ a1_6))).setCell ⟨gb1143,7,none⟩ (.int .i64 t1181)).setCell ⟨gb1143,7,none⟩ (.int .i64 t1192)).heap[gb1143]? = some (.cells #[.string t1170,.int .i64 t1171,.int .i64 t1172,.int .i64 t1173,.int .i64 t1174,.int .i64 t1175,.int .i64 t1176,.int .i64 t1192,.string (t1178 ++ a1_6),.string t1179,.bool t1180] 34 (0,0))):=⟨by refine pB ?_;refine blk_put (cs:=#[.string t1170,.int .i64 t1171,.int .i64 t1172,.int .i64 t1173,.int .i64 t1174,.int .i64 t1175,.int .i64 t1176,.int .i64 t1181,.string (t1178 ++ a1_6),.string t1179,.bool t1180]) ?_ 7 _ rfl;refine pB ?_;refine blk_put (cs:=#[.string t1170,.int .i64 t1171,.int .i64 t1172,.int .i64 t1173,.int .i64 t1174,.int .i64 t1175,.int .i64 t1176,.int .i64 t1177,.string (t1178 ++ a1_6),.string t1179,.bool t1180]) ?_ 7 _ rfl;refine pB ?_;refine blk_put (cs:=#[.string t1170,.int .i64 t1171,.int .i64 t1172,.int .i64 t1173,.int .i64 t1174,.int .i64 t1175,.int .i64 t1176,.int .i64 t1177,.string t1178,.string t1179,.bool t1180]) ?_ 8 _ rfl;refine pB ?_;exact BK1143.out⟩
                have n1_:Aside0 ((((wc.setCell ⟨gb1143,8,none⟩ (.string (t1178 ++ a1_6))).setCell ⟨gb1143,7,none⟩ (.int .i64 t1181)).setCell ⟨gb1143,7,none⟩ (.int .i64 t1192)).heap[gb1144]? = some (.cells #[.int .i64 a1_0,.int .i64 a1_1,.int .i64 a1_2,.int .i64 a1_3,.int .i64 a1_4,.int .i64 a1_5,.string a1_6] 53 (0,0))):=⟨by refine pB ?_;refine blk_far ?_ NB1144_1143.out _;refine pB ?_;refine blk_far ?_ NB1144_1143.out _;refine pB ?_;refine blk_far ?_ NB1144_1143.out _;refine pB ?_;exact BK1144.out⟩
                have n2_:Aside0 ((((wc.setCell ⟨gb1143,8,none⟩ (.string (t1178 ++ a1_6))).setCell ⟨gb1143,7,none⟩ (.int .i64 t1181)).setCell ⟨gb1143,7,none⟩ (.int .i64 t1192)).heap[gb1145]? = some (.cells #[.string (⟨#[]⟩:ByteArray),.int .i64 0,.int .i64 0,.int .i64 0,.int .i64 0,.int .i64 0,.int .i64 0,.int .i64 0,.string (⟨#[]⟩:ByteArray),.string (⟨#[]⟩:ByteArray),.bool false] 34 (0,0))):=⟨by refine pB ?_;refine blk_far ?_ NB1145_1143.out _;refine pB ?_;refine blk_far ?_ NB1145_1143.out _;refine pB ?_;refine blk_far ?_ NB1145_1143.out _;refine pB ?_;exact BK1145.out⟩
                have n3_:Aside0 (Below w.heap.size w (((wc.setCell ⟨gb1143,8,none⟩ (.string (t1178 ++ a1_6))).setCell ⟨gb1143,7,none⟩ (.int .i64 t1181)).setCell ⟨gb1143,7,none⟩ (.int .i64 t1192))):=⟨bW⟩
                (try clear BK1143)
                (try clear BK1144)
                (try clear BK1145)
                (try clear HB)
                generalize (((wc.setCell ⟨gb1143,8,none⟩ (.string (t1178 ++ a1_6))).setCell ⟨gb1143,7,none⟩ (.int .i64 t1181)).setCell ⟨gb1143,7,none⟩ (.int .i64 t1192)) = w115 at n0_ n1_ n2_ n3_ ⊢
                have BK1143:=n0_
                have BK1144:=n1_
                have BK1145:=n2_
                have HB:=n3_
                clear n0_ n1_ n2_ n3_
                (try (rw [drewN_self w115];generalize hq_:World.drewN w115 _ = w115;have n0_:Aside0 (w115.heap[gb1143]? = some (.cells #[.string t1170,.int .i64 t1171,.int .i64 t1172,.int .i64 t1173,.int .i64 t1174,.int .i64 t1175,.int .i64 t1176,.int .i64 t1192,.string (t1178 ++ a1_6),.string t1179,.bool t1180] 34 (0,0))):=⟨by rw [← hq_];exact (pB BK1143.out)⟩;have n1_:Aside0 (w115.heap[gb1144]? = some (.cells #[.int .i64 a1_0,.int .i64 a1_1,.int .i64 a1_2,.int .i64 a1_3,.int .i64 a1_4,.int .i64 a1_5,.string a1_6] 53 (0,0))):=⟨by rw [← hq_];exact (pB BK1144.out)⟩;have n2_:Aside0 (w115.heap[gb1145]? = some (.cells #[.string (⟨#[]⟩:ByteArray),.int .i64 0,.int .i64 0,.int .i64 0,.int .i64 0,.int .i64 0,.int .i64 0,.int .i64 0,.string (⟨#[]⟩:ByteArray),.string (⟨#[]⟩:ByteArray),.bool false] 34 (0,0))):=⟨by rw [← hq_];exact (pB BK1145.out)⟩;have n3_:Aside0 (Below w.heap.size w w115):=⟨by rw [← hq_];exact bW⟩;clear BK1143 BK1144 BK1145 HB hq_;have BK1143:=n0_;have BK1144:=n1_;have BK1145:=n2_;have HB:=n3_;clear n0_ n1_ n2_ n3_))
                replace BK1143:=aMk (bDr BK1143.out)
                replace BK1144:=aMk (bDr BK1144.out)
                replace BK1145:=aMk (bDr BK1145.out)
                replace HB:=aMk (bw1 HB.out)
                refine start_ (n:=8) (S:=fun w' => True) (ds:=[]) #[false,false,false,false,false,false,false,false] (by kernel_rfl) rfl rfl trivial (fun hHeld => ?_);refine with_tabW spec_l10Take.tab28 spec_l10Take.bits28 (fun HT_ HW_ => ?_)
                generalize w115.drew = w116 at BK1143 BK1144 BK1145 HB hHeld ⊢
                refine pU (i:=2) (N:=some 130) #[false,false,true,false,false,false,false,false] (any_of HT_.out (by kernel_rfl)) ?_
                refine inv_at [0,1,3,4,5,6,7] (fun a0_ b a w' => ∃ (v1201:Value) (m7_:Value),a = putSel a0_ b [(0,128,.agg #[.string t1170,.int .i64 t1171,.int .i64 t1172,.int .i64 t1173,.int .i64 t1174,.int .i64 t1175,.int .i64 t1176,.int .i64 t1192,.string (t1178 ++ a1_6),.string t1179,.bool t1180]),(1,129,.agg #[.string t1170,.int .i64 t1171,.int .i64 t1172,.int .i64 t1173,.int .i64 t1174,.int .i64 t1175,.int .i64 t1176,.int .i64 t1192,.string (t1178 ++ a1_6),.string t1179,.bool t1180]),(3,131,.int .i64 t1176),(4,132,.agg #[.int .i64 t1193,.int .i64 t1194,.int .i64 t1195,.int .i64 t1196,.int .i64 t1197,.int .i64 t1198,.string t1199]),(5,133,v1201),(7,5,m7_)]∧(w'.heap[gb1143]? = some (.cells #[.string t1170,.int .i64 t1171,.int .i64 t1172,.int .i64 t1173,.int .i64 t1174,.int .i64 t1175,.int .i64 t1176,.int .i64 t1192,.string (t1178 ++ a1_6),.string t1179,.bool t1180] 34 (0,0)))∧(w'.heap[gb1144]? = some (.cells #[.int .i64 a1_0,.int .i64 a1_1,.int .i64 a1_2,.int .i64 a1_3,.int .i64 a1_4,.int .i64 a1_5,.string a1_6] 53 (0,0)))∧(b 6 = false→w'.heap[gb1145]? = some (.cells #[.string (⟨#[]⟩:ByteArray),.int .i64 0,.int .i64 0,.int .i64 0,.int .i64 0,.int .i64 0,.int .i64 0,.int .i64 0,.string (⟨#[]⟩:ByteArray),.string (⟨#[]⟩:ByteArray),.bool false] 34 (0,0)))∧(Below w.heap.size w w')∧(b 5 = true→Kd.R k53 53 w' w.heap.size (fun k_ => k_ ≠ gb1144) v1201 y1200)∧(b 6 = true→w'.heap[gb1145]? = some (.cells #[.string t1170,.int .i64 t1171,.int .i64 t1172,.int .i64 t1173,.int .i64 t1174,.int .i64 t1175,.int .i64 t1176,.int .i64 t1192,.string (t1178 ++ a1_6),.string t1179,.bool t1180] 34 (0,0)))∧(b 7 = true→(m7_:Value) = v1201)) HT_.out HW_.out (by kernel_rfl) (by kernel_rfl) ?_ ?_ ?_
                ·exact ⟨.bool false,.bool false,by simp only [putSel,Bool.false_eq_true,if_false],BK1143.out,BK1144.out,fun _ => BK1145.out,HB.out,fun h_ => absurd h_ (by decide),fun h_ => absurd h_ (by decide),fun h_ => absurd h_ (by decide)⟩
                ·skip
                 clear BK1143 BK1144 BK1145 HB
                 refine steps_cons ?_ ?_
                 ·rintro b a w' ⟨v1201,m7_,ha,Q_BK1143,Q_BK1144,Q_BK1145,Q_HB,Q_HO1202,Q_BK1145_e6,Q_X7_⟩ hb_ hon hoff
                  refine ⟨_,rfl,fun K hK => ?_⟩
                  have e2:a.tmps[2]? = some (.pointer (some ⟨gb1143,0,none⟩)):=by rw [ha];exact (putSel_off rfl).trans rfl
                  replace ha:=aMk ha
                  have BK1143:=aMk Q_BK1143
                  have BK1144:=aMk Q_BK1144
                  have BK1145:=aMk (Q_BK1145 (hoff 6 (by kernel_rfl)))
                  have HB:=aMk Q_HB
                  have hc0_:w'.cell? ⟨gb1143,0,none⟩ = some (.string t1170):=(bCe BK1143.out 0).trans rfl
                  have hc1_:w'.cell? ⟨gb1143,1,none⟩ = some (.int .i64 t1171):=(bCe BK1143.out 1).trans rfl
                  have hc2_:w'.cell? ⟨gb1143,2,none⟩ = some (.int .i64 t1172):=(bCe BK1143.out 2).trans rfl
                  have hc3_:w'.cell? ⟨gb1143,3,none⟩ = some (.int .i64 t1173):=(bCe BK1143.out 3).trans rfl
                  have hc4_:w'.cell? ⟨gb1143,4,none⟩ = some (.int .i64 t1174):=(bCe BK1143.out 4).trans rfl
                  have hc5_:w'.cell? ⟨gb1143,5,none⟩ = some (.int .i64 t1175):=(bCe BK1143.out 5).trans rfl
                  have hc6_:w'.cell? ⟨gb1143,6,none⟩ = some (.int .i64 t1176):=(bCe BK1143.out 6).trans rfl
                  have hc7_:w'.cell? ⟨gb1143,7,none⟩ = some (.int .i64 t1192):=(bCe BK1143.out 7).trans rfl
                  have hc8_:w'.cell? ⟨gb1143,8,none⟩ = some (.string (t1178 ++ a1_6)):=(bCe BK1143.out 8).trans rfl
                  have hc9_:w'.cell? ⟨gb1143,9,none⟩ = some (.string t1179):=(bCe BK1143.out 9).trans rfl
                  have hc10_:w'.cell? ⟨gb1143,10,none⟩ = some (.bool t1180):=(bCe BK1143.out 10).trans rfl
                  refine value_ (w1:=w') (v:=.agg #[.string t1170,.int .i64 t1171,.int .i64 t1172,.int .i64 t1173,.int .i64 t1174,.int .i64 t1175,.int .i64 t1176,.int .i64 t1192,.string (t1178 ++ a1_6),.string t1179,.bool t1180]) (by rfl) rfl ?_ ?_
                  ·go_simp
                   (try simp only [i64_w])
                   try rfl
                  refine hK.out _ _ ⟨v1201,m7_,(by rw [ha.out];exact putSel_upk 0 hb_ rfl rfl rfl),Q_BK1143,Q_BK1144,Q_BK1145,Q_HB,Q_HO1202,fun h0_ => absurd ((hoff 6 (by kernel_rfl)).symm.trans h0_) (by decide),fun h0_ => absurd ((hoff 7 (by kernel_rfl)).symm.trans h0_) (by decide)⟩
                 refine steps_cons ?_ ?_
                 ·rintro b a w' ⟨v1201,m7_,ha,Q_BK1143,Q_BK1144,Q_BK1145,Q_HB,Q_HO1202,Q_BK1145_e6,Q_X7_⟩ hb_ hon hoff
                  refine ⟨_,rfl,fun K hK => ?_⟩
                  have e2:a.tmps[2]? = some (.pointer (some ⟨gb1143,0,none⟩)):=by rw [ha];exact (putSel_off rfl).trans rfl
                  replace ha:=aMk ha
                  have BK1143:=aMk Q_BK1143
                  have BK1144:=aMk Q_BK1144
                  have BK1145:=aMk (Q_BK1145 (hoff 6 (by kernel_rfl)))
                  have HB:=aMk Q_HB
                  have hc0_:w'.cell? ⟨gb1143,0,none⟩ = some (.string t1170):=(bCe BK1143.out 0).trans rfl
                  have hc1_:w'.cell? ⟨gb1143,1,none⟩ = some (.int .i64 t1171):=(bCe BK1143.out 1).trans rfl
                  have hc2_:w'.cell? ⟨gb1143,2,none⟩ = some (.int .i64 t1172):=(bCe BK1143.out 2).trans rfl
                  have hc3_:w'.cell? ⟨gb1143,3,none⟩ = some (.int .i64 t1173):=(bCe BK1143.out 3).trans rfl
                  have hc4_:w'.cell? ⟨gb1143,4,none⟩ = some (.int .i64 t1174):=(bCe BK1143.out 4).trans rfl
                  have hc5_:w'.cell? ⟨gb1143,5,none⟩ = some (.int .i64 t1175):=(bCe BK1143.out 5).trans rfl
                  have hc6_:w'.cell? ⟨gb1143,6,none⟩ = some (.int .i64 t1176):=(bCe BK1143.out 6).trans rfl
                  have hc7_:w'.cell? ⟨gb1143,7,none⟩ = some (.int .i64 t1192):=(bCe BK1143.out 7).trans rfl
                  have hc8_:w'.cell? ⟨gb1143,8,none⟩ = some (.string (t1178 ++ a1_6)):=(bCe BK1143.out 8).trans rfl
                  have hc9_:w'.cell? ⟨gb1143,9,none⟩ = some (.string t1179):=(bCe BK1143.out 9).trans rfl
                  have hc10_:w'.cell? ⟨gb1143,10,none⟩ = some (.bool t1180):=(bCe BK1143.out 10).trans rfl
                  refine value_ (w1:=w') (v:=.agg #[.string t1170,.int .i64 t1171,.int .i64 t1172,.int .i64 t1173,.int .i64 t1174,.int .i64 t1175,.int .i64 t1176,.int .i64 t1192,.string (t1178 ++ a1_6),.string t1179,.bool t1180]) (by rfl) rfl ?_ ?_
                  ·go_simp
                   (try simp only [i64_w])
                   try rfl
                  refine hK.out _ _ ⟨v1201,m7_,(by rw [ha.out];exact putSel_upk 1 hb_ rfl rfl rfl),Q_BK1143,Q_BK1144,Q_BK1145,Q_HB,fun h0_ => absurd ((hoff 5 (by kernel_rfl)).symm.trans h0_) (by decide),fun h0_ => absurd ((hoff 6 (by kernel_rfl)).symm.trans h0_) (by decide),fun h0_ => absurd ((hoff 7 (by kernel_rfl)).symm.trans h0_) (by decide)⟩
                 refine steps_cons ?_ ?_
                 ·rintro b a w' ⟨v1201,m7_,ha,Q_BK1143,Q_BK1144,Q_BK1145,Q_HB,Q_HO1202,Q_BK1145_e6,Q_X7_⟩ hb_ hon hoff
                  refine ⟨_,rfl,fun K hK => ?_⟩
                  have e130:a.tmps[130]? = some (.pointer (some ⟨gb1143,6,none⟩)):=by rw [ha];exact (putSel_off rfl).trans rfl
                  replace ha:=aMk ha
                  have BK1143:=aMk Q_BK1143
                  have BK1144:=aMk Q_BK1144
                  have BK1145:=aMk (Q_BK1145 (hoff 6 (by kernel_rfl)))
                  have HB:=aMk Q_HB
                  have hc0_:w'.cell? ⟨gb1143,0,none⟩ = some (.string t1170):=(bCe BK1143.out 0).trans rfl
                  have hc1_:w'.cell? ⟨gb1143,1,none⟩ = some (.int .i64 t1171):=(bCe BK1143.out 1).trans rfl
                  have hc2_:w'.cell? ⟨gb1143,2,none⟩ = some (.int .i64 t1172):=(bCe BK1143.out 2).trans rfl
                  have hc3_:w'.cell? ⟨gb1143,3,none⟩ = some (.int .i64 t1173):=(bCe BK1143.out 3).trans rfl
                  have hc4_:w'.cell? ⟨gb1143,4,none⟩ = some (.int .i64 t1174):=(bCe BK1143.out 4).trans rfl
                  have hc5_:w'.cell? ⟨gb1143,5,none⟩ = some (.int .i64 t1175):=(bCe BK1143.out 5).trans rfl
                  have hc6_:w'.cell? ⟨gb1143,6,none⟩ = some (.int .i64 t1176):=(bCe BK1143.out 6).trans rfl
                  have hc7_:w'.cell? ⟨gb1143,7,none⟩ = some (.int .i64 t1192):=(bCe BK1143.out 7).trans rfl
                  have hc8_:w'.cell? ⟨gb1143,8,none⟩ = some (.string (t1178 ++ a1_6)):=(bCe BK1143.out 8).trans rfl
                  have hc9_:w'.cell? ⟨gb1143,9,none⟩ = some (.string t1179):=(bCe BK1143.out 9).trans rfl
                  have hc10_:w'.cell? ⟨gb1143,10,none⟩ = some (.bool t1180):=(bCe BK1143.out 10).trans rfl
                  refine value_ (w1:=w') (v:=.int .i64 t1176) (by rfl) rfl ?_ ?_
                  ·go_simp
                   (try simp only [i64_w])
                   try rfl
                  refine hK.out _ _ ⟨v1201,m7_,(by rw [ha.out];exact putSel_upk 2 hb_ rfl rfl rfl),Q_BK1143,Q_BK1144,Q_BK1145,Q_HB,fun h0_ => absurd ((hoff 5 (by kernel_rfl)).symm.trans h0_) (by decide),fun h0_ => absurd ((hoff 6 (by kernel_rfl)).symm.trans h0_) (by decide),fun h0_ => absurd ((hoff 7 (by kernel_rfl)).symm.trans h0_) (by decide)⟩
                 refine steps_cons ?_ ?_
                 ·rintro b a w' ⟨v1201,m7_,ha,Q_BK1143,Q_BK1144,Q_BK1145,Q_HB,Q_HO1202,Q_BK1145_e6,Q_X7_⟩ hb_ hon hoff
                  refine ⟨_,rfl,fun K hK => ?_⟩
                  have e129:a.tmps[129]? = some (.agg #[.string t1170,.int .i64 t1171,.int .i64 t1172,.int .i64 t1173,.int .i64 t1174,.int .i64 t1175,.int .i64 t1176,.int .i64 t1192,.string (t1178 ++ a1_6),.string t1179,.bool t1180]):=by rw [ha];exact putSel_on (e:=(1,129,.agg #[.string t1170,.int .i64 t1171,.int .i64 t1172,.int .i64 t1173,.int .i64 t1174,.int .i64 t1175,.int .i64 t1176,.int .i64 t1192,.string (t1178 ++ a1_6),.string t1179,.bool t1180])) 1 rfl rfl (hon 1 (by kernel_rfl)) rfl
                  have e131:a.tmps[131]? = some (.int .i64 t1176):=by rw [ha];exact putSel_on (e:=(3,131,.int .i64 t1176)) 2 rfl rfl (hon 3 (by kernel_rfl)) rfl
                  replace ha:=aMk ha
                  have BK1143:=aMk Q_BK1143
                  have BK1144:=aMk Q_BK1144
                  have BK1145:=aMk (Q_BK1145 (hoff 6 (by kernel_rfl)))
                  have HB:=aMk Q_HB
                  refine goes_ Try.func111 (by kernel_rfl) rfl #[.agg #[.string t1170,.int .i64 t1171,.int .i64 t1172,.int .i64 t1173,.int .i64 t1174,.int .i64 t1175,.int .i64 t1176,.int .i64 t1192,.string (t1178 ++ a1_6),.string t1179,.bool t1180],.int .i64 t1176,.int .i64 16,.string (⟨#[]⟩:ByteArray)] (by rfl) rfl rfl (by first|(simp only [List.map_toArray,List.map_cons,List.map_nil,Act.eval,Array.getD_eq_getD_getElem?,Option.getD_some,e129,e131];done)|(simp only [List.map_toArray,List.map_cons,List.map_nil,Act.eval,Array.getD_eq_getD_getElem?,Option.getD_some,e129,e131];rfl)) ?_
                  with_reducible refine (spec_l10Reply.calls t1170 t1171 t1172 t1173 t1174 t1175 t1176 t1192 (t1178 ++ a1_6) t1179 t1180 t1176 16 (⟨#[]⟩:ByteArray) t1193 t1194 t1195 t1196 t1197 t1198 t1199 _ A109.out).mono ?_
                  rintro e w117 ⟨rfl,hb⟩
                  refine ⟨_,rfl,?_⟩
                  replace BK1143:=aMk (bkB BK1143.out hb)
                  replace BK1144:=aMk (bkB BK1144.out hb)
                  replace BK1145:=aMk (bkB BK1145.out hb)
                  replace HB:=aMk (bU hb)
                  (try clear hb)
                  (try clear hb2)
                  (try clear hk)
                  (try clear hi)
                  refine hK.out _ _ ⟨v1201,m7_,(by rw [ha.out];exact putSel_upk 3 hb_ rfl rfl rfl),(pB BK1143.out),(pB BK1144.out),fun _ => (pB BK1145.out),bW,fun h0_ => absurd ((hoff 5 (by kernel_rfl)).symm.trans h0_) (by decide),fun h0_ => absurd ((hoff 6 (by kernel_rfl)).symm.trans h0_) (by decide),fun h0_ => absurd ((hoff 7 (by kernel_rfl)).symm.trans h0_) (by decide)⟩
                 refine steps_cons ?_ ?_
                 ·rintro b a w' ⟨v1201,m7_,ha,Q_BK1143,Q_BK1144,Q_BK1145,Q_HB,Q_HO1202,Q_BK1145_e6,Q_X7_⟩ hb_ hon hoff
                  refine ⟨_,rfl,fun K hK => ?_⟩
                  have e132:a.tmps[132]? = some (.agg #[.int .i64 t1193,.int .i64 t1194,.int .i64 t1195,.int .i64 t1196,.int .i64 t1197,.int .i64 t1198,.string t1199]):=by rw [ha];exact putSel_on (e:=(4,132,.agg #[.int .i64 t1193,.int .i64 t1194,.int .i64 t1195,.int .i64 t1196,.int .i64 t1197,.int .i64 t1198,.string t1199])) 3 rfl rfl (hon 4 (by kernel_rfl)) rfl
                  replace ha:=aMk ha
                  have BK1143:=aMk Q_BK1143
                  have BK1144:=aMk Q_BK1144
                  have HB:=aMk Q_HB
                  refine Kd.R_lit_step k53 _ 53 ?hg (N:=133) ?hd (xs:=([(⟨t1193,t1194,t1195,t1196,t1197,t1198,t1199⟩:S53)]:List (S53))) (inner:=[.int .i64 t1193,.int .i64 t1194,.int .i64 t1195,.int .i64 t1196,.int .i64 t1197,.int .i64 t1198,.string t1199]) (ok:=fun _ => True) (okp:=fun _ => True) ?hr ?hp (fun _ hk => hk) trivial (Below.refl _ _) (Nat.le_refl _) (by simp) ?_;(case hd => rfl);(case hg => rfl);(case hr => first|(go_simp;done)|(go_simp;rfl));(case hp => exact (Reps.c7 (show Kd.M k53 _ _ _ (⟨t1193,t1194,t1195,t1196,t1197,t1198,t1199⟩:S53) [.int .i64 t1193,.int .i64 t1194,.int .i64 t1195,.int .i64 t1196,.int .i64 t1197,.int .i64 t1198,.string t1199] from (k53_mkM _ _ _ (⟨t1193,t1194,t1195,t1196,t1197,t1198,t1199⟩:S53) )) (Reps.none _ _)))
                  intro v1201 w119 ho120 hb hg_ hnew_
                  clear hg_ hnew_
                  (first|rw [← Ny1200.out] at ho120|(simp only [Int.reduceToNat] at ho120;rw [← Ny1200.out] at ho120))
                  have n0_:=aMk (Kd.R_lower (Kd.R_newB ho120 (g:=gb1144) (o:=.cells #[.int .i64 a1_0,.int .i64 a1_1,.int .i64 a1_2,.int .i64 a1_3,.int .i64 a1_4,.int .i64 a1_5,.string a1_6] 53 (0,0)) (pB BK1144.out)) (below_size bW))
                  have n1_:=aMk (bkB BK1143.out hb)
                  have n2_:=aMk (bkB BK1144.out hb)
                  have n4_:=aMk (bU hb)
                  have z_BK1145:=fun (h0_:b 6 = false) => (show w119.heap[gb1145]? = some (.cells #[.string (⟨#[]⟩:ByteArray),.int .i64 0,.int .i64 0,.int .i64 0,.int .i64 0,.int .i64 0,.int .i64 0,.int .i64 0,.string (⟨#[]⟩:ByteArray),.string (⟨#[]⟩:ByteArray),.bool false] 34 (0,0)) from by first|exact (blk_below (g:=gb1145) (o:=.cells #[.string (⟨#[]⟩:ByteArray),.int .i64 0,.int .i64 0,.int .i64 0,.int .i64 0,.int .i64 0,.int .i64 0,.int .i64 0,.string (⟨#[]⟩:ByteArray),.string (⟨#[]⟩:ByteArray),.bool false] 34 (0,0)) (by refine pB ?_;exact (Q_BK1145 h0_)) hb))
                  have z_BK1145_e6:=fun (h0_:b 6 = true) => (show w119.heap[gb1145]? = some (.cells #[.string t1170,.int .i64 t1171,.int .i64 t1172,.int .i64 t1173,.int .i64 t1174,.int .i64 t1175,.int .i64 t1176,.int .i64 t1192,.string (t1178 ++ a1_6),.string t1179,.bool t1180] 34 (0,0)) from by first|exact (blk_below (g:=gb1145) (o:=.cells #[.string t1170,.int .i64 t1171,.int .i64 t1172,.int .i64 t1173,.int .i64 t1174,.int .i64 t1175,.int .i64 t1176,.int .i64 t1192,.string (t1178 ++ a1_6),.string t1179,.bool t1180] 34 (0,0)) (by refine pB ?_;exact (Q_BK1145_e6 h0_)) hb))
                  clear BK1143
                  clear BK1144
                  clear HB
                  have HO1202:=n0_
                  have BK1143:=n1_
                  have BK1144:=n2_
                  have HB:=n4_
                  clear n0_ n1_ n2_ n4_
                  clear hb ho120
                  refine hK.out _ _ ⟨v1201,m7_,(by rw [ha.out];exact putSel_upk 4 hb_ rfl rfl rfl),(pB BK1143.out),(pB BK1144.out),z_BK1145,bW,fun _ => (kR (Kd.R_mono HO1202.out (fun _ hk => hk.2))),z_BK1145_e6,fun h0_ => absurd ((hoff 7 (by kernel_rfl)).symm.trans h0_) (by decide)⟩
                 refine steps_cons ?_ ?_
                 ·rintro b a w' ⟨v1201,m7_,ha,Q_BK1143,Q_BK1144,Q_BK1145,Q_HB,Q_HO1202,Q_BK1145_e6,Q_X7_⟩ hb_ hon hoff
                  refine ⟨_,rfl,fun K hK => ?_⟩
                  have e4:a.tmps[4]? = some (.pointer (some ⟨gb1145,0,none⟩)):=by rw [ha];exact (putSel_off rfl).trans rfl
                  have e128:a.tmps[128]? = some (.agg #[.string t1170,.int .i64 t1171,.int .i64 t1172,.int .i64 t1173,.int .i64 t1174,.int .i64 t1175,.int .i64 t1176,.int .i64 t1192,.string (t1178 ++ a1_6),.string t1179,.bool t1180]):=by rw [ha];exact putSel_on (e:=(0,128,.agg #[.string t1170,.int .i64 t1171,.int .i64 t1172,.int .i64 t1173,.int .i64 t1174,.int .i64 t1175,.int .i64 t1176,.int .i64 t1192,.string (t1178 ++ a1_6),.string t1179,.bool t1180])) 0 rfl rfl (hon 0 (by kernel_rfl)) rfl
                  replace ha:=aMk ha
                  have BK1143:=aMk Q_BK1143
                  have BK1144:=aMk Q_BK1144
                  have BK1145:=aMk (Q_BK1145 hb_)
                  have HB:=aMk Q_HB
                  have hs119:w'.cell? ⟨gb1145,0,none⟩ = some (.string (⟨#[]⟩:ByteArray)):=(bCe BK1145.out 0).trans rfl
                  have hfs119:=bFr BK1145.out 0
                  have hns119_0:=NB1143_1145.out
                  have hns119_1:=NB1144_1145.out
                  have hms119_0:=NB1145_1143.out
                  have hms119_1:=NB1145_1144.out
                  have hs120:w'.cell? ⟨gb1145,1,none⟩ = some (.int .i64 0):=(bCe BK1145.out 1).trans rfl
                  have hfs120:=bFr BK1145.out 1
                  have hns120_0:=NB1143_1145.out
                  have hns120_1:=NB1144_1145.out
                  have hms120_0:=NB1145_1143.out
                  have hms120_1:=NB1145_1144.out
                  have hs121:w'.cell? ⟨gb1145,2,none⟩ = some (.int .i64 0):=(bCe BK1145.out 2).trans rfl
                  have hfs121:=bFr BK1145.out 2
                  have hns121_0:=NB1143_1145.out
                  have hns121_1:=NB1144_1145.out
                  have hms121_0:=NB1145_1143.out
                  have hms121_1:=NB1145_1144.out
                  have hs122:w'.cell? ⟨gb1145,3,none⟩ = some (.int .i64 0):=(bCe BK1145.out 3).trans rfl
                  have hfs122:=bFr BK1145.out 3
                  have hns122_0:=NB1143_1145.out
                  have hns122_1:=NB1144_1145.out
                  have hms122_0:=NB1145_1143.out
                  have hms122_1:=NB1145_1144.out
                  have hs123:w'.cell? ⟨gb1145,4,none⟩ = some (.int .i64 0):=(bCe BK1145.out 4).trans rfl
                  have hfs123:=bFr BK1145.out 4
                  have hns123_0:=NB1143_1145.out
                  have hns123_1:=NB1144_1145.out
                  have hms123_0:=NB1145_1143.out
                  have hms123_1:=NB1145_1144.out
                  have hs124:w'.cell? ⟨gb1145,5,none⟩ = some (.int .i64 0):=(bCe BK1145.out 5).trans rfl
                  have hfs124:=bFr BK1145.out 5
                  have hns124_0:=NB1143_1145.out
                  have hns124_1:=NB1144_1145.out
                  have hms124_0:=NB1145_1143.out
                  have hms124_1:=NB1145_1144.out
                  have hs125:w'.cell? ⟨gb1145,6,none⟩ = some (.int .i64 0):=(bCe BK1145.out 6).trans rfl
                  have hfs125:=bFr BK1145.out 6
                  have hns125_0:=NB1143_1145.out
                  have hns125_1:=NB1144_1145.out
                  have hms125_0:=NB1145_1143.out
                  have hms125_1:=NB1145_1144.out
                  have hs126:w'.cell? ⟨gb1145,7,none⟩ = some (.int .i64 0):=(bCe BK1145.out 7).trans rfl
                  have hfs126:=bFr BK1145.out 7
                  have hns126_0:=NB1143_1145.out
                  have hns126_1:=NB1144_1145.out
                  have hms126_0:=NB1145_1143.out
                  have hms126_1:=NB1145_1144.out
                  have hs127:w'.cell? ⟨gb1145,8,none⟩ = some (.string (⟨#[]⟩:ByteArray)):=(bCe BK1145.out 8).trans rfl
                  have hfs127:=bFr BK1145.out 8
                  have hns127_0:=NB1143_1145.out
                  have hns127_1:=NB1144_1145.out
                  have hms127_0:=NB1145_1143.out
                  have hms127_1:=NB1145_1144.out
                  have hs128:w'.cell? ⟨gb1145,9,none⟩ = some (.string (⟨#[]⟩:ByteArray)):=(bCe BK1145.out 9).trans rfl
                  have hfs128:=bFr BK1145.out 9
                  have hns128_0:=NB1143_1145.out
                  have hns128_1:=NB1144_1145.out
                  have hms128_0:=NB1145_1143.out
                  have hms128_1:=NB1145_1144.out
                  have hs129:w'.cell? ⟨gb1145,10,none⟩ = some (.bool false):=(bCe BK1145.out 10).trans rfl
                  have hfs129:=bFr BK1145.out 10
                  have hns129_0:=NB1143_1145.out
                  have hns129_1:=NB1144_1145.out
                  have hms129_0:=NB1145_1143.out
                  have hms129_1:=NB1145_1144.out
                  refine skip_ (w1:=?_) (by rfl) rfl ?_ ?_
                  rotate_left
                  ·go_simp
                   rfl
                  refine hK.out _ _ ⟨v1201,m7_,(by rw [ha.out];exact putSel_none (v:=undef) rfl),(fB BK1143.out),(fB BK1144.out),fun h0_ => absurd ((up_self b 6).symm.trans h0_) (by decide),bW,fun h0_ => (kR (Kd.R_mono (Kd.R_far (p:=⟨gb1145,10,none⟩) (Kd.R_far (p:=⟨gb1145,9,none⟩) (Kd.R_far (p:=⟨gb1145,8,none⟩) (Kd.R_far (p:=⟨gb1145,7,none⟩) (Kd.R_far (p:=⟨gb1145,6,none⟩) (Kd.R_far (p:=⟨gb1145,5,none⟩) (Kd.R_far (p:=⟨gb1145,4,none⟩) (Kd.R_far (p:=⟨gb1145,3,none⟩) (Kd.R_far (p:=⟨gb1145,2,none⟩) (Kd.R_far (p:=⟨gb1145,1,none⟩) (Kd.R_far (p:=⟨gb1145,0,none⟩) (Kd.R_types (Q_HO1202 h0_) BK1145.out (by decide)) (fun _ hk => hk.2) (.string t1170)) (fun _ hk => hk.2) (.int .i64 t1171)) (fun _ hk => hk.2) (.int .i64 t1172)) (fun _ hk => hk.2) (.int .i64 t1173)) (fun _ hk => hk.2) (.int .i64 t1174)) (fun _ hk => hk.2) (.int .i64 t1175)) (fun _ hk => hk.2) (.int .i64 t1176)) (fun _ hk => hk.2) (.int .i64 t1192)) (fun _ hk => hk.2) (.string (t1178 ++ a1_6))) (fun _ hk => hk.2) (.string t1179)) (fun _ hk => hk.2) (.bool t1180)) (fun _ hk => hk.1))),fun _ => (by refine pB ?_;refine blk_put (cs:=#[.string t1170,.int .i64 t1171,.int .i64 t1172,.int .i64 t1173,.int .i64 t1174,.int .i64 t1175,.int .i64 t1176,.int .i64 t1192,.string (t1178 ++ a1_6),.string t1179,.bool false]) ?_ 10 _ rfl;refine pB ?_;refine blk_put (cs:=#[.string t1170,.int .i64 t1171,.int .i64 t1172,.int .i64 t1173,.int .i64 t1174,.int .i64 t1175,.int .i64 t1176,.int .i64 t1192,.string (t1178 ++ a1_6),.string (⟨#[]⟩:ByteArray),.bool false]) ?_ 9 _ rfl;refine pB ?_;refine blk_put (cs:=#[.string t1170,.int .i64 t1171,.int .i64 t1172,.int .i64 t1173,.int .i64 t1174,.int .i64 t1175,.int .i64 t1176,.int .i64 t1192,.string (⟨#[]⟩:ByteArray),.string (⟨#[]⟩:ByteArray),.bool false]) ?_ 8 _ rfl;refine pB ?_;refine blk_put (cs:=#[.string t1170,.int .i64 t1171,.int .i64 t1172,.int .i64 t1173,.int .i64 t1174,.int .i64 t1175,.int .i64 t1176,.int .i64 0,.string (⟨#[]⟩:ByteArray),.string (⟨#[]⟩:ByteArray),.bool false]) ?_ 7 _ rfl;refine pB ?_;refine blk_put (cs:=#[.string t1170,.int .i64 t1171,.int .i64 t1172,.int .i64 t1173,.int .i64 t1174,.int .i64 t1175,.int .i64 0,.int .i64 0,.string (⟨#[]⟩:ByteArray),.string (⟨#[]⟩:ByteArray),.bool false]) ?_ 6 _ rfl;refine pB ?_;refine blk_put (cs:=#[.string t1170,.int .i64 t1171,.int .i64 t1172,.int .i64 t1173,.int .i64 t1174,.int .i64 0,.int .i64 0,.int .i64 0,.string (⟨#[]⟩:ByteArray),.string (⟨#[]⟩:ByteArray),.bool false]) ?_ 5 _ rfl;refine pB ?_;refine blk_put (cs:=#[.string t1170,.int .i64 t1171,.int .i64 t1172,.int .i64 t1173,.int .i64 0,.int .i64 0,.int .i64 0,.int .i64 0,.string (⟨#[]⟩:ByteArray),.string (⟨#[]⟩:ByteArray),.bool false]) ?_ 4 _ rfl;refine pB ?_;refine blk_put (cs:=#[.string t1170,.int .i64 t1171,.int .i64 t1172,.int .i64 0,.int .i64 0,.int .i64 0,.int .i64 0,.int .i64 0,.string (⟨#[]⟩:ByteArray),.string (⟨#[]⟩:ByteArray),.bool false]) ?_ 3 _ rfl;refine pB ?_;refine blk_put (cs:=#[.string t1170,.int .i64 t1171,.int .i64 0,.int .i64 0,.int .i64 0,.int .i64 0,.int .i64 0,.int .i64 0,.string (⟨#[]⟩:ByteArray),.string (⟨#[]⟩:ByteArray),.bool false]) ?_ 2 _ rfl;refine pB ?_;refine blk_put (cs:=#[.string t1170,.int .i64 0,.int .i64 0,.int .i64 0,.int .i64 0,.int .i64 0,.int .i64 0,.int .i64 0,.string (⟨#[]⟩:ByteArray),.string (⟨#[]⟩:ByteArray),.bool false]) ?_ 1 _ rfl;refine pB ?_;refine blk_put (cs:=#[.string (⟨#[]⟩:ByteArray),.int .i64 0,.int .i64 0,.int .i64 0,.int .i64 0,.int .i64 0,.int .i64 0,.int .i64 0,.string (⟨#[]⟩:ByteArray),.string (⟨#[]⟩:ByteArray),.bool false]) ?_ 0 _ rfl;refine pB ?_;exact BK1145.out),fun h0_ => absurd ((hoff 7 (by kernel_rfl)).symm.trans h0_) (by decide)⟩
                 refine steps_cons ?_ ?_
                 ·rintro b a w' ⟨v1201,m7_,ha,Q_BK1143,Q_BK1144,Q_BK1145,Q_HB,Q_HO1202,Q_BK1145_e6,Q_X7_⟩ hb_ hon hoff
                  refine ⟨_,rfl,fun K hK => ?_⟩
                  have e133:a.tmps[133]? = some (v1201):=by rw [ha];exact putSel_on (e:=(5,133,v1201)) 4 rfl rfl (hon 5 (by kernel_rfl)) rfl
                  replace ha:=aMk ha
                  have BK1143:=aMk Q_BK1143
                  have BK1144:=aMk Q_BK1144
                  have HB:=aMk Q_HB
                  have HO1202:=aMk (Q_HO1202 (hon 5 (by kernel_rfl)))
                  have BK1145:=aMk (Q_BK1145_e6 (hon 6 (by kernel_rfl)))
                  refine value_ (w1:=w') (v:=v1201) (by rfl) rfl ?_ ?_
                  ·go_simp
                   (try simp only [i64_w])
                   try rfl
                  refine hK.out _ _ ⟨v1201,(v1201),(by rw [ha.out];exact putSel_upk 5 hb_ rfl rfl rfl),Q_BK1143,Q_BK1144,fun h0_ => absurd ((hon 6 (by kernel_rfl)).symm.trans h0_) (by decide),Q_HB,Q_HO1202,Q_BK1145_e6,fun _ => rfl⟩
                 exact steps_nil
                rintro b a w131 hall ⟨v1201,m7_,ha,Q_BK1143,Q_BK1144,Q_BK1145,Q_HB,Q_HO1202,Q_BK1145_e6,Q_X7_⟩
                clear BK1143 BK1144 BK1145 HB
                have hb0_:=hall 0 (by kernel_rfl)
                have hb1_:=hall 1 (by kernel_rfl)
                have hb3_:=hall 3 (by kernel_rfl)
                have hb4_:=hall 4 (by kernel_rfl)
                have hb5_:=hall 5 (by kernel_rfl)
                have hb6_:=hall 6 (by kernel_rfl)
                have hb7_:=hall 7 (by kernel_rfl)
                subst ha
                obtain rfl:=Q_X7_ hb7_
                simp only [putSel,hb0_,hb1_,hb3_,hb4_,hb5_,hb6_,hb7_,if_true,Act.put,List.setIfInBounds_toArray,List.set_cons_zero,List.set_cons_succ]
                have BK1143:=aMk Q_BK1143
                clear Q_BK1143
                have BK1144:=aMk Q_BK1144
                clear Q_BK1144
                clear Q_BK1145
                have HB:=aMk Q_HB
                clear Q_HB
                have HO1202:=aMk (Q_HO1202 hb5_)
                clear Q_HO1202
                have BK1145:=aMk (Q_BK1145_e6 hb6_)
                clear Q_BK1145_e6
                clear hall hb0_ hb1_ hb3_ hb4_ hb5_ hb6_ hb7_
                try go_wp2
                refine bodyPost_ret (results_ct rfl _ _ gb1145 34 #[.string t1170,.int .i64 t1171,.int .i64 t1172,.int .i64 t1173,.int .i64 t1174,.int .i64 t1175,.int .i64 t1176,.int .i64 t1192,.string (t1178 ++ a1_6),.string t1179,.bool t1180] (0,0) _ rfl (pB BK1145.out) Try.underlying34 rfl (by kernel_rfl)) rfl ?_
                exact ⟨_,eRf,kR (Kd.R_mono HO1202.out (fun _ hk => trivial)),bW⟩
              ·rw [if_neg c82] at H
               exact absurd H (by simp)
             ·replace c81:=Bool.eq_false_iff.mpr c81
              subst c81
              have H1:=H
              rw [if_neg (show ¬ (false = true) by decide)] at H1
              clear H
              have H:=H1
              clear H1
              replace H:=Option.bind_eq_some_iff.mp H
              obtain ⟨⟨t1203,t1204,t1205,t1206,t1207,t1208,t1209⟩,A1320,H⟩:=H
              try dsimp only at H
              have A132:=aMk A1320
              clear A1320
              obtain ⟨y1210,hy1210⟩:∃ y_:List (S53),y_ = (([(⟨t1203,t1204,t1205,t1206,t1207,t1208,t1209⟩:S53)]:List (S53))):=⟨_,rfl⟩
              replace H:(some (t1170,t1171,t1172,t1173,t1174,t1175,t1176,t1177,t1178,t1179,t1180,y1210)) = some (r1,r2,r3,r4,r5,r6,r7,r8,r9,r10,r11,r12):=by first|(rw [hy1210];with_reducible exact H)|(have H2_:=(Option.bind_some _ _).symm.trans H;rw [hy1210];with_reducible exact H2_)|(have H2_:=(Option.bind_some _ _).symm.trans H;with_reducible exact H2_) | with_reducible exact H|(rw [hy1210];exact H)|exact H
              have Ny1210:=aMk hy1210
              clear hy1210
              simp only [Option.some.injEq,Prod.mk.injEq] at H
              obtain ⟨rfl,rfl,rfl,rfl,rfl,rfl,rfl,rfl,rfl,rfl,rfl,rfl⟩:=H
              try go_wp2
              replace BK1143:=aMk (bDr BK1143.out)
              replace BK1144:=aMk (bDr BK1144.out)
              replace BK1145:=aMk (bDr BK1145.out)
              replace HB:=aMk (bw1 HB.out)
              refine start_ (n:=8) (S:=fun w' => True) (ds:=[]) #[false,false,false,false,false,false,false,false] (by kernel_rfl) rfl rfl trivial (fun hHeld => ?_);refine with_tabW spec_l10Take.tab28 spec_l10Take.bits28 (fun HT_ HW_ => ?_)
              generalize wc.drew = w133 at BK1143 BK1144 BK1145 HB hHeld ⊢
              refine pU (i:=2) (N:=some 130) #[false,false,true,false,false,false,false,false] (any_of HT_.out (by kernel_rfl)) ?_
              refine inv_at [0,1,3,4,5,6,7] (fun a0_ b a w' => ∃ (v1211:Value) (m7_:Value),a = putSel a0_ b [(0,128,.agg #[.string t1170,.int .i64 t1171,.int .i64 t1172,.int .i64 t1173,.int .i64 t1174,.int .i64 t1175,.int .i64 t1176,.int .i64 t1177,.string t1178,.string t1179,.bool t1180]),(1,129,.agg #[.string t1170,.int .i64 t1171,.int .i64 t1172,.int .i64 t1173,.int .i64 t1174,.int .i64 t1175,.int .i64 t1176,.int .i64 t1177,.string t1178,.string t1179,.bool t1180]),(3,131,.int .i64 t1176),(4,132,.agg #[.int .i64 t1203,.int .i64 t1204,.int .i64 t1205,.int .i64 t1206,.int .i64 t1207,.int .i64 t1208,.string t1209]),(5,133,v1211),(7,5,m7_)]∧(w'.heap[gb1143]? = some (.cells #[.string t1170,.int .i64 t1171,.int .i64 t1172,.int .i64 t1173,.int .i64 t1174,.int .i64 t1175,.int .i64 t1176,.int .i64 t1177,.string t1178,.string t1179,.bool t1180] 34 (0,0)))∧(w'.heap[gb1144]? = some (.cells #[.int .i64 a1_0,.int .i64 a1_1,.int .i64 a1_2,.int .i64 a1_3,.int .i64 a1_4,.int .i64 a1_5,.string a1_6] 53 (0,0)))∧(b 6 = false→w'.heap[gb1145]? = some (.cells #[.string (⟨#[]⟩:ByteArray),.int .i64 0,.int .i64 0,.int .i64 0,.int .i64 0,.int .i64 0,.int .i64 0,.int .i64 0,.string (⟨#[]⟩:ByteArray),.string (⟨#[]⟩:ByteArray),.bool false] 34 (0,0)))∧(Below w.heap.size w w')∧(b 5 = true→Kd.R k53 53 w' w.heap.size (fun k_ => k_ ≠ gb1144) v1211 y1210)∧(b 6 = true→w'.heap[gb1145]? = some (.cells #[.string t1170,.int .i64 t1171,.int .i64 t1172,.int .i64 t1173,.int .i64 t1174,.int .i64 t1175,.int .i64 t1176,.int .i64 t1177,.string t1178,.string t1179,.bool t1180] 34 (0,0)))∧(b 7 = true→(m7_:Value) = v1211)) HT_.out HW_.out (by kernel_rfl) (by kernel_rfl) ?_ ?_ ?_
              ·exact ⟨.bool false,.bool false,by simp only [putSel,Bool.false_eq_true,if_false],BK1143.out,BK1144.out,fun _ => BK1145.out,HB.out,fun h_ => absurd h_ (by decide),fun h_ => absurd h_ (by decide),fun h_ => absurd h_ (by decide)⟩
              ·skip
               clear BK1143 BK1144 BK1145 HB
               refine steps_cons ?_ ?_
               ·rintro b a w' ⟨v1211,m7_,ha,Q_BK1143,Q_BK1144,Q_BK1145,Q_HB,Q_HO1212,Q_BK1145_e6,Q_X7_⟩ hb_ hon hoff
                refine ⟨_,rfl,fun K hK => ?_⟩
                have e2:a.tmps[2]? = some (.pointer (some ⟨gb1143,0,none⟩)):=by rw [ha];exact (putSel_off rfl).trans rfl
                replace ha:=aMk ha
                have BK1143:=aMk Q_BK1143
                have BK1144:=aMk Q_BK1144
                have BK1145:=aMk (Q_BK1145 (hoff 6 (by kernel_rfl)))
                have HB:=aMk Q_HB
                have hc0_:w'.cell? ⟨gb1143,0,none⟩ = some (.string t1170):=(bCe BK1143.out 0).trans rfl
                have hc1_:w'.cell? ⟨gb1143,1,none⟩ = some (.int .i64 t1171):=(bCe BK1143.out 1).trans rfl
                have hc2_:w'.cell? ⟨gb1143,2,none⟩ = some (.int .i64 t1172):=(bCe BK1143.out 2).trans rfl
                have hc3_:w'.cell? ⟨gb1143,3,none⟩ = some (.int .i64 t1173):=(bCe BK1143.out 3).trans rfl
                have hc4_:w'.cell? ⟨gb1143,4,none⟩ = some (.int .i64 t1174):=(bCe BK1143.out 4).trans rfl
                have hc5_:w'.cell? ⟨gb1143,5,none⟩ = some (.int .i64 t1175):=(bCe BK1143.out 5).trans rfl
                have hc6_:w'.cell? ⟨gb1143,6,none⟩ = some (.int .i64 t1176):=(bCe BK1143.out 6).trans rfl
                have hc7_:w'.cell? ⟨gb1143,7,none⟩ = some (.int .i64 t1177):=(bCe BK1143.out 7).trans rfl
                have hc8_:w'.cell? ⟨gb1143,8,none⟩ = some (.string t1178):=(bCe BK1143.out 8).trans rfl
                have hc9_:w'.cell? ⟨gb1143,9,none⟩ = some (.string t1179):=(bCe BK1143.out 9).trans rfl
                have hc10_:w'.cell? ⟨gb1143,10,none⟩ = some (.bool t1180):=(bCe BK1143.out 10).trans rfl
                refine value_ (w1:=w') (v:=.agg #[.string t1170,.int .i64 t1171,.int .i64 t1172,.int .i64 t1173,.int .i64 t1174,.int .i64 t1175,.int .i64 t1176,.int .i64 t1177,.string t1178,.string t1179,.bool t1180]) (by rfl) rfl ?_ ?_
                ·go_simp
                 (try simp only [i64_w])
                 try rfl
                refine hK.out _ _ ⟨v1211,m7_,(by rw [ha.out];exact putSel_upk 0 hb_ rfl rfl rfl),Q_BK1143,Q_BK1144,Q_BK1145,Q_HB,Q_HO1212,fun h0_ => absurd ((hoff 6 (by kernel_rfl)).symm.trans h0_) (by decide),fun h0_ => absurd ((hoff 7 (by kernel_rfl)).symm.trans h0_) (by decide)⟩
               refine steps_cons ?_ ?_
               ·rintro b a w' ⟨v1211,m7_,ha,Q_BK1143,Q_BK1144,Q_BK1145,Q_HB,Q_HO1212,Q_BK1145_e6,Q_X7_⟩ hb_ hon hoff
                refine ⟨_,rfl,fun K hK => ?_⟩
                have e2:a.tmps[2]? = some (.pointer (some ⟨gb1143,0,none⟩)):=by rw [ha];exact (putSel_off rfl).trans rfl
                replace ha:=aMk ha
                have BK1143:=aMk Q_BK1143
                have BK1144:=aMk Q_BK1144
                have BK1145:=aMk (Q_BK1145 (hoff 6 (by kernel_rfl)))
                have HB:=aMk Q_HB
                have hc0_:w'.cell? ⟨gb1143,0,none⟩ = some (.string t1170):=(bCe BK1143.out 0).trans rfl
                have hc1_:w'.cell? ⟨gb1143,1,none⟩ = some (.int .i64 t1171):=(bCe BK1143.out 1).trans rfl
                have hc2_:w'.cell? ⟨gb1143,2,none⟩ = some (.int .i64 t1172):=(bCe BK1143.out 2).trans rfl
                have hc3_:w'.cell? ⟨gb1143,3,none⟩ = some (.int .i64 t1173):=(bCe BK1143.out 3).trans rfl
                have hc4_:w'.cell? ⟨gb1143,4,none⟩ = some (.int .i64 t1174):=(bCe BK1143.out 4).trans rfl
                have hc5_:w'.cell? ⟨gb1143,5,none⟩ = some (.int .i64 t1175):=(bCe BK1143.out 5).trans rfl
                have hc6_:w'.cell? ⟨gb1143,6,none⟩ = some (.int .i64 t1176):=(bCe BK1143.out 6).trans rfl
                have hc7_:w'.cell? ⟨gb1143,7,none⟩ = some (.int .i64 t1177):=(bCe BK1143.out 7).trans rfl
                have hc8_:w'.cell? ⟨gb1143,8,none⟩ = some (.string t1178):=(bCe BK1143.out 8).trans rfl
                have hc9_:w'.cell? ⟨gb1143,9,none⟩ = some (.string t1179):=(bCe BK1143.out 9).trans rfl
                have hc10_:w'.cell? ⟨gb1143,10,none⟩ = some (.bool t1180):=(bCe BK1143.out 10).trans rfl
                refine value_ (w1:=w') (v:=.agg #[.string t1170,.int .i64 t1171,.int .i64 t1172,.int .i64 t1173,.int .i64 t1174,.int .i64 t1175,.int .i64 t1176,.int .i64 t1177,.string t1178,.string t1179,.bool t1180]) (by rfl) rfl ?_ ?_
                ·go_simp
                 (try simp only [i64_w])
                 try rfl
                refine hK.out _ _ ⟨v1211,m7_,(by rw [ha.out];exact putSel_upk 1 hb_ rfl rfl rfl),Q_BK1143,Q_BK1144,Q_BK1145,Q_HB,fun h0_ => absurd ((hoff 5 (by kernel_rfl)).symm.trans h0_) (by decide),fun h0_ => absurd ((hoff 6 (by kernel_rfl)).symm.trans h0_) (by decide),fun h0_ => absurd ((hoff 7 (by kernel_rfl)).symm.trans h0_) (by decide)⟩
               refine steps_cons ?_ ?_
               ·rintro b a w' ⟨v1211,m7_,ha,Q_BK1143,Q_BK1144,Q_BK1145,Q_HB,Q_HO1212,Q_BK1145_e6,Q_X7_⟩ hb_ hon hoff
                refine ⟨_,rfl,fun K hK => ?_⟩
                have e130:a.tmps[130]? = some (.pointer (some ⟨gb1143,6,none⟩)):=by rw [ha];exact (putSel_off rfl).trans rfl
                replace ha:=aMk ha
                have BK1143:=aMk Q_BK1143
                have BK1144:=aMk Q_BK1144
                have BK1145:=aMk (Q_BK1145 (hoff 6 (by kernel_rfl)))
                have HB:=aMk Q_HB
                have hc0_:w'.cell? ⟨gb1143,0,none⟩ = some (.string t1170):=(bCe BK1143.out 0).trans rfl
                have hc1_:w'.cell? ⟨gb1143,1,none⟩ = some (.int .i64 t1171):=(bCe BK1143.out 1).trans rfl
                have hc2_:w'.cell? ⟨gb1143,2,none⟩ = some (.int .i64 t1172):=(bCe BK1143.out 2).trans rfl
                have hc3_:w'.cell? ⟨gb1143,3,none⟩ = some (.int .i64 t1173):=(bCe BK1143.out 3).trans rfl
                have hc4_:w'.cell? ⟨gb1143,4,none⟩ = some (.int .i64 t1174):=(bCe BK1143.out 4).trans rfl
                have hc5_:w'.cell? ⟨gb1143,5,none⟩ = some (.int .i64 t1175):=(bCe BK1143.out 5).trans rfl
                have hc6_:w'.cell? ⟨gb1143,6,none⟩ = some (.int .i64 t1176):=(bCe BK1143.out 6).trans rfl
                have hc7_:w'.cell? ⟨gb1143,7,none⟩ = some (.int .i64 t1177):=(bCe BK1143.out 7).trans rfl
                have hc8_:w'.cell? ⟨gb1143,8,none⟩ = some (.string t1178):=(bCe BK1143.out 8).trans rfl
                have hc9_:w'.cell? ⟨gb1143,9,none⟩ = some (.string t1179):=(bCe BK1143.out 9).trans rfl
                have hc10_:w'.cell? ⟨gb1143,10,none⟩ = some (.bool t1180):=(bCe BK1143.out 10).trans rfl
                refine value_ (w1:=w') (v:=.int .i64 t1176) (by rfl) rfl ?_ ?_
                ·go_simp
                 (try simp only [i64_w])
                 try rfl
                refine hK.out _ _ ⟨v1211,m7_,(by rw [ha.out];exact putSel_upk 2 hb_ rfl rfl rfl),Q_BK1143,Q_BK1144,Q_BK1145,Q_HB,fun h0_ => absurd ((hoff 5 (by kernel_rfl)).symm.trans h0_) (by decide),fun h0_ => absurd ((hoff 6 (by kernel_rfl)).symm.trans h0_) (by decide),fun h0_ => absurd ((hoff 7 (by kernel_rfl)).symm.trans h0_) (by decide)⟩
               refine steps_cons ?_ ?_
               ·rintro b a w' ⟨v1211,m7_,ha,Q_BK1143,Q_BK1144,Q_BK1145,Q_HB,Q_HO1212,Q_BK1145_e6,Q_X7_⟩ hb_ hon hoff
                refine ⟨_,rfl,fun K hK => ?_⟩
                have e129:a.tmps[129]? = some (.agg #[.string t1170,.int .i64 t1171,.int .i64 t1172,.int .i64 t1173,.int .i64 t1174,.int .i64 t1175,.int .i64 t1176,.int .i64 t1177,.string t1178,.string t1179,.bool t1180]):=by rw [ha];exact putSel_on (e:=(1,129,.agg #[.string t1170,.int .i64 t1171,.int .i64 t1172,.int .i64 t1173,.int .i64 t1174,.int .i64 t1175,.int .i64 t1176,.int .i64 t1177,.string t1178,.string t1179,.bool t1180])) 1 rfl rfl (hon 1 (by kernel_rfl)) rfl
                have e131:a.tmps[131]? = some (.int .i64 t1176):=by rw [ha];exact putSel_on (e:=(3,131,.int .i64 t1176)) 2 rfl rfl (hon 3 (by kernel_rfl)) rfl
                replace ha:=aMk ha
                have BK1143:=aMk Q_BK1143
                have BK1144:=aMk Q_BK1144
                have BK1145:=aMk (Q_BK1145 (hoff 6 (by kernel_rfl)))
                have HB:=aMk Q_HB
                refine goes_ Try.func111 (by kernel_rfl) rfl #[.agg #[.string t1170,.int .i64 t1171,.int .i64 t1172,.int .i64 t1173,.int .i64 t1174,.int .i64 t1175,.int .i64 t1176,.int .i64 t1177,.string t1178,.string t1179,.bool t1180],.int .i64 t1176,.int .i64 16,.string (⟨#[]⟩:ByteArray)] (by rfl) rfl rfl (by first|(simp only [List.map_toArray,List.map_cons,List.map_nil,Act.eval,Array.getD_eq_getD_getElem?,Option.getD_some,e129,e131];done)|(simp only [List.map_toArray,List.map_cons,List.map_nil,Act.eval,Array.getD_eq_getD_getElem?,Option.getD_some,e129,e131];rfl)) ?_
                with_reducible refine (spec_l10Reply.calls t1170 t1171 t1172 t1173 t1174 t1175 t1176 t1177 t1178 t1179 t1180 t1176 16 (⟨#[]⟩:ByteArray) t1203 t1204 t1205 t1206 t1207 t1208 t1209 _ A132.out).mono ?_
                rintro e w134 ⟨rfl,hb⟩
                refine ⟨_,rfl,?_⟩
                replace BK1143:=aMk (bkB BK1143.out hb)
                replace BK1144:=aMk (bkB BK1144.out hb)
                replace BK1145:=aMk (bkB BK1145.out hb)
                replace HB:=aMk (bU hb)
                (try clear hb)
                (try clear hb2)
                (try clear hk)
                (try clear hi)
                refine hK.out _ _ ⟨v1211,m7_,(by rw [ha.out];exact putSel_upk 3 hb_ rfl rfl rfl),(pB BK1143.out),(pB BK1144.out),fun _ => (pB BK1145.out),bW,fun h0_ => absurd ((hoff 5 (by kernel_rfl)).symm.trans h0_) (by decide),fun h0_ => absurd ((hoff 6 (by kernel_rfl)).symm.trans h0_) (by decide),fun h0_ => absurd ((hoff 7 (by kernel_rfl)).symm.trans h0_) (by decide)⟩
               refine steps_cons ?_ ?_
               ·rintro b a w' ⟨v1211,m7_,ha,Q_BK1143,Q_BK1144,Q_BK1145,Q_HB,Q_HO1212,Q_BK1145_e6,Q_X7_⟩ hb_ hon hoff
                refine ⟨_,rfl,fun K hK => ?_⟩
                have e132:a.tmps[132]? = some (.agg #[.int .i64 t1203,.int .i64 t1204,.int .i64 t1205,.int .i64 t1206,.int .i64 t1207,.int .i64 t1208,.string t1209]):=by rw [ha];exact putSel_on (e:=(4,132,.agg #[.int .i64 t1203,.int .i64 t1204,.int .i64 t1205,.int .i64 t1206,.int .i64 t1207,.int .i64 t1208,.string t1209])) 3 rfl rfl (hon 4 (by kernel_rfl)) rfl
                replace ha:=aMk ha
                have BK1143:=aMk Q_BK1143
                have BK1144:=aMk Q_BK1144
                have HB:=aMk Q_HB
                refine Kd.R_lit_step k53 _ 53 ?hg (N:=133) ?hd (xs:=([(⟨t1203,t1204,t1205,t1206,t1207,t1208,t1209⟩:S53)]:List (S53))) (inner:=[.int .i64 t1203,.int .i64 t1204,.int .i64 t1205,.int .i64 t1206,.int .i64 t1207,.int .i64 t1208,.string t1209]) (ok:=fun _ => True) (okp:=fun _ => True) ?hr ?hp (fun _ hk => hk) trivial (Below.refl _ _) (Nat.le_refl _) (by simp) ?_;(case hd => rfl);(case hg => rfl);(case hr => first|(go_simp;done)|(go_simp;rfl));(case hp => exact (Reps.c7 (show Kd.M k53 _ _ _ (⟨t1203,t1204,t1205,t1206,t1207,t1208,t1209⟩:S53) [.int .i64 t1203,.int .i64 t1204,.int .i64 t1205,.int .i64 t1206,.int .i64 t1207,.int .i64 t1208,.string t1209] from (k53_mkM _ _ _ (⟨t1203,t1204,t1205,t1206,t1207,t1208,t1209⟩:S53) )) (Reps.none _ _)))
                intro v1211 w136 ho137 hb hg_ hnew_
                clear hg_ hnew_
                (first|rw [← Ny1210.out] at ho137|(simp only [Int.reduceToNat] at ho137;rw [← Ny1210.out] at ho137))
                have n0_:=aMk (Kd.R_lower (Kd.R_newB ho137 (g:=gb1144) (o:=.cells #[.int .i64 a1_0,.int .i64 a1_1,.int .i64 a1_2,.int .i64 a1_3,.int .i64 a1_4,.int .i64 a1_5,.string a1_6] 53 (0,0)) (pB BK1144.out)) (below_size bW))
                have n1_:=aMk (bkB BK1143.out hb)
                have n2_:=aMk (bkB BK1144.out hb)
                have n4_:=aMk (bU hb)
                have z_BK1145:=fun (h0_:b 6 = false) => (show w136.heap[gb1145]? = some (.cells #[.string (⟨#[]⟩:ByteArray),.int .i64 0,.int .i64 0,.int .i64 0,.int .i64 0,.int .i64 0,.int .i64 0,.int .i64 0,.string (⟨#[]⟩:ByteArray),.string (⟨#[]⟩:ByteArray),.bool false] 34 (0,0)) from by first|exact (blk_below (g:=gb1145) (o:=.cells #[.string (⟨#[]⟩:ByteArray),.int .i64 0,.int .i64 0,.int .i64 0,.int .i64 0,.int .i64 0,.int .i64 0,.int .i64 0,.string (⟨#[]⟩:ByteArray),.string (⟨#[]⟩:ByteArray),.bool false] 34 (0,0)) (by refine pB ?_;exact (Q_BK1145 h0_)) hb))
                have z_BK1145_e6:=fun (h0_:b 6 = true) => (show w136.heap[gb1145]? = some (.cells #[.string t1170,.int .i64 t1171,.int .i64 t1172,.int .i64 t1173,.int .i64 t1174,.int .i64 t1175,.int .i64 t1176,.int .i64 t1177,.string t1178,.string t1179,.bool t1180] 34 (0,0)) from by first|exact (blk_below (g:=gb1145) (o:=.cells #[.string t1170,.int .i64 t1171,.int .i64 t1172,.int .i64 t1173,.int .i64 t1174,.int .i64 t1175,.int .i64 t1176,.int .i64 t1177,.string t1178,.string t1179,.bool t1180] 34 (0,0)) (by refine pB ?_;exact (Q_BK1145_e6 h0_)) hb))
                clear BK1143
                clear BK1144
                clear HB
                have HO1212:=n0_
                have BK1143:=n1_
                have BK1144:=n2_
                have HB:=n4_
                clear n0_ n1_ n2_ n4_
                clear hb ho137
                refine hK.out _ _ ⟨v1211,m7_,(by rw [ha.out];exact putSel_upk 4 hb_ rfl rfl rfl),(pB BK1143.out),(pB BK1144.out),z_BK1145,bW,fun _ => (kR (Kd.R_mono HO1212.out (fun _ hk => hk.2))),z_BK1145_e6,fun h0_ => absurd ((hoff 7 (by kernel_rfl)).symm.trans h0_) (by decide)⟩
               refine steps_cons ?_ ?_
               ·rintro b a w' ⟨v1211,m7_,ha,Q_BK1143,Q_BK1144,Q_BK1145,Q_HB,Q_HO1212,Q_BK1145_e6,Q_X7_⟩ hb_ hon hoff
                refine ⟨_,rfl,fun K hK => ?_⟩
                have e4:a.tmps[4]? = some (.pointer (some ⟨gb1145,0,none⟩)):=by rw [ha];exact (putSel_off rfl).trans rfl
                have e128:a.tmps[128]? = some (.agg #[.string t1170,.int .i64 t1171,.int .i64 t1172,.int .i64 t1173,.int .i64 t1174,.int .i64 t1175,.int .i64 t1176,.int .i64 t1177,.string t1178,.string t1179,.bool t1180]):=by rw [ha];exact putSel_on (e:=(0,128,.agg #[.string t1170,.int .i64 t1171,.int .i64 t1172,.int .i64 t1173,.int .i64 t1174,.int .i64 t1175,.int .i64 t1176,.int .i64 t1177,.string t1178,.string t1179,.bool t1180])) 0 rfl rfl (hon 0 (by kernel_rfl)) rfl
                replace ha:=aMk ha
                have BK1143:=aMk Q_BK1143
                have BK1144:=aMk Q_BK1144
                have BK1145:=aMk (Q_BK1145 hb_)
                have HB:=aMk Q_HB
                have hs136:w'.cell? ⟨gb1145,0,none⟩ = some (.string (⟨#[]⟩:ByteArray)):=(bCe BK1145.out 0).trans rfl
                have hfs136:=bFr BK1145.out 0
                have hns136_0:=NB1143_1145.out
                have hns136_1:=NB1144_1145.out
                have hms136_0:=NB1145_1143.out
                have hms136_1:=NB1145_1144.out
                have hs137:w'.cell? ⟨gb1145,1,none⟩ = some (.int .i64 0):=(bCe BK1145.out 1).trans rfl
                have hfs137:=bFr BK1145.out 1
                have hns137_0:=NB1143_1145.out
                have hns137_1:=NB1144_1145.out
                have hms137_0:=NB1145_1143.out
                have hms137_1:=NB1145_1144.out
                have hs138:w'.cell? ⟨gb1145,2,none⟩ = some (.int .i64 0):=(bCe BK1145.out 2).trans rfl
                have hfs138:=bFr BK1145.out 2
                have hns138_0:=NB1143_1145.out
                have hns138_1:=NB1144_1145.out
                have hms138_0:=NB1145_1143.out
                have hms138_1:=NB1145_1144.out
                have hs139:w'.cell? ⟨gb1145,3,none⟩ = some (.int .i64 0):=(bCe BK1145.out 3).trans rfl
                have hfs139:=bFr BK1145.out 3
                have hns139_0:=NB1143_1145.out
                have hns139_1:=NB1144_1145.out
                have hms139_0:=NB1145_1143.out
                have hms139_1:=NB1145_1144.out
                have hs140:w'.cell? ⟨gb1145,4,none⟩ = some (.int .i64 0):=(bCe BK1145.out 4).trans rfl
                have hfs140:=bFr BK1145.out 4
                have hns140_0:=NB1143_1145.out
                have hns140_1:=NB1144_1145.out
                have hms140_0:=NB1145_1143.out
                have hms140_1:=NB1145_1144.out
                have hs141:w'.cell? ⟨gb1145,5,none⟩ = some (.int .i64 0):=(bCe BK1145.out 5).trans rfl
                have hfs141:=bFr BK1145.out 5
                have hns141_0:=NB1143_1145.out
                have hns141_1:=NB1144_1145.out
                have hms141_0:=NB1145_1143.out
                have hms141_1:=NB1145_1144.out
                have hs142:w'.cell? ⟨gb1145,6,none⟩ = some (.int .i64 0):=(bCe BK1145.out 6).trans rfl
                have hfs142:=bFr BK1145.out 6
                have hns142_0:=NB1143_1145.out
                have hns142_1:=NB1144_1145.out
                have hms142_0:=NB1145_1143.out
                have hms142_1:=NB1145_1144.out
                have hs143:w'.cell? ⟨gb1145,7,none⟩ = some (.int .i64 0):=(bCe BK1145.out 7).trans rfl
                have hfs143:=bFr BK1145.out 7
                have hns143_0:=NB1143_1145.out
                have hns143_1:=NB1144_1145.out
                have hms143_0:=NB1145_1143.out
                have hms143_1:=NB1145_1144.out
                have hs144:w'.cell? ⟨gb1145,8,none⟩ = some (.string (⟨#[]⟩:ByteArray)):=(bCe BK1145.out 8).trans rfl
                have hfs144:=bFr BK1145.out 8
                have hns144_0:=NB1143_1145.out
                have hns144_1:=NB1144_1145.out
                have hms144_0:=NB1145_1143.out
                have hms144_1:=NB1145_1144.out
                have hs145:w'.cell? ⟨gb1145,9,none⟩ = some (.string (⟨#[]⟩:ByteArray)):=(bCe BK1145.out 9).trans rfl
                have hfs145:=bFr BK1145.out 9
                have hns145_0:=NB1143_1145.out
                have hns145_1:=NB1144_1145.out
                have hms145_0:=NB1145_1143.out
                have hms145_1:=NB1145_1144.out
                have hs146:w'.cell? ⟨gb1145,10,none⟩ = some (.bool false):=(bCe BK1145.out 10).trans rfl
                have hfs146:=bFr BK1145.out 10
                have hns146_0:=NB1143_1145.out
                have hns146_1:=NB1144_1145.out
                have hms146_0:=NB1145_1143.out
                have hms146_1:=NB1145_1144.out
                refine skip_ (w1:=?_) (by rfl) rfl ?_ ?_
                rotate_left
                ·go_simp
                 rfl
                refine hK.out _ _ ⟨v1211,m7_,(by rw [ha.out];exact putSel_none (v:=undef) rfl),(fB BK1143.out),(fB BK1144.out),fun h0_ => absurd ((up_self b 6).symm.trans h0_) (by decide),bW,fun h0_ => (kR (Kd.R_mono (Kd.R_far (p:=⟨gb1145,10,none⟩) (Kd.R_far (p:=⟨gb1145,9,none⟩) (Kd.R_far (p:=⟨gb1145,8,none⟩) (Kd.R_far (p:=⟨gb1145,7,none⟩) (Kd.R_far (p:=⟨gb1145,6,none⟩) (Kd.R_far (p:=⟨gb1145,5,none⟩) (Kd.R_far (p:=⟨gb1145,4,none⟩) (Kd.R_far (p:=⟨gb1145,3,none⟩) (Kd.R_far (p:=⟨gb1145,2,none⟩) (Kd.R_far (p:=⟨gb1145,1,none⟩) (Kd.R_far (p:=⟨gb1145,0,none⟩) (Kd.R_types (Q_HO1212 h0_) BK1145.out (by decide)) (fun _ hk => hk.2) (.string t1170)) (fun _ hk => hk.2) (.int .i64 t1171)) (fun _ hk => hk.2) (.int .i64 t1172)) (fun _ hk => hk.2) (.int .i64 t1173)) (fun _ hk => hk.2) (.int .i64 t1174)) (fun _ hk => hk.2) (.int .i64 t1175)) (fun _ hk => hk.2) (.int .i64 t1176)) (fun _ hk => hk.2) (.int .i64 t1177)) (fun _ hk => hk.2) (.string t1178)) (fun _ hk => hk.2) (.string t1179)) (fun _ hk => hk.2) (.bool t1180)) (fun _ hk => hk.1))),fun _ => (by refine pB ?_;refine blk_put (cs:=#[.string t1170,.int .i64 t1171,.int .i64 t1172,.int .i64 t1173,.int .i64 t1174,.int .i64 t1175,.int .i64 t1176,.int .i64 t1177,.string t1178,.string t1179,.bool false]) ?_ 10 _ rfl;refine pB ?_;refine blk_put (cs:=#[.string t1170,.int .i64 t1171,.int .i64 t1172,.int .i64 t1173,.int .i64 t1174,.int .i64 t1175,.int .i64 t1176,.int .i64 t1177,.string t1178,.string (⟨#[]⟩:ByteArray),.bool false]) ?_ 9 _ rfl;refine pB ?_;refine blk_put (cs:=#[.string t1170,.int .i64 t1171,.int .i64 t1172,.int .i64 t1173,.int .i64 t1174,.int .i64 t1175,.int .i64 t1176,.int .i64 t1177,.string (⟨#[]⟩:ByteArray),.string (⟨#[]⟩:ByteArray),.bool false]) ?_ 8 _ rfl;refine pB ?_;refine blk_put (cs:=#[.string t1170,.int .i64 t1171,.int .i64 t1172,.int .i64 t1173,.int .i64 t1174,.int .i64 t1175,.int .i64 t1176,.int .i64 0,.string (⟨#[]⟩:ByteArray),.string (⟨#[]⟩:ByteArray),.bool false]) ?_ 7 _ rfl;refine pB ?_;refine blk_put (cs:=#[.string t1170,.int .i64 t1171,.int .i64 t1172,.int .i64 t1173,.int .i64 t1174,.int .i64 t1175,.int .i64 0,.int .i64 0,.string (⟨#[]⟩:ByteArray),.string (⟨#[]⟩:ByteArray),.bool false]) ?_ 6 _ rfl;refine pB ?_;refine blk_put (cs:=#[.string t1170,.int .i64 t1171,.int .i64 t1172,.int .i64 t1173,.int .i64 t1174,.int .i64 0,.int .i64 0,.int .i64 0,.string (⟨#[]⟩:ByteArray),.string (⟨#[]⟩:ByteArray),.bool false]) ?_ 5 _ rfl;refine pB ?_;refine blk_put (cs:=#[.string t1170,.int .i64 t1171,.int .i64 t1172,.int .i64 t1173,.int .i64 0,.int .i64 0,.int .i64 0,.int .i64 0,.string (⟨#[]⟩:ByteArray),.string (⟨#[]⟩:ByteArray),.bool false]) ?_ 4 _ rfl;refine pB ?_;refine blk_put (cs:=#[.string t1170,.int .i64 t1171,.int .i64 t1172,.int .i64 0,.int .i64 0,.int .i64 0,.int .i64 0,.int .i64 0,.string (⟨#[]⟩:ByteArray),.string (⟨#[]⟩:ByteArray),.bool false]) ?_ 3 _ rfl;refine pB ?_;refine blk_put (cs:=#[.string t1170,.int .i64 t1171,.int .i64 0,.int .i64 0,.int .i64 0,.int .i64 0,.int .i64 0,.int .i64 0,.string (⟨#[]⟩:ByteArray),.string (⟨#[]⟩:ByteArray),.bool false]) ?_ 2 _ rfl;refine pB ?_;refine blk_put (cs:=#[.string t1170,.int .i64 0,.int .i64 0,.int .i64 0,.int .i64 0,.int .i64 0,.int .i64 0,.int .i64 0,.string (⟨#[]⟩:ByteArray),.string (⟨#[]⟩:ByteArray),.bool false]) ?_ 1 _ rfl;refine pB ?_;refine blk_put (cs:=#[.string (⟨#[]⟩:ByteArray),.int .i64 0,.int .i64 0,.int .i64 0,.int .i64 0,.int .i64 0,.int .i64 0,.int .i64 0,.string (⟨#[]⟩:ByteArray),.string (⟨#[]⟩:ByteArray),.bool false]) ?_ 0 _ rfl;refine pB ?_;exact BK1145.out),fun h0_ => absurd ((hoff 7 (by kernel_rfl)).symm.trans h0_) (by decide)⟩
               refine steps_cons ?_ ?_
               ·rintro b a w' ⟨v1211,m7_,ha,Q_BK1143,Q_BK1144,Q_BK1145,Q_HB,Q_HO1212,Q_BK1145_e6,Q_X7_⟩ hb_ hon hoff
                refine ⟨_,rfl,fun K hK => ?_⟩
                have e133:a.tmps[133]? = some (v1211):=by rw [ha];exact putSel_on (e:=(5,133,v1211)) 4 rfl rfl (hon 5 (by kernel_rfl)) rfl
                replace ha:=aMk ha
                have BK1143:=aMk Q_BK1143
                have BK1144:=aMk Q_BK1144
                have HB:=aMk Q_HB
                have HO1212:=aMk (Q_HO1212 (hon 5 (by kernel_rfl)))
                have BK1145:=aMk (Q_BK1145_e6 (hon 6 (by kernel_rfl)))
                refine value_ (w1:=w') (v:=v1211) (by rfl) rfl ?_ ?_
                ·go_simp
                 (try simp only [i64_w])
                 try rfl
                refine hK.out _ _ ⟨v1211,(v1211),(by rw [ha.out];exact putSel_upk 5 hb_ rfl rfl rfl),Q_BK1143,Q_BK1144,fun h0_ => absurd ((hon 6 (by kernel_rfl)).symm.trans h0_) (by decide),Q_HB,Q_HO1212,Q_BK1145_e6,fun _ => rfl⟩
               exact steps_nil
              rintro b a w148 hall ⟨v1211,m7_,ha,Q_BK1143,Q_BK1144,Q_BK1145,Q_HB,Q_HO1212,Q_BK1145_e6,Q_X7_⟩
              clear BK1143 BK1144 BK1145 HB
              have hb0_:=hall 0 (by kernel_rfl)
              have hb1_:=hall 1 (by kernel_rfl)
              have hb3_:=hall 3 (by kernel_rfl)
              have hb4_:=hall 4 (by kernel_rfl)
              have hb5_:=hall 5 (by kernel_rfl)
              have hb6_:=hall 6 (by kernel_rfl)
              have hb7_:=hall 7 (by kernel_rfl)
              subst ha
              obtain rfl:=Q_X7_ hb7_
              simp only [putSel,hb0_,hb1_,hb3_,hb4_,hb5_,hb6_,hb7_,if_true,Act.put,List.setIfInBounds_toArray,List.set_cons_zero,List.set_cons_succ]
              have BK1143:=aMk Q_BK1143
              clear Q_BK1143
              have BK1144:=aMk Q_BK1144
              clear Q_BK1144
              clear Q_BK1145
              have HB:=aMk Q_HB
              clear Q_HB
              have HO1212:=aMk (Q_HO1212 hb5_)
              clear Q_HO1212
              have BK1145:=aMk (Q_BK1145_e6 hb6_)
              clear Q_BK1145_e6
              clear hall hb0_ hb1_ hb3_ hb4_ hb5_ hb6_ hb7_
              try go_wp2
              refine bodyPost_ret (results_ct rfl _ _ gb1145 34 #[.string t1170,.int .i64 t1171,.int .i64 t1172,.int .i64 t1173,.int .i64 t1174,.int .i64 t1175,.int .i64 t1176,.int .i64 t1177,.string t1178,.string t1179,.bool t1180] (0,0) _ rfl (pB BK1145.out) Try.underlying34 rfl (by kernel_rfl)) rfl ?_
              exact ⟨_,eRf,kR (Kd.R_mono HO1212.out (fun _ hk => trivial)),bW⟩
   ·rw [if_neg c15] at H
    have c15b0:((Go.bits .and .i64 a1_4 2) == 0) = false:=beq_eq_false_iff_ne.mpr c15
    have c15b1:((Go.bits .and .i64 a1_4 2) != 0) = true:=bne_iff_ne.mpr c15
    have HC149:=aMk H
    clear H
    go_enter Try.func103,Try.ntmps103
    go_upto_region 13 with (first|((with_reducible refine gate_dst (N:=2) rfl ?_);(try (refine gate_guard (by rfl) ?_;dsimp only));refine bxE (N:=2) (cs:=#[.string a0_0,.int .i64 a0_1,.int .i64 a0_2,.int .i64 a0_3,.int .i64 a0_4,.int .i64 a0_5,.int .i64 a0_6,.int .i64 a0_7,.string a0_8,.string a0_9,.bool a0_10]) (t:=34) ?_;intro gb1143 hg w150 hbox hb;have BK1143:=aMk (hbox);have GW1143:=aMk (bZ hg);have GE1143:=aMk (bZ hg);replace HB:=aMk (bSt hb);clear hb hbox hg)|((with_reducible refine gate_dst (N:=3) rfl ?_);(try (refine gate_guard (by rfl) ?_;dsimp only));refine bxE (N:=3) (cs:=#[.int .i64 a1_0,.int .i64 a1_1,.int .i64 a1_2,.int .i64 a1_3,.int .i64 a1_4,.int .i64 a1_5,.string a1_6]) (t:=53) ?_;intro gb1144 hg w151 hbox hb;have BK1144:=aMk (hbox);have GW1144:=aMk (bG bW hg);have GE1144:=aMk (bG bW hg);replace HB:=aMk (bU hb);have NB1143_1144:=aMk ((bkL BK1143.out hg:gb1143 ≠ gb1144));have NB1144_1143:=aMk ((bkG BK1143.out hg:gb1144 ≠ gb1143));replace BK1143:=aMk (bkB BK1143.out hb);clear hb hbox hg)|((with_reducible refine gate_dst (N:=4) rfl ?_);(try (refine gate_guard (by rfl) ?_;dsimp only));refine bxE (N:=4) (cs:=#[.string (⟨#[]⟩:ByteArray),.int .i64 0,.int .i64 0,.int .i64 0,.int .i64 0,.int .i64 0,.int .i64 0,.int .i64 0,.string (⟨#[]⟩:ByteArray),.string (⟨#[]⟩:ByteArray),.bool false]) (t:=34) ?_;intro gb1145 hg w152 hbox hb;have BK1145:=aMk (hbox);have GW1145:=aMk (bG bW hg);have GE1145:=aMk (bG bW hg);replace HB:=aMk (bU hb);have NB1143_1145:=aMk ((bkL BK1143.out hg:gb1143 ≠ gb1145));have NB1145_1143:=aMk ((bkG BK1143.out hg:gb1145 ≠ gb1143));replace BK1143:=aMk (bkB BK1143.out hb);have NB1144_1145:=aMk ((bkL BK1144.out hg:gb1144 ≠ gb1145));have NB1145_1144:=aMk ((bkG BK1144.out hg:gb1145 ≠ gb1144));replace BK1144:=aMk (bkB BK1144.out hb);clear hb hbox hg)|((with_reducible refine gate_dst (N:=7) rfl ?_);(try (refine gate_guard (by rfl) ?_;dsimp only));refine Kd.R_lit k53 _ 53 ?hg (N:=7) ?hd (xs:=([]:List (S53))) (inner:=[]) (ok:=fun _ => True) (okp:=fun _ => True) ?hr ?hp (fun _ hk => hk) trivial (Below.refl _ _) (Nat.le_refl _) (by simp) ?_;(case hd => rfl);(case hg => rfl);(case hr => first|(go_simp;done)|(go_simp;rfl));(case hp => exact (Reps.none _ _));intro v1147 w153 ho154 hb hg_ hnew_;clear hg_ hnew_;(first|rw [← Ny1146.out] at ho154|(simp only [Int.reduceToNat] at ho154;rw [← Ny1146.out] at ho154));have HO1148:=aMk (Kd.R_lower (Kd.R_newB ho154 (g:=gb1144) (o:=.cells #[.int .i64 a1_0,.int .i64 a1_1,.int .i64 a1_2,.int .i64 a1_3,.int .i64 a1_4,.int .i64 a1_5,.string a1_6] 53 (0,0)) (pB BK1144.out)) (below_size bW));replace BK1143:=aMk (bkB BK1143.out hb);replace BK1144:=aMk (bkB BK1144.out hb);replace BK1145:=aMk (bkB BK1145.out hb);replace HB:=aMk (bU hb);clear hb ho154;have hnb155:=NB1143_1144.out;have hnc155:=NB1144_1143.out;have hnb156:=NB1143_1145.out;have hnc156:=NB1145_1143.out;obtain ⟨Z157_0,Z157_1,Z157_2,Z157_3,Z157_4,Z157_5,Z157_6,Z157_7,Z157_8,Z157_9,Z157_10,Y157_0,Y157_1,Y157_2,Y157_3,Y157_4,Y157_5,Y157_6,Y157_7,Y157_8,Y157_9,Y157_10⟩:=bC11 BK1143.out;have hnb158:=NB1144_1145.out;have hnc158:=NB1145_1144.out;obtain ⟨Z159_0,Z159_1,Z159_2,Z159_3,Z159_4,Z159_5,Z159_6,Y159_0,Y159_1,Y159_2,Y159_3,Y159_4,Y159_5,Y159_6⟩:=bC7 BK1144.out))
    (try simp only [Act.put,List.setIfInBounds_toArray,List.set_cons_zero,List.set_cons_succ])
    go_cut [46] (fun v46 wc => ∃ (kq:Nat) (x46_148:Bool),v46 = .bool x46_148∧Aside0 (spec_l10Take.j0 kq x46_148 a0_0 a0_1 a0_2 a0_3 a0_4 a0_5 a0_6 a0_7 a0_8 a0_9 a0_10 = some (r1,r2,r3,r4,r5,r6,r7,r8,r9,r10,r11,r12))∧Aside0 (kq≤k)∧Aside0 (wc.heap[gb1143]? = some (.cells #[.string a0_0,.int .i64 a0_1,.int .i64 a0_2,.int .i64 a0_3,.int .i64 a0_4,.int .i64 a0_5,.int .i64 a0_6,.int .i64 a0_7,.string a0_8,.string a0_9,.bool a0_10] 34 (0,0)))∧Aside0 (wc.heap[gb1144]? = some (.cells #[.int .i64 a1_0,.int .i64 a1_1,.int .i64 a1_2,.int .i64 a1_3,.int .i64 a1_4,.int .i64 a1_5,.string a1_6] 53 (0,0)))∧Aside0 (wc.heap[gb1145]? = some (.cells #[.string (⟨#[]⟩:ByteArray),.int .i64 0,.int .i64 0,.int .i64 0,.int .i64 0,.int .i64 0,.int .i64 0,.int .i64 0,.string (⟨#[]⟩:ByteArray),.string (⟨#[]⟩:ByteArray),.bool false] 34 (0,0)))∧Aside0 (Below w.heap.size w wc))
    case first =>
     have H:=HC149.out
     clear HC149
     by_cases c160:a0_4 = 1
     ·rw [if_pos c160] at H
      have c160b0:(a0_4 == 1) = true:=beq_iff_eq.mpr c160
      have c160b1:(a0_4 != 1) = false:=bne_eq_false_iff_eq.mpr c160
      clear c160
      (first|rw [c160b0]|(simp only [i64_w,i32_w];rw [c160b0]) | skip)
      replace H:=Option.bind_eq_some_iff.mp H
      obtain ⟨t1149,A1610,H⟩:=H
      try dsimp only at H
      have A161:=aMk A1610
      clear A1610
      have H':=aMk H
      clear H
      try go_wp2
      replace HO1148:=aMk (Kd.R_drew HO1148.out)
      replace BK1143:=aMk (bDr BK1143.out)
      replace BK1144:=aMk (bDr BK1144.out)
      replace BK1145:=aMk (bDr BK1145.out)
      replace HB:=aMk (bw1 HB.out)
      refine start_ (n:=12) (S:=fun w' => w'.cell? ⟨gb1143,0,none⟩ = some (.string a0_0)∧w'.cell? ⟨gb1143,1,none⟩ = some (.int .i64 a0_1)∧w'.cell? ⟨gb1143,2,none⟩ = some (.int .i64 a0_2)∧w'.cell? ⟨gb1143,3,none⟩ = some (.int .i64 a0_3)∧w'.cell? ⟨gb1143,4,none⟩ = some (.int .i64 a0_4)∧w'.cell? ⟨gb1143,5,none⟩ = some (.int .i64 a0_5)∧w'.cell? ⟨gb1143,6,none⟩ = some (.int .i64 a0_6)∧w'.cell? ⟨gb1143,7,none⟩ = some (.int .i64 a0_7)∧w'.cell? ⟨gb1143,8,none⟩ = some (.string a0_8)∧w'.cell? ⟨gb1143,9,none⟩ = some (.string a0_9)∧w'.cell? ⟨gb1143,10,none⟩ = some (.bool a0_10)∧w'.cell? ⟨gb1144,0,none⟩ = some (.int .i64 a1_0)∧w'.cell? ⟨gb1144,1,none⟩ = some (.int .i64 a1_1)∧w'.cell? ⟨gb1144,2,none⟩ = some (.int .i64 a1_2)∧w'.cell? ⟨gb1144,3,none⟩ = some (.int .i64 a1_3)∧w'.cell? ⟨gb1144,4,none⟩ = some (.int .i64 a1_4)∧w'.cell? ⟨gb1144,5,none⟩ = some (.int .i64 a1_5)∧w'.cell? ⟨gb1144,6,none⟩ = some (.string a1_6)) (ds:=[]) #[false,false,false,false,false,false,false,false,false,false,false,false] (by kernel_rfl) rfl rfl (ca11 BK1143.out (cz7 BK1144.out)) (fun hHeld => ?_);refine with_tabW spec_l10Take.tab13 spec_l10Take.bits13 (fun HT_ HW_ => ?_)
      generalize w153.drew = w162 at HO1148 BK1143 BK1144 BK1145 HB hHeld ⊢
      refine pU (i:=0) (N:=some 35) #[true,false,false,false,false,false,false,false,false,false,false,false] (any_of HT_.out (by kernel_rfl)) ?_
      refine tU18 (i:=1) (N:=some 36) #[true,true,false,false,false,false,false,false,false,false,false,false] (take_ofW HT_.out HW_.out (by kernel_rfl)) hHeld ?_
      refine pU (i:=2) (N:=some 37) #[true,true,true,false,false,false,false,false,false,false,false,false] (any_of HT_.out (by kernel_rfl)) ?_
      refine pU (i:=3) (N:=some 38) #[true,true,true,true,false,false,false,false,false,false,false,false] (any_of HT_.out (by kernel_rfl)) ?_
      refine pU (i:=4) (N:=some 39) #[true,true,true,true,true,false,false,false,false,false,false,false] (any_of HT_.out (by kernel_rfl)) ?_
      refine pU (i:=8) (N:=some 43) #[true,true,true,true,true,false,false,false,true,false,false,false] (any_of HT_.out (by kernel_rfl)) ?_
      refine tU18 (i:=5) (N:=some 40) #[true,true,true,true,true,true,false,false,true,false,false,false] (take_ofW HT_.out HW_.out (by kernel_rfl)) hHeld ?_
      refine pU (i:=6) (N:=some 41) #[true,true,true,true,true,true,true,false,true,false,false,false] (any_of HT_.out (by kernel_rfl)) ?_
      refine tU18 (i:=9) (N:=some 44) #[true,true,true,true,true,true,true,false,true,true,false,false] (take_ofW HT_.out HW_.out (by kernel_rfl)) hHeld ?_
      refine one_ (i:=7) (N:=some 42) #[true,true,true,true,true,true,true,true,true,true,false,false] rfl rfl (one_of HT_.out (by kernel_rfl)) (by decide) (fun K hK => ?_)
      refine goes_ Try.func70 (by kernel_rfl) rfl #[.int .i64 (wrap64 (a1_2 + 1))] (by rfl) rfl rfl (by (try simp only [List.map_toArray,List.map_cons,List.map_nil]);first | done | rfl|(simp only [List.length_drop,List.length_take];rfl)) ?_
      with_reducible refine (spec_l10Seq.calls (wrap64 (a1_2 + 1)) t1149 _ A161.out).mono ?_
      rintro e w' ⟨rfl,⟨nd,rfl⟩⟩
      refine ⟨_,rfl,?_⟩
      refine hK.out _ _ (ca11 BK1143.out (cz7 BK1144.out)) (fun hHeld => ?_)
      clear hK K
      refine norm_ (a':=?_) ?_ ?_
      rotate_left
      ·show Act.put _ (some 42) _ = _
       simp only [Act.put,List.setIfInBounds_toArray,List.set_cons_zero,List.set_cons_succ,i64_w,i32_w]
       rfl
      refine pU (i:=10) (N:=some 45) #[true,true,true,true,true,true,true,true,true,true,true,false] (any_of HT_.out (by kernel_rfl)) ?_
      refine pU (i:=11) (N:=some 46) #[true,true,true,true,true,true,true,true,true,true,true,true] (any_of HT_.out (by kernel_rfl)) ?_
      refine done_ (done_of HT_.out (by kernel_rfl)) ?_
      try go_wp2
      go_meet
      case rel => exact ⟨_,((t1149 == a0_7)),rfS,H',⟨by first | omega|exact Nat.le_refl _⟩,⟨by refine pB ?_;exact BK1143.out⟩,⟨by refine pB ?_;exact BK1144.out⟩,⟨by refine pB ?_;exact BK1145.out⟩,⟨bW⟩⟩
     ·rw [if_neg c160] at H
      have c160b0:(a0_4 == 1) = false:=beq_eq_false_iff_ne.mpr c160
      have c160b1:(a0_4 != 1) = true:=bne_iff_ne.mpr c160
      (first|rw [c160b0]|(simp only [i64_w,i32_w];rw [c160b0]) | skip)
      have H':=aMk H
      clear H
      try go_wp2
      replace HO1148:=aMk (Kd.R_drew HO1148.out)
      replace BK1143:=aMk (bDr BK1143.out)
      replace BK1144:=aMk (bDr BK1144.out)
      replace BK1145:=aMk (bDr BK1145.out)
      replace HB:=aMk (bw1 HB.out)
      refine start_ (n:=12) (S:=fun w' => w'.cell? ⟨gb1143,0,none⟩ = some (.string a0_0)∧w'.cell? ⟨gb1143,1,none⟩ = some (.int .i64 a0_1)∧w'.cell? ⟨gb1143,2,none⟩ = some (.int .i64 a0_2)∧w'.cell? ⟨gb1143,3,none⟩ = some (.int .i64 a0_3)∧w'.cell? ⟨gb1143,4,none⟩ = some (.int .i64 a0_4)∧w'.cell? ⟨gb1143,5,none⟩ = some (.int .i64 a0_5)∧w'.cell? ⟨gb1143,6,none⟩ = some (.int .i64 a0_6)∧w'.cell? ⟨gb1143,7,none⟩ = some (.int .i64 a0_7)∧w'.cell? ⟨gb1143,8,none⟩ = some (.string a0_8)∧w'.cell? ⟨gb1143,9,none⟩ = some (.string a0_9)∧w'.cell? ⟨gb1143,10,none⟩ = some (.bool a0_10)) (ds:=[]) #[false,false,false,false,false,false,false,false,false,false,false,false] (by kernel_rfl) rfl rfl (cz11 BK1143.out) (fun hHeld => ?_);refine with_tabW spec_l10Take.tab13 spec_l10Take.bits13 (fun HT_ HW_ => ?_)
      generalize w153.drew = w163 at HO1148 BK1143 BK1144 BK1145 HB hHeld ⊢
      refine pU (i:=0) (N:=some 35) #[true,false,false,false,false,false,false,false,false,false,false,false] (any_of HT_.out (by kernel_rfl)) ?_
      refine tU11 (i:=1) (N:=some 36) #[true,true,false,false,false,false,false,false,false,false,false,false] (take_ofW HT_.out HW_.out (by kernel_rfl)) hHeld ?_
      refine pU (i:=2) (N:=some 37) #[true,true,true,false,false,false,false,false,false,false,false,false] (any_of HT_.out (by kernel_rfl)) ?_
      refine pU (i:=3) (N:=some 38) #[true,true,true,true,false,false,false,false,false,false,false,false] (any_of HT_.out (by kernel_rfl)) ?_
      refine pure_ (i:=4) (N:=some 39) (v:=undef) (a':=?_) #[true,true,true,true,true,false,false,false,false,false,false,false] rfl rfl (any_of HT_.out (by kernel_rfl)) (fun _ _ _ h => h) (Or.inr ⟨by rfl,rfl⟩) ?_ ?_
      rotate_left
      ·simp only [Act.put,List.setIfInBounds_toArray,List.set_cons_zero,List.set_cons_succ,i64_w,i32_w]
       rfl
      refine pure_ (i:=5) (N:=some 40) (v:=undef) (a':=?_) #[true,true,true,true,true,true,false,false,false,false,false,false] rfl rfl (any_of HT_.out (by kernel_rfl)) (fun _ _ _ h => h) (Or.inr ⟨by rfl,rfl⟩) ?_ ?_
      rotate_left
      ·simp only [Act.put,List.setIfInBounds_toArray,List.set_cons_zero,List.set_cons_succ,i64_w,i32_w]
       rfl
      refine pure_ (i:=6) (N:=some 41) (v:=undef) (a':=?_) #[true,true,true,true,true,true,true,false,false,false,false,false] rfl rfl (any_of HT_.out (by kernel_rfl)) (fun _ _ _ h => h) (Or.inr ⟨by rfl,rfl⟩) ?_ ?_
      rotate_left
      ·simp only [Act.put,List.setIfInBounds_toArray,List.set_cons_zero,List.set_cons_succ,i64_w,i32_w]
       rfl
      refine pure_ (i:=7) (N:=some 42) (v:=undef) (a':=?_) #[true,true,true,true,true,true,true,true,false,false,false,false] rfl rfl (any_of HT_.out (by kernel_rfl)) (fun _ _ _ h => h) (Or.inr ⟨by rfl,rfl⟩) ?_ ?_
      rotate_left
      ·simp only [Act.put,List.setIfInBounds_toArray,List.set_cons_zero,List.set_cons_succ,i64_w,i32_w]
       rfl
      refine pure_ (i:=8) (N:=some 43) (v:=undef) (a':=?_) #[true,true,true,true,true,true,true,true,true,false,false,false] rfl rfl (any_of HT_.out (by kernel_rfl)) (fun _ _ _ h => h) (Or.inr ⟨by rfl,rfl⟩) ?_ ?_
      rotate_left
      ·simp only [Act.put,List.setIfInBounds_toArray,List.set_cons_zero,List.set_cons_succ,i64_w,i32_w]
       rfl
      refine pure_ (i:=9) (N:=some 44) (v:=undef) (a':=?_) #[true,true,true,true,true,true,true,true,true,true,false,false] rfl rfl (any_of HT_.out (by kernel_rfl)) (fun _ _ _ h => h) (Or.inr ⟨by rfl,rfl⟩) ?_ ?_
      rotate_left
      ·simp only [Act.put,List.setIfInBounds_toArray,List.set_cons_zero,List.set_cons_succ,i64_w,i32_w]
       rfl
      refine pure_ (i:=10) (N:=some 45) (v:=undef) (a':=?_) #[true,true,true,true,true,true,true,true,true,true,true,false] rfl rfl (any_of HT_.out (by kernel_rfl)) (fun _ _ _ h => h) (Or.inr ⟨by rfl,rfl⟩) ?_ ?_
      rotate_left
      ·simp only [Act.put,List.setIfInBounds_toArray,List.set_cons_zero,List.set_cons_succ,i64_w,i32_w]
       rfl
      refine pU (i:=11) (N:=some 46) #[true,true,true,true,true,true,true,true,true,true,true,true] (any_of HT_.out (by kernel_rfl)) ?_
      refine done_ (done_of HT_.out (by kernel_rfl)) ?_
      try go_wp2
      go_meet
      case rel => exact ⟨_,(false),rfS,H',⟨by first | omega|exact Nat.le_refl _⟩,⟨by refine pB ?_;exact BK1143.out⟩,⟨by refine pB ?_;exact BK1144.out⟩,⟨by refine pB ?_;exact BK1145.out⟩,⟨bW⟩⟩
    case rest =>
     clear HC149
     try clear Z157_0 Z157_1 Z157_10 Z157_2 Z157_3 Z157_4 Z157_5 Z157_6 Z157_7 Z157_8 Z157_9
     try clear Z159_0 Z159_1 Z159_2 Z159_3 Z159_4 Z159_5 Z159_6
     try clear Y157_0 Y157_1 Y157_10 Y157_2 Y157_3 Y157_4 Y157_5 Y157_6 Y157_7 Y157_8 Y157_9
     try clear Y159_0 Y159_1 Y159_2 Y159_3 Y159_4 Y159_5 Y159_6
     obtain ⟨kq,x46_148,rfl,HA,HJ148,BK1143,BK1144,BK1145,HB⟩:=hcut
     cases kq with
     | zero => exact absurd HA.out (by simp [spec_l10Take.j0])
     | succ kj148 =>
      have H:=HA.out
      clear HA
      simp only [spec_l10Take.j0] at H
      by_cases c164:x46_148 = true
      ·subst c164
       have H1:=H
       rw [if_pos rfl] at H1
       clear H
       have H:=H1
       clear H1
       replace H:=Option.bind_eq_some_iff.mp H
       obtain ⟨⟨t1150,t1151,t1152,t1153,t1154,t1155,t1156⟩,A1650,H⟩:=H
       try dsimp only at H
       have A165:=aMk A1650
       clear A1650
       obtain ⟨y1157,hy1157⟩:∃ y_:List (S53),y_ = (([(⟨t1150,t1151,t1152,t1153,t1154,t1155,t1156⟩:S53)]:List (S53))):=⟨_,rfl⟩
       replace H:(some (a0_0,a0_1,a0_2,a0_3,a0_4,a0_5,a0_6,a0_7,a0_8,a0_9,a0_10,y1157)) = some (r1,r2,r3,r4,r5,r6,r7,r8,r9,r10,r11,r12):=by first|(rw [hy1157];with_reducible exact H)|(have H2_:=(Option.bind_some _ _).symm.trans H;rw [hy1157];with_reducible exact H2_)|(have H2_:=(Option.bind_some _ _).symm.trans H;with_reducible exact H2_) | with_reducible exact H|(rw [hy1157];exact H)|exact H
       have Ny1157:=aMk hy1157
       clear hy1157
       simp only [Option.some.injEq,Prod.mk.injEq] at H
       obtain ⟨rfl,rfl,rfl,rfl,rfl,rfl,rfl,rfl,rfl,rfl,rfl,rfl⟩:=H
       try go_wp2
       replace BK1143:=aMk (bDr BK1143.out)
       replace BK1144:=aMk (bDr BK1144.out)
       replace BK1145:=aMk (bDr BK1145.out)
       replace HB:=aMk (bw1 HB.out)
       refine start_ (n:=8) (S:=fun w' => True) (ds:=[]) #[false,false,false,false,false,false,false,false] (by kernel_rfl) rfl rfl trivial (fun hHeld => ?_);refine with_tabW spec_l10Take.tab14 spec_l10Take.bits14 (fun HT_ HW_ => ?_)
       generalize wc.drew = w166 at BK1143 BK1144 BK1145 HB hHeld ⊢
       refine pU (i:=2) (N:=some 49) #[false,false,true,false,false,false,false,false] (any_of HT_.out (by kernel_rfl)) ?_
       refine inv_at [0,1,3,4,5,6,7] (fun a0_ b a w' => ∃ (v1158:Value) (m7_:Value),a = putSel a0_ b [(0,47,.agg #[.string a0_0,.int .i64 a0_1,.int .i64 a0_2,.int .i64 a0_3,.int .i64 a0_4,.int .i64 a0_5,.int .i64 a0_6,.int .i64 a0_7,.string a0_8,.string a0_9,.bool a0_10]),(1,48,.agg #[.string a0_0,.int .i64 a0_1,.int .i64 a0_2,.int .i64 a0_3,.int .i64 a0_4,.int .i64 a0_5,.int .i64 a0_6,.int .i64 a0_7,.string a0_8,.string a0_9,.bool a0_10]),(3,50,.int .i64 a0_5),(4,51,.agg #[.int .i64 t1150,.int .i64 t1151,.int .i64 t1152,.int .i64 t1153,.int .i64 t1154,.int .i64 t1155,.string t1156]),(5,52,v1158),(7,5,m7_)]∧(w'.heap[gb1143]? = some (.cells #[.string a0_0,.int .i64 a0_1,.int .i64 a0_2,.int .i64 a0_3,.int .i64 a0_4,.int .i64 a0_5,.int .i64 a0_6,.int .i64 a0_7,.string a0_8,.string a0_9,.bool a0_10] 34 (0,0)))∧(w'.heap[gb1144]? = some (.cells #[.int .i64 a1_0,.int .i64 a1_1,.int .i64 a1_2,.int .i64 a1_3,.int .i64 a1_4,.int .i64 a1_5,.string a1_6] 53 (0,0)))∧(b 6 = false→w'.heap[gb1145]? = some (.cells #[.string (⟨#[]⟩:ByteArray),.int .i64 0,.int .i64 0,.int .i64 0,.int .i64 0,.int .i64 0,.int .i64 0,.int .i64 0,.string (⟨#[]⟩:ByteArray),.string (⟨#[]⟩:ByteArray),.bool false] 34 (0,0)))∧(Below w.heap.size w w')∧(b 5 = true→Kd.R k53 53 w' w.heap.size (fun k_ => k_ ≠ gb1144) v1158 y1157)∧(b 6 = true→w'.heap[gb1145]? = some (.cells #[.string a0_0,.int .i64 a0_1,.int .i64 a0_2,.int .i64 a0_3,.int .i64 a0_4,.int .i64 a0_5,.int .i64 a0_6,.int .i64 a0_7,.string a0_8,.string a0_9,.bool a0_10] 34 (0,0)))∧(b 7 = true→(m7_:Value) = v1158)) HT_.out HW_.out (by kernel_rfl) (by kernel_rfl) ?_ ?_ ?_
       ·exact ⟨.bool false,.bool false,by simp only [putSel,Bool.false_eq_true,if_false],BK1143.out,BK1144.out,fun _ => BK1145.out,HB.out,fun h_ => absurd h_ (by decide),fun h_ => absurd h_ (by decide),fun h_ => absurd h_ (by decide)⟩
       ·skip
        clear BK1143 BK1144 BK1145 HB
        refine steps_cons ?_ ?_
        ·rintro b a w' ⟨v1158,m7_,ha,Q_BK1143,Q_BK1144,Q_BK1145,Q_HB,Q_HO1159,Q_BK1145_e6,Q_X7_⟩ hb_ hon hoff
         refine ⟨_,rfl,fun K hK => ?_⟩
         have e2:a.tmps[2]? = some (.pointer (some ⟨gb1143,0,none⟩)):=by rw [ha];exact (putSel_off rfl).trans rfl
         replace ha:=aMk ha
         have BK1143:=aMk Q_BK1143
         have BK1144:=aMk Q_BK1144
         have BK1145:=aMk (Q_BK1145 (hoff 6 (by kernel_rfl)))
         have HB:=aMk Q_HB
         have hc0_:w'.cell? ⟨gb1143,0,none⟩ = some (.string a0_0):=(bCe BK1143.out 0).trans rfl
         have hc1_:w'.cell? ⟨gb1143,1,none⟩ = some (.int .i64 a0_1):=(bCe BK1143.out 1).trans rfl
         have hc2_:w'.cell? ⟨gb1143,2,none⟩ = some (.int .i64 a0_2):=(bCe BK1143.out 2).trans rfl
         have hc3_:w'.cell? ⟨gb1143,3,none⟩ = some (.int .i64 a0_3):=(bCe BK1143.out 3).trans rfl
         have hc4_:w'.cell? ⟨gb1143,4,none⟩ = some (.int .i64 a0_4):=(bCe BK1143.out 4).trans rfl
         have hc5_:w'.cell? ⟨gb1143,5,none⟩ = some (.int .i64 a0_5):=(bCe BK1143.out 5).trans rfl
         have hc6_:w'.cell? ⟨gb1143,6,none⟩ = some (.int .i64 a0_6):=(bCe BK1143.out 6).trans rfl
         have hc7_:w'.cell? ⟨gb1143,7,none⟩ = some (.int .i64 a0_7):=(bCe BK1143.out 7).trans rfl
         have hc8_:w'.cell? ⟨gb1143,8,none⟩ = some (.string a0_8):=(bCe BK1143.out 8).trans rfl
         have hc9_:w'.cell? ⟨gb1143,9,none⟩ = some (.string a0_9):=(bCe BK1143.out 9).trans rfl
         have hc10_:w'.cell? ⟨gb1143,10,none⟩ = some (.bool a0_10):=(bCe BK1143.out 10).trans rfl
         refine value_ (w1:=w') (v:=.agg #[.string a0_0,.int .i64 a0_1,.int .i64 a0_2,.int .i64 a0_3,.int .i64 a0_4,.int .i64 a0_5,.int .i64 a0_6,.int .i64 a0_7,.string a0_8,.string a0_9,.bool a0_10]) (by rfl) rfl ?_ ?_
         ·go_simp
          (try simp only [i64_w])
          try rfl
         refine hK.out _ _ ⟨v1158,m7_,(by rw [ha.out];exact putSel_upk 0 hb_ rfl rfl rfl),Q_BK1143,Q_BK1144,Q_BK1145,Q_HB,Q_HO1159,fun h0_ => absurd ((hoff 6 (by kernel_rfl)).symm.trans h0_) (by decide),fun h0_ => absurd ((hoff 7 (by kernel_rfl)).symm.trans h0_) (by decide)⟩
        refine steps_cons ?_ ?_
        ·rintro b a w' ⟨v1158,m7_,ha,Q_BK1143,Q_BK1144,Q_BK1145,Q_HB,Q_HO1159,Q_BK1145_e6,Q_X7_⟩ hb_ hon hoff
         refine ⟨_,rfl,fun K hK => ?_⟩
         have e2:a.tmps[2]? = some (.pointer (some ⟨gb1143,0,none⟩)):=by rw [ha];exact (putSel_off rfl).trans rfl
         replace ha:=aMk ha
         have BK1143:=aMk Q_BK1143
         have BK1144:=aMk Q_BK1144
         have BK1145:=aMk (Q_BK1145 (hoff 6 (by kernel_rfl)))
         have HB:=aMk Q_HB
         have hc0_:w'.cell? ⟨gb1143,0,none⟩ = some (.string a0_0):=(bCe BK1143.out 0).trans rfl
         have hc1_:w'.cell? ⟨gb1143,1,none⟩ = some (.int .i64 a0_1):=(bCe BK1143.out 1).trans rfl
         have hc2_:w'.cell? ⟨gb1143,2,none⟩ = some (.int .i64 a0_2):=(bCe BK1143.out 2).trans rfl
         have hc3_:w'.cell? ⟨gb1143,3,none⟩ = some (.int .i64 a0_3):=(bCe BK1143.out 3).trans rfl
         have hc4_:w'.cell? ⟨gb1143,4,none⟩ = some (.int .i64 a0_4):=(bCe BK1143.out 4).trans rfl
         have hc5_:w'.cell? ⟨gb1143,5,none⟩ = some (.int .i64 a0_5):=(bCe BK1143.out 5).trans rfl
         have hc6_:w'.cell? ⟨gb1143,6,none⟩ = some (.int .i64 a0_6):=(bCe BK1143.out 6).trans rfl
         have hc7_:w'.cell? ⟨gb1143,7,none⟩ = some (.int .i64 a0_7):=(bCe BK1143.out 7).trans rfl
         have hc8_:w'.cell? ⟨gb1143,8,none⟩ = some (.string a0_8):=(bCe BK1143.out 8).trans rfl
         have hc9_:w'.cell? ⟨gb1143,9,none⟩ = some (.string a0_9):=(bCe BK1143.out 9).trans rfl
         have hc10_:w'.cell? ⟨gb1143,10,none⟩ = some (.bool a0_10):=(bCe BK1143.out 10).trans rfl
         refine value_ (w1:=w') (v:=.agg #[.string a0_0,.int .i64 a0_1,.int .i64 a0_2,.int .i64 a0_3,.int .i64 a0_4,.int .i64 a0_5,.int .i64 a0_6,.int .i64 a0_7,.string a0_8,.string a0_9,.bool a0_10]) (by rfl) rfl ?_ ?_
         ·go_simp
          (try simp only [i64_w])
          try rfl
         refine hK.out _ _ ⟨v1158,m7_,(by rw [ha.out];exact putSel_upk 1 hb_ rfl rfl rfl),Q_BK1143,Q_BK1144,Q_BK1145,Q_HB,fun h0_ => absurd ((hoff 5 (by kernel_rfl)).symm.trans h0_) (by decide),fun h0_ => absurd ((hoff 6 (by kernel_rfl)).symm.trans h0_) (by decide),fun h0_ => absurd ((hoff 7 (by kernel_rfl)).symm.trans h0_) (by decide)⟩
        refine steps_cons ?_ ?_
        ·rintro b a w' ⟨v1158,m7_,ha,Q_BK1143,Q_BK1144,Q_BK1145,Q_HB,Q_HO1159,Q_BK1145_e6,Q_X7_⟩ hb_ hon hoff
         refine ⟨_,rfl,fun K hK => ?_⟩
         have e49:a.tmps[49]? = some (.pointer (some ⟨gb1143,5,none⟩)):=by rw [ha];exact (putSel_off rfl).trans rfl
         replace ha:=aMk ha
         have BK1143:=aMk Q_BK1143
         have BK1144:=aMk Q_BK1144
         have BK1145:=aMk (Q_BK1145 (hoff 6 (by kernel_rfl)))
         have HB:=aMk Q_HB
         have hc0_:w'.cell? ⟨gb1143,0,none⟩ = some (.string a0_0):=(bCe BK1143.out 0).trans rfl
         have hc1_:w'.cell? ⟨gb1143,1,none⟩ = some (.int .i64 a0_1):=(bCe BK1143.out 1).trans rfl
         have hc2_:w'.cell? ⟨gb1143,2,none⟩ = some (.int .i64 a0_2):=(bCe BK1143.out 2).trans rfl
         have hc3_:w'.cell? ⟨gb1143,3,none⟩ = some (.int .i64 a0_3):=(bCe BK1143.out 3).trans rfl
         have hc4_:w'.cell? ⟨gb1143,4,none⟩ = some (.int .i64 a0_4):=(bCe BK1143.out 4).trans rfl
         have hc5_:w'.cell? ⟨gb1143,5,none⟩ = some (.int .i64 a0_5):=(bCe BK1143.out 5).trans rfl
         have hc6_:w'.cell? ⟨gb1143,6,none⟩ = some (.int .i64 a0_6):=(bCe BK1143.out 6).trans rfl
         have hc7_:w'.cell? ⟨gb1143,7,none⟩ = some (.int .i64 a0_7):=(bCe BK1143.out 7).trans rfl
         have hc8_:w'.cell? ⟨gb1143,8,none⟩ = some (.string a0_8):=(bCe BK1143.out 8).trans rfl
         have hc9_:w'.cell? ⟨gb1143,9,none⟩ = some (.string a0_9):=(bCe BK1143.out 9).trans rfl
         have hc10_:w'.cell? ⟨gb1143,10,none⟩ = some (.bool a0_10):=(bCe BK1143.out 10).trans rfl
         refine value_ (w1:=w') (v:=.int .i64 a0_5) (by rfl) rfl ?_ ?_
         ·go_simp
          (try simp only [i64_w])
          try rfl
         refine hK.out _ _ ⟨v1158,m7_,(by rw [ha.out];exact putSel_upk 2 hb_ rfl rfl rfl),Q_BK1143,Q_BK1144,Q_BK1145,Q_HB,fun h0_ => absurd ((hoff 5 (by kernel_rfl)).symm.trans h0_) (by decide),fun h0_ => absurd ((hoff 6 (by kernel_rfl)).symm.trans h0_) (by decide),fun h0_ => absurd ((hoff 7 (by kernel_rfl)).symm.trans h0_) (by decide)⟩
        refine steps_cons ?_ ?_
        ·rintro b a w' ⟨v1158,m7_,ha,Q_BK1143,Q_BK1144,Q_BK1145,Q_HB,Q_HO1159,Q_BK1145_e6,Q_X7_⟩ hb_ hon hoff
         refine ⟨_,rfl,fun K hK => ?_⟩
         have e48:a.tmps[48]? = some (.agg #[.string a0_0,.int .i64 a0_1,.int .i64 a0_2,.int .i64 a0_3,.int .i64 a0_4,.int .i64 a0_5,.int .i64 a0_6,.int .i64 a0_7,.string a0_8,.string a0_9,.bool a0_10]):=by rw [ha];exact putSel_on (e:=(1,48,.agg #[.string a0_0,.int .i64 a0_1,.int .i64 a0_2,.int .i64 a0_3,.int .i64 a0_4,.int .i64 a0_5,.int .i64 a0_6,.int .i64 a0_7,.string a0_8,.string a0_9,.bool a0_10])) 1 rfl rfl (hon 1 (by kernel_rfl)) rfl
         have e50:a.tmps[50]? = some (.int .i64 a0_5):=by rw [ha];exact putSel_on (e:=(3,50,.int .i64 a0_5)) 2 rfl rfl (hon 3 (by kernel_rfl)) rfl
         replace ha:=aMk ha
         have BK1143:=aMk Q_BK1143
         have BK1144:=aMk Q_BK1144
         have BK1145:=aMk (Q_BK1145 (hoff 6 (by kernel_rfl)))
         have HB:=aMk Q_HB
         refine goes_ Try.func111 (by kernel_rfl) rfl #[.agg #[.string a0_0,.int .i64 a0_1,.int .i64 a0_2,.int .i64 a0_3,.int .i64 a0_4,.int .i64 a0_5,.int .i64 a0_6,.int .i64 a0_7,.string a0_8,.string a0_9,.bool a0_10],.int .i64 a0_5,.int .i64 18,.string (⟨#[]⟩:ByteArray)] (by rfl) rfl rfl (by first|(simp only [List.map_toArray,List.map_cons,List.map_nil,Act.eval,Array.getD_eq_getD_getElem?,Option.getD_some,e48,e50];done)|(simp only [List.map_toArray,List.map_cons,List.map_nil,Act.eval,Array.getD_eq_getD_getElem?,Option.getD_some,e48,e50];rfl)) ?_
         with_reducible refine (spec_l10Reply.calls a0_0 a0_1 a0_2 a0_3 a0_4 a0_5 a0_6 a0_7 a0_8 a0_9 a0_10 a0_5 18 (⟨#[]⟩:ByteArray) t1150 t1151 t1152 t1153 t1154 t1155 t1156 _ A165.out).mono ?_
         rintro e w167 ⟨rfl,hb⟩
         refine ⟨_,rfl,?_⟩
         replace BK1143:=aMk (bkB BK1143.out hb)
         replace BK1144:=aMk (bkB BK1144.out hb)
         replace BK1145:=aMk (bkB BK1145.out hb)
         replace HB:=aMk (bU hb)
         (try clear hb)
         (try clear hb2)
         (try clear hk)
         (try clear hi)
         refine hK.out _ _ ⟨v1158,m7_,(by rw [ha.out];exact putSel_upk 3 hb_ rfl rfl rfl),(pB BK1143.out),(pB BK1144.out),fun _ => (pB BK1145.out),bW,fun h0_ => absurd ((hoff 5 (by kernel_rfl)).symm.trans h0_) (by decide),fun h0_ => absurd ((hoff 6 (by kernel_rfl)).symm.trans h0_) (by decide),fun h0_ => absurd ((hoff 7 (by kernel_rfl)).symm.trans h0_) (by decide)⟩
        refine steps_cons ?_ ?_
        ·rintro b a w' ⟨v1158,m7_,ha,Q_BK1143,Q_BK1144,Q_BK1145,Q_HB,Q_HO1159,Q_BK1145_e6,Q_X7_⟩ hb_ hon hoff
         refine ⟨_,rfl,fun K hK => ?_⟩
         have e51:a.tmps[51]? = some (.agg #[.int .i64 t1150,.int .i64 t1151,.int .i64 t1152,.int .i64 t1153,.int .i64 t1154,.int .i64 t1155,.string t1156]):=by rw [ha];exact putSel_on (e:=(4,51,.agg #[.int .i64 t1150,.int .i64 t1151,.int .i64 t1152,.int .i64 t1153,.int .i64 t1154,.int .i64 t1155,.string t1156])) 3 rfl rfl (hon 4 (by kernel_rfl)) rfl
         replace ha:=aMk ha
         have BK1143:=aMk Q_BK1143
         have BK1144:=aMk Q_BK1144
         have HB:=aMk Q_HB
         refine Kd.R_lit_step k53 _ 53 ?hg (N:=52) ?hd (xs:=([(⟨t1150,t1151,t1152,t1153,t1154,t1155,t1156⟩:S53)]:List (S53))) (inner:=[.int .i64 t1150,.int .i64 t1151,.int .i64 t1152,.int .i64 t1153,.int .i64 t1154,.int .i64 t1155,.string t1156]) (ok:=fun _ => True) (okp:=fun _ => True) ?hr ?hp (fun _ hk => hk) trivial (Below.refl _ _) (Nat.le_refl _) (by simp) ?_;(case hd => rfl);(case hg => rfl);(case hr => first|(go_simp;done)|(go_simp;rfl));(case hp => exact (Reps.c7 (show Kd.M k53 _ _ _ (⟨t1150,t1151,t1152,t1153,t1154,t1155,t1156⟩:S53) [.int .i64 t1150,.int .i64 t1151,.int .i64 t1152,.int .i64 t1153,.int .i64 t1154,.int .i64 t1155,.string t1156] from (k53_mkM _ _ _ (⟨t1150,t1151,t1152,t1153,t1154,t1155,t1156⟩:S53) )) (Reps.none _ _)))
         intro v1158 w169 ho170 hb hg_ hnew_
         clear hg_ hnew_
         (first|rw [← Ny1157.out] at ho170|(simp only [Int.reduceToNat] at ho170;rw [← Ny1157.out] at ho170))
         have n0_:=aMk (Kd.R_lower (Kd.R_newB ho170 (g:=gb1144) (o:=.cells #[.int .i64 a1_0,.int .i64 a1_1,.int .i64 a1_2,.int .i64 a1_3,.int .i64 a1_4,.int .i64 a1_5,.string a1_6] 53 (0,0)) (pB BK1144.out)) (below_size bW))
         have n1_:=aMk (bkB BK1143.out hb)
         have n2_:=aMk (bkB BK1144.out hb)
         have n4_:=aMk (bU hb)
         have z_BK1145:=fun (h0_:b 6 = false) => (show w169.heap[gb1145]? = some (.cells #[.string (⟨#[]⟩:ByteArray),.int .i64 0,.int .i64 0,.int .i64 0,.int .i64 0,.int .i64 0,.int .i64 0,.int .i64 0,.string (⟨#[]⟩:ByteArray),.string (⟨#[]⟩:ByteArray),.bool false] 34 (0,0)) from by first|exact (blk_below (g:=gb1145) (o:=.cells #[.string (⟨#[]⟩:ByteArray),.int .i64 0,.int .i64 0,.int .i64 0,.int .i64 0,.int .i64 0,.int .i64 0,.int .i64 0,.string (⟨#[]⟩:ByteArray),.string (⟨#[]⟩:ByteArray),.bool false] 34 (0,0)) (by refine pB ?_;exact (Q_BK1145 h0_)) hb))
         have z_BK1145_e6:=fun (h0_:b 6 = true) => (show w169.heap[gb1145]? = some (.cells #[.string a0_0,.int .i64 a0_1,.int .i64 a0_2,.int .i64 a0_3,.int .i64 a0_4,.int .i64 a0_5,.int .i64 a0_6,.int .i64 a0_7,.string a0_8,.string a0_9,.bool a0_10] 34 (0,0)) from by first|exact (blk_below (g:=gb1145) (o:=.cells #[.string a0_0,.int .i64 a0_1,.int .i64 a0_2,.int .i64 a0_3,.int .i64 a0_4,.int .i64 a0_5,.int .i64 a0_6,.int .i64 a0_7,.string a0_8,.string a0_9,.bool a0_10] 34 (0,0)) (by refine pB ?_;exact (Q_BK1145_e6 h0_)) hb))
         clear BK1143
         clear BK1144
         clear HB
         have HO1159:=n0_
         have BK1143:=n1_
         have BK1144:=n2_
         have HB:=n4_
         clear n0_ n1_ n2_ n4_
         clear hb ho170
         refine hK.out _ _ ⟨v1158,m7_,(by rw [ha.out];exact putSel_upk 4 hb_ rfl rfl rfl),(pB BK1143.out),(pB BK1144.out),z_BK1145,bW,fun _ => (kR (Kd.R_mono HO1159.out (fun _ hk => hk.2))),z_BK1145_e6,fun h0_ => absurd ((hoff 7 (by kernel_rfl)).symm.trans h0_) (by decide)⟩
        refine steps_cons ?_ ?_
        ·rintro b a w' ⟨v1158,m7_,ha,Q_BK1143,Q_BK1144,Q_BK1145,Q_HB,Q_HO1159,Q_BK1145_e6,Q_X7_⟩ hb_ hon hoff
         refine ⟨_,rfl,fun K hK => ?_⟩
         have e4:a.tmps[4]? = some (.pointer (some ⟨gb1145,0,none⟩)):=by rw [ha];exact (putSel_off rfl).trans rfl
         have e47:a.tmps[47]? = some (.agg #[.string a0_0,.int .i64 a0_1,.int .i64 a0_2,.int .i64 a0_3,.int .i64 a0_4,.int .i64 a0_5,.int .i64 a0_6,.int .i64 a0_7,.string a0_8,.string a0_9,.bool a0_10]):=by rw [ha];exact putSel_on (e:=(0,47,.agg #[.string a0_0,.int .i64 a0_1,.int .i64 a0_2,.int .i64 a0_3,.int .i64 a0_4,.int .i64 a0_5,.int .i64 a0_6,.int .i64 a0_7,.string a0_8,.string a0_9,.bool a0_10])) 0 rfl rfl (hon 0 (by kernel_rfl)) rfl
         replace ha:=aMk ha
         have BK1143:=aMk Q_BK1143
         have BK1144:=aMk Q_BK1144
         have BK1145:=aMk (Q_BK1145 hb_)
         have HB:=aMk Q_HB
         have hs169:w'.cell? ⟨gb1145,0,none⟩ = some (.string (⟨#[]⟩:ByteArray)):=(bCe BK1145.out 0).trans rfl
         have hfs169:=bFr BK1145.out 0
         have hns169_0:=NB1143_1145.out
         have hns169_1:=NB1144_1145.out
         have hms169_0:=NB1145_1143.out
         have hms169_1:=NB1145_1144.out
         have hs170:w'.cell? ⟨gb1145,1,none⟩ = some (.int .i64 0):=(bCe BK1145.out 1).trans rfl
         have hfs170:=bFr BK1145.out 1
         have hns170_0:=NB1143_1145.out
         have hns170_1:=NB1144_1145.out
         have hms170_0:=NB1145_1143.out
         have hms170_1:=NB1145_1144.out
         have hs171:w'.cell? ⟨gb1145,2,none⟩ = some (.int .i64 0):=(bCe BK1145.out 2).trans rfl
         have hfs171:=bFr BK1145.out 2
         have hns171_0:=NB1143_1145.out
         have hns171_1:=NB1144_1145.out
         have hms171_0:=NB1145_1143.out
         have hms171_1:=NB1145_1144.out
         have hs172:w'.cell? ⟨gb1145,3,none⟩ = some (.int .i64 0):=(bCe BK1145.out 3).trans rfl
         have hfs172:=bFr BK1145.out 3
         have hns172_0:=NB1143_1145.out
         have hns172_1:=NB1144_1145.out
         have hms172_0:=NB1145_1143.out
         have hms172_1:=NB1145_1144.out
         have hs173:w'.cell? ⟨gb1145,4,none⟩ = some (.int .i64 0):=(bCe BK1145.out 4).trans rfl
         have hfs173:=bFr BK1145.out 4
         have hns173_0:=NB1143_1145.out
         have hns173_1:=NB1144_1145.out
         have hms173_0:=NB1145_1143.out
         have hms173_1:=NB1145_1144.out
         have hs174:w'.cell? ⟨gb1145,5,none⟩ = some (.int .i64 0):=(bCe BK1145.out 5).trans rfl
         have hfs174:=bFr BK1145.out 5
         have hns174_0:=NB1143_1145.out
         have hns174_1:=NB1144_1145.out
         have hms174_0:=NB1145_1143.out
         have hms174_1:=NB1145_1144.out
         have hs175:w'.cell? ⟨gb1145,6,none⟩ = some (.int .i64 0):=(bCe BK1145.out 6).trans rfl
         have hfs175:=bFr BK1145.out 6
         have hns175_0:=NB1143_1145.out
         have hns175_1:=NB1144_1145.out
         have hms175_0:=NB1145_1143.out
         have hms175_1:=NB1145_1144.out
         have hs176:w'.cell? ⟨gb1145,7,none⟩ = some (.int .i64 0):=(bCe BK1145.out 7).trans rfl
         have hfs176:=bFr BK1145.out 7
         have hns176_0:=NB1143_1145.out
         have hns176_1:=NB1144_1145.out
         have hms176_0:=NB1145_1143.out
         have hms176_1:=NB1145_1144.out
         have hs177:w'.cell? ⟨gb1145,8,none⟩ = some (.string (⟨#[]⟩:ByteArray)):=(bCe BK1145.out 8).trans rfl
         have hfs177:=bFr BK1145.out 8
         have hns177_0:=NB1143_1145.out
         have hns177_1:=NB1144_1145.out
         have hms177_0:=NB1145_1143.out
         have hms177_1:=NB1145_1144.out
         have hs178:w'.cell? ⟨gb1145,9,none⟩ = some (.string (⟨#[]⟩:ByteArray)):=(bCe BK1145.out 9).trans rfl
         have hfs178:=bFr BK1145.out 9
         have hns178_0:=NB1143_1145.out
         have hns178_1:=NB1144_1145.out
         have hms178_0:=NB1145_1143.out
         have hms178_1:=NB1145_1144.out
         have hs179:w'.cell? ⟨gb1145,10,none⟩ = some (.bool false):=(bCe BK1145.out 10).trans rfl
         have hfs179:=bFr BK1145.out 10
         have hns179_0:=NB1143_1145.out
         have hns179_1:=NB1144_1145.out
         have hms179_0:=NB1145_1143.out
         have hms179_1:=NB1145_1144.out
         refine skip_ (w1:=?_) (by rfl) rfl ?_ ?_
         rotate_left
         ·go_simp
          rfl
         refine hK.out _ _ ⟨v1158,m7_,(by rw [ha.out];exact putSel_none (v:=undef) rfl),(fB BK1143.out),(fB BK1144.out),fun h0_ => absurd ((up_self b 6).symm.trans h0_) (by decide),bW,fun h0_ => (kR (Kd.R_mono (Kd.R_far (p:=⟨gb1145,10,none⟩) (Kd.R_far (p:=⟨gb1145,9,none⟩) (Kd.R_far (p:=⟨gb1145,8,none⟩) (Kd.R_far (p:=⟨gb1145,7,none⟩) (Kd.R_far (p:=⟨gb1145,6,none⟩) (Kd.R_far (p:=⟨gb1145,5,none⟩) (Kd.R_far (p:=⟨gb1145,4,none⟩) (Kd.R_far (p:=⟨gb1145,3,none⟩) (Kd.R_far (p:=⟨gb1145,2,none⟩) (Kd.R_far (p:=⟨gb1145,1,none⟩) (Kd.R_far (p:=⟨gb1145,0,none⟩) (Kd.R_types (Q_HO1159 h0_) BK1145.out (by decide)) (fun _ hk => hk.2) (.string a0_0)) (fun _ hk => hk.2) (.int .i64 a0_1)) (fun _ hk => hk.2) (.int .i64 a0_2)) (fun _ hk => hk.2) (.int .i64 a0_3)) (fun _ hk => hk.2) (.int .i64 a0_4)) (fun _ hk => hk.2) (.int .i64 a0_5)) (fun _ hk => hk.2) (.int .i64 a0_6)) (fun _ hk => hk.2) (.int .i64 a0_7)) (fun _ hk => hk.2) (.string a0_8)) (fun _ hk => hk.2) (.string a0_9)) (fun _ hk => hk.2) (.bool a0_10)) (fun _ hk => hk.1))),fun _ => (by refine pB ?_;refine blk_put (cs:=#[.string a0_0,.int .i64 a0_1,.int .i64 a0_2,.int .i64 a0_3,.int .i64 a0_4,.int .i64 a0_5,.int .i64 a0_6,.int .i64 a0_7,.string a0_8,.string a0_9,.bool false]) ?_ 10 _ rfl;refine pB ?_;refine blk_put (cs:=#[.string a0_0,.int .i64 a0_1,.int .i64 a0_2,.int .i64 a0_3,.int .i64 a0_4,.int .i64 a0_5,.int .i64 a0_6,.int .i64 a0_7,.string a0_8,.string (⟨#[]⟩:ByteArray),.bool false]) ?_ 9 _ rfl;refine pB ?_;refine blk_put (cs:=#[.string a0_0,.int .i64 a0_1,.int .i64 a0_2,.int .i64 a0_3,.int .i64 a0_4,.int .i64 a0_5,.int .i64 a0_6,.int .i64 a0_7,.string (⟨#[]⟩:ByteArray),.string (⟨#[]⟩:ByteArray),.bool false]) ?_ 8 _ rfl;refine pB ?_;refine blk_put (cs:=#[.string a0_0,.int .i64 a0_1,.int .i64 a0_2,.int .i64 a0_3,.int .i64 a0_4,.int .i64 a0_5,.int .i64 a0_6,.int .i64 0,.string (⟨#[]⟩:ByteArray),.string (⟨#[]⟩:ByteArray),.bool false]) ?_ 7 _ rfl;refine pB ?_;refine blk_put (cs:=#[.string a0_0,.int .i64 a0_1,.int .i64 a0_2,.int .i64 a0_3,.int .i64 a0_4,.int .i64 a0_5,.int .i64 0,.int .i64 0,.string (⟨#[]⟩:ByteArray),.string (⟨#[]⟩:ByteArray),.bool false]) ?_ 6 _ rfl;refine pB ?_;refine blk_put (cs:=#[.string a0_0,.int .i64 a0_1,.int .i64 a0_2,.int .i64 a0_3,.int .i64 a0_4,.int .i64 0,.int .i64 0,.int .i64 0,.string (⟨#[]⟩:ByteArray),.string (⟨#[]⟩:ByteArray),.bool false]) ?_ 5 _ rfl;refine pB ?_;refine blk_put (cs:=#[.string a0_0,.int .i64 a0_1,.int .i64 a0_2,.int .i64 a0_3,.int .i64 0,.int .i64 0,.int .i64 0,.int .i64 0,.string (⟨#[]⟩:ByteArray),.string (⟨#[]⟩:ByteArray),.bool false]) ?_ 4 _ rfl;refine pB ?_;refine blk_put (cs:=#[.string a0_0,.int .i64 a0_1,.int .i64 a0_2,.int .i64 0,.int .i64 0,.int .i64 0,.int .i64 0,.int .i64 0,.string (⟨#[]⟩:ByteArray),.string (⟨#[]⟩:ByteArray),.bool false]) ?_ 3 _ rfl;refine pB ?_;refine blk_put (cs:=#[.string a0_0,.int .i64 a0_1,.int .i64 0,.int .i64 0,.int .i64 0,.int .i64 0,.int .i64 0,.int .i64 0,.string (⟨#[]⟩:ByteArray),.string (⟨#[]⟩:ByteArray),.bool false]) ?_ 2 _ rfl;refine pB ?_;refine blk_put (cs:=#[.string a0_0,.int .i64 0,.int .i64 0,.int .i64 0,.int .i64 0,.int .i64 0,.int .i64 0,.int .i64 0,.string (⟨#[]⟩:ByteArray),.string (⟨#[]⟩:ByteArray),.bool false]) ?_ 1 _ rfl;refine pB ?_;refine blk_put (cs:=#[.string (⟨#[]⟩:ByteArray),.int .i64 0,.int .i64 0,.int .i64 0,.int .i64 0,.int .i64 0,.int .i64 0,.int .i64 0,.string (⟨#[]⟩:ByteArray),.string (⟨#[]⟩:ByteArray),.bool false]) ?_ 0 _ rfl;refine pB ?_;exact BK1145.out),fun h0_ => absurd ((hoff 7 (by kernel_rfl)).symm.trans h0_) (by decide)⟩
        refine steps_cons ?_ ?_
        ·rintro b a w' ⟨v1158,m7_,ha,Q_BK1143,Q_BK1144,Q_BK1145,Q_HB,Q_HO1159,Q_BK1145_e6,Q_X7_⟩ hb_ hon hoff
         refine ⟨_,rfl,fun K hK => ?_⟩
         have e52:a.tmps[52]? = some (v1158):=by rw [ha];exact putSel_on (e:=(5,52,v1158)) 4 rfl rfl (hon 5 (by kernel_rfl)) rfl
         replace ha:=aMk ha
         have BK1143:=aMk Q_BK1143
         have BK1144:=aMk Q_BK1144
         have HB:=aMk Q_HB
         have HO1159:=aMk (Q_HO1159 (hon 5 (by kernel_rfl)))
         have BK1145:=aMk (Q_BK1145_e6 (hon 6 (by kernel_rfl)))
         refine value_ (w1:=w') (v:=v1158) (by rfl) rfl ?_ ?_
         ·go_simp
          (try simp only [i64_w])
          try rfl
         refine hK.out _ _ ⟨v1158,(v1158),(by rw [ha.out];exact putSel_upk 5 hb_ rfl rfl rfl),Q_BK1143,Q_BK1144,fun h0_ => absurd ((hon 6 (by kernel_rfl)).symm.trans h0_) (by decide),Q_HB,Q_HO1159,Q_BK1145_e6,fun _ => rfl⟩
        exact steps_nil
       rintro b a w181 hall ⟨v1158,m7_,ha,Q_BK1143,Q_BK1144,Q_BK1145,Q_HB,Q_HO1159,Q_BK1145_e6,Q_X7_⟩
       clear BK1143 BK1144 BK1145 HB
       have hb0_:=hall 0 (by kernel_rfl)
       have hb1_:=hall 1 (by kernel_rfl)
       have hb3_:=hall 3 (by kernel_rfl)
       have hb4_:=hall 4 (by kernel_rfl)
       have hb5_:=hall 5 (by kernel_rfl)
       have hb6_:=hall 6 (by kernel_rfl)
       have hb7_:=hall 7 (by kernel_rfl)
       subst ha
       obtain rfl:=Q_X7_ hb7_
       simp only [putSel,hb0_,hb1_,hb3_,hb4_,hb5_,hb6_,hb7_,if_true,Act.put,List.setIfInBounds_toArray,List.set_cons_zero,List.set_cons_succ]
       have BK1143:=aMk Q_BK1143
       clear Q_BK1143
       have BK1144:=aMk Q_BK1144
       clear Q_BK1144
       clear Q_BK1145
       have HB:=aMk Q_HB
       clear Q_HB
       have HO1159:=aMk (Q_HO1159 hb5_)
       clear Q_HO1159
       have BK1145:=aMk (Q_BK1145_e6 hb6_)
       clear Q_BK1145_e6
       clear hall hb0_ hb1_ hb3_ hb4_ hb5_ hb6_ hb7_
       try go_wp2
       refine bodyPost_ret (results_ct rfl _ _ gb1145 34 #[.string a0_0,.int .i64 a0_1,.int .i64 a0_2,.int .i64 a0_3,.int .i64 a0_4,.int .i64 a0_5,.int .i64 a0_6,.int .i64 a0_7,.string a0_8,.string a0_9,.bool a0_10] (0,0) _ rfl (pB BK1145.out) Try.underlying34 rfl (by kernel_rfl)) rfl ?_
       exact ⟨_,eRf,kR (Kd.R_mono HO1159.out (fun _ hk => trivial)),bW⟩
      ·replace c164:=Bool.eq_false_iff.mpr c164
       subst c164
       have H1:=H
       rw [if_neg (show ¬ (false = true) by decide)] at H1
       clear H
       have H:=H1
       clear H1
       replace H:=Option.bind_eq_some_iff.mp H
       obtain ⟨⟨t1160,t1161,t1162,t1163,t1164,t1165,t1166⟩,A1820,H⟩:=H
       try dsimp only at H
       have A182:=aMk A1820
       clear A1820
       obtain ⟨y1167,hy1167⟩:∃ y_:List (S53),y_ = (([(⟨t1160,t1161,t1162,t1163,t1164,t1165,t1166⟩:S53)]:List (S53))):=⟨_,rfl⟩
       replace H:(some (a0_0,a0_1,a0_2,a0_3,a0_4,a0_5,a0_6,a0_7,a0_8,a0_9,a0_10,y1167)) = some (r1,r2,r3,r4,r5,r6,r7,r8,r9,r10,r11,r12):=by first|(rw [hy1167];with_reducible exact H)|(have H2_:=(Option.bind_some _ _).symm.trans H;rw [hy1167];with_reducible exact H2_)|(have H2_:=(Option.bind_some _ _).symm.trans H;with_reducible exact H2_) | with_reducible exact H|(rw [hy1167];exact H)|exact H
       have Ny1167:=aMk hy1167
       clear hy1167
       simp only [Option.some.injEq,Prod.mk.injEq] at H
       obtain ⟨rfl,rfl,rfl,rfl,rfl,rfl,rfl,rfl,rfl,rfl,rfl,rfl⟩:=H
       try go_wp2
       replace BK1143:=aMk (bDr BK1143.out)
       replace BK1144:=aMk (bDr BK1144.out)
       replace BK1145:=aMk (bDr BK1145.out)
       replace HB:=aMk (bw1 HB.out)
       refine start_ (n:=8) (S:=fun w' => True) (ds:=[]) #[false,false,false,false,false,false,false,false] (by kernel_rfl) rfl rfl trivial (fun hHeld => ?_);refine with_tabW spec_l10Take.tab15 spec_l10Take.bits15 (fun HT_ HW_ => ?_)
       generalize wc.drew = w183 at BK1143 BK1144 BK1145 HB hHeld ⊢
       refine pU (i:=2) (N:=some 55) #[false,false,true,false,false,false,false,false] (any_of HT_.out (by kernel_rfl)) ?_
       refine inv_at [0,1,3,4,5,6,7] (fun a0_ b a w' => ∃ (v1168:Value) (m7_:Value),a = putSel a0_ b [(0,53,.agg #[.string a0_0,.int .i64 a0_1,.int .i64 a0_2,.int .i64 a0_3,.int .i64 a0_4,.int .i64 a0_5,.int .i64 a0_6,.int .i64 a0_7,.string a0_8,.string a0_9,.bool a0_10]),(1,54,.agg #[.string a0_0,.int .i64 a0_1,.int .i64 a0_2,.int .i64 a0_3,.int .i64 a0_4,.int .i64 a0_5,.int .i64 a0_6,.int .i64 a0_7,.string a0_8,.string a0_9,.bool a0_10]),(3,56,.int .i64 a0_6),(4,57,.agg #[.int .i64 t1160,.int .i64 t1161,.int .i64 t1162,.int .i64 t1163,.int .i64 t1164,.int .i64 t1165,.string t1166]),(5,58,v1168),(7,5,m7_)]∧(w'.heap[gb1143]? = some (.cells #[.string a0_0,.int .i64 a0_1,.int .i64 a0_2,.int .i64 a0_3,.int .i64 a0_4,.int .i64 a0_5,.int .i64 a0_6,.int .i64 a0_7,.string a0_8,.string a0_9,.bool a0_10] 34 (0,0)))∧(w'.heap[gb1144]? = some (.cells #[.int .i64 a1_0,.int .i64 a1_1,.int .i64 a1_2,.int .i64 a1_3,.int .i64 a1_4,.int .i64 a1_5,.string a1_6] 53 (0,0)))∧(b 6 = false→w'.heap[gb1145]? = some (.cells #[.string (⟨#[]⟩:ByteArray),.int .i64 0,.int .i64 0,.int .i64 0,.int .i64 0,.int .i64 0,.int .i64 0,.int .i64 0,.string (⟨#[]⟩:ByteArray),.string (⟨#[]⟩:ByteArray),.bool false] 34 (0,0)))∧(Below w.heap.size w w')∧(b 5 = true→Kd.R k53 53 w' w.heap.size (fun k_ => k_ ≠ gb1144) v1168 y1167)∧(b 6 = true→w'.heap[gb1145]? = some (.cells #[.string a0_0,.int .i64 a0_1,.int .i64 a0_2,.int .i64 a0_3,.int .i64 a0_4,.int .i64 a0_5,.int .i64 a0_6,.int .i64 a0_7,.string a0_8,.string a0_9,.bool a0_10] 34 (0,0)))∧(b 7 = true→(m7_:Value) = v1168)) HT_.out HW_.out (by kernel_rfl) (by kernel_rfl) ?_ ?_ ?_
       ·exact ⟨.bool false,.bool false,by simp only [putSel,Bool.false_eq_true,if_false],BK1143.out,BK1144.out,fun _ => BK1145.out,HB.out,fun h_ => absurd h_ (by decide),fun h_ => absurd h_ (by decide),fun h_ => absurd h_ (by decide)⟩
       ·skip
        clear BK1143 BK1144 BK1145 HB
        refine steps_cons ?_ ?_
        ·rintro b a w' ⟨v1168,m7_,ha,Q_BK1143,Q_BK1144,Q_BK1145,Q_HB,Q_HO1169,Q_BK1145_e6,Q_X7_⟩ hb_ hon hoff
         refine ⟨_,rfl,fun K hK => ?_⟩
         have e2:a.tmps[2]? = some (.pointer (some ⟨gb1143,0,none⟩)):=by rw [ha];exact (putSel_off rfl).trans rfl
         replace ha:=aMk ha
         have BK1143:=aMk Q_BK1143
         have BK1144:=aMk Q_BK1144
         have BK1145:=aMk (Q_BK1145 (hoff 6 (by kernel_rfl)))
         have HB:=aMk Q_HB
         have hc0_:w'.cell? ⟨gb1143,0,none⟩ = some (.string a0_0):=(bCe BK1143.out 0).trans rfl
         have hc1_:w'.cell? ⟨gb1143,1,none⟩ = some (.int .i64 a0_1):=(bCe BK1143.out 1).trans rfl
         have hc2_:w'.cell? ⟨gb1143,2,none⟩ = some (.int .i64 a0_2):=(bCe BK1143.out 2).trans rfl
         have hc3_:w'.cell? ⟨gb1143,3,none⟩ = some (.int .i64 a0_3):=(bCe BK1143.out 3).trans rfl
         have hc4_:w'.cell? ⟨gb1143,4,none⟩ = some (.int .i64 a0_4):=(bCe BK1143.out 4).trans rfl
         have hc5_:w'.cell? ⟨gb1143,5,none⟩ = some (.int .i64 a0_5):=(bCe BK1143.out 5).trans rfl
         have hc6_:w'.cell? ⟨gb1143,6,none⟩ = some (.int .i64 a0_6):=(bCe BK1143.out 6).trans rfl
         have hc7_:w'.cell? ⟨gb1143,7,none⟩ = some (.int .i64 a0_7):=(bCe BK1143.out 7).trans rfl
         have hc8_:w'.cell? ⟨gb1143,8,none⟩ = some (.string a0_8):=(bCe BK1143.out 8).trans rfl
         have hc9_:w'.cell? ⟨gb1143,9,none⟩ = some (.string a0_9):=(bCe BK1143.out 9).trans rfl
         have hc10_:w'.cell? ⟨gb1143,10,none⟩ = some (.bool a0_10):=(bCe BK1143.out 10).trans rfl
         refine value_ (w1:=w') (v:=.agg #[.string a0_0,.int .i64 a0_1,.int .i64 a0_2,.int .i64 a0_3,.int .i64 a0_4,.int .i64 a0_5,.int .i64 a0_6,.int .i64 a0_7,.string a0_8,.string a0_9,.bool a0_10]) (by rfl) rfl ?_ ?_
         ·go_simp
          (try simp only [i64_w])
          try rfl
         refine hK.out _ _ ⟨v1168,m7_,(by rw [ha.out];exact putSel_upk 0 hb_ rfl rfl rfl),Q_BK1143,Q_BK1144,Q_BK1145,Q_HB,Q_HO1169,fun h0_ => absurd ((hoff 6 (by kernel_rfl)).symm.trans h0_) (by decide),fun h0_ => absurd ((hoff 7 (by kernel_rfl)).symm.trans h0_) (by decide)⟩
        refine steps_cons ?_ ?_
        ·rintro b a w' ⟨v1168,m7_,ha,Q_BK1143,Q_BK1144,Q_BK1145,Q_HB,Q_HO1169,Q_BK1145_e6,Q_X7_⟩ hb_ hon hoff
         refine ⟨_,rfl,fun K hK => ?_⟩
         have e2:a.tmps[2]? = some (.pointer (some ⟨gb1143,0,none⟩)):=by rw [ha];exact (putSel_off rfl).trans rfl
         replace ha:=aMk ha
         have BK1143:=aMk Q_BK1143
         have BK1144:=aMk Q_BK1144
         have BK1145:=aMk (Q_BK1145 (hoff 6 (by kernel_rfl)))
         have HB:=aMk Q_HB
         have hc0_:w'.cell? ⟨gb1143,0,none⟩ = some (.string a0_0):=(bCe BK1143.out 0).trans rfl
         have hc1_:w'.cell? ⟨gb1143,1,none⟩ = some (.int .i64 a0_1):=(bCe BK1143.out 1).trans rfl
         have hc2_:w'.cell? ⟨gb1143,2,none⟩ = some (.int .i64 a0_2):=(bCe BK1143.out 2).trans rfl
         have hc3_:w'.cell? ⟨gb1143,3,none⟩ = some (.int .i64 a0_3):=(bCe BK1143.out 3).trans rfl
         have hc4_:w'.cell? ⟨gb1143,4,none⟩ = some (.int .i64 a0_4):=(bCe BK1143.out 4).trans rfl
         have hc5_:w'.cell? ⟨gb1143,5,none⟩ = some (.int .i64 a0_5):=(bCe BK1143.out 5).trans rfl
         have hc6_:w'.cell? ⟨gb1143,6,none⟩ = some (.int .i64 a0_6):=(bCe BK1143.out 6).trans rfl
         have hc7_:w'.cell? ⟨gb1143,7,none⟩ = some (.int .i64 a0_7):=(bCe BK1143.out 7).trans rfl
         have hc8_:w'.cell? ⟨gb1143,8,none⟩ = some (.string a0_8):=(bCe BK1143.out 8).trans rfl
         have hc9_:w'.cell? ⟨gb1143,9,none⟩ = some (.string a0_9):=(bCe BK1143.out 9).trans rfl
         have hc10_:w'.cell? ⟨gb1143,10,none⟩ = some (.bool a0_10):=(bCe BK1143.out 10).trans rfl
         refine value_ (w1:=w') (v:=.agg #[.string a0_0,.int .i64 a0_1,.int .i64 a0_2,.int .i64 a0_3,.int .i64 a0_4,.int .i64 a0_5,.int .i64 a0_6,.int .i64 a0_7,.string a0_8,.string a0_9,.bool a0_10]) (by rfl) rfl ?_ ?_
         ·go_simp
          (try simp only [i64_w])
          try rfl
         refine hK.out _ _ ⟨v1168,m7_,(by rw [ha.out];exact putSel_upk 1 hb_ rfl rfl rfl),Q_BK1143,Q_BK1144,Q_BK1145,Q_HB,fun h0_ => absurd ((hoff 5 (by kernel_rfl)).symm.trans h0_) (by decide),fun h0_ => absurd ((hoff 6 (by kernel_rfl)).symm.trans h0_) (by decide),fun h0_ => absurd ((hoff 7 (by kernel_rfl)).symm.trans h0_) (by decide)⟩
        refine steps_cons ?_ ?_
        ·rintro b a w' ⟨v1168,m7_,ha,Q_BK1143,Q_BK1144,Q_BK1145,Q_HB,Q_HO1169,Q_BK1145_e6,Q_X7_⟩ hb_ hon hoff
         refine ⟨_,rfl,fun K hK => ?_⟩
         have e55:a.tmps[55]? = some (.pointer (some ⟨gb1143,6,none⟩)):=by rw [ha];exact (putSel_off rfl).trans rfl
         replace ha:=aMk ha
         have BK1143:=aMk Q_BK1143
         have BK1144:=aMk Q_BK1144
         have BK1145:=aMk (Q_BK1145 (hoff 6 (by kernel_rfl)))
         have HB:=aMk Q_HB
         have hc0_:w'.cell? ⟨gb1143,0,none⟩ = some (.string a0_0):=(bCe BK1143.out 0).trans rfl
         have hc1_:w'.cell? ⟨gb1143,1,none⟩ = some (.int .i64 a0_1):=(bCe BK1143.out 1).trans rfl
         have hc2_:w'.cell? ⟨gb1143,2,none⟩ = some (.int .i64 a0_2):=(bCe BK1143.out 2).trans rfl
         have hc3_:w'.cell? ⟨gb1143,3,none⟩ = some (.int .i64 a0_3):=(bCe BK1143.out 3).trans rfl
         have hc4_:w'.cell? ⟨gb1143,4,none⟩ = some (.int .i64 a0_4):=(bCe BK1143.out 4).trans rfl
         have hc5_:w'.cell? ⟨gb1143,5,none⟩ = some (.int .i64 a0_5):=(bCe BK1143.out 5).trans rfl
         have hc6_:w'.cell? ⟨gb1143,6,none⟩ = some (.int .i64 a0_6):=(bCe BK1143.out 6).trans rfl
         have hc7_:w'.cell? ⟨gb1143,7,none⟩ = some (.int .i64 a0_7):=(bCe BK1143.out 7).trans rfl
         have hc8_:w'.cell? ⟨gb1143,8,none⟩ = some (.string a0_8):=(bCe BK1143.out 8).trans rfl
         have hc9_:w'.cell? ⟨gb1143,9,none⟩ = some (.string a0_9):=(bCe BK1143.out 9).trans rfl
         have hc10_:w'.cell? ⟨gb1143,10,none⟩ = some (.bool a0_10):=(bCe BK1143.out 10).trans rfl
         refine value_ (w1:=w') (v:=.int .i64 a0_6) (by rfl) rfl ?_ ?_
         ·go_simp
          (try simp only [i64_w])
          try rfl
         refine hK.out _ _ ⟨v1168,m7_,(by rw [ha.out];exact putSel_upk 2 hb_ rfl rfl rfl),Q_BK1143,Q_BK1144,Q_BK1145,Q_HB,fun h0_ => absurd ((hoff 5 (by kernel_rfl)).symm.trans h0_) (by decide),fun h0_ => absurd ((hoff 6 (by kernel_rfl)).symm.trans h0_) (by decide),fun h0_ => absurd ((hoff 7 (by kernel_rfl)).symm.trans h0_) (by decide)⟩
        refine steps_cons ?_ ?_
        ·rintro b a w' ⟨v1168,m7_,ha,Q_BK1143,Q_BK1144,Q_BK1145,Q_HB,Q_HO1169,Q_BK1145_e6,Q_X7_⟩ hb_ hon hoff
         refine ⟨_,rfl,fun K hK => ?_⟩
         have e54:a.tmps[54]? = some (.agg #[.string a0_0,.int .i64 a0_1,.int .i64 a0_2,.int .i64 a0_3,.int .i64 a0_4,.int .i64 a0_5,.int .i64 a0_6,.int .i64 a0_7,.string a0_8,.string a0_9,.bool a0_10]):=by rw [ha];exact putSel_on (e:=(1,54,.agg #[.string a0_0,.int .i64 a0_1,.int .i64 a0_2,.int .i64 a0_3,.int .i64 a0_4,.int .i64 a0_5,.int .i64 a0_6,.int .i64 a0_7,.string a0_8,.string a0_9,.bool a0_10])) 1 rfl rfl (hon 1 (by kernel_rfl)) rfl
         have e56:a.tmps[56]? = some (.int .i64 a0_6):=by rw [ha];exact putSel_on (e:=(3,56,.int .i64 a0_6)) 2 rfl rfl (hon 3 (by kernel_rfl)) rfl
         replace ha:=aMk ha
         have BK1143:=aMk Q_BK1143
         have BK1144:=aMk Q_BK1144
         have BK1145:=aMk (Q_BK1145 (hoff 6 (by kernel_rfl)))
         have HB:=aMk Q_HB
         refine goes_ Try.func111 (by kernel_rfl) rfl #[.agg #[.string a0_0,.int .i64 a0_1,.int .i64 a0_2,.int .i64 a0_3,.int .i64 a0_4,.int .i64 a0_5,.int .i64 a0_6,.int .i64 a0_7,.string a0_8,.string a0_9,.bool a0_10],.int .i64 a0_6,.int .i64 16,.string (⟨#[]⟩:ByteArray)] (by rfl) rfl rfl (by first|(simp only [List.map_toArray,List.map_cons,List.map_nil,Act.eval,Array.getD_eq_getD_getElem?,Option.getD_some,e54,e56];done)|(simp only [List.map_toArray,List.map_cons,List.map_nil,Act.eval,Array.getD_eq_getD_getElem?,Option.getD_some,e54,e56];rfl)) ?_
         with_reducible refine (spec_l10Reply.calls a0_0 a0_1 a0_2 a0_3 a0_4 a0_5 a0_6 a0_7 a0_8 a0_9 a0_10 a0_6 16 (⟨#[]⟩:ByteArray) t1160 t1161 t1162 t1163 t1164 t1165 t1166 _ A182.out).mono ?_
         rintro e w184 ⟨rfl,hb⟩
         refine ⟨_,rfl,?_⟩
         replace BK1143:=aMk (bkB BK1143.out hb)
         replace BK1144:=aMk (bkB BK1144.out hb)
         replace BK1145:=aMk (bkB BK1145.out hb)
         replace HB:=aMk (bU hb)
         (try clear hb)
         (try clear hb2)
         (try clear hk)
         (try clear hi)
         refine hK.out _ _ ⟨v1168,m7_,(by rw [ha.out];exact putSel_upk 3 hb_ rfl rfl rfl),(pB BK1143.out),(pB BK1144.out),fun _ => (pB BK1145.out),bW,fun h0_ => absurd ((hoff 5 (by kernel_rfl)).symm.trans h0_) (by decide),fun h0_ => absurd ((hoff 6 (by kernel_rfl)).symm.trans h0_) (by decide),fun h0_ => absurd ((hoff 7 (by kernel_rfl)).symm.trans h0_) (by decide)⟩
        refine steps_cons ?_ ?_
        ·rintro b a w' ⟨v1168,m7_,ha,Q_BK1143,Q_BK1144,Q_BK1145,Q_HB,Q_HO1169,Q_BK1145_e6,Q_X7_⟩ hb_ hon hoff
         refine ⟨_,rfl,fun K hK => ?_⟩
         have e57:a.tmps[57]? = some (.agg #[.int .i64 t1160,.int .i64 t1161,.int .i64 t1162,.int .i64 t1163,.int .i64 t1164,.int .i64 t1165,.string t1166]):=by rw [ha];exact putSel_on (e:=(4,57,.agg #[.int .i64 t1160,.int .i64 t1161,.int .i64 t1162,.int .i64 t1163,.int .i64 t1164,.int .i64 t1165,.string t1166])) 3 rfl rfl (hon 4 (by kernel_rfl)) rfl
         replace ha:=aMk ha
         have BK1143:=aMk Q_BK1143
         have BK1144:=aMk Q_BK1144
         have HB:=aMk Q_HB
         refine Kd.R_lit_step k53 _ 53 ?hg (N:=58) ?hd (xs:=([(⟨t1160,t1161,t1162,t1163,t1164,t1165,t1166⟩:S53)]:List (S53))) (inner:=[.int .i64 t1160,.int .i64 t1161,.int .i64 t1162,.int .i64 t1163,.int .i64 t1164,.int .i64 t1165,.string t1166]) (ok:=fun _ => True) (okp:=fun _ => True) ?hr ?hp (fun _ hk => hk) trivial (Below.refl _ _) (Nat.le_refl _) (by simp) ?_;(case hd => rfl);(case hg => rfl);(case hr => first|(go_simp;done)|(go_simp;rfl));(case hp => exact (Reps.c7 (show Kd.M k53 _ _ _ (⟨t1160,t1161,t1162,t1163,t1164,t1165,t1166⟩:S53) [.int .i64 t1160,.int .i64 t1161,.int .i64 t1162,.int .i64 t1163,.int .i64 t1164,.int .i64 t1165,.string t1166] from (k53_mkM _ _ _ (⟨t1160,t1161,t1162,t1163,t1164,t1165,t1166⟩:S53) )) (Reps.none _ _)))
         intro v1168 w186 ho187 hb hg_ hnew_
         clear hg_ hnew_
         (first|rw [← Ny1167.out] at ho187|(simp only [Int.reduceToNat] at ho187;rw [← Ny1167.out] at ho187))
         have n0_:=aMk (Kd.R_lower (Kd.R_newB ho187 (g:=gb1144) (o:=.cells #[.int .i64 a1_0,.int .i64 a1_1,.int .i64 a1_2,.int .i64 a1_3,.int .i64 a1_4,.int .i64 a1_5,.string a1_6] 53 (0,0)) (pB BK1144.out)) (below_size bW))
         have n1_:=aMk (bkB BK1143.out hb)
         have n2_:=aMk (bkB BK1144.out hb)
         have n4_:=aMk (bU hb)
         have z_BK1145:=fun (h0_:b 6 = false) => (show w186.heap[gb1145]? = some (.cells #[.string (⟨#[]⟩:ByteArray),.int .i64 0,.int .i64 0,.int .i64 0,.int .i64 0,.int .i64 0,.int .i64 0,.int .i64 0,.string (⟨#[]⟩:ByteArray),.string (⟨#[]⟩:ByteArray),.bool false] 34 (0,0)) from by first|exact (blk_below (g:=gb1145) (o:=.cells #[.string (⟨#[]⟩:ByteArray),.int .i64 0,.int .i64 0,.int .i64 0,.int .i64 0,.int .i64 0,.int .i64 0,.int .i64 0,.string (⟨#[]⟩:ByteArray),.string (⟨#[]⟩:ByteArray),.bool false] 34 (0,0)) (by refine pB ?_;exact (Q_BK1145 h0_)) hb))
         have z_BK1145_e6:=fun (h0_:b 6 = true) => (show w186.heap[gb1145]? = some (.cells #[.string a0_0,.int .i64 a0_1,.int .i64 a0_2,.int .i64 a0_3,.int .i64 a0_4,.int .i64 a0_5,.int .i64 a0_6,.int .i64 a0_7,.string a0_8,.string a0_9,.bool a0_10] 34 (0,0)) from by first|exact (blk_below (g:=gb1145) (o:=.cells #[.string a0_0,.int .i64 a0_1,.int .i64 a0_2,.int .i64 a0_3,.int .i64 a0_4,.int .i64 a0_5,.int .i64 a0_6,.int .i64 a0_7,.string a0_8,.string a0_9,.bool a0_10] 34 (0,0)) (by refine pB ?_;exact (Q_BK1145_e6 h0_)) hb))
         clear BK1143
         clear BK1144
         clear HB
         have HO1169:=n0_
         have BK1143:=n1_
         have BK1144:=n2_
         have HB:=n4_
         clear n0_ n1_ n2_ n4_
         clear hb ho187
         refine hK.out _ _ ⟨v1168,m7_,(by rw [ha.out];exact putSel_upk 4 hb_ rfl rfl rfl),(pB BK1143.out),(pB BK1144.out),z_BK1145,bW,fun _ => (kR (Kd.R_mono HO1169.out (fun _ hk => hk.2))),z_BK1145_e6,fun h0_ => absurd ((hoff 7 (by kernel_rfl)).symm.trans h0_) (by decide)⟩
        refine steps_cons ?_ ?_
        ·rintro b a w' ⟨v1168,m7_,ha,Q_BK1143,Q_BK1144,Q_BK1145,Q_HB,Q_HO1169,Q_BK1145_e6,Q_X7_⟩ hb_ hon hoff
         refine ⟨_,rfl,fun K hK => ?_⟩
         have e4:a.tmps[4]? = some (.pointer (some ⟨gb1145,0,none⟩)):=by rw [ha];exact (putSel_off rfl).trans rfl
         have e53:a.tmps[53]? = some (.agg #[.string a0_0,.int .i64 a0_1,.int .i64 a0_2,.int .i64 a0_3,.int .i64 a0_4,.int .i64 a0_5,.int .i64 a0_6,.int .i64 a0_7,.string a0_8,.string a0_9,.bool a0_10]):=by rw [ha];exact putSel_on (e:=(0,53,.agg #[.string a0_0,.int .i64 a0_1,.int .i64 a0_2,.int .i64 a0_3,.int .i64 a0_4,.int .i64 a0_5,.int .i64 a0_6,.int .i64 a0_7,.string a0_8,.string a0_9,.bool a0_10])) 0 rfl rfl (hon 0 (by kernel_rfl)) rfl
         replace ha:=aMk ha
         have BK1143:=aMk Q_BK1143
         have BK1144:=aMk Q_BK1144
         have BK1145:=aMk (Q_BK1145 hb_)
         have HB:=aMk Q_HB
         have hs186:w'.cell? ⟨gb1145,0,none⟩ = some (.string (⟨#[]⟩:ByteArray)):=(bCe BK1145.out 0).trans rfl
         have hfs186:=bFr BK1145.out 0
         have hns186_0:=NB1143_1145.out
         have hns186_1:=NB1144_1145.out
         have hms186_0:=NB1145_1143.out
         have hms186_1:=NB1145_1144.out
         have hs187:w'.cell? ⟨gb1145,1,none⟩ = some (.int .i64 0):=(bCe BK1145.out 1).trans rfl
         have hfs187:=bFr BK1145.out 1
         have hns187_0:=NB1143_1145.out
         have hns187_1:=NB1144_1145.out
         have hms187_0:=NB1145_1143.out
         have hms187_1:=NB1145_1144.out
         have hs188:w'.cell? ⟨gb1145,2,none⟩ = some (.int .i64 0):=(bCe BK1145.out 2).trans rfl
         have hfs188:=bFr BK1145.out 2
         have hns188_0:=NB1143_1145.out
         have hns188_1:=NB1144_1145.out
         have hms188_0:=NB1145_1143.out
         have hms188_1:=NB1145_1144.out
         have hs189:w'.cell? ⟨gb1145,3,none⟩ = some (.int .i64 0):=(bCe BK1145.out 3).trans rfl
         have hfs189:=bFr BK1145.out 3
         have hns189_0:=NB1143_1145.out
         have hns189_1:=NB1144_1145.out
         have hms189_0:=NB1145_1143.out
         have hms189_1:=NB1145_1144.out
         have hs190:w'.cell? ⟨gb1145,4,none⟩ = some (.int .i64 0):=(bCe BK1145.out 4).trans rfl
         have hfs190:=bFr BK1145.out 4
         have hns190_0:=NB1143_1145.out
         have hns190_1:=NB1144_1145.out
         have hms190_0:=NB1145_1143.out
         have hms190_1:=NB1145_1144.out
         have hs191:w'.cell? ⟨gb1145,5,none⟩ = some (.int .i64 0):=(bCe BK1145.out 5).trans rfl
         have hfs191:=bFr BK1145.out 5
         have hns191_0:=NB1143_1145.out
         have hns191_1:=NB1144_1145.out
         have hms191_0:=NB1145_1143.out
         have hms191_1:=NB1145_1144.out
         have hs192:w'.cell? ⟨gb1145,6,none⟩ = some (.int .i64 0):=(bCe BK1145.out 6).trans rfl
         have hfs192:=bFr BK1145.out 6
         have hns192_0:=NB1143_1145.out
         have hns192_1:=NB1144_1145.out
         have hms192_0:=NB1145_1143.out
         have hms192_1:=NB1145_1144.out
         have hs193:w'.cell? ⟨gb1145,7,none⟩ = some (.int .i64 0):=(bCe BK1145.out 7).trans rfl
         have hfs193:=bFr BK1145.out 7
         have hns193_0:=NB1143_1145.out
         have hns193_1:=NB1144_1145.out
         have hms193_0:=NB1145_1143.out
         have hms193_1:=NB1145_1144.out
         have hs194:w'.cell? ⟨gb1145,8,none⟩ = some (.string (⟨#[]⟩:ByteArray)):=(bCe BK1145.out 8).trans rfl
         have hfs194:=bFr BK1145.out 8
         have hns194_0:=NB1143_1145.out
         have hns194_1:=NB1144_1145.out
         have hms194_0:=NB1145_1143.out
         have hms194_1:=NB1145_1144.out
         have hs195:w'.cell? ⟨gb1145,9,none⟩ = some (.string (⟨#[]⟩:ByteArray)):=(bCe BK1145.out 9).trans rfl
         have hfs195:=bFr BK1145.out 9
         have hns195_0:=NB1143_1145.out
         have hns195_1:=NB1144_1145.out
         have hms195_0:=NB1145_1143.out
         have hms195_1:=NB1145_1144.out
         have hs196:w'.cell? ⟨gb1145,10,none⟩ = some (.bool false):=(bCe BK1145.out 10).trans rfl
         have hfs196:=bFr BK1145.out 10
         have hns196_0:=NB1143_1145.out
         have hns196_1:=NB1144_1145.out
         have hms196_0:=NB1145_1143.out
         have hms196_1:=NB1145_1144.out
         refine skip_ (w1:=?_) (by rfl) rfl ?_ ?_
         rotate_left
         ·go_simp
          rfl
         refine hK.out _ _ ⟨v1168,m7_,(by rw [ha.out];exact putSel_none (v:=undef) rfl),(fB BK1143.out),(fB BK1144.out),fun h0_ => absurd ((up_self b 6).symm.trans h0_) (by decide),bW,fun h0_ => (kR (Kd.R_mono (Kd.R_far (p:=⟨gb1145,10,none⟩) (Kd.R_far (p:=⟨gb1145,9,none⟩) (Kd.R_far (p:=⟨gb1145,8,none⟩) (Kd.R_far (p:=⟨gb1145,7,none⟩) (Kd.R_far (p:=⟨gb1145,6,none⟩) (Kd.R_far (p:=⟨gb1145,5,none⟩) (Kd.R_far (p:=⟨gb1145,4,none⟩) (Kd.R_far (p:=⟨gb1145,3,none⟩) (Kd.R_far (p:=⟨gb1145,2,none⟩) (Kd.R_far (p:=⟨gb1145,1,none⟩) (Kd.R_far (p:=⟨gb1145,0,none⟩) (Kd.R_types (Q_HO1169 h0_) BK1145.out (by decide)) (fun _ hk => hk.2) (.string a0_0)) (fun _ hk => hk.2) (.int .i64 a0_1)) (fun _ hk => hk.2) (.int .i64 a0_2)) (fun _ hk => hk.2) (.int .i64 a0_3)) (fun _ hk => hk.2) (.int .i64 a0_4)) (fun _ hk => hk.2) (.int .i64 a0_5)) (fun _ hk => hk.2) (.int .i64 a0_6)) (fun _ hk => hk.2) (.int .i64 a0_7)) (fun _ hk => hk.2) (.string a0_8)) (fun _ hk => hk.2) (.string a0_9)) (fun _ hk => hk.2) (.bool a0_10)) (fun _ hk => hk.1))),fun _ => (by refine pB ?_;refine blk_put (cs:=#[.string a0_0,.int .i64 a0_1,.int .i64 a0_2,.int .i64 a0_3,.int .i64 a0_4,.int .i64 a0_5,.int .i64 a0_6,.int .i64 a0_7,.string a0_8,.string a0_9,.bool false]) ?_ 10 _ rfl;refine pB ?_;refine blk_put (cs:=#[.string a0_0,.int .i64 a0_1,.int .i64 a0_2,.int .i64 a0_3,.int .i64 a0_4,.int .i64 a0_5,.int .i64 a0_6,.int .i64 a0_7,.string a0_8,.string (⟨#[]⟩:ByteArray),.bool false]) ?_ 9 _ rfl;refine pB ?_;refine blk_put (cs:=#[.string a0_0,.int .i64 a0_1,.int .i64 a0_2,.int .i64 a0_3,.int .i64 a0_4,.int .i64 a0_5,.int .i64 a0_6,.int .i64 a0_7,.string (⟨#[]⟩:ByteArray),.string (⟨#[]⟩:ByteArray),.bool false]) ?_ 8 _ rfl;refine pB ?_;refine blk_put (cs:=#[.string a0_0,.int .i64 a0_1,.int .i64 a0_2,.int .i64 a0_3,.int .i64 a0_4,.int .i64 a0_5,.int .i64 a0_6,.int .i64 0,.string (⟨#[]⟩:ByteArray),.string (⟨#[]⟩:ByteArray),.bool false]) ?_ 7 _ rfl;refine pB ?_;refine blk_put (cs:=#[.string a0_0,.int .i64 a0_1,.int .i64 a0_2,.int .i64 a0_3,.int .i64 a0_4,.int .i64 a0_5,.int .i64 0,.int .i64 0,.string (⟨#[]⟩:ByteArray),.string (⟨#[]⟩:ByteArray),.bool false]) ?_ 6 _ rfl;refine pB ?_;refine blk_put (cs:=#[.string a0_0,.int .i64 a0_1,.int .i64 a0_2,.int .i64 a0_3,.int .i64 a0_4,.int .i64 0,.int .i64 0,.int .i64 0,.string (⟨#[]⟩:ByteArray),.string (⟨#[]⟩:ByteArray),.bool false]) ?_ 5 _ rfl;refine pB ?_;refine blk_put (cs:=#[.string a0_0,.int .i64 a0_1,.int .i64 a0_2,.int .i64 a0_3,.int .i64 0,.int .i64 0,.int .i64 0,.int .i64 0,.string (⟨#[]⟩:ByteArray),.string (⟨#[]⟩:ByteArray),.bool false]) ?_ 4 _ rfl;refine pB ?_;refine blk_put (cs:=#[.string a0_0,.int .i64 a0_1,.int .i64 a0_2,.int .i64 0,.int .i64 0,.int .i64 0,.int .i64 0,.int .i64 0,.string (⟨#[]⟩:ByteArray),.string (⟨#[]⟩:ByteArray),.bool false]) ?_ 3 _ rfl;refine pB ?_;refine blk_put (cs:=#[.string a0_0,.int .i64 a0_1,.int .i64 0,.int .i64 0,.int .i64 0,.int .i64 0,.int .i64 0,.int .i64 0,.string (⟨#[]⟩:ByteArray),.string (⟨#[]⟩:ByteArray),.bool false]) ?_ 2 _ rfl;refine pB ?_;refine blk_put (cs:=#[.string a0_0,.int .i64 0,.int .i64 0,.int .i64 0,.int .i64 0,.int .i64 0,.int .i64 0,.int .i64 0,.string (⟨#[]⟩:ByteArray),.string (⟨#[]⟩:ByteArray),.bool false]) ?_ 1 _ rfl;refine pB ?_;refine blk_put (cs:=#[.string (⟨#[]⟩:ByteArray),.int .i64 0,.int .i64 0,.int .i64 0,.int .i64 0,.int .i64 0,.int .i64 0,.int .i64 0,.string (⟨#[]⟩:ByteArray),.string (⟨#[]⟩:ByteArray),.bool false]) ?_ 0 _ rfl;refine pB ?_;exact BK1145.out),fun h0_ => absurd ((hoff 7 (by kernel_rfl)).symm.trans h0_) (by decide)⟩
        refine steps_cons ?_ ?_
        ·rintro b a w' ⟨v1168,m7_,ha,Q_BK1143,Q_BK1144,Q_BK1145,Q_HB,Q_HO1169,Q_BK1145_e6,Q_X7_⟩ hb_ hon hoff
         refine ⟨_,rfl,fun K hK => ?_⟩
         have e58:a.tmps[58]? = some (v1168):=by rw [ha];exact putSel_on (e:=(5,58,v1168)) 4 rfl rfl (hon 5 (by kernel_rfl)) rfl
         replace ha:=aMk ha
         have BK1143:=aMk Q_BK1143
         have BK1144:=aMk Q_BK1144
         have HB:=aMk Q_HB
         have HO1169:=aMk (Q_HO1169 (hon 5 (by kernel_rfl)))
         have BK1145:=aMk (Q_BK1145_e6 (hon 6 (by kernel_rfl)))
         refine value_ (w1:=w') (v:=v1168) (by rfl) rfl ?_ ?_
         ·go_simp
          (try simp only [i64_w])
          try rfl
         refine hK.out _ _ ⟨v1168,(v1168),(by rw [ha.out];exact putSel_upk 5 hb_ rfl rfl rfl),Q_BK1143,Q_BK1144,fun h0_ => absurd ((hon 6 (by kernel_rfl)).symm.trans h0_) (by decide),Q_HB,Q_HO1169,Q_BK1145_e6,fun _ => rfl⟩
        exact steps_nil
       rintro b a w198 hall ⟨v1168,m7_,ha,Q_BK1143,Q_BK1144,Q_BK1145,Q_HB,Q_HO1169,Q_BK1145_e6,Q_X7_⟩
       clear BK1143 BK1144 BK1145 HB
       have hb0_:=hall 0 (by kernel_rfl)
       have hb1_:=hall 1 (by kernel_rfl)
       have hb3_:=hall 3 (by kernel_rfl)
       have hb4_:=hall 4 (by kernel_rfl)
       have hb5_:=hall 5 (by kernel_rfl)
       have hb6_:=hall 6 (by kernel_rfl)
       have hb7_:=hall 7 (by kernel_rfl)
       subst ha
       obtain rfl:=Q_X7_ hb7_
       simp only [putSel,hb0_,hb1_,hb3_,hb4_,hb5_,hb6_,hb7_,if_true,Act.put,List.setIfInBounds_toArray,List.set_cons_zero,List.set_cons_succ]
       have BK1143:=aMk Q_BK1143
       clear Q_BK1143
       have BK1144:=aMk Q_BK1144
       clear Q_BK1144
       clear Q_BK1145
       have HB:=aMk Q_HB
       clear Q_HB
       have HO1169:=aMk (Q_HO1169 hb5_)
       clear Q_HO1169
       have BK1145:=aMk (Q_BK1145_e6 hb6_)
       clear Q_BK1145_e6
       clear hall hb0_ hb1_ hb3_ hb4_ hb5_ hb6_ hb7_
       try go_wp2
       refine bodyPost_ret (results_ct rfl _ _ gb1145 34 #[.string a0_0,.int .i64 a0_1,.int .i64 a0_2,.int .i64 a0_3,.int .i64 a0_4,.int .i64 a0_5,.int .i64 a0_6,.int .i64 a0_7,.string a0_8,.string a0_9,.bool a0_10] (0,0) _ rfl (pB BK1145.out) Try.underlying34 rfl (by kernel_rfl)) rfl ?_
       exact ⟨_,eRf,kR (Kd.R_mono HO1169.out (fun _ hk => trivial)),bW⟩
  ·rw [if_neg c14] at H
   have c14b0:((Go.bits .and .i64 a1_4 4) == 0) = false:=beq_eq_false_iff_ne.mpr c14
   have c14b1:((Go.bits .and .i64 a1_4 4) != 0) = true:=bne_iff_ne.mpr c14
   by_cases c199:a1_2 = a0_7
   ·rw [if_pos c199] at H
    have c199b0:(a1_2 == a0_7) = true:=beq_iff_eq.mpr c199
    have c199b1:(a1_2 != a0_7) = false:=bne_eq_false_iff_eq.mpr c199
    clear c199
    simp only [Option.some.injEq,Prod.mk.injEq] at H
    obtain ⟨rfl,rfl,rfl,rfl,rfl,rfl,rfl,rfl,rfl,rfl,rfl,rfl⟩:=H
    go_enter Try.func103,Try.ntmps103
    go_wp2_with (first|((with_reducible refine gate_dst (N:=2) rfl ?_);(try (refine gate_guard (by rfl) ?_;dsimp only));refine bxE (N:=2) (cs:=#[.string a0_0,.int .i64 a0_1,.int .i64 a0_2,.int .i64 a0_3,.int .i64 a0_4,.int .i64 a0_5,.int .i64 a0_6,.int .i64 a0_7,.string a0_8,.string a0_9,.bool a0_10]) (t:=34) ?_;intro gb1143 hg w200 hbox hb;have BK1143:=aMk (hbox);have GW1143:=aMk (bZ hg);have GE1143:=aMk (bZ hg);replace HB:=aMk (bSt hb);clear hb hbox hg)|((with_reducible refine gate_dst (N:=3) rfl ?_);(try (refine gate_guard (by rfl) ?_;dsimp only));refine bxE (N:=3) (cs:=#[.int .i64 a1_0,.int .i64 a1_1,.int .i64 a1_2,.int .i64 a1_3,.int .i64 a1_4,.int .i64 a1_5,.string a1_6]) (t:=53) ?_;intro gb1144 hg w201 hbox hb;have BK1144:=aMk (hbox);have GW1144:=aMk (bG bW hg);have GE1144:=aMk (bG bW hg);replace HB:=aMk (bU hb);have NB1143_1144:=aMk ((bkL BK1143.out hg:gb1143 ≠ gb1144));have NB1144_1143:=aMk ((bkG BK1143.out hg:gb1144 ≠ gb1143));replace BK1143:=aMk (bkB BK1143.out hb);clear hb hbox hg)|((with_reducible refine gate_dst (N:=4) rfl ?_);(try (refine gate_guard (by rfl) ?_;dsimp only));refine bxE (N:=4) (cs:=#[.string (⟨#[]⟩:ByteArray),.int .i64 0,.int .i64 0,.int .i64 0,.int .i64 0,.int .i64 0,.int .i64 0,.int .i64 0,.string (⟨#[]⟩:ByteArray),.string (⟨#[]⟩:ByteArray),.bool false]) (t:=34) ?_;intro gb1145 hg w202 hbox hb;have BK1145:=aMk (hbox);have GW1145:=aMk (bG bW hg);have GE1145:=aMk (bG bW hg);replace HB:=aMk (bU hb);have NB1143_1145:=aMk ((bkL BK1143.out hg:gb1143 ≠ gb1145));have NB1145_1143:=aMk ((bkG BK1143.out hg:gb1145 ≠ gb1143));replace BK1143:=aMk (bkB BK1143.out hb);have NB1144_1145:=aMk ((bkL BK1144.out hg:gb1144 ≠ gb1145));have NB1145_1144:=aMk ((bkG BK1144.out hg:gb1145 ≠ gb1144));replace BK1144:=aMk (bkB BK1144.out hb);clear hb hbox hg)|((with_reducible refine gate_dst (N:=7) rfl ?_);(try (refine gate_guard (by rfl) ?_;dsimp only));refine Kd.R_lit k53 _ 53 ?hg (N:=7) ?hd (xs:=([]:List (S53))) (inner:=[]) (ok:=fun _ => True) (okp:=fun _ => True) ?hr ?hp (fun _ hk => hk) trivial (Below.refl _ _) (Nat.le_refl _) (by simp) ?_;(case hd => rfl);(case hg => rfl);(case hr => first|(go_simp;done)|(go_simp;rfl));(case hp => exact (Reps.none _ _));intro v1147 w203 ho204 hb hg_ hnew_;clear hg_ hnew_;(first|rw [← Ny1146.out] at ho204|(simp only [Int.reduceToNat] at ho204;rw [← Ny1146.out] at ho204));have HO1148:=aMk (Kd.R_lower (Kd.R_newB ho204 (g:=gb1144) (o:=.cells #[.int .i64 a1_0,.int .i64 a1_1,.int .i64 a1_2,.int .i64 a1_3,.int .i64 a1_4,.int .i64 a1_5,.string a1_6] 53 (0,0)) (pB BK1144.out)) (below_size bW));replace BK1143:=aMk (bkB BK1143.out hb);replace BK1144:=aMk (bkB BK1144.out hb);replace BK1145:=aMk (bkB BK1145.out hb);replace HB:=aMk (bU hb);clear hb ho204;have hnb205:=NB1143_1144.out;have hnc205:=NB1144_1143.out;have hnb206:=NB1143_1145.out;have hnc206:=NB1145_1143.out;obtain ⟨Z207_0,Z207_1,Z207_2,Z207_3,Z207_4,Z207_5,Z207_6,Z207_7,Z207_8,Z207_9,Z207_10,Y207_0,Y207_1,Y207_2,Y207_3,Y207_4,Y207_5,Y207_6,Y207_7,Y207_8,Y207_9,Y207_10⟩:=bC11 BK1143.out;have hnb208:=NB1144_1145.out;have hnc208:=NB1145_1144.out;obtain ⟨Z209_0,Z209_1,Z209_2,Z209_3,Z209_4,Z209_5,Z209_6,Y209_0,Y209_1,Y209_2,Y209_3,Y209_4,Y209_5,Y209_6⟩:=bC7 BK1144.out;obtain ⟨Z210_0,Z210_1,Z210_2,Z210_3,Z210_4,Z210_5,Z210_6,Z210_7,Z210_8,Z210_9,Z210_10,Y210_0,Y210_1,Y210_2,Y210_3,Y210_4,Y210_5,Y210_6,Y210_7,Y210_8,Y210_9,Y210_10⟩:=bC11 BK1145.out))
    refine bodyPost_ret (results_ct rfl _ _ gb1145 34 #[.string a0_0,.int .i64 a0_1,.int .i64 a0_2,.int .i64 a0_3,.int .i64 4,.int .i64 a0_6,.int .i64 a0_6,.int .i64 a0_7,.string (⟨#[]⟩:ByteArray),.string (⟨#[]⟩:ByteArray),.bool false] (0,0) _ rfl (by refine pB ?_;refine blk_put (cs:=#[.string a0_0,.int .i64 a0_1,.int .i64 a0_2,.int .i64 a0_3,.int .i64 4,.int .i64 a0_6,.int .i64 a0_6,.int .i64 a0_7,.string (⟨#[]⟩:ByteArray),.string (⟨#[]⟩:ByteArray),.bool false]) ?_ 10 _ rfl;refine pB ?_;refine blk_put (cs:=#[.string a0_0,.int .i64 a0_1,.int .i64 a0_2,.int .i64 a0_3,.int .i64 4,.int .i64 a0_6,.int .i64 a0_6,.int .i64 a0_7,.string (⟨#[]⟩:ByteArray),.string (⟨#[]⟩:ByteArray),.bool false]) ?_ 9 _ rfl;refine pB ?_;refine blk_put (cs:=#[.string a0_0,.int .i64 a0_1,.int .i64 a0_2,.int .i64 a0_3,.int .i64 4,.int .i64 a0_6,.int .i64 a0_6,.int .i64 a0_7,.string (⟨#[]⟩:ByteArray),.string (⟨#[]⟩:ByteArray),.bool false]) ?_ 8 _ rfl;refine pB ?_;refine blk_put (cs:=#[.string a0_0,.int .i64 a0_1,.int .i64 a0_2,.int .i64 a0_3,.int .i64 4,.int .i64 a0_6,.int .i64 a0_6,.int .i64 0,.string (⟨#[]⟩:ByteArray),.string (⟨#[]⟩:ByteArray),.bool false]) ?_ 7 _ rfl;refine pB ?_;refine blk_put (cs:=#[.string a0_0,.int .i64 a0_1,.int .i64 a0_2,.int .i64 a0_3,.int .i64 4,.int .i64 a0_6,.int .i64 0,.int .i64 0,.string (⟨#[]⟩:ByteArray),.string (⟨#[]⟩:ByteArray),.bool false]) ?_ 6 _ rfl;refine pB ?_;refine blk_put (cs:=#[.string a0_0,.int .i64 a0_1,.int .i64 a0_2,.int .i64 a0_3,.int .i64 4,.int .i64 0,.int .i64 0,.int .i64 0,.string (⟨#[]⟩:ByteArray),.string (⟨#[]⟩:ByteArray),.bool false]) ?_ 5 _ rfl;refine pB ?_;refine blk_put (cs:=#[.string a0_0,.int .i64 a0_1,.int .i64 a0_2,.int .i64 a0_3,.int .i64 0,.int .i64 0,.int .i64 0,.int .i64 0,.string (⟨#[]⟩:ByteArray),.string (⟨#[]⟩:ByteArray),.bool false]) ?_ 4 _ rfl;refine pB ?_;refine blk_put (cs:=#[.string a0_0,.int .i64 a0_1,.int .i64 a0_2,.int .i64 0,.int .i64 0,.int .i64 0,.int .i64 0,.int .i64 0,.string (⟨#[]⟩:ByteArray),.string (⟨#[]⟩:ByteArray),.bool false]) ?_ 3 _ rfl;refine pB ?_;refine blk_put (cs:=#[.string a0_0,.int .i64 a0_1,.int .i64 0,.int .i64 0,.int .i64 0,.int .i64 0,.int .i64 0,.int .i64 0,.string (⟨#[]⟩:ByteArray),.string (⟨#[]⟩:ByteArray),.bool false]) ?_ 2 _ rfl;refine pB ?_;refine blk_put (cs:=#[.string a0_0,.int .i64 0,.int .i64 0,.int .i64 0,.int .i64 0,.int .i64 0,.int .i64 0,.int .i64 0,.string (⟨#[]⟩:ByteArray),.string (⟨#[]⟩:ByteArray),.bool false]) ?_ 1 _ rfl;refine pB ?_;refine blk_put (cs:=#[.string (⟨#[]⟩:ByteArray),.int .i64 0,.int .i64 0,.int .i64 0,.int .i64 0,.int .i64 0,.int .i64 0,.int .i64 0,.string (⟨#[]⟩:ByteArray),.string (⟨#[]⟩:ByteArray),.bool false]) ?_ 0 _ rfl;refine pB ?_;refine blk_far ?_ NB1145_1143.out _;refine pB ?_;refine blk_far ?_ NB1145_1143.out _;refine pB ?_;refine blk_far ?_ NB1145_1143.out _;refine pB ?_;refine blk_far ?_ NB1145_1143.out _;refine pB ?_;refine blk_far ?_ NB1145_1143.out _;refine pB ?_;exact BK1145.out) Try.underlying34 rfl (by kernel_rfl)) rfl ?_
    exact ⟨_,eRf,kR (Kd.R_mono (Kd.R_far (p:=⟨gb1145,10,none⟩) (Kd.R_far (p:=⟨gb1145,9,none⟩) (Kd.R_far (p:=⟨gb1145,8,none⟩) (Kd.R_far (p:=⟨gb1145,7,none⟩) (Kd.R_far (p:=⟨gb1145,6,none⟩) (Kd.R_far (p:=⟨gb1145,5,none⟩) (Kd.R_far (p:=⟨gb1145,4,none⟩) (Kd.R_far (p:=⟨gb1145,3,none⟩) (Kd.R_far (p:=⟨gb1145,2,none⟩) (Kd.R_far (p:=⟨gb1145,1,none⟩) (Kd.R_far (p:=⟨gb1145,0,none⟩) (Kd.R_far (p:=⟨gb1143,5,none⟩) (Kd.R_far (p:=⟨gb1143,10,none⟩) (Kd.R_far (p:=⟨gb1143,9,none⟩) (Kd.R_far (p:=⟨gb1143,8,none⟩) (Kd.R_far (p:=⟨gb1143,4,none⟩) (Kd.R_types (Kd.R_types HO1148.out BK1143.out (by decide)) BK1145.out (by decide)) (fun _ hk => hk.1.2) (.int .i64 4)) (fun _ hk => hk.1.2) (.string (⟨#[]⟩:ByteArray))) (fun _ hk => hk.1.2) (.string (⟨#[]⟩:ByteArray))) (fun _ hk => hk.1.2) (.bool false)) (fun _ hk => hk.1.2) (.int .i64 a0_6)) (fun _ hk => hk.2) (.string a0_0)) (fun _ hk => hk.2) (.int .i64 a0_1)) (fun _ hk => hk.2) (.int .i64 a0_2)) (fun _ hk => hk.2) (.int .i64 a0_3)) (fun _ hk => hk.2) (.int .i64 4)) (fun _ hk => hk.2) (.int .i64 a0_6)) (fun _ hk => hk.2) (.int .i64 a0_6)) (fun _ hk => hk.2) (.int .i64 a0_7)) (fun _ hk => hk.2) (.string (⟨#[]⟩:ByteArray))) (fun _ hk => hk.2) (.string (⟨#[]⟩:ByteArray))) (fun _ hk => hk.2) (.bool false)) (fun _ hk => trivial)),bW⟩
   ·rw [if_neg c199] at H
    have c199b0:(a1_2 == a0_7) = false:=beq_eq_false_iff_ne.mpr c199
    have c199b1:(a1_2 != a0_7) = true:=bne_iff_ne.mpr c199
    simp only [Option.some.injEq,Prod.mk.injEq] at H
    obtain ⟨rfl,rfl,rfl,rfl,rfl,rfl,rfl,rfl,rfl,rfl,rfl,rfl⟩:=H
    go_enter Try.func103,Try.ntmps103
    go_wp2_with (first|((with_reducible refine gate_dst (N:=2) rfl ?_);(try (refine gate_guard (by rfl) ?_;dsimp only));refine bxE (N:=2) (cs:=#[.string a0_0,.int .i64 a0_1,.int .i64 a0_2,.int .i64 a0_3,.int .i64 a0_4,.int .i64 a0_5,.int .i64 a0_6,.int .i64 a0_7,.string a0_8,.string a0_9,.bool a0_10]) (t:=34) ?_;intro gb1143 hg w211 hbox hb;have BK1143:=aMk (hbox);have GW1143:=aMk (bZ hg);have GE1143:=aMk (bZ hg);replace HB:=aMk (bSt hb);clear hb hbox hg)|((with_reducible refine gate_dst (N:=3) rfl ?_);(try (refine gate_guard (by rfl) ?_;dsimp only));refine bxE (N:=3) (cs:=#[.int .i64 a1_0,.int .i64 a1_1,.int .i64 a1_2,.int .i64 a1_3,.int .i64 a1_4,.int .i64 a1_5,.string a1_6]) (t:=53) ?_;intro gb1144 hg w212 hbox hb;have BK1144:=aMk (hbox);have GW1144:=aMk (bG bW hg);have GE1144:=aMk (bG bW hg);replace HB:=aMk (bU hb);have NB1143_1144:=aMk ((bkL BK1143.out hg:gb1143 ≠ gb1144));have NB1144_1143:=aMk ((bkG BK1143.out hg:gb1144 ≠ gb1143));replace BK1143:=aMk (bkB BK1143.out hb);clear hb hbox hg)|((with_reducible refine gate_dst (N:=4) rfl ?_);(try (refine gate_guard (by rfl) ?_;dsimp only));refine bxE (N:=4) (cs:=#[.string (⟨#[]⟩:ByteArray),.int .i64 0,.int .i64 0,.int .i64 0,.int .i64 0,.int .i64 0,.int .i64 0,.int .i64 0,.string (⟨#[]⟩:ByteArray),.string (⟨#[]⟩:ByteArray),.bool false]) (t:=34) ?_;intro gb1145 hg w213 hbox hb;have BK1145:=aMk (hbox);have GW1145:=aMk (bG bW hg);have GE1145:=aMk (bG bW hg);replace HB:=aMk (bU hb);have NB1143_1145:=aMk ((bkL BK1143.out hg:gb1143 ≠ gb1145));have NB1145_1143:=aMk ((bkG BK1143.out hg:gb1145 ≠ gb1143));replace BK1143:=aMk (bkB BK1143.out hb);have NB1144_1145:=aMk ((bkL BK1144.out hg:gb1144 ≠ gb1145));have NB1145_1144:=aMk ((bkG BK1144.out hg:gb1145 ≠ gb1144));replace BK1144:=aMk (bkB BK1144.out hb);clear hb hbox hg)|((with_reducible refine gate_dst (N:=7) rfl ?_);(try (refine gate_guard (by rfl) ?_;dsimp only));refine Kd.R_lit k53 _ 53 ?hg (N:=7) ?hd (xs:=([]:List (S53))) (inner:=[]) (ok:=fun _ => True) (okp:=fun _ => True) ?hr ?hp (fun _ hk => hk) trivial (Below.refl _ _) (Nat.le_refl _) (by simp) ?_;(case hd => rfl);(case hg => rfl);(case hr => first|(go_simp;done)|(go_simp;rfl));(case hp => exact (Reps.none _ _));intro v1147 w214 ho215 hb hg_ hnew_;clear hg_ hnew_;(first|rw [← Ny1146.out] at ho215|(simp only [Int.reduceToNat] at ho215;rw [← Ny1146.out] at ho215));have HO1148:=aMk (Kd.R_lower (Kd.R_newB ho215 (g:=gb1144) (o:=.cells #[.int .i64 a1_0,.int .i64 a1_1,.int .i64 a1_2,.int .i64 a1_3,.int .i64 a1_4,.int .i64 a1_5,.string a1_6] 53 (0,0)) (pB BK1144.out)) (below_size bW));replace BK1143:=aMk (bkB BK1143.out hb);replace BK1144:=aMk (bkB BK1144.out hb);replace BK1145:=aMk (bkB BK1145.out hb);replace HB:=aMk (bU hb);clear hb ho215;have hnb216:=NB1143_1144.out;have hnc216:=NB1144_1143.out;have hnb217:=NB1143_1145.out;have hnc217:=NB1145_1143.out;obtain ⟨Z218_0,Z218_1,Z218_2,Z218_3,Z218_4,Z218_5,Z218_6,Z218_7,Z218_8,Z218_9,Z218_10,Y218_0,Y218_1,Y218_2,Y218_3,Y218_4,Y218_5,Y218_6,Y218_7,Y218_8,Y218_9,Y218_10⟩:=bC11 BK1143.out;have hnb219:=NB1144_1145.out;have hnc219:=NB1145_1144.out;obtain ⟨Z220_0,Z220_1,Z220_2,Z220_3,Z220_4,Z220_5,Z220_6,Y220_0,Y220_1,Y220_2,Y220_3,Y220_4,Y220_5,Y220_6⟩:=bC7 BK1144.out;obtain ⟨Z221_0,Z221_1,Z221_2,Z221_3,Z221_4,Z221_5,Z221_6,Z221_7,Z221_8,Z221_9,Z221_10,Y221_0,Y221_1,Y221_2,Y221_3,Y221_4,Y221_5,Y221_6,Y221_7,Y221_8,Y221_9,Y221_10⟩:=bC11 BK1145.out))
    refine bodyPost_ret (results_ct rfl _ _ gb1145 34 #[.string a0_0,.int .i64 a0_1,.int .i64 a0_2,.int .i64 a0_3,.int .i64 a0_4,.int .i64 a0_5,.int .i64 a0_6,.int .i64 a0_7,.string a0_8,.string a0_9,.bool a0_10] (0,0) _ rfl (by refine pB ?_;refine blk_put (cs:=#[.string a0_0,.int .i64 a0_1,.int .i64 a0_2,.int .i64 a0_3,.int .i64 a0_4,.int .i64 a0_5,.int .i64 a0_6,.int .i64 a0_7,.string a0_8,.string a0_9,.bool false]) ?_ 10 _ rfl;refine pB ?_;refine blk_put (cs:=#[.string a0_0,.int .i64 a0_1,.int .i64 a0_2,.int .i64 a0_3,.int .i64 a0_4,.int .i64 a0_5,.int .i64 a0_6,.int .i64 a0_7,.string a0_8,.string (⟨#[]⟩:ByteArray),.bool false]) ?_ 9 _ rfl;refine pB ?_;refine blk_put (cs:=#[.string a0_0,.int .i64 a0_1,.int .i64 a0_2,.int .i64 a0_3,.int .i64 a0_4,.int .i64 a0_5,.int .i64 a0_6,.int .i64 a0_7,.string (⟨#[]⟩:ByteArray),.string (⟨#[]⟩:ByteArray),.bool false]) ?_ 8 _ rfl;refine pB ?_;refine blk_put (cs:=#[.string a0_0,.int .i64 a0_1,.int .i64 a0_2,.int .i64 a0_3,.int .i64 a0_4,.int .i64 a0_5,.int .i64 a0_6,.int .i64 0,.string (⟨#[]⟩:ByteArray),.string (⟨#[]⟩:ByteArray),.bool false]) ?_ 7 _ rfl;refine pB ?_;refine blk_put (cs:=#[.string a0_0,.int .i64 a0_1,.int .i64 a0_2,.int .i64 a0_3,.int .i64 a0_4,.int .i64 a0_5,.int .i64 0,.int .i64 0,.string (⟨#[]⟩:ByteArray),.string (⟨#[]⟩:ByteArray),.bool false]) ?_ 6 _ rfl;refine pB ?_;refine blk_put (cs:=#[.string a0_0,.int .i64 a0_1,.int .i64 a0_2,.int .i64 a0_3,.int .i64 a0_4,.int .i64 0,.int .i64 0,.int .i64 0,.string (⟨#[]⟩:ByteArray),.string (⟨#[]⟩:ByteArray),.bool false]) ?_ 5 _ rfl;refine pB ?_;refine blk_put (cs:=#[.string a0_0,.int .i64 a0_1,.int .i64 a0_2,.int .i64 a0_3,.int .i64 0,.int .i64 0,.int .i64 0,.int .i64 0,.string (⟨#[]⟩:ByteArray),.string (⟨#[]⟩:ByteArray),.bool false]) ?_ 4 _ rfl;refine pB ?_;refine blk_put (cs:=#[.string a0_0,.int .i64 a0_1,.int .i64 a0_2,.int .i64 0,.int .i64 0,.int .i64 0,.int .i64 0,.int .i64 0,.string (⟨#[]⟩:ByteArray),.string (⟨#[]⟩:ByteArray),.bool false]) ?_ 3 _ rfl;refine pB ?_;refine blk_put (cs:=#[.string a0_0,.int .i64 a0_1,.int .i64 0,.int .i64 0,.int .i64 0,.int .i64 0,.int .i64 0,.int .i64 0,.string (⟨#[]⟩:ByteArray),.string (⟨#[]⟩:ByteArray),.bool false]) ?_ 2 _ rfl;refine pB ?_;refine blk_put (cs:=#[.string a0_0,.int .i64 0,.int .i64 0,.int .i64 0,.int .i64 0,.int .i64 0,.int .i64 0,.int .i64 0,.string (⟨#[]⟩:ByteArray),.string (⟨#[]⟩:ByteArray),.bool false]) ?_ 1 _ rfl;refine pB ?_;refine blk_put (cs:=#[.string (⟨#[]⟩:ByteArray),.int .i64 0,.int .i64 0,.int .i64 0,.int .i64 0,.int .i64 0,.int .i64 0,.int .i64 0,.string (⟨#[]⟩:ByteArray),.string (⟨#[]⟩:ByteArray),.bool false]) ?_ 0 _ rfl;refine pB ?_;exact BK1145.out) Try.underlying34 rfl (by kernel_rfl)) rfl ?_
    exact ⟨_,eRf,kR (Kd.R_mono (Kd.R_far (p:=⟨gb1145,10,none⟩) (Kd.R_far (p:=⟨gb1145,9,none⟩) (Kd.R_far (p:=⟨gb1145,8,none⟩) (Kd.R_far (p:=⟨gb1145,7,none⟩) (Kd.R_far (p:=⟨gb1145,6,none⟩) (Kd.R_far (p:=⟨gb1145,5,none⟩) (Kd.R_far (p:=⟨gb1145,4,none⟩) (Kd.R_far (p:=⟨gb1145,3,none⟩) (Kd.R_far (p:=⟨gb1145,2,none⟩) (Kd.R_far (p:=⟨gb1145,1,none⟩) (Kd.R_far (p:=⟨gb1145,0,none⟩) (Kd.R_types HO1148.out BK1145.out (by decide)) (fun _ hk => hk.2) (.string a0_0)) (fun _ hk => hk.2) (.int .i64 a0_1)) (fun _ hk => hk.2) (.int .i64 a0_2)) (fun _ hk => hk.2) (.int .i64 a0_3)) (fun _ hk => hk.2) (.int .i64 a0_4)) (fun _ hk => hk.2) (.int .i64 a0_5)) (fun _ hk => hk.2) (.int .i64 a0_6)) (fun _ hk => hk.2) (.int .i64 a0_7)) (fun _ hk => hk.2) (.string a0_8)) (fun _ hk => hk.2) (.string a0_9)) (fun _ hk => hk.2) (.bool a0_10)) (fun _ hk => trivial)),bW⟩
end
section
/-! ### spec_l01In: function 64 -/
def spec_l01In.f (a0 a1 a2:Int):Option (Bool):=if a1≤a0 then (some (decide (a0≤a2))) else (some false)
set_option maxHeartbeats 8000000 in
set_option maxRecDepth 100000 in
theorem spec_l01In.calls (a0 a1 a2:Int) (r:Bool) (w:World) (h:spec_l01In.f a0 a1 a2 = some r) :
  Calls Try.prog 64 #[.int .i64 a0,.int .i64 a1,.int .i64 a2] w fun e w' => e = .returned (.bool r)∧Drawn0 w w':=by
 have H:=h
 unfold spec_l01In.f at H
 clear h
 by_cases c4:a1≤a0
 ·rw [if_pos c4] at H
  have c4b0:decide (a1≤a0) = true:=decide_eq_true c4
  clear c4
  obtain rfl:=Option.some.inj H
  go_enter Try.func64,Try.ntmps64
  go_wp2
  go_ret
  exact ⟨by first | rfl|(simp;done)|(simp [*];done)|(simp [ne_nil_b];done)|(simp [ne_nil_b, *];done),by repeat (first|exact Drawn0.refl _|apply Drawn0.step)⟩
 ·rw [if_neg c4] at H
  have c4b0:decide (a1≤a0) = false:=decide_eq_false c4
  clear c4
  obtain rfl:=Option.some.inj H
  go_enter Try.func64,Try.ntmps64
  go_wp2
  go_ret
  exact ⟨by first | rfl|(simp;done)|(simp [*];done)|(simp [ne_nil_b];done)|(simp [ne_nil_b, *];done),by repeat (first|exact Drawn0.refl _|apply Drawn0.step)⟩
end
section
/-! ### spec_l01Ip: function 59 -/
def spec_l01Ip.f (a0:Int):Option (Bool):=(spec_l01In.f a0 0 4294967295).bind fun t101 => (some t101)
set_option maxHeartbeats 8000000 in
set_option maxRecDepth 100000 in
theorem spec_l01Ip.calls (a0:Int) (r:Bool) (w:World) (h:spec_l01Ip.f a0 = some r) :
  Calls Try.prog 59 #[.int .i64 a0] w fun e w' => e = .returned (.bool r)∧Drawn0 w w':=by
 have H:=h
 unfold spec_l01Ip.f at H
 clear h
 replace H:=Option.bind_eq_some_iff.mp H
 obtain ⟨t101,A20,H⟩:=H
 try dsimp only at H
 have A2:=aMk A20
 clear A20
 obtain rfl:=Option.some.inj H
 go_enter Try.func59,Try.ntmps59
 go_wp2_with (first|((with_reducible refine gate_callee (f:=64) rfl ?_);refine gLs 4 Try.func64 #[.int .i64 a0,.int .i64 0,.int .i64 4294967295] ?_;(with_reducible refine (spec_l01In.calls a0 0 4294967295 t101 _ A2.out).mono ?_);rintro e w' ⟨rfl,⟨nd,rfl⟩⟩;refine ⟨_,rfl,?_⟩))
 go_ret
 exact ⟨by first | rfl|(simp;done)|(simp [*];done)|(simp [ne_nil_b];done)|(simp [ne_nil_b, *];done),by repeat (first|exact Drawn0.refl _|apply Drawn0.step)⟩
end
section
/-! ### spec_l01Mac: function 68 -/
def spec_l01Mac.f (a0:ByteArray):Option (Bool):=some ((a0.size:Int) == 6)
set_option maxHeartbeats 8000000 in
set_option maxRecDepth 100000 in
theorem spec_l01Mac.calls (a0:ByteArray) (r:Bool) (w:World) (h:spec_l01Mac.f a0 = some r) :
  Calls Try.prog 68 #[.string a0] w fun e w' => e = .returned (.bool r)∧Drawn0 w w':=by
 have H:=h
 unfold spec_l01Mac.f at H
 clear h
 obtain rfl:=Option.some.inj H
 go_enter Try.func68,Try.ntmps68
 go_wp2
 go_ret
 exact ⟨by first | rfl|(simp;done)|(simp [*];done)|(simp [ne_nil_b];done)|(simp [ne_nil_b, *];done),by repeat (first|exact Drawn0.refl _|apply Drawn0.step)⟩
end
section
/-! ### spec_l02Port: function 105 -/
def spec_l02Port.f (a0:Int):Option (Bool):=(spec_l01In.f a0 0 65535).bind fun t146 => (some t146)
set_option maxHeartbeats 8000000 in
set_option maxRecDepth 100000 in
theorem spec_l02Port.calls (a0:Int) (r:Bool) (w:World) (h:spec_l02Port.f a0 = some r) :
  Calls Try.prog 105 #[.int .i64 a0] w fun e w' => e = .returned (.bool r)∧Drawn0 w w':=by
 have H:=h
 unfold spec_l02Port.f at H
 clear h
 replace H:=Option.bind_eq_some_iff.mp H
 obtain ⟨t146,A20,H⟩:=H
 try dsimp only at H
 have A2:=aMk A20
 clear A20
 obtain rfl:=Option.some.inj H
 go_enter Try.func105,Try.ntmps105
 go_wp2_with (first|((with_reducible refine gate_callee (f:=64) rfl ?_);refine gLs 4 Try.func64 #[.int .i64 a0,.int .i64 0,.int .i64 65535] ?_;(with_reducible refine (spec_l01In.calls a0 0 65535 t146 _ A2.out).mono ?_);rintro e w' ⟨rfl,⟨nd,rfl⟩⟩;refine ⟨_,rfl,?_⟩))
 go_ret
 exact ⟨by first | rfl|(simp;done)|(simp [*];done)|(simp [ne_nil_b];done)|(simp [ne_nil_b, *];done),by repeat (first|exact Drawn0.refl _|apply Drawn0.step)⟩
end
section
/-! ### spec_l07Ask: function 69 -/
def spec_l07Ask.f (a0 a1:Int):Option (Bool):=(spec_l01Ip.f a0).bind fun t147 => (if t147 = true then ((spec_l02Port.f a1).bind fun t148 => (some t148)) else (some false))
set_option maxHeartbeats 8000000 in
set_option maxRecDepth 100000 in
theorem spec_l07Ask.calls (a0 a1:Int) (r:Bool) (w:World) (h:spec_l07Ask.f a0 a1 = some r) :
  Calls Try.prog 69 #[.int .i64 a0,.int .i64 a1] w fun e w' => e = .returned (.bool r)∧Drawn0 w w':=by
 have H:=h
 unfold spec_l07Ask.f at H
 clear h
 replace H:=Option.bind_eq_some_iff.mp H
 obtain ⟨t147,A30,H⟩:=H
 try dsimp only at H
 have A3:=aMk A30
 clear A30
 by_cases c4:t147 = true
 ·subst c4
  have H1:=H
  rw [if_pos rfl] at H1
  clear H
  have H:=H1
  clear H1
  replace H:=Option.bind_eq_some_iff.mp H
  obtain ⟨t148,A50,H⟩:=H
  try dsimp only at H
  have A5:=aMk A50
  clear A50
  obtain rfl:=Option.some.inj H
  go_enter Try.func69,Try.ntmps69
  go_wp2_with (first|((with_reducible refine gate_callee (f:=59) rfl ?_);refine gLs 6 Try.func59 #[.int .i64 a0] ?_;(with_reducible refine (spec_l01Ip.calls a0 true _ A3.out).mono ?_);rintro e w' ⟨rfl,⟨nd,rfl⟩⟩;refine ⟨_,rfl,?_⟩)|(go_at_call 105;(with_reducible refine (spec_l02Port.calls a1 t148 _ A5.out).mono ?_);rintro e w' ⟨rfl,⟨nd,rfl⟩⟩))
  go_ret
  exact ⟨by first | rfl|(simp;done)|(simp [*];done)|(simp [ne_nil_b];done)|(simp [ne_nil_b, *];done),by repeat (first|exact Drawn0.refl _|apply Drawn0.step)⟩
 ·replace c4:=Bool.eq_false_iff.mpr c4
  subst c4
  have H1:=H
  rw [if_neg (show ¬ (false = true) by decide)] at H1
  clear H
  have H:=H1
  clear H1
  obtain rfl:=Option.some.inj H
  go_enter Try.func69,Try.ntmps69
  go_wp2_with (first|((with_reducible refine gate_callee (f:=59) rfl ?_);refine gLs 6 Try.func59 #[.int .i64 a0] ?_;(with_reducible refine (spec_l01Ip.calls a0 false _ A3.out).mono ?_);rintro e w' ⟨rfl,⟨nd,rfl⟩⟩;refine ⟨_,rfl,?_⟩))
  go_ret
  exact ⟨by first | rfl|(simp;done)|(simp [*];done)|(simp [ne_nil_b];done)|(simp [ne_nil_b, *];done),by repeat (first|exact Drawn0.refl _|apply Drawn0.step)⟩
end
end Go.Proofs.Ytlpkldomoniegaa.X
