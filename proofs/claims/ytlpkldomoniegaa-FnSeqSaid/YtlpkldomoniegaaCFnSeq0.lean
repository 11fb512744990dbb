/- The statement FnSeq holds: it answers true for all arguments. Conditions: none beyond the row's own reach. -/
import Derived.Test.YtlpkldomoniegaaProg
import Derived.Test.YtlpkldomoniegaaWWords
import Derived.Test.YtlpkldomoniegaaWLast
import Derived.Test.YtlpkldomoniegaaWTab
import Derived.Test.YtlpkldomoniegaaWFour
import Derived.Test.YtlpkldomoniegaaWQPut
import Derived.Test.YtlpkldomoniegaaWApart
import Derived.Test.YtlpkldomoniegaaWArr
import Derived.Test.YtlpkldomoniegaaWZeros
import Derived.Test.YtlpkldomoniegaaWFoot
import Derived.Test.YtlpkldomoniegaaWKept
import Derived.Test.YtlpkldomoniegaaWShare
import Derived.Test.YtlpkldomoniegaaWN
import Derived.Test.YtlpkldomoniegaaWFootNe
import Derived.Test.YtlpkldomoniegaaWAt
import Derived.Test.YtlpkldomoniegaaWEqStruct
import Derived.Test.YtlpkldomoniegaaWRepsOne
import Derived.Test.YtlpkldomoniegaaWInv
import Derived.Test.YtlpkldomoniegaaWInvWords
import Derived.Test.YtlpkldomoniegaaWGuard
import Derived.Test.YtlpkldomoniegaaWNEv
import Derived.Test.YtlpkldomoniegaaWMore
import Derived.Below
import Derived.Deep.Draws
import Derived.Deep.AppendLies
import Derived.Maps.AppendAt
import Derived.OwnWalk
import Derived.Laws.BytesArg
import Derived.Laws.MakeOwn
import Derived.Laws.OwnMore
import Derived.Deep.OwnRows
import Derived.Tactics
import Derived.Lib.ConvBytes
import Derived.Laws.Slices
import Derived.WalkKit
import Derived.KernelRfl
import Derived.RowKit3
import Derived.Deep.LoopGhost
import Derived.Deep.QuietTactic
import Derived.BigQuiet
import Derived.WideLaws
import Derived.Deep.DeepCutAuto
import Derived.Deep.CutBlock
import Derived.Deep.RegionHeld3
import Derived.Laws.Rows
import Derived.Lib.AppendStr
import Derived.ArgAppend
import Derived.Laws.IdiomCopy
import Derived.OrdersHeld
import Derived.Laws.BitsLemmas
import Derived.RowKit
import Derived.SizedLaws
import Derived.ProofKit
import Derived.OpenShut
import Derived.ShutString
import Derived.ChangeOld
import Derived.Deep.Slices
import Derived.Test.YtlpkldomoniegaaRows
namespace Go.Proofs.Ytlpkldomoniegaa.X
open Go.RowKit Go.Proofs.YtlpkldomoniegaaW.PrintWords Go.Proofs.YtlpkldomoniegaaW.PrintLast Go.Proofs.YtlpkldomoniegaaW.PrintMore
attribute [local go_sem] max2_int min2_int max_two min_two max_three min_three max_four min_four   -- for this text's walks alone
set_option linter.unusedVariables false
set_option linter.unusedSimpArgs false
section
def errW : Option Int → Value
  | none => .nilIface
  | some c => .iface 0 (.int .i64 c)
theorem errW_none : errW none = .nilIface := rfl
theorem errW_some (c : Int) : errW (some c) = .iface 0 (.int .i64 c) := rfl

theorem info5 : (Try.prog.info? 5).map (fun i => (i.zero, i.size, i.bytes)) = some (some (.int .u8 0), 1, 1) := by kernel_rfl
theorem info53 : (Try.prog.info? 53).map (fun i => (i.zero, i.size, i.bytes)) = some (some (.agg #[(.int .i64 0), (.int .i64 0), (.int .i64 0), (.int .i64 0), (.int .i64 0), (.int .i64 0), (.string ⟨#[]⟩)]), 7, 64) := by kernel_rfl
theorem info71 : (Try.prog.info? 71).map (fun i => (i.zero, i.size, i.bytes)) = some (some (.agg #[(.int .i64 0), (.string ⟨#[]⟩), (.int .i64 0), (.int .i64 0), (.int .i64 0), (.int .i64 0), (.int .i64 0), (.int .i64 0), (.int .i64 0)]), 9, 80) := by kernel_rfl
/-! #### struct type 68 -/
structure S68 where
  f0 : Int
  f1 : ByteArray
  f2 : Int
  f3 : Int
  f4 : Int
  f5 : Int
  f6 : Int
  f7 : Int
  f8 : Int
def z68 : S68 := ⟨(0 : Int), (⟨#[]⟩ : ByteArray), (0 : Int), (0 : Int), (0 : Int), (0 : Int), (0 : Int), (0 : Int), (0 : Int)⟩
def k68 : Kd S68 := Kd.iso (Kd.pair (Kd.int .i64) (Kd.pair Kd.string (Kd.pair (Kd.int .i64) (Kd.pair (Kd.int .i64) (Kd.pair (Kd.int .i64) (Kd.pair (Kd.int .i64) (Kd.pair (Kd.int .i64) (Kd.pair (Kd.int .i64) (Kd.int .i64))))))))) (fun x : S68 => (x.f0, x.f1, x.f2, x.f3, x.f4, x.f5, x.f6, x.f7, x.f8))
theorem k68_open {w : World} {x : S68} {cs : List Value} (h : k68.K w x cs) : cs = [.int .i64 x.f0, .string x.f1, .int .i64 x.f2, .int .i64 x.f3, .int .i64 x.f4, .int .i64 x.f5, .int .i64 x.f6, .int .i64 x.f7, .int .i64 x.f8] := by
  obtain ⟨_, _, rfl, rfl, ⟨_, _, rfl, rfl, ⟨_, _, rfl, rfl, ⟨_, _, rfl, rfl, ⟨_, _, rfl, rfl, ⟨_, _, rfl, rfl, ⟨_, _, rfl, rfl, ⟨_, _, rfl, rfl, rfl⟩⟩⟩⟩⟩⟩⟩⟩ := h
  exact rfl
theorem k68_openM {w : World} {base : Nat} {ok : Nat → Prop} {x : S68} {cs : List Value} (h : k68.M w base ok x cs) : cs = [.int .i64 x.f0, .string x.f1, .int .i64 x.f2, .int .i64 x.f3, .int .i64 x.f4, .int .i64 x.f5, .int .i64 x.f6, .int .i64 x.f7, .int .i64 x.f8] := by
  obtain ⟨_, _, rfl, rfl, ⟨_, _, rfl, rfl, ⟨_, _, rfl, rfl, ⟨_, _, rfl, rfl, ⟨_, _, rfl, rfl, ⟨_, _, rfl, rfl, ⟨_, _, rfl, rfl, ⟨_, _, rfl, rfl, rfl⟩⟩⟩⟩⟩⟩⟩⟩ := h
  exact rfl
theorem k68_mk (w : World) (x : S68)  : k68.K w x [.int .i64 x.f0, .string x.f1, .int .i64 x.f2, .int .i64 x.f3, .int .i64 x.f4, .int .i64 x.f5, .int .i64 x.f6, .int .i64 x.f7, .int .i64 x.f8] := ⟨[.int .i64 x.f0], [.string x.f1, .int .i64 x.f2, .int .i64 x.f3, .int .i64 x.f4, .int .i64 x.f5, .int .i64 x.f6, .int .i64 x.f7, .int .i64 x.f8], rfl, rfl, ⟨[.string x.f1], [.int .i64 x.f2, .int .i64 x.f3, .int .i64 x.f4, .int .i64 x.f5, .int .i64 x.f6, .int .i64 x.f7, .int .i64 x.f8], rfl, rfl, ⟨[.int .i64 x.f2], [.int .i64 x.f3, .int .i64 x.f4, .int .i64 x.f5, .int .i64 x.f6, .int .i64 x.f7, .int .i64 x.f8], rfl, rfl, ⟨[.int .i64 x.f3], [.int .i64 x.f4, .int .i64 x.f5, .int .i64 x.f6, .int .i64 x.f7, .int .i64 x.f8], rfl, rfl, ⟨[.int .i64 x.f4], [.int .i64 x.f5, .int .i64 x.f6, .int .i64 x.f7, .int .i64 x.f8], rfl, rfl, ⟨[.int .i64 x.f5], [.int .i64 x.f6, .int .i64 x.f7, .int .i64 x.f8], rfl, rfl, ⟨[.int .i64 x.f6], [.int .i64 x.f7, .int .i64 x.f8], rfl, rfl, ⟨[.int .i64 x.f7], [.int .i64 x.f8], rfl, rfl, rfl⟩⟩⟩⟩⟩⟩⟩⟩
theorem k68_mkM (w : World) (base : Nat) (ok : Nat → Prop) (x : S68)  : k68.M w base ok x [.int .i64 x.f0, .string x.f1, .int .i64 x.f2, .int .i64 x.f3, .int .i64 x.f4, .int .i64 x.f5, .int .i64 x.f6, .int .i64 x.f7, .int .i64 x.f8] := ⟨[.int .i64 x.f0], [.string x.f1, .int .i64 x.f2, .int .i64 x.f3, .int .i64 x.f4, .int .i64 x.f5, .int .i64 x.f6, .int .i64 x.f7, .int .i64 x.f8], rfl, rfl, ⟨[.string x.f1], [.int .i64 x.f2, .int .i64 x.f3, .int .i64 x.f4, .int .i64 x.f5, .int .i64 x.f6, .int .i64 x.f7, .int .i64 x.f8], rfl, rfl, ⟨[.int .i64 x.f2], [.int .i64 x.f3, .int .i64 x.f4, .int .i64 x.f5, .int .i64 x.f6, .int .i64 x.f7, .int .i64 x.f8], rfl, rfl, ⟨[.int .i64 x.f3], [.int .i64 x.f4, .int .i64 x.f5, .int .i64 x.f6, .int .i64 x.f7, .int .i64 x.f8], rfl, rfl, ⟨[.int .i64 x.f4], [.int .i64 x.f5, .int .i64 x.f6, .int .i64 x.f7, .int .i64 x.f8], rfl, rfl, ⟨[.int .i64 x.f5], [.int .i64 x.f6, .int .i64 x.f7, .int .i64 x.f8], rfl, rfl, ⟨[.int .i64 x.f6], [.int .i64 x.f7, .int .i64 x.f8], rfl, rfl, ⟨[.int .i64 x.f7], [.int .i64 x.f8], rfl, rfl, rfl⟩⟩⟩⟩⟩⟩⟩⟩
def rd_T68 (xs : List S68) (i : Int) : S68 := xs.getD i.toNat z68
theorem at_T68 {w : World} {A : Option Addr} {n : Nat} {xs : List S68} (h : Kd.C k68 w A n xs) (i : Int) (h0 : 0 ≤ i) (h1 : i < n) : ∃ ad , A = some ad ∧ w.cell? (ad.add (i.toNat * 9)) = some (.int .i64 (rd_T68 xs i).f0) ∧ w.cell? ⟨(ad.add (i.toNat * 9)).block, (ad.add (i.toNat * 9)).off + 1, none⟩ = some (.string (rd_T68 xs i).f1) ∧ w.cell? ⟨(ad.add (i.toNat * 9)).block, (ad.add (i.toNat * 9)).off + 2, none⟩ = some (.int .i64 (rd_T68 xs i).f2) ∧ w.cell? ⟨(ad.add (i.toNat * 9)).block, (ad.add (i.toNat * 9)).off + 3, none⟩ = some (.int .i64 (rd_T68 xs i).f3) ∧ w.cell? ⟨(ad.add (i.toNat * 9)).block, (ad.add (i.toNat * 9)).off + 4, none⟩ = some (.int .i64 (rd_T68 xs i).f4) ∧ w.cell? ⟨(ad.add (i.toNat * 9)).block, (ad.add (i.toNat * 9)).off + 5, none⟩ = some (.int .i64 (rd_T68 xs i).f5) ∧ w.cell? ⟨(ad.add (i.toNat * 9)).block, (ad.add (i.toNat * 9)).off + 6, none⟩ = some (.int .i64 (rd_T68 xs i).f6) ∧ w.cell? ⟨(ad.add (i.toNat * 9)).block, (ad.add (i.toNat * 9)).off + 7, none⟩ = some (.int .i64 (rd_T68 xs i).f7) ∧ w.cell? ⟨(ad.add (i.toNat * 9)).block, (ad.add (i.toNat * 9)).off + 8, none⟩ = some (.int .i64 (rd_T68 xs i).f8) := by
  obtain ⟨ad, c, e, _, hK, hc0⟩ := Kd.C_get h z68 i h0 h1
  have hc : ∀ j u, c[j]? = some u → w.cell? (ad.add (i.toNat * 9 + j)) = some u := hc0
  obtain rfl := k68_open hK
  exact ⟨ad, e, hc 0 _ rfl, by rw [← add_field _ _ 1 (by omega)]; exact hc 1 _ rfl, by rw [← add_field _ _ 2 (by omega)]; exact hc 2 _ rfl, by rw [← add_field _ _ 3 (by omega)]; exact hc 3 _ rfl, by rw [← add_field _ _ 4 (by omega)]; exact hc 4 _ rfl, by rw [← add_field _ _ 5 (by omega)]; exact hc 5 _ rfl, by rw [← add_field _ _ 6 (by omega)]; exact hc 6 _ rfl, by rw [← add_field _ _ 7 (by omega)]; exact hc 7 _ rfl, by rw [← add_field _ _ 8 (by omega)]; exact hc 8 _ rfl⟩

/-! #### struct type 71 -/
structure S71 where
  f0 : Int
  f1 : ByteArray
  f2 : Int
  f3 : Int
  f4 : Int
  f5 : Int
  f6 : Int
  f7 : Int
  f8 : Int
def z71 : S71 := ⟨(0 : Int), (⟨#[]⟩ : ByteArray), (0 : Int), (0 : Int), (0 : Int), (0 : Int), (0 : Int), (0 : Int), (0 : Int)⟩
def k71 : Kd S71 := Kd.iso (Kd.pair (Kd.int .i64) (Kd.pair Kd.string (Kd.pair (Kd.int .i64) (Kd.pair (Kd.int .i64) (Kd.pair (Kd.int .i64) (Kd.pair (Kd.int .i64) (Kd.pair (Kd.int .i64) (Kd.pair (Kd.int .i64) (Kd.int .i64))))))))) (fun x : S71 => (x.f0, x.f1, x.f2, x.f3, x.f4, x.f5, x.f6, x.f7, x.f8))
theorem k71_open {w : World} {x : S71} {cs : List Value} (h : k71.K w x cs) : cs = [.int .i64 x.f0, .string x.f1, .int .i64 x.f2, .int .i64 x.f3, .int .i64 x.f4, .int .i64 x.f5, .int .i64 x.f6, .int .i64 x.f7, .int .i64 x.f8] := by
  obtain ⟨_, _, rfl, rfl, ⟨_, _, rfl, rfl, ⟨_, _, rfl, rfl, ⟨_, _, rfl, rfl, ⟨_, _, rfl, rfl, ⟨_, _, rfl, rfl, ⟨_, _, rfl, rfl, ⟨_, _, rfl, rfl, rfl⟩⟩⟩⟩⟩⟩⟩⟩ := h
  exact rfl
theorem k71_openM {w : World} {base : Nat} {ok : Nat → Prop} {x : S71} {cs : List Value} (h : k71.M w base ok x cs) : cs = [.int .i64 x.f0, .string x.f1, .int .i64 x.f2, .int .i64 x.f3, .int .i64 x.f4, .int .i64 x.f5, .int .i64 x.f6, .int .i64 x.f7, .int .i64 x.f8] := by
  obtain ⟨_, _, rfl, rfl, ⟨_, _, rfl, rfl, ⟨_, _, rfl, rfl, ⟨_, _, rfl, rfl, ⟨_, _, rfl, rfl, ⟨_, _, rfl, rfl, ⟨_, _, rfl, rfl, ⟨_, _, rfl, rfl, rfl⟩⟩⟩⟩⟩⟩⟩⟩ := h
  exact rfl
theorem k71_mk (w : World) (x : S71)  : k71.K w x [.int .i64 x.f0, .string x.f1, .int .i64 x.f2, .int .i64 x.f3, .int .i64 x.f4, .int .i64 x.f5, .int .i64 x.f6, .int .i64 x.f7, .int .i64 x.f8] := ⟨[.int .i64 x.f0], [.string x.f1, .int .i64 x.f2, .int .i64 x.f3, .int .i64 x.f4, .int .i64 x.f5, .int .i64 x.f6, .int .i64 x.f7, .int .i64 x.f8], rfl, rfl, ⟨[.string x.f1], [.int .i64 x.f2, .int .i64 x.f3, .int .i64 x.f4, .int .i64 x.f5, .int .i64 x.f6, .int .i64 x.f7, .int .i64 x.f8], rfl, rfl, ⟨[.int .i64 x.f2], [.int .i64 x.f3, .int .i64 x.f4, .int .i64 x.f5, .int .i64 x.f6, .int .i64 x.f7, .int .i64 x.f8], rfl, rfl, ⟨[.int .i64 x.f3], [.int .i64 x.f4, .int .i64 x.f5, .int .i64 x.f6, .int .i64 x.f7, .int .i64 x.f8], rfl, rfl, ⟨[.int .i64 x.f4], [.int .i64 x.f5, .int .i64 x.f6, .int .i64 x.f7, .int .i64 x.f8], rfl, rfl, ⟨[.int .i64 x.f5], [.int .i64 x.f6, .int .i64 x.f7, .int .i64 x.f8], rfl, rfl, ⟨[.int .i64 x.f6], [.int .i64 x.f7, .int .i64 x.f8], rfl, rfl, ⟨[.int .i64 x.f7], [.int .i64 x.f8], rfl, rfl, rfl⟩⟩⟩⟩⟩⟩⟩⟩
theorem k71_mkM (w : World) (base : Nat) (ok : Nat → Prop) (x : S71)  : k71.M w base ok x [.int .i64 x.f0, .string x.f1, .int .i64 x.f2, .int .i64 x.f3, .int .i64 x.f4, .int .i64 x.f5, .int .i64 x.f6, .int .i64 x.f7, .int .i64 x.f8] := ⟨[.int .i64 x.f0], [.string x.f1, .int .i64 x.f2, .int .i64 x.f3, .int .i64 x.f4, .int .i64 x.f5, .int .i64 x.f6, .int .i64 x.f7, .int .i64 x.f8], rfl, rfl, ⟨[.string x.f1], [.int .i64 x.f2, .int .i64 x.f3, .int .i64 x.f4, .int .i64 x.f5, .int .i64 x.f6, .int .i64 x.f7, .int .i64 x.f8], rfl, rfl, ⟨[.int .i64 x.f2], [.int .i64 x.f3, .int .i64 x.f4, .int .i64 x.f5, .int .i64 x.f6, .int .i64 x.f7, .int .i64 x.f8], rfl, rfl, ⟨[.int .i64 x.f3], [.int .i64 x.f4, .int .i64 x.f5, .int .i64 x.f6, .int .i64 x.f7, .int .i64 x.f8], rfl, rfl, ⟨[.int .i64 x.f4], [.int .i64 x.f5, .int .i64 x.f6, .int .i64 x.f7, .int .i64 x.f8], rfl, rfl, ⟨[.int .i64 x.f5], [.int .i64 x.f6, .int .i64 x.f7, .int .i64 x.f8], rfl, rfl, ⟨[.int .i64 x.f6], [.int .i64 x.f7, .int .i64 x.f8], rfl, rfl, ⟨[.int .i64 x.f7], [.int .i64 x.f8], rfl, rfl, rfl⟩⟩⟩⟩⟩⟩⟩⟩
def rd_T71 (xs : List S71) (i : Int) : S71 := xs.getD i.toNat z71
theorem at_T71 {w : World} {A : Option Addr} {n : Nat} {xs : List S71} (h : Kd.C k71 w A n xs) (i : Int) (h0 : 0 ≤ i) (h1 : i < n) : ∃ ad , A = some ad ∧ w.cell? (ad.add (i.toNat * 9)) = some (.int .i64 (rd_T71 xs i).f0) ∧ w.cell? ⟨(ad.add (i.toNat * 9)).block, (ad.add (i.toNat * 9)).off + 1, none⟩ = some (.string (rd_T71 xs i).f1) ∧ w.cell? ⟨(ad.add (i.toNat * 9)).block, (ad.add (i.toNat * 9)).off + 2, none⟩ = some (.int .i64 (rd_T71 xs i).f2) ∧ w.cell? ⟨(ad.add (i.toNat * 9)).block, (ad.add (i.toNat * 9)).off + 3, none⟩ = some (.int .i64 (rd_T71 xs i).f3) ∧ w.cell? ⟨(ad.add (i.toNat * 9)).block, (ad.add (i.toNat * 9)).off + 4, none⟩ = some (.int .i64 (rd_T71 xs i).f4) ∧ w.cell? ⟨(ad.add (i.toNat * 9)).block, (ad.add (i.toNat * 9)).off + 5, none⟩ = some (.int .i64 (rd_T71 xs i).f5) ∧ w.cell? ⟨(ad.add (i.toNat * 9)).block, (ad.add (i.toNat * 9)).off + 6, none⟩ = some (.int .i64 (rd_T71 xs i).f6) ∧ w.cell? ⟨(ad.add (i.toNat * 9)).block, (ad.add (i.toNat * 9)).off + 7, none⟩ = some (.int .i64 (rd_T71 xs i).f7) ∧ w.cell? ⟨(ad.add (i.toNat * 9)).block, (ad.add (i.toNat * 9)).off + 8, none⟩ = some (.int .i64 (rd_T71 xs i).f8) := by
  obtain ⟨ad, c, e, _, hK, hc0⟩ := Kd.C_get h z71 i h0 h1
  have hc : ∀ j u, c[j]? = some u → w.cell? (ad.add (i.toNat * 9 + j)) = some u := hc0
  obtain rfl := k71_open hK
  exact ⟨ad, e, hc 0 _ rfl, by rw [← add_field _ _ 1 (by omega)]; exact hc 1 _ rfl, by rw [← add_field _ _ 2 (by omega)]; exact hc 2 _ rfl, by rw [← add_field _ _ 3 (by omega)]; exact hc 3 _ rfl, by rw [← add_field _ _ 4 (by omega)]; exact hc 4 _ rfl, by rw [← add_field _ _ 5 (by omega)]; exact hc 5 _ rfl, by rw [← add_field _ _ 6 (by omega)]; exact hc 6 _ rfl, by rw [← add_field _ _ 7 (by omega)]; exact hc 7 _ rfl, by rw [← add_field _ _ 8 (by omega)]; exact hc 8 _ rfl⟩

/-! #### struct type 53 -/
structure S53 where
  f0 : Int
  f1 : Int
  f2 : Int
  f3 : Int
  f4 : Int
  f5 : Int
  f6 : ByteArray
def z53 : S53 := ⟨(0 : Int), (0 : Int), (0 : Int), (0 : Int), (0 : Int), (0 : Int), (⟨#[]⟩ : ByteArray)⟩
def k53 : Kd S53 := Kd.iso (Kd.pair (Kd.int .i64) (Kd.pair (Kd.int .i64) (Kd.pair (Kd.int .i64) (Kd.pair (Kd.int .i64) (Kd.pair (Kd.int .i64) (Kd.pair (Kd.int .i64) Kd.string)))))) (fun x : S53 => (x.f0, x.f1, x.f2, x.f3, x.f4, x.f5, x.f6))
theorem k53_open {w : World} {x : S53} {cs : List Value} (h : k53.K w x cs) : cs = [.int .i64 x.f0, .int .i64 x.f1, .int .i64 x.f2, .int .i64 x.f3, .int .i64 x.f4, .int .i64 x.f5, .string x.f6] := by
  obtain ⟨_, _, rfl, rfl, ⟨_, _, rfl, rfl, ⟨_, _, rfl, rfl, ⟨_, _, rfl, rfl, ⟨_, _, rfl, rfl, ⟨_, _, rfl, rfl, rfl⟩⟩⟩⟩⟩⟩ := h
  exact rfl
theorem k53_openM {w : World} {base : Nat} {ok : Nat → Prop} {x : S53} {cs : List Value} (h : k53.M w base ok x cs) : cs = [.int .i64 x.f0, .int .i64 x.f1, .int .i64 x.f2, .int .i64 x.f3, .int .i64 x.f4, .int .i64 x.f5, .string x.f6] := by
  obtain ⟨_, _, rfl, rfl, ⟨_, _, rfl, rfl, ⟨_, _, rfl, rfl, ⟨_, _, rfl, rfl, ⟨_, _, rfl, rfl, ⟨_, _, rfl, rfl, rfl⟩⟩⟩⟩⟩⟩ := h
  exact rfl
theorem k53_mk (w : World) (x : S53)  : k53.K w x [.int .i64 x.f0, .int .i64 x.f1, .int .i64 x.f2, .int .i64 x.f3, .int .i64 x.f4, .int .i64 x.f5, .string x.f6] := ⟨[.int .i64 x.f0], [.int .i64 x.f1, .int .i64 x.f2, .int .i64 x.f3, .int .i64 x.f4, .int .i64 x.f5, .string x.f6], rfl, rfl, ⟨[.int .i64 x.f1], [.int .i64 x.f2, .int .i64 x.f3, .int .i64 x.f4, .int .i64 x.f5, .string x.f6], rfl, rfl, ⟨[.int .i64 x.f2], [.int .i64 x.f3, .int .i64 x.f4, .int .i64 x.f5, .string x.f6], rfl, rfl, ⟨[.int .i64 x.f3], [.int .i64 x.f4, .int .i64 x.f5, .string x.f6], rfl, rfl, ⟨[.int .i64 x.f4], [.int .i64 x.f5, .string x.f6], rfl, rfl, ⟨[.int .i64 x.f5], [.string x.f6], rfl, rfl, rfl⟩⟩⟩⟩⟩⟩
theorem k53_mkM (w : World) (base : Nat) (ok : Nat → Prop) (x : S53)  : k53.M w base ok x [.int .i64 x.f0, .int .i64 x.f1, .int .i64 x.f2, .int .i64 x.f3, .int .i64 x.f4, .int .i64 x.f5, .string x.f6] := ⟨[.int .i64 x.f0], [.int .i64 x.f1, .int .i64 x.f2, .int .i64 x.f3, .int .i64 x.f4, .int .i64 x.f5, .string x.f6], rfl, rfl, ⟨[.int .i64 x.f1], [.int .i64 x.f2, .int .i64 x.f3, .int .i64 x.f4, .int .i64 x.f5, .string x.f6], rfl, rfl, ⟨[.int .i64 x.f2], [.int .i64 x.f3, .int .i64 x.f4, .int .i64 x.f5, .string x.f6], rfl, rfl, ⟨[.int .i64 x.f3], [.int .i64 x.f4, .int .i64 x.f5, .string x.f6], rfl, rfl, ⟨[.int .i64 x.f4], [.int .i64 x.f5, .string x.f6], rfl, rfl, ⟨[.int .i64 x.f5], [.string x.f6], rfl, rfl, rfl⟩⟩⟩⟩⟩⟩
def rd_T53 (xs : List S53) (i : Int) : S53 := xs.getD i.toNat z53
theorem at_T53 {w : World} {A : Option Addr} {n : Nat} {xs : List S53} (h : Kd.C k53 w A n xs) (i : Int) (h0 : 0 ≤ i) (h1 : i < n) : ∃ ad , A = some ad ∧ w.cell? (ad.add (i.toNat * 7)) = some (.int .i64 (rd_T53 xs i).f0) ∧ w.cell? ⟨(ad.add (i.toNat * 7)).block, (ad.add (i.toNat * 7)).off + 1, none⟩ = some (.int .i64 (rd_T53 xs i).f1) ∧ w.cell? ⟨(ad.add (i.toNat * 7)).block, (ad.add (i.toNat * 7)).off + 2, none⟩ = some (.int .i64 (rd_T53 xs i).f2) ∧ w.cell? ⟨(ad.add (i.toNat * 7)).block, (ad.add (i.toNat * 7)).off + 3, none⟩ = some (.int .i64 (rd_T53 xs i).f3) ∧ w.cell? ⟨(ad.add (i.toNat * 7)).block, (ad.add (i.toNat * 7)).off + 4, none⟩ = some (.int .i64 (rd_T53 xs i).f4) ∧ w.cell? ⟨(ad.add (i.toNat * 7)).block, (ad.add (i.toNat * 7)).off + 5, none⟩ = some (.int .i64 (rd_T53 xs i).f5) ∧ w.cell? ⟨(ad.add (i.toNat * 7)).block, (ad.add (i.toNat * 7)).off + 6, none⟩ = some (.string (rd_T53 xs i).f6) := by
  obtain ⟨ad, c, e, _, hK, hc0⟩ := Kd.C_get h z53 i h0 h1
  have hc : ∀ j u, c[j]? = some u → w.cell? (ad.add (i.toNat * 7 + j)) = some u := hc0
  obtain rfl := k53_open hK
  exact ⟨ad, e, hc 0 _ rfl, by rw [← add_field _ _ 1 (by omega)]; exact hc 1 _ rfl, by rw [← add_field _ _ 2 (by omega)]; exact hc 2 _ rfl, by rw [← add_field _ _ 3 (by omega)]; exact hc 3 _ rfl, by rw [← add_field _ _ 4 (by omega)]; exact hc 4 _ rfl, by rw [← add_field _ _ 5 (by omega)]; exact hc 5 _ rfl, by rw [← add_field _ _ 6 (by omega)]; exact hc 6 _ rfl⟩
end
section
/-! ### spec_l01In: function 64 -/
def spec_l01In.f (a0 : Int) (a1 : Int) (a2 : Int) : Option (Bool) := if a1 ≤ a0 then (some (decide (a0 ≤ a2))) else (some false)
set_option maxHeartbeats 8000000 in
set_option maxRecDepth 100000 in
theorem spec_l01In.calls (a0 : Int) (a1 : Int) (a2 : Int) (r : Bool) (w : World) (h : spec_l01In.f a0 a1 a2 = some r) :
    Calls Try.prog 64 #[.int .i64 a0, .int .i64 a1, .int .i64 a2] w fun e w' => e = .returned (.bool r) ∧ Drawn0 w w' := by
  have H : (if a1 ≤ a0 then (some (decide (a0 ≤ a2))) else (some false)) = some r := h
  clear h
  by_cases c4 : a1 ≤ a0
  · rw [if_pos c4] at H
    have c4b0 : decide (a1 ≤ a0) = true := decide_eq_true c4
    clear c4
    obtain rfl := Option.some.inj H
    go_enter Try.func64, Try.ntmps64
    go_wp2
    go_ret
    exact ⟨by first | rfl | (simp; done) | (simp [*]; done), by repeat (first | exact Drawn0.refl _ | apply Drawn0.step)⟩
  · rw [if_neg c4] at H
    have c4b0 : decide (a1 ≤ a0) = false := decide_eq_false c4
    clear c4
    obtain rfl := Option.some.inj H
    go_enter Try.func64, Try.ntmps64
    go_wp2
    go_ret
    exact ⟨by first | rfl | (simp; done) | (simp [*]; done), by repeat (first | exact Drawn0.refl _ | apply Drawn0.step)⟩
end
section
/-! ### spec_l01Ip: function 59 -/
def spec_l01Ip.f (a0 : Int) : Option (Bool) := (spec_l01In.f a0 0 4294967295).bind fun t101 => (some t101)
set_option maxHeartbeats 8000000 in
set_option maxRecDepth 100000 in
theorem spec_l01Ip.calls (a0 : Int) (r : Bool) (w : World) (h : spec_l01Ip.f a0 = some r) :
    Calls Try.prog 59 #[.int .i64 a0] w fun e w' => e = .returned (.bool r) ∧ Drawn0 w w' := by
  have H : ((spec_l01In.f a0 0 4294967295).bind fun t101 => (some t101)) = some r := h
  clear h
  replace H := Option.bind_eq_some_iff.mp H
  obtain ⟨t101, A20, H⟩ := H
  replace H : (some t101) = some r := H
  have A2 := Aside0.mk A20
  clear A20
  obtain rfl := Option.some.inj H
  go_enter Try.func59, Try.ntmps59
  go_wp2_with (first | ((with_reducible refine gate_callee (f := 64) rfl ?_); refine goesL_ (some 4) rfl rfl Try.func64 (by kernel_rfl) rfl #[.int .i64 a0, .int .i64 0, .int .i64 4294967295] rfl (by (try simp only [List.map_toArray, List.map_cons, List.map_nil]); first | done | rfl | (simp only [List.length_drop, List.length_take]; rfl)) ?_; (with_reducible refine (spec_l01In.calls a0 0 4294967295 t101 _ A2.out).mono ?_); rintro e w' ⟨rfl, ⟨nd, rfl⟩⟩; refine ⟨_, rfl, ?_⟩))
  go_ret
  exact ⟨by first | rfl | (simp; done) | (simp [*]; done), by repeat (first | exact Drawn0.refl _ | apply Drawn0.step)⟩
end
section
/-! ### spec_l10Seq: function 70 -/
def spec_l10Seq.f (a0 : Int) : Option (Int) := some (Go.bits .and .i64 a0 4294967295)
set_option maxHeartbeats 8000000 in
set_option maxRecDepth 100000 in
theorem spec_l10Seq.calls (a0 : Int) (r : Int) (w : World) (h : spec_l10Seq.f a0 = some r) :
    Calls Try.prog 70 #[.int .i64 a0] w fun e w' => e = .returned (.int .i64 r) ∧ Drawn0 w w' := by
  have H : (some (Go.bits .and .i64 a0 4294967295)) = some r := h
  clear h
  obtain rfl := Option.some.inj H
  go_enter Try.func70, Try.ntmps70
  go_wp2
  go_ret
  exact ⟨by first | rfl | (simp; done) | (simp [*]; done), by repeat (first | exact Drawn0.refl _ | apply Drawn0.step)⟩
end
section
/-! ### spec_l10Less: function 60 -/
def spec_l10Less.f (a0 : Int) (a1 : Int) : Option (Bool) := if a0 = a1 then (some false) else ((spec_l10Seq.f (wrap64 (a1 - a0))).bind fun t102 => (some (decide (t102 < 2147483648))))
set_option maxHeartbeats 8000000 in
set_option maxRecDepth 100000 in
theorem spec_l10Less.calls (a0 : Int) (a1 : Int) (r : Bool) (w : World) (h : spec_l10Less.f a0 a1 = some r) :
    Calls Try.prog 60 #[.int .i64 a0, .int .i64 a1] w fun e w' => e = .returned (.bool r) ∧ Drawn0 w w' := by
  have H : (if a0 = a1 then (some false) else ((spec_l10Seq.f (wrap64 (a1 - a0))).bind fun t102 => (some (decide (t102 < 2147483648))))) = some r := h
  clear h
  by_cases c3 : a0 = a1
  · rw [if_pos c3] at H
    have c3b0 : (a0 == a1) = true := beq_iff_eq.mpr c3
    have c3b1 : (a0 != a1) = false := bne_eq_false_iff_eq.mpr c3
    clear c3
    obtain rfl := Option.some.inj H
    go_enter Try.func60, Try.ntmps60
    go_wp2
    go_ret
    exact ⟨by first | rfl | (simp; done) | (simp [*]; done), by repeat (first | exact Drawn0.refl _ | apply Drawn0.step)⟩
  · rw [if_neg c3] at H
    have c3b0 : (a0 == a1) = false := beq_eq_false_iff_ne.mpr c3
    have c3b1 : (a0 != a1) = true := bne_iff_ne.mpr c3
    replace H := Option.bind_eq_some_iff.mp H
    obtain ⟨t102, A40, H⟩ := H
    replace H : (some (decide (t102 < 2147483648))) = some r := H
    have A4 := Aside0.mk A40
    clear A40
    obtain rfl := Option.some.inj H
    go_enter Try.func60, Try.ntmps60
    go_wp2_with (first | (go_at_call 70; (with_reducible refine (spec_l10Seq.calls (wrap64 (a1 - a0)) t102 _ A4.out).mono ?_); rintro e w' ⟨rfl, ⟨nd, rfl⟩⟩))
    go_ret
    exact ⟨by first | rfl | (simp; done) | (simp [*]; done), by repeat (first | exact Drawn0.refl _ | apply Drawn0.step)⟩
end
section
/-! ### spec_SeqLess: function 17 -/
def spec_SeqLess.f (a0 : Int) (a1 : Int) : Option (Bool × Int) := (spec_l01Ip.f a0).bind fun t103 => (if t103 = true then ((spec_l01Ip.f a1).bind fun t104 => (if t104 = true then ((spec_l10Less.f a0 a1).bind fun t105 => (some (t105, 0))) else (some (false, 4)))) else (some (false, 4)))
set_option maxHeartbeats 8000000 in
set_option maxRecDepth 100000 in
theorem spec_SeqLess.calls (a0 : Int) (a1 : Int) (r1 : Bool) (r2 : Int) (w : World) (h : spec_SeqLess.f a0 a1 = some (r1, r2)) :
    Calls Try.prog 17 #[.int .i64 a0, .int .i64 a1] w fun e w' => e = .returned (.tuple #[.bool r1, .int .i64 r2]) ∧ Drawn0 w w' := by
  have H : ((spec_l01Ip.f a0).bind fun t103 => (if t103 = true then ((spec_l01Ip.f a1).bind fun t104 => (if t104 = true then ((spec_l10Less.f a0 a1).bind fun t105 => (some (t105, 0))) else (some (false, 4)))) else (some (false, 4)))) = some (r1, r2) := h
  clear h
  replace H := Option.bind_eq_some_iff.mp H
  obtain ⟨t103, A30, H⟩ := H
  replace H : (if t103 = true then ((spec_l01Ip.f a1).bind fun t104 => (if t104 = true then ((spec_l10Less.f a0 a1).bind fun t105 => (some (t105, 0))) else (some (false, 4)))) else (some (false, 4))) = some (r1, r2) := H
  have A3 := Aside0.mk A30
  clear A30
  by_cases c4 : t103 = true
  · subst c4
    have H1 : ((spec_l01Ip.f a1).bind fun t104 => (if t104 = true then ((spec_l10Less.f a0 a1).bind fun t105 => (some (t105, 0))) else (some (false, 4)))) = some (r1, r2) := by rw [if_pos rfl] at H; exact H
    clear H
    have H := H1
    clear H1
    replace H := Option.bind_eq_some_iff.mp H
    obtain ⟨t104, A50, H⟩ := H
    replace H : (if t104 = true then ((spec_l10Less.f a0 a1).bind fun t105 => (some (t105, 0))) else (some (false, 4))) = some (r1, r2) := H
    have A5 := Aside0.mk A50
    clear A50
    by_cases c6 : t104 = true
    · subst c6
      have H1 : ((spec_l10Less.f a0 a1).bind fun t105 => (some (t105, 0))) = some (r1, r2) := by rw [if_pos rfl] at H; exact H
      clear H
      have H := H1
      clear H1
      replace H := Option.bind_eq_some_iff.mp H
      obtain ⟨t105, A70, H⟩ := H
      replace H : (some (t105, 0)) = some (r1, r2) := H
      have A7 := Aside0.mk A70
      clear A70
      simp only [Option.some.injEq, Prod.mk.injEq] at H
      obtain ⟨rfl, rfl⟩ := H
      go_enter Try.func17, Try.ntmps17
      go_wp2_with (first | ((with_reducible refine gate_callee (f := 59) rfl ?_); refine goesL_ (some 7) rfl rfl Try.func59 (by kernel_rfl) rfl #[.int .i64 a0] rfl (by (try simp only [List.map_toArray, List.map_cons, List.map_nil]); first | done | rfl | (simp only [List.length_drop, List.length_take]; rfl)) ?_; (with_reducible refine (spec_l01Ip.calls a0 true _ A3.out).mono ?_); rintro e w' ⟨rfl, ⟨nd, rfl⟩⟩; refine ⟨_, rfl, ?_⟩) | (go_at_call 59; (with_reducible refine (spec_l01Ip.calls a1 true _ A5.out).mono ?_); rintro e w' ⟨rfl, ⟨nd, rfl⟩⟩) | ((with_reducible refine gate_callee (f := 60) rfl ?_); refine goesL_ (some 16) rfl rfl Try.func60 (by kernel_rfl) rfl #[.int .i64 a0, .int .i64 a1] rfl (by (try simp only [List.map_toArray, List.map_cons, List.map_nil]); first | done | rfl | (simp only [List.length_drop, List.length_take]; rfl)) ?_; (with_reducible refine (spec_l10Less.calls a0 a1 t105 _ A7.out).mono ?_); rintro e w' ⟨rfl, ⟨nd, rfl⟩⟩; refine ⟨_, rfl, ?_⟩))
      go_ret2
      exact ⟨by first | rfl | (simp; done) | (simp [*]; done), by repeat (first | exact Drawn0.refl _ | apply Drawn0.step)⟩
    · replace c6 := Bool.eq_false_iff.mpr c6
      subst c6
      have H1 : (some (false, 4)) = some (r1, r2) := by rw [if_neg (show ¬ (false = true) by decide)] at H; exact H
      clear H
      have H := H1
      clear H1
      simp only [Option.some.injEq, Prod.mk.injEq] at H
      obtain ⟨rfl, rfl⟩ := H
      go_enter Try.func17, Try.ntmps17
      go_wp2_with (first | ((with_reducible refine gate_callee (f := 59) rfl ?_); refine goesL_ (some 7) rfl rfl Try.func59 (by kernel_rfl) rfl #[.int .i64 a0] rfl (by (try simp only [List.map_toArray, List.map_cons, List.map_nil]); first | done | rfl | (simp only [List.length_drop, List.length_take]; rfl)) ?_; (with_reducible refine (spec_l01Ip.calls a0 true _ A3.out).mono ?_); rintro e w' ⟨rfl, ⟨nd, rfl⟩⟩; refine ⟨_, rfl, ?_⟩) | (go_at_call 59; (with_reducible refine (spec_l01Ip.calls a1 false _ A5.out).mono ?_); rintro e w' ⟨rfl, ⟨nd, rfl⟩⟩))
      go_ret2
      exact ⟨by first | rfl | (simp; done) | (simp [*]; done), by repeat (first | exact Drawn0.refl _ | apply Drawn0.step)⟩
  · replace c4 := Bool.eq_false_iff.mpr c4
    subst c4
    have H1 : (some (false, 4)) = some (r1, r2) := by rw [if_neg (show ¬ (false = true) by decide)] at H; exact H
    clear H
    have H := H1
    clear H1
    simp only [Option.some.injEq, Prod.mk.injEq] at H
    obtain ⟨rfl, rfl⟩ := H
    go_enter Try.func17, Try.ntmps17
    go_wp2_with (first | ((with_reducible refine gate_callee (f := 59) rfl ?_); refine goesL_ (some 7) rfl rfl Try.func59 (by kernel_rfl) rfl #[.int .i64 a0] rfl (by (try simp only [List.map_toArray, List.map_cons, List.map_nil]); first | done | rfl | (simp only [List.length_drop, List.length_take]; rfl)) ?_; (with_reducible refine (spec_l01Ip.calls a0 false _ A3.out).mono ?_); rintro e w' ⟨rfl, ⟨nd, rfl⟩⟩; refine ⟨_, rfl, ?_⟩))
    go_ret2
    exact ⟨by first | rfl | (simp; done) | (simp [*]; done), by repeat (first | exact Drawn0.refl _ | apply Drawn0.step)⟩
end
section
/-! ### impl_within: function 62 -/
def impl_within.f (a0 : Int) (a1 : Int) (a2 : Int) : Option (Bool) := if a0 ≥ a1 then (some (decide (a0 ≤ a2))) else (some false)
set_option maxHeartbeats 8000000 in
set_option maxRecDepth 100000 in
theorem impl_within.calls (a0 : Int) (a1 : Int) (a2 : Int) (r : Bool) (w : World) (h : impl_within.f a0 a1 a2 = some r) :
    Calls Try.prog 62 #[.int .i64 a0, .int .i64 a1, .int .i64 a2] w fun e w' => e = .returned (.bool r) ∧ Drawn0 w w' := by
  have H : (if a0 ≥ a1 then (some (decide (a0 ≤ a2))) else (some false)) = some r := h
  clear h
  by_cases c4 : a0 ≥ a1
  · rw [if_pos c4] at H
    have c4b0 : decide (a1 ≤ a0) = true := decide_eq_true c4
    clear c4
    obtain rfl := Option.some.inj H
    go_enter Try.func62, Try.ntmps62
    go_wp2
    go_ret
    exact ⟨by first | rfl | (simp; done) | (simp [*]; done), by repeat (first | exact Drawn0.refl _ | apply Drawn0.step)⟩
  · rw [if_neg c4] at H
    have c4b0 : decide (a1 ≤ a0) = false := decide_eq_false c4
    clear c4
    obtain rfl := Option.some.inj H
    go_enter Try.func62, Try.ntmps62
    go_wp2
    go_ret
    exact ⟨by first | rfl | (simp; done) | (simp [*]; done), by repeat (first | exact Drawn0.refl _ | apply Drawn0.step)⟩
end
section
/-! ### impl_isAddress: function 61 -/
def impl_isAddress.f (a0 : Int) : Option (Bool) := (impl_within.f a0 0 4294967295).bind fun t106 => (some t106)
set_option maxHeartbeats 8000000 in
set_option maxRecDepth 100000 in
theorem impl_isAddress.calls (a0 : Int) (r : Bool) (w : World) (h : impl_isAddress.f a0 = some r) :
    Calls Try.prog 61 #[.int .i64 a0] w fun e w' => e = .returned (.bool r) ∧ Drawn0 w w' := by
  have H : ((impl_within.f a0 0 4294967295).bind fun t106 => (some t106)) = some r := h
  clear h
  replace H := Option.bind_eq_some_iff.mp H
  obtain ⟨t106, A20, H⟩ := H
  replace H : (some t106) = some r := H
  have A2 := Aside0.mk A20
  clear A20
  obtain rfl := Option.some.inj H
  go_enter Try.func61, Try.ntmps61
  go_wp2_with (first | ((with_reducible refine gate_callee (f := 62) rfl ?_); refine goesL_ (some 4) rfl rfl Try.func62 (by kernel_rfl) rfl #[.int .i64 a0, .int .i64 0, .int .i64 4294967295] rfl (by (try simp only [List.map_toArray, List.map_cons, List.map_nil]); first | done | rfl | (simp only [List.length_drop, List.length_take]; rfl)) ?_; (with_reducible refine (impl_within.calls a0 0 4294967295 t106 _ A2.out).mono ?_); rintro e w' ⟨rfl, ⟨nd, rfl⟩⟩; refine ⟨_, rfl, ?_⟩))
  go_ret
  exact ⟨by first | rfl | (simp; done) | (simp [*]; done), by repeat (first | exact Drawn0.refl _ | apply Drawn0.step)⟩
end
section
/-! ### impl_behind: function 63 -/
def impl_behind.f (a0 : Int) (a1 : Int) : Option (Int) := some (Int.tmod (wrap64 ((wrap64 (a0 - a1)) + 4294967296)) 4294967296)
set_option maxHeartbeats 8000000 in
set_option maxRecDepth 100000 in
theorem impl_behind.calls (a0 : Int) (a1 : Int) (r : Int) (w : World) (h : impl_behind.f a0 a1 = some r) :
    Calls Try.prog 63 #[.int .i64 a0, .int .i64 a1] w fun e w' => e = .returned (.int .i64 r) ∧ Drawn0 w w' := by
  have H : (some (Int.tmod (wrap64 ((wrap64 (a0 - a1)) + 4294967296)) 4294967296)) = some r := h
  clear h
  obtain rfl := Option.some.inj H
  go_enter Try.func63, Try.ntmps63
  go_wp2
  go_ret
  exact ⟨by first | rfl | (simp; done) | (simp [*]; done), by repeat (first | exact Drawn0.refl _ | apply Drawn0.step)⟩
end
section
/-! ### impl_SeqLess: function 18 -/
def impl_SeqLess.j0 : Nat → Int → Int → Bool → Option (Bool × Int)
  | 0, _, _, _ => none
  | k + 1, x0, x1, x13 => if x13 = true then (some (false, 4)) else ((impl_behind.f x1 x0).bind fun t109 => ((impl_within.f t109 1 2147483647).bind fun t110 => (some (t110, 0))))
def impl_SeqLess.f (k : Nat) (a0 : Int) (a1 : Int) : Option (Bool × Int) := (impl_isAddress.f a0).bind fun t107 => (if t107 = true then ((impl_isAddress.f a1).bind fun t108 => (impl_SeqLess.j0 k a0 a1 (!t108))) else (impl_SeqLess.j0 k a0 a1 true))
theorem impl_SeqLess.mono_l : ∀ k, (∀ y0 y1 y2, LeO (impl_SeqLess.j0 k y0 y1 y2) (impl_SeqLess.j0 (k + 1) y0 y1 y2))
  | 0 => fun _ _ _ r h => by simp [impl_SeqLess.j0] at h
  | k + 1 => by
    have ih0 := impl_SeqLess.mono_l k
    · intro y0 y1 y2
      unfold impl_SeqLess.j0
      repeat' first
      | (with_reducible exact ih0 _ _ _)
      | (with_reducible exact LeO.refl _)
      | (with_reducible exact LeO.none _)
      | (with_reducible refine LeO.ite ?_ ?_)
      | (with_reducible refine LeO.bind ?_ (fun _ => ?_))
      | exact ih0 _ _ _
      | exact LeO.none _
      | refine LeO.ite ?_ ?_
      | refine LeO.bind ?_ (fun _ => ?_)
theorem impl_SeqLess.mono : ∀ a0 a1 k, LeO (impl_SeqLess.f k a0 a1) (impl_SeqLess.f (k + 1) a0 a1) := by
  intro a0 a1 k
  have ih0 := impl_SeqLess.mono_l k
  unfold impl_SeqLess.f
  repeat' first
      | (with_reducible exact ih0 _ _ _)
      | (with_reducible exact LeO.refl _)
      | (with_reducible exact LeO.none _)
      | (with_reducible refine LeO.ite ?_ ?_)
      | (with_reducible refine LeO.bind ?_ (fun _ => ?_))
      | exact ih0 _ _ _
      | exact LeO.none _
      | refine LeO.ite ?_ ?_
      | refine LeO.bind ?_ (fun _ => ?_)
set_option maxHeartbeats 8000000 in
set_option maxRecDepth 100000 in
theorem impl_SeqLess.calls (k : Nat) (a0 : Int) (a1 : Int) (r1 : Bool) (r2 : Int) (w : World) (h : impl_SeqLess.f k a0 a1 = some (r1, r2)) :
    Calls Try.prog 18 #[.int .i64 a0, .int .i64 a1] w fun e w' => e = .returned (.tuple #[.bool r1, .int .i64 r2]) ∧ Drawn0 w w' := by
  have H : ((impl_isAddress.f a0).bind fun t107 => (if t107 = true then ((impl_isAddress.f a1).bind fun t108 => (impl_SeqLess.j0 k a0 a1 (!t108))) else (impl_SeqLess.j0 k a0 a1 true))) = some (r1, r2) := h
  clear h
  have HC3 := Aside0.mk H
  clear H
  go_enter Try.func18, Try.ntmps18
  go_upto_region 1 with (fail)
  go_cut [13] (fun v13 wc => ∃ (kq : Nat) (x13_2 : Bool), v13 = .bool x13_2 ∧ Aside0 (impl_SeqLess.j0 kq a0 a1 x13_2 = some (r1, r2)) ∧ Aside0 (kq ≤ k) ∧ Drawn0 w wc)
  case first =>
    have H := HC3.out
    clear HC3
    replace H := Option.bind_eq_some_iff.mp H
    obtain ⟨t107, A40, H⟩ := H
    replace H : (if t107 = true then ((impl_isAddress.f a1).bind fun t108 => (impl_SeqLess.j0 k a0 a1 (!t108))) else (impl_SeqLess.j0 k a0 a1 true)) = some (r1, r2) := H
    have A4 := Aside0.mk A40
    clear A40
    by_cases c5 : t107 = true
    · subst c5
      have H1 : ((impl_isAddress.f a1).bind fun t108 => (impl_SeqLess.j0 k a0 a1 (!t108))) = some (r1, r2) := by rw [if_pos rfl] at H; exact H
      clear H
      have H := H1
      clear H1
      replace H := Option.bind_eq_some_iff.mp H
      obtain ⟨t108, A60, H⟩ := H
      replace H : (impl_SeqLess.j0 k a0 a1 (!t108)) = some (r1, r2) := H
      have A6 := Aside0.mk A60
      clear A60
      have H' := Aside0.mk H
      clear H
      go_wp2_with (first | ((with_reducible refine gate_callee (f := 61) rfl ?_); refine goesL_ (some 7) rfl rfl Try.func61 (by kernel_rfl) rfl #[.int .i64 a0] rfl (by (try simp only [List.map_toArray, List.map_cons, List.map_nil]); first | done | rfl | (simp only [List.length_drop, List.length_take]; rfl)) ?_; (with_reducible refine (impl_isAddress.calls a0 true _ A4.out).mono ?_); rintro e w' ⟨rfl, ⟨nd, rfl⟩⟩; refine ⟨_, rfl, ?_⟩) | (go_at_call 61; (with_reducible refine (impl_isAddress.calls a1 t108 _ A6.out).mono ?_); rintro e w' ⟨rfl, ⟨nd, rfl⟩⟩))
      go_meet
      case rel => exact ⟨_, (!t108), (by first | rfl | (simp; done) | (simp [*]; done)), H', ⟨by first | omega | exact Nat.le_refl _⟩, by repeat (first | exact Drawn0.refl _ | apply Drawn0.step)⟩
    · replace c5 := Bool.eq_false_iff.mpr c5
      subst c5
      have H1 : (impl_SeqLess.j0 k a0 a1 true) = some (r1, r2) := by rw [if_neg (show ¬ (false = true) by decide)] at H; exact H
      clear H
      have H := H1
      clear H1
      have H' := Aside0.mk H
      clear H
      go_wp2_with (first | ((with_reducible refine gate_callee (f := 61) rfl ?_); refine goesL_ (some 7) rfl rfl Try.func61 (by kernel_rfl) rfl #[.int .i64 a0] rfl (by (try simp only [List.map_toArray, List.map_cons, List.map_nil]); first | done | rfl | (simp only [List.length_drop, List.length_take]; rfl)) ?_; (with_reducible refine (impl_isAddress.calls a0 false _ A4.out).mono ?_); rintro e w' ⟨rfl, ⟨nd, rfl⟩⟩; refine ⟨_, rfl, ?_⟩))
      go_meet
      case rel => exact ⟨_, (true), (by first | rfl | (simp; done) | (simp [*]; done)), H', ⟨by first | omega | exact Nat.le_refl _⟩, by repeat (first | exact Drawn0.refl _ | apply Drawn0.step)⟩
  case rest =>
    clear HC3
    try clear c1
    try clear p2
    try clear c5
    try clear c6
    obtain ⟨kq, x13_2, rfl, HA, HJ2, ⟨mc2, rfl⟩⟩ := hcut
    cases kq with
    | zero => exact absurd HA.out (by simp [impl_SeqLess.j0])
    | succ kj2 =>
      have H := HA.out
      clear HA
      simp only [impl_SeqLess.j0] at H
      by_cases c7 : x13_2 = true
      · subst c7
        have H1 : (some (false, 4)) = some (r1, r2) := by rw [if_pos rfl] at H; exact H
        clear H
        have H := H1
        clear H1
        simp only [Option.some.injEq, Prod.mk.injEq] at H
        obtain ⟨rfl, rfl⟩ := H
        go_wp2
        go_ret2
        exact ⟨by first | rfl | (simp; done) | (simp [*]; done), by repeat (first | exact Drawn0.refl _ | apply Drawn0.step)⟩
      · replace c7 := Bool.eq_false_iff.mpr c7
        subst c7
        have H1 : ((impl_behind.f a1 a0).bind fun t109 => ((impl_within.f t109 1 2147483647).bind fun t110 => (some (t110, 0)))) = some (r1, r2) := by rw [if_neg (show ¬ (false = true) by decide)] at H; exact H
        clear H
        have H := H1
        clear H1
        replace H := Option.bind_eq_some_iff.mp H
        obtain ⟨t109, A80, H⟩ := H
        replace H : ((impl_within.f t109 1 2147483647).bind fun t110 => (some (t110, 0))) = some (r1, r2) := H
        have A8 := Aside0.mk A80
        clear A80
        replace H := Option.bind_eq_some_iff.mp H
        obtain ⟨t110, A90, H⟩ := H
        replace H : (some (t110, 0)) = some (r1, r2) := H
        have A9 := Aside0.mk A90
        clear A90
        simp only [Option.some.injEq, Prod.mk.injEq] at H
        obtain ⟨rfl, rfl⟩ := H
        go_wp2_with (first | ((with_reducible refine gate_callee (f := 63) rfl ?_); refine goesL_ (some 16) rfl rfl Try.func63 (by kernel_rfl) rfl #[.int .i64 a1, .int .i64 a0] rfl (by (try simp only [List.map_toArray, List.map_cons, List.map_nil]); first | done | rfl | (simp only [List.length_drop, List.length_take]; rfl)) ?_; (with_reducible refine (impl_behind.calls a1 a0 t109 _ A8.out).mono ?_); rintro e w' ⟨rfl, ⟨nd, rfl⟩⟩; refine ⟨_, rfl, ?_⟩) | ((with_reducible refine gate_callee (f := 62) rfl ?_); refine goesL_ (some 17) rfl rfl Try.func62 (by kernel_rfl) rfl #[.int .i64 t109, .int .i64 1, .int .i64 2147483647] rfl (by (try simp only [List.map_toArray, List.map_cons, List.map_nil]); first | done | rfl | (simp only [List.length_drop, List.length_take]; rfl)) ?_; (with_reducible refine (impl_within.calls t109 1 2147483647 t110 _ A9.out).mono ?_); rintro e w' ⟨rfl, ⟨nd, rfl⟩⟩; refine ⟨_, rfl, ?_⟩))
        go_ret2
        exact ⟨by first | rfl | (simp; done) | (simp [*]; done), by repeat (first | exact Drawn0.refl _ | apply Drawn0.step)⟩
end
section
/-! ### laws_at: function 19 -/
def laws_at.f (l0 : List Int) (a1 : Int) (a2 : Int) : Option (Int) := if a2 ≤ 1 then (some 0) else (if (l0.length : Int) = 0 then (if a2 = 0 then (none) else (some (Int.tmod (wrap64 (a1 * 7)) a2))) else (if 0 ≤ (Int.tmod a1 (l0.length : Int)) then (if (Int.tmod a1 (l0.length : Int)) < (l0.length : Int) then (if 0 ≤ (Int.tmod (wrap64 (a1 + 1)) (l0.length : Int)) then (if (Int.tmod (wrap64 (a1 + 1)) (l0.length : Int)) < (l0.length : Int) then (if a2 = 0 then (none) else (some (Int.tmod (wrap64 ((wrap64 ((wrap64 ((wrap64 (rd l0 (Int.tmod a1 (l0.length : Int)))) * 31)) + (wrap64 (rd l0 (Int.tmod (wrap64 (a1 + 1)) (l0.length : Int)))))) + (wrap64 (Int.tdiv a1 (l0.length : Int))))) a2))) else (none)) else (none)) else (none)) else (none)))
set_option maxHeartbeats 8000000 in
set_option maxRecDepth 100000 in
theorem laws_at.calls (A0 : Option Addr) (c0 : Nat) (l0 : List Int) (a1 : Int) (a2 : Int) (r : Int) (w : World) (hr0 : Kd.C (Kd.int .u8) w A0 l0.length l0) (hc0 : l0.length ≤ c0) (h : laws_at.f l0 a1 a2 = some r) :
    Calls Try.prog 19 #[.slice A0 l0.length c0, .int .i64 a1, .int .i64 a2] w fun e w' => e = .returned (.int .i64 r) ∧ Drawn0 w w' := by
  have HR0 := Aside0.mk hr0
  have HC0 := Aside0.mk hc0
  clear hr0 hc0
  have H : (if a2 ≤ 1 then (some 0) else (if (l0.length : Int) = 0 then (if a2 = 0 then (none) else (some (Int.tmod (wrap64 (a1 * 7)) a2))) else (if 0 ≤ (Int.tmod a1 (l0.length : Int)) then (if (Int.tmod a1 (l0.length : Int)) < (l0.length : Int) then (if 0 ≤ (Int.tmod (wrap64 (a1 + 1)) (l0.length : Int)) then (if (Int.tmod (wrap64 (a1 + 1)) (l0.length : Int)) < (l0.length : Int) then (if a2 = 0 then (none) else (some (Int.tmod (wrap64 ((wrap64 ((wrap64 ((wrap64 (rd l0 (Int.tmod a1 (l0.length : Int)))) * 31)) + (wrap64 (rd l0 (Int.tmod (wrap64 (a1 + 1)) (l0.length : Int)))))) + (wrap64 (Int.tdiv a1 (l0.length : Int))))) a2))) else (none)) else (none)) else (none)) else (none)))) = some r := h
  clear h
  by_cases c4 : a2 ≤ 1
  · rw [if_pos c4] at H
    have c4b0 : decide (a2 ≤ 1) = true := decide_eq_true c4
    clear c4
    obtain rfl := Option.some.inj H
    go_enter Try.func19, Try.ntmps19
    go_wp2
    repeat (go_quiet (fail); try go_wp2)
    go_ret
    exact ⟨by first | rfl | (simp; done) | (simp [*]; done), by repeat (first | exact Drawn0.refl _ | apply Drawn0.step)⟩
  · rw [if_neg c4] at H
    have c4b0 : decide (a2 ≤ 1) = false := decide_eq_false c4
    clear c4
    by_cases c5 : (l0.length : Int) = 0
    · rw [if_pos c5] at H
      have c5b0 : ((l0.length : Int) == 0) = true := beq_iff_eq.mpr c5
      have c5b1 : ((l0.length : Int) != 0) = false := bne_eq_false_iff_eq.mpr c5
      clear c5
      by_cases c6 : a2 = 0
      · rw [if_pos c6] at H
        exact absurd H (by simp)
      · rw [if_neg c6] at H
        have c6b0 : (a2 == 0) = false := beq_eq_false_iff_ne.mpr c6
        have c6b1 : (a2 != 0) = true := bne_iff_ne.mpr c6
        obtain rfl := Option.some.inj H
        go_enter Try.func19, Try.ntmps19
        go_wp2
        repeat (go_quiet (fail); try go_wp2)
        go_ret
        exact ⟨by first | rfl | (simp; done) | (simp [*]; done), by repeat (first | exact Drawn0.refl _ | apply Drawn0.step)⟩
    · rw [if_neg c5] at H
      have c5b0 : ((l0.length : Int) == 0) = false := beq_eq_false_iff_ne.mpr c5
      have c5b1 : ((l0.length : Int) != 0) = true := bne_iff_ne.mpr c5
      have c5b2 : ¬ (l0 = []) := fun h_ => c5 (by rw [h_]; rfl)
      obtain ⟨ji7, hji7⟩ : ∃ j_ : Int, (Int.tmod a1 (l0.length : Int)) = j_ := ⟨_, rfl⟩
      replace H : (if 0 ≤ (ji7) then (if (ji7) < (l0.length : Int) then (if 0 ≤ (Int.tmod (wrap64 (a1 + 1)) (l0.length : Int)) then (if (Int.tmod (wrap64 (a1 + 1)) (l0.length : Int)) < (l0.length : Int) then (if a2 = 0 then (none) else (some (Int.tmod (wrap64 ((wrap64 ((wrap64 ((wrap64 (rd l0 (ji7))) * 31)) + (wrap64 (rd l0 (Int.tmod (wrap64 (a1 + 1)) (l0.length : Int)))))) + (wrap64 (Int.tdiv a1 (l0.length : Int))))) a2))) else (none)) else (none)) else (none)) else (none)) = some r := by first | (rw [hji7] at H; exact H) | (simp only [hji7] at H ⊢; exact H)
      by_cases c8 : 0 ≤ (ji7)
      · rw [if_pos c8] at H
        have c8b0 : decide (0 ≤ (ji7)) = true := decide_eq_true c8
        clear c8
        by_cases c9 : (ji7) < (l0.length : Int)
        · rw [if_pos c9] at H
          have c9b0 : decide ((ji7) < (l0.length : Int)) = true := decide_eq_true c9
          clear c9
          obtain ⟨ji10, hji10⟩ : ∃ j_ : Int, (Int.tmod (wrap64 (a1 + 1)) (l0.length : Int)) = j_ := ⟨_, rfl⟩
          replace H : (if 0 ≤ (ji10) then (if (ji10) < (l0.length : Int) then (if a2 = 0 then (none) else (some (Int.tmod (wrap64 ((wrap64 ((wrap64 ((wrap64 (rd l0 (ji7))) * 31)) + (wrap64 (rd l0 (ji10))))) + (wrap64 (Int.tdiv a1 (l0.length : Int))))) a2))) else (none)) else (none)) = some r := by first | (rw [hji10] at H; exact H) | (simp only [hji10] at H ⊢; exact H)
          by_cases c11 : 0 ≤ (ji10)
          · rw [if_pos c11] at H
            have c11b0 : decide (0 ≤ (ji10)) = true := decide_eq_true c11
            clear c11
            by_cases c12 : (ji10) < (l0.length : Int)
            · rw [if_pos c12] at H
              have c12b0 : decide ((ji10) < (l0.length : Int)) = true := decide_eq_true c12
              clear c12
              by_cases c13 : a2 = 0
              · rw [if_pos c13] at H
                exact absurd H (by simp)
              · rw [if_neg c13] at H
                have c13b0 : (a2 == 0) = false := beq_eq_false_iff_ne.mpr c13
                have c13b1 : (a2 != 0) = true := bne_iff_ne.mpr c13
                obtain rfl := Option.some.inj H
                have p115 : 0 ≤ ((ji7) : Int) := of_decide_eq_true (by first | (with_reducible assumption) | assumption)
                have q115 : (ji7) < (l0.length : Int) := of_decide_eq_true (by first | (with_reducible assumption) | assumption)
                obtain ⟨ad115, e115, hx115_0⟩ := Kd.at_int HR0.out (ji7) p115 q115
                cases e115
                replace p115 := eq_true p115
                replace q115 := eq_true q115
                have p116 : 0 ≤ ((ji10) : Int) := of_decide_eq_true (by first | (with_reducible assumption) | assumption)
                have q116 : (ji10) < (l0.length : Int) := of_decide_eq_true (by first | (with_reducible assumption) | assumption)
                obtain ⟨ad116, e116, hx116_0⟩ := Kd.at_int HR0.out (ji10) p116 q116
                obtain rfl : ad115 = ad116 := (by injection e116)
                replace p116 := eq_true p116
                replace q116 := eq_true q116
                go_enter Try.func19, Try.ntmps19
                go_wp2
                repeat (go_quiet (fail); try go_wp2)
                go_ret
                exact ⟨by first | rfl | (simp; done) | (simp only [← hji7, ← hji10] <;> (first | rfl | simp)) | (simp [*]; done), by repeat (first | exact Drawn0.refl _ | apply Drawn0.step)⟩
            · rw [if_neg c12] at H
              exact absurd H (by simp)
          · rw [if_neg c11] at H
            exact absurd H (by simp)
        · rw [if_neg c9] at H
          exact absurd H (by simp)
      · rw [if_neg c8] at H
        exact absurd H (by simp)
end
section
/-! ### laws_FnSeq: function 4 -/
mutual
def laws_FnSeq.j0 : Nat → List Int → List Int → Bool → Option (Bool)
  | 0, _, _, _ => none
  | k + 1, x0, x1, x27 => if x27 = true then (some true) else ((laws_at.f x0 0 60000).bind fun t117 => ((laws_at.f x0 1 60000).bind fun t118 => ((laws_at.f x1 0 60000).bind fun t119 => ((laws_at.f x1 1 60000).bind fun t120 => ((impl_SeqLess.f k (wrap64 ((wrap64 (t117 * 65536)) + t118)) (wrap64 ((wrap64 (t119 * 65536)) + t120))).bind fun bt121 => ((impl_SeqLess.f k (wrap64 ((wrap64 (t119 * 65536)) + t120)) (wrap64 ((wrap64 (t117 * 65536)) + t118))).bind fun bt123 => ((spec_SeqLess.f (wrap64 ((wrap64 (t117 * 65536)) + t118)) (wrap64 ((wrap64 (t119 * 65536)) + t120))).bind fun bt125 => ((laws_at.f x1 2 60000).bind fun t127 => ((impl_SeqLess.f k (Go.bits .and .i64 (wrap64 ((wrap64 ((wrap64 (t117 * 65536)) + t118)) + (wrap64 (t127 * 70000)))) 4294967295) (Go.bits .and .i64 (wrap64 ((wrap64 ((wrap64 (t119 * 65536)) + t120)) + (wrap64 (t127 * 70000)))) 4294967295)).bind fun bt128 => ((impl_SeqLess.f k (wrap64 ((wrap64 (t117 * 65536)) + t118)) (wrap64 ((wrap64 (t117 * 65536)) + t118))).bind fun bt130 => ((impl_SeqLess.f k (wrap64 ((wrap64 (t117 * 65536)) + t118)) (Go.bits .and .i64 (wrap64 ((wrap64 ((wrap64 (t117 * 65536)) + t118)) + 1)) 4294967295)).bind fun bt132 => (if bt121.2 = 0 then (if bt123.2 = 0 then (if (bt121.1 != bt125.1) = true then (laws_FnSeq.j1 k (wrap64 ((wrap64 (t117 * 65536)) + t118)) (wrap64 ((wrap64 (t119 * 65536)) + t120)) bt121.1 bt123.1 true) else (if bt128.2 = 0 then (if (bt128.1 != bt121.1) = true then (laws_FnSeq.j1 k (wrap64 ((wrap64 (t117 * 65536)) + t118)) (wrap64 ((wrap64 (t119 * 65536)) + t120)) bt121.1 bt123.1 true) else (if bt130.2 = 0 then (if bt130.1 = true then (laws_FnSeq.j1 k (wrap64 ((wrap64 (t117 * 65536)) + t118)) (wrap64 ((wrap64 (t119 * 65536)) + t120)) bt121.1 bt123.1 true) else (if bt132.2 = 0 then (laws_FnSeq.j1 k (wrap64 ((wrap64 (t117 * 65536)) + t118)) (wrap64 ((wrap64 (t119 * 65536)) + t120)) bt121.1 bt123.1 (!bt132.1)) else (laws_FnSeq.j1 k (wrap64 ((wrap64 (t117 * 65536)) + t118)) (wrap64 ((wrap64 (t119 * 65536)) + t120)) bt121.1 bt123.1 true))) else (laws_FnSeq.j1 k (wrap64 ((wrap64 (t117 * 65536)) + t118)) (wrap64 ((wrap64 (t119 * 65536)) + t120)) bt121.1 bt123.1 true))) else (laws_FnSeq.j1 k (wrap64 ((wrap64 (t117 * 65536)) + t118)) (wrap64 ((wrap64 (t119 * 65536)) + t120)) bt121.1 bt123.1 true))) else (laws_FnSeq.j1 k (wrap64 ((wrap64 (t117 * 65536)) + t118)) (wrap64 ((wrap64 (t119 * 65536)) + t120)) bt121.1 bt123.1 true)) else (laws_FnSeq.j1 k (wrap64 ((wrap64 (t117 * 65536)) + t118)) (wrap64 ((wrap64 (t119 * 65536)) + t120)) bt121.1 bt123.1 true)))))))))))))
def laws_FnSeq.j1 : Nat → Int → Int → Bool → Bool → Bool → Option (Bool)
  | 0, _, _, _, _, _ => none
  | k + 1, x5, x6, x7, x9, x121 => if x121 = true then (some false) else (if x5 = x6 then (if x7 = true then (some false) else (some (!x9))) else (if (x7 != x9) = true then (some true) else (some ((Go.bits .and .i64 (wrap64 (x5 - x6)) 4294967295) == 2147483648))))
end
def laws_FnSeq.f (k : Nat) (l0 : List Int) (l1 : List Int) : Option (Bool) := if (l0.length : Int) > 1048576 then (laws_FnSeq.j0 k l0 l1 true) else (laws_FnSeq.j0 k l0 l1 (decide ((l1.length : Int) > 1048576)))
theorem laws_FnSeq.mono_l : ∀ k, (∀ y0 y1 y2, LeO (laws_FnSeq.j0 k y0 y1 y2) (laws_FnSeq.j0 (k + 1) y0 y1 y2)) ∧ (∀ y0 y1 y2 y3 y4, LeO (laws_FnSeq.j1 k y0 y1 y2 y3 y4) (laws_FnSeq.j1 (k + 1) y0 y1 y2 y3 y4))
  | 0 => ⟨fun _ _ _ r h => by simp [laws_FnSeq.j0] at h, fun _ _ _ _ _ r h => by simp [laws_FnSeq.j1] at h⟩
  | k + 1 => by
    obtain ⟨ih0, ih1⟩ := laws_FnSeq.mono_l k
    refine ⟨?_, ?_⟩
    · intro y0 y1 y2
      unfold laws_FnSeq.j0
      repeat' first
      | (with_reducible exact ih0 _ _ _)
      | (with_reducible exact ih1 _ _ _ _ _)
      | (with_reducible exact impl_SeqLess.mono _ _ _)
      | (with_reducible exact LeO.refl _)
      | (with_reducible exact LeO.none _)
      | (with_reducible refine LeO.ite ?_ ?_)
      | (with_reducible refine LeO.bind ?_ (fun _ => ?_))
      | exact ih0 _ _ _
      | exact ih1 _ _ _ _ _
      | exact impl_SeqLess.mono _ _ _
      | exact LeO.none _
      | refine LeO.ite ?_ ?_
      | refine LeO.bind ?_ (fun _ => ?_)
    · intro y0 y1 y2 y3 y4
      unfold laws_FnSeq.j1
      repeat' first
      | (with_reducible exact ih0 _ _ _)
      | (with_reducible exact ih1 _ _ _ _ _)
      | (with_reducible exact impl_SeqLess.mono _ _ _)
      | (with_reducible exact LeO.refl _)
      | (with_reducible exact LeO.none _)
      | (with_reducible refine LeO.ite ?_ ?_)
      | (with_reducible refine LeO.bind ?_ (fun _ => ?_))
      | exact ih0 _ _ _
      | exact ih1 _ _ _ _ _
      | exact impl_SeqLess.mono _ _ _
      | exact LeO.none _
      | refine LeO.ite ?_ ?_
      | refine LeO.bind ?_ (fun _ => ?_)
theorem laws_FnSeq.mono : ∀ a0 a1 k, LeO (laws_FnSeq.f k a0 a1) (laws_FnSeq.f (k + 1) a0 a1) := by
  intro a0 a1 k
  obtain ⟨ih0, ih1⟩ := laws_FnSeq.mono_l k
  unfold laws_FnSeq.f
  repeat' first
      | (with_reducible exact ih0 _ _ _)
      | (with_reducible exact ih1 _ _ _ _ _)
      | (with_reducible exact impl_SeqLess.mono _ _ _)
      | (with_reducible exact LeO.refl _)
      | (with_reducible exact LeO.none _)
      | (with_reducible refine LeO.ite ?_ ?_)
      | (with_reducible refine LeO.bind ?_ (fun _ => ?_))
      | exact ih0 _ _ _
      | exact ih1 _ _ _ _ _
      | exact impl_SeqLess.mono _ _ _
      | exact LeO.none _
      | refine LeO.ite ?_ ?_
      | refine LeO.bind ?_ (fun _ => ?_)
set_option maxHeartbeats 8000000 in
set_option maxRecDepth 100000 in
theorem laws_FnSeq.calls (k : Nat) (A0 : Option Addr) (c0 : Nat) (l0 : List Int) (A1 : Option Addr) (c1 : Nat) (l1 : List Int) (r : Bool) (w : World) (hr0 : Kd.C (Kd.int .u8) w A0 l0.length l0) (hc0 : l0.length ≤ c0) (hr1 : Kd.C (Kd.int .u8) w A1 l1.length l1) (hc1 : l1.length ≤ c1) (h : laws_FnSeq.f k l0 l1 = some r) :
    Calls Try.prog 4 #[.slice A0 l0.length c0, .slice A1 l1.length c1] w fun e w' => e = .returned (.bool r) ∧ Drawn0 w w' := by
  have HR0 := Aside0.mk hr0
  have HC0 := Aside0.mk hc0
  clear hr0 hc0
  have HR1 := Aside0.mk hr1
  have HC1 := Aside0.mk hc1
  clear hr1 hc1
  have H : (if (l0.length : Int) > 1048576 then (laws_FnSeq.j0 k l0 l1 true) else (laws_FnSeq.j0 k l0 l1 (decide ((l1.length : Int) > 1048576)))) = some r := h
  clear h
  have HC3 := Aside0.mk H
  clear H
  go_enter Try.func4, Try.ntmps4
  go_upto_region 1 with (fail)
  go_cut [27] (fun v27 wc => ∃ (kq : Nat) (x27_2 : Bool), v27 = .bool x27_2 ∧ Aside0 (laws_FnSeq.j0 kq l0 l1 x27_2 = some r) ∧ Aside0 (kq ≤ k) ∧ Drawn0 w wc)
  case first =>
    have H := HC3.out
    clear HC3
    by_cases c4 : (l0.length : Int) > 1048576
    · rw [if_pos c4] at H
      have c4b0 : decide (1048576 < (l0.length : Int)) = true := decide_eq_true c4
      have c4b1 : decide (1048576 < l0.length) = true := decide_eq_true (by omega)
      clear c4
      (first | rw [c4b0] | (simp only [i64_w, i32_w]; rw [c4b0]) | skip)
      have H' := Aside0.mk H
      clear H
      go_wp2
      go_meet
      case rel => exact ⟨_, (true), (by first | rfl | (simp; done) | (simp [*]; done)), H', ⟨by first | omega | exact Nat.le_refl _⟩, by repeat (first | exact Drawn0.refl _ | apply Drawn0.step)⟩
    · rw [if_neg c4] at H
      have c4b0 : decide (1048576 < (l0.length : Int)) = false := decide_eq_false c4
      have c4b1 : decide (1048576 < l0.length) = false := decide_eq_false (by omega)
      clear c4
      (first | rw [c4b0] | (simp only [i64_w, i32_w]; rw [c4b0]) | skip)
      have H' := Aside0.mk H
      clear H
      go_wp2
      go_meet
      case rel => exact ⟨_, (decide ((l1.length : Int) > 1048576)), (by first | rfl | (simp; done) | (simp [*]; done)), H', ⟨by first | omega | exact Nat.le_refl _⟩, by repeat (first | exact Drawn0.refl _ | apply Drawn0.step)⟩
  case rest =>
    clear HC3
    try clear c1
    try clear p2
    try clear c4
    try clear c4b0
    try clear c4b1
    obtain ⟨kq, x27_2, rfl, HA, HJ2, ⟨mc2, rfl⟩⟩ := hcut
    cases kq with
    | zero => exact absurd HA.out (by simp [laws_FnSeq.j0])
    | succ kj2 =>
      have H := HA.out
      clear HA
      simp only [laws_FnSeq.j0] at H
      by_cases c5 : x27_2 = true
      · subst c5
        have H1 : (some true) = some r := by rw [if_pos rfl] at H; exact H
        clear H
        have H := H1
        clear H1
        obtain rfl := Option.some.inj H
        go_wp2
        go_ret
        exact ⟨by first | rfl | (simp; done) | (simp [*]; done), by repeat (first | exact Drawn0.refl _ | apply Drawn0.step)⟩
      · replace c5 := Bool.eq_false_iff.mpr c5
        subst c5
        have H1 : ((laws_at.f l0 0 60000).bind fun t117 => ((laws_at.f l0 1 60000).bind fun t118 => ((laws_at.f l1 0 60000).bind fun t119 => ((laws_at.f l1 1 60000).bind fun t120 => ((impl_SeqLess.f kj2 (wrap64 ((wrap64 (t117 * 65536)) + t118)) (wrap64 ((wrap64 (t119 * 65536)) + t120))).bind fun bt121 => ((impl_SeqLess.f kj2 (wrap64 ((wrap64 (t119 * 65536)) + t120)) (wrap64 ((wrap64 (t117 * 65536)) + t118))).bind fun bt123 => ((spec_SeqLess.f (wrap64 ((wrap64 (t117 * 65536)) + t118)) (wrap64 ((wrap64 (t119 * 65536)) + t120))).bind fun bt125 => ((laws_at.f l1 2 60000).bind fun t127 => ((impl_SeqLess.f kj2 (Go.bits .and .i64 (wrap64 ((wrap64 ((wrap64 (t117 * 65536)) + t118)) + (wrap64 (t127 * 70000)))) 4294967295) (Go.bits .and .i64 (wrap64 ((wrap64 ((wrap64 (t119 * 65536)) + t120)) + (wrap64 (t127 * 70000)))) 4294967295)).bind fun bt128 => ((impl_SeqLess.f kj2 (wrap64 ((wrap64 (t117 * 65536)) + t118)) (wrap64 ((wrap64 (t117 * 65536)) + t118))).bind fun bt130 => ((impl_SeqLess.f kj2 (wrap64 ((wrap64 (t117 * 65536)) + t118)) (Go.bits .and .i64 (wrap64 ((wrap64 ((wrap64 (t117 * 65536)) + t118)) + 1)) 4294967295)).bind fun bt132 => (if bt121.2 = 0 then (if bt123.2 = 0 then (if (bt121.1 != bt125.1) = true then (laws_FnSeq.j1 kj2 (wrap64 ((wrap64 (t117 * 65536)) + t118)) (wrap64 ((wrap64 (t119 * 65536)) + t120)) bt121.1 bt123.1 true) else (if bt128.2 = 0 then (if (bt128.1 != bt121.1) = true then (laws_FnSeq.j1 kj2 (wrap64 ((wrap64 (t117 * 65536)) + t118)) (wrap64 ((wrap64 (t119 * 65536)) + t120)) bt121.1 bt123.1 true) else (if bt130.2 = 0 then (if bt130.1 = true then (laws_FnSeq.j1 kj2 (wrap64 ((wrap64 (t117 * 65536)) + t118)) (wrap64 ((wrap64 (t119 * 65536)) + t120)) bt121.1 bt123.1 true) else (if bt132.2 = 0 then (laws_FnSeq.j1 kj2 (wrap64 ((wrap64 (t117 * 65536)) + t118)) (wrap64 ((wrap64 (t119 * 65536)) + t120)) bt121.1 bt123.1 (!bt132.1)) else (laws_FnSeq.j1 kj2 (wrap64 ((wrap64 (t117 * 65536)) + t118)) (wrap64 ((wrap64 (t119 * 65536)) + t120)) bt121.1 bt123.1 true))) else (laws_FnSeq.j1 kj2 (wrap64 ((wrap64 (t117 * 65536)) + t118)) (wrap64 ((wrap64 (t119 * 65536)) + t120)) bt121.1 bt123.1 true))) else (laws_FnSeq.j1 kj2 (wrap64 ((wrap64 (t117 * 65536)) + t118)) (wrap64 ((wrap64 (t119 * 65536)) + t120)) bt121.1 bt123.1 true))) else (laws_FnSeq.j1 kj2 (wrap64 ((wrap64 (t117 * 65536)) + t118)) (wrap64 ((wrap64 (t119 * 65536)) + t120)) bt121.1 bt123.1 true)) else (laws_FnSeq.j1 kj2 (wrap64 ((wrap64 (t117 * 65536)) + t118)) (wrap64 ((wrap64 (t119 * 65536)) + t120)) bt121.1 bt123.1 true))))))))))))) = some r := by rw [if_neg (show ¬ (false = true) by decide)] at H; exact H
        clear H
        have H := H1
        clear H1
        replace H := Option.bind_eq_some_iff.mp H
        obtain ⟨t117, A60, H⟩ := H
        replace H : ((laws_at.f l0 1 60000).bind fun t118 => ((laws_at.f l1 0 60000).bind fun t119 => ((laws_at.f l1 1 60000).bind fun t120 => ((impl_SeqLess.f kj2 (wrap64 ((wrap64 (t117 * 65536)) + t118)) (wrap64 ((wrap64 (t119 * 65536)) + t120))).bind fun bt121 => ((impl_SeqLess.f kj2 (wrap64 ((wrap64 (t119 * 65536)) + t120)) (wrap64 ((wrap64 (t117 * 65536)) + t118))).bind fun bt123 => ((spec_SeqLess.f (wrap64 ((wrap64 (t117 * 65536)) + t118)) (wrap64 ((wrap64 (t119 * 65536)) + t120))).bind fun bt125 => ((laws_at.f l1 2 60000).bind fun t127 => ((impl_SeqLess.f kj2 (Go.bits .and .i64 (wrap64 ((wrap64 ((wrap64 (t117 * 65536)) + t118)) + (wrap64 (t127 * 70000)))) 4294967295) (Go.bits .and .i64 (wrap64 ((wrap64 ((wrap64 (t119 * 65536)) + t120)) + (wrap64 (t127 * 70000)))) 4294967295)).bind fun bt128 => ((impl_SeqLess.f kj2 (wrap64 ((wrap64 (t117 * 65536)) + t118)) (wrap64 ((wrap64 (t117 * 65536)) + t118))).bind fun bt130 => ((impl_SeqLess.f kj2 (wrap64 ((wrap64 (t117 * 65536)) + t118)) (Go.bits .and .i64 (wrap64 ((wrap64 ((wrap64 (t117 * 65536)) + t118)) + 1)) 4294967295)).bind fun bt132 => (if bt121.2 = 0 then (if bt123.2 = 0 then (if (bt121.1 != bt125.1) = true then (laws_FnSeq.j1 kj2 (wrap64 ((wrap64 (t117 * 65536)) + t118)) (wrap64 ((wrap64 (t119 * 65536)) + t120)) bt121.1 bt123.1 true) else (if bt128.2 = 0 then (if (bt128.1 != bt121.1) = true then (laws_FnSeq.j1 kj2 (wrap64 ((wrap64 (t117 * 65536)) + t118)) (wrap64 ((wrap64 (t119 * 65536)) + t120)) bt121.1 bt123.1 true) else (if bt130.2 = 0 then (if bt130.1 = true then (laws_FnSeq.j1 kj2 (wrap64 ((wrap64 (t117 * 65536)) + t118)) (wrap64 ((wrap64 (t119 * 65536)) + t120)) bt121.1 bt123.1 true) else (if bt132.2 = 0 then (laws_FnSeq.j1 kj2 (wrap64 ((wrap64 (t117 * 65536)) + t118)) (wrap64 ((wrap64 (t119 * 65536)) + t120)) bt121.1 bt123.1 (!bt132.1)) else (laws_FnSeq.j1 kj2 (wrap64 ((wrap64 (t117 * 65536)) + t118)) (wrap64 ((wrap64 (t119 * 65536)) + t120)) bt121.1 bt123.1 true))) else (laws_FnSeq.j1 kj2 (wrap64 ((wrap64 (t117 * 65536)) + t118)) (wrap64 ((wrap64 (t119 * 65536)) + t120)) bt121.1 bt123.1 true))) else (laws_FnSeq.j1 kj2 (wrap64 ((wrap64 (t117 * 65536)) + t118)) (wrap64 ((wrap64 (t119 * 65536)) + t120)) bt121.1 bt123.1 true))) else (laws_FnSeq.j1 kj2 (wrap64 ((wrap64 (t117 * 65536)) + t118)) (wrap64 ((wrap64 (t119 * 65536)) + t120)) bt121.1 bt123.1 true)) else (laws_FnSeq.j1 kj2 (wrap64 ((wrap64 (t117 * 65536)) + t118)) (wrap64 ((wrap64 (t119 * 65536)) + t120)) bt121.1 bt123.1 true)))))))))))) = some r := H
        have A6 := Aside0.mk A60
        clear A60
        replace H := Option.bind_eq_some_iff.mp H
        obtain ⟨t118, A70, H⟩ := H
        replace H : ((laws_at.f l1 0 60000).bind fun t119 => ((laws_at.f l1 1 60000).bind fun t120 => ((impl_SeqLess.f kj2 (wrap64 ((wrap64 (t117 * 65536)) + t118)) (wrap64 ((wrap64 (t119 * 65536)) + t120))).bind fun bt121 => ((impl_SeqLess.f kj2 (wrap64 ((wrap64 (t119 * 65536)) + t120)) (wrap64 ((wrap64 (t117 * 65536)) + t118))).bind fun bt123 => ((spec_SeqLess.f (wrap64 ((wrap64 (t117 * 65536)) + t118)) (wrap64 ((wrap64 (t119 * 65536)) + t120))).bind fun bt125 => ((laws_at.f l1 2 60000).bind fun t127 => ((impl_SeqLess.f kj2 (Go.bits .and .i64 (wrap64 ((wrap64 ((wrap64 (t117 * 65536)) + t118)) + (wrap64 (t127 * 70000)))) 4294967295) (Go.bits .and .i64 (wrap64 ((wrap64 ((wrap64 (t119 * 65536)) + t120)) + (wrap64 (t127 * 70000)))) 4294967295)).bind fun bt128 => ((impl_SeqLess.f kj2 (wrap64 ((wrap64 (t117 * 65536)) + t118)) (wrap64 ((wrap64 (t117 * 65536)) + t118))).bind fun bt130 => ((impl_SeqLess.f kj2 (wrap64 ((wrap64 (t117 * 65536)) + t118)) (Go.bits .and .i64 (wrap64 ((wrap64 ((wrap64 (t117 * 65536)) + t118)) + 1)) 4294967295)).bind fun bt132 => (if bt121.2 = 0 then (if bt123.2 = 0 then (if (bt121.1 != bt125.1) = true then (laws_FnSeq.j1 kj2 (wrap64 ((wrap64 (t117 * 65536)) + t118)) (wrap64 ((wrap64 (t119 * 65536)) + t120)) bt121.1 bt123.1 true) else (if bt128.2 = 0 then (if (bt128.1 != bt121.1) = true then (laws_FnSeq.j1 kj2 (wrap64 ((wrap64 (t117 * 65536)) + t118)) (wrap64 ((wrap64 (t119 * 65536)) + t120)) bt121.1 bt123.1 true) else (if bt130.2 = 0 then (if bt130.1 = true then (laws_FnSeq.j1 kj2 (wrap64 ((wrap64 (t117 * 65536)) + t118)) (wrap64 ((wrap64 (t119 * 65536)) + t120)) bt121.1 bt123.1 true) else (if bt132.2 = 0 then (laws_FnSeq.j1 kj2 (wrap64 ((wrap64 (t117 * 65536)) + t118)) (wrap64 ((wrap64 (t119 * 65536)) + t120)) bt121.1 bt123.1 (!bt132.1)) else (laws_FnSeq.j1 kj2 (wrap64 ((wrap64 (t117 * 65536)) + t118)) (wrap64 ((wrap64 (t119 * 65536)) + t120)) bt121.1 bt123.1 true))) else (laws_FnSeq.j1 kj2 (wrap64 ((wrap64 (t117 * 65536)) + t118)) (wrap64 ((wrap64 (t119 * 65536)) + t120)) bt121.1 bt123.1 true))) else (laws_FnSeq.j1 kj2 (wrap64 ((wrap64 (t117 * 65536)) + t118)) (wrap64 ((wrap64 (t119 * 65536)) + t120)) bt121.1 bt123.1 true))) else (laws_FnSeq.j1 kj2 (wrap64 ((wrap64 (t117 * 65536)) + t118)) (wrap64 ((wrap64 (t119 * 65536)) + t120)) bt121.1 bt123.1 true)) else (laws_FnSeq.j1 kj2 (wrap64 ((wrap64 (t117 * 65536)) + t118)) (wrap64 ((wrap64 (t119 * 65536)) + t120)) bt121.1 bt123.1 true))))))))))) = some r := H
        have A7 := Aside0.mk A70
        clear A70
        replace H := Option.bind_eq_some_iff.mp H
        obtain ⟨t119, A80, H⟩ := H
        replace H : ((laws_at.f l1 1 60000).bind fun t120 => ((impl_SeqLess.f kj2 (wrap64 ((wrap64 (t117 * 65536)) + t118)) (wrap64 ((wrap64 (t119 * 65536)) + t120))).bind fun bt121 => ((impl_SeqLess.f kj2 (wrap64 ((wrap64 (t119 * 65536)) + t120)) (wrap64 ((wrap64 (t117 * 65536)) + t118))).bind fun bt123 => ((spec_SeqLess.f (wrap64 ((wrap64 (t117 * 65536)) + t118)) (wrap64 ((wrap64 (t119 * 65536)) + t120))).bind fun bt125 => ((laws_at.f l1 2 60000).bind fun t127 => ((impl_SeqLess.f kj2 (Go.bits .and .i64 (wrap64 ((wrap64 ((wrap64 (t117 * 65536)) + t118)) + (wrap64 (t127 * 70000)))) 4294967295) (Go.bits .and .i64 (wrap64 ((wrap64 ((wrap64 (t119 * 65536)) + t120)) + (wrap64 (t127 * 70000)))) 4294967295)).bind fun bt128 => ((impl_SeqLess.f kj2 (wrap64 ((wrap64 (t117 * 65536)) + t118)) (wrap64 ((wrap64 (t117 * 65536)) + t118))).bind fun bt130 => ((impl_SeqLess.f kj2 (wrap64 ((wrap64 (t117 * 65536)) + t118)) (Go.bits .and .i64 (wrap64 ((wrap64 ((wrap64 (t117 * 65536)) + t118)) + 1)) 4294967295)).bind fun bt132 => (if bt121.2 = 0 then (if bt123.2 = 0 then (if (bt121.1 != bt125.1) = true then (laws_FnSeq.j1 kj2 (wrap64 ((wrap64 (t117 * 65536)) + t118)) (wrap64 ((wrap64 (t119 * 65536)) + t120)) bt121.1 bt123.1 true) else (if bt128.2 = 0 then (if (bt128.1 != bt121.1) = true then (laws_FnSeq.j1 kj2 (wrap64 ((wrap64 (t117 * 65536)) + t118)) (wrap64 ((wrap64 (t119 * 65536)) + t120)) bt121.1 bt123.1 true) else (if bt130.2 = 0 then (if bt130.1 = true then (laws_FnSeq.j1 kj2 (wrap64 ((wrap64 (t117 * 65536)) + t118)) (wrap64 ((wrap64 (t119 * 65536)) + t120)) bt121.1 bt123.1 true) else (if bt132.2 = 0 then (laws_FnSeq.j1 kj2 (wrap64 ((wrap64 (t117 * 65536)) + t118)) (wrap64 ((wrap64 (t119 * 65536)) + t120)) bt121.1 bt123.1 (!bt132.1)) else (laws_FnSeq.j1 kj2 (wrap64 ((wrap64 (t117 * 65536)) + t118)) (wrap64 ((wrap64 (t119 * 65536)) + t120)) bt121.1 bt123.1 true))) else (laws_FnSeq.j1 kj2 (wrap64 ((wrap64 (t117 * 65536)) + t118)) (wrap64 ((wrap64 (t119 * 65536)) + t120)) bt121.1 bt123.1 true))) else (laws_FnSeq.j1 kj2 (wrap64 ((wrap64 (t117 * 65536)) + t118)) (wrap64 ((wrap64 (t119 * 65536)) + t120)) bt121.1 bt123.1 true))) else (laws_FnSeq.j1 kj2 (wrap64 ((wrap64 (t117 * 65536)) + t118)) (wrap64 ((wrap64 (t119 * 65536)) + t120)) bt121.1 bt123.1 true)) else (laws_FnSeq.j1 kj2 (wrap64 ((wrap64 (t117 * 65536)) + t118)) (wrap64 ((wrap64 (t119 * 65536)) + t120)) bt121.1 bt123.1 true)))))))))) = some r := H
        have A8 := Aside0.mk A80
        clear A80
        replace H := Option.bind_eq_some_iff.mp H
        obtain ⟨t120, A90, H⟩ := H
        replace H : ((impl_SeqLess.f kj2 (wrap64 ((wrap64 (t117 * 65536)) + t118)) (wrap64 ((wrap64 (t119 * 65536)) + t120))).bind fun bt121 => ((impl_SeqLess.f kj2 (wrap64 ((wrap64 (t119 * 65536)) + t120)) (wrap64 ((wrap64 (t117 * 65536)) + t118))).bind fun bt123 => ((spec_SeqLess.f (wrap64 ((wrap64 (t117 * 65536)) + t118)) (wrap64 ((wrap64 (t119 * 65536)) + t120))).bind fun bt125 => ((laws_at.f l1 2 60000).bind fun t127 => ((impl_SeqLess.f kj2 (Go.bits .and .i64 (wrap64 ((wrap64 ((wrap64 (t117 * 65536)) + t118)) + (wrap64 (t127 * 70000)))) 4294967295) (Go.bits .and .i64 (wrap64 ((wrap64 ((wrap64 (t119 * 65536)) + t120)) + (wrap64 (t127 * 70000)))) 4294967295)).bind fun bt128 => ((impl_SeqLess.f kj2 (wrap64 ((wrap64 (t117 * 65536)) + t118)) (wrap64 ((wrap64 (t117 * 65536)) + t118))).bind fun bt130 => ((impl_SeqLess.f kj2 (wrap64 ((wrap64 (t117 * 65536)) + t118)) (Go.bits .and .i64 (wrap64 ((wrap64 ((wrap64 (t117 * 65536)) + t118)) + 1)) 4294967295)).bind fun bt132 => (if bt121.2 = 0 then (if bt123.2 = 0 then (if (bt121.1 != bt125.1) = true then (laws_FnSeq.j1 kj2 (wrap64 ((wrap64 (t117 * 65536)) + t118)) (wrap64 ((wrap64 (t119 * 65536)) + t120)) bt121.1 bt123.1 true) else (if bt128.2 = 0 then (if (bt128.1 != bt121.1) = true then (laws_FnSeq.j1 kj2 (wrap64 ((wrap64 (t117 * 65536)) + t118)) (wrap64 ((wrap64 (t119 * 65536)) + t120)) bt121.1 bt123.1 true) else (if bt130.2 = 0 then (if bt130.1 = true then (laws_FnSeq.j1 kj2 (wrap64 ((wrap64 (t117 * 65536)) + t118)) (wrap64 ((wrap64 (t119 * 65536)) + t120)) bt121.1 bt123.1 true) else (if bt132.2 = 0 then (laws_FnSeq.j1 kj2 (wrap64 ((wrap64 (t117 * 65536)) + t118)) (wrap64 ((wrap64 (t119 * 65536)) + t120)) bt121.1 bt123.1 (!bt132.1)) else (laws_FnSeq.j1 kj2 (wrap64 ((wrap64 (t117 * 65536)) + t118)) (wrap64 ((wrap64 (t119 * 65536)) + t120)) bt121.1 bt123.1 true))) else (laws_FnSeq.j1 kj2 (wrap64 ((wrap64 (t117 * 65536)) + t118)) (wrap64 ((wrap64 (t119 * 65536)) + t120)) bt121.1 bt123.1 true))) else (laws_FnSeq.j1 kj2 (wrap64 ((wrap64 (t117 * 65536)) + t118)) (wrap64 ((wrap64 (t119 * 65536)) + t120)) bt121.1 bt123.1 true))) else (laws_FnSeq.j1 kj2 (wrap64 ((wrap64 (t117 * 65536)) + t118)) (wrap64 ((wrap64 (t119 * 65536)) + t120)) bt121.1 bt123.1 true)) else (laws_FnSeq.j1 kj2 (wrap64 ((wrap64 (t117 * 65536)) + t118)) (wrap64 ((wrap64 (t119 * 65536)) + t120)) bt121.1 bt123.1 true))))))))) = some r := H
        have A9 := Aside0.mk A90
        clear A90
        replace H := Option.bind_eq_some_iff.mp H
        obtain ⟨⟨t121, t122⟩, A100, H⟩ := H
        replace H : ((impl_SeqLess.f kj2 (wrap64 ((wrap64 (t119 * 65536)) + t120)) (wrap64 ((wrap64 (t117 * 65536)) + t118))).bind fun bt123 => ((spec_SeqLess.f (wrap64 ((wrap64 (t117 * 65536)) + t118)) (wrap64 ((wrap64 (t119 * 65536)) + t120))).bind fun bt125 => ((laws_at.f l1 2 60000).bind fun t127 => ((impl_SeqLess.f kj2 (Go.bits .and .i64 (wrap64 ((wrap64 ((wrap64 (t117 * 65536)) + t118)) + (wrap64 (t127 * 70000)))) 4294967295) (Go.bits .and .i64 (wrap64 ((wrap64 ((wrap64 (t119 * 65536)) + t120)) + (wrap64 (t127 * 70000)))) 4294967295)).bind fun bt128 => ((impl_SeqLess.f kj2 (wrap64 ((wrap64 (t117 * 65536)) + t118)) (wrap64 ((wrap64 (t117 * 65536)) + t118))).bind fun bt130 => ((impl_SeqLess.f kj2 (wrap64 ((wrap64 (t117 * 65536)) + t118)) (Go.bits .and .i64 (wrap64 ((wrap64 ((wrap64 (t117 * 65536)) + t118)) + 1)) 4294967295)).bind fun bt132 => (if t122 = 0 then (if bt123.2 = 0 then (if (t121 != bt125.1) = true then (laws_FnSeq.j1 kj2 (wrap64 ((wrap64 (t117 * 65536)) + t118)) (wrap64 ((wrap64 (t119 * 65536)) + t120)) t121 bt123.1 true) else (if bt128.2 = 0 then (if (bt128.1 != t121) = true then (laws_FnSeq.j1 kj2 (wrap64 ((wrap64 (t117 * 65536)) + t118)) (wrap64 ((wrap64 (t119 * 65536)) + t120)) t121 bt123.1 true) else (if bt130.2 = 0 then (if bt130.1 = true then (laws_FnSeq.j1 kj2 (wrap64 ((wrap64 (t117 * 65536)) + t118)) (wrap64 ((wrap64 (t119 * 65536)) + t120)) t121 bt123.1 true) else (if bt132.2 = 0 then (laws_FnSeq.j1 kj2 (wrap64 ((wrap64 (t117 * 65536)) + t118)) (wrap64 ((wrap64 (t119 * 65536)) + t120)) t121 bt123.1 (!bt132.1)) else (laws_FnSeq.j1 kj2 (wrap64 ((wrap64 (t117 * 65536)) + t118)) (wrap64 ((wrap64 (t119 * 65536)) + t120)) t121 bt123.1 true))) else (laws_FnSeq.j1 kj2 (wrap64 ((wrap64 (t117 * 65536)) + t118)) (wrap64 ((wrap64 (t119 * 65536)) + t120)) t121 bt123.1 true))) else (laws_FnSeq.j1 kj2 (wrap64 ((wrap64 (t117 * 65536)) + t118)) (wrap64 ((wrap64 (t119 * 65536)) + t120)) t121 bt123.1 true))) else (laws_FnSeq.j1 kj2 (wrap64 ((wrap64 (t117 * 65536)) + t118)) (wrap64 ((wrap64 (t119 * 65536)) + t120)) t121 bt123.1 true)) else (laws_FnSeq.j1 kj2 (wrap64 ((wrap64 (t117 * 65536)) + t118)) (wrap64 ((wrap64 (t119 * 65536)) + t120)) t121 bt123.1 true)))))))) = some r := H
        have A10 := Aside0.mk A100
        clear A100
        replace H := Option.bind_eq_some_iff.mp H
        obtain ⟨⟨t123, t124⟩, A110, H⟩ := H
        replace H : ((spec_SeqLess.f (wrap64 ((wrap64 (t117 * 65536)) + t118)) (wrap64 ((wrap64 (t119 * 65536)) + t120))).bind fun bt125 => ((laws_at.f l1 2 60000).bind fun t127 => ((impl_SeqLess.f kj2 (Go.bits .and .i64 (wrap64 ((wrap64 ((wrap64 (t117 * 65536)) + t118)) + (wrap64 (t127 * 70000)))) 4294967295) (Go.bits .and .i64 (wrap64 ((wrap64 ((wrap64 (t119 * 65536)) + t120)) + (wrap64 (t127 * 70000)))) 4294967295)).bind fun bt128 => ((impl_SeqLess.f kj2 (wrap64 ((wrap64 (t117 * 65536)) + t118)) (wrap64 ((wrap64 (t117 * 65536)) + t118))).bind fun bt130 => ((impl_SeqLess.f kj2 (wrap64 ((wrap64 (t117 * 65536)) + t118)) (Go.bits .and .i64 (wrap64 ((wrap64 ((wrap64 (t117 * 65536)) + t118)) + 1)) 4294967295)).bind fun bt132 => (if t122 = 0 then (if t124 = 0 then (if (t121 != bt125.1) = true then (laws_FnSeq.j1 kj2 (wrap64 ((wrap64 (t117 * 65536)) + t118)) (wrap64 ((wrap64 (t119 * 65536)) + t120)) t121 t123 true) else (if bt128.2 = 0 then (if (bt128.1 != t121) = true then (laws_FnSeq.j1 kj2 (wrap64 ((wrap64 (t117 * 65536)) + t118)) (wrap64 ((wrap64 (t119 * 65536)) + t120)) t121 t123 true) else (if bt130.2 = 0 then (if bt130.1 = true then (laws_FnSeq.j1 kj2 (wrap64 ((wrap64 (t117 * 65536)) + t118)) (wrap64 ((wrap64 (t119 * 65536)) + t120)) t121 t123 true) else (if bt132.2 = 0 then (laws_FnSeq.j1 kj2 (wrap64 ((wrap64 (t117 * 65536)) + t118)) (wrap64 ((wrap64 (t119 * 65536)) + t120)) t121 t123 (!bt132.1)) else (laws_FnSeq.j1 kj2 (wrap64 ((wrap64 (t117 * 65536)) + t118)) (wrap64 ((wrap64 (t119 * 65536)) + t120)) t121 t123 true))) else (laws_FnSeq.j1 kj2 (wrap64 ((wrap64 (t117 * 65536)) + t118)) (wrap64 ((wrap64 (t119 * 65536)) + t120)) t121 t123 true))) else (laws_FnSeq.j1 kj2 (wrap64 ((wrap64 (t117 * 65536)) + t118)) (wrap64 ((wrap64 (t119 * 65536)) + t120)) t121 t123 true))) else (laws_FnSeq.j1 kj2 (wrap64 ((wrap64 (t117 * 65536)) + t118)) (wrap64 ((wrap64 (t119 * 65536)) + t120)) t121 t123 true)) else (laws_FnSeq.j1 kj2 (wrap64 ((wrap64 (t117 * 65536)) + t118)) (wrap64 ((wrap64 (t119 * 65536)) + t120)) t121 t123 true))))))) = some r := H
        have A11 := Aside0.mk A110
        clear A110
        replace H := Option.bind_eq_some_iff.mp H
        obtain ⟨⟨t125, t126⟩, A120, H⟩ := H
        replace H : ((laws_at.f l1 2 60000).bind fun t127 => ((impl_SeqLess.f kj2 (Go.bits .and .i64 (wrap64 ((wrap64 ((wrap64 (t117 * 65536)) + t118)) + (wrap64 (t127 * 70000)))) 4294967295) (Go.bits .and .i64 (wrap64 ((wrap64 ((wrap64 (t119 * 65536)) + t120)) + (wrap64 (t127 * 70000)))) 4294967295)).bind fun bt128 => ((impl_SeqLess.f kj2 (wrap64 ((wrap64 (t117 * 65536)) + t118)) (wrap64 ((wrap64 (t117 * 65536)) + t118))).bind fun bt130 => ((impl_SeqLess.f kj2 (wrap64 ((wrap64 (t117 * 65536)) + t118)) (Go.bits .and .i64 (wrap64 ((wrap64 ((wrap64 (t117 * 65536)) + t118)) + 1)) 4294967295)).bind fun bt132 => (if t122 = 0 then (if t124 = 0 then (if (t121 != t125) = true then (laws_FnSeq.j1 kj2 (wrap64 ((wrap64 (t117 * 65536)) + t118)) (wrap64 ((wrap64 (t119 * 65536)) + t120)) t121 t123 true) else (if bt128.2 = 0 then (if (bt128.1 != t121) = true then (laws_FnSeq.j1 kj2 (wrap64 ((wrap64 (t117 * 65536)) + t118)) (wrap64 ((wrap64 (t119 * 65536)) + t120)) t121 t123 true) else (if bt130.2 = 0 then (if bt130.1 = true then (laws_FnSeq.j1 kj2 (wrap64 ((wrap64 (t117 * 65536)) + t118)) (wrap64 ((wrap64 (t119 * 65536)) + t120)) t121 t123 true) else (if bt132.2 = 0 then (laws_FnSeq.j1 kj2 (wrap64 ((wrap64 (t117 * 65536)) + t118)) (wrap64 ((wrap64 (t119 * 65536)) + t120)) t121 t123 (!bt132.1)) else (laws_FnSeq.j1 kj2 (wrap64 ((wrap64 (t117 * 65536)) + t118)) (wrap64 ((wrap64 (t119 * 65536)) + t120)) t121 t123 true))) else (laws_FnSeq.j1 kj2 (wrap64 ((wrap64 (t117 * 65536)) + t118)) (wrap64 ((wrap64 (t119 * 65536)) + t120)) t121 t123 true))) else (laws_FnSeq.j1 kj2 (wrap64 ((wrap64 (t117 * 65536)) + t118)) (wrap64 ((wrap64 (t119 * 65536)) + t120)) t121 t123 true))) else (laws_FnSeq.j1 kj2 (wrap64 ((wrap64 (t117 * 65536)) + t118)) (wrap64 ((wrap64 (t119 * 65536)) + t120)) t121 t123 true)) else (laws_FnSeq.j1 kj2 (wrap64 ((wrap64 (t117 * 65536)) + t118)) (wrap64 ((wrap64 (t119 * 65536)) + t120)) t121 t123 true)))))) = some r := H
        have A12 := Aside0.mk A120
        clear A120
        replace H := Option.bind_eq_some_iff.mp H
        obtain ⟨t127, A130, H⟩ := H
        replace H : ((impl_SeqLess.f kj2 (Go.bits .and .i64 (wrap64 ((wrap64 ((wrap64 (t117 * 65536)) + t118)) + (wrap64 (t127 * 70000)))) 4294967295) (Go.bits .and .i64 (wrap64 ((wrap64 ((wrap64 (t119 * 65536)) + t120)) + (wrap64 (t127 * 70000)))) 4294967295)).bind fun bt128 => ((impl_SeqLess.f kj2 (wrap64 ((wrap64 (t117 * 65536)) + t118)) (wrap64 ((wrap64 (t117 * 65536)) + t118))).bind fun bt130 => ((impl_SeqLess.f kj2 (wrap64 ((wrap64 (t117 * 65536)) + t118)) (Go.bits .and .i64 (wrap64 ((wrap64 ((wrap64 (t117 * 65536)) + t118)) + 1)) 4294967295)).bind fun bt132 => (if t122 = 0 then (if t124 = 0 then (if (t121 != t125) = true then (laws_FnSeq.j1 kj2 (wrap64 ((wrap64 (t117 * 65536)) + t118)) (wrap64 ((wrap64 (t119 * 65536)) + t120)) t121 t123 true) else (if bt128.2 = 0 then (if (bt128.1 != t121) = true then (laws_FnSeq.j1 kj2 (wrap64 ((wrap64 (t117 * 65536)) + t118)) (wrap64 ((wrap64 (t119 * 65536)) + t120)) t121 t123 true) else (if bt130.2 = 0 then (if bt130.1 = true then (laws_FnSeq.j1 kj2 (wrap64 ((wrap64 (t117 * 65536)) + t118)) (wrap64 ((wrap64 (t119 * 65536)) + t120)) t121 t123 true) else (if bt132.2 = 0 then (laws_FnSeq.j1 kj2 (wrap64 ((wrap64 (t117 * 65536)) + t118)) (wrap64 ((wrap64 (t119 * 65536)) + t120)) t121 t123 (!bt132.1)) else (laws_FnSeq.j1 kj2 (wrap64 ((wrap64 (t117 * 65536)) + t118)) (wrap64 ((wrap64 (t119 * 65536)) + t120)) t121 t123 true))) else (laws_FnSeq.j1 kj2 (wrap64 ((wrap64 (t117 * 65536)) + t118)) (wrap64 ((wrap64 (t119 * 65536)) + t120)) t121 t123 true))) else (laws_FnSeq.j1 kj2 (wrap64 ((wrap64 (t117 * 65536)) + t118)) (wrap64 ((wrap64 (t119 * 65536)) + t120)) t121 t123 true))) else (laws_FnSeq.j1 kj2 (wrap64 ((wrap64 (t117 * 65536)) + t118)) (wrap64 ((wrap64 (t119 * 65536)) + t120)) t121 t123 true)) else (laws_FnSeq.j1 kj2 (wrap64 ((wrap64 (t117 * 65536)) + t118)) (wrap64 ((wrap64 (t119 * 65536)) + t120)) t121 t123 true))))) = some r := H
        have A13 := Aside0.mk A130
        clear A130
        replace H := Option.bind_eq_some_iff.mp H
        obtain ⟨⟨t128, t129⟩, A140, H⟩ := H
        replace H : ((impl_SeqLess.f kj2 (wrap64 ((wrap64 (t117 * 65536)) + t118)) (wrap64 ((wrap64 (t117 * 65536)) + t118))).bind fun bt130 => ((impl_SeqLess.f kj2 (wrap64 ((wrap64 (t117 * 65536)) + t118)) (Go.bits .and .i64 (wrap64 ((wrap64 ((wrap64 (t117 * 65536)) + t118)) + 1)) 4294967295)).bind fun bt132 => (if t122 = 0 then (if t124 = 0 then (if (t121 != t125) = true then (laws_FnSeq.j1 kj2 (wrap64 ((wrap64 (t117 * 65536)) + t118)) (wrap64 ((wrap64 (t119 * 65536)) + t120)) t121 t123 true) else (if t129 = 0 then (if (t128 != t121) = true then (laws_FnSeq.j1 kj2 (wrap64 ((wrap64 (t117 * 65536)) + t118)) (wrap64 ((wrap64 (t119 * 65536)) + t120)) t121 t123 true) else (if bt130.2 = 0 then (if bt130.1 = true then (laws_FnSeq.j1 kj2 (wrap64 ((wrap64 (t117 * 65536)) + t118)) (wrap64 ((wrap64 (t119 * 65536)) + t120)) t121 t123 true) else (if bt132.2 = 0 then (laws_FnSeq.j1 kj2 (wrap64 ((wrap64 (t117 * 65536)) + t118)) (wrap64 ((wrap64 (t119 * 65536)) + t120)) t121 t123 (!bt132.1)) else (laws_FnSeq.j1 kj2 (wrap64 ((wrap64 (t117 * 65536)) + t118)) (wrap64 ((wrap64 (t119 * 65536)) + t120)) t121 t123 true))) else (laws_FnSeq.j1 kj2 (wrap64 ((wrap64 (t117 * 65536)) + t118)) (wrap64 ((wrap64 (t119 * 65536)) + t120)) t121 t123 true))) else (laws_FnSeq.j1 kj2 (wrap64 ((wrap64 (t117 * 65536)) + t118)) (wrap64 ((wrap64 (t119 * 65536)) + t120)) t121 t123 true))) else (laws_FnSeq.j1 kj2 (wrap64 ((wrap64 (t117 * 65536)) + t118)) (wrap64 ((wrap64 (t119 * 65536)) + t120)) t121 t123 true)) else (laws_FnSeq.j1 kj2 (wrap64 ((wrap64 (t117 * 65536)) + t118)) (wrap64 ((wrap64 (t119 * 65536)) + t120)) t121 t123 true)))) = some r := H
        have A14 := Aside0.mk A140
        clear A140
        replace H := Option.bind_eq_some_iff.mp H
        obtain ⟨⟨t130, t131⟩, A150, H⟩ := H
        replace H : ((impl_SeqLess.f kj2 (wrap64 ((wrap64 (t117 * 65536)) + t118)) (Go.bits .and .i64 (wrap64 ((wrap64 ((wrap64 (t117 * 65536)) + t118)) + 1)) 4294967295)).bind fun bt132 => (if t122 = 0 then (if t124 = 0 then (if (t121 != t125) = true then (laws_FnSeq.j1 kj2 (wrap64 ((wrap64 (t117 * 65536)) + t118)) (wrap64 ((wrap64 (t119 * 65536)) + t120)) t121 t123 true) else (if t129 = 0 then (if (t128 != t121) = true then (laws_FnSeq.j1 kj2 (wrap64 ((wrap64 (t117 * 65536)) + t118)) (wrap64 ((wrap64 (t119 * 65536)) + t120)) t121 t123 true) else (if t131 = 0 then (if t130 = true then (laws_FnSeq.j1 kj2 (wrap64 ((wrap64 (t117 * 65536)) + t118)) (wrap64 ((wrap64 (t119 * 65536)) + t120)) t121 t123 true) else (if bt132.2 = 0 then (laws_FnSeq.j1 kj2 (wrap64 ((wrap64 (t117 * 65536)) + t118)) (wrap64 ((wrap64 (t119 * 65536)) + t120)) t121 t123 (!bt132.1)) else (laws_FnSeq.j1 kj2 (wrap64 ((wrap64 (t117 * 65536)) + t118)) (wrap64 ((wrap64 (t119 * 65536)) + t120)) t121 t123 true))) else (laws_FnSeq.j1 kj2 (wrap64 ((wrap64 (t117 * 65536)) + t118)) (wrap64 ((wrap64 (t119 * 65536)) + t120)) t121 t123 true))) else (laws_FnSeq.j1 kj2 (wrap64 ((wrap64 (t117 * 65536)) + t118)) (wrap64 ((wrap64 (t119 * 65536)) + t120)) t121 t123 true))) else (laws_FnSeq.j1 kj2 (wrap64 ((wrap64 (t117 * 65536)) + t118)) (wrap64 ((wrap64 (t119 * 65536)) + t120)) t121 t123 true)) else (laws_FnSeq.j1 kj2 (wrap64 ((wrap64 (t117 * 65536)) + t118)) (wrap64 ((wrap64 (t119 * 65536)) + t120)) t121 t123 true))) = some r := H
        have A15 := Aside0.mk A150
        clear A150
        replace H := Option.bind_eq_some_iff.mp H
        obtain ⟨⟨t132, t133⟩, A160, H⟩ := H
        replace H : (if t122 = 0 then (if t124 = 0 then (if (t121 != t125) = true then (laws_FnSeq.j1 kj2 (wrap64 ((wrap64 (t117 * 65536)) + t118)) (wrap64 ((wrap64 (t119 * 65536)) + t120)) t121 t123 true) else (if t129 = 0 then (if (t128 != t121) = true then (laws_FnSeq.j1 kj2 (wrap64 ((wrap64 (t117 * 65536)) + t118)) (wrap64 ((wrap64 (t119 * 65536)) + t120)) t121 t123 true) else (if t131 = 0 then (if t130 = true then (laws_FnSeq.j1 kj2 (wrap64 ((wrap64 (t117 * 65536)) + t118)) (wrap64 ((wrap64 (t119 * 65536)) + t120)) t121 t123 true) else (if t133 = 0 then (laws_FnSeq.j1 kj2 (wrap64 ((wrap64 (t117 * 65536)) + t118)) (wrap64 ((wrap64 (t119 * 65536)) + t120)) t121 t123 (!t132)) else (laws_FnSeq.j1 kj2 (wrap64 ((wrap64 (t117 * 65536)) + t118)) (wrap64 ((wrap64 (t119 * 65536)) + t120)) t121 t123 true))) else (laws_FnSeq.j1 kj2 (wrap64 ((wrap64 (t117 * 65536)) + t118)) (wrap64 ((wrap64 (t119 * 65536)) + t120)) t121 t123 true))) else (laws_FnSeq.j1 kj2 (wrap64 ((wrap64 (t117 * 65536)) + t118)) (wrap64 ((wrap64 (t119 * 65536)) + t120)) t121 t123 true))) else (laws_FnSeq.j1 kj2 (wrap64 ((wrap64 (t117 * 65536)) + t118)) (wrap64 ((wrap64 (t119 * 65536)) + t120)) t121 t123 true)) else (laws_FnSeq.j1 kj2 (wrap64 ((wrap64 (t117 * 65536)) + t118)) (wrap64 ((wrap64 (t119 * 65536)) + t120)) t121 t123 true)) = some r := H
        have A16 := Aside0.mk A160
        clear A160
        have HC17 := Aside0.mk H
        clear H
        go_upto_region 12 with (first | ((with_reducible refine gate_callee (f := 19) rfl ?_); refine goesL_ (some 29) rfl rfl Try.func19 (by kernel_rfl) rfl #[.slice A0 l0.length c0, .int .i64 0, .int .i64 60000] rfl (by (try simp only [List.map_toArray, List.map_cons, List.map_nil]); first | done | rfl | (simp only [List.length_drop, List.length_take]; rfl)) ?_; (with_reducible refine (laws_at.calls _ _ l0 0 60000 t117 _ ?side1 ?side2 A6.out).mono ?_); (case side1 => repeat (first | exact HR0.out | (with_reducible refine Kd.C_alloc ?_ _) | (with_reducible refine Kd.C_drewN ?_ _) | (with_reducible refine Kd.C_drew ?_))); (case side2 => exact HC0.out); rintro e w' ⟨rfl, ⟨nd, rfl⟩⟩; refine ⟨_, rfl, ?_⟩) | ((with_reducible refine gate_callee (f := 19) rfl ?_); refine goesL_ (some 32) rfl rfl Try.func19 (by kernel_rfl) rfl #[.slice A0 l0.length c0, .int .i64 1, .int .i64 60000] rfl (by (try simp only [List.map_toArray, List.map_cons, List.map_nil]); first | done | rfl | (simp only [List.length_drop, List.length_take]; rfl)) ?_; (with_reducible refine (laws_at.calls _ _ l0 1 60000 t118 _ ?side1 ?side2 A7.out).mono ?_); (case side1 => repeat (first | exact HR0.out | (with_reducible refine Kd.C_alloc ?_ _) | (with_reducible refine Kd.C_drewN ?_ _) | (with_reducible refine Kd.C_drew ?_))); (case side2 => exact HC0.out); rintro e w' ⟨rfl, ⟨nd, rfl⟩⟩; refine ⟨_, rfl, ?_⟩) | ((with_reducible refine gate_callee (f := 19) rfl ?_); refine goesL_ (some 35) rfl rfl Try.func19 (by kernel_rfl) rfl #[.slice A1 l1.length c1, .int .i64 0, .int .i64 60000] rfl (by (try simp only [List.map_toArray, List.map_cons, List.map_nil]); first | done | rfl | (simp only [List.length_drop, List.length_take]; rfl)) ?_; (with_reducible refine (laws_at.calls _ _ l1 0 60000 t119 _ ?side1 ?side2 A8.out).mono ?_); (case side1 => repeat (first | exact HR1.out | (with_reducible refine Kd.C_alloc ?_ _) | (with_reducible refine Kd.C_drewN ?_ _) | (with_reducible refine Kd.C_drew ?_))); (case side2 => exact HC1.out); rintro e w' ⟨rfl, ⟨nd, rfl⟩⟩; refine ⟨_, rfl, ?_⟩) | ((with_reducible refine gate_callee (f := 19) rfl ?_); refine goesL_ (some 38) rfl rfl Try.func19 (by kernel_rfl) rfl #[.slice A1 l1.length c1, .int .i64 1, .int .i64 60000] rfl (by (try simp only [List.map_toArray, List.map_cons, List.map_nil]); first | done | rfl | (simp only [List.length_drop, List.length_take]; rfl)) ?_; (with_reducible refine (laws_at.calls _ _ l1 1 60000 t120 _ ?side1 ?side2 A9.out).mono ?_); (case side1 => repeat (first | exact HR1.out | (with_reducible refine Kd.C_alloc ?_ _) | (with_reducible refine Kd.C_drewN ?_ _) | (with_reducible refine Kd.C_drew ?_))); (case side2 => exact HC1.out); rintro e w' ⟨rfl, ⟨nd, rfl⟩⟩; refine ⟨_, rfl, ?_⟩) | ((with_reducible refine gate_callee (f := 18) rfl ?_); refine goesL_ (some 43) rfl rfl Try.func18 (by kernel_rfl) rfl #[.int .i64 (wrap64 ((wrap64 (t117 * 65536)) + t118)), .int .i64 (wrap64 ((wrap64 (t119 * 65536)) + t120))] rfl (by (try simp only [List.map_toArray, List.map_cons, List.map_nil]); first | done | rfl | (simp only [List.length_drop, List.length_take]; rfl)) ?_; (with_reducible refine (impl_SeqLess.calls kj2 (wrap64 ((wrap64 (t117 * 65536)) + t118)) (wrap64 ((wrap64 (t119 * 65536)) + t120)) t121 t122 _ A10.out).mono ?_); rintro e w' ⟨rfl, ⟨nd, rfl⟩⟩; refine ⟨_, rfl, ?_⟩) | ((with_reducible refine gate_callee (f := 18) rfl ?_); refine goesL_ (some 49) rfl rfl Try.func18 (by kernel_rfl) rfl #[.int .i64 (wrap64 ((wrap64 (t119 * 65536)) + t120)), .int .i64 (wrap64 ((wrap64 (t117 * 65536)) + t118))] rfl (by (try simp only [List.map_toArray, List.map_cons, List.map_nil]); first | done | rfl | (simp only [List.length_drop, List.length_take]; rfl)) ?_; (with_reducible refine (impl_SeqLess.calls kj2 (wrap64 ((wrap64 (t119 * 65536)) + t120)) (wrap64 ((wrap64 (t117 * 65536)) + t118)) t123 t124 _ A11.out).mono ?_); rintro e w' ⟨rfl, ⟨nd, rfl⟩⟩; refine ⟨_, rfl, ?_⟩) | ((with_reducible refine gate_callee (f := 17) rfl ?_); refine goesL_ (some 55) rfl rfl Try.func17 (by kernel_rfl) rfl #[.int .i64 (wrap64 ((wrap64 (t117 * 65536)) + t118)), .int .i64 (wrap64 ((wrap64 (t119 * 65536)) + t120))] rfl (by (try simp only [List.map_toArray, List.map_cons, List.map_nil]); first | done | rfl | (simp only [List.length_drop, List.length_take]; rfl)) ?_; (with_reducible refine (spec_SeqLess.calls (wrap64 ((wrap64 (t117 * 65536)) + t118)) (wrap64 ((wrap64 (t119 * 65536)) + t120)) t125 t126 _ A12.out).mono ?_); rintro e w' ⟨rfl, ⟨nd, rfl⟩⟩; refine ⟨_, rfl, ?_⟩) | ((with_reducible refine gate_callee (f := 19) rfl ?_); refine goesL_ (some 59) rfl rfl Try.func19 (by kernel_rfl) rfl #[.slice A1 l1.length c1, .int .i64 2, .int .i64 60000] rfl (by (try simp only [List.map_toArray, List.map_cons, List.map_nil]); first | done | rfl | (simp only [List.length_drop, List.length_take]; rfl)) ?_; (with_reducible refine (laws_at.calls _ _ l1 2 60000 t127 _ ?side1 ?side2 A13.out).mono ?_); (case side1 => repeat (first | exact HR1.out | (with_reducible refine Kd.C_alloc ?_ _) | (with_reducible refine Kd.C_drewN ?_ _) | (with_reducible refine Kd.C_drew ?_))); (case side2 => exact HC1.out); rintro e w' ⟨rfl, ⟨nd, rfl⟩⟩; refine ⟨_, rfl, ?_⟩) | ((with_reducible refine gate_callee (f := 18) rfl ?_); refine goesL_ (some 70) rfl rfl Try.func18 (by kernel_rfl) rfl #[.int .i64 (Go.bits .and .i64 (wrap64 ((wrap64 ((wrap64 (t117 * 65536)) + t118)) + (wrap64 (t127 * 70000)))) 4294967295), .int .i64 (Go.bits .and .i64 (wrap64 ((wrap64 ((wrap64 (t119 * 65536)) + t120)) + (wrap64 (t127 * 70000)))) 4294967295)] rfl (by (try simp only [List.map_toArray, List.map_cons, List.map_nil]); first | done | rfl | (simp only [List.length_drop, List.length_take]; rfl)) ?_; (with_reducible refine (impl_SeqLess.calls kj2 (Go.bits .and .i64 (wrap64 ((wrap64 ((wrap64 (t117 * 65536)) + t118)) + (wrap64 (t127 * 70000)))) 4294967295) (Go.bits .and .i64 (wrap64 ((wrap64 ((wrap64 (t119 * 65536)) + t120)) + (wrap64 (t127 * 70000)))) 4294967295) t128 t129 _ A14.out).mono ?_); rintro e w' ⟨rfl, ⟨nd, rfl⟩⟩; refine ⟨_, rfl, ?_⟩) | ((with_reducible refine gate_callee (f := 18) rfl ?_); refine goesL_ (some 76) rfl rfl Try.func18 (by kernel_rfl) rfl #[.int .i64 (wrap64 ((wrap64 (t117 * 65536)) + t118)), .int .i64 (wrap64 ((wrap64 (t117 * 65536)) + t118))] rfl (by (try simp only [List.map_toArray, List.map_cons, List.map_nil]); first | done | rfl | (simp only [List.length_drop, List.length_take]; rfl)) ?_; (with_reducible refine (impl_SeqLess.calls kj2 (wrap64 ((wrap64 (t117 * 65536)) + t118)) (wrap64 ((wrap64 (t117 * 65536)) + t118)) t130 t131 _ A15.out).mono ?_); rintro e w' ⟨rfl, ⟨nd, rfl⟩⟩; refine ⟨_, rfl, ?_⟩) | ((with_reducible refine gate_callee (f := 18) rfl ?_); refine goesL_ (some 84) rfl rfl Try.func18 (by kernel_rfl) rfl #[.int .i64 (wrap64 ((wrap64 (t117 * 65536)) + t118)), .int .i64 (Go.bits .and .i64 (wrap64 ((wrap64 ((wrap64 (t117 * 65536)) + t118)) + 1)) 4294967295)] rfl (by (try simp only [List.map_toArray, List.map_cons, List.map_nil]); first | done | rfl | (simp only [List.length_drop, List.length_take]; rfl)) ?_; (with_reducible refine (impl_SeqLess.calls kj2 (wrap64 ((wrap64 (t117 * 65536)) + t118)) (Go.bits .and .i64 (wrap64 ((wrap64 ((wrap64 (t117 * 65536)) + t118)) + 1)) 4294967295) t132 t133 _ A16.out).mono ?_); rintro e w' ⟨rfl, ⟨nd, rfl⟩⟩; refine ⟨_, rfl, ?_⟩))
        (try simp only [Act.put, List.setIfInBounds_toArray, List.set_cons_zero, List.set_cons_succ])
        go_cut [121] (fun v121 wc => ∃ (kq : Nat) (x121_16 : Bool), v121 = .bool x121_16 ∧ Aside0 (laws_FnSeq.j1 kq (wrap64 ((wrap64 (t117 * 65536)) + t118)) (wrap64 ((wrap64 (t119 * 65536)) + t120)) t121 t123 x121_16 = some r) ∧ Aside0 (kq ≤ kj2) ∧ Drawn0 w wc)
        case first =>
          have H := HC17.out
          clear HC17
          by_cases c18 : t122 = 0
          · rw [if_pos c18] at H
            have c18b0 : (t122 == 0) = true := beq_iff_eq.mpr c18
            have c18b1 : (t122 != 0) = false := bne_eq_false_iff_eq.mpr c18
            clear c18
            (first | rw [c18b0] | (simp only [i64_w, i32_w]; rw [c18b0]) | skip)
            by_cases c19 : t124 = 0
            · rw [if_pos c19] at H
              have c19b0 : (t124 == 0) = true := beq_iff_eq.mpr c19
              have c19b1 : (t124 != 0) = false := bne_eq_false_iff_eq.mpr c19
              clear c19
              by_cases c20 : (t121 != t125) = true
              · rw [if_pos c20] at H
                have c20b0 : (t121 != t125) = true := c20
                (try (have c20b1 : decide (t121 = t125) = false := by simpa using c20))
                (try (have c20b2 : (t121 == t125) = false := by simpa using c20))
                (try (have c20b3 : ¬ (t121 = t125) := by simpa using c20))
                clear c20
                have H' := Aside0.mk H
                clear H
                go_wp2
                go_meet
                case rel => exact ⟨_, (true), (by first | rfl | (simp; done) | (simp [*]; done)), H', ⟨by have := HJ2.out; first | omega | exact Nat.le_refl _⟩, by repeat (first | exact Drawn0.refl _ | apply Drawn0.step)⟩
              · rw [if_neg c20] at H
                have c20b0 : (t121 != t125) = false := by simpa using c20
                (try (have c20b1 : decide (t121 = t125) = true := by simpa using c20))
                (try (have c20b2 : (t121 == t125) = true := by simpa using c20))
                clear c20
                by_cases c21 : t129 = 0
                · rw [if_pos c21] at H
                  have c21b0 : (t129 == 0) = true := beq_iff_eq.mpr c21
                  have c21b1 : (t129 != 0) = false := bne_eq_false_iff_eq.mpr c21
                  clear c21
                  by_cases c22 : (t128 != t121) = true
                  · rw [if_pos c22] at H
                    have c22b0 : (t128 != t121) = true := c22
                    (try (have c22b1 : decide (t128 = t121) = false := by simpa using c22))
                    (try (have c22b2 : (t128 == t121) = false := by simpa using c22))
                    (try (have c22b3 : ¬ (t128 = t121) := by simpa using c22))
                    clear c22
                    have H' := Aside0.mk H
                    clear H
                    go_wp2
                    go_meet
                    case rel => exact ⟨_, (true), (by first | rfl | (simp; done) | (simp [*]; done)), H', ⟨by have := HJ2.out; first | omega | exact Nat.le_refl _⟩, by repeat (first | exact Drawn0.refl _ | apply Drawn0.step)⟩
                  · rw [if_neg c22] at H
                    have c22b0 : (t128 != t121) = false := by simpa using c22
                    (try (have c22b1 : decide (t128 = t121) = true := by simpa using c22))
                    (try (have c22b2 : (t128 == t121) = true := by simpa using c22))
                    clear c22
                    by_cases c23 : t131 = 0
                    · rw [if_pos c23] at H
                      have c23b0 : (t131 == 0) = true := beq_iff_eq.mpr c23
                      have c23b1 : (t131 != 0) = false := bne_eq_false_iff_eq.mpr c23
                      clear c23
                      by_cases c24 : t130 = true
                      · subst c24
                        have H1 : (laws_FnSeq.j1 kj2 (wrap64 ((wrap64 (t117 * 65536)) + t118)) (wrap64 ((wrap64 (t119 * 65536)) + t120)) t121 t123 true) = some r := by rw [if_pos rfl] at H; exact H
                        clear H
                        have H := H1
                        clear H1
                        have H' := Aside0.mk H
                        clear H
                        go_wp2
                        go_meet
                        case rel => exact ⟨_, (true), (by first | rfl | (simp; done) | (simp [*]; done)), H', ⟨by have := HJ2.out; first | omega | exact Nat.le_refl _⟩, by repeat (first | exact Drawn0.refl _ | apply Drawn0.step)⟩
                      · replace c24 := Bool.eq_false_iff.mpr c24
                        subst c24
                        have H1 : (if t133 = 0 then (laws_FnSeq.j1 kj2 (wrap64 ((wrap64 (t117 * 65536)) + t118)) (wrap64 ((wrap64 (t119 * 65536)) + t120)) t121 t123 (!t132)) else (laws_FnSeq.j1 kj2 (wrap64 ((wrap64 (t117 * 65536)) + t118)) (wrap64 ((wrap64 (t119 * 65536)) + t120)) t121 t123 true)) = some r := by rw [if_neg (show ¬ (false = true) by decide)] at H; exact H
                        clear H
                        have H := H1
                        clear H1
                        by_cases c25 : t133 = 0
                        · rw [if_pos c25] at H
                          have c25b0 : (t133 == 0) = true := beq_iff_eq.mpr c25
                          have c25b1 : (t133 != 0) = false := bne_eq_false_iff_eq.mpr c25
                          clear c25
                          have H' := Aside0.mk H
                          clear H
                          go_wp2
                          go_meet
                          case rel => exact ⟨_, (!t132), (by first | rfl | (simp; done) | (simp [*]; done)), H', ⟨by have := HJ2.out; first | omega | exact Nat.le_refl _⟩, by repeat (first | exact Drawn0.refl _ | apply Drawn0.step)⟩
                        · rw [if_neg c25] at H
                          have c25b0 : (t133 == 0) = false := beq_eq_false_iff_ne.mpr c25
                          have c25b1 : (t133 != 0) = true := bne_iff_ne.mpr c25
                          have H' := Aside0.mk H
                          clear H
                          go_wp2
                          go_meet
                          case rel => exact ⟨_, (true), (by first | rfl | (simp; done) | (simp [*]; done)), H', ⟨by have := HJ2.out; first | omega | exact Nat.le_refl _⟩, by repeat (first | exact Drawn0.refl _ | apply Drawn0.step)⟩
                    · rw [if_neg c23] at H
                      have c23b0 : (t131 == 0) = false := beq_eq_false_iff_ne.mpr c23
                      have c23b1 : (t131 != 0) = true := bne_iff_ne.mpr c23
                      have H' := Aside0.mk H
                      clear H
                      go_wp2
                      go_meet
                      case rel => exact ⟨_, (true), (by first | rfl | (simp; done) | (simp [*]; done)), H', ⟨by have := HJ2.out; first | omega | exact Nat.le_refl _⟩, by repeat (first | exact Drawn0.refl _ | apply Drawn0.step)⟩
                · rw [if_neg c21] at H
                  have c21b0 : (t129 == 0) = false := beq_eq_false_iff_ne.mpr c21
                  have c21b1 : (t129 != 0) = true := bne_iff_ne.mpr c21
                  have H' := Aside0.mk H
                  clear H
                  go_wp2
                  go_meet
                  case rel => exact ⟨_, (true), (by first | rfl | (simp; done) | (simp [*]; done)), H', ⟨by have := HJ2.out; first | omega | exact Nat.le_refl _⟩, by repeat (first | exact Drawn0.refl _ | apply Drawn0.step)⟩
            · rw [if_neg c19] at H
              have c19b0 : (t124 == 0) = false := beq_eq_false_iff_ne.mpr c19
              have c19b1 : (t124 != 0) = true := bne_iff_ne.mpr c19
              have H' := Aside0.mk H
              clear H
              go_wp2
              go_meet
              case rel => exact ⟨_, (true), (by first | rfl | (simp; done) | (simp [*]; done)), H', ⟨by have := HJ2.out; first | omega | exact Nat.le_refl _⟩, by repeat (first | exact Drawn0.refl _ | apply Drawn0.step)⟩
          · rw [if_neg c18] at H
            have c18b0 : (t122 == 0) = false := beq_eq_false_iff_ne.mpr c18
            have c18b1 : (t122 != 0) = true := bne_iff_ne.mpr c18
            (first | rw [c18b0] | (simp only [i64_w, i32_w]; rw [c18b0]) | skip)
            have H' := Aside0.mk H
            clear H
            go_wp2
            go_meet
            case rel => exact ⟨_, (true), (by first | rfl | (simp; done) | (simp [*]; done)), H', ⟨by have := HJ2.out; first | omega | exact Nat.le_refl _⟩, by repeat (first | exact Drawn0.refl _ | apply Drawn0.step)⟩
        case rest =>
          clear HC17
          try clear c1
          try clear c2
          try clear p2
          try clear c4
          try clear c4b0
          try clear c4b1
          try clear c5
          try clear p6
          try clear c17
          try clear c18
          try clear c18b0
          try clear c18b1
          try clear c19
          try clear c19b0
          try clear c19b1
          try clear c20
          try clear c20b0
          try clear c20b1
          try clear c20b2
          try clear c21
          try clear c21b0
          try clear c21b1
          try clear c22
          try clear c22b0
          try clear c22b1
          try clear c22b2
          try clear c23
          try clear c23b0
          try clear c23b1
          try clear c24
          try clear c25
          try clear c25b0
          try clear c25b1
          try clear p2
          obtain ⟨kq, x121_16, rfl, HA, HJ16, ⟨mc16, rfl⟩⟩ := hcut
          cases kq with
          | zero => exact absurd HA.out (by simp [laws_FnSeq.j1])
          | succ kj16 =>
            have H := HA.out
            clear HA
            simp only [laws_FnSeq.j1] at H
            by_cases c26 : x121_16 = true
            · subst c26
              have H1 : (some false) = some r := by rw [if_pos rfl] at H; exact H
              clear H
              have H := H1
              clear H1
              obtain rfl := Option.some.inj H
              go_wp2
              go_ret
              exact ⟨by first | rfl | (simp; done) | (simp [*]; done), by repeat (first | exact Drawn0.refl _ | apply Drawn0.step)⟩
            · replace c26 := Bool.eq_false_iff.mpr c26
              subst c26
              have H1 : (if (wrap64 ((wrap64 (t117 * 65536)) + t118)) = (wrap64 ((wrap64 (t119 * 65536)) + t120)) then (if t121 = true then (some false) else (some (!t123))) else (if (t121 != t123) = true then (some true) else (some ((Go.bits .and .i64 (wrap64 ((wrap64 ((wrap64 (t117 * 65536)) + t118)) - (wrap64 ((wrap64 (t119 * 65536)) + t120)))) 4294967295) == 2147483648)))) = some r := by rw [if_neg (show ¬ (false = true) by decide)] at H; exact H
              clear H
              have H := H1
              clear H1
              by_cases c27 : (wrap64 ((wrap64 (t117 * 65536)) + t118)) = (wrap64 ((wrap64 (t119 * 65536)) + t120))
              · rw [if_pos c27] at H
                have c27b0 : ((wrap64 ((wrap64 (t117 * 65536)) + t118)) == (wrap64 ((wrap64 (t119 * 65536)) + t120))) = true := beq_iff_eq.mpr c27
                have c27b1 : ((wrap64 ((wrap64 (t117 * 65536)) + t118)) != (wrap64 ((wrap64 (t119 * 65536)) + t120))) = false := bne_eq_false_iff_eq.mpr c27
                clear c27
                by_cases c28 : t121 = true
                · subst c28
                  have H1 : (some false) = some r := by rw [if_pos rfl] at H; exact H
                  clear H
                  have H := H1
                  clear H1
                  obtain rfl := Option.some.inj H
                  go_wp2
                  go_ret
                  exact ⟨by first | rfl | (simp; done) | (simp [*]; done), by repeat (first | exact Drawn0.refl _ | apply Drawn0.step)⟩
                · replace c28 := Bool.eq_false_iff.mpr c28
                  subst c28
                  have H1 : (some (!t123)) = some r := by rw [if_neg (show ¬ (false = true) by decide)] at H; exact H
                  clear H
                  have H := H1
                  clear H1
                  obtain rfl := Option.some.inj H
                  go_wp2
                  go_ret
                  exact ⟨by first | rfl | (simp; done) | (simp [*]; done), by repeat (first | exact Drawn0.refl _ | apply Drawn0.step)⟩
              · rw [if_neg c27] at H
                have c27b0 : ((wrap64 ((wrap64 (t117 * 65536)) + t118)) == (wrap64 ((wrap64 (t119 * 65536)) + t120))) = false := beq_eq_false_iff_ne.mpr c27
                have c27b1 : ((wrap64 ((wrap64 (t117 * 65536)) + t118)) != (wrap64 ((wrap64 (t119 * 65536)) + t120))) = true := bne_iff_ne.mpr c27
                by_cases c29 : (t121 != t123) = true
                · rw [if_pos c29] at H
                  have c29b0 : (t121 != t123) = true := c29
                  (try (have c29b1 : decide (t121 = t123) = false := by simpa using c29))
                  (try (have c29b2 : (t121 == t123) = false := by simpa using c29))
                  (try (have c29b3 : ¬ (t121 = t123) := by simpa using c29))
                  clear c29
                  obtain rfl := Option.some.inj H
                  go_wp2
                  go_ret
                  exact ⟨by first | rfl | (simp; done) | (simp [*]; done), by repeat (first | exact Drawn0.refl _ | apply Drawn0.step)⟩
                · rw [if_neg c29] at H
                  have c29b0 : (t121 != t123) = false := by simpa using c29
                  (try (have c29b1 : decide (t121 = t123) = true := by simpa using c29))
                  (try (have c29b2 : (t121 == t123) = true := by simpa using c29))
                  clear c29
                  obtain rfl := Option.some.inj H
                  go_wp2
                  go_ret
                  exact ⟨by first | rfl | (simp; done) | (simp [*]; done), by repeat (first | exact Drawn0.refl _ | apply Drawn0.step)⟩

/-- THE ONE PURE STATEMENT of laws_FnSeq: yours. -/
def laws_FnSeq.Pure : Prop := ∀ (l0 : List Int) (l1 : List Int), l0.length ≤ maxLen → l0.length * 1 ≤ 140737488351232 → (∀ x ∈ l0, (Lit.int .u8 x).wf = true) → l1.length ≤ maxLen → l1.length * 1 ≤ 140737488351232 → (∀ x ∈ l1, (Lit.int .u8 x).wf = true) → ∃ k, laws_FnSeq.f k l0 l1 = some true
theorem laws_FnSeq.walk (P : laws_FnSeq.Pure) (a0 : Option Addr) (len0 cap0 : Nat) (z0 : List Int) (a1 : Option Addr) (len1 cap1 : Nat) (z1 : List Int) (w : World) (w0 : (a0 = none ∧ len0 = 0 ∧ cap0 = 0 ∧ z0 = []) ∨ ∃ x, a0 = some x ∧ len0 ≤ cap0 ∧ cap0 ≤ maxLen ∧ z0.length = cap0 ∧ (∀ i, i < z0.length → w.cell? (x.add i) = some (.int .u8 (z0.getD i 0))) ∧ ∀ n ∈ z0, (Lit.int .u8 n).wf = true) (y0 : len0 * 1 ≤ 140737488351232) (w1 : (a1 = none ∧ len1 = 0 ∧ cap1 = 0 ∧ z1 = []) ∨ ∃ x, a1 = some x ∧ len1 ≤ cap1 ∧ cap1 ≤ maxLen ∧ z1.length = cap1 ∧ (∀ i, i < z1.length → w.cell? (x.add i) = some (.int .u8 (z1.getD i 0))) ∧ ∀ n ∈ z1, (Lit.int .u8 n).wf = true) (y1 : len1 * 1 ≤ 140737488351232) :
    Calls Try.prog 4 #[.slice a0 len0 cap0, .slice a1 len1 cap1] w fun e w' => e = .returned (.bool true) ∧ Below w.heap.size w w' := by
  obtain ⟨l0, rfl, hr0, hm0, hw0, hc0⟩ := ReadsInt.ofRowC w0
  obtain ⟨l1, rfl, hr1, hm1, hw1, hc1⟩ := ReadsInt.ofRowC w1
  obtain ⟨k, h⟩ := P l0 l1 hm0 y0 hw0 hm1 y1 hw1
  refine (laws_FnSeq.calls k _ _ l0 _ _ l1 true w (Kd.C_of_reads (d := (0 : Int)) (h1 := fun _ => rfl) hr0) hc0 (Kd.C_of_reads (d := (0 : Int)) (h1 := fun _ => rfl) hr1) hc1 h).mono ?_
  rintro e w' ⟨rfl, hd⟩
  exact ⟨rfl, hd.below⟩
end
section
-- IMPORT Derived.SizedLaws
-- IMPORT Derived.ProofKit
-- IMPORT Derived.WalkKit
-- IMPORT Derived.OpenShut
-- IMPORT Derived.ShutString
-- IMPORT Derived.ChangeOld
-- IMPORT Derived.Below
-- IMPORT Derived.Deep.Slices
open Go.ChangeShapes Go.WideShapes Go.ChangeAt Go.Deep
/-- What reads as data of type t is a value of the kind d, and meets wf. -/
structure Opens (P : Program) (t : TypeId) {α : Type} (d : Kd α) (wf : α → Prop) : Prop where
  sz : P.cellsOf t = d.sz
  op : ∀ {H : Type} {enc : TypeId × Value → H} {w : World} {fuel : Nat} {cs : List Value} {y : DataW H × List MemPlace}, DataW.trod enc P w 0 (fun _ => true) true fuel t cs = some y → (∀ n ∈ y.1.weights P t, n ≤ reachBytes) → ∃ x, d.K w x cs ∧ wf x
theorem Opens.int {P : Program} {t : TypeId} {k : IntKind} (hu : P.underlying t = some (.int k)) (hc : P.cellsOf t = 1) : Opens P t (Kd.int k) (fun n => (Lit.int k n).wf = true) :=
  ⟨hc, fun h _ => by obtain ⟨n, rfl, rfl, wf⟩ := DataW.trod_int hu h; exact ⟨n, rfl, wf⟩⟩
theorem Opens.bool {P : Program} {t : TypeId} (hu : P.underlying t = some .bool) (hc : P.cellsOf t = 1) : Opens P t Kd.bool (fun _ => True) :=
  ⟨hc, fun h _ => by obtain ⟨n, rfl, rfl⟩ := DataW.trod_bool hu h; exact ⟨n, rfl, trivial⟩⟩
theorem Opens.string {P : Program} {t : TypeId} (hu : P.underlying t = some .string) (hc : P.cellsOf t = 1) : Opens P t Kd.string (fun s => s.size ≤ 140737488351232) :=
  ⟨hc, fun h hw => by
    obtain ⟨s, rfl, rfl, _⟩ := DataW.trod_string hu h
    refine ⟨s, rfl, ?_⟩
    have := hw s.data.toList.length (by simp [DataW.weights])
    simpa [reachBytes] using this⟩
theorem weights_mem_all {H : Type} {P : Program} {e : TypeId} {n : Nat} : ∀ {l : List (DataW H)} {d : DataW H}, d ∈ l → n ∈ d.weights P e → n ∈ DataW.weightsAll P e l
  | d0 :: l, d, hd, hn => by
    simp only [DataW.weightsAll, List.mem_append]
    rcases List.mem_cons.1 hd with rfl | hd
    · exact .inl hn
    · exact .inr (weights_mem_all hd hn)
  | [], _, hd, _ => by cases hd
theorem list_of_all {α : Type} {Q : Nat → α → Prop} (n : Nat) (h : ∀ i, i < n → ∃ x, Q i x) : ∃ xs : List α, xs.length = n ∧ ∀ j x, xs[j]? = some x → Q j x := by
  induction n with
  | zero => exact ⟨[], rfl, fun j x h => by simp at h⟩
  | succ n ih =>
    obtain ⟨xs, hl, hx⟩ := ih (fun i hi => h i (by omega))
    obtain ⟨x, hq⟩ := h n (by omega)
    refine ⟨xs ++ [x], by simp [hl], fun j y hj => ?_⟩
    rcases Nat.lt_or_ge j xs.length with hlt | hge
    · rw [List.getElem?_append_left hlt] at hj
      exact hx j y hj
    · rw [List.getElem?_append_right hge] at hj
      have : j - xs.length = 0 := by
        rcases Nat.lt_or_ge (j - xs.length) 1 with h1 | h1
        · omega
        · rw [List.getElem?_eq_none (by simpa using h1)] at hj; cases hj
      rw [this] at hj
      simp at hj
      subst hj
      have : j = n := by omega
      subst this
      exact hq
theorem Opens.slice {α : Type} {P : Program} {t e : TypeId} {d : Kd α} {wf : α → Prop} (hu : P.underlying t = some (.slice e)) (hc : P.cellsOf t = 1) (B : Nat) (hB : P.bytesOf e = B) (he : Opens P e d wf) :
    Opens P t (Kd.slice e d) (fun xs => xs.length * B ≤ 140737488351232 ∧ xs.length ≤ maxLen ∧ ∀ x ∈ xs, wf x) :=
  ⟨hc, fun {H enc w fuel cs y} h hw => by
    rcases open_slice hu h with ⟨rfl, rfl⟩ | ⟨a, len, cap, m, n, D, Pl, rfl, _, hl, hm, hmm, rfl, hel⟩
    · exact ⟨[], ⟨none, 0, rfl, Nat.le_refl _, Kd.C_nil d w⟩, by simp, by simp, fun x hx => by cases hx⟩
    have hmc : m = cap := by rw [hmm]; rfl
    subst hmc
    have hwt : ∀ i, i < len → ∀ z ∈ (D i).weights P e, z ≤ reachBytes := fun i hi z hz => hw z (by
      simp only [DataW.weights, hu]
      exact List.mem_cons_of_mem _ (List.mem_append_left _ (weights_mem_all (List.mem_map.2 ⟨i, List.mem_range.2 hi, rfl⟩) hz)))
    have hall : ∀ i, i < len → ∃ x : α, (∃ c, c.length = d.sz ∧ d.K w x c ∧ ∀ j u, c[j]? = some u → w.cell? (a.add (i * d.sz + j)) = some u) ∧ wf x := by
      intro i hi
      obtain ⟨cs', hcs, htr⟩ := hel i (by omega)
      obtain ⟨x, hk, hx⟩ := he.op htr (hwt i hi)
      obtain ⟨_, hlen, hcell⟩ := World.cells?_some hcs
      refine ⟨x, ⟨cs', by rw [hlen, he.sz], hk, fun j u hu' => ?_⟩, hx⟩
      have hj : j < cs'.length := by
        rcases Nat.lt_or_ge j cs'.length with h1 | h1
        · exact h1
        · rw [List.getElem?_eq_none h1] at hu'; cases hu'
      rw [hlen] at hj
      have hcj := hcell j hj
      rw [hu', he.sz, Addr.add_add] at hcj
      exact hcj
    obtain ⟨xs, hxl, hxs⟩ := list_of_all (Q := fun i x => (∃ c, c.length = d.sz ∧ d.K w x c ∧ ∀ j u, c[j]? = some u → w.cell? (a.add (i * d.sz + j)) = some u) ∧ wf x) len hall
    subst hxl
    refine ⟨xs, ⟨some a, m, rfl, hl, rfl, ?_, fun _ => ⟨a, rfl, fun j p hp => (hxs j p hp).1⟩⟩, ?_, ?_, ?_⟩
    · unfold maxLen at hm; omega
    · have := hw ((List.map D (List.range xs.length)).length + (List.map (fun j => D (xs.length + j)) (List.range (m - xs.length))).length) |> fun h => h
      have h1 := hw (((List.map D (List.range xs.length)).length + (List.map (fun j => D (xs.length + j)) (List.range (m - xs.length))).length) * P.bytesOf e) (by simp only [DataW.weights, hu]; exact List.mem_cons_self)
      rw [hB] at h1
      simp only [List.length_map, List.length_range] at h1
      have h2 : xs.length * B ≤ (xs.length + (m - xs.length)) * B := Nat.mul_le_mul_right _ (by omega)
      exact Nat.le_trans h2 h1
    · omega
    · intro x hx
      obtain ⟨j, hj, rfl⟩ := List.getElem_of_mem hx
      exact (hxs j _ (List.getElem?_eq_getElem hj)).2⟩
/-- Fields in line from cell o on. -/
def OpensF (P : Program) (fs : List Field) (o : Nat) {α : Type} (d : Kd α) (wf : α → Prop) : Prop :=
  ∀ {H : Type} {enc : TypeId × Value → H} {w : World} {n : Nat} {cs : List Value} {xs : List (DataW H × List MemPlace)}, o + d.sz ≤ cs.length → xs.length = fs.length →
    (∀ (i : Nat) (f : Field), fs[i]? = some f → DataW.trod enc P w 0 (fun _ => true) true n f.type ((cs.drop f.offset).take (P.cellsOf f.type)) = xs[i]?) →
    (∀ z ∈ DataW.weightsEach P (fs.map (·.type)) (xs.map (·.1)), z ≤ reachBytes) → ∃ x, d.K w x ((cs.drop o).take d.sz) ∧ wf x
theorem OpensF.one {α : Type} {P : Program} {f : Field} {o : Nat} {d : Kd α} {wf : α → Prop} (ho : f.offset = o) (h : Opens P f.type d wf) : OpensF P [f] o d wf := by
  intro H enc w n cs xs hlen hxl htr hw
  match xs, hxl with
  | [y], _ =>
    have h1 := htr 0 f rfl
    rw [ho, h.sz] at h1
    exact h.op (y := y) h1 (fun z hz => hw z (by simpa [DataW.weightsEach] using hz))
theorem OpensF.cons {α β : Type} {P : Program} {f : Field} {fs : List Field} {o : Nat} {a : Kd α} {b : Kd β} {wa : α → Prop} {wb : β → Prop} (ho : f.offset = o) (h : Opens P f.type a wa) (o' : Nat) (ho' : o + a.sz = o') (hr : OpensF P fs o' b wb) :
    OpensF P (f :: fs) o (Kd.pair a b) (fun x => wa x.1 ∧ wb x.2) := by
  intro H enc w n cs xs hlen hxl htr hw
  match xs, hxl with
  | y :: ys, hxl =>
    have h1 := htr 0 f rfl
    rw [ho, h.sz] at h1
    have hsz : (Kd.pair a b).sz = a.sz + b.sz := rfl
    rw [hsz] at hlen
    obtain ⟨x0, k0, w0⟩ := h.op (y := y) h1 (fun z hz => hw z (by simp only [List.map_cons, DataW.weightsEach, List.mem_append]; exact .inl hz))
    obtain ⟨x1, k1, w1⟩ := hr (n := n) (cs := cs) (xs := ys) (enc := enc) (w := w) (by omega) (by simpa using hxl) (fun i g hg => by have := htr (i + 1) g (by simpa using hg); simpa using this) (fun z hz => hw z (by simp only [List.map_cons, DataW.weightsEach, List.mem_append]; exact .inr hz))
    refine ⟨(x0, x1), ⟨(cs.drop o).take a.sz, (cs.drop o').take b.sz, ?_, k0, k1⟩, w0, w1⟩
    rw [hsz, ← ho', List.take_add, List.drop_drop]
theorem Opens.struct {α : Type} {P : Program} {t : TypeId} {fs : Array Field} {d : Kd α} {wf : α → Prop} (hu : P.underlying t = some (.struct fs)) (hc : P.cellsOf t = d.sz) (h : OpensF P fs.toList 0 d wf) : Opens P t d wf :=
  ⟨hc, fun {H enc w fuel cs y} ht hw => by
    obtain ⟨xs, n, rfl, rfl, hlen, hxl, htr⟩ := DataW.trod_struct hu ht
    obtain ⟨x, hk, hx⟩ := h (enc := enc) (w := w) (n := n) (cs := cs) (xs := xs) (by omega) (by simpa using hxl) (fun i f hf => htr i f (by simpa using hf)) (fun z hz => hw z (by simp only [DataW.weights, hu]; exact hz))
    refine ⟨x, ?_, hx⟩
    rw [List.drop_zero, List.take_of_length_le (by omega)] at hk
    exact hk⟩
theorem Opens.iso {α β : Type} {P : Program} {t : TypeId} {d : Kd α} {wf : α → Prop} (f : β → α) (g : α → β) (hfg : ∀ x, f (g x) = x) (h : Opens P t d wf) : Opens P t (Kd.iso d f) (fun x => wf (f x)) :=
  ⟨h.sz, fun ht hw => by
    obtain ⟨x, hk, hx⟩ := h.op ht hw
    exact ⟨g x, by show d.K _ (f (g x)) _; rw [hfg]; exact hk, by rw [hfg]; exact hx⟩⟩
end
section
-- IMPORT Derived.Laws.BitsLemmas
-- IMPORT Derived.OpenShut
/-- A mask of low bits is a remainder, of whatever number. -/
theorem and_low (x : Int) (j : Nat) (hj : j ≤ 62) : Go.bits .and .i64 x (2 ^ j - 1) = x % 2 ^ j := by
  have hm : ((2 : Int) ^ j - 1) = ((2 ^ j - 1 : Nat) : Int) := by
    rw [Int.natCast_sub (Nat.two_pow_pos j), Int.natCast_pow]; rfl
  have hlt : 2 ^ j - 1 < 2 ^ 64 := Nat.lt_of_lt_of_le (Nat.sub_lt (Nat.two_pow_pos j) (by decide)) (Nat.pow_le_pow_right (by decide) (by omega))
  have hle : (2 : Nat) ^ j ≤ 2 ^ 62 := Nat.pow_le_pow_right (by decide) hj
  have hd : (2 : Nat) ^ j ∣ 2 ^ 64 := Nat.pow_dvd_pow 2 (by omega)
  rw [hm]
  have hb : Go.bits .and .i64 x ((2 ^ j - 1 : Nat) : Int) = IntKind.i64.wrap (((BitVec.ofInt 64 x &&& BitVec.ofInt 64 ((2 ^ j - 1 : Nat) : Int)).toNat : Nat) : Int) := rfl
  rw [hb, BitVec.toNat_and, BitVec.ofInt_natCast, BitVec.toNat_ofNat, BitVec.toNat_ofInt, Nat.mod_eq_of_lt hlt, Nat.and_two_pow_sub_one_eq_mod, IntKind.wrap_i64]
  have e : (((x % ((2 ^ 64 : Nat) : Int)).toNat % 2 ^ j : Nat) : Int) = x % ((2 ^ j : Nat) : Int) := by
    rw [Int.natCast_emod, Int.toNat_of_nonneg (Int.emod_nonneg _ (by decide)), Int.emod_emod_of_dvd]
    exact Int.natCast_dvd_natCast.2 hd
  rw [e]
  have hp : (0 : Int) < ((2 ^ j : Nat) : Int) := by exact_mod_cast Nat.two_pow_pos j
  have h0 := Int.emod_nonneg x (Int.ne_of_gt hp)
  have h1 := Int.emod_lt_of_pos x hp
  have h2 : ((2 ^ j : Nat) : Int) ≤ ((4611686018427387904 : Nat) : Int) := Int.ofNat_le.2 (Nat.le_trans hle (by decide))
  have h3 : ((2 : Int) ^ j) = ((2 ^ j : Nat) : Int) := by rw [Int.natCast_pow]; rfl
  rw [h3, Int.emod_eq_of_lt (by omega) (by omega)]
  omega
theorem and32 (x : Int) : Go.bits .and .i64 x 4294967295 = x % 4294967296 := and_low x 32 (by decide)
theorem wf64 {n : Int} (h : (Lit.int .i64 n).wf = true) : -9223372036854775808 ≤ n ∧ n ≤ 9223372036854775807 := bounds_i64 h
theorem wfu8 {n : Int} (h : (Lit.int .u8 n).wf = true) : 0 ≤ n ∧ n ≤ 255 := bounds_u8 h
theorem wrap_id {n : Int} (h0 : -9223372036854775808 ≤ n) (h1 : n ≤ 9223372036854775807) : wrap64 n = n := by
  unfold wrap64; omega
end
section
/-! ### laws_FnExactSeqLess: function 3 -/
def laws_FnExactSeqLess.f (k : Nat) (a0 : Int) (a1 : Int) : Option (Bool) := (spec_SeqLess.f a0 a1).bind fun bt111 => ((impl_SeqLess.f k a0 a1).bind fun bt113 => (if (bt113.1 != bt111.1) = true then (some false) else (if bt113.2 = bt111.2 then (some true) else (some false))))
theorem laws_FnExactSeqLess.mono : ∀ a0 a1 k, LeO (laws_FnExactSeqLess.f k a0 a1) (laws_FnExactSeqLess.f (k + 1) a0 a1) := by
  intro a0 a1 k
  unfold laws_FnExactSeqLess.f
  repeat' first
      | (with_reducible exact impl_SeqLess.mono _ _ _)
      | (with_reducible exact LeO.refl _)
      | (with_reducible exact LeO.none _)
      | (with_reducible refine LeO.ite ?_ ?_)
      | (with_reducible refine LeO.bind ?_ (fun _ => ?_))
      | exact impl_SeqLess.mono _ _ _
      | exact LeO.none _
      | refine LeO.ite ?_ ?_
      | refine LeO.bind ?_ (fun _ => ?_)
set_option maxHeartbeats 8000000 in
set_option maxRecDepth 100000 in
theorem laws_FnExactSeqLess.calls (k : Nat) (a0 : Int) (a1 : Int) (r : Bool) (w : World) (h : laws_FnExactSeqLess.f k a0 a1 = some r) :
    Calls Try.prog 3 #[.int .i64 a0, .int .i64 a1] w fun e w' => e = .returned (.bool r) ∧ Drawn0 w w' := by
  have H : ((spec_SeqLess.f a0 a1).bind fun bt111 => ((impl_SeqLess.f k a0 a1).bind fun bt113 => (if (bt113.1 != bt111.1) = true then (some false) else (if bt113.2 = bt111.2 then (some true) else (some false))))) = some r := h
  clear h
  replace H := Option.bind_eq_some_iff.mp H
  obtain ⟨⟨t111, t112⟩, A30, H⟩ := H
  replace H : ((impl_SeqLess.f k a0 a1).bind fun bt113 => (if (bt113.1 != t111) = true then (some false) else (if bt113.2 = t112 then (some true) else (some false)))) = some r := H
  have A3 := Aside0.mk A30
  clear A30
  replace H := Option.bind_eq_some_iff.mp H
  obtain ⟨⟨t113, t114⟩, A40, H⟩ := H
  replace H : (if (t113 != t111) = true then (some false) else (if t114 = t112 then (some true) else (some false))) = some r := H
  have A4 := Aside0.mk A40
  clear A40
  by_cases c5 : (t113 != t111) = true
  · rw [if_pos c5] at H
    have c5b0 : (t113 != t111) = true := c5
    (try (have c5b1 : decide (t113 = t111) = false := by simpa using c5))
    (try (have c5b2 : (t113 == t111) = false := by simpa using c5))
    (try (have c5b3 : ¬ (t113 = t111) := by simpa using c5))
    clear c5
    obtain rfl := Option.some.inj H
    go_enter Try.func3, Try.ntmps3
    go_wp2_with (first | ((with_reducible refine gate_callee (f := 17) rfl ?_); refine goesL_ (some 12) rfl rfl Try.func17 (by kernel_rfl) rfl #[.int .i64 a0, .int .i64 a1] rfl (by (try simp only [List.map_toArray, List.map_cons, List.map_nil]); first | done | rfl | (simp only [List.length_drop, List.length_take]; rfl)) ?_; (with_reducible refine (spec_SeqLess.calls a0 a1 t111 t112 _ A3.out).mono ?_); rintro e w' ⟨rfl, ⟨nd, rfl⟩⟩; refine ⟨_, rfl, ?_⟩) | ((with_reducible refine gate_callee (f := 18) rfl ?_); refine goesL_ (some 18) rfl rfl Try.func18 (by kernel_rfl) rfl #[.int .i64 a0, .int .i64 a1] rfl (by (try simp only [List.map_toArray, List.map_cons, List.map_nil]); first | done | rfl | (simp only [List.length_drop, List.length_take]; rfl)) ?_; (with_reducible refine (impl_SeqLess.calls k a0 a1 t113 t114 _ A4.out).mono ?_); rintro e w' ⟨rfl, ⟨nd, rfl⟩⟩; refine ⟨_, rfl, ?_⟩))
    go_ret
    exact ⟨by first | rfl | (simp; done) | (simp [*]; done), by repeat (first | exact Drawn0.refl _ | apply Drawn0.step)⟩
  · rw [if_neg c5] at H
    have c5b0 : (t113 != t111) = false := by simpa using c5
    (try (have c5b1 : decide (t113 = t111) = true := by simpa using c5))
    (try (have c5b2 : (t113 == t111) = true := by simpa using c5))
    clear c5
    by_cases c6 : t114 = t112
    · rw [if_pos c6] at H
      have c6b0 : (t114 == t112) = true := beq_iff_eq.mpr c6
      have c6b1 : (t114 != t112) = false := bne_eq_false_iff_eq.mpr c6
      clear c6
      obtain rfl := Option.some.inj H
      go_enter Try.func3, Try.ntmps3
      go_wp2_with (first | ((with_reducible refine gate_callee (f := 17) rfl ?_); refine goesL_ (some 12) rfl rfl Try.func17 (by kernel_rfl) rfl #[.int .i64 a0, .int .i64 a1] rfl (by (try simp only [List.map_toArray, List.map_cons, List.map_nil]); first | done | rfl | (simp only [List.length_drop, List.length_take]; rfl)) ?_; (with_reducible refine (spec_SeqLess.calls a0 a1 t111 t112 _ A3.out).mono ?_); rintro e w' ⟨rfl, ⟨nd, rfl⟩⟩; refine ⟨_, rfl, ?_⟩) | ((with_reducible refine gate_callee (f := 18) rfl ?_); refine goesL_ (some 18) rfl rfl Try.func18 (by kernel_rfl) rfl #[.int .i64 a0, .int .i64 a1] rfl (by (try simp only [List.map_toArray, List.map_cons, List.map_nil]); first | done | rfl | (simp only [List.length_drop, List.length_take]; rfl)) ?_; (with_reducible refine (impl_SeqLess.calls k a0 a1 t113 t114 _ A4.out).mono ?_); rintro e w' ⟨rfl, ⟨nd, rfl⟩⟩; refine ⟨_, rfl, ?_⟩))
      go_ret
      exact ⟨by first | rfl | (simp; done) | (simp [*]; done), by repeat (first | exact Drawn0.refl _ | apply Drawn0.step)⟩
    · rw [if_neg c6] at H
      have c6b0 : (t114 == t112) = false := beq_eq_false_iff_ne.mpr c6
      have c6b1 : (t114 != t112) = true := bne_iff_ne.mpr c6
      obtain rfl := Option.some.inj H
      go_enter Try.func3, Try.ntmps3
      go_wp2_with (first | ((with_reducible refine gate_callee (f := 17) rfl ?_); refine goesL_ (some 12) rfl rfl Try.func17 (by kernel_rfl) rfl #[.int .i64 a0, .int .i64 a1] rfl (by (try simp only [List.map_toArray, List.map_cons, List.map_nil]); first | done | rfl | (simp only [List.length_drop, List.length_take]; rfl)) ?_; (with_reducible refine (spec_SeqLess.calls a0 a1 t111 t112 _ A3.out).mono ?_); rintro e w' ⟨rfl, ⟨nd, rfl⟩⟩; refine ⟨_, rfl, ?_⟩) | ((with_reducible refine gate_callee (f := 18) rfl ?_); refine goesL_ (some 18) rfl rfl Try.func18 (by kernel_rfl) rfl #[.int .i64 a0, .int .i64 a1] rfl (by (try simp only [List.map_toArray, List.map_cons, List.map_nil]); first | done | rfl | (simp only [List.length_drop, List.length_take]; rfl)) ?_; (with_reducible refine (impl_SeqLess.calls k a0 a1 t113 t114 _ A4.out).mono ?_); rintro e w' ⟨rfl, ⟨nd, rfl⟩⟩; refine ⟨_, rfl, ?_⟩))
      go_ret
      exact ⟨by first | rfl | (simp; done) | (simp [*]; done), by repeat (first | exact Drawn0.refl _ | apply Drawn0.step)⟩

/-- THE ONE PURE STATEMENT of laws_FnExactSeqLess: yours. -/
def laws_FnExactSeqLess.Pure : Prop := ∀ (a0 : Int) (a1 : Int), (Lit.int .i64 a0).wf = true → (Lit.int .i64 a1).wf = true → ∃ k, laws_FnExactSeqLess.f k a0 a1 = some true
theorem laws_FnExactSeqLess.walk (P : laws_FnExactSeqLess.Pure) (a0 : Int) (a1 : Int) (w : World) (w0 : (Lit.int .i64 a0).wf = true) (w1 : (Lit.int .i64 a1).wf = true) :
    Calls Try.prog 3 #[.int .i64 a0, .int .i64 a1] w fun e w' => e = .returned (.bool true) ∧ Below w.heap.size w w' := by
  obtain ⟨k, h⟩ := P a0 a1 w0 w1
  refine (laws_FnExactSeqLess.calls k a0 a1 true w h).mono ?_
  rintro e w' ⟨rfl, hd⟩
  exact ⟨rfl, hd.below⟩
end
section
-- NEEDS spec.l01In impl.within
theorem l01In_eq (a b c : Int) : spec_l01In.f a b c = some (decide (b ≤ a ∧ a ≤ c)) := by unfold spec_l01In.f; grind
theorem within_eq (a b c : Int) : impl_within.f a b c = some (decide (b ≤ a ∧ a ≤ c)) := by unfold impl_within.f; grind
end
section
-- NEEDS spec.l01Ip impl.isAddress
theorem l01Ip_eq (a : Int) : spec_l01Ip.f a = some (decide (0 ≤ a ∧ a ≤ 4294967295)) := by simp only [spec_l01Ip.f, l01In_eq, Option.bind_some]
theorem isAddress_eq (a : Int) : impl_isAddress.f a = some (decide (0 ≤ a ∧ a ≤ 4294967295)) := by simp only [impl_isAddress.f, within_eq, Option.bind_some]
end
section
-- NEEDS spec.l10Seq impl.behind
theorem l10Seq_eq (a : Int) : spec_l10Seq.f a = some (a % 4294967296) := by simp only [spec_l10Seq.f, and32]
theorem behind_eq (a b : Int) (ha : 0 ≤ a ∧ a ≤ 4294967295) (hb : 0 ≤ b ∧ b ≤ 4294967295) : impl_behind.f a b = some ((a - b) % 4294967296) := by
  have e : wrap64 ((wrap64 (a - b)) + 4294967296) = a - b + 4294967296 := by rw [wrap_id (n := a - b) (by omega) (by omega), wrap_id (by omega) (by omega)]
  simp only [impl_behind.f, e]
  rw [Int.tmod_eq_emod_of_nonneg (by omega)]
  congr 1
  omega
end
section
def P_FnExactSeqLess : Prop := ∀ (a0 : Int) (a1 : Int), (Lit.int .i64 a0).wf = true → (Lit.int .i64 a1).wf = true → ∃ k, laws_FnExactSeqLess.f k a0 a1 = some true
end
section
-- NEEDS laws.FnExactSeqLess
def seqLess (a b : Int) : Bool := decide (1 ≤ (b - a) % 4294967296 ∧ (b - a) % 4294967296 ≤ 2147483647)
theorem impl_SeqLess_ok (k : Nat) (a b : Int) (ha : 0 ≤ a ∧ a ≤ 4294967295) (hb : 0 ≤ b ∧ b ≤ 4294967295) : impl_SeqLess.f (k + 1) a b = some (seqLess a b, 0) := by
  simp only [impl_SeqLess.f, isAddress_eq, Option.bind_some, impl_SeqLess.j0, behind_eq b a hb ha, within_eq, seqLess]
  grind
theorem impl_SeqLess_no (k : Nat) (a b : Int) (h : ¬ ((0 ≤ a ∧ a ≤ 4294967295) ∧ (0 ≤ b ∧ b ≤ 4294967295))) : impl_SeqLess.f (k + 1) a b = some (false, 4) := by
  simp only [impl_SeqLess.f, isAddress_eq, Option.bind_some, impl_SeqLess.j0]
  grind
theorem spec_SeqLess_ok (a b : Int) (ha : 0 ≤ a ∧ a ≤ 4294967295) (hb : 0 ≤ b ∧ b ≤ 4294967295) : spec_SeqLess.f a b = some (seqLess a b, 0) := by
  have e : wrap64 (b - a) = b - a := wrap_id (by omega) (by omega)
  have hd : a = b → (b - a) % 4294967296 = 0 := by omega
  have hn : ¬ a = b → ¬ (b - a) % 4294967296 = 0 := by omega
  have hp : 0 ≤ (b - a) % 4294967296 := by omega
  simp only [spec_SeqLess.f, l01Ip_eq, Option.bind_some, spec_l10Less.f, l10Seq_eq, e, seqLess]
  rw [if_pos (by simpa using ha), if_pos (by simpa using hb)]
  by_cases h : a = b
  · have := hd h
    rw [if_pos h]
    simp only [Option.bind_some]
    congr 2
    exact (decide_eq_false (by omega)).symm
  · have := hn h
    rw [if_neg h]
    simp only [Option.bind_some]
    congr 2
    exact decide_eq_decide.2 (by omega)
theorem spec_SeqLess_no (a b : Int) (h : ¬ ((0 ≤ a ∧ a ≤ 4294967295) ∧ (0 ≤ b ∧ b ≤ 4294967295))) : spec_SeqLess.f a b = some (false, 4) := by
  simp only [spec_SeqLess.f, l01Ip_eq, Option.bind_some]
  grind
theorem pure_FnExactSeqLess : P_FnExactSeqLess := by
  intro a b _ _
  refine ⟨1, ?_⟩
  by_cases h : (0 ≤ a ∧ a ≤ 4294967295) ∧ (0 ≤ b ∧ b ≤ 4294967295)
  · simp only [laws_FnExactSeqLess.f, spec_SeqLess_ok a b h.1 h.2, impl_SeqLess_ok 0 a b h.1 h.2, Option.bind_some]
    simp
  · simp only [laws_FnExactSeqLess.f, spec_SeqLess_no a b h, impl_SeqLess_no 0 a b h, Option.bind_some]
    simp
end
section
def P_FnSeq : Prop := ∀ (a0 : List Int) (a1 : List Int), (a0.length * 1 ≤ 140737488351232 ∧ a0.length ≤ maxLen ∧ ∀ y ∈ a0, (Lit.int .u8 y).wf = true) → (a1.length * 1 ≤ 140737488351232 ∧ a1.length ≤ maxLen ∧ ∀ y ∈ a1, (Lit.int .u8 y).wf = true) → ∃ k, laws_FnSeq.f k a0 a1 = some true
end
section
-- NEEDS laws.FnSeq impl.SeqLess
theorem rd_byte {l : List Int} (h : ∀ y ∈ l, (Lit.int .u8 y).wf = true) (j : Int) : 0 ≤ rd l j ∧ rd l j ≤ 255 := by
  unfold rd
  rw [List.getD_eq_getElem?_getD]
  cases e : l[j.toNat]? with
  | none => simp
  | some v => exact wfu8 (h v (List.mem_of_getElem? e))
theorem at_some {l : List Int} (h : ∀ y ∈ l, (Lit.int .u8 y).wf = true) (i : Int) (h0 : 0 ≤ i) (h1 : i ≤ 2) (hl : (l.length : Int) ≤ 1048576) : ∃ v, laws_at.f l i 60000 = some v ∧ 0 ≤ v ∧ v ≤ 59999 := by
  unfold laws_at.f
  rw [if_neg (by omega)]
  by_cases he : (l.length : Int) = 0
  · rw [if_pos he, if_neg (by omega), wrap_id (by omega) (by omega), Int.tmod_eq_emod_of_nonneg (by omega)]
    exact ⟨_, rfl, by omega, by omega⟩
  · have hp : 0 < (l.length : Int) := by omega
    have e0 : wrap64 (i + 1) = i + 1 := wrap_id (by omega) (by omega)
    have t0 : Int.tmod i (l.length : Int) = i % (l.length : Int) := Int.tmod_eq_emod_of_nonneg (by omega)
    have t1 : Int.tmod (i + 1) (l.length : Int) = (i + 1) % (l.length : Int) := Int.tmod_eq_emod_of_nonneg (by omega)
    have t2 : Int.tdiv i (l.length : Int) = i / (l.length : Int) := Int.tdiv_eq_ediv_of_nonneg (by omega)
    have m0 := Int.emod_nonneg i (Int.ne_of_gt hp)
    have m1 := Int.emod_lt_of_pos i hp
    have m2 := Int.emod_nonneg (i + 1) (Int.ne_of_gt hp)
    have m3 := Int.emod_lt_of_pos (i + 1) hp
    have d0 : 0 ≤ i / (l.length : Int) := Int.ediv_nonneg h0 (by omega)
    have d1 : i / (l.length : Int) ≤ i := Int.ediv_le_self _ h0
    obtain ⟨b0, b1⟩ := rd_byte h (i % (l.length : Int))
    obtain ⟨b2, b3⟩ := rd_byte h ((i + 1) % (l.length : Int))
    rw [if_neg he, e0, t0, t1, t2, if_pos m0, if_pos m1, if_pos m2, if_pos m3, if_neg (by omega)]
    rw [wrap_id (n := rd l (i % (l.length : Int))) (by omega) (by omega), wrap_id (n := rd l ((i + 1) % (l.length : Int))) (by omega) (by omega), wrap_id (n := i / (l.length : Int)) (by omega) (by omega)]
    rw [wrap_id (n := rd l (i % (l.length : Int)) * 31) (by omega) (by omega), wrap_id (n := rd l (i % (l.length : Int)) * 31 + rd l ((i + 1) % (l.length : Int))) (by omega) (by omega), wrap_id (by omega) (by omega), Int.tmod_eq_emod_of_nonneg (by omega)]
    exact ⟨_, rfl, by omega, by omega⟩
theorem FnSeq_j1 (k : Nat) (a b : Int) (ha : 0 ≤ a ∧ a ≤ 4294967295) (hb : 0 ≤ b ∧ b ≤ 4294967295) : laws_FnSeq.j1 (k + 1) a b (seqLess a b) (seqLess b a) false = some true := by
  simp only [laws_FnSeq.j1, and32, seqLess]
  rw [wrap_id (n := a - b) (by omega) (by omega)]
  by_cases h : a = b
  · subst h
    simp
  · rw [if_neg (by simp), if_neg h]
    by_cases h2 : (a - b) % 4294967296 = 2147483648
    · have e : decide (1 ≤ (b - a) % 4294967296 ∧ (b - a) % 4294967296 ≤ 2147483647) = decide (1 ≤ (a - b) % 4294967296 ∧ (a - b) % 4294967296 ≤ 2147483647) := decide_eq_decide.2 (by omega)
      rw [e]
      simp [h2]
    · rw [if_pos]
      simp only [bne_iff_ne, ne_eq, decide_eq_decide]
      omega
theorem pure_FnSeq : P_FnSeq := by
  intro l0 l1 ⟨_, _, w0⟩ ⟨_, _, w1⟩
  refine ⟨3, ?_⟩
  by_cases h0 : (l0.length : Int) > 1048576
  · simp only [laws_FnSeq.f]
    rw [if_pos h0]
    simp [laws_FnSeq.j0]
  by_cases h1 : (l1.length : Int) > 1048576
  · simp only [laws_FnSeq.f]
    rw [if_neg h0, decide_eq_true h1]
    simp [laws_FnSeq.j0]
  obtain ⟨p, ep, p0, p1⟩ := at_some w0 0 (by omega) (by omega) (by omega)
  obtain ⟨q, eq, q0, q1⟩ := at_some w0 1 (by omega) (by omega) (by omega)
  obtain ⟨r, er, r0, r1⟩ := at_some w1 0 (by omega) (by omega) (by omega)
  obtain ⟨s, es, s0, s1⟩ := at_some w1 1 (by omega) (by omega) (by omega)
  obtain ⟨t, et, t0, t1⟩ := at_some w1 2 (by omega) (by omega) (by omega)
  have ea : wrap64 (wrap64 (p * 65536) + q) = p * 65536 + q := by rw [wrap_id (n := p * 65536) (by omega) (by omega), wrap_id (by omega) (by omega)]
  have eb : wrap64 (wrap64 (r * 65536) + s) = r * 65536 + s := by rw [wrap_id (n := r * 65536) (by omega) (by omega), wrap_id (by omega) (by omega)]
  obtain ⟨a, ha⟩ : ∃ a, a = p * 65536 + q := ⟨_, rfl⟩
  obtain ⟨b, hb⟩ : ∃ b, b = r * 65536 + s := ⟨_, rfl⟩
  have A : 0 ≤ a ∧ a ≤ 4294967295 := by omega
  have B : 0 ≤ b ∧ b ≤ 4294967295 := by omega
  have en : wrap64 (t * 70000) = t * 70000 := wrap_id (by omega) (by omega)
  have e1 : wrap64 (a + t * 70000) = a + t * 70000 := wrap_id (by omega) (by omega)
  have e2 : wrap64 (b + t * 70000) = b + t * 70000 := wrap_id (by omega) (by omega)
  have e3 : wrap64 (a + 1) = a + 1 := wrap_id (by omega) (by omega)
  simp only [laws_FnSeq.f]
  rw [if_neg h0, decide_eq_false h1]
  simp only [laws_FnSeq.j0, ep, eq, er, es, et, Option.bind_some, ea, eb, ← ha, ← hb, en, e1, e2, e3, and32]
  have f1 := impl_SeqLess_ok 1 a b A B
  have f2 := impl_SeqLess_ok 1 b a B A
  have f3 := spec_SeqLess_ok a b A B
  have f4 := impl_SeqLess_ok 1 ((a + t * 70000) % 4294967296) ((b + t * 70000) % 4294967296) (by omega) (by omega)
  have f5 := impl_SeqLess_ok 1 a a A A
  have f6 := impl_SeqLess_ok 1 a ((a + 1) % 4294967296) A (by omega)
  have g4 : seqLess ((a + t * 70000) % 4294967296) ((b + t * 70000) % 4294967296) = seqLess a b := by unfold seqLess; exact decide_eq_decide.2 (by omega)
  have g5 : seqLess a a = false := by unfold seqLess; exact decide_eq_false (by omega)
  have g6 : seqLess a ((a + 1) % 4294967296) = true := by unfold seqLess; exact decide_eq_true (by omega)
  rw [g4] at f4
  rw [g5] at f5
  rw [g6] at f6
  have j1 := FnSeq_j1 1 a b A B
  simp only [Nat.reduceAdd] at f1 f2 f4 f5 f6 j1
  simp [f1, f2, f3, f4, f5, f6, j1]
end
section
-- IMPORT Derived.Test.YtlpkldomoniegaaRows
-- IMPORT Derived.WalkKit
-- IMPORT Derived.ProofKit
-- IMPORT Derived.OpenShut
-- IMPORT Derived.ShutString
-- IMPORT Derived.ChangeOld
-- IMPORT Derived.Below
-- IMPORT Derived.SizedLaws
open Go.ChangeShapes Go.WideShapes Go.ChangeAt
open Go.ChangeMaps (open_string shut_string)
theorem own_FnSeq : ownKnob Try.prog.godebug = none := by kernel_rfl
theorem laidOut_FnSeq : laidOutB Try.prog = true := by kernel_rfl
set_option maxHeartbeats 4000000 in
set_option maxRecDepth 100000 in
theorem lifted_FnSeq (os : Os) (started : os.Started) (H : Type) (enc : TypeId × Value → H) :
    ReturnsInHanded {} Try.checked os 4 .any (Rows.fnSeqSpec.pre6 enc Try.prog Try.f4 Rows.fnSeqRow.domain false) (Rows.fnSeqSpec.post enc Try.prog Try.f4 false true false false) := by
  refine returnsInHanded_of_change_sized (C := Try.checked) own_FnSeq started (by kernel_rfl) Try.func4
    (ChangeSpec.witness6 (enc := enc) (C := Try.checked) false ⟨#[], #[.slice none 0 0, .slice none 0 0], []⟩ 8 (by kernel_rfl) (by kernel_rfl) (by kernel_rfl) (by kernel_rfl)) ?_
  intro W base args ds gs before hval0 hW hcnd hsz0 _
  have hsz : (DataW.weightsEach Try.prog (Try.f4.params.toList ++ Rows.fnSeqSpec.plain.varTypes Try.prog) (ds ++ gs)).all (· ≤ reachBytes) = true := hsz0
  have hval : ∀ (j : Nat) t v, Try.f4.params[j]? = some t → args[j]? = some v → Value.okWide Try.prog W .any base t v := hval0
  have hW' := hW
  obtain ⟨p, q, hA0, hV, rfl, hfz, hnd⟩ := hW
  have hA : DataW.TrodAll enc Try.prog W 0 (fun _ => true) true Try.f4.params.toList args.toList ds p := hA0
  rw [Try.params4] at hA hval hsz
  obtain ⟨v0, vs0, d0, ds0, p0, q0, hargs, rfl, rfl, h0, r0⟩ := trodAll_cons hA
  obtain ⟨v1, vs1, d1, ds1, p1, q1, rfl, rfl, rfl, h1, r1⟩ := trodAll_cons r0
  obtain ⟨rfl, rfl, rfl⟩ := trodAll_nil r1
  obtain rfl : args = #[v0, v1] := by cases args; simp_all
  obtain ⟨rfl, rfl⟩ := trodVars_none hV
  have k0 := h0
  have lt0 : ∀ x ∈ p0, x.block < W.heap.size := by obtain ⟨m, hm⟩ := k0; exact DataW.trod_lt m _ _ _ hm
  obtain ⟨A0, n0, c0, rfl⟩ := okWide_slice Try.underlying25 (hval 0 25 v0 rfl rfl)
  obtain ⟨fuel0, hf0⟩ := h0
  obtain ⟨a0, ⟨A0', c0', e0, hl0, hc0⟩, w0⟩ := (Opens.slice Try.underlying25 (by kernel_rfl) 1 (by kernel_rfl) (Opens.int Try.underlying5 (by kernel_rfl))).op hf0 (fun n hn => by have z := List.all_eq_true.1 hsz _ (DataW.weights_mem_each (j := 0) (t := 25) rfl rfl n hn); simpa using z)
  simp only [Value.cells, List.cons.injEq, Value.slice.injEq, and_true] at e0
  obtain ⟨rfl, rfl, rfl⟩ := e0
  have k1 := h1
  have lt1 : ∀ x ∈ p1, x.block < W.heap.size := by obtain ⟨m, hm⟩ := k1; exact DataW.trod_lt m _ _ _ hm
  obtain ⟨A1, n1, c1, rfl⟩ := okWide_slice Try.underlying25 (hval 1 25 v1 rfl rfl)
  obtain ⟨fuel1, hf1⟩ := h1
  obtain ⟨a1, ⟨A1', c1', e1, hl1, hc1⟩, w1⟩ := (Opens.slice Try.underlying25 (by kernel_rfl) 1 (by kernel_rfl) (Opens.int Try.underlying5 (by kernel_rfl))).op hf1 (fun n hn => by have z := List.all_eq_true.1 hsz _ (DataW.weights_mem_each (j := 1) (t := 25) rfl rfl n hn); simpa using z)
  simp only [Value.cells, List.cons.injEq, Value.slice.injEq, and_true] at e1
  obtain ⟨rfl, rfl, rfl⟩ := e1
  clear hA0 hval0 hsz0 hsz
  obtain ⟨k, hk⟩ := pure_FnSeq a0 a1 w0 w1
  refine (laws_FnSeq.calls k _ _ a0 _ _ a1 true W hc0 hl0 hc1 hl1 hk).mono fun e W' hh => ?_
  obtain ⟨he, bel0⟩ := hh
  have bel : Below W.heap.size W W' := bel0.below
  subst he
  exact ⟨_, rfl, _, _, _, [], _, [], hW', trodAll_mk1 (shut_bool Try.underlying4 _), (trodAll_cons_mk (Below.trod laidOut_FnSeq (by kernel_rfl) (of_decide_eq_true (by kernel_rfl)) k0 bel lt0) (trodAll_cons_mk (Below.trod laidOut_FnSeq (by kernel_rfl) (of_decide_eq_true (by kernel_rfl)) k1 bel lt1) trodAll_mk0)), rfl, bel.frame _, fun h => by cases h⟩
theorem over_FnSeq : Rows.fnSeqRow.holds Try.pinned (OpenSpec.ofChange Rows.fnSeqSpec) :=
  OpenClaim.holds_of_wide 4 Try.f4 rfl rfl rfl rfl rfl rfl rfl ⟨rfl, rfl, rfl, rfl, rfl⟩ rfl rfl rfl rfl rfl (by kernel_rfl) Try.func4 (by kernel_rfl)
    (of_decide_eq_true (by kernel_rfl)) (by unfold Func.isWrapper; first | (rw [if_pos (by decide +kernel)]; kernel_rfl) | (rw [if_neg (by decide +kernel)]; exact ⟨rfl, rfl⟩))
    (fun os started H enc _ => lifted_FnSeq os started H enc)
theorem proved_FnSeq : Rows.FnSeqSaid := over_FnSeq
#print axioms proved_FnSeq
end
end Go.Proofs.Ytlpkldomoniegaa.X
