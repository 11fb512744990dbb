/-
  No cell of these rows narrows 'for every input' (looked for: loops, veiled, ifaces, maps, wideKeys, modest, calm, conditions, laid).
  DERIVED. THE GIVEN ROWS OF THIS SEAT. 6 by the template 'for every input the law returns true; each argument reads behind the call as it read before'; 0 by the template 'total and deterministic' (their statements: YtcakbenoaclbkaaTotals.lean).
  GIVEN WITH THE SEED: the statements are not yours to turn. If you find one false, say at which input.
  Laid BY PROGRAM, IN A SANDBOX (cutbox-rows.mjs): the forced cells as the released guide's own fill.sh prints them over the translation 05c393d0745007c2… (all of the seat's roots in one cut). By AI agents, Wed Nov 11 2026. No macro, syntax, notation, axiom, sorry.
-/
import Derived.Test.YtcakbenoaclbkaaChecked
import GoSem.Claim
import GoSem.ClaimJoined
import GoSem.ClaimMapViews
import Derived.JoinedTies
import Derived.KernelRfl
namespace Go.Proofs.Ytcakbenoaclbkaa
/- THE CELL 'sum', in the pinned program and in every row, IS THE sha256 OF THE DUMP (.gsa) THAT YtcakbenoaclbkaaProg.lean LOADS. Nothing in Lean hashes anything: it is a label: what it is worth is what the hold of that sum in a sandbox is worth. -/
noncomputable def Try.pinned : Pinned := { name := "ytcakbenoaclbkaa", sum := "05c393d0745007c22f7dd834eae7c739076d6ae750fdcd462fe891b1a5dd96f7", checked := Try.checked }
namespace Rows
def none {H : Type} : Left H := { results := [], args := [] }

/-- 'laws.FnExactMeanOf': WHATEVER THE INPUT: true; the input reads as it did. -/
def fnExactMeanOfSpec : ChangeSpec := { name := "fnExactMeanOf", fn := fun _ => fun
  | [d] => { results := [.lit (.bool true)], args := [d] }
  | _ => none }
def fnExactMeanOfRow : OpenClaim := { program := "ytcakbenoaclbkaa", sum := "05c393d0745007c22f7dd834eae7c739076d6ae750fdcd462fe891b1a5dd96f7", func := "loop.example/g00356/laws.FnExactMeanOf", spec := "fnExactMeanOf", unfollowed := true, recurses := true, apart := false }
def FnExactMeanOfSaid : Prop := fnExactMeanOfRow.holds Try.pinned (OpenSpec.ofChange fnExactMeanOfSpec)

/-- ITS FALSE NEIGHBOUR: 'it returns false'. Refute it at one input. -/
def fnExactMeanOfWrong : ChangeSpec := { name := "fnExactMeanOf", fn := fun _ => fun
  | [d] => { results := [.lit (.bool false)], args := [d] }
  | _ => none }
def FnExactMeanOfWrongFalsely : Prop := fnExactMeanOfRow.holds Try.pinned (OpenSpec.ofChange fnExactMeanOfWrong)

/-- 'laws.FnExactOrderOf': WHATEVER THE INPUT: true; the input reads as it did. -/
def fnExactOrderOfSpec : ChangeSpec := { name := "fnExactOrderOf", fn := fun _ => fun
  | [d1, d2] => { results := [.lit (.bool true)], args := [d1, d2] }
  | _ => none }
def fnExactOrderOfRow : OpenClaim := { program := "ytcakbenoaclbkaa", sum := "05c393d0745007c22f7dd834eae7c739076d6ae750fdcd462fe891b1a5dd96f7", func := "loop.example/g00356/laws.FnExactOrderOf", spec := "fnExactOrderOf", unfollowed := true, recurses := true, apart := false }
def FnExactOrderOfSaid : Prop := fnExactOrderOfRow.holds Try.pinned (OpenSpec.ofChange fnExactOrderOfSpec)

/-- ITS FALSE NEIGHBOUR: 'it returns false'. Refute it at one input. -/
def fnExactOrderOfWrong : ChangeSpec := { name := "fnExactOrderOf", fn := fun _ => fun
  | [d1, d2] => { results := [.lit (.bool false)], args := [d1, d2] }
  | _ => none }
def FnExactOrderOfWrongFalsely : Prop := fnExactOrderOfRow.holds Try.pinned (OpenSpec.ofChange fnExactOrderOfWrong)

/-- 'laws.FnExactRateWord': WHATEVER THE INPUT: true; the input reads as it did. -/
def fnExactRateWordSpec : ChangeSpec := { name := "fnExactRateWord", fn := fun _ => fun
  | [d] => { results := [.lit (.bool true)], args := [d] }
  | _ => none }
def fnExactRateWordRow : OpenClaim := { program := "ytcakbenoaclbkaa", sum := "05c393d0745007c22f7dd834eae7c739076d6ae750fdcd462fe891b1a5dd96f7", func := "loop.example/g00356/laws.FnExactRateWord", spec := "fnExactRateWord", unfollowed := true, recurses := true, apart := false }
def FnExactRateWordSaid : Prop := fnExactRateWordRow.holds Try.pinned (OpenSpec.ofChange fnExactRateWordSpec)

/-- ITS FALSE NEIGHBOUR: 'it returns false'. Refute it at one input. -/
def fnExactRateWordWrong : ChangeSpec := { name := "fnExactRateWord", fn := fun _ => fun
  | [d] => { results := [.lit (.bool false)], args := [d] }
  | _ => none }
def FnExactRateWordWrongFalsely : Prop := fnExactRateWordRow.holds Try.pinned (OpenSpec.ofChange fnExactRateWordWrong)

/-- 'laws.FnMeter': WHATEVER THE INPUT: true; the input reads as it did. -/
def fnMeterSpec : ChangeSpec := { name := "fnMeter", fn := fun _ => fun
  | [d1, d2] => { results := [.lit (.bool true)], args := [d1, d2] }
  | _ => none }
def fnMeterRow : OpenClaim := { program := "ytcakbenoaclbkaa", sum := "05c393d0745007c22f7dd834eae7c739076d6ae750fdcd462fe891b1a5dd96f7", func := "loop.example/g00356/laws.FnMeter", spec := "fnMeter", unfollowed := true, recurses := true, apart := false }
def FnMeterSaid : Prop := fnMeterRow.holds Try.pinned (OpenSpec.ofChange fnMeterSpec)

/-- ITS FALSE NEIGHBOUR: 'it returns false'. Refute it at one input. -/
def fnMeterWrong : ChangeSpec := { name := "fnMeter", fn := fun _ => fun
  | [d1, d2] => { results := [.lit (.bool false)], args := [d1, d2] }
  | _ => none }
def FnMeterWrongFalsely : Prop := fnMeterRow.holds Try.pinned (OpenSpec.ofChange fnMeterWrong)

/-- 'laws.FnExactSortWords': WHATEVER THE INPUT: true; the input reads as it did. -/
def fnExactSortWordsSpec : ChangeSpec := { name := "fnExactSortWords", fn := fun _ => fun
  | [d] => { results := [.lit (.bool true)], args := [d] }
  | _ => none }
def fnExactSortWordsRow : OpenClaim := { program := "ytcakbenoaclbkaa", sum := "05c393d0745007c22f7dd834eae7c739076d6ae750fdcd462fe891b1a5dd96f7", func := "loop.example/g00356/laws.FnExactSortWords", spec := "fnExactSortWords", unfollowed := true, recurses := true, apart := false }
def FnExactSortWordsSaid : Prop := fnExactSortWordsRow.holds Try.pinned (OpenSpec.ofChange fnExactSortWordsSpec)

/-- ITS FALSE NEIGHBOUR: 'it returns false'. Refute it at one input. -/
def fnExactSortWordsWrong : ChangeSpec := { name := "fnExactSortWords", fn := fun _ => fun
  | [d] => { results := [.lit (.bool false)], args := [d] }
  | _ => none }
def FnExactSortWordsWrongFalsely : Prop := fnExactSortWordsRow.holds Try.pinned (OpenSpec.ofChange fnExactSortWordsWrong)

/-- 'laws.FnOrder': WHATEVER THE INPUT: true; the input reads as it did. -/
def fnOrderSpec : ChangeSpec := { name := "fnOrder", fn := fun _ => fun
  | [d1, d2] => { results := [.lit (.bool true)], args := [d1, d2] }
  | _ => none }
def fnOrderRow : OpenClaim := { program := "ytcakbenoaclbkaa", sum := "05c393d0745007c22f7dd834eae7c739076d6ae750fdcd462fe891b1a5dd96f7", func := "loop.example/g00356/laws.FnOrder", spec := "fnOrder", unfollowed := true, recurses := true, apart := false }
def FnOrderSaid : Prop := fnOrderRow.holds Try.pinned (OpenSpec.ofChange fnOrderSpec)

/-- ITS FALSE NEIGHBOUR: 'it returns false'. Refute it at one input. -/
def fnOrderWrong : ChangeSpec := { name := "fnOrder", fn := fun _ => fun
  | [d1, d2] => { results := [.lit (.bool false)], args := [d1, d2] }
  | _ => none }
def FnOrderWrongFalsely : Prop := fnOrderRow.holds Try.pinned (OpenSpec.ofChange fnOrderWrong)

/- THE SECOND FORM. 'bulk': how many values and letters a reading holds, each counted each time it is reached (what is shared counts as often as it is met; a slice's spare places count too). A statement '..UptoSaid' is the law's where the arguments, and the package variables that the reading takes, are together of bulk at most 1048576: NARROWER than '..Said'. Prove '..Said' where nothing that the law and all that it calls make is longer than what came in: it says more and counts as full. Else prove '..UptoSaid'. A law counts once. -/
mutual
def uptoBulk {H : Type} : DataW H → Nat
  | .lit (.string bytes) => bytes.length + 1
  | .lit _ => 1
  | .nil => 1
  | .ptr d => uptoBulk d + 1
  | .slice elems spare => uptoBulkAll elems + uptoBulkAll spare + 1
  | .agg parts => uptoBulkAll parts + 1
  | .iface _ d => uptoBulk d + 1
  | .map entries => uptoBulkEntries entries + 1
  | .held _ => 1
def uptoBulkAll {H : Type} : List (DataW H) → Nat
  | [] => 0
  | d :: r => uptoBulk d + uptoBulkAll r
def uptoBulkEntries {H : Type} : List (Lit × DataW H) → Nat
  | [] => 0
  | x :: r => uptoBulkEntry x + uptoBulkEntries r
def uptoBulkEntry {H : Type} : Lit × DataW H → Nat
  | (.string bytes, d) => bytes.length + uptoBulk d + 1
  | (_, d) => uptoBulk d + 1
 end
def uptoSmall : (H : Type) → List (DataW H) → Bool := fun _ ds => decide (uptoBulkAll ds ≤ 1048576)
def OpenSpec.upto (s : _root_.Go.ChangeSpec) : _root_.Go.OpenSpec := { _root_.Go.OpenSpec.ofChange s with cond := some uptoSmall }

/-- 'laws.FnExactMeanOf', WHERE WHAT IT READS IS OF BULK AT MOST 1048576: true; the input reads as it did. -/
def fnExactMeanOfUptoRow : OpenClaim := { program := "ytcakbenoaclbkaa", sum := "05c393d0745007c22f7dd834eae7c739076d6ae750fdcd462fe891b1a5dd96f7", func := "loop.example/g00356/laws.FnExactMeanOf", spec := "fnExactMeanOf", unfollowed := true, recurses := true, apart := false, narrowed := true }
def FnExactMeanOfUptoSaid : Prop := fnExactMeanOfUptoRow.holds Try.pinned (OpenSpec.upto fnExactMeanOfSpec)

/-- 'laws.FnExactOrderOf', WHERE WHAT IT READS IS OF BULK AT MOST 1048576: true; the input reads as it did. -/
def fnExactOrderOfUptoRow : OpenClaim := { program := "ytcakbenoaclbkaa", sum := "05c393d0745007c22f7dd834eae7c739076d6ae750fdcd462fe891b1a5dd96f7", func := "loop.example/g00356/laws.FnExactOrderOf", spec := "fnExactOrderOf", unfollowed := true, recurses := true, apart := false, narrowed := true }
def FnExactOrderOfUptoSaid : Prop := fnExactOrderOfUptoRow.holds Try.pinned (OpenSpec.upto fnExactOrderOfSpec)

/-- 'laws.FnExactRateWord', WHERE WHAT IT READS IS OF BULK AT MOST 1048576: true; the input reads as it did. -/
def fnExactRateWordUptoRow : OpenClaim := { program := "ytcakbenoaclbkaa", sum := "05c393d0745007c22f7dd834eae7c739076d6ae750fdcd462fe891b1a5dd96f7", func := "loop.example/g00356/laws.FnExactRateWord", spec := "fnExactRateWord", unfollowed := true, recurses := true, apart := false, narrowed := true }
def FnExactRateWordUptoSaid : Prop := fnExactRateWordUptoRow.holds Try.pinned (OpenSpec.upto fnExactRateWordSpec)

/-- 'laws.FnMeter', WHERE WHAT IT READS IS OF BULK AT MOST 1048576: true; the input reads as it did. -/
def fnMeterUptoRow : OpenClaim := { program := "ytcakbenoaclbkaa", sum := "05c393d0745007c22f7dd834eae7c739076d6ae750fdcd462fe891b1a5dd96f7", func := "loop.example/g00356/laws.FnMeter", spec := "fnMeter", unfollowed := true, recurses := true, apart := false, narrowed := true }
def FnMeterUptoSaid : Prop := fnMeterUptoRow.holds Try.pinned (OpenSpec.upto fnMeterSpec)

/-- 'laws.FnExactSortWords', WHERE WHAT IT READS IS OF BULK AT MOST 1048576: true; the input reads as it did. -/
def fnExactSortWordsUptoRow : OpenClaim := { program := "ytcakbenoaclbkaa", sum := "05c393d0745007c22f7dd834eae7c739076d6ae750fdcd462fe891b1a5dd96f7", func := "loop.example/g00356/laws.FnExactSortWords", spec := "fnExactSortWords", unfollowed := true, recurses := true, apart := false, narrowed := true }
def FnExactSortWordsUptoSaid : Prop := fnExactSortWordsUptoRow.holds Try.pinned (OpenSpec.upto fnExactSortWordsSpec)

/-- 'laws.FnOrder', WHERE WHAT IT READS IS OF BULK AT MOST 1048576: true; the input reads as it did. -/
def fnOrderUptoRow : OpenClaim := { program := "ytcakbenoaclbkaa", sum := "05c393d0745007c22f7dd834eae7c739076d6ae750fdcd462fe891b1a5dd96f7", func := "loop.example/g00356/laws.FnOrder", spec := "fnOrder", unfollowed := true, recurses := true, apart := false, narrowed := true }
def FnOrderUptoSaid : Prop := fnOrderUptoRow.holds Try.pinned (OpenSpec.upto fnOrderSpec)

end Rows
end Go.Proofs.Ytcakbenoaclbkaa
