/-
  No cell of these rows narrows 'for every input' (looked for: loops, veiled, ifaces, maps, wideKeys, modest, calm, conditions, laid).
  DERIVED. THE GIVEN ROWS OF THIS SEAT. 14 by the template 'for every input the law returns true; each argument reads behind the call as it read before'; 0 by the template 'total and deterministic' (their statements: YtlpkldomoniegaaTotals.lean).
  GIVEN WITH THE SEED: the statements are not yours to turn. If you find one false, say at which input.
  Laid BY PROGRAM, IN A SANDBOX (cutbox-rows.mjs): the forced cells as the released guide's own fill.sh prints them over the translation 991b247898660c3a… (all of the seat's roots in one cut). By AI agents, Wed Nov 11 2026. No macro, syntax, notation, axiom, sorry.
-/
import Derived.Test.YtlpkldomoniegaaChecked
import GoSem.Claim
import GoSem.ClaimJoined
import GoSem.ClaimMapViews
import Derived.JoinedTies
import Derived.KernelRfl
namespace Go.Proofs.Ytlpkldomoniegaa
/- THE CELL 'sum', in the pinned program and in every row, IS THE sha256 OF THE DUMP (.gsa) THAT YtlpkldomoniegaaProg.lean LOADS. Nothing in Lean hashes anything: it is a label: what it is worth is what the hold of that sum in a sandbox is worth. -/
noncomputable def Try.pinned : Pinned := { name := "ytlpkldomoniegaa", sum := "991b247898660c3afc51a3b623a0696ceaa11ad28c97b466be28729dc5431fe2", checked := Try.checked }
namespace Rows
def none {H : Type} : Left H := { results := [], args := [] }

/-- 'laws.FnExactSeqLess': WHATEVER THE INPUT: true; the input reads as it did. -/
def fnExactSeqLessSpec : ChangeSpec := { name := "fnExactSeqLess", fn := fun _ => fun
  | [d1, d2] => { results := [.lit (.bool true)], args := [d1, d2] }
  | _ => none }
def fnExactSeqLessRow : OpenClaim := { program := "ytlpkldomoniegaa", sum := "991b247898660c3afc51a3b623a0696ceaa11ad28c97b466be28729dc5431fe2", func := "loop.example/g00356/laws.FnExactSeqLess", spec := "fnExactSeqLess", apart := false }
def FnExactSeqLessSaid : Prop := fnExactSeqLessRow.holds Try.pinned (OpenSpec.ofChange fnExactSeqLessSpec)

/-- ITS FALSE NEIGHBOUR: 'it returns false'. Refute it at one input. -/
def fnExactSeqLessWrong : ChangeSpec := { name := "fnExactSeqLess", fn := fun _ => fun
  | [d1, d2] => { results := [.lit (.bool false)], args := [d1, d2] }
  | _ => none }
def FnExactSeqLessWrongFalsely : Prop := fnExactSeqLessRow.holds Try.pinned (OpenSpec.ofChange fnExactSeqLessWrong)

/-- 'laws.FnSeq': WHATEVER THE INPUT: true; the input reads as it did. -/
def fnSeqSpec : ChangeSpec := { name := "fnSeq", fn := fun _ => fun
  | [d1, d2] => { results := [.lit (.bool true)], args := [d1, d2] }
  | _ => none }
def fnSeqRow : OpenClaim := { program := "ytlpkldomoniegaa", sum := "991b247898660c3afc51a3b623a0696ceaa11ad28c97b466be28729dc5431fe2", func := "loop.example/g00356/laws.FnSeq", spec := "fnSeq", apart := false }
def FnSeqSaid : Prop := fnSeqRow.holds Try.pinned (OpenSpec.ofChange fnSeqSpec)

/-- ITS FALSE NEIGHBOUR: 'it returns false'. Refute it at one input. -/
def fnSeqWrong : ChangeSpec := { name := "fnSeq", fn := fun _ => fun
  | [d1, d2] => { results := [.lit (.bool false)], args := [d1, d2] }
  | _ => none }
def FnSeqWrongFalsely : Prop := fnSeqRow.holds Try.pinned (OpenSpec.ofChange fnSeqWrong)

/-- 'laws.FnExactFlowWait': WHATEVER THE INPUT: true; the input reads as it did. -/
def fnExactFlowWaitSpec : ChangeSpec := { name := "fnExactFlowWait", fn := fun _ => fun
  | [d1, d2] => { results := [.lit (.bool true)], args := [d1, d2] }
  | _ => none }
def fnExactFlowWaitRow : OpenClaim := { program := "ytlpkldomoniegaa", sum := "991b247898660c3afc51a3b623a0696ceaa11ad28c97b466be28729dc5431fe2", func := "loop.example/g00356/laws.FnExactFlowWait", spec := "fnExactFlowWait", apart := false }
def FnExactFlowWaitSaid : Prop := fnExactFlowWaitRow.holds Try.pinned (OpenSpec.ofChange fnExactFlowWaitSpec)

/-- ITS FALSE NEIGHBOUR: 'it returns false'. Refute it at one input. -/
def fnExactFlowWaitWrong : ChangeSpec := { name := "fnExactFlowWait", fn := fun _ => fun
  | [d1, d2] => { results := [.lit (.bool false)], args := [d1, d2] }
  | _ => none }
def FnExactFlowWaitWrongFalsely : Prop := fnExactFlowWaitRow.holds Try.pinned (OpenSpec.ofChange fnExactFlowWaitWrong)

/-- 'laws.FnExactConnOK': WHATEVER THE INPUT: true; the input reads as it did. -/
def fnExactConnOKSpec : ChangeSpec := { name := "fnExactConnOK", fn := fun _ => fun
  | [d] => { results := [.lit (.bool true)], args := [d] }
  | _ => none }
def fnExactConnOKRow : OpenClaim := { program := "ytlpkldomoniegaa", sum := "991b247898660c3afc51a3b623a0696ceaa11ad28c97b466be28729dc5431fe2", func := "loop.example/g00356/laws.FnExactConnOK", spec := "fnExactConnOK", apart := false }
def FnExactConnOKSaid : Prop := fnExactConnOKRow.holds Try.pinned (OpenSpec.ofChange fnExactConnOKSpec)

/-- ITS FALSE NEIGHBOUR: 'it returns false'. Refute it at one input. -/
def fnExactConnOKWrong : ChangeSpec := { name := "fnExactConnOK", fn := fun _ => fun
  | [d] => { results := [.lit (.bool false)], args := [d] }
  | _ => none }
def FnExactConnOKWrongFalsely : Prop := fnExactConnOKRow.holds Try.pinned (OpenSpec.ofChange fnExactConnOKWrong)

/-- 'laws.FnExactFlowsOK': WHATEVER THE INPUT: true; the input reads as it did. -/
def fnExactFlowsOKSpec : ChangeSpec := { name := "fnExactFlowsOK", fn := fun _ => fun
  | [d] => { results := [.lit (.bool true)], args := [d] }
  | _ => none }
def fnExactFlowsOKRow : OpenClaim := { program := "ytlpkldomoniegaa", sum := "991b247898660c3afc51a3b623a0696ceaa11ad28c97b466be28729dc5431fe2", func := "loop.example/g00356/laws.FnExactFlowsOK", spec := "fnExactFlowsOK", unfollowed := true, recurses := true, apart := false }
def FnExactFlowsOKSaid : Prop := fnExactFlowsOKRow.holds Try.pinned (OpenSpec.ofChange fnExactFlowsOKSpec)

/-- ITS FALSE NEIGHBOUR: 'it returns false'. Refute it at one input. -/
def fnExactFlowsOKWrong : ChangeSpec := { name := "fnExactFlowsOK", fn := fun _ => fun
  | [d] => { results := [.lit (.bool false)], args := [d] }
  | _ => none }
def FnExactFlowsOKWrongFalsely : Prop := fnExactFlowsOKRow.holds Try.pinned (OpenSpec.ofChange fnExactFlowsOKWrong)

/-- 'laws.FnExactFlowFind': WHATEVER THE INPUT: true; the input reads as it did. -/
def fnExactFlowFindSpec : ChangeSpec := { name := "fnExactFlowFind", fn := fun _ => fun
  | [d1, d2, d3, d4, d5, d6] => { results := [.lit (.bool true)], args := [d1, d2, d3, d4, d5, d6] }
  | _ => none }
def fnExactFlowFindRow : OpenClaim := { program := "ytlpkldomoniegaa", sum := "991b247898660c3afc51a3b623a0696ceaa11ad28c97b466be28729dc5431fe2", func := "loop.example/g00356/laws.FnExactFlowFind", spec := "fnExactFlowFind", unfollowed := true, recurses := true, apart := false }
def FnExactFlowFindSaid : Prop := fnExactFlowFindRow.holds Try.pinned (OpenSpec.ofChange fnExactFlowFindSpec)

/-- ITS FALSE NEIGHBOUR: 'it returns false'. Refute it at one input. -/
def fnExactFlowFindWrong : ChangeSpec := { name := "fnExactFlowFind", fn := fun _ => fun
  | [d1, d2, d3, d4, d5, d6] => { results := [.lit (.bool false)], args := [d1, d2, d3, d4, d5, d6] }
  | _ => none }
def FnExactFlowFindWrongFalsely : Prop := fnExactFlowFindRow.holds Try.pinned (OpenSpec.ofChange fnExactFlowFindWrong)

/-- 'laws.FnExactConnOpen': WHATEVER THE INPUT: true; the input reads as it did. -/
def fnExactConnOpenSpec : ChangeSpec := { name := "fnExactConnOpen", fn := fun _ => fun
  | [d1, d2, d3, d4, d5] => { results := [.lit (.bool true)], args := [d1, d2, d3, d4, d5] }
  | _ => none }
def fnExactConnOpenRow : OpenClaim := { program := "ytlpkldomoniegaa", sum := "991b247898660c3afc51a3b623a0696ceaa11ad28c97b466be28729dc5431fe2", func := "loop.example/g00356/laws.FnExactConnOpen", spec := "fnExactConnOpen", apart := false }
def FnExactConnOpenSaid : Prop := fnExactConnOpenRow.holds Try.pinned (OpenSpec.ofChange fnExactConnOpenSpec)

/-- ITS FALSE NEIGHBOUR: 'it returns false'. Refute it at one input. -/
def fnExactConnOpenWrong : ChangeSpec := { name := "fnExactConnOpen", fn := fun _ => fun
  | [d1, d2, d3, d4, d5] => { results := [.lit (.bool false)], args := [d1, d2, d3, d4, d5] }
  | _ => none }
def FnExactConnOpenWrongFalsely : Prop := fnExactConnOpenRow.holds Try.pinned (OpenSpec.ofChange fnExactConnOpenWrong)

/-- 'laws.FnExactConnAgain': WHATEVER THE INPUT: true; the input reads as it did. -/
def fnExactConnAgainSpec : ChangeSpec := { name := "fnExactConnAgain", fn := fun _ => fun
  | [d] => { results := [.lit (.bool true)], args := [d] }
  | _ => none }
def fnExactConnAgainRow : OpenClaim := { program := "ytlpkldomoniegaa", sum := "991b247898660c3afc51a3b623a0696ceaa11ad28c97b466be28729dc5431fe2", func := "loop.example/g00356/laws.FnExactConnAgain", spec := "fnExactConnAgain", apart := false }
def FnExactConnAgainSaid : Prop := fnExactConnAgainRow.holds Try.pinned (OpenSpec.ofChange fnExactConnAgainSpec)

/-- ITS FALSE NEIGHBOUR: 'it returns false'. Refute it at one input. -/
def fnExactConnAgainWrong : ChangeSpec := { name := "fnExactConnAgain", fn := fun _ => fun
  | [d] => { results := [.lit (.bool false)], args := [d] }
  | _ => none }
def FnExactConnAgainWrongFalsely : Prop := fnExactConnAgainRow.holds Try.pinned (OpenSpec.ofChange fnExactConnAgainWrong)

/-- 'laws.FnExactConnSay': WHATEVER THE INPUT: true; the input reads as it did. -/
def fnExactConnSaySpec : ChangeSpec := { name := "fnExactConnSay", fn := fun _ => fun
  | [d1, d2] => { results := [.lit (.bool true)], args := [d1, d2] }
  | _ => none }
def fnExactConnSayRow : OpenClaim := { program := "ytlpkldomoniegaa", sum := "991b247898660c3afc51a3b623a0696ceaa11ad28c97b466be28729dc5431fe2", func := "loop.example/g00356/laws.FnExactConnSay", spec := "fnExactConnSay", apart := false }
def FnExactConnSaySaid : Prop := fnExactConnSayRow.holds Try.pinned (OpenSpec.ofChange fnExactConnSaySpec)

/-- ITS FALSE NEIGHBOUR: 'it returns false'. Refute it at one input. -/
def fnExactConnSayWrong : ChangeSpec := { name := "fnExactConnSay", fn := fun _ => fun
  | [d1, d2] => { results := [.lit (.bool false)], args := [d1, d2] }
  | _ => none }
def FnExactConnSayWrongFalsely : Prop := fnExactConnSayRow.holds Try.pinned (OpenSpec.ofChange fnExactConnSayWrong)

/-- 'laws.FnExactFlowsExpire': WHATEVER THE INPUT: true; the input reads as it did. -/
def fnExactFlowsExpireSpec : ChangeSpec := { name := "fnExactFlowsExpire", fn := fun _ => fun
  | [d1, d2] => { results := [.lit (.bool true)], args := [d1, d2] }
  | _ => none }
def fnExactFlowsExpireRow : OpenClaim := { program := "ytlpkldomoniegaa", sum := "991b247898660c3afc51a3b623a0696ceaa11ad28c97b466be28729dc5431fe2", func := "loop.example/g00356/laws.FnExactFlowsExpire", spec := "fnExactFlowsExpire", unfollowed := true, recurses := true, apart := false }
def FnExactFlowsExpireSaid : Prop := fnExactFlowsExpireRow.holds Try.pinned (OpenSpec.ofChange fnExactFlowsExpireSpec)

/-- ITS FALSE NEIGHBOUR: 'it returns false'. Refute it at one input. -/
def fnExactFlowsExpireWrong : ChangeSpec := { name := "fnExactFlowsExpire", fn := fun _ => fun
  | [d1, d2] => { results := [.lit (.bool false)], args := [d1, d2] }
  | _ => none }
def FnExactFlowsExpireWrongFalsely : Prop := fnExactFlowsExpireRow.holds Try.pinned (OpenSpec.ofChange fnExactFlowsExpireWrong)

/-- 'laws.FnExactFlowsDrop': WHATEVER THE INPUT: true; the input reads as it did. -/
def fnExactFlowsDropSpec : ChangeSpec := { name := "fnExactFlowsDrop", fn := fun _ => fun
  | [d1, d2] => { results := [.lit (.bool true)], args := [d1, d2] }
  | _ => none }
def fnExactFlowsDropRow : OpenClaim := { program := "ytlpkldomoniegaa", sum := "991b247898660c3afc51a3b623a0696ceaa11ad28c97b466be28729dc5431fe2", func := "loop.example/g00356/laws.FnExactFlowsDrop", spec := "fnExactFlowsDrop", unfollowed := true, recurses := true, apart := false }
def FnExactFlowsDropSaid : Prop := fnExactFlowsDropRow.holds Try.pinned (OpenSpec.ofChange fnExactFlowsDropSpec)

/-- ITS FALSE NEIGHBOUR: 'it returns false'. Refute it at one input. -/
def fnExactFlowsDropWrong : ChangeSpec := { name := "fnExactFlowsDrop", fn := fun _ => fun
  | [d1, d2] => { results := [.lit (.bool false)], args := [d1, d2] }
  | _ => none }
def FnExactFlowsDropWrongFalsely : Prop := fnExactFlowsDropRow.holds Try.pinned (OpenSpec.ofChange fnExactFlowsDropWrong)

/-- 'laws.FnExactFlowOpen': WHATEVER THE INPUT: true; the input reads as it did. -/
def fnExactFlowOpenSpec : ChangeSpec := { name := "fnExactFlowOpen", fn := fun _ => fun
  | [d1, d2, d3] => { results := [.lit (.bool true)], args := [d1, d2, d3] }
  | _ => none }
def fnExactFlowOpenRow : OpenClaim := { program := "ytlpkldomoniegaa", sum := "991b247898660c3afc51a3b623a0696ceaa11ad28c97b466be28729dc5431fe2", func := "loop.example/g00356/laws.FnExactFlowOpen", spec := "fnExactFlowOpen", unfollowed := true, recurses := true, apart := false }
def FnExactFlowOpenSaid : Prop := fnExactFlowOpenRow.holds Try.pinned (OpenSpec.ofChange fnExactFlowOpenSpec)

/-- ITS FALSE NEIGHBOUR: 'it returns false'. Refute it at one input. -/
def fnExactFlowOpenWrong : ChangeSpec := { name := "fnExactFlowOpen", fn := fun _ => fun
  | [d1, d2, d3] => { results := [.lit (.bool false)], args := [d1, d2, d3] }
  | _ => none }
def FnExactFlowOpenWrongFalsely : Prop := fnExactFlowOpenRow.holds Try.pinned (OpenSpec.ofChange fnExactFlowOpenWrong)

/-- 'laws.FnExactFlowPass': WHATEVER THE INPUT: true; the input reads as it did. -/
def fnExactFlowPassSpec : ChangeSpec := { name := "fnExactFlowPass", fn := fun _ => fun
  | [d1, d2, d3, d4, d5] => { results := [.lit (.bool true)], args := [d1, d2, d3, d4, d5] }
  | _ => none }
def fnExactFlowPassRow : OpenClaim := { program := "ytlpkldomoniegaa", sum := "991b247898660c3afc51a3b623a0696ceaa11ad28c97b466be28729dc5431fe2", func := "loop.example/g00356/laws.FnExactFlowPass", spec := "fnExactFlowPass", unfollowed := true, recurses := true, apart := false }
def FnExactFlowPassSaid : Prop := fnExactFlowPassRow.holds Try.pinned (OpenSpec.ofChange fnExactFlowPassSpec)

/-- ITS FALSE NEIGHBOUR: 'it returns false'. Refute it at one input. -/
def fnExactFlowPassWrong : ChangeSpec := { name := "fnExactFlowPass", fn := fun _ => fun
  | [d1, d2, d3, d4, d5] => { results := [.lit (.bool false)], args := [d1, d2, d3, d4, d5] }
  | _ => none }
def FnExactFlowPassWrongFalsely : Prop := fnExactFlowPassRow.holds Try.pinned (OpenSpec.ofChange fnExactFlowPassWrong)

/-- 'laws.FnExactConnTake': WHATEVER THE INPUT: true; the input reads as it did. -/
def fnExactConnTakeSpec : ChangeSpec := { name := "fnExactConnTake", fn := fun _ => fun
  | [d1, d2] => { results := [.lit (.bool true)], args := [d1, d2] }
  | _ => none }
def fnExactConnTakeRow : OpenClaim := { program := "ytlpkldomoniegaa", sum := "991b247898660c3afc51a3b623a0696ceaa11ad28c97b466be28729dc5431fe2", func := "loop.example/g00356/laws.FnExactConnTake", spec := "fnExactConnTake", apart := false }
def FnExactConnTakeSaid : Prop := fnExactConnTakeRow.holds Try.pinned (OpenSpec.ofChange fnExactConnTakeSpec)

/-- ITS FALSE NEIGHBOUR: 'it returns false'. Refute it at one input. -/
def fnExactConnTakeWrong : ChangeSpec := { name := "fnExactConnTake", fn := fun _ => fun
  | [d1, d2] => { results := [.lit (.bool false)], args := [d1, d2] }
  | _ => none }
def FnExactConnTakeWrongFalsely : Prop := fnExactConnTakeRow.holds Try.pinned (OpenSpec.ofChange fnExactConnTakeWrong)

/- THE SECOND FORM. 'bulk': how many values and letters a reading holds, each counted each time it is reached (what is shared counts as often as it is met; a slice's spare places count too). A statement '..UptoSaid' is the law's where the arguments, and the package variables that the reading takes, are together of bulk at most 1048576: NARROWER than '..Said'. Prove '..Said' where nothing that the law and all that it calls make is longer than what came in: it says more and counts as full. Else prove '..UptoSaid'. A law counts once. -/
mutual
def uptoBulk {H : Type} : DataW H → Nat
  | .lit (.string bytes) => bytes.length + 1
  | .lit _ => 1
  | .nil => 1
  | .ptr d => uptoBulk d + 1
  | .slice elems spare => uptoBulkAll elems + uptoBulkAll spare + 1
  | .agg parts => uptoBulkAll parts + 1
  | .iface _ d => uptoBulk d + 1
  | .map entries => uptoBulkEntries entries + 1
  | .held _ => 1
def uptoBulkAll {H : Type} : List (DataW H) → Nat
  | [] => 0
  | d :: r => uptoBulk d + uptoBulkAll r
def uptoBulkEntries {H : Type} : List (Lit × DataW H) → Nat
  | [] => 0
  | x :: r => uptoBulkEntry x + uptoBulkEntries r
def uptoBulkEntry {H : Type} : Lit × DataW H → Nat
  | (.string bytes, d) => bytes.length + uptoBulk d + 1
  | (_, d) => uptoBulk d + 1
 end
def uptoSmall : (H : Type) → List (DataW H) → Bool := fun _ ds => decide (uptoBulkAll ds ≤ 1048576)
def OpenSpec.upto (s : _root_.Go.ChangeSpec) : _root_.Go.OpenSpec := { _root_.Go.OpenSpec.ofChange s with cond := some uptoSmall }

/-- 'laws.FnExactSeqLess', WHERE WHAT IT READS IS OF BULK AT MOST 1048576: true; the input reads as it did. -/
def fnExactSeqLessUptoRow : OpenClaim := { program := "ytlpkldomoniegaa", sum := "991b247898660c3afc51a3b623a0696ceaa11ad28c97b466be28729dc5431fe2", func := "loop.example/g00356/laws.FnExactSeqLess", spec := "fnExactSeqLess", apart := false, narrowed := true }
def FnExactSeqLessUptoSaid : Prop := fnExactSeqLessUptoRow.holds Try.pinned (OpenSpec.upto fnExactSeqLessSpec)

/-- 'laws.FnSeq', WHERE WHAT IT READS IS OF BULK AT MOST 1048576: true; the input reads as it did. -/
def fnSeqUptoRow : OpenClaim := { program := "ytlpkldomoniegaa", sum := "991b247898660c3afc51a3b623a0696ceaa11ad28c97b466be28729dc5431fe2", func := "loop.example/g00356/laws.FnSeq", spec := "fnSeq", apart := false, narrowed := true }
def FnSeqUptoSaid : Prop := fnSeqUptoRow.holds Try.pinned (OpenSpec.upto fnSeqSpec)

/-- 'laws.FnExactFlowWait', WHERE WHAT IT READS IS OF BULK AT MOST 1048576: true; the input reads as it did. -/
def fnExactFlowWaitUptoRow : OpenClaim := { program := "ytlpkldomoniegaa", sum := "991b247898660c3afc51a3b623a0696ceaa11ad28c97b466be28729dc5431fe2", func := "loop.example/g00356/laws.FnExactFlowWait", spec := "fnExactFlowWait", apart := false, narrowed := true }
def FnExactFlowWaitUptoSaid : Prop := fnExactFlowWaitUptoRow.holds Try.pinned (OpenSpec.upto fnExactFlowWaitSpec)

/-- 'laws.FnExactConnOK', WHERE WHAT IT READS IS OF BULK AT MOST 1048576: true; the input reads as it did. -/
def fnExactConnOKUptoRow : OpenClaim := { program := "ytlpkldomoniegaa", sum := "991b247898660c3afc51a3b623a0696ceaa11ad28c97b466be28729dc5431fe2", func := "loop.example/g00356/laws.FnExactConnOK", spec := "fnExactConnOK", apart := false, narrowed := true }
def FnExactConnOKUptoSaid : Prop := fnExactConnOKUptoRow.holds Try.pinned (OpenSpec.upto fnExactConnOKSpec)

/-- 'laws.FnExactFlowsOK', WHERE WHAT IT READS IS OF BULK AT MOST 1048576: true; the input reads as it did. -/
def fnExactFlowsOKUptoRow : OpenClaim := { program := "ytlpkldomoniegaa", sum := "991b247898660c3afc51a3b623a0696ceaa11ad28c97b466be28729dc5431fe2", func := "loop.example/g00356/laws.FnExactFlowsOK", spec := "fnExactFlowsOK", unfollowed := true, recurses := true, apart := false, narrowed := true }
def FnExactFlowsOKUptoSaid : Prop := fnExactFlowsOKUptoRow.holds Try.pinned (OpenSpec.upto fnExactFlowsOKSpec)

/-- 'laws.FnExactFlowFind', WHERE WHAT IT READS IS OF BULK AT MOST 1048576: true; the input reads as it did. -/
def fnExactFlowFindUptoRow : OpenClaim := { program := "ytlpkldomoniegaa", sum := "991b247898660c3afc51a3b623a0696ceaa11ad28c97b466be28729dc5431fe2", func := "loop.example/g00356/laws.FnExactFlowFind", spec := "fnExactFlowFind", unfollowed := true, recurses := true, apart := false, narrowed := true }
def FnExactFlowFindUptoSaid : Prop := fnExactFlowFindUptoRow.holds Try.pinned (OpenSpec.upto fnExactFlowFindSpec)

/-- 'laws.FnExactConnOpen', WHERE WHAT IT READS IS OF BULK AT MOST 1048576: true; the input reads as it did. -/
def fnExactConnOpenUptoRow : OpenClaim := { program := "ytlpkldomoniegaa", sum := "991b247898660c3afc51a3b623a0696ceaa11ad28c97b466be28729dc5431fe2", func := "loop.example/g00356/laws.FnExactConnOpen", spec := "fnExactConnOpen", apart := false, narrowed := true }
def FnExactConnOpenUptoSaid : Prop := fnExactConnOpenUptoRow.holds Try.pinned (OpenSpec.upto fnExactConnOpenSpec)

/-- 'laws.FnExactConnAgain', WHERE WHAT IT READS IS OF BULK AT MOST 1048576: true; the input reads as it did. -/
def fnExactConnAgainUptoRow : OpenClaim := { program := "ytlpkldomoniegaa", sum := "991b247898660c3afc51a3b623a0696ceaa11ad28c97b466be28729dc5431fe2", func := "loop.example/g00356/laws.FnExactConnAgain", spec := "fnExactConnAgain", apart := false, narrowed := true }
def FnExactConnAgainUptoSaid : Prop := fnExactConnAgainUptoRow.holds Try.pinned (OpenSpec.upto fnExactConnAgainSpec)

/-- 'laws.FnExactConnSay', WHERE WHAT IT READS IS OF BULK AT MOST 1048576: true; the input reads as it did. -/
def fnExactConnSayUptoRow : OpenClaim := { program := "ytlpkldomoniegaa", sum := "991b247898660c3afc51a3b623a0696ceaa11ad28c97b466be28729dc5431fe2", func := "loop.example/g00356/laws.FnExactConnSay", spec := "fnExactConnSay", apart := false, narrowed := true }
def FnExactConnSayUptoSaid : Prop := fnExactConnSayUptoRow.holds Try.pinned (OpenSpec.upto fnExactConnSaySpec)

/-- 'laws.FnExactFlowsExpire', WHERE WHAT IT READS IS OF BULK AT MOST 1048576: true; the input reads as it did. -/
def fnExactFlowsExpireUptoRow : OpenClaim := { program := "ytlpkldomoniegaa", sum := "991b247898660c3afc51a3b623a0696ceaa11ad28c97b466be28729dc5431fe2", func := "loop.example/g00356/laws.FnExactFlowsExpire", spec := "fnExactFlowsExpire", unfollowed := true, recurses := true, apart := false, narrowed := true }
def FnExactFlowsExpireUptoSaid : Prop := fnExactFlowsExpireUptoRow.holds Try.pinned (OpenSpec.upto fnExactFlowsExpireSpec)

/-- 'laws.FnExactFlowsDrop', WHERE WHAT IT READS IS OF BULK AT MOST 1048576: true; the input reads as it did. -/
def fnExactFlowsDropUptoRow : OpenClaim := { program := "ytlpkldomoniegaa", sum := "991b247898660c3afc51a3b623a0696ceaa11ad28c97b466be28729dc5431fe2", func := "loop.example/g00356/laws.FnExactFlowsDrop", spec := "fnExactFlowsDrop", unfollowed := true, recurses := true, apart := false, narrowed := true }
def FnExactFlowsDropUptoSaid : Prop := fnExactFlowsDropUptoRow.holds Try.pinned (OpenSpec.upto fnExactFlowsDropSpec)

/-- 'laws.FnExactFlowOpen', WHERE WHAT IT READS IS OF BULK AT MOST 1048576: true; the input reads as it did. -/
def fnExactFlowOpenUptoRow : OpenClaim := { program := "ytlpkldomoniegaa", sum := "991b247898660c3afc51a3b623a0696ceaa11ad28c97b466be28729dc5431fe2", func := "loop.example/g00356/laws.FnExactFlowOpen", spec := "fnExactFlowOpen", unfollowed := true, recurses := true, apart := false, narrowed := true }
def FnExactFlowOpenUptoSaid : Prop := fnExactFlowOpenUptoRow.holds Try.pinned (OpenSpec.upto fnExactFlowOpenSpec)

/-- 'laws.FnExactFlowPass', WHERE WHAT IT READS IS OF BULK AT MOST 1048576: true; the input reads as it did. -/
def fnExactFlowPassUptoRow : OpenClaim := { program := "ytlpkldomoniegaa", sum := "991b247898660c3afc51a3b623a0696ceaa11ad28c97b466be28729dc5431fe2", func := "loop.example/g00356/laws.FnExactFlowPass", spec := "fnExactFlowPass", unfollowed := true, recurses := true, apart := false, narrowed := true }
def FnExactFlowPassUptoSaid : Prop := fnExactFlowPassUptoRow.holds Try.pinned (OpenSpec.upto fnExactFlowPassSpec)

/-- 'laws.FnExactConnTake', WHERE WHAT IT READS IS OF BULK AT MOST 1048576: true; the input reads as it did. -/
def fnExactConnTakeUptoRow : OpenClaim := { program := "ytlpkldomoniegaa", sum := "991b247898660c3afc51a3b623a0696ceaa11ad28c97b466be28729dc5431fe2", func := "loop.example/g00356/laws.FnExactConnTake", spec := "fnExactConnTake", apart := false, narrowed := true }
def FnExactConnTakeUptoSaid : Prop := fnExactConnTakeUptoRow.holds Try.pinned (OpenSpec.upto fnExactConnTakeSpec)

end Rows
end Go.Proofs.Ytlpkldomoniegaa
