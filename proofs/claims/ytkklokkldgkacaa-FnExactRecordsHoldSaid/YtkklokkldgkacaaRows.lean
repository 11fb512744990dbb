/-
  No cell of these rows narrows 'for every input' (looked for: loops, veiled, ifaces, maps, wideKeys, modest, calm, conditions, laid).
  DERIVED. THE GIVEN ROWS OF THIS SEAT. 3 by the template 'for every input the law returns true; each argument reads behind the call as it read before'; 0 by the template 'total and deterministic' (their statements: YtkklokkldgkacaaTotals.lean).
  GIVEN WITH THE SEED: the statements are not yours to turn. If you find one false, say at which input.
  Laid BY PROGRAM, IN A SANDBOX (cutbox-rows.mjs): the forced cells as the released guide's own fill.sh prints them over the translation 93ca268214e82a76… (all of the seat's roots in one cut). By AI agents, Wed Nov 11 2026. No macro, syntax, notation, axiom, sorry.
-/
import Derived.Test.YtkklokkldgkacaaChecked
import GoSem.Claim
import GoSem.ClaimJoined
import GoSem.ClaimMapViews
import Derived.JoinedTies
import Derived.KernelRfl
namespace Go.Proofs.Ytkklokkldgkacaa
/- THE CELL 'sum', in the pinned program and in every row, IS THE sha256 OF THE DUMP (.gsa) THAT YtkklokkldgkacaaProg.lean LOADS. Nothing in Lean hashes anything: it is a label: what it is worth is what the hold of that sum in a sandbox is worth. -/
noncomputable def Try.pinned : Pinned := { name := "ytkklokkldgkacaa", sum := "93ca268214e82a7604a42478086598c457e4287594d74054c245f9b7c2356af9", checked := Try.checked }
namespace Rows
def none {H : Type} : Left H := { results := [], args := [] }

/-- 'laws.FnExactCauseWord': WHATEVER THE INPUT: true; the input reads as it did. -/
def fnExactCauseWordSpec : ChangeSpec := { name := "fnExactCauseWord", fn := fun _ => fun
  | [d] => { results := [.lit (.bool true)], args := [d] }
  | _ => none }
def fnExactCauseWordRow : OpenClaim := { program := "ytkklokkldgkacaa", sum := "93ca268214e82a7604a42478086598c457e4287594d74054c245f9b7c2356af9", func := "loop.example/g00356/laws.FnExactCauseWord", spec := "fnExactCauseWord", apart := false }
def FnExactCauseWordSaid : Prop := fnExactCauseWordRow.holds Try.pinned (OpenSpec.ofChange fnExactCauseWordSpec)

/-- ITS FALSE NEIGHBOUR: 'it returns false'. Refute it at one input. -/
def fnExactCauseWordWrong : ChangeSpec := { name := "fnExactCauseWord", fn := fun _ => fun
  | [d] => { results := [.lit (.bool false)], args := [d] }
  | _ => none }
def FnExactCauseWordWrongFalsely : Prop := fnExactCauseWordRow.holds Try.pinned (OpenSpec.ofChange fnExactCauseWordWrong)

/-- 'laws.FnExactRecordsHold': WHATEVER THE INPUT: true; the input reads as it did. -/
def fnExactRecordsHoldSpec : ChangeSpec := { name := "fnExactRecordsHold", fn := fun _ => fun
  | [d] => { results := [.lit (.bool true)], args := [d] }
  | _ => none }
def fnExactRecordsHoldRow : OpenClaim := { program := "ytkklokkldgkacaa", sum := "93ca268214e82a7604a42478086598c457e4287594d74054c245f9b7c2356af9", func := "loop.example/g00356/laws.FnExactRecordsHold", spec := "fnExactRecordsHold", apart := false }
def FnExactRecordsHoldSaid : Prop := fnExactRecordsHoldRow.holds Try.pinned (OpenSpec.ofChange fnExactRecordsHoldSpec)

/-- ITS FALSE NEIGHBOUR: 'it returns false'. Refute it at one input. -/
def fnExactRecordsHoldWrong : ChangeSpec := { name := "fnExactRecordsHold", fn := fun _ => fun
  | [d] => { results := [.lit (.bool false)], args := [d] }
  | _ => none }
def FnExactRecordsHoldWrongFalsely : Prop := fnExactRecordsHoldRow.holds Try.pinned (OpenSpec.ofChange fnExactRecordsHoldWrong)

/-- 'laws.FnExactSessionAt': WHATEVER THE INPUT: true; the input reads as it did. -/
def fnExactSessionAtSpec : ChangeSpec := { name := "fnExactSessionAt", fn := fun _ => fun
  | [d1, d2, d3] => { results := [.lit (.bool true)], args := [d1, d2, d3] }
  | _ => none }
def fnExactSessionAtRow : OpenClaim := { program := "ytkklokkldgkacaa", sum := "93ca268214e82a7604a42478086598c457e4287594d74054c245f9b7c2356af9", func := "loop.example/g00356/laws.FnExactSessionAt", spec := "fnExactSessionAt", unfollowed := true, recurses := true, apart := false }
def FnExactSessionAtSaid : Prop := fnExactSessionAtRow.holds Try.pinned (OpenSpec.ofChange fnExactSessionAtSpec)

/-- ITS FALSE NEIGHBOUR: 'it returns false'. Refute it at one input. -/
def fnExactSessionAtWrong : ChangeSpec := { name := "fnExactSessionAt", fn := fun _ => fun
  | [d1, d2, d3] => { results := [.lit (.bool false)], args := [d1, d2, d3] }
  | _ => none }
def FnExactSessionAtWrongFalsely : Prop := fnExactSessionAtRow.holds Try.pinned (OpenSpec.ofChange fnExactSessionAtWrong)

/- THE SECOND FORM. 'bulk': how many values and letters a reading holds, each counted each time it is reached (what is shared counts as often as it is met; a slice's spare places count too). A statement '..UptoSaid' is the law's where the arguments, and the package variables that the reading takes, are together of bulk at most 1048576: NARROWER than '..Said'. Prove '..Said' where nothing that the law and all that it calls make is longer than what came in: it says more and counts as full. Else prove '..UptoSaid'. A law counts once. -/
mutual
def uptoBulk {H : Type} : DataW H → Nat
  | .lit (.string bytes) => bytes.length + 1
  | .lit _ => 1
  | .nil => 1
  | .ptr d => uptoBulk d + 1
  | .slice elems spare => uptoBulkAll elems + uptoBulkAll spare + 1
  | .agg parts => uptoBulkAll parts + 1
  | .iface _ d => uptoBulk d + 1
  | .map entries => uptoBulkEntries entries + 1
  | .held _ => 1
def uptoBulkAll {H : Type} : List (DataW H) → Nat
  | [] => 0
  | d :: r => uptoBulk d + uptoBulkAll r
def uptoBulkEntries {H : Type} : List (Lit × DataW H) → Nat
  | [] => 0
  | x :: r => uptoBulkEntry x + uptoBulkEntries r
def uptoBulkEntry {H : Type} : Lit × DataW H → Nat
  | (.string bytes, d) => bytes.length + uptoBulk d + 1
  | (_, d) => uptoBulk d + 1
 end
def uptoSmall : (H : Type) → List (DataW H) → Bool := fun _ ds => decide (uptoBulkAll ds ≤ 1048576)
def OpenSpec.upto (s : _root_.Go.ChangeSpec) : _root_.Go.OpenSpec := { _root_.Go.OpenSpec.ofChange s with cond := some uptoSmall }

/-- 'laws.FnExactCauseWord', WHERE WHAT IT READS IS OF BULK AT MOST 1048576: true; the input reads as it did. -/
def fnExactCauseWordUptoRow : OpenClaim := { program := "ytkklokkldgkacaa", sum := "93ca268214e82a7604a42478086598c457e4287594d74054c245f9b7c2356af9", func := "loop.example/g00356/laws.FnExactCauseWord", spec := "fnExactCauseWord", apart := false, narrowed := true }
def FnExactCauseWordUptoSaid : Prop := fnExactCauseWordUptoRow.holds Try.pinned (OpenSpec.upto fnExactCauseWordSpec)

/-- 'laws.FnExactRecordsHold', WHERE WHAT IT READS IS OF BULK AT MOST 1048576: true; the input reads as it did. -/
def fnExactRecordsHoldUptoRow : OpenClaim := { program := "ytkklokkldgkacaa", sum := "93ca268214e82a7604a42478086598c457e4287594d74054c245f9b7c2356af9", func := "loop.example/g00356/laws.FnExactRecordsHold", spec := "fnExactRecordsHold", apart := false, narrowed := true }
def FnExactRecordsHoldUptoSaid : Prop := fnExactRecordsHoldUptoRow.holds Try.pinned (OpenSpec.upto fnExactRecordsHoldSpec)

/-- 'laws.FnExactSessionAt', WHERE WHAT IT READS IS OF BULK AT MOST 1048576: true; the input reads as it did. -/
def fnExactSessionAtUptoRow : OpenClaim := { program := "ytkklokkldgkacaa", sum := "93ca268214e82a7604a42478086598c457e4287594d74054c245f9b7c2356af9", func := "loop.example/g00356/laws.FnExactSessionAt", spec := "fnExactSessionAt", unfollowed := true, recurses := true, apart := false, narrowed := true }
def FnExactSessionAtUptoSaid : Prop := fnExactSessionAtUptoRow.holds Try.pinned (OpenSpec.upto fnExactSessionAtSpec)

end Rows
end Go.Proofs.Ytkklokkldgkacaa
