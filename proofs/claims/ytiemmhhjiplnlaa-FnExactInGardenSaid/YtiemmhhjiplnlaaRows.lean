/-
  No cell of these rows narrows 'for every input' (looked for: loops, veiled, ifaces, maps, wideKeys, modest, calm, conditions, laid).
  DERIVED. THE GIVEN ROWS OF THIS SEAT. 8 by the template 'for every input the law returns true; each argument reads behind the call as it read before'; 0 by the template 'total and deterministic' (their statements: YtiemmhhjiplnlaaTotals.lean).
  GIVEN WITH THE SEED: the statements are not yours to turn. If you find one false, say at which input.
  Laid BY PROGRAM, IN A SANDBOX (cutbox-rows.mjs): the forced cells as the released guide's own fill.sh prints them over the translation d4789f102fbe157c… (all of the seat's roots in one cut). By AI agents, Wed Nov 11 2026. No macro, syntax, notation, axiom, sorry.
-/
import Derived.Test.YtiemmhhjiplnlaaChecked
import GoSem.Claim
import GoSem.ClaimJoined
import GoSem.ClaimMapViews
import Derived.JoinedTies
import Derived.KernelRfl
namespace Go.Proofs.Ytiemmhhjiplnlaa
/- THE CELL 'sum', in the pinned program and in every row, IS THE sha256 OF THE DUMP (.gsa) THAT YtiemmhhjiplnlaaProg.lean LOADS. Nothing in Lean hashes anything: it is a label: what it is worth is what the hold of that sum in a sandbox is worth. -/
noncomputable def Try.pinned : Pinned := { name := "ytiemmhhjiplnlaa", sum := "d4789f102fbe157ce137a4b9bfac370eb4415648d232b487960d052efce8b4db", checked := Try.checked }
namespace Rows
def none {H : Type} : Left H := { results := [], args := [] }

/-- 'laws.FnExactNetHas': WHATEVER THE INPUT: true; the input reads as it did. -/
def fnExactNetHasSpec : ChangeSpec := { name := "fnExactNetHas", fn := fun _ => fun
  | [d1, d2] => { results := [.lit (.bool true)], args := [d1, d2] }
  | _ => none }
def fnExactNetHasRow : OpenClaim := { program := "ytiemmhhjiplnlaa", sum := "d4789f102fbe157ce137a4b9bfac370eb4415648d232b487960d052efce8b4db", func := "loop.example/g00356/laws.FnExactNetHas", spec := "fnExactNetHas", apart := false }
def FnExactNetHasSaid : Prop := fnExactNetHasRow.holds Try.pinned (OpenSpec.ofChange fnExactNetHasSpec)

/-- ITS FALSE NEIGHBOUR: 'it returns false'. Refute it at one input. -/
def fnExactNetHasWrong : ChangeSpec := { name := "fnExactNetHas", fn := fun _ => fun
  | [d1, d2] => { results := [.lit (.bool false)], args := [d1, d2] }
  | _ => none }
def FnExactNetHasWrongFalsely : Prop := fnExactNetHasRow.holds Try.pinned (OpenSpec.ofChange fnExactNetHasWrong)

/-- 'laws.FnExactRuleOK': WHATEVER THE INPUT: true; the input reads as it did. -/
def fnExactRuleOKSpec : ChangeSpec := { name := "fnExactRuleOK", fn := fun _ => fun
  | [d] => { results := [.lit (.bool true)], args := [d] }
  | _ => none }
def fnExactRuleOKRow : OpenClaim := { program := "ytiemmhhjiplnlaa", sum := "d4789f102fbe157ce137a4b9bfac370eb4415648d232b487960d052efce8b4db", func := "loop.example/g00356/laws.FnExactRuleOK", spec := "fnExactRuleOK", apart := false }
def FnExactRuleOKSaid : Prop := fnExactRuleOKRow.holds Try.pinned (OpenSpec.ofChange fnExactRuleOKSpec)

/-- ITS FALSE NEIGHBOUR: 'it returns false'. Refute it at one input. -/
def fnExactRuleOKWrong : ChangeSpec := { name := "fnExactRuleOK", fn := fun _ => fun
  | [d] => { results := [.lit (.bool false)], args := [d] }
  | _ => none }
def FnExactRuleOKWrongFalsely : Prop := fnExactRuleOKRow.holds Try.pinned (OpenSpec.ofChange fnExactRuleOKWrong)

/-- 'laws.FnExactLongestNet': WHATEVER THE INPUT: true; the input reads as it did. -/
def fnExactLongestNetSpec : ChangeSpec := { name := "fnExactLongestNet", fn := fun _ => fun
  | [d1, d2] => { results := [.lit (.bool true)], args := [d1, d2] }
  | _ => none }
def fnExactLongestNetRow : OpenClaim := { program := "ytiemmhhjiplnlaa", sum := "d4789f102fbe157ce137a4b9bfac370eb4415648d232b487960d052efce8b4db", func := "loop.example/g00356/laws.FnExactLongestNet", spec := "fnExactLongestNet", unfollowed := true, recurses := true, apart := false }
def FnExactLongestNetSaid : Prop := fnExactLongestNetRow.holds Try.pinned (OpenSpec.ofChange fnExactLongestNetSpec)

/-- ITS FALSE NEIGHBOUR: 'it returns false'. Refute it at one input. -/
def fnExactLongestNetWrong : ChangeSpec := { name := "fnExactLongestNet", fn := fun _ => fun
  | [d1, d2] => { results := [.lit (.bool false)], args := [d1, d2] }
  | _ => none }
def FnExactLongestNetWrongFalsely : Prop := fnExactLongestNetRow.holds Try.pinned (OpenSpec.ofChange fnExactLongestNetWrong)

/-- 'laws.FnExactRoleOK': WHATEVER THE INPUT: true; the input reads as it did. -/
def fnExactRoleOKSpec : ChangeSpec := { name := "fnExactRoleOK", fn := fun _ => fun
  | [d] => { results := [.lit (.bool true)], args := [d] }
  | _ => none }
def fnExactRoleOKRow : OpenClaim := { program := "ytiemmhhjiplnlaa", sum := "d4789f102fbe157ce137a4b9bfac370eb4415648d232b487960d052efce8b4db", func := "loop.example/g00356/laws.FnExactRoleOK", spec := "fnExactRoleOK", unfollowed := true, recurses := true, apart := false }
def FnExactRoleOKSaid : Prop := fnExactRoleOKRow.holds Try.pinned (OpenSpec.ofChange fnExactRoleOKSpec)

/-- ITS FALSE NEIGHBOUR: 'it returns false'. Refute it at one input. -/
def fnExactRoleOKWrong : ChangeSpec := { name := "fnExactRoleOK", fn := fun _ => fun
  | [d] => { results := [.lit (.bool false)], args := [d] }
  | _ => none }
def FnExactRoleOKWrongFalsely : Prop := fnExactRoleOKRow.holds Try.pinned (OpenSpec.ofChange fnExactRoleOKWrong)

/-- 'laws.FnExactFirstRule': WHATEVER THE INPUT: true; the input reads as it did. -/
def fnExactFirstRuleSpec : ChangeSpec := { name := "fnExactFirstRule", fn := fun _ => fun
  | [d1, d2, d3, d4] => { results := [.lit (.bool true)], args := [d1, d2, d3, d4] }
  | _ => none }
def fnExactFirstRuleRow : OpenClaim := { program := "ytiemmhhjiplnlaa", sum := "d4789f102fbe157ce137a4b9bfac370eb4415648d232b487960d052efce8b4db", func := "loop.example/g00356/laws.FnExactFirstRule", spec := "fnExactFirstRule", unfollowed := true, recurses := true, apart := false }
def FnExactFirstRuleSaid : Prop := fnExactFirstRuleRow.holds Try.pinned (OpenSpec.ofChange fnExactFirstRuleSpec)

/-- ITS FALSE NEIGHBOUR: 'it returns false'. Refute it at one input. -/
def fnExactFirstRuleWrong : ChangeSpec := { name := "fnExactFirstRule", fn := fun _ => fun
  | [d1, d2, d3, d4] => { results := [.lit (.bool false)], args := [d1, d2, d3, d4] }
  | _ => none }
def FnExactFirstRuleWrongFalsely : Prop := fnExactFirstRuleRow.holds Try.pinned (OpenSpec.ofChange fnExactFirstRuleWrong)

/-- 'laws.FnExactRoleAllows': WHATEVER THE INPUT: true; the input reads as it did. -/
def fnExactRoleAllowsSpec : ChangeSpec := { name := "fnExactRoleAllows", fn := fun _ => fun
  | [d1, d2, d3, d4] => { results := [.lit (.bool true)], args := [d1, d2, d3, d4] }
  | _ => none }
def fnExactRoleAllowsRow : OpenClaim := { program := "ytiemmhhjiplnlaa", sum := "d4789f102fbe157ce137a4b9bfac370eb4415648d232b487960d052efce8b4db", func := "loop.example/g00356/laws.FnExactRoleAllows", spec := "fnExactRoleAllows", unfollowed := true, recurses := true, apart := false }
def FnExactRoleAllowsSaid : Prop := fnExactRoleAllowsRow.holds Try.pinned (OpenSpec.ofChange fnExactRoleAllowsSpec)

/-- ITS FALSE NEIGHBOUR: 'it returns false'. Refute it at one input. -/
def fnExactRoleAllowsWrong : ChangeSpec := { name := "fnExactRoleAllows", fn := fun _ => fun
  | [d1, d2, d3, d4] => { results := [.lit (.bool false)], args := [d1, d2, d3, d4] }
  | _ => none }
def FnExactRoleAllowsWrongFalsely : Prop := fnExactRoleAllowsRow.holds Try.pinned (OpenSpec.ofChange fnExactRoleAllowsWrong)

/-- 'laws.FnExactConfigOK': WHATEVER THE INPUT: true; the input reads as it did. -/
def fnExactConfigOKSpec : ChangeSpec := { name := "fnExactConfigOK", fn := fun _ => fun
  | [d] => { results := [.lit (.bool true)], args := [d] }
  | _ => none }
def fnExactConfigOKRow : OpenClaim := { program := "ytiemmhhjiplnlaa", sum := "d4789f102fbe157ce137a4b9bfac370eb4415648d232b487960d052efce8b4db", func := "loop.example/g00356/laws.FnExactConfigOK", spec := "fnExactConfigOK", unfollowed := true, recurses := true, apart := false }
def FnExactConfigOKSaid : Prop := fnExactConfigOKRow.holds Try.pinned (OpenSpec.ofChange fnExactConfigOKSpec)

/-- ITS FALSE NEIGHBOUR: 'it returns false'. Refute it at one input. -/
def fnExactConfigOKWrong : ChangeSpec := { name := "fnExactConfigOK", fn := fun _ => fun
  | [d] => { results := [.lit (.bool false)], args := [d] }
  | _ => none }
def FnExactConfigOKWrongFalsely : Prop := fnExactConfigOKRow.holds Try.pinned (OpenSpec.ofChange fnExactConfigOKWrong)

/-- 'laws.FnExactInGarden': WHATEVER THE INPUT: true; the input reads as it did. -/
def fnExactInGardenSpec : ChangeSpec := { name := "fnExactInGarden", fn := fun _ => fun
  | [d1, d2, d3] => { results := [.lit (.bool true)], args := [d1, d2, d3] }
  | _ => none }
def fnExactInGardenRow : OpenClaim := { program := "ytiemmhhjiplnlaa", sum := "d4789f102fbe157ce137a4b9bfac370eb4415648d232b487960d052efce8b4db", func := "loop.example/g00356/laws.FnExactInGarden", spec := "fnExactInGarden", unfollowed := true, recurses := true, apart := false }
def FnExactInGardenSaid : Prop := fnExactInGardenRow.holds Try.pinned (OpenSpec.ofChange fnExactInGardenSpec)

/-- ITS FALSE NEIGHBOUR: 'it returns false'. Refute it at one input. -/
def fnExactInGardenWrong : ChangeSpec := { name := "fnExactInGarden", fn := fun _ => fun
  | [d1, d2, d3] => { results := [.lit (.bool false)], args := [d1, d2, d3] }
  | _ => none }
def FnExactInGardenWrongFalsely : Prop := fnExactInGardenRow.holds Try.pinned (OpenSpec.ofChange fnExactInGardenWrong)

/- THE SECOND FORM. 'bulk': how many values and letters a reading holds, each counted each time it is reached (what is shared counts as often as it is met; a slice's spare places count too). A statement '..UptoSaid' is the law's where the arguments, and the package variables that the reading takes, are together of bulk at most 1048576: NARROWER than '..Said'. Prove '..Said' where nothing that the law and all that it calls make is longer than what came in: it says more and counts as full. Else prove '..UptoSaid'. A law counts once. -/
mutual
def uptoBulk {H : Type} : DataW H → Nat
  | .lit (.string bytes) => bytes.length + 1
  | .lit _ => 1
  | .nil => 1
  | .ptr d => uptoBulk d + 1
  | .slice elems spare => uptoBulkAll elems + uptoBulkAll spare + 1
  | .agg parts => uptoBulkAll parts + 1
  | .iface _ d => uptoBulk d + 1
  | .map entries => uptoBulkEntries entries + 1
  | .held _ => 1
def uptoBulkAll {H : Type} : List (DataW H) → Nat
  | [] => 0
  | d :: r => uptoBulk d + uptoBulkAll r
def uptoBulkEntries {H : Type} : List (Lit × DataW H) → Nat
  | [] => 0
  | x :: r => uptoBulkEntry x + uptoBulkEntries r
def uptoBulkEntry {H : Type} : Lit × DataW H → Nat
  | (.string bytes, d) => bytes.length + uptoBulk d + 1
  | (_, d) => uptoBulk d + 1
 end
def uptoSmall : (H : Type) → List (DataW H) → Bool := fun _ ds => decide (uptoBulkAll ds ≤ 1048576)
def OpenSpec.upto (s : _root_.Go.ChangeSpec) : _root_.Go.OpenSpec := { _root_.Go.OpenSpec.ofChange s with cond := some uptoSmall }

/-- 'laws.FnExactNetHas', WHERE WHAT IT READS IS OF BULK AT MOST 1048576: true; the input reads as it did. -/
def fnExactNetHasUptoRow : OpenClaim := { program := "ytiemmhhjiplnlaa", sum := "d4789f102fbe157ce137a4b9bfac370eb4415648d232b487960d052efce8b4db", func := "loop.example/g00356/laws.FnExactNetHas", spec := "fnExactNetHas", apart := false, narrowed := true }
def FnExactNetHasUptoSaid : Prop := fnExactNetHasUptoRow.holds Try.pinned (OpenSpec.upto fnExactNetHasSpec)

/-- 'laws.FnExactRuleOK', WHERE WHAT IT READS IS OF BULK AT MOST 1048576: true; the input reads as it did. -/
def fnExactRuleOKUptoRow : OpenClaim := { program := "ytiemmhhjiplnlaa", sum := "d4789f102fbe157ce137a4b9bfac370eb4415648d232b487960d052efce8b4db", func := "loop.example/g00356/laws.FnExactRuleOK", spec := "fnExactRuleOK", apart := false, narrowed := true }
def FnExactRuleOKUptoSaid : Prop := fnExactRuleOKUptoRow.holds Try.pinned (OpenSpec.upto fnExactRuleOKSpec)

/-- 'laws.FnExactLongestNet', WHERE WHAT IT READS IS OF BULK AT MOST 1048576: true; the input reads as it did. -/
def fnExactLongestNetUptoRow : OpenClaim := { program := "ytiemmhhjiplnlaa", sum := "d4789f102fbe157ce137a4b9bfac370eb4415648d232b487960d052efce8b4db", func := "loop.example/g00356/laws.FnExactLongestNet", spec := "fnExactLongestNet", unfollowed := true, recurses := true, apart := false, narrowed := true }
def FnExactLongestNetUptoSaid : Prop := fnExactLongestNetUptoRow.holds Try.pinned (OpenSpec.upto fnExactLongestNetSpec)

/-- 'laws.FnExactRoleOK', WHERE WHAT IT READS IS OF BULK AT MOST 1048576: true; the input reads as it did. -/
def fnExactRoleOKUptoRow : OpenClaim := { program := "ytiemmhhjiplnlaa", sum := "d4789f102fbe157ce137a4b9bfac370eb4415648d232b487960d052efce8b4db", func := "loop.example/g00356/laws.FnExactRoleOK", spec := "fnExactRoleOK", unfollowed := true, recurses := true, apart := false, narrowed := true }
def FnExactRoleOKUptoSaid : Prop := fnExactRoleOKUptoRow.holds Try.pinned (OpenSpec.upto fnExactRoleOKSpec)

/-- 'laws.FnExactFirstRule', WHERE WHAT IT READS IS OF BULK AT MOST 1048576: true; the input reads as it did. -/
def fnExactFirstRuleUptoRow : OpenClaim := { program := "ytiemmhhjiplnlaa", sum := "d4789f102fbe157ce137a4b9bfac370eb4415648d232b487960d052efce8b4db", func := "loop.example/g00356/laws.FnExactFirstRule", spec := "fnExactFirstRule", unfollowed := true, recurses := true, apart := false, narrowed := true }
def FnExactFirstRuleUptoSaid : Prop := fnExactFirstRuleUptoRow.holds Try.pinned (OpenSpec.upto fnExactFirstRuleSpec)

/-- 'laws.FnExactRoleAllows', WHERE WHAT IT READS IS OF BULK AT MOST 1048576: true; the input reads as it did. -/
def fnExactRoleAllowsUptoRow : OpenClaim := { program := "ytiemmhhjiplnlaa", sum := "d4789f102fbe157ce137a4b9bfac370eb4415648d232b487960d052efce8b4db", func := "loop.example/g00356/laws.FnExactRoleAllows", spec := "fnExactRoleAllows", unfollowed := true, recurses := true, apart := false, narrowed := true }
def FnExactRoleAllowsUptoSaid : Prop := fnExactRoleAllowsUptoRow.holds Try.pinned (OpenSpec.upto fnExactRoleAllowsSpec)

/-- 'laws.FnExactConfigOK', WHERE WHAT IT READS IS OF BULK AT MOST 1048576: true; the input reads as it did. -/
def fnExactConfigOKUptoRow : OpenClaim := { program := "ytiemmhhjiplnlaa", sum := "d4789f102fbe157ce137a4b9bfac370eb4415648d232b487960d052efce8b4db", func := "loop.example/g00356/laws.FnExactConfigOK", spec := "fnExactConfigOK", unfollowed := true, recurses := true, apart := false, narrowed := true }
def FnExactConfigOKUptoSaid : Prop := fnExactConfigOKUptoRow.holds Try.pinned (OpenSpec.upto fnExactConfigOKSpec)

/-- 'laws.FnExactInGarden', WHERE WHAT IT READS IS OF BULK AT MOST 1048576: true; the input reads as it did. -/
def fnExactInGardenUptoRow : OpenClaim := { program := "ytiemmhhjiplnlaa", sum := "d4789f102fbe157ce137a4b9bfac370eb4415648d232b487960d052efce8b4db", func := "loop.example/g00356/laws.FnExactInGarden", spec := "fnExactInGarden", unfollowed := true, recurses := true, apart := false, narrowed := true }
def FnExactInGardenUptoSaid : Prop := fnExactInGardenUptoRow.holds Try.pinned (OpenSpec.upto fnExactInGardenSpec)

end Rows
end Go.Proofs.Ytiemmhhjiplnlaa
