/-
  No cell of these rows narrows 'for every input' (looked for: loops, veiled, ifaces, maps, wideKeys, modest, calm, conditions, laid).
  DERIVED. THE GIVEN ROWS OF THIS SEAT. 4 by the template 'for every input the law returns true; each argument reads behind the call as it read before'; 0 by the template 'total and deterministic' (their statements: YtkklokkldgkacaaGreatTotals.lean).
  GIVEN WITH THE SEED: the statements are not yours to turn. If you find one false, say at which input.
  Laid BY PROGRAM, IN A SANDBOX (cutbox-rows.mjs): the forced cells as the released guide's own fill.sh prints them over the translation 1f552a84089d1bcc… (all of the seat's roots in one cut). By AI agents, Wed Nov 11 2026. No macro, syntax, notation, axiom, sorry.
-/
import Derived.Test.YtkklokkldgkacaaGreatChecked
import GoSem.Claim
import GoSem.ClaimJoined
import GoSem.ClaimMapViews
import Derived.JoinedTies
import Derived.KernelRfl
namespace Go.Proofs.YtkklokkldgkacaaGreat
/- THE CELL 'sum', in the pinned program and in every row, IS THE sha256 OF THE DUMP (.gsa) THAT YtkklokkldgkacaaGreatProg.lean LOADS. Nothing in Lean hashes anything: it is a label: what it is worth is what the hold of that sum in a sandbox is worth. -/
noncomputable def Tryz.pinned : Pinned := { name := "ytkklokkldgkacaagreat", sum := "1f552a84089d1bcc7faac269f7d5a2b26c83fc01ff3edc9c6d3bb6b87ac6a9e0", checked := Tryz.checked }
namespace Rows
def none {H : Type} : Left H := { results := [], args := [] }

/-- 'laws.FnExactGuestsOK': WHATEVER THE INPUT: true; the input reads as it did. -/
def fnExactGuestsOKSpec : ChangeSpec := { name := "fnExactGuestsOK", fn := fun _ => fun
  | [d1, d2] => { results := [.lit (.bool true)], args := [d1, d2] }
  | _ => none }
def fnExactGuestsOKRow : OpenClaim := { program := "ytkklokkldgkacaagreat", sum := "1f552a84089d1bcc7faac269f7d5a2b26c83fc01ff3edc9c6d3bb6b87ac6a9e0", func := "loop.example/g00356/laws.FnExactGuestsOK", spec := "fnExactGuestsOK", unfollowed := true, recurses := true, apart := false }
def FnExactGuestsOKSaid : Prop := fnExactGuestsOKRow.holds Tryz.pinned (OpenSpec.ofChange fnExactGuestsOKSpec)

/-- ITS FALSE NEIGHBOUR: 'it returns false'. Refute it at one input. -/
def fnExactGuestsOKWrong : ChangeSpec := { name := "fnExactGuestsOK", fn := fun _ => fun
  | [d1, d2] => { results := [.lit (.bool false)], args := [d1, d2] }
  | _ => none }
def FnExactGuestsOKWrongFalsely : Prop := fnExactGuestsOKRow.holds Tryz.pinned (OpenSpec.ofChange fnExactGuestsOKWrong)

/-- 'laws.FnExactEndSession': WHATEVER THE INPUT: true; the input reads as it did. -/
def fnExactEndSessionSpec : ChangeSpec := { name := "fnExactEndSession", fn := fun _ => fun
  | [d1, d2, d3, d4, d5] => { results := [.lit (.bool true)], args := [d1, d2, d3, d4, d5] }
  | _ => none }
def fnExactEndSessionRow : OpenClaim := { program := "ytkklokkldgkacaagreat", sum := "1f552a84089d1bcc7faac269f7d5a2b26c83fc01ff3edc9c6d3bb6b87ac6a9e0", func := "loop.example/g00356/laws.FnExactEndSession", spec := "fnExactEndSession", unfollowed := true, recurses := true, apart := false }
def FnExactEndSessionSaid : Prop := fnExactEndSessionRow.holds Tryz.pinned (OpenSpec.ofChange fnExactEndSessionSpec)

/-- ITS FALSE NEIGHBOUR: 'it returns false'. Refute it at one input. -/
def fnExactEndSessionWrong : ChangeSpec := { name := "fnExactEndSession", fn := fun _ => fun
  | [d1, d2, d3, d4, d5] => { results := [.lit (.bool false)], args := [d1, d2, d3, d4, d5] }
  | _ => none }
def FnExactEndSessionWrongFalsely : Prop := fnExactEndSessionRow.holds Tryz.pinned (OpenSpec.ofChange fnExactEndSessionWrong)

/-- 'laws.FnExactExpireSessions': WHATEVER THE INPUT: true; the input reads as it did. -/
def fnExactExpireSessionsSpec : ChangeSpec := { name := "fnExactExpireSessions", fn := fun _ => fun
  | [d1, d2, d3] => { results := [.lit (.bool true)], args := [d1, d2, d3] }
  | _ => none }
def fnExactExpireSessionsRow : OpenClaim := { program := "ytkklokkldgkacaagreat", sum := "1f552a84089d1bcc7faac269f7d5a2b26c83fc01ff3edc9c6d3bb6b87ac6a9e0", func := "loop.example/g00356/laws.FnExactExpireSessions", spec := "fnExactExpireSessions", unfollowed := true, recurses := true, apart := false }
def FnExactExpireSessionsSaid : Prop := fnExactExpireSessionsRow.holds Tryz.pinned (OpenSpec.ofChange fnExactExpireSessionsSpec)

/-- ITS FALSE NEIGHBOUR: 'it returns false'. Refute it at one input. -/
def fnExactExpireSessionsWrong : ChangeSpec := { name := "fnExactExpireSessions", fn := fun _ => fun
  | [d1, d2, d3] => { results := [.lit (.bool false)], args := [d1, d2, d3] }
  | _ => none }
def FnExactExpireSessionsWrongFalsely : Prop := fnExactExpireSessionsRow.holds Tryz.pinned (OpenSpec.ofChange fnExactExpireSessionsWrong)

/-- 'laws.FnExactEndMoved': WHATEVER THE INPUT: true; the input reads as it did. -/
def fnExactEndMovedSpec : ChangeSpec := { name := "fnExactEndMoved", fn := fun _ => fun
  | [d1, d2, d3, d4, d5] => { results := [.lit (.bool true)], args := [d1, d2, d3, d4, d5] }
  | _ => none }
def fnExactEndMovedRow : OpenClaim := { program := "ytkklokkldgkacaagreat", sum := "1f552a84089d1bcc7faac269f7d5a2b26c83fc01ff3edc9c6d3bb6b87ac6a9e0", func := "loop.example/g00356/laws.FnExactEndMoved", spec := "fnExactEndMoved", unfollowed := true, recurses := true, apart := false }
def FnExactEndMovedSaid : Prop := fnExactEndMovedRow.holds Tryz.pinned (OpenSpec.ofChange fnExactEndMovedSpec)

/-- ITS FALSE NEIGHBOUR: 'it returns false'. Refute it at one input. -/
def fnExactEndMovedWrong : ChangeSpec := { name := "fnExactEndMoved", fn := fun _ => fun
  | [d1, d2, d3, d4, d5] => { results := [.lit (.bool false)], args := [d1, d2, d3, d4, d5] }
  | _ => none }
def FnExactEndMovedWrongFalsely : Prop := fnExactEndMovedRow.holds Tryz.pinned (OpenSpec.ofChange fnExactEndMovedWrong)

/- THE SECOND FORM. 'bulk': how many values and letters a reading holds, each counted each time it is reached (what is shared counts as often as it is met; a slice's spare places count too). A statement '..UptoSaid' is the law's where the arguments, and the package variables that the reading takes, are together of bulk at most 1048576: NARROWER than '..Said'. Prove '..Said' where nothing that the law and all that it calls make is longer than what came in: it says more and counts as full. Else prove '..UptoSaid'. A law counts once. -/
mutual
def uptoBulk {H : Type} : DataW H → Nat
  | .lit (.string bytes) => bytes.length + 1
  | .lit _ => 1
  | .nil => 1
  | .ptr d => uptoBulk d + 1
  | .slice elems spare => uptoBulkAll elems + uptoBulkAll spare + 1
  | .agg parts => uptoBulkAll parts + 1
  | .iface _ d => uptoBulk d + 1
  | .map entries => uptoBulkEntries entries + 1
  | .held _ => 1
def uptoBulkAll {H : Type} : List (DataW H) → Nat
  | [] => 0
  | d :: r => uptoBulk d + uptoBulkAll r
def uptoBulkEntries {H : Type} : List (Lit × DataW H) → Nat
  | [] => 0
  | x :: r => uptoBulkEntry x + uptoBulkEntries r
def uptoBulkEntry {H : Type} : Lit × DataW H → Nat
  | (.string bytes, d) => bytes.length + uptoBulk d + 1
  | (_, d) => uptoBulk d + 1
 end
def uptoSmall : (H : Type) → List (DataW H) → Bool := fun _ ds => decide (uptoBulkAll ds ≤ 1048576)
def OpenSpec.upto (s : _root_.Go.ChangeSpec) : _root_.Go.OpenSpec := { _root_.Go.OpenSpec.ofChange s with cond := some uptoSmall }

/-- 'laws.FnExactGuestsOK', WHERE WHAT IT READS IS OF BULK AT MOST 1048576: true; the input reads as it did. -/
def fnExactGuestsOKUptoRow : OpenClaim := { program := "ytkklokkldgkacaagreat", sum := "1f552a84089d1bcc7faac269f7d5a2b26c83fc01ff3edc9c6d3bb6b87ac6a9e0", func := "loop.example/g00356/laws.FnExactGuestsOK", spec := "fnExactGuestsOK", unfollowed := true, recurses := true, apart := false, narrowed := true }
def FnExactGuestsOKUptoSaid : Prop := fnExactGuestsOKUptoRow.holds Tryz.pinned (OpenSpec.upto fnExactGuestsOKSpec)

/-- 'laws.FnExactEndSession', WHERE WHAT IT READS IS OF BULK AT MOST 1048576: true; the input reads as it did. -/
def fnExactEndSessionUptoRow : OpenClaim := { program := "ytkklokkldgkacaagreat", sum := "1f552a84089d1bcc7faac269f7d5a2b26c83fc01ff3edc9c6d3bb6b87ac6a9e0", func := "loop.example/g00356/laws.FnExactEndSession", spec := "fnExactEndSession", unfollowed := true, recurses := true, apart := false, narrowed := true }
def FnExactEndSessionUptoSaid : Prop := fnExactEndSessionUptoRow.holds Tryz.pinned (OpenSpec.upto fnExactEndSessionSpec)

/-- 'laws.FnExactExpireSessions', WHERE WHAT IT READS IS OF BULK AT MOST 1048576: true; the input reads as it did. -/
def fnExactExpireSessionsUptoRow : OpenClaim := { program := "ytkklokkldgkacaagreat", sum := "1f552a84089d1bcc7faac269f7d5a2b26c83fc01ff3edc9c6d3bb6b87ac6a9e0", func := "loop.example/g00356/laws.FnExactExpireSessions", spec := "fnExactExpireSessions", unfollowed := true, recurses := true, apart := false, narrowed := true }
def FnExactExpireSessionsUptoSaid : Prop := fnExactExpireSessionsUptoRow.holds Tryz.pinned (OpenSpec.upto fnExactExpireSessionsSpec)

/-- 'laws.FnExactEndMoved', WHERE WHAT IT READS IS OF BULK AT MOST 1048576: true; the input reads as it did. -/
def fnExactEndMovedUptoRow : OpenClaim := { program := "ytkklokkldgkacaagreat", sum := "1f552a84089d1bcc7faac269f7d5a2b26c83fc01ff3edc9c6d3bb6b87ac6a9e0", func := "loop.example/g00356/laws.FnExactEndMoved", spec := "fnExactEndMoved", unfollowed := true, recurses := true, apart := false, narrowed := true }
def FnExactEndMovedUptoSaid : Prop := fnExactEndMovedUptoRow.holds Tryz.pinned (OpenSpec.upto fnExactEndMovedSpec)

end Rows
end Go.Proofs.YtkklokkldgkacaaGreat
