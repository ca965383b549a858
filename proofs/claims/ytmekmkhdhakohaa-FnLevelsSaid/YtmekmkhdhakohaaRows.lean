/-
  No cell of these rows narrows 'for every input' (looked for: loops, veiled, ifaces, maps, wideKeys, modest, calm, conditions, laid).
  DERIVED. THE GIVEN ROWS OF THIS SEAT. 10 by the template 'for every input the law returns true; each argument reads behind the call as it read before'; 0 by the template 'total and deterministic' (their statements: YtmekmkhdhakohaaTotals.lean).
  GIVEN WITH THE SEED: the statements are not yours to turn. If you find one false, say at which input.
  Laid BY PROGRAM, IN A SANDBOX (cutbox-rows.mjs): the forced cells as the released guide's own fill.sh prints them over the translation 505a3cb6c8052142… (all of the seat's roots in one cut). By AI agents, Wed Nov 11 2026. No macro, syntax, notation, axiom, sorry.
-/
import Derived.Test.YtmekmkhdhakohaaChecked
import GoSem.Claim
import GoSem.ClaimJoined
import GoSem.ClaimMapViews
import Derived.JoinedTies
import Derived.KernelRfl
namespace Go.Proofs.Ytmekmkhdhakohaa
/- THE CELL 'sum', in the pinned program and in every row, IS THE sha256 OF THE DUMP (.gsa) THAT YtmekmkhdhakohaaProg.lean LOADS. Nothing in Lean hashes anything: it is a label: what it is worth is what the hold of that sum in a sandbox is worth. -/
noncomputable def Try.pinned : Pinned := { name := "ytmekmkhdhakohaa", sum := "505a3cb6c8052142152edabe5304170805e92bcf6467fb1e6d078ba77d971926", checked := Try.checked }
namespace Rows
def none {H : Type} : Left H := { results := [], args := [] }

/-- 'laws.FnExactStepLevel': WHATEVER THE INPUT: true; the input reads as it did. -/
def fnExactStepLevelSpec : ChangeSpec := { name := "fnExactStepLevel", fn := fun _ => fun
  | [d1, d2, d3, d4, d5] => { results := [.lit (.bool true)], args := [d1, d2, d3, d4, d5] }
  | _ => none }
def fnExactStepLevelRow : OpenClaim := { program := "ytmekmkhdhakohaa", sum := "505a3cb6c8052142152edabe5304170805e92bcf6467fb1e6d078ba77d971926", func := "loop.example/g01111/laws.FnExactStepLevel", spec := "fnExactStepLevel", apart := false }
def FnExactStepLevelSaid : Prop := fnExactStepLevelRow.holds Try.pinned (OpenSpec.ofChange fnExactStepLevelSpec)

/-- ITS FALSE NEIGHBOUR: 'it returns false'. Refute it at one input. -/
def fnExactStepLevelWrong : ChangeSpec := { name := "fnExactStepLevel", fn := fun _ => fun
  | [d1, d2, d3, d4, d5] => { results := [.lit (.bool false)], args := [d1, d2, d3, d4, d5] }
  | _ => none }
def FnExactStepLevelWrongFalsely : Prop := fnExactStepLevelRow.holds Try.pinned (OpenSpec.ofChange fnExactStepLevelWrong)

/-- 'laws.FnExactBestOrder': WHATEVER THE INPUT: true; the input reads as it did. -/
def fnExactBestOrderSpec : ChangeSpec := { name := "fnExactBestOrder", fn := fun _ => fun
  | [d1, d2, d3] => { results := [.lit (.bool true)], args := [d1, d2, d3] }
  | _ => none }
def fnExactBestOrderRow : OpenClaim := { program := "ytmekmkhdhakohaa", sum := "505a3cb6c8052142152edabe5304170805e92bcf6467fb1e6d078ba77d971926", func := "loop.example/g01111/laws.FnExactBestOrder", spec := "fnExactBestOrder", apart := false }
def FnExactBestOrderSaid : Prop := fnExactBestOrderRow.holds Try.pinned (OpenSpec.ofChange fnExactBestOrderSpec)

/-- ITS FALSE NEIGHBOUR: 'it returns false'. Refute it at one input. -/
def fnExactBestOrderWrong : ChangeSpec := { name := "fnExactBestOrder", fn := fun _ => fun
  | [d1, d2, d3] => { results := [.lit (.bool false)], args := [d1, d2, d3] }
  | _ => none }
def FnExactBestOrderWrongFalsely : Prop := fnExactBestOrderRow.holds Try.pinned (OpenSpec.ofChange fnExactBestOrderWrong)

/-- 'laws.FnExactBillsOf': WHATEVER THE INPUT: true; the input reads as it did. -/
def fnExactBillsOfSpec : ChangeSpec := { name := "fnExactBillsOf", fn := fun _ => fun
  | [d1, d2] => { results := [.lit (.bool true)], args := [d1, d2] }
  | _ => none }
def fnExactBillsOfRow : OpenClaim := { program := "ytmekmkhdhakohaa", sum := "505a3cb6c8052142152edabe5304170805e92bcf6467fb1e6d078ba77d971926", func := "loop.example/g01111/laws.FnExactBillsOf", spec := "fnExactBillsOf", apart := false }
def FnExactBillsOfSaid : Prop := fnExactBillsOfRow.holds Try.pinned (OpenSpec.ofChange fnExactBillsOfSpec)

/-- ITS FALSE NEIGHBOUR: 'it returns false'. Refute it at one input. -/
def fnExactBillsOfWrong : ChangeSpec := { name := "fnExactBillsOf", fn := fun _ => fun
  | [d1, d2] => { results := [.lit (.bool false)], args := [d1, d2] }
  | _ => none }
def FnExactBillsOfWrongFalsely : Prop := fnExactBillsOfRow.holds Try.pinned (OpenSpec.ofChange fnExactBillsOfWrong)

/-- 'laws.FnExactWorthTable': WHATEVER THE INPUT: true; the input reads as it did. -/
def fnExactWorthTableSpec : ChangeSpec := { name := "fnExactWorthTable", fn := fun _ => fun
  | [d] => { results := [.lit (.bool true)], args := [d] }
  | _ => none }
def fnExactWorthTableRow : OpenClaim := { program := "ytmekmkhdhakohaa", sum := "505a3cb6c8052142152edabe5304170805e92bcf6467fb1e6d078ba77d971926", func := "loop.example/g01111/laws.FnExactWorthTable", spec := "fnExactWorthTable", apart := false }
def FnExactWorthTableSaid : Prop := fnExactWorthTableRow.holds Try.pinned (OpenSpec.ofChange fnExactWorthTableSpec)

/-- ITS FALSE NEIGHBOUR: 'it returns false'. Refute it at one input. -/
def fnExactWorthTableWrong : ChangeSpec := { name := "fnExactWorthTable", fn := fun _ => fun
  | [d] => { results := [.lit (.bool false)], args := [d] }
  | _ => none }
def FnExactWorthTableWrongFalsely : Prop := fnExactWorthTableRow.holds Try.pinned (OpenSpec.ofChange fnExactWorthTableWrong)

/-- 'laws.FnExactTraceLevels': WHATEVER THE INPUT: true; the input reads as it did. -/
def fnExactTraceLevelsSpec : ChangeSpec := { name := "fnExactTraceLevels", fn := fun _ => fun
  | [d1, d2, d3, d4] => { results := [.lit (.bool true)], args := [d1, d2, d3, d4] }
  | _ => none }
def fnExactTraceLevelsRow : OpenClaim := { program := "ytmekmkhdhakohaa", sum := "505a3cb6c8052142152edabe5304170805e92bcf6467fb1e6d078ba77d971926", func := "loop.example/g01111/laws.FnExactTraceLevels", spec := "fnExactTraceLevels", apart := false }
def FnExactTraceLevelsSaid : Prop := fnExactTraceLevelsRow.holds Try.pinned (OpenSpec.ofChange fnExactTraceLevelsSpec)

/-- ITS FALSE NEIGHBOUR: 'it returns false'. Refute it at one input. -/
def fnExactTraceLevelsWrong : ChangeSpec := { name := "fnExactTraceLevels", fn := fun _ => fun
  | [d1, d2, d3, d4] => { results := [.lit (.bool false)], args := [d1, d2, d3, d4] }
  | _ => none }
def FnExactTraceLevelsWrongFalsely : Prop := fnExactTraceLevelsRow.holds Try.pinned (OpenSpec.ofChange fnExactTraceLevelsWrong)

/-- 'laws.FnExactIsWorthProof': WHATEVER THE INPUT: true; the input reads as it did. -/
def fnExactIsWorthProofSpec : ChangeSpec := { name := "fnExactIsWorthProof", fn := fun _ => fun
  | [d1, d2] => { results := [.lit (.bool true)], args := [d1, d2] }
  | _ => none }
def fnExactIsWorthProofRow : OpenClaim := { program := "ytmekmkhdhakohaa", sum := "505a3cb6c8052142152edabe5304170805e92bcf6467fb1e6d078ba77d971926", func := "loop.example/g01111/laws.FnExactIsWorthProof", spec := "fnExactIsWorthProof", apart := false }
def FnExactIsWorthProofSaid : Prop := fnExactIsWorthProofRow.holds Try.pinned (OpenSpec.ofChange fnExactIsWorthProofSpec)

/-- ITS FALSE NEIGHBOUR: 'it returns false'. Refute it at one input. -/
def fnExactIsWorthProofWrong : ChangeSpec := { name := "fnExactIsWorthProof", fn := fun _ => fun
  | [d1, d2] => { results := [.lit (.bool false)], args := [d1, d2] }
  | _ => none }
def FnExactIsWorthProofWrongFalsely : Prop := fnExactIsWorthProofRow.holds Try.pinned (OpenSpec.ofChange fnExactIsWorthProofWrong)

/-- 'laws.FnExactPolicyWorth': WHATEVER THE INPUT: true; the input reads as it did. -/
def fnExactPolicyWorthSpec : ChangeSpec := { name := "fnExactPolicyWorth", fn := fun _ => fun
  | [d1, d2] => { results := [.lit (.bool true)], args := [d1, d2] }
  | _ => none }
def fnExactPolicyWorthRow : OpenClaim := { program := "ytmekmkhdhakohaa", sum := "505a3cb6c8052142152edabe5304170805e92bcf6467fb1e6d078ba77d971926", func := "loop.example/g01111/laws.FnExactPolicyWorth", spec := "fnExactPolicyWorth", apart := false }
def FnExactPolicyWorthSaid : Prop := fnExactPolicyWorthRow.holds Try.pinned (OpenSpec.ofChange fnExactPolicyWorthSpec)

/-- ITS FALSE NEIGHBOUR: 'it returns false'. Refute it at one input. -/
def fnExactPolicyWorthWrong : ChangeSpec := { name := "fnExactPolicyWorth", fn := fun _ => fun
  | [d1, d2] => { results := [.lit (.bool false)], args := [d1, d2] }
  | _ => none }
def FnExactPolicyWorthWrongFalsely : Prop := fnExactPolicyWorthRow.holds Try.pinned (OpenSpec.ofChange fnExactPolicyWorthWrong)

/-- 'laws.FnExactBestLevels': WHATEVER THE INPUT: true; the input reads as it did. -/
def fnExactBestLevelsSpec : ChangeSpec := { name := "fnExactBestLevels", fn := fun _ => fun
  | [d] => { results := [.lit (.bool true)], args := [d] }
  | _ => none }
def fnExactBestLevelsRow : OpenClaim := { program := "ytmekmkhdhakohaa", sum := "505a3cb6c8052142152edabe5304170805e92bcf6467fb1e6d078ba77d971926", func := "loop.example/g01111/laws.FnExactBestLevels", spec := "fnExactBestLevels", apart := false }
def FnExactBestLevelsSaid : Prop := fnExactBestLevelsRow.holds Try.pinned (OpenSpec.ofChange fnExactBestLevelsSpec)

/-- ITS FALSE NEIGHBOUR: 'it returns false'. Refute it at one input. -/
def fnExactBestLevelsWrong : ChangeSpec := { name := "fnExactBestLevels", fn := fun _ => fun
  | [d] => { results := [.lit (.bool false)], args := [d] }
  | _ => none }
def FnExactBestLevelsWrongFalsely : Prop := fnExactBestLevelsRow.holds Try.pinned (OpenSpec.ofChange fnExactBestLevelsWrong)

/-- 'laws.FnWorths': WHATEVER THE INPUT: true; the input reads as it did. -/
def fnWorthsSpec : ChangeSpec := { name := "fnWorths", fn := fun _ => fun
  | [d] => { results := [.lit (.bool true)], args := [d] }
  | _ => none }
def fnWorthsRow : OpenClaim := { program := "ytmekmkhdhakohaa", sum := "505a3cb6c8052142152edabe5304170805e92bcf6467fb1e6d078ba77d971926", func := "loop.example/g01111/laws.FnWorths", spec := "fnWorths", apart := false }
def FnWorthsSaid : Prop := fnWorthsRow.holds Try.pinned (OpenSpec.ofChange fnWorthsSpec)

/-- ITS FALSE NEIGHBOUR: 'it returns false'. Refute it at one input. -/
def fnWorthsWrong : ChangeSpec := { name := "fnWorths", fn := fun _ => fun
  | [d] => { results := [.lit (.bool false)], args := [d] }
  | _ => none }
def FnWorthsWrongFalsely : Prop := fnWorthsRow.holds Try.pinned (OpenSpec.ofChange fnWorthsWrong)

/-- 'laws.FnLevels': WHATEVER THE INPUT: true; the input reads as it did. -/
def fnLevelsSpec : ChangeSpec := { name := "fnLevels", fn := fun _ => fun
  | [d] => { results := [.lit (.bool true)], args := [d] }
  | _ => none }
def fnLevelsRow : OpenClaim := { program := "ytmekmkhdhakohaa", sum := "505a3cb6c8052142152edabe5304170805e92bcf6467fb1e6d078ba77d971926", func := "loop.example/g01111/laws.FnLevels", spec := "fnLevels", apart := false }
def FnLevelsSaid : Prop := fnLevelsRow.holds Try.pinned (OpenSpec.ofChange fnLevelsSpec)

/-- ITS FALSE NEIGHBOUR: 'it returns false'. Refute it at one input. -/
def fnLevelsWrong : ChangeSpec := { name := "fnLevels", fn := fun _ => fun
  | [d] => { results := [.lit (.bool false)], args := [d] }
  | _ => none }
def FnLevelsWrongFalsely : Prop := fnLevelsRow.holds Try.pinned (OpenSpec.ofChange fnLevelsWrong)

/- THE SECOND FORM. 'bulk': how many values and letters a reading holds, each counted each time it is reached (what is shared counts as often as it is met; a slice's spare places count too). A statement '..UptoSaid' is the law's where the arguments, and the package variables that the reading takes, are together of bulk at most 1048576: NARROWER than '..Said'. Prove '..Said' where nothing that the law and all that it calls make is longer than what came in: it says more and counts as full. Else prove '..UptoSaid'. A law counts once. -/
mutual
def uptoBulk {H : Type} : DataW H → Nat
  | .lit (.string bytes) => bytes.length + 1
  | .lit _ => 1
  | .nil => 1
  | .ptr d => uptoBulk d + 1
  | .slice elems spare => uptoBulkAll elems + uptoBulkAll spare + 1
  | .agg parts => uptoBulkAll parts + 1
  | .iface _ d => uptoBulk d + 1
  | .map entries => uptoBulkEntries entries + 1
  | .held _ => 1
def uptoBulkAll {H : Type} : List (DataW H) → Nat
  | [] => 0
  | d :: r => uptoBulk d + uptoBulkAll r
def uptoBulkEntries {H : Type} : List (Lit × DataW H) → Nat
  | [] => 0
  | x :: r => uptoBulkEntry x + uptoBulkEntries r
def uptoBulkEntry {H : Type} : Lit × DataW H → Nat
  | (.string bytes, d) => bytes.length + uptoBulk d + 1
  | (_, d) => uptoBulk d + 1
 end
def uptoSmall : (H : Type) → List (DataW H) → Bool := fun _ ds => decide (uptoBulkAll ds ≤ 1048576)
def OpenSpec.upto (s : _root_.Go.ChangeSpec) : _root_.Go.OpenSpec := { _root_.Go.OpenSpec.ofChange s with cond := some uptoSmall }

/-- 'laws.FnExactStepLevel', WHERE WHAT IT READS IS OF BULK AT MOST 1048576: true; the input reads as it did. -/
def fnExactStepLevelUptoRow : OpenClaim := { program := "ytmekmkhdhakohaa", sum := "505a3cb6c8052142152edabe5304170805e92bcf6467fb1e6d078ba77d971926", func := "loop.example/g01111/laws.FnExactStepLevel", spec := "fnExactStepLevel", apart := false, narrowed := true }
def FnExactStepLevelUptoSaid : Prop := fnExactStepLevelUptoRow.holds Try.pinned (OpenSpec.upto fnExactStepLevelSpec)

/-- 'laws.FnExactBestOrder', WHERE WHAT IT READS IS OF BULK AT MOST 1048576: true; the input reads as it did. -/
def fnExactBestOrderUptoRow : OpenClaim := { program := "ytmekmkhdhakohaa", sum := "505a3cb6c8052142152edabe5304170805e92bcf6467fb1e6d078ba77d971926", func := "loop.example/g01111/laws.FnExactBestOrder", spec := "fnExactBestOrder", apart := false, narrowed := true }
def FnExactBestOrderUptoSaid : Prop := fnExactBestOrderUptoRow.holds Try.pinned (OpenSpec.upto fnExactBestOrderSpec)

/-- 'laws.FnExactBillsOf', WHERE WHAT IT READS IS OF BULK AT MOST 1048576: true; the input reads as it did. -/
def fnExactBillsOfUptoRow : OpenClaim := { program := "ytmekmkhdhakohaa", sum := "505a3cb6c8052142152edabe5304170805e92bcf6467fb1e6d078ba77d971926", func := "loop.example/g01111/laws.FnExactBillsOf", spec := "fnExactBillsOf", apart := false, narrowed := true }
def FnExactBillsOfUptoSaid : Prop := fnExactBillsOfUptoRow.holds Try.pinned (OpenSpec.upto fnExactBillsOfSpec)

/-- 'laws.FnExactWorthTable', WHERE WHAT IT READS IS OF BULK AT MOST 1048576: true; the input reads as it did. -/
def fnExactWorthTableUptoRow : OpenClaim := { program := "ytmekmkhdhakohaa", sum := "505a3cb6c8052142152edabe5304170805e92bcf6467fb1e6d078ba77d971926", func := "loop.example/g01111/laws.FnExactWorthTable", spec := "fnExactWorthTable", apart := false, narrowed := true }
def FnExactWorthTableUptoSaid : Prop := fnExactWorthTableUptoRow.holds Try.pinned (OpenSpec.upto fnExactWorthTableSpec)

/-- 'laws.FnExactTraceLevels', WHERE WHAT IT READS IS OF BULK AT MOST 1048576: true; the input reads as it did. -/
def fnExactTraceLevelsUptoRow : OpenClaim := { program := "ytmekmkhdhakohaa", sum := "505a3cb6c8052142152edabe5304170805e92bcf6467fb1e6d078ba77d971926", func := "loop.example/g01111/laws.FnExactTraceLevels", spec := "fnExactTraceLevels", apart := false, narrowed := true }
def FnExactTraceLevelsUptoSaid : Prop := fnExactTraceLevelsUptoRow.holds Try.pinned (OpenSpec.upto fnExactTraceLevelsSpec)

/-- 'laws.FnExactIsWorthProof', WHERE WHAT IT READS IS OF BULK AT MOST 1048576: true; the input reads as it did. -/
def fnExactIsWorthProofUptoRow : OpenClaim := { program := "ytmekmkhdhakohaa", sum := "505a3cb6c8052142152edabe5304170805e92bcf6467fb1e6d078ba77d971926", func := "loop.example/g01111/laws.FnExactIsWorthProof", spec := "fnExactIsWorthProof", apart := false, narrowed := true }
def FnExactIsWorthProofUptoSaid : Prop := fnExactIsWorthProofUptoRow.holds Try.pinned (OpenSpec.upto fnExactIsWorthProofSpec)

/-- 'laws.FnExactPolicyWorth', WHERE WHAT IT READS IS OF BULK AT MOST 1048576: true; the input reads as it did. -/
def fnExactPolicyWorthUptoRow : OpenClaim := { program := "ytmekmkhdhakohaa", sum := "505a3cb6c8052142152edabe5304170805e92bcf6467fb1e6d078ba77d971926", func := "loop.example/g01111/laws.FnExactPolicyWorth", spec := "fnExactPolicyWorth", apart := false, narrowed := true }
def FnExactPolicyWorthUptoSaid : Prop := fnExactPolicyWorthUptoRow.holds Try.pinned (OpenSpec.upto fnExactPolicyWorthSpec)

/-- 'laws.FnExactBestLevels', WHERE WHAT IT READS IS OF BULK AT MOST 1048576: true; the input reads as it did. -/
def fnExactBestLevelsUptoRow : OpenClaim := { program := "ytmekmkhdhakohaa", sum := "505a3cb6c8052142152edabe5304170805e92bcf6467fb1e6d078ba77d971926", func := "loop.example/g01111/laws.FnExactBestLevels", spec := "fnExactBestLevels", apart := false, narrowed := true }
def FnExactBestLevelsUptoSaid : Prop := fnExactBestLevelsUptoRow.holds Try.pinned (OpenSpec.upto fnExactBestLevelsSpec)

/-- 'laws.FnWorths', WHERE WHAT IT READS IS OF BULK AT MOST 1048576: true; the input reads as it did. -/
def fnWorthsUptoRow : OpenClaim := { program := "ytmekmkhdhakohaa", sum := "505a3cb6c8052142152edabe5304170805e92bcf6467fb1e6d078ba77d971926", func := "loop.example/g01111/laws.FnWorths", spec := "fnWorths", apart := false, narrowed := true }
def FnWorthsUptoSaid : Prop := fnWorthsUptoRow.holds Try.pinned (OpenSpec.upto fnWorthsSpec)

/-- 'laws.FnLevels', WHERE WHAT IT READS IS OF BULK AT MOST 1048576: true; the input reads as it did. -/
def fnLevelsUptoRow : OpenClaim := { program := "ytmekmkhdhakohaa", sum := "505a3cb6c8052142152edabe5304170805e92bcf6467fb1e6d078ba77d971926", func := "loop.example/g01111/laws.FnLevels", spec := "fnLevels", apart := false, narrowed := true }
def FnLevelsUptoSaid : Prop := fnLevelsUptoRow.holds Try.pinned (OpenSpec.upto fnLevelsSpec)

end Rows
end Go.Proofs.Ytmekmkhdhakohaa
