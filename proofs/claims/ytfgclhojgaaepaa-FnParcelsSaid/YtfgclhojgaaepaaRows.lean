/-
  No cell of these rows narrows 'for every input' (looked for: loops, veiled, ifaces, maps, wideKeys, modest, calm, conditions, laid).
  DERIVED. THE GIVEN ROWS OF THIS SEAT. 6 by the template 'for every input the law returns true; each argument reads behind the call as it read before'; 0 by the template 'total and deterministic' (their statements: YtfgclhojgaaepaaTotals.lean).
  GIVEN WITH THE SEED: the statements are not yours to turn. If you find one false, say at which input.
  Laid BY PROGRAM, IN A SANDBOX (cutbox-rows.mjs): the forced cells as the released guide's own fill.sh prints them over the translation 0828342c8748b8ca… (all of the seat's roots in one cut). By AI agents, Wed Nov 11 2026. No macro, syntax, notation, axiom, sorry.
-/
import Derived.Test.YtfgclhojgaaepaaChecked
import GoSem.Claim
import GoSem.ClaimJoined
import GoSem.ClaimMapViews
import Derived.JoinedTies
import Derived.KernelRfl
namespace Go.Proofs.Ytfgclhojgaaepaa
/- THE CELL 'sum', in the pinned program and in every row, IS THE sha256 OF THE DUMP (.gsa) THAT YtfgclhojgaaepaaProg.lean LOADS. Nothing in Lean hashes anything: it is a label: what it is worth is what the hold of that sum in a sandbox is worth. -/
noncomputable def Try.pinned : Pinned := { name := "ytfgclhojgaaepaa", sum := "0828342c8748b8ca075a7fbb17e769c3e2e99919e88d82099186be7bc97261d3", checked := Try.checked }
namespace Rows
def none {H : Type} : Left H := { results := [], args := [] }

/-- 'laws.FnExactServiceOf': WHATEVER THE INPUT: true; the input reads as it did. -/
def fnExactServiceOfSpec : ChangeSpec := { name := "fnExactServiceOf", fn := fun _ => fun
  | [d1, d2, d3] => { results := [.lit (.bool true)], args := [d1, d2, d3] }
  | _ => none }
def fnExactServiceOfRow : OpenClaim := { program := "ytfgclhojgaaepaa", sum := "0828342c8748b8ca075a7fbb17e769c3e2e99919e88d82099186be7bc97261d3", func := "loop.example/g01111/laws.FnExactServiceOf", spec := "fnExactServiceOf", apart := false }
def FnExactServiceOfSaid : Prop := fnExactServiceOfRow.holds Try.pinned (OpenSpec.ofChange fnExactServiceOfSpec)

/-- ITS FALSE NEIGHBOUR: 'it returns false'. Refute it at one input. -/
def fnExactServiceOfWrong : ChangeSpec := { name := "fnExactServiceOf", fn := fun _ => fun
  | [d1, d2, d3] => { results := [.lit (.bool false)], args := [d1, d2, d3] }
  | _ => none }
def FnExactServiceOfWrongFalsely : Prop := fnExactServiceOfRow.holds Try.pinned (OpenSpec.ofChange fnExactServiceOfWrong)

/-- 'laws.FnExactRunRule': WHATEVER THE INPUT: true; the input reads as it did. -/
def fnExactRunRuleSpec : ChangeSpec := { name := "fnExactRunRule", fn := fun _ => fun
  | [d1, d2, d3] => { results := [.lit (.bool true)], args := [d1, d2, d3] }
  | _ => none }
def fnExactRunRuleRow : OpenClaim := { program := "ytfgclhojgaaepaa", sum := "0828342c8748b8ca075a7fbb17e769c3e2e99919e88d82099186be7bc97261d3", func := "loop.example/g01111/laws.FnExactRunRule", spec := "fnExactRunRule", apart := false }
def FnExactRunRuleSaid : Prop := fnExactRunRuleRow.holds Try.pinned (OpenSpec.ofChange fnExactRunRuleSpec)

/-- ITS FALSE NEIGHBOUR: 'it returns false'. Refute it at one input. -/
def fnExactRunRuleWrong : ChangeSpec := { name := "fnExactRunRule", fn := fun _ => fun
  | [d1, d2, d3] => { results := [.lit (.bool false)], args := [d1, d2, d3] }
  | _ => none }
def FnExactRunRuleWrongFalsely : Prop := fnExactRunRuleRow.holds Try.pinned (OpenSpec.ofChange fnExactRunRuleWrong)

/-- 'laws.FnExactStraightLeads': WHATEVER THE INPUT: true; the input reads as it did. -/
def fnExactStraightLeadsSpec : ChangeSpec := { name := "fnExactStraightLeads", fn := fun _ => fun
  | [d] => { results := [.lit (.bool true)], args := [d] }
  | _ => none }
def fnExactStraightLeadsRow : OpenClaim := { program := "ytfgclhojgaaepaa", sum := "0828342c8748b8ca075a7fbb17e769c3e2e99919e88d82099186be7bc97261d3", func := "loop.example/g01111/laws.FnExactStraightLeads", spec := "fnExactStraightLeads", recurses := true, apart := false }
def FnExactStraightLeadsSaid : Prop := fnExactStraightLeadsRow.holds Try.pinned (OpenSpec.ofChange fnExactStraightLeadsSpec)

/-- ITS FALSE NEIGHBOUR: 'it returns false'. Refute it at one input. -/
def fnExactStraightLeadsWrong : ChangeSpec := { name := "fnExactStraightLeads", fn := fun _ => fun
  | [d] => { results := [.lit (.bool false)], args := [d] }
  | _ => none }
def FnExactStraightLeadsWrongFalsely : Prop := fnExactStraightLeadsRow.holds Try.pinned (OpenSpec.ofChange fnExactStraightLeadsWrong)

/-- 'laws.FnDays': WHATEVER THE INPUT: true; the input reads as it did. -/
def fnDaysSpec : ChangeSpec := { name := "fnDays", fn := fun _ => fun
  | [d] => { results := [.lit (.bool true)], args := [d] }
  | _ => none }
def fnDaysRow : OpenClaim := { program := "ytfgclhojgaaepaa", sum := "0828342c8748b8ca075a7fbb17e769c3e2e99919e88d82099186be7bc97261d3", func := "loop.example/g01111/laws.FnDays", spec := "fnDays", apart := false }
def FnDaysSaid : Prop := fnDaysRow.holds Try.pinned (OpenSpec.ofChange fnDaysSpec)

/-- ITS FALSE NEIGHBOUR: 'it returns false'. Refute it at one input. -/
def fnDaysWrong : ChangeSpec := { name := "fnDays", fn := fun _ => fun
  | [d] => { results := [.lit (.bool false)], args := [d] }
  | _ => none }
def FnDaysWrongFalsely : Prop := fnDaysRow.holds Try.pinned (OpenSpec.ofChange fnDaysWrong)

/-- 'laws.FnLeads': WHATEVER THE INPUT: true; the input reads as it did. -/
def fnLeadsSpec : ChangeSpec := { name := "fnLeads", fn := fun _ => fun
  | [d] => { results := [.lit (.bool true)], args := [d] }
  | _ => none }
def fnLeadsRow : OpenClaim := { program := "ytfgclhojgaaepaa", sum := "0828342c8748b8ca075a7fbb17e769c3e2e99919e88d82099186be7bc97261d3", func := "loop.example/g01111/laws.FnLeads", spec := "fnLeads", apart := false }
def FnLeadsSaid : Prop := fnLeadsRow.holds Try.pinned (OpenSpec.ofChange fnLeadsSpec)

/-- ITS FALSE NEIGHBOUR: 'it returns false'. Refute it at one input. -/
def fnLeadsWrong : ChangeSpec := { name := "fnLeads", fn := fun _ => fun
  | [d] => { results := [.lit (.bool false)], args := [d] }
  | _ => none }
def FnLeadsWrongFalsely : Prop := fnLeadsRow.holds Try.pinned (OpenSpec.ofChange fnLeadsWrong)

/-- 'laws.FnParcels': WHATEVER THE INPUT: true; the input reads as it did. -/
def fnParcelsSpec : ChangeSpec := { name := "fnParcels", fn := fun _ => fun
  | [d] => { results := [.lit (.bool true)], args := [d] }
  | _ => none }
def fnParcelsRow : OpenClaim := { program := "ytfgclhojgaaepaa", sum := "0828342c8748b8ca075a7fbb17e769c3e2e99919e88d82099186be7bc97261d3", func := "loop.example/g01111/laws.FnParcels", spec := "fnParcels", recurses := true, apart := false }
def FnParcelsSaid : Prop := fnParcelsRow.holds Try.pinned (OpenSpec.ofChange fnParcelsSpec)

/-- ITS FALSE NEIGHBOUR: 'it returns false'. Refute it at one input. -/
def fnParcelsWrong : ChangeSpec := { name := "fnParcels", fn := fun _ => fun
  | [d] => { results := [.lit (.bool false)], args := [d] }
  | _ => none }
def FnParcelsWrongFalsely : Prop := fnParcelsRow.holds Try.pinned (OpenSpec.ofChange fnParcelsWrong)

/- THE SECOND FORM. 'bulk': how many values and letters a reading holds, each counted each time it is reached (what is shared counts as often as it is met; a slice's spare places count too). A statement '..UptoSaid' is the law's where the arguments, and the package variables that the reading takes, are together of bulk at most 1048576: NARROWER than '..Said'. Prove '..Said' where nothing that the law and all that it calls make is longer than what came in: it says more and counts as full. Else prove '..UptoSaid'. A law counts once. -/
mutual
def uptoBulk {H : Type} : DataW H → Nat
  | .lit (.string bytes) => bytes.length + 1
  | .lit _ => 1
  | .nil => 1
  | .ptr d => uptoBulk d + 1
  | .slice elems spare => uptoBulkAll elems + uptoBulkAll spare + 1
  | .agg parts => uptoBulkAll parts + 1
  | .iface _ d => uptoBulk d + 1
  | .map entries => uptoBulkEntries entries + 1
  | .held _ => 1
def uptoBulkAll {H : Type} : List (DataW H) → Nat
  | [] => 0
  | d :: r => uptoBulk d + uptoBulkAll r
def uptoBulkEntries {H : Type} : List (Lit × DataW H) → Nat
  | [] => 0
  | x :: r => uptoBulkEntry x + uptoBulkEntries r
def uptoBulkEntry {H : Type} : Lit × DataW H → Nat
  | (.string bytes, d) => bytes.length + uptoBulk d + 1
  | (_, d) => uptoBulk d + 1
 end
def uptoSmall : (H : Type) → List (DataW H) → Bool := fun _ ds => decide (uptoBulkAll ds ≤ 1048576)
def OpenSpec.upto (s : _root_.Go.ChangeSpec) : _root_.Go.OpenSpec := { _root_.Go.OpenSpec.ofChange s with cond := some uptoSmall }

/-- 'laws.FnExactServiceOf', WHERE WHAT IT READS IS OF BULK AT MOST 1048576: true; the input reads as it did. -/
def fnExactServiceOfUptoRow : OpenClaim := { program := "ytfgclhojgaaepaa", sum := "0828342c8748b8ca075a7fbb17e769c3e2e99919e88d82099186be7bc97261d3", func := "loop.example/g01111/laws.FnExactServiceOf", spec := "fnExactServiceOf", apart := false, narrowed := true }
def FnExactServiceOfUptoSaid : Prop := fnExactServiceOfUptoRow.holds Try.pinned (OpenSpec.upto fnExactServiceOfSpec)

/-- 'laws.FnExactRunRule', WHERE WHAT IT READS IS OF BULK AT MOST 1048576: true; the input reads as it did. -/
def fnExactRunRuleUptoRow : OpenClaim := { program := "ytfgclhojgaaepaa", sum := "0828342c8748b8ca075a7fbb17e769c3e2e99919e88d82099186be7bc97261d3", func := "loop.example/g01111/laws.FnExactRunRule", spec := "fnExactRunRule", apart := false, narrowed := true }
def FnExactRunRuleUptoSaid : Prop := fnExactRunRuleUptoRow.holds Try.pinned (OpenSpec.upto fnExactRunRuleSpec)

/-- 'laws.FnExactStraightLeads', WHERE WHAT IT READS IS OF BULK AT MOST 1048576: true; the input reads as it did. -/
def fnExactStraightLeadsUptoRow : OpenClaim := { program := "ytfgclhojgaaepaa", sum := "0828342c8748b8ca075a7fbb17e769c3e2e99919e88d82099186be7bc97261d3", func := "loop.example/g01111/laws.FnExactStraightLeads", spec := "fnExactStraightLeads", recurses := true, apart := false, narrowed := true }
def FnExactStraightLeadsUptoSaid : Prop := fnExactStraightLeadsUptoRow.holds Try.pinned (OpenSpec.upto fnExactStraightLeadsSpec)

/-- 'laws.FnDays', WHERE WHAT IT READS IS OF BULK AT MOST 1048576: true; the input reads as it did. -/
def fnDaysUptoRow : OpenClaim := { program := "ytfgclhojgaaepaa", sum := "0828342c8748b8ca075a7fbb17e769c3e2e99919e88d82099186be7bc97261d3", func := "loop.example/g01111/laws.FnDays", spec := "fnDays", apart := false, narrowed := true }
def FnDaysUptoSaid : Prop := fnDaysUptoRow.holds Try.pinned (OpenSpec.upto fnDaysSpec)

/-- 'laws.FnLeads', WHERE WHAT IT READS IS OF BULK AT MOST 1048576: true; the input reads as it did. -/
def fnLeadsUptoRow : OpenClaim := { program := "ytfgclhojgaaepaa", sum := "0828342c8748b8ca075a7fbb17e769c3e2e99919e88d82099186be7bc97261d3", func := "loop.example/g01111/laws.FnLeads", spec := "fnLeads", apart := false, narrowed := true }
def FnLeadsUptoSaid : Prop := fnLeadsUptoRow.holds Try.pinned (OpenSpec.upto fnLeadsSpec)

/-- 'laws.FnParcels', WHERE WHAT IT READS IS OF BULK AT MOST 1048576: true; the input reads as it did. -/
def fnParcelsUptoRow : OpenClaim := { program := "ytfgclhojgaaepaa", sum := "0828342c8748b8ca075a7fbb17e769c3e2e99919e88d82099186be7bc97261d3", func := "loop.example/g01111/laws.FnParcels", spec := "fnParcels", recurses := true, apart := false, narrowed := true }
def FnParcelsUptoSaid : Prop := fnParcelsUptoRow.holds Try.pinned (OpenSpec.upto fnParcelsSpec)

end Rows
end Go.Proofs.Ytfgclhojgaaepaa
