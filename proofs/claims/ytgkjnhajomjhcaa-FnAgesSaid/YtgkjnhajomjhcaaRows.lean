/-
  No cell of these rows narrows 'for every input' (looked for: loops, veiled, ifaces, maps, wideKeys, modest, calm, conditions, laid).
  DERIVED. THE GIVEN ROWS OF THIS SEAT. 9 by the template 'for every input the law returns true; each argument reads behind the call as it read before'; 0 by the template 'total and deterministic' (their statements: YtgkjnhajomjhcaaTotals.lean).
  GIVEN WITH THE SEED: the statements are not yours to turn. If you find one false, say at which input.
  Laid BY PROGRAM, IN A SANDBOX (cutbox-rows.mjs): the forced cells as the released guide's own fill.sh prints them over the translation e4fd8f3f277cbe53… (all of the seat's roots in one cut). By AI agents, Wed Nov 11 2026. No macro, syntax, notation, axiom, sorry.
-/
import Derived.Test.YtgkjnhajomjhcaaChecked
import GoSem.Claim
import GoSem.ClaimJoined
import GoSem.ClaimMapViews
import Derived.JoinedTies
import Derived.KernelRfl
namespace Go.Proofs.Ytgkjnhajomjhcaa
/- THE CELL 'sum', in the pinned program and in every row, IS THE sha256 OF THE DUMP (.gsa) THAT YtgkjnhajomjhcaaProg.lean LOADS. Nothing in Lean hashes anything: it is a label: what it is worth is what the hold of that sum in a sandbox is worth. -/
noncomputable def Try.pinned : Pinned := { name := "ytgkjnhajomjhcaa", sum := "e4fd8f3f277cbe53a37908d4815a5e0fca564ab54f609748e0c7d7c9135c6df9", checked := Try.checked }
namespace Rows
def none {H : Type} : Left H := { results := [], args := [] }

/-- 'laws.FnExactShelfCost': WHATEVER THE INPUT: true; the input reads as it did. -/
def fnExactShelfCostSpec : ChangeSpec := { name := "fnExactShelfCost", fn := fun _ => fun
  | [d1, d2] => { results := [.lit (.bool true)], args := [d1, d2] }
  | _ => none }
def fnExactShelfCostRow : OpenClaim := { program := "ytgkjnhajomjhcaa", sum := "e4fd8f3f277cbe53a37908d4815a5e0fca564ab54f609748e0c7d7c9135c6df9", func := "loop.example/g01111/laws.FnExactShelfCost", spec := "fnExactShelfCost", apart := false }
def FnExactShelfCostSaid : Prop := fnExactShelfCostRow.holds Try.pinned (OpenSpec.ofChange fnExactShelfCostSpec)

/-- ITS FALSE NEIGHBOUR: 'it returns false'. Refute it at one input. -/
def fnExactShelfCostWrong : ChangeSpec := { name := "fnExactShelfCost", fn := fun _ => fun
  | [d1, d2] => { results := [.lit (.bool false)], args := [d1, d2] }
  | _ => none }
def FnExactShelfCostWrongFalsely : Prop := fnExactShelfCostRow.holds Try.pinned (OpenSpec.ofChange fnExactShelfCostWrong)

/-- 'laws.FnExactLostNeeds': WHATEVER THE INPUT: true; the input reads as it did. -/
def fnExactLostNeedsSpec : ChangeSpec := { name := "fnExactLostNeeds", fn := fun _ => fun
  | [d1, d2] => { results := [.lit (.bool true)], args := [d1, d2] }
  | _ => none }
def fnExactLostNeedsRow : OpenClaim := { program := "ytgkjnhajomjhcaa", sum := "e4fd8f3f277cbe53a37908d4815a5e0fca564ab54f609748e0c7d7c9135c6df9", func := "loop.example/g01111/laws.FnExactLostNeeds", spec := "fnExactLostNeeds", apart := false }
def FnExactLostNeedsSaid : Prop := fnExactLostNeedsRow.holds Try.pinned (OpenSpec.ofChange fnExactLostNeedsSpec)

/-- ITS FALSE NEIGHBOUR: 'it returns false'. Refute it at one input. -/
def fnExactLostNeedsWrong : ChangeSpec := { name := "fnExactLostNeeds", fn := fun _ => fun
  | [d1, d2] => { results := [.lit (.bool false)], args := [d1, d2] }
  | _ => none }
def FnExactLostNeedsWrongFalsely : Prop := fnExactLostNeedsRow.holds Try.pinned (OpenSpec.ofChange fnExactLostNeedsWrong)

/-- 'laws.FnExactWastedUnits': WHATEVER THE INPUT: true; the input reads as it did. -/
def fnExactWastedUnitsSpec : ChangeSpec := { name := "fnExactWastedUnits", fn := fun _ => fun
  | [d1, d2] => { results := [.lit (.bool true)], args := [d1, d2] }
  | _ => none }
def fnExactWastedUnitsRow : OpenClaim := { program := "ytgkjnhajomjhcaa", sum := "e4fd8f3f277cbe53a37908d4815a5e0fca564ab54f609748e0c7d7c9135c6df9", func := "loop.example/g01111/laws.FnExactWastedUnits", spec := "fnExactWastedUnits", apart := false }
def FnExactWastedUnitsSaid : Prop := fnExactWastedUnitsRow.holds Try.pinned (OpenSpec.ofChange fnExactWastedUnitsSpec)

/-- ITS FALSE NEIGHBOUR: 'it returns false'. Refute it at one input. -/
def fnExactWastedUnitsWrong : ChangeSpec := { name := "fnExactWastedUnits", fn := fun _ => fun
  | [d1, d2] => { results := [.lit (.bool false)], args := [d1, d2] }
  | _ => none }
def FnExactWastedUnitsWrongFalsely : Prop := fnExactWastedUnitsRow.holds Try.pinned (OpenSpec.ofChange fnExactWastedUnitsWrong)

/-- 'laws.FnExactStockByAge': WHATEVER THE INPUT: true; the input reads as it did. -/
def fnExactStockByAgeSpec : ChangeSpec := { name := "fnExactStockByAge", fn := fun _ => fun
  | [d1, d2, d3] => { results := [.lit (.bool true)], args := [d1, d2, d3] }
  | _ => none }
def fnExactStockByAgeRow : OpenClaim := { program := "ytgkjnhajomjhcaa", sum := "e4fd8f3f277cbe53a37908d4815a5e0fca564ab54f609748e0c7d7c9135c6df9", func := "loop.example/g01111/laws.FnExactStockByAge", spec := "fnExactStockByAge", apart := false }
def FnExactStockByAgeSaid : Prop := fnExactStockByAgeRow.holds Try.pinned (OpenSpec.ofChange fnExactStockByAgeSpec)

/-- ITS FALSE NEIGHBOUR: 'it returns false'. Refute it at one input. -/
def fnExactStockByAgeWrong : ChangeSpec := { name := "fnExactStockByAge", fn := fun _ => fun
  | [d1, d2, d3] => { results := [.lit (.bool false)], args := [d1, d2, d3] }
  | _ => none }
def FnExactStockByAgeWrongFalsely : Prop := fnExactStockByAgeRow.holds Try.pinned (OpenSpec.ofChange fnExactStockByAgeWrong)

/-- 'laws.FnExactLostProof': WHATEVER THE INPUT: true; the input reads as it did. -/
def fnExactLostProofSpec : ChangeSpec := { name := "fnExactLostProof", fn := fun _ => fun
  | [d] => { results := [.lit (.bool true)], args := [d] }
  | _ => none }
def fnExactLostProofRow : OpenClaim := { program := "ytgkjnhajomjhcaa", sum := "e4fd8f3f277cbe53a37908d4815a5e0fca564ab54f609748e0c7d7c9135c6df9", func := "loop.example/g01111/laws.FnExactLostProof", spec := "fnExactLostProof", unfollowed := true, recurses := true, apart := false }
def FnExactLostProofSaid : Prop := fnExactLostProofRow.holds Try.pinned (OpenSpec.ofChange fnExactLostProofSpec)

/-- ITS FALSE NEIGHBOUR: 'it returns false'. Refute it at one input. -/
def fnExactLostProofWrong : ChangeSpec := { name := "fnExactLostProof", fn := fun _ => fun
  | [d] => { results := [.lit (.bool false)], args := [d] }
  | _ => none }
def FnExactLostProofWrongFalsely : Prop := fnExactLostProofRow.holds Try.pinned (OpenSpec.ofChange fnExactLostProofWrong)

/-- 'laws.FnExactBestFresh': WHATEVER THE INPUT: true; the input reads as it did. -/
def fnExactBestFreshSpec : ChangeSpec := { name := "fnExactBestFresh", fn := fun _ => fun
  | [d1, d2] => { results := [.lit (.bool true)], args := [d1, d2] }
  | _ => none }
def fnExactBestFreshRow : OpenClaim := { program := "ytgkjnhajomjhcaa", sum := "e4fd8f3f277cbe53a37908d4815a5e0fca564ab54f609748e0c7d7c9135c6df9", func := "loop.example/g01111/laws.FnExactBestFresh", spec := "fnExactBestFresh", unfollowed := true, recurses := true, apart := false }
def FnExactBestFreshSaid : Prop := fnExactBestFreshRow.holds Try.pinned (OpenSpec.ofChange fnExactBestFreshSpec)

/-- ITS FALSE NEIGHBOUR: 'it returns false'. Refute it at one input. -/
def fnExactBestFreshWrong : ChangeSpec := { name := "fnExactBestFresh", fn := fun _ => fun
  | [d1, d2] => { results := [.lit (.bool false)], args := [d1, d2] }
  | _ => none }
def FnExactBestFreshWrongFalsely : Prop := fnExactBestFreshRow.holds Try.pinned (OpenSpec.ofChange fnExactBestFreshWrong)

/-- 'laws.FnExactLifeGains': WHATEVER THE INPUT: true; the input reads as it did. -/
def fnExactLifeGainsSpec : ChangeSpec := { name := "fnExactLifeGains", fn := fun _ => fun
  | [d] => { results := [.lit (.bool true)], args := [d] }
  | _ => none }
def fnExactLifeGainsRow : OpenClaim := { program := "ytgkjnhajomjhcaa", sum := "e4fd8f3f277cbe53a37908d4815a5e0fca564ab54f609748e0c7d7c9135c6df9", func := "loop.example/g01111/laws.FnExactLifeGains", spec := "fnExactLifeGains", unfollowed := true, recurses := true, apart := false }
def FnExactLifeGainsSaid : Prop := fnExactLifeGainsRow.holds Try.pinned (OpenSpec.ofChange fnExactLifeGainsSpec)

/-- ITS FALSE NEIGHBOUR: 'it returns false'. Refute it at one input. -/
def fnExactLifeGainsWrong : ChangeSpec := { name := "fnExactLifeGains", fn := fun _ => fun
  | [d] => { results := [.lit (.bool false)], args := [d] }
  | _ => none }
def FnExactLifeGainsWrongFalsely : Prop := fnExactLifeGainsRow.holds Try.pinned (OpenSpec.ofChange fnExactLifeGainsWrong)

/-- 'laws.FnShelves': WHATEVER THE INPUT: true; the input reads as it did. -/
def fnShelvesSpec : ChangeSpec := { name := "fnShelves", fn := fun _ => fun
  | [d] => { results := [.lit (.bool true)], args := [d] }
  | _ => none }
def fnShelvesRow : OpenClaim := { program := "ytgkjnhajomjhcaa", sum := "e4fd8f3f277cbe53a37908d4815a5e0fca564ab54f609748e0c7d7c9135c6df9", func := "loop.example/g01111/laws.FnShelves", spec := "fnShelves", unfollowed := true, recurses := true, apart := false }
def FnShelvesSaid : Prop := fnShelvesRow.holds Try.pinned (OpenSpec.ofChange fnShelvesSpec)

/-- ITS FALSE NEIGHBOUR: 'it returns false'. Refute it at one input. -/
def fnShelvesWrong : ChangeSpec := { name := "fnShelves", fn := fun _ => fun
  | [d] => { results := [.lit (.bool false)], args := [d] }
  | _ => none }
def FnShelvesWrongFalsely : Prop := fnShelvesRow.holds Try.pinned (OpenSpec.ofChange fnShelvesWrong)

/-- 'laws.FnAges': WHATEVER THE INPUT: true; the input reads as it did. -/
def fnAgesSpec : ChangeSpec := { name := "fnAges", fn := fun _ => fun
  | [d] => { results := [.lit (.bool true)], args := [d] }
  | _ => none }
def fnAgesRow : OpenClaim := { program := "ytgkjnhajomjhcaa", sum := "e4fd8f3f277cbe53a37908d4815a5e0fca564ab54f609748e0c7d7c9135c6df9", func := "loop.example/g01111/laws.FnAges", spec := "fnAges", unfollowed := true, recurses := true, apart := false }
def FnAgesSaid : Prop := fnAgesRow.holds Try.pinned (OpenSpec.ofChange fnAgesSpec)

/-- ITS FALSE NEIGHBOUR: 'it returns false'. Refute it at one input. -/
def fnAgesWrong : ChangeSpec := { name := "fnAges", fn := fun _ => fun
  | [d] => { results := [.lit (.bool false)], args := [d] }
  | _ => none }
def FnAgesWrongFalsely : Prop := fnAgesRow.holds Try.pinned (OpenSpec.ofChange fnAgesWrong)

/- THE SECOND FORM. 'bulk': how many values and letters a reading holds, each counted each time it is reached (what is shared counts as often as it is met; a slice's spare places count too). A statement '..UptoSaid' is the law's where the arguments, and the package variables that the reading takes, are together of bulk at most 1048576: NARROWER than '..Said'. Prove '..Said' where nothing that the law and all that it calls make is longer than what came in: it says more and counts as full. Else prove '..UptoSaid'. A law counts once. -/
mutual
def uptoBulk {H : Type} : DataW H → Nat
  | .lit (.string bytes) => bytes.length + 1
  | .lit _ => 1
  | .nil => 1
  | .ptr d => uptoBulk d + 1
  | .slice elems spare => uptoBulkAll elems + uptoBulkAll spare + 1
  | .agg parts => uptoBulkAll parts + 1
  | .iface _ d => uptoBulk d + 1
  | .map entries => uptoBulkEntries entries + 1
  | .held _ => 1
def uptoBulkAll {H : Type} : List (DataW H) → Nat
  | [] => 0
  | d :: r => uptoBulk d + uptoBulkAll r
def uptoBulkEntries {H : Type} : List (Lit × DataW H) → Nat
  | [] => 0
  | x :: r => uptoBulkEntry x + uptoBulkEntries r
def uptoBulkEntry {H : Type} : Lit × DataW H → Nat
  | (.string bytes, d) => bytes.length + uptoBulk d + 1
  | (_, d) => uptoBulk d + 1
 end
def uptoSmall : (H : Type) → List (DataW H) → Bool := fun _ ds => decide (uptoBulkAll ds ≤ 1048576)
def OpenSpec.upto (s : _root_.Go.ChangeSpec) : _root_.Go.OpenSpec := { _root_.Go.OpenSpec.ofChange s with cond := some uptoSmall }

/-- 'laws.FnExactShelfCost', WHERE WHAT IT READS IS OF BULK AT MOST 1048576: true; the input reads as it did. -/
def fnExactShelfCostUptoRow : OpenClaim := { program := "ytgkjnhajomjhcaa", sum := "e4fd8f3f277cbe53a37908d4815a5e0fca564ab54f609748e0c7d7c9135c6df9", func := "loop.example/g01111/laws.FnExactShelfCost", spec := "fnExactShelfCost", apart := false, narrowed := true }
def FnExactShelfCostUptoSaid : Prop := fnExactShelfCostUptoRow.holds Try.pinned (OpenSpec.upto fnExactShelfCostSpec)

/-- 'laws.FnExactLostNeeds', WHERE WHAT IT READS IS OF BULK AT MOST 1048576: true; the input reads as it did. -/
def fnExactLostNeedsUptoRow : OpenClaim := { program := "ytgkjnhajomjhcaa", sum := "e4fd8f3f277cbe53a37908d4815a5e0fca564ab54f609748e0c7d7c9135c6df9", func := "loop.example/g01111/laws.FnExactLostNeeds", spec := "fnExactLostNeeds", apart := false, narrowed := true }
def FnExactLostNeedsUptoSaid : Prop := fnExactLostNeedsUptoRow.holds Try.pinned (OpenSpec.upto fnExactLostNeedsSpec)

/-- 'laws.FnExactWastedUnits', WHERE WHAT IT READS IS OF BULK AT MOST 1048576: true; the input reads as it did. -/
def fnExactWastedUnitsUptoRow : OpenClaim := { program := "ytgkjnhajomjhcaa", sum := "e4fd8f3f277cbe53a37908d4815a5e0fca564ab54f609748e0c7d7c9135c6df9", func := "loop.example/g01111/laws.FnExactWastedUnits", spec := "fnExactWastedUnits", apart := false, narrowed := true }
def FnExactWastedUnitsUptoSaid : Prop := fnExactWastedUnitsUptoRow.holds Try.pinned (OpenSpec.upto fnExactWastedUnitsSpec)

/-- 'laws.FnExactStockByAge', WHERE WHAT IT READS IS OF BULK AT MOST 1048576: true; the input reads as it did. -/
def fnExactStockByAgeUptoRow : OpenClaim := { program := "ytgkjnhajomjhcaa", sum := "e4fd8f3f277cbe53a37908d4815a5e0fca564ab54f609748e0c7d7c9135c6df9", func := "loop.example/g01111/laws.FnExactStockByAge", spec := "fnExactStockByAge", apart := false, narrowed := true }
def FnExactStockByAgeUptoSaid : Prop := fnExactStockByAgeUptoRow.holds Try.pinned (OpenSpec.upto fnExactStockByAgeSpec)

/-- 'laws.FnExactLostProof', WHERE WHAT IT READS IS OF BULK AT MOST 1048576: true; the input reads as it did. -/
def fnExactLostProofUptoRow : OpenClaim := { program := "ytgkjnhajomjhcaa", sum := "e4fd8f3f277cbe53a37908d4815a5e0fca564ab54f609748e0c7d7c9135c6df9", func := "loop.example/g01111/laws.FnExactLostProof", spec := "fnExactLostProof", unfollowed := true, recurses := true, apart := false, narrowed := true }
def FnExactLostProofUptoSaid : Prop := fnExactLostProofUptoRow.holds Try.pinned (OpenSpec.upto fnExactLostProofSpec)

/-- 'laws.FnExactBestFresh', WHERE WHAT IT READS IS OF BULK AT MOST 1048576: true; the input reads as it did. -/
def fnExactBestFreshUptoRow : OpenClaim := { program := "ytgkjnhajomjhcaa", sum := "e4fd8f3f277cbe53a37908d4815a5e0fca564ab54f609748e0c7d7c9135c6df9", func := "loop.example/g01111/laws.FnExactBestFresh", spec := "fnExactBestFresh", unfollowed := true, recurses := true, apart := false, narrowed := true }
def FnExactBestFreshUptoSaid : Prop := fnExactBestFreshUptoRow.holds Try.pinned (OpenSpec.upto fnExactBestFreshSpec)

/-- 'laws.FnExactLifeGains', WHERE WHAT IT READS IS OF BULK AT MOST 1048576: true; the input reads as it did. -/
def fnExactLifeGainsUptoRow : OpenClaim := { program := "ytgkjnhajomjhcaa", sum := "e4fd8f3f277cbe53a37908d4815a5e0fca564ab54f609748e0c7d7c9135c6df9", func := "loop.example/g01111/laws.FnExactLifeGains", spec := "fnExactLifeGains", unfollowed := true, recurses := true, apart := false, narrowed := true }
def FnExactLifeGainsUptoSaid : Prop := fnExactLifeGainsUptoRow.holds Try.pinned (OpenSpec.upto fnExactLifeGainsSpec)

/-- 'laws.FnShelves', WHERE WHAT IT READS IS OF BULK AT MOST 1048576: true; the input reads as it did. -/
def fnShelvesUptoRow : OpenClaim := { program := "ytgkjnhajomjhcaa", sum := "e4fd8f3f277cbe53a37908d4815a5e0fca564ab54f609748e0c7d7c9135c6df9", func := "loop.example/g01111/laws.FnShelves", spec := "fnShelves", unfollowed := true, recurses := true, apart := false, narrowed := true }
def FnShelvesUptoSaid : Prop := fnShelvesUptoRow.holds Try.pinned (OpenSpec.upto fnShelvesSpec)

/-- 'laws.FnAges', WHERE WHAT IT READS IS OF BULK AT MOST 1048576: true; the input reads as it did. -/
def fnAgesUptoRow : OpenClaim := { program := "ytgkjnhajomjhcaa", sum := "e4fd8f3f277cbe53a37908d4815a5e0fca564ab54f609748e0c7d7c9135c6df9", func := "loop.example/g01111/laws.FnAges", spec := "fnAges", unfollowed := true, recurses := true, apart := false, narrowed := true }
def FnAgesUptoSaid : Prop := fnAgesUptoRow.holds Try.pinned (OpenSpec.upto fnAgesSpec)

end Rows
end Go.Proofs.Ytgkjnhajomjhcaa
