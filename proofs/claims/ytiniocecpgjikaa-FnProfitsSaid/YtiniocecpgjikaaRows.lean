/-
  No cell of these rows narrows 'for every input' (looked for: loops, veiled, ifaces, maps, wideKeys, modest, calm, conditions, laid).
  DERIVED. THE GIVEN ROWS OF THIS SEAT. 7 by the template 'for every input the law returns true; each argument reads behind the call as it read before'; 0 by the template 'total and deterministic' (their statements: YtiniocecpgjikaaTotals.lean).
  GIVEN WITH THE SEED: the statements are not yours to turn. If you find one false, say at which input.
  Laid BY PROGRAM, IN A SANDBOX (cutbox-rows.mjs): the forced cells as the released guide's own fill.sh prints them over the translation 8eb5a594db22d2b8… (all of the seat's roots in one cut). By AI agents, Wed Nov 11 2026. No macro, syntax, notation, axiom, sorry.
-/
import Derived.Test.YtiniocecpgjikaaChecked
import GoSem.Claim
import GoSem.ClaimJoined
import GoSem.ClaimMapViews
import Derived.JoinedTies
import Derived.KernelRfl
namespace Go.Proofs.Ytiniocecpgjikaa
/- THE CELL 'sum', in the pinned program and in every row, IS THE sha256 OF THE DUMP (.gsa) THAT YtiniocecpgjikaaProg.lean LOADS. Nothing in Lean hashes anything: it is a label: what it is worth is what the hold of that sum in a sandbox is worth. -/
noncomputable def Try.pinned : Pinned := { name := "ytiniocecpgjikaa", sum := "8eb5a594db22d2b858956d3b697dfad62c3ff444f8dd90eec9536fe16e874895", checked := Try.checked }
namespace Rows
def none {H : Type} : Left H := { results := [], args := [] }

/-- 'laws.FnExactIsCoordinated': WHATEVER THE INPUT: true; the input reads as it did. -/
def fnExactIsCoordinatedSpec : ChangeSpec := { name := "fnExactIsCoordinated", fn := fun _ => fun
  | [d1, d2] => { results := [.lit (.bool true)], args := [d1, d2] }
  | _ => none }
def fnExactIsCoordinatedRow : OpenClaim := { program := "ytiniocecpgjikaa", sum := "8eb5a594db22d2b858956d3b697dfad62c3ff444f8dd90eec9536fe16e874895", func := "loop.example/g01111/laws.FnExactIsCoordinated", spec := "fnExactIsCoordinated", unfollowed := true, recurses := true, apart := false }
def FnExactIsCoordinatedSaid : Prop := fnExactIsCoordinatedRow.holds Try.pinned (OpenSpec.ofChange fnExactIsCoordinatedSpec)

/-- ITS FALSE NEIGHBOUR: 'it returns false'. Refute it at one input. -/
def fnExactIsCoordinatedWrong : ChangeSpec := { name := "fnExactIsCoordinated", fn := fun _ => fun
  | [d1, d2] => { results := [.lit (.bool false)], args := [d1, d2] }
  | _ => none }
def FnExactIsCoordinatedWrongFalsely : Prop := fnExactIsCoordinatedRow.holds Try.pinned (OpenSpec.ofChange fnExactIsCoordinatedWrong)

/-- 'laws.FnExactProfitLoss': WHATEVER THE INPUT: true; the input reads as it did. -/
def fnExactProfitLossSpec : ChangeSpec := { name := "fnExactProfitLoss", fn := fun _ => fun
  | [d1, d2] => { results := [.lit (.bool true)], args := [d1, d2] }
  | _ => none }
def fnExactProfitLossRow : OpenClaim := { program := "ytiniocecpgjikaa", sum := "8eb5a594db22d2b858956d3b697dfad62c3ff444f8dd90eec9536fe16e874895", func := "loop.example/g01111/laws.FnExactProfitLoss", spec := "fnExactProfitLoss", unfollowed := true, recurses := true, apart := false }
def FnExactProfitLossSaid : Prop := fnExactProfitLossRow.holds Try.pinned (OpenSpec.ofChange fnExactProfitLossSpec)

/-- ITS FALSE NEIGHBOUR: 'it returns false'. Refute it at one input. -/
def fnExactProfitLossWrong : ChangeSpec := { name := "fnExactProfitLoss", fn := fun _ => fun
  | [d1, d2] => { results := [.lit (.bool false)], args := [d1, d2] }
  | _ => none }
def FnExactProfitLossWrongFalsely : Prop := fnExactProfitLossRow.holds Try.pinned (OpenSpec.ofChange fnExactProfitLossWrong)

/-- 'laws.FnExactBestPlain': WHATEVER THE INPUT: true; the input reads as it did. -/
def fnExactBestPlainSpec : ChangeSpec := { name := "fnExactBestPlain", fn := fun _ => fun
  | [d] => { results := [.lit (.bool true)], args := [d] }
  | _ => none }
def fnExactBestPlainRow : OpenClaim := { program := "ytiniocecpgjikaa", sum := "8eb5a594db22d2b858956d3b697dfad62c3ff444f8dd90eec9536fe16e874895", func := "loop.example/g01111/laws.FnExactBestPlain", spec := "fnExactBestPlain", unfollowed := true, recurses := true, apart := false }
def FnExactBestPlainSaid : Prop := fnExactBestPlainRow.holds Try.pinned (OpenSpec.ofChange fnExactBestPlainSpec)

/-- ITS FALSE NEIGHBOUR: 'it returns false'. Refute it at one input. -/
def fnExactBestPlainWrong : ChangeSpec := { name := "fnExactBestPlain", fn := fun _ => fun
  | [d] => { results := [.lit (.bool false)], args := [d] }
  | _ => none }
def FnExactBestPlainWrongFalsely : Prop := fnExactBestPlainRow.holds Try.pinned (OpenSpec.ofChange fnExactBestPlainWrong)

/-- 'laws.FnExactBackContracts': WHATEVER THE INPUT: true; the input reads as it did. -/
def fnExactBackContractsSpec : ChangeSpec := { name := "fnExactBackContracts", fn := fun _ => fun
  | [d] => { results := [.lit (.bool true)], args := [d] }
  | _ => none }
def fnExactBackContractsRow : OpenClaim := { program := "ytiniocecpgjikaa", sum := "8eb5a594db22d2b858956d3b697dfad62c3ff444f8dd90eec9536fe16e874895", func := "loop.example/g01111/laws.FnExactBackContracts", spec := "fnExactBackContracts", apart := false }
def FnExactBackContractsSaid : Prop := fnExactBackContractsRow.holds Try.pinned (OpenSpec.ofChange fnExactBackContractsSpec)

/-- ITS FALSE NEIGHBOUR: 'it returns false'. Refute it at one input. -/
def fnExactBackContractsWrong : ChangeSpec := { name := "fnExactBackContracts", fn := fun _ => fun
  | [d] => { results := [.lit (.bool false)], args := [d] }
  | _ => none }
def FnExactBackContractsWrongFalsely : Prop := fnExactBackContractsRow.holds Try.pinned (OpenSpec.ofChange fnExactBackContractsWrong)

/-- 'laws.FnExactPlainContracts': WHATEVER THE INPUT: true; the input reads as it did. -/
def fnExactPlainContractsSpec : ChangeSpec := { name := "fnExactPlainContracts", fn := fun _ => fun
  | [d] => { results := [.lit (.bool true)], args := [d] }
  | _ => none }
def fnExactPlainContractsRow : OpenClaim := { program := "ytiniocecpgjikaa", sum := "8eb5a594db22d2b858956d3b697dfad62c3ff444f8dd90eec9536fe16e874895", func := "loop.example/g01111/laws.FnExactPlainContracts", spec := "fnExactPlainContracts", unfollowed := true, recurses := true, apart := false }
def FnExactPlainContractsSaid : Prop := fnExactPlainContractsRow.holds Try.pinned (OpenSpec.ofChange fnExactPlainContractsSpec)

/-- ITS FALSE NEIGHBOUR: 'it returns false'. Refute it at one input. -/
def fnExactPlainContractsWrong : ChangeSpec := { name := "fnExactPlainContracts", fn := fun _ => fun
  | [d] => { results := [.lit (.bool false)], args := [d] }
  | _ => none }
def FnExactPlainContractsWrongFalsely : Prop := fnExactPlainContractsRow.holds Try.pinned (OpenSpec.ofChange fnExactPlainContractsWrong)

/-- 'laws.FnContracts': WHATEVER THE INPUT: true; the input reads as it did. -/
def fnContractsSpec : ChangeSpec := { name := "fnContracts", fn := fun _ => fun
  | [d] => { results := [.lit (.bool true)], args := [d] }
  | _ => none }
def fnContractsRow : OpenClaim := { program := "ytiniocecpgjikaa", sum := "8eb5a594db22d2b858956d3b697dfad62c3ff444f8dd90eec9536fe16e874895", func := "loop.example/g01111/laws.FnContracts", spec := "fnContracts", unfollowed := true, recurses := true, apart := false }
def FnContractsSaid : Prop := fnContractsRow.holds Try.pinned (OpenSpec.ofChange fnContractsSpec)

/-- ITS FALSE NEIGHBOUR: 'it returns false'. Refute it at one input. -/
def fnContractsWrong : ChangeSpec := { name := "fnContracts", fn := fun _ => fun
  | [d] => { results := [.lit (.bool false)], args := [d] }
  | _ => none }
def FnContractsWrongFalsely : Prop := fnContractsRow.holds Try.pinned (OpenSpec.ofChange fnContractsWrong)

/-- 'laws.FnProfits': WHATEVER THE INPUT: true; the input reads as it did. -/
def fnProfitsSpec : ChangeSpec := { name := "fnProfits", fn := fun _ => fun
  | [d] => { results := [.lit (.bool true)], args := [d] }
  | _ => none }
def fnProfitsRow : OpenClaim := { program := "ytiniocecpgjikaa", sum := "8eb5a594db22d2b858956d3b697dfad62c3ff444f8dd90eec9536fe16e874895", func := "loop.example/g01111/laws.FnProfits", spec := "fnProfits", unfollowed := true, recurses := true, apart := false }
def FnProfitsSaid : Prop := fnProfitsRow.holds Try.pinned (OpenSpec.ofChange fnProfitsSpec)

/-- ITS FALSE NEIGHBOUR: 'it returns false'. Refute it at one input. -/
def fnProfitsWrong : ChangeSpec := { name := "fnProfits", fn := fun _ => fun
  | [d] => { results := [.lit (.bool false)], args := [d] }
  | _ => none }
def FnProfitsWrongFalsely : Prop := fnProfitsRow.holds Try.pinned (OpenSpec.ofChange fnProfitsWrong)

/- THE SECOND FORM. 'bulk': how many values and letters a reading holds, each counted each time it is reached (what is shared counts as often as it is met; a slice's spare places count too). A statement '..UptoSaid' is the law's where the arguments, and the package variables that the reading takes, are together of bulk at most 1048576: NARROWER than '..Said'. Prove '..Said' where nothing that the law and all that it calls make is longer than what came in: it says more and counts as full. Else prove '..UptoSaid'. A law counts once. -/
mutual
def uptoBulk {H : Type} : DataW H → Nat
  | .lit (.string bytes) => bytes.length + 1
  | .lit _ => 1
  | .nil => 1
  | .ptr d => uptoBulk d + 1
  | .slice elems spare => uptoBulkAll elems + uptoBulkAll spare + 1
  | .agg parts => uptoBulkAll parts + 1
  | .iface _ d => uptoBulk d + 1
  | .map entries => uptoBulkEntries entries + 1
  | .held _ => 1
def uptoBulkAll {H : Type} : List (DataW H) → Nat
  | [] => 0
  | d :: r => uptoBulk d + uptoBulkAll r
def uptoBulkEntries {H : Type} : List (Lit × DataW H) → Nat
  | [] => 0
  | x :: r => uptoBulkEntry x + uptoBulkEntries r
def uptoBulkEntry {H : Type} : Lit × DataW H → Nat
  | (.string bytes, d) => bytes.length + uptoBulk d + 1
  | (_, d) => uptoBulk d + 1
 end
def uptoSmall : (H : Type) → List (DataW H) → Bool := fun _ ds => decide (uptoBulkAll ds ≤ 1048576)
def OpenSpec.upto (s : _root_.Go.ChangeSpec) : _root_.Go.OpenSpec := { _root_.Go.OpenSpec.ofChange s with cond := some uptoSmall }

/-- 'laws.FnExactIsCoordinated', WHERE WHAT IT READS IS OF BULK AT MOST 1048576: true; the input reads as it did. -/
def fnExactIsCoordinatedUptoRow : OpenClaim := { program := "ytiniocecpgjikaa", sum := "8eb5a594db22d2b858956d3b697dfad62c3ff444f8dd90eec9536fe16e874895", func := "loop.example/g01111/laws.FnExactIsCoordinated", spec := "fnExactIsCoordinated", unfollowed := true, recurses := true, apart := false, narrowed := true }
def FnExactIsCoordinatedUptoSaid : Prop := fnExactIsCoordinatedUptoRow.holds Try.pinned (OpenSpec.upto fnExactIsCoordinatedSpec)

/-- 'laws.FnExactProfitLoss', WHERE WHAT IT READS IS OF BULK AT MOST 1048576: true; the input reads as it did. -/
def fnExactProfitLossUptoRow : OpenClaim := { program := "ytiniocecpgjikaa", sum := "8eb5a594db22d2b858956d3b697dfad62c3ff444f8dd90eec9536fe16e874895", func := "loop.example/g01111/laws.FnExactProfitLoss", spec := "fnExactProfitLoss", unfollowed := true, recurses := true, apart := false, narrowed := true }
def FnExactProfitLossUptoSaid : Prop := fnExactProfitLossUptoRow.holds Try.pinned (OpenSpec.upto fnExactProfitLossSpec)

/-- 'laws.FnExactBestPlain', WHERE WHAT IT READS IS OF BULK AT MOST 1048576: true; the input reads as it did. -/
def fnExactBestPlainUptoRow : OpenClaim := { program := "ytiniocecpgjikaa", sum := "8eb5a594db22d2b858956d3b697dfad62c3ff444f8dd90eec9536fe16e874895", func := "loop.example/g01111/laws.FnExactBestPlain", spec := "fnExactBestPlain", unfollowed := true, recurses := true, apart := false, narrowed := true }
def FnExactBestPlainUptoSaid : Prop := fnExactBestPlainUptoRow.holds Try.pinned (OpenSpec.upto fnExactBestPlainSpec)

/-- 'laws.FnExactBackContracts', WHERE WHAT IT READS IS OF BULK AT MOST 1048576: true; the input reads as it did. -/
def fnExactBackContractsUptoRow : OpenClaim := { program := "ytiniocecpgjikaa", sum := "8eb5a594db22d2b858956d3b697dfad62c3ff444f8dd90eec9536fe16e874895", func := "loop.example/g01111/laws.FnExactBackContracts", spec := "fnExactBackContracts", apart := false, narrowed := true }
def FnExactBackContractsUptoSaid : Prop := fnExactBackContractsUptoRow.holds Try.pinned (OpenSpec.upto fnExactBackContractsSpec)

/-- 'laws.FnExactPlainContracts', WHERE WHAT IT READS IS OF BULK AT MOST 1048576: true; the input reads as it did. -/
def fnExactPlainContractsUptoRow : OpenClaim := { program := "ytiniocecpgjikaa", sum := "8eb5a594db22d2b858956d3b697dfad62c3ff444f8dd90eec9536fe16e874895", func := "loop.example/g01111/laws.FnExactPlainContracts", spec := "fnExactPlainContracts", unfollowed := true, recurses := true, apart := false, narrowed := true }
def FnExactPlainContractsUptoSaid : Prop := fnExactPlainContractsUptoRow.holds Try.pinned (OpenSpec.upto fnExactPlainContractsSpec)

/-- 'laws.FnContracts', WHERE WHAT IT READS IS OF BULK AT MOST 1048576: true; the input reads as it did. -/
def fnContractsUptoRow : OpenClaim := { program := "ytiniocecpgjikaa", sum := "8eb5a594db22d2b858956d3b697dfad62c3ff444f8dd90eec9536fe16e874895", func := "loop.example/g01111/laws.FnContracts", spec := "fnContracts", unfollowed := true, recurses := true, apart := false, narrowed := true }
def FnContractsUptoSaid : Prop := fnContractsUptoRow.holds Try.pinned (OpenSpec.upto fnContractsSpec)

/-- 'laws.FnProfits', WHERE WHAT IT READS IS OF BULK AT MOST 1048576: true; the input reads as it did. -/
def fnProfitsUptoRow : OpenClaim := { program := "ytiniocecpgjikaa", sum := "8eb5a594db22d2b858956d3b697dfad62c3ff444f8dd90eec9536fe16e874895", func := "loop.example/g01111/laws.FnProfits", spec := "fnProfits", unfollowed := true, recurses := true, apart := false, narrowed := true }
def FnProfitsUptoSaid : Prop := fnProfitsUptoRow.holds Try.pinned (OpenSpec.upto fnProfitsSpec)

end Rows
end Go.Proofs.Ytiniocecpgjikaa
