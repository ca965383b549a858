/-
  No cell of these rows narrows 'for every input' (looked for: loops, veiled, ifaces, maps, wideKeys, modest, calm, conditions, laid).
  DERIVED. THE GIVEN ROWS OF THIS SEAT. 12 by the template 'for every input the law returns true; each argument reads behind the call as it read before'; 0 by the template 'total and deterministic' (their statements: YtpjiianlailbkaaTotals.lean).
  GIVEN WITH THE SEED: the statements are not yours to turn. If you find one false, say at which input.
  Laid BY PROGRAM, IN A SANDBOX (cutbox-rows.mjs): the forced cells as the released guide's own fill.sh prints them over the translation 03a559e3a6d95ceb… (all of the seat's roots in one cut). By AI agents, Wed Nov 11 2026. No macro, syntax, notation, axiom, sorry.
-/
import Derived.Test.YtpjiianlailbkaaChecked
import GoSem.Claim
import GoSem.ClaimJoined
import GoSem.ClaimMapViews
import Derived.JoinedTies
import Derived.KernelRfl
namespace Go.Proofs.Ytpjiianlailbkaa
/- THE CELL 'sum', in the pinned program and in every row, IS THE sha256 OF THE DUMP (.gsa) THAT YtpjiianlailbkaaProg.lean LOADS. Nothing in Lean hashes anything: it is a label: what it is worth is what the hold of that sum in a sandbox is worth. -/
noncomputable def Try.pinned : Pinned := { name := "ytpjiianlailbkaa", sum := "03a559e3a6d95ceb52b6a79013c8f30d9eba1c5b4df777efbf65964594c4daa2", checked := Try.checked }
namespace Rows
def none {H : Type} : Left H := { results := [], args := [] }

/-- 'laws.FnExactIsContract': WHATEVER THE INPUT: true; the input reads as it did. -/
def fnExactIsContractSpec : ChangeSpec := { name := "fnExactIsContract", fn := fun _ => fun
  | [d] => { results := [.lit (.bool true)], args := [d] }
  | _ => none }
def fnExactIsContractRow : OpenClaim := { program := "ytpjiianlailbkaa", sum := "03a559e3a6d95ceb52b6a79013c8f30d9eba1c5b4df777efbf65964594c4daa2", func := "loop.example/g01111/laws.FnExactIsContract", spec := "fnExactIsContract", apart := false }
def FnExactIsContractSaid : Prop := fnExactIsContractRow.holds Try.pinned (OpenSpec.ofChange fnExactIsContractSpec)

/-- ITS FALSE NEIGHBOUR: 'it returns false'. Refute it at one input. -/
def fnExactIsContractWrong : ChangeSpec := { name := "fnExactIsContract", fn := fun _ => fun
  | [d] => { results := [.lit (.bool false)], args := [d] }
  | _ => none }
def FnExactIsContractWrongFalsely : Prop := fnExactIsContractRow.holds Try.pinned (OpenSpec.ofChange fnExactIsContractWrong)

/-- 'laws.FnExactIsMarket': WHATEVER THE INPUT: true; the input reads as it did. -/
def fnExactIsMarketSpec : ChangeSpec := { name := "fnExactIsMarket", fn := fun _ => fun
  | [d] => { results := [.lit (.bool true)], args := [d] }
  | _ => none }
def fnExactIsMarketRow : OpenClaim := { program := "ytpjiianlailbkaa", sum := "03a559e3a6d95ceb52b6a79013c8f30d9eba1c5b4df777efbf65964594c4daa2", func := "loop.example/g01111/laws.FnExactIsMarket", spec := "fnExactIsMarket", apart := false }
def FnExactIsMarketSaid : Prop := fnExactIsMarketRow.holds Try.pinned (OpenSpec.ofChange fnExactIsMarketSpec)

/-- ITS FALSE NEIGHBOUR: 'it returns false'. Refute it at one input. -/
def fnExactIsMarketWrong : ChangeSpec := { name := "fnExactIsMarket", fn := fun _ => fun
  | [d] => { results := [.lit (.bool false)], args := [d] }
  | _ => none }
def FnExactIsMarketWrongFalsely : Prop := fnExactIsMarketRow.holds Try.pinned (OpenSpec.ofChange fnExactIsMarketWrong)

/-- 'laws.FnExactQuotientOrder': WHATEVER THE INPUT: true; the input reads as it did. -/
def fnExactQuotientOrderSpec : ChangeSpec := { name := "fnExactQuotientOrder", fn := fun _ => fun
  | [d] => { results := [.lit (.bool true)], args := [d] }
  | _ => none }
def fnExactQuotientOrderRow : OpenClaim := { program := "ytpjiianlailbkaa", sum := "03a559e3a6d95ceb52b6a79013c8f30d9eba1c5b4df777efbf65964594c4daa2", func := "loop.example/g01111/laws.FnExactQuotientOrder", spec := "fnExactQuotientOrder", apart := false }
def FnExactQuotientOrderSaid : Prop := fnExactQuotientOrderRow.holds Try.pinned (OpenSpec.ofChange fnExactQuotientOrderSpec)

/-- ITS FALSE NEIGHBOUR: 'it returns false'. Refute it at one input. -/
def fnExactQuotientOrderWrong : ChangeSpec := { name := "fnExactQuotientOrder", fn := fun _ => fun
  | [d] => { results := [.lit (.bool false)], args := [d] }
  | _ => none }
def FnExactQuotientOrderWrongFalsely : Prop := fnExactQuotientOrderRow.holds Try.pinned (OpenSpec.ofChange fnExactQuotientOrderWrong)

/-- 'laws.FnExactSalesOf': WHATEVER THE INPUT: true; the input reads as it did. -/
def fnExactSalesOfSpec : ChangeSpec := { name := "fnExactSalesOf", fn := fun _ => fun
  | [d1, d2] => { results := [.lit (.bool true)], args := [d1, d2] }
  | _ => none }
def fnExactSalesOfRow : OpenClaim := { program := "ytpjiianlailbkaa", sum := "03a559e3a6d95ceb52b6a79013c8f30d9eba1c5b4df777efbf65964594c4daa2", func := "loop.example/g01111/laws.FnExactSalesOf", spec := "fnExactSalesOf", unfollowed := true, recurses := true, apart := false }
def FnExactSalesOfSaid : Prop := fnExactSalesOfRow.holds Try.pinned (OpenSpec.ofChange fnExactSalesOfSpec)

/-- ITS FALSE NEIGHBOUR: 'it returns false'. Refute it at one input. -/
def fnExactSalesOfWrong : ChangeSpec := { name := "fnExactSalesOf", fn := fun _ => fun
  | [d1, d2] => { results := [.lit (.bool false)], args := [d1, d2] }
  | _ => none }
def FnExactSalesOfWrongFalsely : Prop := fnExactSalesOfRow.holds Try.pinned (OpenSpec.ofChange fnExactSalesOfWrong)

/-- 'laws.FnExactInProportion': WHATEVER THE INPUT: true; the input reads as it did. -/
def fnExactInProportionSpec : ChangeSpec := { name := "fnExactInProportion", fn := fun _ => fun
  | [d1, d2] => { results := [.lit (.bool true)], args := [d1, d2] }
  | _ => none }
def fnExactInProportionRow : OpenClaim := { program := "ytpjiianlailbkaa", sum := "03a559e3a6d95ceb52b6a79013c8f30d9eba1c5b4df777efbf65964594c4daa2", func := "loop.example/g01111/laws.FnExactInProportion", spec := "fnExactInProportion", apart := false }
def FnExactInProportionSaid : Prop := fnExactInProportionRow.holds Try.pinned (OpenSpec.ofChange fnExactInProportionSpec)

/-- ITS FALSE NEIGHBOUR: 'it returns false'. Refute it at one input. -/
def fnExactInProportionWrong : ChangeSpec := { name := "fnExactInProportion", fn := fun _ => fun
  | [d1, d2] => { results := [.lit (.bool false)], args := [d1, d2] }
  | _ => none }
def FnExactInProportionWrongFalsely : Prop := fnExactInProportionRow.holds Try.pinned (OpenSpec.ofChange fnExactInProportionWrong)

/-- 'laws.FnExactPayFor': WHATEVER THE INPUT: true; the input reads as it did. -/
def fnExactPayForSpec : ChangeSpec := { name := "fnExactPayFor", fn := fun _ => fun
  | [d1, d2, d3] => { results := [.lit (.bool true)], args := [d1, d2, d3] }
  | _ => none }
def fnExactPayForRow : OpenClaim := { program := "ytpjiianlailbkaa", sum := "03a559e3a6d95ceb52b6a79013c8f30d9eba1c5b4df777efbf65964594c4daa2", func := "loop.example/g01111/laws.FnExactPayFor", spec := "fnExactPayFor", apart := false }
def FnExactPayForSaid : Prop := fnExactPayForRow.holds Try.pinned (OpenSpec.ofChange fnExactPayForSpec)

/-- ITS FALSE NEIGHBOUR: 'it returns false'. Refute it at one input. -/
def fnExactPayForWrong : ChangeSpec := { name := "fnExactPayFor", fn := fun _ => fun
  | [d1, d2, d3] => { results := [.lit (.bool false)], args := [d1, d2, d3] }
  | _ => none }
def FnExactPayForWrongFalsely : Prop := fnExactPayForRow.holds Try.pinned (OpenSpec.ofChange fnExactPayForWrong)

/-- 'laws.FnExactJointProfit': WHATEVER THE INPUT: true; the input reads as it did. -/
def fnExactJointProfitSpec : ChangeSpec := { name := "fnExactJointProfit", fn := fun _ => fun
  | [d1, d2] => { results := [.lit (.bool true)], args := [d1, d2] }
  | _ => none }
def fnExactJointProfitRow : OpenClaim := { program := "ytpjiianlailbkaa", sum := "03a559e3a6d95ceb52b6a79013c8f30d9eba1c5b4df777efbf65964594c4daa2", func := "loop.example/g01111/laws.FnExactJointProfit", spec := "fnExactJointProfit", unfollowed := true, recurses := true, apart := false }
def FnExactJointProfitSaid : Prop := fnExactJointProfitRow.holds Try.pinned (OpenSpec.ofChange fnExactJointProfitSpec)

/-- ITS FALSE NEIGHBOUR: 'it returns false'. Refute it at one input. -/
def fnExactJointProfitWrong : ChangeSpec := { name := "fnExactJointProfit", fn := fun _ => fun
  | [d1, d2] => { results := [.lit (.bool false)], args := [d1, d2] }
  | _ => none }
def FnExactJointProfitWrongFalsely : Prop := fnExactJointProfitRow.holds Try.pinned (OpenSpec.ofChange fnExactJointProfitWrong)

/-- 'laws.FnExactMakerProfit': WHATEVER THE INPUT: true; the input reads as it did. -/
def fnExactMakerProfitSpec : ChangeSpec := { name := "fnExactMakerProfit", fn := fun _ => fun
  | [d1, d2, d3] => { results := [.lit (.bool true)], args := [d1, d2, d3] }
  | _ => none }
def fnExactMakerProfitRow : OpenClaim := { program := "ytpjiianlailbkaa", sum := "03a559e3a6d95ceb52b6a79013c8f30d9eba1c5b4df777efbf65964594c4daa2", func := "loop.example/g01111/laws.FnExactMakerProfit", spec := "fnExactMakerProfit", unfollowed := true, recurses := true, apart := false }
def FnExactMakerProfitSaid : Prop := fnExactMakerProfitRow.holds Try.pinned (OpenSpec.ofChange fnExactMakerProfitSpec)

/-- ITS FALSE NEIGHBOUR: 'it returns false'. Refute it at one input. -/
def fnExactMakerProfitWrong : ChangeSpec := { name := "fnExactMakerProfit", fn := fun _ => fun
  | [d1, d2, d3] => { results := [.lit (.bool false)], args := [d1, d2, d3] }
  | _ => none }
def FnExactMakerProfitWrongFalsely : Prop := fnExactMakerProfitRow.holds Try.pinned (OpenSpec.ofChange fnExactMakerProfitWrong)

/-- 'laws.FnExactSellerProfit': WHATEVER THE INPUT: true; the input reads as it did. -/
def fnExactSellerProfitSpec : ChangeSpec := { name := "fnExactSellerProfit", fn := fun _ => fun
  | [d1, d2, d3] => { results := [.lit (.bool true)], args := [d1, d2, d3] }
  | _ => none }
def fnExactSellerProfitRow : OpenClaim := { program := "ytpjiianlailbkaa", sum := "03a559e3a6d95ceb52b6a79013c8f30d9eba1c5b4df777efbf65964594c4daa2", func := "loop.example/g01111/laws.FnExactSellerProfit", spec := "fnExactSellerProfit", unfollowed := true, recurses := true, apart := false }
def FnExactSellerProfitSaid : Prop := fnExactSellerProfitRow.holds Try.pinned (OpenSpec.ofChange fnExactSellerProfitSpec)

/-- ITS FALSE NEIGHBOUR: 'it returns false'. Refute it at one input. -/
def fnExactSellerProfitWrong : ChangeSpec := { name := "fnExactSellerProfit", fn := fun _ => fun
  | [d1, d2, d3] => { results := [.lit (.bool false)], args := [d1, d2, d3] }
  | _ => none }
def FnExactSellerProfitWrongFalsely : Prop := fnExactSellerProfitRow.holds Try.pinned (OpenSpec.ofChange fnExactSellerProfitWrong)

/-- 'laws.FnExactJointOrder': WHATEVER THE INPUT: true; the input reads as it did. -/
def fnExactJointOrderSpec : ChangeSpec := { name := "fnExactJointOrder", fn := fun _ => fun
  | [d] => { results := [.lit (.bool true)], args := [d] }
  | _ => none }
def fnExactJointOrderRow : OpenClaim := { program := "ytpjiianlailbkaa", sum := "03a559e3a6d95ceb52b6a79013c8f30d9eba1c5b4df777efbf65964594c4daa2", func := "loop.example/g01111/laws.FnExactJointOrder", spec := "fnExactJointOrder", unfollowed := true, recurses := true, apart := false }
def FnExactJointOrderSaid : Prop := fnExactJointOrderRow.holds Try.pinned (OpenSpec.ofChange fnExactJointOrderSpec)

/-- ITS FALSE NEIGHBOUR: 'it returns false'. Refute it at one input. -/
def fnExactJointOrderWrong : ChangeSpec := { name := "fnExactJointOrder", fn := fun _ => fun
  | [d] => { results := [.lit (.bool false)], args := [d] }
  | _ => none }
def FnExactJointOrderWrongFalsely : Prop := fnExactJointOrderRow.holds Try.pinned (OpenSpec.ofChange fnExactJointOrderWrong)

/-- 'laws.FnExactJointProfits': WHATEVER THE INPUT: true; the input reads as it did. -/
def fnExactJointProfitsSpec : ChangeSpec := { name := "fnExactJointProfits", fn := fun _ => fun
  | [d] => { results := [.lit (.bool true)], args := [d] }
  | _ => none }
def fnExactJointProfitsRow : OpenClaim := { program := "ytpjiianlailbkaa", sum := "03a559e3a6d95ceb52b6a79013c8f30d9eba1c5b4df777efbf65964594c4daa2", func := "loop.example/g01111/laws.FnExactJointProfits", spec := "fnExactJointProfits", unfollowed := true, recurses := true, apart := false }
def FnExactJointProfitsSaid : Prop := fnExactJointProfitsRow.holds Try.pinned (OpenSpec.ofChange fnExactJointProfitsSpec)

/-- ITS FALSE NEIGHBOUR: 'it returns false'. Refute it at one input. -/
def fnExactJointProfitsWrong : ChangeSpec := { name := "fnExactJointProfits", fn := fun _ => fun
  | [d] => { results := [.lit (.bool false)], args := [d] }
  | _ => none }
def FnExactJointProfitsWrongFalsely : Prop := fnExactJointProfitsRow.holds Try.pinned (OpenSpec.ofChange fnExactJointProfitsWrong)

/-- 'laws.FnExactSellerOrder': WHATEVER THE INPUT: true; the input reads as it did. -/
def fnExactSellerOrderSpec : ChangeSpec := { name := "fnExactSellerOrder", fn := fun _ => fun
  | [d1, d2] => { results := [.lit (.bool true)], args := [d1, d2] }
  | _ => none }
def fnExactSellerOrderRow : OpenClaim := { program := "ytpjiianlailbkaa", sum := "03a559e3a6d95ceb52b6a79013c8f30d9eba1c5b4df777efbf65964594c4daa2", func := "loop.example/g01111/laws.FnExactSellerOrder", spec := "fnExactSellerOrder", unfollowed := true, recurses := true, apart := false }
def FnExactSellerOrderSaid : Prop := fnExactSellerOrderRow.holds Try.pinned (OpenSpec.ofChange fnExactSellerOrderSpec)

/-- ITS FALSE NEIGHBOUR: 'it returns false'. Refute it at one input. -/
def fnExactSellerOrderWrong : ChangeSpec := { name := "fnExactSellerOrder", fn := fun _ => fun
  | [d1, d2] => { results := [.lit (.bool false)], args := [d1, d2] }
  | _ => none }
def FnExactSellerOrderWrongFalsely : Prop := fnExactSellerOrderRow.holds Try.pinned (OpenSpec.ofChange fnExactSellerOrderWrong)

/- THE SECOND FORM. 'bulk': how many values and letters a reading holds, each counted each time it is reached (what is shared counts as often as it is met; a slice's spare places count too). A statement '..UptoSaid' is the law's where the arguments, and the package variables that the reading takes, are together of bulk at most 1048576: NARROWER than '..Said'. Prove '..Said' where nothing that the law and all that it calls make is longer than what came in: it says more and counts as full. Else prove '..UptoSaid'. A law counts once. -/
mutual
def uptoBulk {H : Type} : DataW H → Nat
  | .lit (.string bytes) => bytes.length + 1
  | .lit _ => 1
  | .nil => 1
  | .ptr d => uptoBulk d + 1
  | .slice elems spare => uptoBulkAll elems + uptoBulkAll spare + 1
  | .agg parts => uptoBulkAll parts + 1
  | .iface _ d => uptoBulk d + 1
  | .map entries => uptoBulkEntries entries + 1
  | .held _ => 1
def uptoBulkAll {H : Type} : List (DataW H) → Nat
  | [] => 0
  | d :: r => uptoBulk d + uptoBulkAll r
def uptoBulkEntries {H : Type} : List (Lit × DataW H) → Nat
  | [] => 0
  | x :: r => uptoBulkEntry x + uptoBulkEntries r
def uptoBulkEntry {H : Type} : Lit × DataW H → Nat
  | (.string bytes, d) => bytes.length + uptoBulk d + 1
  | (_, d) => uptoBulk d + 1
 end
def uptoSmall : (H : Type) → List (DataW H) → Bool := fun _ ds => decide (uptoBulkAll ds ≤ 1048576)
def OpenSpec.upto (s : _root_.Go.ChangeSpec) : _root_.Go.OpenSpec := { _root_.Go.OpenSpec.ofChange s with cond := some uptoSmall }

/-- 'laws.FnExactIsContract', WHERE WHAT IT READS IS OF BULK AT MOST 1048576: true; the input reads as it did. -/
def fnExactIsContractUptoRow : OpenClaim := { program := "ytpjiianlailbkaa", sum := "03a559e3a6d95ceb52b6a79013c8f30d9eba1c5b4df777efbf65964594c4daa2", func := "loop.example/g01111/laws.FnExactIsContract", spec := "fnExactIsContract", apart := false, narrowed := true }
def FnExactIsContractUptoSaid : Prop := fnExactIsContractUptoRow.holds Try.pinned (OpenSpec.upto fnExactIsContractSpec)

/-- 'laws.FnExactIsMarket', WHERE WHAT IT READS IS OF BULK AT MOST 1048576: true; the input reads as it did. -/
def fnExactIsMarketUptoRow : OpenClaim := { program := "ytpjiianlailbkaa", sum := "03a559e3a6d95ceb52b6a79013c8f30d9eba1c5b4df777efbf65964594c4daa2", func := "loop.example/g01111/laws.FnExactIsMarket", spec := "fnExactIsMarket", apart := false, narrowed := true }
def FnExactIsMarketUptoSaid : Prop := fnExactIsMarketUptoRow.holds Try.pinned (OpenSpec.upto fnExactIsMarketSpec)

/-- 'laws.FnExactQuotientOrder', WHERE WHAT IT READS IS OF BULK AT MOST 1048576: true; the input reads as it did. -/
def fnExactQuotientOrderUptoRow : OpenClaim := { program := "ytpjiianlailbkaa", sum := "03a559e3a6d95ceb52b6a79013c8f30d9eba1c5b4df777efbf65964594c4daa2", func := "loop.example/g01111/laws.FnExactQuotientOrder", spec := "fnExactQuotientOrder", apart := false, narrowed := true }
def FnExactQuotientOrderUptoSaid : Prop := fnExactQuotientOrderUptoRow.holds Try.pinned (OpenSpec.upto fnExactQuotientOrderSpec)

/-- 'laws.FnExactSalesOf', WHERE WHAT IT READS IS OF BULK AT MOST 1048576: true; the input reads as it did. -/
def fnExactSalesOfUptoRow : OpenClaim := { program := "ytpjiianlailbkaa", sum := "03a559e3a6d95ceb52b6a79013c8f30d9eba1c5b4df777efbf65964594c4daa2", func := "loop.example/g01111/laws.FnExactSalesOf", spec := "fnExactSalesOf", unfollowed := true, recurses := true, apart := false, narrowed := true }
def FnExactSalesOfUptoSaid : Prop := fnExactSalesOfUptoRow.holds Try.pinned (OpenSpec.upto fnExactSalesOfSpec)

/-- 'laws.FnExactInProportion', WHERE WHAT IT READS IS OF BULK AT MOST 1048576: true; the input reads as it did. -/
def fnExactInProportionUptoRow : OpenClaim := { program := "ytpjiianlailbkaa", sum := "03a559e3a6d95ceb52b6a79013c8f30d9eba1c5b4df777efbf65964594c4daa2", func := "loop.example/g01111/laws.FnExactInProportion", spec := "fnExactInProportion", apart := false, narrowed := true }
def FnExactInProportionUptoSaid : Prop := fnExactInProportionUptoRow.holds Try.pinned (OpenSpec.upto fnExactInProportionSpec)

/-- 'laws.FnExactPayFor', WHERE WHAT IT READS IS OF BULK AT MOST 1048576: true; the input reads as it did. -/
def fnExactPayForUptoRow : OpenClaim := { program := "ytpjiianlailbkaa", sum := "03a559e3a6d95ceb52b6a79013c8f30d9eba1c5b4df777efbf65964594c4daa2", func := "loop.example/g01111/laws.FnExactPayFor", spec := "fnExactPayFor", apart := false, narrowed := true }
def FnExactPayForUptoSaid : Prop := fnExactPayForUptoRow.holds Try.pinned (OpenSpec.upto fnExactPayForSpec)

/-- 'laws.FnExactJointProfit', WHERE WHAT IT READS IS OF BULK AT MOST 1048576: true; the input reads as it did. -/
def fnExactJointProfitUptoRow : OpenClaim := { program := "ytpjiianlailbkaa", sum := "03a559e3a6d95ceb52b6a79013c8f30d9eba1c5b4df777efbf65964594c4daa2", func := "loop.example/g01111/laws.FnExactJointProfit", spec := "fnExactJointProfit", unfollowed := true, recurses := true, apart := false, narrowed := true }
def FnExactJointProfitUptoSaid : Prop := fnExactJointProfitUptoRow.holds Try.pinned (OpenSpec.upto fnExactJointProfitSpec)

/-- 'laws.FnExactMakerProfit', WHERE WHAT IT READS IS OF BULK AT MOST 1048576: true; the input reads as it did. -/
def fnExactMakerProfitUptoRow : OpenClaim := { program := "ytpjiianlailbkaa", sum := "03a559e3a6d95ceb52b6a79013c8f30d9eba1c5b4df777efbf65964594c4daa2", func := "loop.example/g01111/laws.FnExactMakerProfit", spec := "fnExactMakerProfit", unfollowed := true, recurses := true, apart := false, narrowed := true }
def FnExactMakerProfitUptoSaid : Prop := fnExactMakerProfitUptoRow.holds Try.pinned (OpenSpec.upto fnExactMakerProfitSpec)

/-- 'laws.FnExactSellerProfit', WHERE WHAT IT READS IS OF BULK AT MOST 1048576: true; the input reads as it did. -/
def fnExactSellerProfitUptoRow : OpenClaim := { program := "ytpjiianlailbkaa", sum := "03a559e3a6d95ceb52b6a79013c8f30d9eba1c5b4df777efbf65964594c4daa2", func := "loop.example/g01111/laws.FnExactSellerProfit", spec := "fnExactSellerProfit", unfollowed := true, recurses := true, apart := false, narrowed := true }
def FnExactSellerProfitUptoSaid : Prop := fnExactSellerProfitUptoRow.holds Try.pinned (OpenSpec.upto fnExactSellerProfitSpec)

/-- 'laws.FnExactJointOrder', WHERE WHAT IT READS IS OF BULK AT MOST 1048576: true; the input reads as it did. -/
def fnExactJointOrderUptoRow : OpenClaim := { program := "ytpjiianlailbkaa", sum := "03a559e3a6d95ceb52b6a79013c8f30d9eba1c5b4df777efbf65964594c4daa2", func := "loop.example/g01111/laws.FnExactJointOrder", spec := "fnExactJointOrder", unfollowed := true, recurses := true, apart := false, narrowed := true }
def FnExactJointOrderUptoSaid : Prop := fnExactJointOrderUptoRow.holds Try.pinned (OpenSpec.upto fnExactJointOrderSpec)

/-- 'laws.FnExactJointProfits', WHERE WHAT IT READS IS OF BULK AT MOST 1048576: true; the input reads as it did. -/
def fnExactJointProfitsUptoRow : OpenClaim := { program := "ytpjiianlailbkaa", sum := "03a559e3a6d95ceb52b6a79013c8f30d9eba1c5b4df777efbf65964594c4daa2", func := "loop.example/g01111/laws.FnExactJointProfits", spec := "fnExactJointProfits", unfollowed := true, recurses := true, apart := false, narrowed := true }
def FnExactJointProfitsUptoSaid : Prop := fnExactJointProfitsUptoRow.holds Try.pinned (OpenSpec.upto fnExactJointProfitsSpec)

/-- 'laws.FnExactSellerOrder', WHERE WHAT IT READS IS OF BULK AT MOST 1048576: true; the input reads as it did. -/
def fnExactSellerOrderUptoRow : OpenClaim := { program := "ytpjiianlailbkaa", sum := "03a559e3a6d95ceb52b6a79013c8f30d9eba1c5b4df777efbf65964594c4daa2", func := "loop.example/g01111/laws.FnExactSellerOrder", spec := "fnExactSellerOrder", unfollowed := true, recurses := true, apart := false, narrowed := true }
def FnExactSellerOrderUptoSaid : Prop := fnExactSellerOrderUptoRow.holds Try.pinned (OpenSpec.upto fnExactSellerOrderSpec)

end Rows
end Go.Proofs.Ytpjiianlailbkaa
