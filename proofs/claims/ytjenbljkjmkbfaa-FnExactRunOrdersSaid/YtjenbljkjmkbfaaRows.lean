/-
  No cell of these rows narrows 'for every input' (looked for: loops, veiled, ifaces, maps, wideKeys, modest, calm, conditions, laid).
  DERIVED. THE GIVEN ROWS OF THIS SEAT. 12 by the template 'for every input the law returns true; each argument reads behind the call as it read before'; 0 by the template 'total and deterministic' (their statements: YtjenbljkjmkbfaaTotals.lean).
  GIVEN WITH THE SEED: the statements are not yours to turn. If you find one false, say at which input.
  Laid BY PROGRAM, IN A SANDBOX (cutbox-rows.mjs): the forced cells as the released guide's own fill.sh prints them over the translation 028f7303216ce1da… (all of the seat's roots in one cut). By AI agents, Wed Nov 11 2026. No macro, syntax, notation, axiom, sorry.
-/
import Derived.Test.YtjenbljkjmkbfaaChecked
import GoSem.Claim
import GoSem.ClaimJoined
import GoSem.ClaimMapViews
import Derived.JoinedTies
import Derived.KernelRfl
namespace Go.Proofs.Ytjenbljkjmkbfaa
/- THE CELL 'sum', in the pinned program and in every row, IS THE sha256 OF THE DUMP (.gsa) THAT YtjenbljkjmkbfaaProg.lean LOADS. Nothing in Lean hashes anything: it is a label: what it is worth is what the hold of that sum in a sandbox is worth. -/
noncomputable def Try.pinned : Pinned := { name := "ytjenbljkjmkbfaa", sum := "028f7303216ce1da0fd33fb4f90c0533a27a568afc5010580bcc0684f6012b34", checked := Try.checked }
namespace Rows
def none {H : Type} : Left H := { results := [], args := [] }

/-- 'laws.FnExactIsRule': WHATEVER THE INPUT: true; the input reads as it did. -/
def fnExactIsRuleSpec : ChangeSpec := { name := "fnExactIsRule", fn := fun _ => fun
  | [d] => { results := [.lit (.bool true)], args := [d] }
  | _ => none }
def fnExactIsRuleRow : OpenClaim := { program := "ytjenbljkjmkbfaa", sum := "028f7303216ce1da0fd33fb4f90c0533a27a568afc5010580bcc0684f6012b34", func := "loop.example/g01111/laws.FnExactIsRule", spec := "fnExactIsRule", apart := false }
def FnExactIsRuleSaid : Prop := fnExactIsRuleRow.holds Try.pinned (OpenSpec.ofChange fnExactIsRuleSpec)

/-- ITS FALSE NEIGHBOUR: 'it returns false'. Refute it at one input. -/
def fnExactIsRuleWrong : ChangeSpec := { name := "fnExactIsRule", fn := fun _ => fun
  | [d] => { results := [.lit (.bool false)], args := [d] }
  | _ => none }
def FnExactIsRuleWrongFalsely : Prop := fnExactIsRuleRow.holds Try.pinned (OpenSpec.ofChange fnExactIsRuleWrong)

/-- 'laws.FnExactStockCost': WHATEVER THE INPUT: true; the input reads as it did. -/
def fnExactStockCostSpec : ChangeSpec := { name := "fnExactStockCost", fn := fun _ => fun
  | [d1, d2, d3] => { results := [.lit (.bool true)], args := [d1, d2, d3] }
  | _ => none }
def fnExactStockCostRow : OpenClaim := { program := "ytjenbljkjmkbfaa", sum := "028f7303216ce1da0fd33fb4f90c0533a27a568afc5010580bcc0684f6012b34", func := "loop.example/g01111/laws.FnExactStockCost", spec := "fnExactStockCost", apart := false }
def FnExactStockCostSaid : Prop := fnExactStockCostRow.holds Try.pinned (OpenSpec.ofChange fnExactStockCostSpec)

/-- ITS FALSE NEIGHBOUR: 'it returns false'. Refute it at one input. -/
def fnExactStockCostWrong : ChangeSpec := { name := "fnExactStockCost", fn := fun _ => fun
  | [d1, d2, d3] => { results := [.lit (.bool false)], args := [d1, d2, d3] }
  | _ => none }
def FnExactStockCostWrongFalsely : Prop := fnExactStockCostRow.holds Try.pinned (OpenSpec.ofChange fnExactStockCostWrong)

/-- 'laws.FnExactIsFlow': WHATEVER THE INPUT: true; the input reads as it did. -/
def fnExactIsFlowSpec : ChangeSpec := { name := "fnExactIsFlow", fn := fun _ => fun
  | [d] => { results := [.lit (.bool true)], args := [d] }
  | _ => none }
def fnExactIsFlowRow : OpenClaim := { program := "ytjenbljkjmkbfaa", sum := "028f7303216ce1da0fd33fb4f90c0533a27a568afc5010580bcc0684f6012b34", func := "loop.example/g01111/laws.FnExactIsFlow", spec := "fnExactIsFlow", apart := false }
def FnExactIsFlowSaid : Prop := fnExactIsFlowRow.holds Try.pinned (OpenSpec.ofChange fnExactIsFlowSpec)

/-- ITS FALSE NEIGHBOUR: 'it returns false'. Refute it at one input. -/
def fnExactIsFlowWrong : ChangeSpec := { name := "fnExactIsFlow", fn := fun _ => fun
  | [d] => { results := [.lit (.bool false)], args := [d] }
  | _ => none }
def FnExactIsFlowWrongFalsely : Prop := fnExactIsFlowRow.holds Try.pinned (OpenSpec.ofChange fnExactIsFlowWrong)

/-- 'laws.FnExactLeadNeeds': WHATEVER THE INPUT: true; the input reads as it did. -/
def fnExactLeadNeedsSpec : ChangeSpec := { name := "fnExactLeadNeeds", fn := fun _ => fun
  | [d1, d2] => { results := [.lit (.bool true)], args := [d1, d2] }
  | _ => none }
def fnExactLeadNeedsRow : OpenClaim := { program := "ytjenbljkjmkbfaa", sum := "028f7303216ce1da0fd33fb4f90c0533a27a568afc5010580bcc0684f6012b34", func := "loop.example/g01111/laws.FnExactLeadNeeds", spec := "fnExactLeadNeeds", apart := false }
def FnExactLeadNeedsSaid : Prop := fnExactLeadNeedsRow.holds Try.pinned (OpenSpec.ofChange fnExactLeadNeedsSpec)

/-- ITS FALSE NEIGHBOUR: 'it returns false'. Refute it at one input. -/
def fnExactLeadNeedsWrong : ChangeSpec := { name := "fnExactLeadNeeds", fn := fun _ => fun
  | [d1, d2] => { results := [.lit (.bool false)], args := [d1, d2] }
  | _ => none }
def FnExactLeadNeedsWrongFalsely : Prop := fnExactLeadNeedsRow.holds Try.pinned (OpenSpec.ofChange fnExactLeadNeedsWrong)

/-- 'laws.FnExactPositionOf': WHATEVER THE INPUT: true; the input reads as it did. -/
def fnExactPositionOfSpec : ChangeSpec := { name := "fnExactPositionOf", fn := fun _ => fun
  | [d] => { results := [.lit (.bool true)], args := [d] }
  | _ => none }
def fnExactPositionOfRow : OpenClaim := { program := "ytjenbljkjmkbfaa", sum := "028f7303216ce1da0fd33fb4f90c0533a27a568afc5010580bcc0684f6012b34", func := "loop.example/g01111/laws.FnExactPositionOf", spec := "fnExactPositionOf", apart := false }
def FnExactPositionOfSaid : Prop := fnExactPositionOfRow.holds Try.pinned (OpenSpec.ofChange fnExactPositionOfSpec)

/-- ITS FALSE NEIGHBOUR: 'it returns false'. Refute it at one input. -/
def fnExactPositionOfWrong : ChangeSpec := { name := "fnExactPositionOf", fn := fun _ => fun
  | [d] => { results := [.lit (.bool false)], args := [d] }
  | _ => none }
def FnExactPositionOfWrongFalsely : Prop := fnExactPositionOfRow.holds Try.pinned (OpenSpec.ofChange fnExactPositionOfWrong)

/-- 'laws.FnExactBestUpTo': WHATEVER THE INPUT: true; the input reads as it did. -/
def fnExactBestUpToSpec : ChangeSpec := { name := "fnExactBestUpTo", fn := fun _ => fun
  | [d1, d2, d3, d4] => { results := [.lit (.bool true)], args := [d1, d2, d3, d4] }
  | _ => none }
def fnExactBestUpToRow : OpenClaim := { program := "ytjenbljkjmkbfaa", sum := "028f7303216ce1da0fd33fb4f90c0533a27a568afc5010580bcc0684f6012b34", func := "loop.example/g01111/laws.FnExactBestUpTo", spec := "fnExactBestUpTo", apart := false }
def FnExactBestUpToSaid : Prop := fnExactBestUpToRow.holds Try.pinned (OpenSpec.ofChange fnExactBestUpToSpec)

/-- ITS FALSE NEIGHBOUR: 'it returns false'. Refute it at one input. -/
def fnExactBestUpToWrong : ChangeSpec := { name := "fnExactBestUpTo", fn := fun _ => fun
  | [d1, d2, d3, d4] => { results := [.lit (.bool false)], args := [d1, d2, d3, d4] }
  | _ => none }
def FnExactBestUpToWrongFalsely : Prop := fnExactBestUpToRow.holds Try.pinned (OpenSpec.ofChange fnExactBestUpToWrong)

/-- 'laws.FnExactArrivalsOf': WHATEVER THE INPUT: true; the input reads as it did. -/
def fnExactArrivalsOfSpec : ChangeSpec := { name := "fnExactArrivalsOf", fn := fun _ => fun
  | [d] => { results := [.lit (.bool true)], args := [d] }
  | _ => none }
def fnExactArrivalsOfRow : OpenClaim := { program := "ytjenbljkjmkbfaa", sum := "028f7303216ce1da0fd33fb4f90c0533a27a568afc5010580bcc0684f6012b34", func := "loop.example/g01111/laws.FnExactArrivalsOf", spec := "fnExactArrivalsOf", apart := false }
def FnExactArrivalsOfSaid : Prop := fnExactArrivalsOfRow.holds Try.pinned (OpenSpec.ofChange fnExactArrivalsOfSpec)

/-- ITS FALSE NEIGHBOUR: 'it returns false'. Refute it at one input. -/
def fnExactArrivalsOfWrong : ChangeSpec := { name := "fnExactArrivalsOf", fn := fun _ => fun
  | [d] => { results := [.lit (.bool false)], args := [d] }
  | _ => none }
def FnExactArrivalsOfWrongFalsely : Prop := fnExactArrivalsOfRow.holds Try.pinned (OpenSpec.ofChange fnExactArrivalsOfWrong)

/-- 'laws.FnExactDayOf': WHATEVER THE INPUT: true; the input reads as it did. -/
def fnExactDayOfSpec : ChangeSpec := { name := "fnExactDayOf", fn := fun _ => fun
  | [d1, d2, d3] => { results := [.lit (.bool true)], args := [d1, d2, d3] }
  | _ => none }
def fnExactDayOfRow : OpenClaim := { program := "ytjenbljkjmkbfaa", sum := "028f7303216ce1da0fd33fb4f90c0533a27a568afc5010580bcc0684f6012b34", func := "loop.example/g01111/laws.FnExactDayOf", spec := "fnExactDayOf", apart := false }
def FnExactDayOfSaid : Prop := fnExactDayOfRow.holds Try.pinned (OpenSpec.ofChange fnExactDayOfSpec)

/-- ITS FALSE NEIGHBOUR: 'it returns false'. Refute it at one input. -/
def fnExactDayOfWrong : ChangeSpec := { name := "fnExactDayOf", fn := fun _ => fun
  | [d1, d2, d3] => { results := [.lit (.bool false)], args := [d1, d2, d3] }
  | _ => none }
def FnExactDayOfWrongFalsely : Prop := fnExactDayOfRow.holds Try.pinned (OpenSpec.ofChange fnExactDayOfWrong)

/-- 'laws.FnExactCrossingPairs': WHATEVER THE INPUT: true; the input reads as it did. -/
def fnExactCrossingPairsSpec : ChangeSpec := { name := "fnExactCrossingPairs", fn := fun _ => fun
  | [d] => { results := [.lit (.bool true)], args := [d] }
  | _ => none }
def fnExactCrossingPairsRow : OpenClaim := { program := "ytjenbljkjmkbfaa", sum := "028f7303216ce1da0fd33fb4f90c0533a27a568afc5010580bcc0684f6012b34", func := "loop.example/g01111/laws.FnExactCrossingPairs", spec := "fnExactCrossingPairs", apart := false }
def FnExactCrossingPairsSaid : Prop := fnExactCrossingPairsRow.holds Try.pinned (OpenSpec.ofChange fnExactCrossingPairsSpec)

/-- ITS FALSE NEIGHBOUR: 'it returns false'. Refute it at one input. -/
def fnExactCrossingPairsWrong : ChangeSpec := { name := "fnExactCrossingPairs", fn := fun _ => fun
  | [d] => { results := [.lit (.bool false)], args := [d] }
  | _ => none }
def FnExactCrossingPairsWrongFalsely : Prop := fnExactCrossingPairsRow.holds Try.pinned (OpenSpec.ofChange fnExactCrossingPairsWrong)

/-- 'laws.FnExactRunOrders': WHATEVER THE INPUT: true; the input reads as it did. -/
def fnExactRunOrdersSpec : ChangeSpec := { name := "fnExactRunOrders", fn := fun _ => fun
  | [d1, d2, d3] => { results := [.lit (.bool true)], args := [d1, d2, d3] }
  | _ => none }
def fnExactRunOrdersRow : OpenClaim := { program := "ytjenbljkjmkbfaa", sum := "028f7303216ce1da0fd33fb4f90c0533a27a568afc5010580bcc0684f6012b34", func := "loop.example/g01111/laws.FnExactRunOrders", spec := "fnExactRunOrders", apart := false }
def FnExactRunOrdersSaid : Prop := fnExactRunOrdersRow.holds Try.pinned (OpenSpec.ofChange fnExactRunOrdersSpec)

/-- ITS FALSE NEIGHBOUR: 'it returns false'. Refute it at one input. -/
def fnExactRunOrdersWrong : ChangeSpec := { name := "fnExactRunOrders", fn := fun _ => fun
  | [d1, d2, d3] => { results := [.lit (.bool false)], args := [d1, d2, d3] }
  | _ => none }
def FnExactRunOrdersWrongFalsely : Prop := fnExactRunOrdersRow.holds Try.pinned (OpenSpec.ofChange fnExactRunOrdersWrong)

/-- 'laws.FnExactParcelStocks': WHATEVER THE INPUT: true; the input reads as it did. -/
def fnExactParcelStocksSpec : ChangeSpec := { name := "fnExactParcelStocks", fn := fun _ => fun
  | [d1, d2, d3] => { results := [.lit (.bool true)], args := [d1, d2, d3] }
  | _ => none }
def fnExactParcelStocksRow : OpenClaim := { program := "ytjenbljkjmkbfaa", sum := "028f7303216ce1da0fd33fb4f90c0533a27a568afc5010580bcc0684f6012b34", func := "loop.example/g01111/laws.FnExactParcelStocks", spec := "fnExactParcelStocks", apart := false }
def FnExactParcelStocksSaid : Prop := fnExactParcelStocksRow.holds Try.pinned (OpenSpec.ofChange fnExactParcelStocksSpec)

/-- ITS FALSE NEIGHBOUR: 'it returns false'. Refute it at one input. -/
def fnExactParcelStocksWrong : ChangeSpec := { name := "fnExactParcelStocks", fn := fun _ => fun
  | [d1, d2, d3] => { results := [.lit (.bool false)], args := [d1, d2, d3] }
  | _ => none }
def FnExactParcelStocksWrongFalsely : Prop := fnExactParcelStocksRow.holds Try.pinned (OpenSpec.ofChange fnExactParcelStocksWrong)

/-- 'laws.FnExactRuleOrder': WHATEVER THE INPUT: true; the input reads as it did. -/
def fnExactRuleOrderSpec : ChangeSpec := { name := "fnExactRuleOrder", fn := fun _ => fun
  | [d1, d2] => { results := [.lit (.bool true)], args := [d1, d2] }
  | _ => none }
def fnExactRuleOrderRow : OpenClaim := { program := "ytjenbljkjmkbfaa", sum := "028f7303216ce1da0fd33fb4f90c0533a27a568afc5010580bcc0684f6012b34", func := "loop.example/g01111/laws.FnExactRuleOrder", spec := "fnExactRuleOrder", apart := false }
def FnExactRuleOrderSaid : Prop := fnExactRuleOrderRow.holds Try.pinned (OpenSpec.ofChange fnExactRuleOrderSpec)

/-- ITS FALSE NEIGHBOUR: 'it returns false'. Refute it at one input. -/
def fnExactRuleOrderWrong : ChangeSpec := { name := "fnExactRuleOrder", fn := fun _ => fun
  | [d1, d2] => { results := [.lit (.bool false)], args := [d1, d2] }
  | _ => none }
def FnExactRuleOrderWrongFalsely : Prop := fnExactRuleOrderRow.holds Try.pinned (OpenSpec.ofChange fnExactRuleOrderWrong)

/- THE SECOND FORM. 'bulk': how many values and letters a reading holds, each counted each time it is reached (what is shared counts as often as it is met; a slice's spare places count too). A statement '..UptoSaid' is the law's where the arguments, and the package variables that the reading takes, are together of bulk at most 1048576: NARROWER than '..Said'. Prove '..Said' where nothing that the law and all that it calls make is longer than what came in: it says more and counts as full. Else prove '..UptoSaid'. A law counts once. -/
mutual
def uptoBulk {H : Type} : DataW H → Nat
  | .lit (.string bytes) => bytes.length + 1
  | .lit _ => 1
  | .nil => 1
  | .ptr d => uptoBulk d + 1
  | .slice elems spare => uptoBulkAll elems + uptoBulkAll spare + 1
  | .agg parts => uptoBulkAll parts + 1
  | .iface _ d => uptoBulk d + 1
  | .map entries => uptoBulkEntries entries + 1
  | .held _ => 1
def uptoBulkAll {H : Type} : List (DataW H) → Nat
  | [] => 0
  | d :: r => uptoBulk d + uptoBulkAll r
def uptoBulkEntries {H : Type} : List (Lit × DataW H) → Nat
  | [] => 0
  | x :: r => uptoBulkEntry x + uptoBulkEntries r
def uptoBulkEntry {H : Type} : Lit × DataW H → Nat
  | (.string bytes, d) => bytes.length + uptoBulk d + 1
  | (_, d) => uptoBulk d + 1
 end
def uptoSmall : (H : Type) → List (DataW H) → Bool := fun _ ds => decide (uptoBulkAll ds ≤ 1048576)
def OpenSpec.upto (s : _root_.Go.ChangeSpec) : _root_.Go.OpenSpec := { _root_.Go.OpenSpec.ofChange s with cond := some uptoSmall }

/-- 'laws.FnExactIsRule', WHERE WHAT IT READS IS OF BULK AT MOST 1048576: true; the input reads as it did. -/
def fnExactIsRuleUptoRow : OpenClaim := { program := "ytjenbljkjmkbfaa", sum := "028f7303216ce1da0fd33fb4f90c0533a27a568afc5010580bcc0684f6012b34", func := "loop.example/g01111/laws.FnExactIsRule", spec := "fnExactIsRule", apart := false, narrowed := true }
def FnExactIsRuleUptoSaid : Prop := fnExactIsRuleUptoRow.holds Try.pinned (OpenSpec.upto fnExactIsRuleSpec)

/-- 'laws.FnExactStockCost', WHERE WHAT IT READS IS OF BULK AT MOST 1048576: true; the input reads as it did. -/
def fnExactStockCostUptoRow : OpenClaim := { program := "ytjenbljkjmkbfaa", sum := "028f7303216ce1da0fd33fb4f90c0533a27a568afc5010580bcc0684f6012b34", func := "loop.example/g01111/laws.FnExactStockCost", spec := "fnExactStockCost", apart := false, narrowed := true }
def FnExactStockCostUptoSaid : Prop := fnExactStockCostUptoRow.holds Try.pinned (OpenSpec.upto fnExactStockCostSpec)

/-- 'laws.FnExactIsFlow', WHERE WHAT IT READS IS OF BULK AT MOST 1048576: true; the input reads as it did. -/
def fnExactIsFlowUptoRow : OpenClaim := { program := "ytjenbljkjmkbfaa", sum := "028f7303216ce1da0fd33fb4f90c0533a27a568afc5010580bcc0684f6012b34", func := "loop.example/g01111/laws.FnExactIsFlow", spec := "fnExactIsFlow", apart := false, narrowed := true }
def FnExactIsFlowUptoSaid : Prop := fnExactIsFlowUptoRow.holds Try.pinned (OpenSpec.upto fnExactIsFlowSpec)

/-- 'laws.FnExactLeadNeeds', WHERE WHAT IT READS IS OF BULK AT MOST 1048576: true; the input reads as it did. -/
def fnExactLeadNeedsUptoRow : OpenClaim := { program := "ytjenbljkjmkbfaa", sum := "028f7303216ce1da0fd33fb4f90c0533a27a568afc5010580bcc0684f6012b34", func := "loop.example/g01111/laws.FnExactLeadNeeds", spec := "fnExactLeadNeeds", apart := false, narrowed := true }
def FnExactLeadNeedsUptoSaid : Prop := fnExactLeadNeedsUptoRow.holds Try.pinned (OpenSpec.upto fnExactLeadNeedsSpec)

/-- 'laws.FnExactPositionOf', WHERE WHAT IT READS IS OF BULK AT MOST 1048576: true; the input reads as it did. -/
def fnExactPositionOfUptoRow : OpenClaim := { program := "ytjenbljkjmkbfaa", sum := "028f7303216ce1da0fd33fb4f90c0533a27a568afc5010580bcc0684f6012b34", func := "loop.example/g01111/laws.FnExactPositionOf", spec := "fnExactPositionOf", apart := false, narrowed := true }
def FnExactPositionOfUptoSaid : Prop := fnExactPositionOfUptoRow.holds Try.pinned (OpenSpec.upto fnExactPositionOfSpec)

/-- 'laws.FnExactBestUpTo', WHERE WHAT IT READS IS OF BULK AT MOST 1048576: true; the input reads as it did. -/
def fnExactBestUpToUptoRow : OpenClaim := { program := "ytjenbljkjmkbfaa", sum := "028f7303216ce1da0fd33fb4f90c0533a27a568afc5010580bcc0684f6012b34", func := "loop.example/g01111/laws.FnExactBestUpTo", spec := "fnExactBestUpTo", apart := false, narrowed := true }
def FnExactBestUpToUptoSaid : Prop := fnExactBestUpToUptoRow.holds Try.pinned (OpenSpec.upto fnExactBestUpToSpec)

/-- 'laws.FnExactArrivalsOf', WHERE WHAT IT READS IS OF BULK AT MOST 1048576: true; the input reads as it did. -/
def fnExactArrivalsOfUptoRow : OpenClaim := { program := "ytjenbljkjmkbfaa", sum := "028f7303216ce1da0fd33fb4f90c0533a27a568afc5010580bcc0684f6012b34", func := "loop.example/g01111/laws.FnExactArrivalsOf", spec := "fnExactArrivalsOf", apart := false, narrowed := true }
def FnExactArrivalsOfUptoSaid : Prop := fnExactArrivalsOfUptoRow.holds Try.pinned (OpenSpec.upto fnExactArrivalsOfSpec)

/-- 'laws.FnExactDayOf', WHERE WHAT IT READS IS OF BULK AT MOST 1048576: true; the input reads as it did. -/
def fnExactDayOfUptoRow : OpenClaim := { program := "ytjenbljkjmkbfaa", sum := "028f7303216ce1da0fd33fb4f90c0533a27a568afc5010580bcc0684f6012b34", func := "loop.example/g01111/laws.FnExactDayOf", spec := "fnExactDayOf", apart := false, narrowed := true }
def FnExactDayOfUptoSaid : Prop := fnExactDayOfUptoRow.holds Try.pinned (OpenSpec.upto fnExactDayOfSpec)

/-- 'laws.FnExactCrossingPairs', WHERE WHAT IT READS IS OF BULK AT MOST 1048576: true; the input reads as it did. -/
def fnExactCrossingPairsUptoRow : OpenClaim := { program := "ytjenbljkjmkbfaa", sum := "028f7303216ce1da0fd33fb4f90c0533a27a568afc5010580bcc0684f6012b34", func := "loop.example/g01111/laws.FnExactCrossingPairs", spec := "fnExactCrossingPairs", apart := false, narrowed := true }
def FnExactCrossingPairsUptoSaid : Prop := fnExactCrossingPairsUptoRow.holds Try.pinned (OpenSpec.upto fnExactCrossingPairsSpec)

/-- 'laws.FnExactRunOrders', WHERE WHAT IT READS IS OF BULK AT MOST 1048576: true; the input reads as it did. -/
def fnExactRunOrdersUptoRow : OpenClaim := { program := "ytjenbljkjmkbfaa", sum := "028f7303216ce1da0fd33fb4f90c0533a27a568afc5010580bcc0684f6012b34", func := "loop.example/g01111/laws.FnExactRunOrders", spec := "fnExactRunOrders", apart := false, narrowed := true }
def FnExactRunOrdersUptoSaid : Prop := fnExactRunOrdersUptoRow.holds Try.pinned (OpenSpec.upto fnExactRunOrdersSpec)

/-- 'laws.FnExactParcelStocks', WHERE WHAT IT READS IS OF BULK AT MOST 1048576: true; the input reads as it did. -/
def fnExactParcelStocksUptoRow : OpenClaim := { program := "ytjenbljkjmkbfaa", sum := "028f7303216ce1da0fd33fb4f90c0533a27a568afc5010580bcc0684f6012b34", func := "loop.example/g01111/laws.FnExactParcelStocks", spec := "fnExactParcelStocks", apart := false, narrowed := true }
def FnExactParcelStocksUptoSaid : Prop := fnExactParcelStocksUptoRow.holds Try.pinned (OpenSpec.upto fnExactParcelStocksSpec)

/-- 'laws.FnExactRuleOrder', WHERE WHAT IT READS IS OF BULK AT MOST 1048576: true; the input reads as it did. -/
def fnExactRuleOrderUptoRow : OpenClaim := { program := "ytjenbljkjmkbfaa", sum := "028f7303216ce1da0fd33fb4f90c0533a27a568afc5010580bcc0684f6012b34", func := "loop.example/g01111/laws.FnExactRuleOrder", spec := "fnExactRuleOrder", apart := false, narrowed := true }
def FnExactRuleOrderUptoSaid : Prop := fnExactRuleOrderUptoRow.holds Try.pinned (OpenSpec.upto fnExactRuleOrderSpec)

end Rows
end Go.Proofs.Ytjenbljkjmkbfaa
