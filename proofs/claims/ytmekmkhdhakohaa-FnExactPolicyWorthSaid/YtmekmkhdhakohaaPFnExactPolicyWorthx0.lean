-- A text of this session (its program hook.py, over the kit's print.py): not a print of print.sh
-- THIN: one blank for two
import Derived.Test.YtmekmkhdhakohaaProg
import Derived.Below
import Derived.Deep.Draws
import Derived.Deep.AppendLies
import Derived.Maps.AppendAt
import Derived.OwnWalk
import Derived.Laws.BytesArg
import Derived.Laws.MakeOwn
import Derived.Laws.OwnMore
import Derived.Deep.OwnRows
import Derived.Tactics
import Derived.Lib.ConvBytes
import Derived.Laws.Slices
import Derived.WalkKit
import Derived.KernelRfl
import Derived.RowKit3
import Derived.Deep.LoopGhost
import Derived.Deep.QuietTactic
import Derived.BigQuiet
import Derived.WideLaws
import Derived.Deep.DeepCutAuto
import Derived.Deep.CutBlock
import Derived.Deep.RegionHeld3
import Derived.Laws.Rows
import Derived.Lib.AppendStr
import Derived.ArgAppend
import Derived.Laws.IdiomCopy
import Derived.OrdersHeld
import Derived.Laws.BitsLemmas
import Derived.RowKit
import Derived.Test.YtmekmkhdhakohaaVFnExactPolicyWortha
namespace Go.Proofs.Ytmekmkhdhakohaa.PFnExactPolicyWorth
open Go.RowKit Go.Proofs.YtmekmkhdhakohaaW.PrintWords Go.Proofs.YtmekmkhdhakohaaW.PrintLast Go.Proofs.YtmekmkhdhakohaaW.PrintMore
attribute [local go_sem] max2_int min2_int max_two min_two max_three min_three max_four min_four   -- for this text's walks alone
set_option linter.unusedVariables false
set_option linter.unusedSimpArgs false



private theorem bcz {w : World} {g : Nat} {t : TypeId} {cs : Array Value} (h : w.heap[g]? = some (.cells cs t (0, 0))) (i : Nat) {v : Value} (e : cs[i]? = some v) : w.cell? ⟨g, i, none⟩ = some v := (blk_cell h i).trans e
def errW : Option Int → Value
  | none => .nilIface
  | some c => .iface 0 (.int .i64 c)
theorem errW_none : errW none = .nilIface := rfl
theorem errW_some (c : Int) : errW (some c) = .iface 0 (.int .i64 c) := rfl

theorem info3 : (Try.prog.info? 3).map (fun i => (i.zero, i.size, i.bytes)) = some (some (.int .i64 0), 1, 8) := by kernel_rfl
theorem info72 : (Try.prog.info? 72).map (fun i => (i.zero, i.size, i.bytes)) = some (some (.agg #[(.int .i64 0), (.int .i64 0)]), 2, 16) := by kernel_rfl
def selI (j i : Nat) (t o : Int) : Int := if j = i then t else o
theorem putB21 {j : Nat} {t o0 o1 o2 o3 o4 o5 o6 o7 o8 o9 o10 o11 o12 o13 o14 o15 o16 o17 o18 o19 o20 : Int} (h : j < 21) : (#[.int .i64 o0, .int .i64 o1, .int .i64 o2, .int .i64 o3, .int .i64 o4, .int .i64 o5, .int .i64 o6, .int .i64 o7, .int .i64 o8, .int .i64 o9, .int .i64 o10, .int .i64 o11, .int .i64 o12, .int .i64 o13, .int .i64 o14, .int .i64 o15, .int .i64 o16, .int .i64 o17, .int .i64 o18, .int .i64 o19, .int .i64 o20] : Array Value).setIfInBounds j (.int .i64 t) = #[.int .i64 (selI j 0 t o0), .int .i64 (selI j 1 t o1), .int .i64 (selI j 2 t o2), .int .i64 (selI j 3 t o3), .int .i64 (selI j 4 t o4), .int .i64 (selI j 5 t o5), .int .i64 (selI j 6 t o6), .int .i64 (selI j 7 t o7), .int .i64 (selI j 8 t o8), .int .i64 (selI j 9 t o9), .int .i64 (selI j 10 t o10), .int .i64 (selI j 11 t o11), .int .i64 (selI j 12 t o12), .int .i64 (selI j 13 t o13), .int .i64 (selI j 14 t o14), .int .i64 (selI j 15 t o15), .int .i64 (selI j 16 t o16), .int .i64 (selI j 17 t o17), .int .i64 (selI j 18 t o18), .int .i64 (selI j 19 t o19), .int .i64 (selI j 20 t o20)] := match j, h with
  | 0, _ => rfl
  | 1, _ => rfl
  | 2, _ => rfl
  | 3, _ => rfl
  | 4, _ => rfl
  | 5, _ => rfl
  | 6, _ => rfl
  | 7, _ => rfl
  | 8, _ => rfl
  | 9, _ => rfl
  | 10, _ => rfl
  | 11, _ => rfl
  | 12, _ => rfl
  | 13, _ => rfl
  | 14, _ => rfl
  | 15, _ => rfl
  | 16, _ => rfl
  | 17, _ => rfl
  | 18, _ => rfl
  | 19, _ => rfl
  | 20, _ => rfl
  | j + 21, h => absurd h (by omega)

-- the values' own types
/-! #### struct type 72 -/
structure S72 where
  f0 : Int
  f1 : Int
def z72 : S72 := ⟨(0 : Int), (0 : Int)⟩
def k72 : Kd S72 := Kd.iso (Kd.pair (Kd.int .i64) (Kd.int .i64)) (fun x : S72 => (x.f0, x.f1))
theorem k72_open {w : World} {x : S72} {cs : List Value} (h : k72.K w x cs) : cs = [.int .i64 x.f0, .int .i64 x.f1] := by
  obtain ⟨_, _, rfl, rfl, rfl⟩ := h
  exact rfl
theorem k72_openM {w : World} {base : Nat} {ok : Nat → Prop} {x : S72} {cs : List Value} (h : k72.M w base ok x cs) : cs = [.int .i64 x.f0, .int .i64 x.f1] := by
  obtain ⟨_, _, rfl, rfl, rfl⟩ := h
  exact rfl
theorem k72_mk (w : World) (x : S72)  : k72.K w x [.int .i64 x.f0, .int .i64 x.f1] := ⟨[.int .i64 x.f0], [.int .i64 x.f1], rfl, rfl, rfl⟩
theorem k72_mkM (w : World) (base : Nat) (ok : Nat → Prop) (x : S72)  : k72.M w base ok x [.int .i64 x.f0, .int .i64 x.f1] := ⟨[.int .i64 x.f0], [.int .i64 x.f1], rfl, rfl, rfl⟩
def rd_T72 (xs : List S72) (i : Int) : S72 := xs.getD i.toNat z72
theorem at_T72 {w : World} {A : Option Addr} {n : Nat} {xs : List S72} (h : Kd.C k72 w A n xs) (i : Int) (h0 : 0 ≤ i) (h1 : i < n) : ∃ ad , A = some ad ∧ w.cell? (ad.add (i.toNat * 2)) = some (.int .i64 (rd_T72 xs i).f0) ∧ w.cell? ⟨(ad.add (i.toNat * 2)).block, (ad.add (i.toNat * 2)).off + 1, none⟩ = some (.int .i64 (rd_T72 xs i).f1) := by
  obtain ⟨ad, c, e, _, hK, hc0⟩ := Kd.C_get h z72 i h0 h1
  have hc : ∀ j u, c[j]? = some u → w.cell? (ad.add (i.toNat * 2 + j)) = some u := hc0
  obtain rfl := k72_open hK
  exact ⟨ad, e, hc 0 _ rfl, by rw [← add_field _ _ 1 (by omega)]; exact hc 1 _ rfl⟩

theorem loadA94 {ρ : Operand → Value} {o : Oper} {x : Operand} {b : Addr} {w : World} {v0 v1 v2 v3 v4 v5 v6 v7 v8 v9 v10 v11 v12 v13 v14 v15 v16 v17 v18 v19 v20 : Value} (ho : o.op = .load 94 x) (hx : ρ x = .pointer (some b)) (h0 : w.cell? b = some v0) (h1 : w.cell? ⟨b.block, b.off + 1, none⟩ = some v1) (h2 : w.cell? ⟨b.block, b.off + 2, none⟩ = some v2) (h3 : w.cell? ⟨b.block, b.off + 3, none⟩ = some v3) (h4 : w.cell? ⟨b.block, b.off + 4, none⟩ = some v4) (h5 : w.cell? ⟨b.block, b.off + 5, none⟩ = some v5) (h6 : w.cell? ⟨b.block, b.off + 6, none⟩ = some v6) (h7 : w.cell? ⟨b.block, b.off + 7, none⟩ = some v7) (h8 : w.cell? ⟨b.block, b.off + 8, none⟩ = some v8) (h9 : w.cell? ⟨b.block, b.off + 9, none⟩ = some v9) (h10 : w.cell? ⟨b.block, b.off + 10, none⟩ = some v10) (h11 : w.cell? ⟨b.block, b.off + 11, none⟩ = some v11) (h12 : w.cell? ⟨b.block, b.off + 12, none⟩ = some v12) (h13 : w.cell? ⟨b.block, b.off + 13, none⟩ = some v13) (h14 : w.cell? ⟨b.block, b.off + 14, none⟩ = some v14) (h15 : w.cell? ⟨b.block, b.off + 15, none⟩ = some v15) (h16 : w.cell? ⟨b.block, b.off + 16, none⟩ = some v16) (h17 : w.cell? ⟨b.block, b.off + 17, none⟩ = some v17) (h18 : w.cell? ⟨b.block, b.off + 18, none⟩ = some v18) (h19 : w.cell? ⟨b.block, b.off + 19, none⟩ = some v19) (h20 : w.cell? ⟨b.block, b.off + 20, none⟩ = some v20) : (execOp ρ o).run Try.prog w = .ok (.value (.agg #[v0, v1, v2, v3, v4, v5, v6, v7, v8, v9, v10, v11, v12, v13, v14, v15, v16, v17, v18, v19, v20])) w := by
  have hl : (loadCells b 21).run Try.prog w = .ok #[v0, v1, v2, v3, v4, v5, v6, v7, v8, v9, v10, v11, v12, v13, v14, v15, v16, v17, v18, v19, v20] w := run_loadCells_list w b [v0, v1, v2, v3, v4, v5, v6, v7, v8, v9, v10, v11, v12, v13, v14, v15, v16, v17, v18, v19, v20] (fun j v hv => match j, hv with
    | 0, hv => by rw [Option.some.inj hv.symm]; exact h0
    | 1, hv => by rw [Option.some.inj hv.symm]; exact h1
    | 2, hv => by rw [Option.some.inj hv.symm]; exact h2
    | 3, hv => by rw [Option.some.inj hv.symm]; exact h3
    | 4, hv => by rw [Option.some.inj hv.symm]; exact h4
    | 5, hv => by rw [Option.some.inj hv.symm]; exact h5
    | 6, hv => by rw [Option.some.inj hv.symm]; exact h6
    | 7, hv => by rw [Option.some.inj hv.symm]; exact h7
    | 8, hv => by rw [Option.some.inj hv.symm]; exact h8
    | 9, hv => by rw [Option.some.inj hv.symm]; exact h9
    | 10, hv => by rw [Option.some.inj hv.symm]; exact h10
    | 11, hv => by rw [Option.some.inj hv.symm]; exact h11
    | 12, hv => by rw [Option.some.inj hv.symm]; exact h12
    | 13, hv => by rw [Option.some.inj hv.symm]; exact h13
    | 14, hv => by rw [Option.some.inj hv.symm]; exact h14
    | 15, hv => by rw [Option.some.inj hv.symm]; exact h15
    | 16, hv => by rw [Option.some.inj hv.symm]; exact h16
    | 17, hv => by rw [Option.some.inj hv.symm]; exact h17
    | 18, hv => by rw [Option.some.inj hv.symm]; exact h18
    | 19, hv => by rw [Option.some.inj hv.symm]; exact h19
    | 20, hv => by rw [Option.some.inj hv.symm]; exact h20
    | j + 21, hv => absurd hv (by simp))
  generalize (#[v0, v1, v2, v3, v4, v5, v6, v7, v8, v9, v10, v11, v12, v13, v14, v15, v16, v17, v18, v19, v20] : Array Value) = cs at hl ⊢
  have hi : (Try.prog.info? 94).map (·.size) = some 21 := by kernel_rfl
  cases hq : Try.prog.info? 94 with
  | none => simp [hq] at hi
  | some i =>
    have hs : i.size = 21 := by simpa [hq] using hi
    have hagg : (isAgg 94).run Try.prog w = .ok true w := by
      unfold isAgg
      rw [Sem.run_bind, run_underlying Try.underlying94 w]
      simp
    have hv : (loadVar 94 b).run Try.prog w = .ok (.agg cs) w := by simp [loadVar, Sem.run_bind, hagg, sizeOf, typeInfo, hq, hs, hl]
    unfold execOp
    simp only [ho, hx, Instr.loadAt, Instr.sureAddr, Sem.run_bind, Sem.run_pure, Result.andThen_ok, hv]
theorem loadB94 {ρ : Operand → Value} {o : Oper} {x : Operand} {g : Nat} {w : World} {v0 v1 v2 v3 v4 v5 v6 v7 v8 v9 v10 v11 v12 v13 v14 v15 v16 v17 v18 v19 v20 : Value} (ho : o.op = .load 94 x) (hx : ρ x = .pointer (some ⟨g, 0, none⟩)) (h0 : w.cell? ⟨g, 0, none⟩ = some v0) (h1 : w.cell? ⟨g, 1, none⟩ = some v1) (h2 : w.cell? ⟨g, 2, none⟩ = some v2) (h3 : w.cell? ⟨g, 3, none⟩ = some v3) (h4 : w.cell? ⟨g, 4, none⟩ = some v4) (h5 : w.cell? ⟨g, 5, none⟩ = some v5) (h6 : w.cell? ⟨g, 6, none⟩ = some v6) (h7 : w.cell? ⟨g, 7, none⟩ = some v7) (h8 : w.cell? ⟨g, 8, none⟩ = some v8) (h9 : w.cell? ⟨g, 9, none⟩ = some v9) (h10 : w.cell? ⟨g, 10, none⟩ = some v10) (h11 : w.cell? ⟨g, 11, none⟩ = some v11) (h12 : w.cell? ⟨g, 12, none⟩ = some v12) (h13 : w.cell? ⟨g, 13, none⟩ = some v13) (h14 : w.cell? ⟨g, 14, none⟩ = some v14) (h15 : w.cell? ⟨g, 15, none⟩ = some v15) (h16 : w.cell? ⟨g, 16, none⟩ = some v16) (h17 : w.cell? ⟨g, 17, none⟩ = some v17) (h18 : w.cell? ⟨g, 18, none⟩ = some v18) (h19 : w.cell? ⟨g, 19, none⟩ = some v19) (h20 : w.cell? ⟨g, 20, none⟩ = some v20) : (execOp ρ o).run Try.prog w = .ok (.value (.agg #[v0, v1, v2, v3, v4, v5, v6, v7, v8, v9, v10, v11, v12, v13, v14, v15, v16, v17, v18, v19, v20])) w :=
  loadA94 ho hx h0 (by rw [Nat.zero_add]; exact h1) (by rw [Nat.zero_add]; exact h2) (by rw [Nat.zero_add]; exact h3) (by rw [Nat.zero_add]; exact h4) (by rw [Nat.zero_add]; exact h5) (by rw [Nat.zero_add]; exact h6) (by rw [Nat.zero_add]; exact h7) (by rw [Nat.zero_add]; exact h8) (by rw [Nat.zero_add]; exact h9) (by rw [Nat.zero_add]; exact h10) (by rw [Nat.zero_add]; exact h11) (by rw [Nat.zero_add]; exact h12) (by rw [Nat.zero_add]; exact h13) (by rw [Nat.zero_add]; exact h14) (by rw [Nat.zero_add]; exact h15) (by rw [Nat.zero_add]; exact h16) (by rw [Nat.zero_add]; exact h17) (by rw [Nat.zero_add]; exact h18) (by rw [Nat.zero_add]; exact h19) (by rw [Nat.zero_add]; exact h20)

theorem arrcut94 {a : Addr} {n : Nat} (h : n = 21) : ∀ W : World, (Instr.sliceAt 94 (.pointer (some a)) none none none).run Try.prog W = .ok (.slice (some a) n 21) W := by
  intro W
  subst h
  have hi : (Try.prog.info? 3).map (·.size) = some 1 := by kernel_rfl
  cases hq : Try.prog.info? 3 with
  | none => simp [hq] at hi
  | some i =>
    unfold Instr.sliceAt
    rw [Sem.run_bind, run_underlying Try.underlying94 W]
    simp [Instr.sureAddr, Instr.sliceBounds, sizeOf, typeInfo, hq, Addr.add]
theorem boxC94 {W : World} {g : Nat} {t : TypeId} {v0 v1 v2 v3 v4 v5 v6 v7 v8 v9 v10 v11 v12 v13 v14 v15 v16 v17 v18 v19 v20 : Int} (h : W.heap[g]? = some (.cells #[.int .i64 v0, .int .i64 v1, .int .i64 v2, .int .i64 v3, .int .i64 v4, .int .i64 v5, .int .i64 v6, .int .i64 v7, .int .i64 v8, .int .i64 v9, .int .i64 v10, .int .i64 v11, .int .i64 v12, .int .i64 v13, .int .i64 v14, .int .i64 v15, .int .i64 v16, .int .i64 v17, .int .i64 v18, .int .i64 v19, .int .i64 v20] t (0, 0))) : Kd.C (Kd.int .i64) W (some ⟨g, 0, none⟩) ([v0, v1, v2, v3, v4, v5, v6, v7, v8, v9, v10, v11, v12, v13, v14, v15, v16, v17, v18, v19, v20] : List Int).length [v0, v1, v2, v3, v4, v5, v6, v7, v8, v9, v10, v11, v12, v13, v14, v15, v16, v17, v18, v19, v20] :=
  Kd.C_of_reads (d := (0 : Int)) ⟨rfl, (show 21 ≤ 9223372036854775807 from by decide), fun _ => ⟨_, rfl, fun j hj => by
    rw [add_plain, blk_cell h]
    exact (match j, hj with
    | 0, _ => rfl
    | 1, _ => rfl
    | 2, _ => rfl
    | 3, _ => rfl
    | 4, _ => rfl
    | 5, _ => rfl
    | 6, _ => rfl
    | 7, _ => rfl
    | 8, _ => rfl
    | 9, _ => rfl
    | 10, _ => rfl
    | 11, _ => rfl
    | 12, _ => rfl
    | 13, _ => rfl
    | 14, _ => rfl
    | 15, _ => rfl
    | 16, _ => rfl
    | 17, _ => rfl
    | 18, _ => rfl
    | 19, _ => rfl
    | 20, _ => rfl
    | j + 21, hj => absurd hj (by simp))⟩⟩

theorem gateL94 {P : Program} {ops : Array Oper} {rest : List Oper} {o : Oper} {a : Act} {Q : Exit → Act → World → Prop} {W : World} {x : Operand} (_ho : o.op = .load 94 x) (h : wpList P ops Q (o :: rest) a W) : wpList P ops Q (o :: rest) a W := h
theorem loadE94 {ops : Array Oper} {rest : List Oper} {o : Oper} {a : Act} {Q : Exit → Act → World → Prop} {W : World} {x : Operand} {b : Addr} {v0 v1 v2 v3 v4 v5 v6 v7 v8 v9 v10 v11 v12 v13 v14 v15 v16 v17 v18 v19 v20 : Value} (hgd : o.guard = none) (ho : o.op = .load 94 x) (hx : a.eval x = .pointer (some b)) (h0 : W.cell? b = some v0) (h1 : W.cell? ⟨b.block, b.off + 1, none⟩ = some v1) (h2 : W.cell? ⟨b.block, b.off + 2, none⟩ = some v2) (h3 : W.cell? ⟨b.block, b.off + 3, none⟩ = some v3) (h4 : W.cell? ⟨b.block, b.off + 4, none⟩ = some v4) (h5 : W.cell? ⟨b.block, b.off + 5, none⟩ = some v5) (h6 : W.cell? ⟨b.block, b.off + 6, none⟩ = some v6) (h7 : W.cell? ⟨b.block, b.off + 7, none⟩ = some v7) (h8 : W.cell? ⟨b.block, b.off + 8, none⟩ = some v8) (h9 : W.cell? ⟨b.block, b.off + 9, none⟩ = some v9) (h10 : W.cell? ⟨b.block, b.off + 10, none⟩ = some v10) (h11 : W.cell? ⟨b.block, b.off + 11, none⟩ = some v11) (h12 : W.cell? ⟨b.block, b.off + 12, none⟩ = some v12) (h13 : W.cell? ⟨b.block, b.off + 13, none⟩ = some v13) (h14 : W.cell? ⟨b.block, b.off + 14, none⟩ = some v14) (h15 : W.cell? ⟨b.block, b.off + 15, none⟩ = some v15) (h16 : W.cell? ⟨b.block, b.off + 16, none⟩ = some v16) (h17 : W.cell? ⟨b.block, b.off + 17, none⟩ = some v17) (h18 : W.cell? ⟨b.block, b.off + 18, none⟩ = some v18) (h19 : W.cell? ⟨b.block, b.off + 19, none⟩ = some v19) (h20 : W.cell? ⟨b.block, b.off + 20, none⟩ = some v20) (h : wpList Try.prog ops Q rest (a.put o.dst (.agg #[v0, v1, v2, v3, v4, v5, v6, v7, v8, v9, v10, v11, v12, v13, v14, v15, v16, v17, v18, v19, v20])) W) : wpList Try.prog ops Q (o :: rest) a W := by
  refine wpList_plain hgd fun K hK => ?_
  unfold Oper.wp
  rw [loadA94 ho hx h0 h1 h2 h3 h4 h5 h6 h7 h8 h9 h10 h11 h12 h13 h14 h15 h16 h17 h18 h19 h20]
  exact hK _ _ h
theorem loadX94 {ops : Array Oper} {rest : List Oper} {o : Oper} {a : Act} {Q : Exit → Act → World → Prop} {W : World} {x : Operand} {g : Nat} {t : TypeId} {v0 v1 v2 v3 v4 v5 v6 v7 v8 v9 v10 v11 v12 v13 v14 v15 v16 v17 v18 v19 v20 : Value} (hgd : o.guard = none) (ho : o.op = .load 94 x) (hx : a.eval x = .pointer (some ⟨g, 0, none⟩)) (hb : W.heap[g]? = some (.cells #[v0, v1, v2, v3, v4, v5, v6, v7, v8, v9, v10, v11, v12, v13, v14, v15, v16, v17, v18, v19, v20] t (0, 0))) (h : wpList Try.prog ops Q rest (a.put o.dst (.agg #[v0, v1, v2, v3, v4, v5, v6, v7, v8, v9, v10, v11, v12, v13, v14, v15, v16, v17, v18, v19, v20])) W) : wpList Try.prog ops Q (o :: rest) a W := by
  refine wpList_plain hgd fun K hK => ?_
  unfold Oper.wp
  rw [loadB94 ho hx (bcz hb 0 rfl) (bcz hb 1 rfl) (bcz hb 2 rfl) (bcz hb 3 rfl) (bcz hb 4 rfl) (bcz hb 5 rfl) (bcz hb 6 rfl) (bcz hb 7 rfl) (bcz hb 8 rfl) (bcz hb 9 rfl) (bcz hb 10 rfl) (bcz hb 11 rfl) (bcz hb 12 rfl) (bcz hb 13 rfl) (bcz hb 14 rfl) (bcz hb 15 rfl) (bcz hb 16 rfl) (bcz hb 17 rfl) (bcz hb 18 rfl) (bcz hb 19 rfl) (bcz hb 20 rfl)]
  exact hK _ _ h
theorem storeE94 {o : Oper} {ρ : Operand → Value} {W : World} {p x : Operand} {g : Nat} {t : TypeId} {x0 x1 x2 x3 x4 x5 x6 x7 x8 x9 x10 x11 x12 x13 x14 x15 x16 x17 x18 x19 x20 : Int} {v0 v1 v2 v3 v4 v5 v6 v7 v8 v9 v10 v11 v12 v13 v14 v15 v16 v17 v18 v19 v20 : Value} (ho : o.op = .store 94 p x) (hp : ρ p = .pointer (some ⟨g, 0, none⟩)) (hx : ρ x = .agg #[.int .i64 x0, .int .i64 x1, .int .i64 x2, .int .i64 x3, .int .i64 x4, .int .i64 x5, .int .i64 x6, .int .i64 x7, .int .i64 x8, .int .i64 x9, .int .i64 x10, .int .i64 x11, .int .i64 x12, .int .i64 x13, .int .i64 x14, .int .i64 x15, .int .i64 x16, .int .i64 x17, .int .i64 x18, .int .i64 x19, .int .i64 x20]) (hb : W.heap[g]? = some (.cells #[v0, v1, v2, v3, v4, v5, v6, v7, v8, v9, v10, v11, v12, v13, v14, v15, v16, v17, v18, v19, v20] t (0, 0))) : (execOp ρ o).run Try.prog W = .ok .skip (((((((((((((((((((((W.setCell ⟨g, 0, none⟩ (.int .i64 x0)).setCell ⟨g, 1, none⟩ (.int .i64 x1)).setCell ⟨g, 2, none⟩ (.int .i64 x2)).setCell ⟨g, 3, none⟩ (.int .i64 x3)).setCell ⟨g, 4, none⟩ (.int .i64 x4)).setCell ⟨g, 5, none⟩ (.int .i64 x5)).setCell ⟨g, 6, none⟩ (.int .i64 x6)).setCell ⟨g, 7, none⟩ (.int .i64 x7)).setCell ⟨g, 8, none⟩ (.int .i64 x8)).setCell ⟨g, 9, none⟩ (.int .i64 x9)).setCell ⟨g, 10, none⟩ (.int .i64 x10)).setCell ⟨g, 11, none⟩ (.int .i64 x11)).setCell ⟨g, 12, none⟩ (.int .i64 x12)).setCell ⟨g, 13, none⟩ (.int .i64 x13)).setCell ⟨g, 14, none⟩ (.int .i64 x14)).setCell ⟨g, 15, none⟩ (.int .i64 x15)).setCell ⟨g, 16, none⟩ (.int .i64 x16)).setCell ⟨g, 17, none⟩ (.int .i64 x17)).setCell ⟨g, 18, none⟩ (.int .i64 x18)).setCell ⟨g, 19, none⟩ (.int .i64 x19)).setCell ⟨g, 20, none⟩ (.int .i64 x20)) := by
  have hi : (Try.prog.info? 94).map (·.size) = some ([.int .i64 x0, .int .i64 x1, .int .i64 x2, .int .i64 x3, .int .i64 x4, .int .i64 x5, .int .i64 x6, .int .i64 x7, .int .i64 x8, .int .i64 x9, .int .i64 x10, .int .i64 x11, .int .i64 x12, .int .i64 x13, .int .i64 x14, .int .i64 x15, .int .i64 x16, .int .i64 x17, .int .i64 x18, .int .i64 x19, .int .i64 x20] : List Value).length := by kernel_rfl
  have hr := run_store_run (P := Try.prog) (w := W) (g := g) (o := 0) 94 (.agg #[.int .i64 x0, .int .i64 x1, .int .i64 x2, .int .i64 x3, .int .i64 x4, .int .i64 x5, .int .i64 x6, .int .i64 x7, .int .i64 x8, .int .i64 x9, .int .i64 x10, .int .i64 x11, .int .i64 x12, .int .i64 x13, .int .i64 x14, .int .i64 x15, .int .i64 x16, .int .i64 x17, .int .i64 x18, .int .i64 x19, .int .i64 x20]) [.int .i64 x0, .int .i64 x1, .int .i64 x2, .int .i64 x3, .int .i64 x4, .int .i64 x5, .int .i64 x6, .int .i64 x7, .int .i64 x8, .int .i64 x9, .int .i64 x10, .int .i64 x11, .int .i64 x12, .int .i64 x13, .int .i64 x14, .int .i64 x15, .int .i64 x16, .int .i64 x17, .int .i64 x18, .int .i64 x19, .int .i64 x20] hb rfl hi (show 0 + 21 ≤ 21 from by decide) (fun q hq => by simp only [List.mem_cons, List.not_mem_nil, or_false] at hq; rcases hq with rfl | rfl | rfl | rfl | rfl | rfl | rfl | rfl | rfl | rfl | rfl | rfl | rfl | rfl | rfl | rfl | rfl | rfl | rfl | rfl | rfl <;> rfl)
  unfold execOp
  simp only [ho, hp, hx, Sem.run_bind, Sem.run_pure, Result.andThen_ok, hr]
  rfl
theorem gateS94 {P : Program} {ops : Array Oper} {rest : List Oper} {o : Oper} {a : Act} {Q : Exit → Act → World → Prop} {W : World} {p x : Operand} (_ho : o.op = .store 94 p x) (h : wpList P ops Q (o :: rest) a W) : wpList P ops Q (o :: rest) a W := h
theorem storeP94 {ops : Array Oper} {rest : List Oper} {o : Oper} {a : Act} {Q : Exit → Act → World → Prop} {W : World} {p x : Operand} {g : Nat} {t : TypeId} {x0 x1 x2 x3 x4 x5 x6 x7 x8 x9 x10 x11 x12 x13 x14 x15 x16 x17 x18 x19 x20 : Int} {v0 v1 v2 v3 v4 v5 v6 v7 v8 v9 v10 v11 v12 v13 v14 v15 v16 v17 v18 v19 v20 : Value} (hgd : o.guard = none) (hN : o.dst = none) (ho : o.op = .store 94 p x) (hp : a.eval p = .pointer (some ⟨g, 0, none⟩)) (hx : a.eval x = .agg #[.int .i64 x0, .int .i64 x1, .int .i64 x2, .int .i64 x3, .int .i64 x4, .int .i64 x5, .int .i64 x6, .int .i64 x7, .int .i64 x8, .int .i64 x9, .int .i64 x10, .int .i64 x11, .int .i64 x12, .int .i64 x13, .int .i64 x14, .int .i64 x15, .int .i64 x16, .int .i64 x17, .int .i64 x18, .int .i64 x19, .int .i64 x20]) (hb : W.heap[g]? = some (.cells #[v0, v1, v2, v3, v4, v5, v6, v7, v8, v9, v10, v11, v12, v13, v14, v15, v16, v17, v18, v19, v20] t (0, 0))) (h : wpList Try.prog ops Q rest a (((((((((((((((((((((W.setCell ⟨g, 0, none⟩ (.int .i64 x0)).setCell ⟨g, 1, none⟩ (.int .i64 x1)).setCell ⟨g, 2, none⟩ (.int .i64 x2)).setCell ⟨g, 3, none⟩ (.int .i64 x3)).setCell ⟨g, 4, none⟩ (.int .i64 x4)).setCell ⟨g, 5, none⟩ (.int .i64 x5)).setCell ⟨g, 6, none⟩ (.int .i64 x6)).setCell ⟨g, 7, none⟩ (.int .i64 x7)).setCell ⟨g, 8, none⟩ (.int .i64 x8)).setCell ⟨g, 9, none⟩ (.int .i64 x9)).setCell ⟨g, 10, none⟩ (.int .i64 x10)).setCell ⟨g, 11, none⟩ (.int .i64 x11)).setCell ⟨g, 12, none⟩ (.int .i64 x12)).setCell ⟨g, 13, none⟩ (.int .i64 x13)).setCell ⟨g, 14, none⟩ (.int .i64 x14)).setCell ⟨g, 15, none⟩ (.int .i64 x15)).setCell ⟨g, 16, none⟩ (.int .i64 x16)).setCell ⟨g, 17, none⟩ (.int .i64 x17)).setCell ⟨g, 18, none⟩ (.int .i64 x18)).setCell ⟨g, 19, none⟩ (.int .i64 x19)).setCell ⟨g, 20, none⟩ (.int .i64 x20))) : wpList Try.prog ops Q (o :: rest) a W := by
  refine wpList_plain hgd fun K hK => ?_
  unfold Oper.wp
  rw [storeE94 ho hp hx hb]
  refine hK _ _ ?_
  rw [hN]
  exact h

end Go.Proofs.Ytmekmkhdhakohaa.PFnExactPolicyWorth
